/- It is proved here that the law FnDiffThen of the given program holds whatever it is handed: the walks through the code, the plain laws and the row, in this order.
   Conditions: none. -/
import Derived.Below
import Derived.ChangeArms
import Derived.ChangeOld
import Derived.ChangeSlices
import Derived.ChangeVars
import Derived.DataReads
import Derived.Deep.MidRow
import Derived.Deep.Quiet
import Derived.Deep.RegionLaw
import Derived.Deep.Upon
import Derived.KernelRfl
import Derived.LaidHandle
import Derived.LaidLaws
import Derived.LaidMore
import Derived.Laws.Build
import Derived.Laws.IdiomStrings
import Derived.Laws.OwnMore
import Derived.Laws.Slices
import Derived.Laws.Strings2
import Derived.Laws.StructEq
import Derived.Lib.ItoaNum
import Derived.Lib.LaidTab
import Derived.Lib.SliceRun
import Derived.MakeChecks
import Derived.OpenShut
import Derived.OpenVars
import Derived.ProofKit
import Derived.SevenTiedAt
import Derived.Shelf.LaysM
import Derived.Shelf.SlSortCmp.NoneTotal
import Derived.Shelf.SlSortCmp.WholeK
import Derived.Shelf.Slices.Cells
import Derived.Shelf.Slices.CompactS
import Derived.Shelf.Slices.In.SortNone
import Derived.Shelf.Small.Bits
import Derived.Shelf.Sort.Plain
import Derived.Shelf.Strconv.Itoa0
import Derived.Shelf.Strconv.Itoa1
import Derived.Shelf.Strconv.Itoa2
import Derived.Shelf.Strconv.Itoa3
import Derived.ShutString
import Derived.SizedLaws
import Derived.StillTail
import Derived.Stop.Joined
import Derived.Test.YtlaaehjcooonfaaGreatDoorCards
import Derived.Test.YtlaaehjcooonfaaGreatDoorProg
import Derived.Test.YtlaaehjcooonfaaGreatDoorRows
import Derived.Test.YtlaaehjcooonfaaGreatDoorTie
import Derived.WalkKit
import Derived.Test.YtlaaehjcooonfaaGreatDoorCDiffThena
import Derived.Test.YtlaaehjcooonfaaGreatDoorCDiffThenb
import Derived.Test.YtlaaehjcooonfaaGreatDoorCDiffThenc
import Derived.Test.YtlaaehjcooonfaaGreatDoorCDiffThend
namespace Go.Proofs.YtlaaehjcooonfaaGreatDoor
set_option linter.unusedVariables false
set_option linter.unusedSimpArgs false
set_option linter.unusedSectionVars false
set_option maxHeartbeats 8000000
set_option maxRecDepth 100000
open Go.RowKit
variable {O : Ob} {w0 : World}
def PutT (s : List Tag) (key val : Str) (u : Nat) (xs : List Tag) (done : Bool) : Prop :=
 u ≤ s.length ∧ SS (keysT xs) ∧ (∀ x, x ∈ keysT xs ↔ x ∈ keysT (s.take u) ∨ (done = true ∧ x = key)) ∧ (done = false → (∀ x ∈ keysT (s.take u), Op.bytesLess x key = true) ∧ xs = s.take u) ∧
  (done = true → ∀ y ∈ keysT (s.drop u), Op.bytesLess key y = true) ∧ xs.length ≤ u + 1 ∧ (∀ z ∈ xs, z ∈ s ∨ z = ⟨key, val⟩)
theorem ss_snocT {l : List Str} {x : Str} (h : SS l) (hx : ∀ y ∈ l, Op.bytesLess y x = true) : SS (l ++ [x]) := by
 unfold SS
 rw [List.pairwise_append]
 exact ⟨h, List.pairwise_singleton _ _, fun a ha b hb => by rw [List.mem_singleton.1 hb]; exact hx a ha⟩
theorem keys_take {s : List Tag} {u : Nat} (hu : u < s.length) : keysT (s.take (u + 1)) = keysT (s.take u) ++ [(nth s (u : Int)).Key] := by rw [take_nth s hu, keys_app]; rfl
theorem keys_cut (s : List Tag) (u : Nat) : keysT s = keysT (s.take u) ++ keysT (s.drop u) := by rw [← keys_app, List.take_append_drop]
theorem dropNthT {s : List Tag} {u : Nat} (hu : u < s.length) : s.drop u = nth s (u : Int) :: s.drop (u + 1) := by rw [nth_nat s hu]; exact List.drop_eq_getElem_cons hu
theorem ss_ltT {s : List Tag} (h : SS (keysT s)) {u : Nat} (hu : u < s.length) : (∀ x ∈ keysT (s.take u), Op.bytesLess x (nth s (u : Int)).Key = true) ∧ ∀ y ∈ keysT (s.drop (u + 1)), Op.bytesLess (nth s (u : Int)).Key y = true := by
 have e := keys_cut s u
 rw [dropNthT hu] at e
 have e2 : keysT (nth s (u : Int) :: s.drop (u + 1)) = (nth s (u : Int)).Key :: keysT (s.drop (u + 1)) := rfl
 rw [e2] at e
 rw [e] at h
 obtain ⟨h1, h2, h3⟩ := List.pairwise_append.1 h
 exact ⟨fun x hx => h3 x hx _ List.mem_cons_self, (List.pairwise_cons.1 h2).1⟩
theorem F126.law (s : List Tag) (key val : Str) (Q : List Tag → Prop) (hl : s.length ≤ 1048576) (hs : SS (keysT s)) (hq : ∀ r, SS (keysT r) → (∀ x, x ∈ keysT r ↔ x ∈ keysT s ∨ x = key) → r.length ≤ s.length + 1 → (∀ z ∈ r, z ∈ s ∨ z = ⟨key, val⟩) → Q r) : F126.E s key val Q := by
 unfold F126.E
 refine ⟨fun xs done i => ∃ u : Nat, i = u ∧ PutT s key val u xs done, fun _ _ i => (s.length - i).toNat, ⟨0, rfl, Nat.zero_le _, by simp [keysT, SS], by simp [keysT], fun _ => ⟨by simp [keysT], by simp⟩, (fun h => by cases h), by simp, by simp⟩, ?_⟩
 rintro xs done _ ⟨u, rfl, hu, h1, h2, h3, h4, h5, h6⟩
 by_cases h : u < s.length
 ·rw [if_pos (by simpa using h)]
  obtain ⟨b1, b2⟩ := ss_ltT hs h
  have hin : nth s (u : Int) ∈ s := nth_mem s h
  have hdr : ∀ y ∈ keysT (s.drop u), y = (nth s (u : Int)).Key ∨ y ∈ keysT (s.drop (u + 1)) := fun y hy => by rw [dropNthT h] at hy; exact List.mem_cons.1 hy
  have hcur : (nth s (u : Int)).Key ∈ keysT (s.drop u) := by rw [dropNthT h]; exact List.mem_cons_self
  have hdr' : ∀ y ∈ keysT (s.drop (u + 1)), y ∈ keysT (s.drop u) := fun y hy => by rw [dropNthT h]; exact List.mem_cons_of_mem _ hy
  have stay : ∀ d, d = done → Op.bytesLess (nth s (u : Int)).Key key = true ∨ d = true → xs.length + 1 ≤ u + 1 + 1 → PutT s key val (u + 1) (xs ++ [nth s (u : Int)]) d := fun d hd hor hlen => by
   subst hd
   refine ⟨h, ?_, fun x => ?_, fun hdn => ⟨fun x hx => ?_, ?_⟩, fun hdn y hy => h4 hdn y (hdr' y hy), by simp only [List.length_append, List.length_singleton]; omega, fun z hz => ?_⟩
   ·rw [keys_app]
    refine ss_snocT h1 fun y hy => ?_
    rcases (h2 y).1 hy with hy | ⟨hd, rfl⟩
    ·exact b1 y hy
    ·exact h4 hd _ hcur
   ·rw [keys_app, List.mem_append, h2, keys_take h, List.mem_append]
    constructor
    ·rintro ((hx | hx) | hx)
     ·exact .inl (.inl hx)
     ·exact .inr hx
     ·exact .inl (.inr hx)
    ·rintro ((hx | hx) | hx)
     ·exact .inl (.inl hx)
     ·exact .inr hx
     ·exact .inl (.inr hx)
   ·rw [keys_take h] at hx
    rcases List.mem_append.1 hx with hx | hx
    ·exact (h3 hdn).1 x hx
    ·rw [List.mem_singleton.1 hx]
     rcases hor with hor | hor
     ·exact hor
     ·rw [hdn] at hor; cases hor
   ·rw [(h3 hdn).2, ← take_nth s h]
   ·rcases List.mem_append.1 hz with hz | hz
    ·exact h6 z hz
    ·rw [List.mem_singleton.1 hz]; exact .inl hin
  cases done with
  | true =>
   rw [if_neg RD]
   have hlt := h4 rfl _ hcur
   have hne : (nth s (u : Int)).Key ≠ key := fun e => by rw [e, less_irr] at hlt; cases hlt
   refine ⟨OM, ?_⟩
   rw [if_pos (by rw [bne_iff_ne]; exact hne)]
   exact ⟨OM, by simp only [List.length_cons, List.length_nil]; omega, OM, ⟨u + 1, OM, stay true rfl (.inr rfl) OM⟩, by dsimp only; omega⟩
  | false =>
   rw [if_pos RD]
   obtain ⟨c1, c2⟩ := h3 rfl
   have hxl : xs.length = u := by rw [c2, List.length_take]; omega
   refine ⟨OM, ?_⟩
   cases k : Op.bytesLess (nth s (u : Int)).Key key with
   | true =>
    rw [if_neg RD]
    have hne : (nth s (u : Int)).Key ≠ key := fun e => by rw [e, less_irr] at k; cases k
    refine ⟨OM, ?_⟩
    rw [if_pos (by rw [bne_iff_ne]; exact hne)]
    exact ⟨OM, by simp only [List.length_cons, List.length_nil]; omega, OM, ⟨u + 1, OM, stay false rfl (.inl k) OM⟩, by dsimp only; omega⟩
   | false =>
    rw [if_pos RD]
    have g1 : SS (keysT (xs ++ [(⟨key, val⟩ : Tag)])) := by
     rw [keys_app]
     refine ss_snocT h1 fun y hy => ?_
     rcases (h2 y).1 hy with hy | ⟨hd, _⟩
     ·exact c1 y hy
     ·cases hd
    refine ⟨by simp only [List.length_cons, List.length_nil]; omega, OM, ?_⟩
    by_cases hne : (nth s (u : Int)).Key = key
    ·rw [if_neg (by rw [hne]; simp)]
     refine ⟨OM, ⟨u + 1, OM, h, g1, fun x => ?_, (fun hd => by cases hd), fun _ y hy => by rw [← hne]; exact b2 y hy, by simp only [List.length_append, List.length_singleton]; omega, fun z hz => ?_⟩, by dsimp only; omega⟩
     ·rw [keys_app, List.mem_append, h2, keys_take h, List.mem_append, hne]
      show _ ∨ x ∈ [key] ↔ _
      rw [List.mem_singleton]
      constructor
      ·rintro ((hx | ⟨hd, _⟩) | hx)
       ·exact .inl (.inl hx)
       ·cases hd
       ·exact .inr ⟨rfl, hx⟩
      ·rintro ((hx | hx) | ⟨_, hx⟩)
       ·exact .inl (.inl hx)
       ·exact .inr hx
       ·exact .inr hx
     ·rcases List.mem_append.1 hz with hz | hz
      ·exact h6 z hz
      ·exact .inr (List.mem_singleton.1 hz)
    ·rw [if_pos (by rw [bne_iff_ne]; exact hne)]
     have hlt : Op.bytesLess key (nth s (u : Int)).Key = true := by
      rcases less_or k with g | g
      ·exact g
      ·exact absurd g.symm hne
     refine ⟨OM, by simp only [List.length_append, List.length_cons, List.length_nil]; omega, OM, ⟨u + 1, OM, h, ?_, fun x => ?_, (fun hd => by cases hd), fun _ y hy => less_trans hlt (b2 y hy), by simp only [List.length_append, List.length_singleton]; omega, fun z hz => ?_⟩, by dsimp only; omega⟩
     ·rw [keys_app]
      refine ss_snocT g1 fun y hy => ?_
      rw [keys_app] at hy
      rcases List.mem_append.1 hy with hy | hy
      ·rcases (h2 y).1 hy with hy | ⟨hd, _⟩
       ·exact b1 y hy
       ·cases hd
      ·have hy : y = key := List.mem_singleton.1 hy
       rw [hy]; exact hlt
     ·rw [keys_app, keys_app, List.mem_append, List.mem_append, h2, keys_take h, List.mem_append]
      show (_ ∨ x ∈ [key]) ∨ x ∈ [(nth s (u : Int)).Key] ↔ _
      rw [List.mem_singleton, List.mem_singleton]
      constructor
      ·rintro (((hx | ⟨hd, _⟩) | hx) | hx)
       ·exact .inl (.inl hx)
       ·cases hd
       ·exact .inr ⟨rfl, hx⟩
       ·exact .inl (.inr hx)
      ·rintro ((hx | hx) | ⟨_, hx⟩)
       ·exact .inl (.inl (.inl hx))
       ·exact .inr hx
       ·exact .inl (.inr hx)
     ·rcases List.mem_append.1 hz with hz | hz
      ·rcases List.mem_append.1 hz with hz | hz
       ·exact h6 z hz
       ·exact .inr (List.mem_singleton.1 hz)
      ·rw [List.mem_singleton.1 hz]; exact .inl hin
 ·rw [if_neg (by simpa using h)]
  have : u = s.length := by omega
  subst this
  rw [List.take_length] at h2 h3
  cases done with
  | true =>
   rw [if_neg RD]
   exact hq xs h1 (fun x => by rw [h2]; simp) h5 h6
  | false =>
   rw [if_pos RD]
   obtain ⟨c1, c2⟩ := h3 rfl
   refine ⟨by simp only [List.length_cons, List.length_nil]; omega, hq _ ?_ (fun x => ?_) (by rw [c2]; simp) fun z hz => ?_⟩
   ·rw [keys_app]
    refine ss_snocT h1 fun y hy => ?_
    rcases (h2 y).1 hy with hy | ⟨hd, _⟩
    ·exact c1 y hy
    ·cases hd
   ·rw [keys_app, List.mem_append, h2]
    show _ ∨ x ∈ [key] ↔ _
    rw [List.mem_singleton]; simp
   ·rcases List.mem_append.1 hz with hz | hz
    ·exact h6 z hz
    ·exact .inr (List.mem_singleton.1 hz)
theorem keys_drawn {s : List Tag} {k v : Str} (hk : k ∈ keyL) (hv : v ∈ valL) (h : ∀ x ∈ s, DT x) {r : List Tag} (hr : ∀ z ∈ r, z ∈ s ∨ z = ⟨k, v⟩) : ∀ x ∈ r, DT x := fun x hx => by
 rcases hr x hx with g | rfl
 ·exact h x g
 ·exact ⟨hk, hv⟩
theorem F80.law (b : List UInt8) (p : Int) (id : Str) (Q : Feat → Int → Prop) (hb : b.length ≤ 2000) (hp : 0 ≤ p) (hp1 : p ≤ 10000000) (hq : ∀ s t p', shapeOk s = true → SS (keysT t) → t.length ≤ 3 → (∀ x ∈ t, DT x) → (∀ q ∈ s.Pts, NX q) → p ≤ p' → p' ≤ p + 60 → Q ⟨id, s, t⟩ p') : F80.E b p id Q := by
 unfold F80.E
 refine F69.law _ _ _ hb hp OM fun s p1 hs hx p0 p2 => F22.law _ _ _ _ hb OM OM fun k hk0 hk1 => ?_
 refine ⟨fun i t z => 0 ≤ i ∧ i ≤ 3 ∧ SS (keysT t) ∧ (t.length : Int) + i ≤ 3 ∧ (∀ x ∈ t, DT x) ∧ p ≤ z ∧ z ≤ p + 41 + 2 * (3 - i), fun i _ _ => i.toNat, ⟨OM, OM, List.Pairwise.nil, by simp only [List.length_nil]; omega, by simp, OM, OM⟩, ?_⟩
 rintro i t z ⟨h0, h1, h2, h3, h4, h5, h6⟩
 by_cases hi : i > 0
 case neg => rw [if_neg (by simpa using hi)]; exact hq _ _ _ hs h2 OM h4 hx h5 OM
 rw [if_pos (by simpa using hi)]
 refine F124.law _ _ _ hb OM OM fun key hkey => F125.law _ _ _ hb OM OM fun val hval => F126.law _ _ _ _ OM h2 fun r r1 r2 r3 r4 => ⟨by unfold I64; omega, ⟨OM, OM, r1, OM, keys_drawn hkey hval h4 r4, OM, OM⟩, by dsimp only; omega⟩
theorem feat_drawn {id : Str} {s : Shape} {t : List Tag} (h1 : wordOk id = true) (h2 : shapeOk s = true) (h3 : SS (keysT t)) (h4 : t.length ≤ 3) (h5 : ∀ x ∈ t, DT x) : featOk ⟨id, s, t⟩ = true := feat_of h1 h2 h3 OM fun x hx => (h5 x hx).ok
theorem F137.law (b : List UInt8) (p : Int) (Q : Str → Int → Prop) (hb : b.length ≤ 2000) (hp : 0 ≤ p) (hp1 : p ≤ 1000000000) (hq : ∀ k ∈ idL, Q k (p + 1)) : F137.E b p Q := by
 unfold F137.E
 exact F44.law _ _ _ _ hb hp OM RD hq
theorem F70.gen (P : Str → Prop) (hP : ∀ k ∈ idL, P k) (b : List UInt8) (p : Int) (Q : List Feat → Int → Prop) (hb : b.length ≤ 2000) (hp : 0 ≤ p) (hp1 : p ≤ 1000000) (hq : ∀ s p', sheetOk s = true → s.length ≤ 4 → (∀ f ∈ s, P f.Id) → (∀ f ∈ s, ∀ q ∈ f.Shape.Pts, NX q) → p ≤ p' → p' ≤ p + 300 → Q s p') : F70.E b p Q := by
 unfold F70.E
 refine F22.law _ _ _ _ hb hp OM fun k hk0 hk1 => ?_
 refine ⟨fun s i z => 0 ≤ i ∧ i ≤ 4 ∧ SS (ids s) ∧ (s.length : Int) + i ≤ 4 ∧ (∀ f ∈ s, featOk f = true ∧ P f.Id ∧ ∀ q ∈ f.Shape.Pts, NX q) ∧ p ≤ z ∧ z ≤ p + 1 + 61 * (4 - i), fun _ i _ => i.toNat, ⟨OM, OM, List.Pairwise.nil, by simp only [List.length_nil]; omega, by simp, OM, OM⟩, ?_⟩
 rintro s i z ⟨h0, h1, h2, h3, h4, h5, h6⟩
 by_cases hi : i > 0
 case neg => rw [if_neg (by simpa using hi)]; exact hq _ _ (sheet_of h2 OM fun f hf => (h4 f hf).1) OM (fun f hf => (h4 f hf).2.1) (fun f hf => (h4 f hf).2.2) h5 OM
 rw [if_pos (by simpa using hi)]
 refine F137.law _ _ _ hb OM OM fun id hid => F80.law _ _ _ _ hb OM OM fun sh t p1 hs ht tl td hx p2 p3 => F127.law _ _ _ OM h2 fun r r1 r2 r3 r4 => ⟨by unfold I64; omega, ⟨OM, OM, r1, OM, fun f hf => ?_, OM, OM⟩, by dsimp only; omega⟩
 rcases r4 f hf with g | rfl
 ·exact h4 f g
 ·exact ⟨feat_drawn (idL_ok _ hid) hs ht tl td, hP _ hid, hx⟩
theorem F70.law (b : List UInt8) (p : Int) (Q : List Feat → Int → Prop) (hb : b.length ≤ 2000) (hp : 0 ≤ p) (hp1 : p ≤ 1000000) (hq : ∀ s p', sheetOk s = true → s.length ≤ 4 → (∀ f ∈ s, f.Id ≠ zzI) → (∀ f ∈ s, ∀ q ∈ f.Shape.Pts, NX q) → p ≤ p' → p' ≤ p + 300 → Q s p') : F70.E b p Q :=
 F70.gen (fun i => i ≠ zzI) idL_nz b p Q hb hp hp1 hq
theorem F81.law (s : List Feat) (id : Str) (Q : Int → Prop) (hq : Q (findN s.length fun j => (nth s (j : Int)).Id == id)) : F81.E s id Q := by
 unfold F81.E
 refine loop_find s.length (fun j => (nth s (j : Int)).Id == id) hq (fun I mu k hk h1 h2 => ⟨OM, ?_⟩)
 cases h : (nth s (k : Int)).Id == id with
 | true => rw [if_pos rfl]; exact h1 h
 | false => rw [if_neg RD]; obtain ⟨i1, i2⟩ := h2 h; exact ⟨OM, i1, i2⟩
theorem F128.law (s : List Feat) (id : Str) (Q : List Feat → Prop) (hl : s.length ≤ 1048576) (hq : Q (s.filter fun f => decide (f.Id ≠ id))) : F128.E s id Q := by
 unfold F128.E
 refine ⟨fun xs i => ∃ u : Nat, i = u ∧ u ≤ s.length ∧ xs = (s.take u).filter fun f => decide (f.Id ≠ id), fun _ i => (s.length - i).toNat, ⟨0, rfl, Nat.zero_le _, rfl⟩, ?_⟩
 rintro _ _ ⟨u, rfl, hu, rfl⟩
 have hfl := List.length_filter_le (fun f : Feat => decide (f.Id ≠ id)) (s.take u)
 rw [List.length_take] at hfl
 by_cases h : u < s.length
 ·rw [if_pos (by simpa using h)]
  refine ⟨OM, ?_⟩
  by_cases e : (nth s (u : Int)).Id = id
  ·rw [if_neg (by rw [e]; simp)]
   refine ⟨OM, ⟨u + 1, OM, OM, ?_⟩, by dsimp only; omega⟩
   rw [take_nth s h, List.filter_append, List.filter_cons_of_neg (by rw [decide_eq_true_eq]; exact fun g => g e), List.filter_nil, List.append_nil]
  ·rw [if_pos (by rw [bne_iff_ne]; exact e)]
   refine ⟨OM, by simp only [List.length_cons, List.length_nil]; omega, OM, ⟨u + 1, OM, OM, ?_⟩, by dsimp only; omega⟩
   rw [take_nth s h, List.filter_append, List.filter_cons_of_pos (by rw [decide_eq_true_eq]; exact e), List.filter_nil]
 ·rw [if_neg (by simpa using h)]
  have : u = s.length := by omega
  subst this
  rw [List.take_length]; exact hq
theorem F84.law (b : List UInt8) (p : Int) (s : Shape) (Q : Shape → Int → Prop) (hb : b.length ≤ 2000) (hp : 0 ≤ p) (hp1 : p ≤ 10000000) (hs : s.Pts.length ≤ 1000) (hq : ∀ r p', (r = s ∨ shapeOk r = true) → p ≤ p' → p' ≤ p + 4 → Q r p') : F84.E b p s Q := by
 unfold F84.E
 by_cases h0 : (s.Pts.length : Int) = 0
 ·rw [if_pos (by simpa using h0)]; exact hq _ _ (.inl rfl) OM OM
 rw [if_neg (by simpa using h0)]
 refine F22.law _ _ _ _ hb hp OM fun k hk0 hk1 => ⟨OM, by simp only [List.length_take, List.length_drop, List.length_nil]; omega, F22.law _ _ _ _ hb OM OM fun v hv0 hv1 => ?_⟩
 have fin : ∀ (r : Shape) (z : Int), p ≤ z → z ≤ p + 4 → F68.E r (fun r5 => (if !r5 then Q s z else Q r z)) := fun r z h1 h2 => by
  refine F68.law _ _ ?_
  cases h : shapeOk r with
  | true => rw [if_neg RD]; exact hq _ _ (.inr h) h1 h2
  | false => rw [if_pos RD]; exact hq _ _ (.inl rfl) h1 h2
 refine ⟨fun _ z => p ≤ z ∧ z ≤ p + 4, ?_, fun xs z hz => fin _ _ hz.1 hz.2⟩
 split
 ·exact ⟨OM, F138.law _ _ _ hb OM OM fun x y _ _ _ _ => ⟨by simp only [List.length_append, List.length_take, List.length_drop, List.length_nil, List.length_cons]; omega, by simp only [List.length_append, List.length_take, List.length_drop, List.length_nil, List.length_cons]; omega, OM, OM⟩⟩
 split
 ·exact ⟨fun _ => by unfold I64; omega, OM, by simp only [List.length_append, List.length_take, List.length_drop, List.length_nil, List.length_cons]; omega, OM, OM⟩
 exact ⟨fun _ => by unfold I64; omega, OM, F138.law _ _ _ hb OM OM fun x y _ _ _ _ => ⟨by simp only [List.length_append, List.length_take, List.length_drop, List.length_nil, List.length_cons]; omega, by simp only [List.length_append, List.length_take, List.length_drop, List.length_nil, List.length_cons]; omega, OM, OM⟩⟩
theorem F83.law (f : Feat) (Q : Feat → Prop) (hb : bulk f ≤ 1048576) (hq : Q f) : F83.E f Q := by
 unfold F83.E F82.E
 have h := bulk_feat f
 have h1 := bulk_len f.Tags
 have h2 := bulk_len f.Shape.Pts
 exact ⟨by simp only [List.length_nil]; omega, by simp only [List.length_nil]; omega, hq⟩
theorem F85.law (s : Str) (Q : Bool → Prop) (hq : Q (wordOk s)) : F85.E s Q := by
 unfold F85.E
 unfold wordOk at hq
 refine loop_all s.length (fun k => byteOk (nth s (k : Int))) (fun I mu k hk hp hn => ?_) (fun ha => ?_)
 ·refine ⟨OM, ?_⟩
  cases h1 : decide (((nth s (k : Int)).toNat : Int) < 97) with
  | true => rw [if_pos rfl]; rw [allN_false hk (by simp only [byteOk, h1]; rfl), Bool.false_and] at hq; exact hq
  | false =>
   rw [if_neg RD]
   refine ⟨OM, ?_⟩
   cases h2 : decide (((nth s (k : Int)).toNat : Int) > 122) with
   | true => rw [if_pos rfl]; rw [allN_false hk (by simp only [byteOk, h1, h2]; rfl), Bool.false_and] at hq; exact hq
   | false =>
    rw [if_neg RD]
    obtain ⟨i1, i2⟩ := hn (by simp only [byteOk, h1, h2]; rfl)
    exact ⟨OM, i1, i2⟩
 ·rw [allN_true ha, Bool.true_and] at hq
  by_cases h : 1 ≤ s.length
  ·rw [decide_eq_true h, Bool.true_and] at hq
   rw [if_pos (by rw [decide_eq_true_eq]; omega)]
   have e2 : decide ((s.length : Int) ≤ 6) = decide (s.length ≤ 6) := decide_eq_decide.2 OM
   rw [e2]; exact hq
  ·rw [decide_eq_false h, Bool.false_and] at hq
   rw [if_neg (by rw [decide_eq_true_eq]; omega)]; exact hq
theorem F86.law (t : List Tag) (Q : Bool → Prop) (hq : Q (tagsOk t && decide (t.length ≤ 4))) : F86.E t Q := by
 unfold F86.E
 unfold tagsOk at hq
 refine loop_all t.length (fun k => wordOk (nth t (k : Int)).Key && wordOk (nth t (k : Int)).Val && (decide (k = 0) || Op.bytesLess (nth t ((k : Int) - 1)).Key (nth t (k : Int)).Key)) (fun I mu k hk hp hn => ?_) (fun ha => ?_)
 ·have bad : (wordOk (nth t (k : Int)).Key && wordOk (nth t (k : Int)).Val && (decide (k = 0) || Op.bytesLess (nth t ((k : Int) - 1)).Key (nth t (k : Int)).Key)) = false → Q false := fun h => by
   rw [allN_false hk h, Bool.false_and] at hq; exact hq
  refine ⟨OM, _, F85.law _ _ rfl, ?_⟩
  cases h1 : wordOk (nth t (k : Int)).Key with
  | false => rw [if_pos RD]; exact bad (by rw [h1]; rfl)
  | true =>
   rw [if_neg RD]
   refine ⟨OM, _, F85.law _ _ rfl, ?_⟩
   cases h2 : wordOk (nth t (k : Int)).Val with
   | false => rw [if_pos RD]; exact bad (by rw [h2, Bool.and_false]; rfl)
   | true =>
    rw [if_neg RD]
    by_cases hk0 : k = 0
    ·rw [if_neg (by rw [decide_eq_true_eq]; omega)]
     obtain ⟨i1, i2⟩ := hn (by rw [h1, h2, decide_eq_true hk0]; rfl)
     exact ⟨OM, i1, i2⟩
    ·rw [if_pos (by rw [decide_eq_true_eq]; omega)]
     refine ⟨OM, fun _ => by unfold I64; omega, OM, ?_⟩
     rw [← less_tri]
     cases h3 : Op.bytesLess (nth t ((k : Int) - 1)).Key (nth t (k : Int)).Key with
     | false => rw [if_pos RD]; exact bad (by rw [h3, h1, h2, decide_eq_false hk0]; rfl)
     | true =>
      rw [if_neg RD]
      obtain ⟨i1, i2⟩ := hn (by rw [h3, h1, h2, decide_eq_false hk0]; rfl)
      exact ⟨OM, i1, i2⟩
 ·rw [allN_true ha, Bool.true_and] at hq
  have e2 : decide ((t.length : Int) ≤ 4) = decide (t.length ≤ 4) := decide_eq_decide.2 OM
  rw [e2]; exact hq
theorem F87.law (f : Feat) (Q : Bool → Prop) (hq : Q (featOk f)) : F87.E f Q := by
 unfold F87.E
 unfold featOk at hq
 refine F85.law _ _ ?_
 cases h1 : wordOk f.Id with
 | false => rw [h1, Bool.and_false, Bool.false_and] at hq; rw [if_neg RD]; exact hq
 | true =>
  rw [h1, Bool.and_true] at hq
  rw [if_pos rfl]
  refine F68.law _ _ ?_
  cases h2 : shapeOk f.Shape with
  | false => rw [h2, Bool.and_false] at hq; rw [if_neg RD]; exact hq
  | true => rw [h2, Bool.and_true] at hq; rw [if_pos rfl]; exact F86.law _ _ hq
theorem F71.law (d : List Feat) (Q : Bool → Prop) (hq : Q (sheetOk d)) : F71.E d Q := by
 unfold F71.E
 unfold sheetOk at hq
 refine loop_all d.length (fun k => featOk (nth d (k : Int)) && (decide (k = 0) || Op.bytesLess (nth d ((k : Int) - 1)).Id (nth d (k : Int)).Id)) (fun I mu k hk hp hn => ?_) (fun ha => ?_)
 ·have bad : (featOk (nth d (k : Int)) && (decide (k = 0) || Op.bytesLess (nth d ((k : Int) - 1)).Id (nth d (k : Int)).Id)) = false → Q false := fun h => by
   rw [allN_false hk h, Bool.false_and] at hq; exact hq
  refine ⟨OM, _, F87.law _ _ rfl, ?_⟩
  cases h1 : featOk (nth d (k : Int)) with
  | false => rw [if_pos RD]; exact bad (by rw [h1]; rfl)
  | true =>
   rw [if_neg RD]
   by_cases hk0 : k = 0
   ·rw [if_neg (by rw [decide_eq_true_eq]; omega)]
    obtain ⟨i1, i2⟩ := hn (by rw [h1, decide_eq_true hk0]; rfl)
    exact ⟨OM, i1, i2⟩
   ·rw [if_pos (by rw [decide_eq_true_eq]; omega)]
    refine ⟨OM, fun _ => by unfold I64; omega, OM, ?_⟩
    rw [← less_tri]
    cases h3 : Op.bytesLess (nth d ((k : Int) - 1)).Id (nth d (k : Int)).Id with
    | false => rw [if_pos RD]; exact bad (by rw [h3, h1, decide_eq_false hk0]; rfl)
    | true =>
     rw [if_neg RD]
     obtain ⟨i1, i2⟩ := hn (by rw [h3, h1, decide_eq_false hk0]; rfl)
     exact ⟨OM, i1, i2⟩
 ·rw [allN_true ha, Bool.true_and] at hq
  have e2 : decide ((d.length : Int) ≤ 8) = decide (d.length ≤ 8) := decide_eq_decide.2 OM
  rw [e2]; exact hq
theorem FB.put {n : Nat} {f : Feat} (h : FB n f) {k v : Str} (hk : k ∈ keyL) (hv : v ∈ valL) {r : List Tag} (hl : r.length ≤ f.Tags.length + 1) (hr : ∀ z ∈ r, z ∈ f.Tags ∨ z = ⟨k, v⟩) : FB (n + 1) ⟨f.Id, f.Shape, r⟩ := ⟨h.id, h.pts, Nat.le_trans hl (Nat.succ_le_succ h.len), fun x hx => by
 rcases hr x hx with g | rfl
 ·exact h.wd x g
 ·exact DT.len ⟨hk, hv⟩⟩
theorem F88.gen (P : Str → Prop) (hP : ∀ k ∈ idL, P k) (b : List UInt8) (p : Int) (s : List Feat) (Q : List Feat → Int → Prop) (hb : b.length ≤ 2000) (hp : 0 ≤ p) (hp1 : p ≤ 1000000) (hs : sheetOk s = true) (hz : ∀ f ∈ s, P f.Id) (hq : ∀ r p', sheetOk r = true → (∀ f ∈ r, P f.Id) → p ≤ p' → p' ≤ p + 250 → Q r p') : F88.E b p s Q := by
 unfold F88.E
 have mb := MB.of hs
 refine F22.law _ _ _ _ hb hp OM fun k hk0 hk1 => ⟨by unfold I64; omega, ?_⟩
 refine ⟨fun s i z => 0 ≤ i ∧ i ≤ 3 ∧ SS (ids s) ∧ (s.length : Int) + i ≤ 11 ∧ (∀ f ∈ s, SS (keysT f.Tags) ∧ FB (7 - i.toNat) f ∧ P f.Id) ∧ p ≤ z ∧ z ≤ p + 1 + 65 * (3 - i), fun _ i _ => i.toNat, ⟨OM, OM, (sheet_ss hs).1, by have := mb.len; omega, fun f hf => ⟨featOk_tags ((sheet_ss hs).2.2 f hf), (mb.fb f hf).mono OM, hz f hf⟩, OM, OM⟩, ?_⟩
 rintro s2 i z ⟨h0, h1, h2, h3, h4, h5, h6⟩
 by_cases hi : i > 0
 case neg =>
  rw [if_neg (by simpa using hi)]
  refine F71.law _ _ ?_
  cases h : sheetOk s2 with
  | true => rw [if_neg RD]; exact hq _ _ h (fun f hf => (h4 f hf).2.2) h5 OM
  | false => rw [if_pos RD]; exact hq _ _ hs hz h5 OM
 rw [if_pos (by simpa using hi)]
 have em : 7 - (i - 1).toNat = 7 - i.toNat + 1 := by omega
 have step : ∀ (f : Feat), SS (keysT f.Tags) → FB (7 - i.toNat + 1) f → P f.Id → ∀ r : List Feat, (∀ z ∈ r, z ∈ s2 ∨ z = f) → ∀ x ∈ r, SS (keysT x.Tags) ∧ FB (7 - (i - 1).toNat) x ∧ P x.Id := fun f a1 a2 a3 r hr x hx => by
  rw [em]
  rcases hr x hx with g | rfl
  ·have := h4 x g
   exact ⟨this.1, this.2.1.mono OM, this.2.2⟩
  ·exact ⟨a1, a2, a3⟩
 refine F137.law _ _ _ hb OM OM fun id hid => F81.law _ _ _ ?_
 have hle := findN_le s2.length fun j => (nth s2 (j : Int)).Id == id
 generalize findN s2.length (fun j => (nth s2 (j : Int)).Id == id) = at_ at *
 by_cases ha : at_ < 0
 ·rw [if_pos (by simpa using ha)]
  refine F80.law _ _ _ _ hb OM OM fun sh t p1 hsh ht tl td _ p2 p3 => F127.law _ _ _ OM h2 fun r r1 r2 r3 r4 => ⟨by unfold I64; omega, ⟨OM, OM, r1, OM, step _ ht ?_ (hP _ hid) r r4, OM, OM⟩, by dsimp only; omega⟩
  exact ((FB.of (feat_drawn (idL_ok _ hid) hsh ht tl td)).mono OM)
 rw [if_neg (by simpa using ha)]
 have hm : nth s2 at_ ∈ s2 := nth_memi s2 OM hle.2
 obtain ⟨f1, f2, f3⟩ := h4 _ hm
 have fb := f2.small
 refine F22.law _ _ _ _ hb OM OM fun v hv0 hv1 => ?_
 split
 ·refine F128.law _ _ _ OM ⟨by unfold I64; omega, ⟨OM, OM, ?_, ?_, fun x hx => ?_, OM, OM⟩, by dsimp only; omega⟩
  ·unfold SS ids at h2 ⊢
   exact List.Pairwise.sublist (List.filter_sublist.map _) h2
  ·have := List.length_filter_le (fun f : Feat => decide (f.Id ≠ id)) s2; omega
  ·have := h4 x (List.mem_filter.1 hx).1
   exact ⟨this.1, this.2.1.mono OM, this.2.2⟩
 refine F22.law _ _ _ _ hb OM OM fun w hw0 hw1 => ?_
 split
 ·refine ⟨OM, F83.law _ _ OM (F124.law _ _ _ hb OM OM fun key hkey => F125.law _ _ _ hb OM OM fun val hval => F126.law _ _ _ _ (by have := f2.len; omega) f1 fun t t1 t2 t3 t4 => F127.law _ _ _ OM h2 fun r r1 r2 r3 r4 => ⟨by unfold I64; omega, ⟨OM, OM, r1, OM, step _ t1 (f2.put hkey hval t3 t4) f3 r r4, OM, OM⟩, by dsimp only; omega⟩)⟩
 ·refine ⟨OM, F83.law _ _ OM (F84.law _ _ _ _ hb OM OM (by have := f2.pts; omega) fun sh p' hsh p1 p2 => F127.law _ _ _ OM h2 fun r r1 r2 r3 r4 => ⟨by unfold I64; omega, ⟨OM, OM, r1, OM, step ⟨(nth s2 at_).Id, sh, (nth s2 at_).Tags⟩ f1 ⟨f2.id, ?_, Nat.le_trans f2.len OM, f2.wd⟩ f3 r r4, OM, OM⟩, by dsimp only; omega⟩)⟩
  rcases hsh with rfl | hsh
  ·exact f2.pts
  ·exact Nat.le_trans (shape_pts hsh) RD
theorem F88.law (b : List UInt8) (p : Int) (s : List Feat) (Q : List Feat → Int → Prop) (hb : b.length ≤ 2000) (hp : 0 ≤ p) (hp1 : p ≤ 1000000) (hs : sheetOk s = true) (hz : ∀ f ∈ s, f.Id ≠ zzI) (hq : ∀ r p', sheetOk r = true → (∀ f ∈ r, f.Id ≠ zzI) → p ≤ p' → p' ≤ p + 250 → Q r p') : F88.E b p s Q :=
 F88.gen (fun i => i ≠ zzI) idL_nz b p s Q hb hp hp1 hs hz hq
theorem F129.law (a b : List Feat) (Q : List Str → Prop) (ha : a.length ≤ 1000) (hb : b.length ≤ 1000) (hs : SS (ids a)) (hq : Q (uniq (ids a ++ ids b))) : F129.E a b Q := by
 unfold F129.E
 refine ⟨fun s i => ∃ u : Nat, i = u ∧ u ≤ b.length ∧ SS (ids s) ∧ (∀ x, x ∈ ids s ↔ x ∈ ids a ∨ x ∈ ids (b.take u)) ∧ s.length ≤ a.length + u, fun _ i => (b.length - i).toNat, ⟨0, rfl, Nat.zero_le _, hs, by simp [ids], OM⟩, ?_⟩
 rintro s _ ⟨u, rfl, hu, h1, h2, h3⟩
 by_cases h : u < b.length
 ·rw [if_pos (by simpa using h)]
  refine ⟨OM, F127.law _ _ _ OM h1 fun r r1 r2 r3 _ => ⟨OM, ⟨u + 1, OM, OM, r1, fun x => ?_, OM⟩, by dsimp only; omega⟩⟩
  rw [r2, h2, ids_take h, List.mem_append, List.mem_singleton]
  constructor
  ·rintro ((hx | hx) | hx)
   ·exact .inl hx
   ·exact .inr (.inl hx)
   ·exact .inr (.inr hx)
  ·rintro (hx | hx | hx)
   ·exact .inl (.inl hx)
   ·exact .inl (.inr hx)
   ·exact .inr hx
 ·rw [if_neg (by simpa using h)]
  have : u = b.length := by omega
  subst this
  rw [List.take_length] at h2
  have e : ids s = uniq (ids a ++ ids b) := SS.ext h1 (uniq_ss _) fun x => by rw [h2, uniq_mem, List.mem_append]
  rw [← e] at hq
  refine ⟨fun xs i => ∃ v : Nat, i = v ∧ v ≤ s.length ∧ xs = ids (s.take v), fun _ i => (s.length - i).toNat, ⟨0, rfl, Nat.zero_le _, rfl⟩, ?_⟩
  rintro _ _ ⟨v, rfl, hv, rfl⟩
  have hil : (ids (s.take v)).length ≤ v := by unfold ids; simp; omega
  by_cases g : v < s.length
  ·rw [if_pos (by simpa using g)]
   refine ⟨OM, by simp only [List.length_cons, List.length_nil]; omega, OM, ⟨v + 1, OM, OM, ?_⟩, by dsimp only; omega⟩
   rw [ids_take g]
  ·rw [if_neg (by simpa using g)]
   have : v = s.length := by omega
   subst this
   rw [List.take_length]; exact hq
theorem F89.law (s : List Feat) (id : Str) (Q : Feat → Bool → Prop) (hb : bulk s ≤ 1048576) (hq : Q (sideOf s id).1 (sideOf s id).2) : F89.E s id Q := by
 unfold F89.E
 have hl := bulk_len s
 refine F81.law _ _ _ ?_
 have h1 := findN_le s.length fun j => (nth s (j : Int)).Id == id
 unfold sideOf at hq
 by_cases h : findN s.length (fun j => (nth s (j : Int)).Id == id) < 0
 ·rw [if_pos h] at hq; rw [if_pos (by simpa using h)]; exact hq
 ·rw [if_neg h] at hq; rw [if_neg (by simpa using h)]
  exact ⟨OM, F83.law _ _ (by have := bulk_mem (nth_memi s OM h1.2); omega) hq⟩
theorem F91.law (a b : List Tag) (Q : Bool → Prop) (hq : Q (decide (a = b))) : F91.E a b Q := by
 unfold F91.E
 exact eqS_shape eqTag eqTag_is a b Q hq
theorem F90.law (a b : List Pt) (Q : Bool → Prop) (hq : Q (decide (a = b))) : F90.E a b Q := by
 unfold F90.E
 exact eqS_shape eqPt eqPt_is a b Q hq
theorem F37.law (a b : Shape) (Q : Bool → Prop) (hq : Q (decide (a = b))) : F37.E a b Q := by
 unfold F37.E
 by_cases h : a.Kind = b.Kind
 ·rw [if_pos (by rw [beq_iff_eq]; exact h)]
  refine F90.law _ _ _ ?_
  have : decide (a.Pts = b.Pts) = decide (a = b) := decide_eq_decide.2 (by rw [Shape.ext_iff']; exact ⟨fun e => ⟨h, e⟩, fun e => e.2⟩)
  rw [this]; exact hq
 ·rw [if_neg (by rw [beq_iff_eq]; exact h)]
  rw [decide_eq_false (by rw [Shape.ext_iff']; exact fun e => h e.1)] at hq; exact hq
theorem F45.law (a b : Feat) (Q : Bool → Prop) (hq : Q (decide (a = b))) : F45.E a b Q := by
 unfold F45.E
 by_cases h : a.Id = b.Id
 ·rw [if_pos (by rw [beq_iff_eq]; exact h)]
  refine F37.law _ _ _ ?_
  by_cases h2 : a.Shape = b.Shape
  ·rw [decide_eq_true h2, if_pos rfl]
   refine F91.law _ _ _ ?_
   have : decide (a.Tags = b.Tags) = decide (a = b) := decide_eq_decide.2 (by rw [Feat.ext_iff']; exact ⟨fun e => ⟨h, h2, e⟩, fun e => e.2.2⟩)
   rw [this]; exact hq
  ·rw [decide_eq_false h2, if_neg RD]
   rw [decide_eq_false (by rw [Feat.ext_iff']; exact fun e => h2 e.2.1)] at hq; exact hq
 ·rw [if_neg (by rw [beq_iff_eq]; exact h)]
  rw [decide_eq_false (by rw [Feat.ext_iff']; exact fun e => h e.1)] at hq; exact hq
theorem sameC_t {c : Change} (h1 : c.Had = c.Has) (h2 : c.Was = c.Now) : sameC c = true := by unfold sameC; rw [decide_eq_true h1, decide_eq_true h2]; rfl
theorem sameC_f1 {c : Change} (h : ¬ c.Was = c.Now) : sameC c = false := by unfold sameC; rw [decide_eq_false h, Bool.and_false]
theorem sameC_f2 {c : Change} (h : ¬ c.Had = c.Has) : sameC c = false := by unfold sameC; rw [decide_eq_false h, Bool.false_and]
theorem F139.law (a b : List Feat) (Q : List Change → Prop) (ba : bulk a ≤ 1048576) (bb : bulk b ≤ 1048576) (ha : a.length ≤ 1000) (hb : b.length ≤ 1000) (hs : SS (ids a)) (hq : Q (diffL a b (uniq (ids a ++ ids b)))) : F139.E a b Q := by
 unfold F139.E
 refine F129.law _ _ _ ha hb hs ?_
 have l2 := uniq_len (ids a ++ ids b)
 have l3 : (ids a ++ ids b).length = a.length + b.length := by unfold ids; simp
 refine ⟨fun xs i => ∃ u : Nat, i = u ∧ u ≤ (uniq (ids a ++ ids b)).length ∧ xs = diffL a b ((uniq (ids a ++ ids b)).take u), fun _ i => ((uniq (ids a ++ ids b)).length - i).toNat, ⟨0, rfl, Nat.zero_le _, rfl⟩, ?_⟩
 rintro _ _ ⟨u, rfl, hu, rfl⟩
 by_cases h : u < (uniq (ids a ++ ids b)).length
 ·rw [if_pos (by simpa using h)]
  have hd := diffL_len a b ((uniq (ids a ++ ids b)).take u)
  rw [List.length_take] at hd
  have en := diffL_snoc a b ((uniq (ids a ++ ids b)).take u) (nth (uniq (ids a ++ ids b)) (u : Int))
  rw [← take_nth _ h] at en
  have add : sameC (diffC a b (nth (uniq (ids a ++ ids b)) (u : Int))) = false → diffL a b ((uniq (ids a ++ ids b)).take u) ++ [diffC a b (nth (uniq (ids a ++ ids b)) (u : Int))] = diffL a b ((uniq (ids a ++ ids b)).take (u + 1)) := fun k => by rw [k] at en; exact en.symm
  have old : sameC (diffC a b (nth (uniq (ids a ++ ids b)) (u : Int))) = true → diffL a b ((uniq (ids a ++ ids b)).take u) = diffL a b ((uniq (ids a ++ ids b)).take (u + 1)) := fun k => by rw [k] at en; rw [en]; simp
  refine ⟨OM, F89.law _ _ _ ba ⟨OM, F89.law _ _ _ bb ?_⟩⟩
  by_cases k1 : (sideOf a (nth (uniq (ids a ++ ids b)) (u : Int))).2 = (sideOf b (nth (uniq (ids a ++ ids b)) (u : Int))).2
  ·rw [if_neg (by rw [k1]; simp)]
   refine F45.law _ _ _ ?_
   by_cases k2 : (sideOf a (nth (uniq (ids a ++ ids b)) (u : Int))).1 = (sideOf b (nth (uniq (ids a ++ ids b)) (u : Int))).1
   ·rw [decide_eq_true k2, if_neg RD]
    exact ⟨OM, ⟨u + 1, OM, OM, old (sameC_t k1 k2)⟩, by dsimp only; omega⟩
   ·rw [decide_eq_false k2, if_pos RD]
    exact ⟨OM, by simp only [List.length_cons, List.length_nil]; omega, OM, ⟨u + 1, OM, OM, add (sameC_f1 k2)⟩, by dsimp only; omega⟩
  ·rw [if_pos (by rw [bne_iff_ne]; exact k1)]
   exact ⟨OM, by simp only [List.length_cons, List.length_nil]; omega, OM, ⟨u + 1, OM, OM, add (sameC_f2 k1)⟩, by dsimp only; omega⟩
 ·rw [if_neg (by simpa using h)]
  have : u = (uniq (ids a ++ ids b)).length := by omega
  subst this
  rw [List.take_length]; exact hq
theorem F92.law (b : List UInt8) (p : Int) (Q : Shape → Int → Prop) (hb : b.length ≤ 2000) (hp : 0 ≤ p) (hp1 : p ≤ 10000000) (hq : ∀ s p', s.Pts.length ≤ 7 → (∀ q ∈ s.Pts, NX q) → p ≤ p' → p' ≤ p + 50 → Q s p') : F92.E b p Q := by
 unfold F92.E
 refine F69.law _ _ _ hb hp OM fun s p1 hs hx p0 p2 => F22.law _ _ _ _ hb OM OM fun k hk0 hk1 => F22.law _ _ _ _ hb OM OM fun v hv0 hv1 => ?_
 have l1 := shape_pos hs
 have l2 := shape_pts hs
 split
 ·exact F36.law _ _ _ _ hb OM OM RD fun n hn => hq _ _ (by dsimp only; omega) hx OM OM
 split
 ·exact F36.law _ _ _ _ hb OM OM RD fun n hn => ⟨OM, hq _ _ (by simp only [List.length_set]; omega) (fun q hq' => by
   rcases List.mem_or_eq_of_mem_set hq' with g | rfl
   ·exact hx q g
   ·simp only [List.mem_cons, List.not_mem_nil, or_false] at hn
    exact ⟨by dsimp only; omega, by dsimp only; omega⟩) OM OM⟩
 split
 ·exact ⟨fun _ => by unfold I64; omega, OM, by simp only [List.length_cons, List.length_nil]; omega, hq _ _ (by simp only [List.length_append, List.length_cons, List.length_nil]; omega) (fun q hq' => (List.mem_append.1 hq').elim (hx q) fun g => by rw [List.mem_singleton.1 g]; exact hx _ (nth_memi _ OM OM)) OM OM⟩
 split
 ·exact ⟨OM, hq _ _ (by simp only [List.length_take, List.length_drop]; omega) (fun q hq' => hx q (List.mem_of_mem_drop (List.mem_of_mem_take hq'))) OM OM⟩
 exact hq _ _ OM hx OM OM
theorem F93.law (b : List UInt8) (p : Int) (Q : Feat → Int → Prop) (hb : b.length ≤ 2000) (hp : 0 ≤ p) (hp1 : p ≤ 1000000) (hq : ∀ f p', FB 4 f → (∀ x ∈ f.Tags, plainK x.Key) → f.Id ≠ zzI → (∀ q ∈ f.Shape.Pts, NX q) → p ≤ p' → p' ≤ p + 120 → Q f p') : F93.E b p Q := by
 unfold F93.E
 refine F137.law _ _ _ hb hp OM fun id hid => F80.law _ _ _ _ hb OM OM fun s t p1 hs ht tl td hx p2 p3 => F22.law _ _ _ _ hb OM OM fun v hv0 hv1 => ?_
 have li := word_len (idL_ok _ hid)
 have lp := shape_pts hs
 have tp : ∀ x ∈ t, plainK x.Key := fun x hx => keyL_plain _ (td x hx).1
 have tw : ∀ x ∈ t, x.Key.length ≤ 6 ∧ x.Val.length ≤ 6 := fun x hx => (td x hx).len
 have iz := idL_nz _ hid
 split
 ·refine F44.law _ _ _ _ hb OM OM RD fun w hw => hq _ _ ⟨?_, by dsimp only; omega, by dsimp only; omega, tw⟩ tp ?_ hx OM OM
  all_goals
   simp only [List.mem_cons, List.not_mem_nil, or_false] at hw
   dsimp only
   rcases hw with rfl | rfl | rfl <;> decide
 split
 ·exact F92.law _ _ _ hb OM OM fun s' p4 h4 hx' h5 h6 => hq _ _ ⟨by dsimp only; omega, h4, by dsimp only; omega, tw⟩ tp iz hx' OM OM
 split
 ·refine ⟨by simp only [List.length_cons, List.length_nil]; omega, hq _ _ ⟨by dsimp only; omega, by dsimp only; omega, by simp only [List.length_append, List.length_cons, List.length_nil]; omega, fun x hx2 => ?_⟩ (fun x hx2 => ?_) iz hx OM OM⟩
  ·rcases List.mem_append.1 hx2 with hx2 | hx2
   ·exact tw x hx2
   ·rw [List.mem_singleton.1 hx2]; decide
  ·rcases List.mem_append.1 hx2 with hx2 | hx2
   ·exact tp x hx2
   ·rw [List.mem_singleton.1 hx2]; unfold plainK; dsimp only; decide
 split
 ·refine F44.law _ _ _ _ hb OM OM RD fun w hw => ⟨by simp only [List.length_cons, List.length_nil]; omega, hq _ _ ⟨by dsimp only; omega, by dsimp only; omega, by simp only [List.length_append, List.length_cons, List.length_nil]; omega, fun x hx2 => ?_⟩ (fun x hx2 => ?_) iz hx OM OM⟩
  ·rcases List.mem_append.1 hx2 with hx2 | hx2
   ·exact tw x hx2
   ·rw [List.mem_singleton.1 hx2]
    simp only [List.mem_cons, List.not_mem_nil, or_false] at hw
    rcases hw with rfl | rfl <;> decide
  ·rcases List.mem_append.1 hx2 with hx2 | hx2
   ·exact tp x hx2
   ·rw [List.mem_singleton.1 hx2]; unfold plainK; dsimp only; decide
 exact hq _ _ ⟨by dsimp only; omega, by dsimp only; omega, by dsimp only; omega, tw⟩ tp iz hx OM OM
theorem F94.gen (P : Str → Prop) (hP : ∀ k ∈ idL, P k) (hP2 : P [] ∧ P [122] ∧ P [97]) (b : List UInt8) (p : Int) (Q : List Change → Int → Prop) (hb : b.length ≤ 2000) (hp : 0 ≤ p) (hp1 : p ≤ 100000) (hq : ∀ d p', d.length ≤ 17 → (∀ c ∈ d, CB c) → (∀ c ∈ d, P c.Id) → p ≤ p' → p' ≤ p + 1000 → Q d p') : F94.E b p Q := by
 unfold F94.E
 refine F70.gen P hP _ _ _ hb hp OM fun s p1 hs _ hz _ p2 p3 => F88.gen P hP _ _ _ _ hb OM OM hs hz fun r p4 hr rz p5 p6 => F139.law _ _ _ (Nat.le_trans (MB.of hs).small RD) (Nat.le_trans (MB.of hr).small RD) (Nat.le_trans (sheet_ss hs).2.1 RD) (Nat.le_trans (sheet_ss hr).2.1 RD) (sheet_ss hs).1 ?_
 obtain ⟨d1, d2⟩ := diffL_cb hs hr
 have d3 : ∀ c ∈ diffL s r (uniq (ids s ++ ids r)), P c.Id := fun c hc => by
  unfold diffL at hc
  obtain ⟨hc, _⟩ := List.mem_filter.1 hc
  obtain ⟨x, hx, rfl⟩ := List.mem_map.1 hc
  show P x
  rcases List.mem_append.1 (uniq_mem.1 hx) with hx | hx
  all_goals
   obtain ⟨f, hf, rfl⟩ := List.mem_map.1 hx
  ·exact hz f hf
  ·exact rz f hf
 have pset : ∀ {d : List Change} {k : Nat} {c : Change}, (∀ c ∈ d, P c.Id) → P c.Id → ∀ x ∈ d.set k c, P x.Id := fun h hc x hx => by
  rcases List.mem_or_eq_of_mem_set hx with g | rfl
  ·exact h x g
  ·exact hc
 generalize diffL s r (uniq (ids s ++ ids r)) = d at *
 by_cases h0 : (d.length : Int) = 0
 ·rw [if_pos (by simpa using h0)]; exact hq _ _ OM d2 d3 OM OM
 rw [if_neg (by simpa using h0)]
 refine F22.law _ _ _ _ hb OM OM fun k hk0 hk1 => F22.law _ _ _ _ hb OM OM fun v hv0 hv1 => ?_
 have hm := d2 _ (nth_memi d hk0 OM)
 have hi := d3 _ (nth_memi d hk0 OM)
 split
 ·exact ⟨OM, OM, hq _ _ (by rw [List.length_set]; omega) (cb_set d2 ⟨hm.id, hm.was, hm.now⟩) (pset d3 hi) OM OM⟩
 split
 ·exact F93.law _ _ _ hb OM OM fun f p' h1 _ _ _ _ _ => ⟨OM, hq _ _ (by rw [List.length_set]; omega) (cb_set d2 ⟨hm.id, h1, hm.now⟩) (pset d3 hi) OM OM⟩
 split
 ·refine ⟨OM, by simp only [List.length_cons, List.length_nil]; omega, hq _ _ (by simp only [List.length_append, List.length_cons, List.length_nil]; omega) (fun c hc => ?_) (fun c hc => ?_) OM OM⟩
  ·rcases List.mem_append.1 hc with hc | hc
   ·exact d2 c hc
   ·rw [List.mem_singleton.1 hc]; exact hm
  ·rcases List.mem_append.1 hc with hc | hc
   ·exact d3 c hc
   ·rw [List.mem_singleton.1 hc]; exact hi
 split
 ·refine F44.law _ _ _ _ hb OM OM RD fun w hw => ⟨OM, hq _ _ (by rw [List.length_set]; omega) (cb_set d2 ⟨?_, hm.was, hm.now⟩) (pset d3 ?_) OM OM⟩
  all_goals (simp only [List.mem_cons, List.not_mem_nil, or_false] at hw; dsimp only)
  ·rcases hw with rfl | rfl | rfl <;> decide
  ·rcases hw with rfl | rfl | rfl
   ·exact hP2.1
   ·exact hP2.2.1
   ·exact hP2.2.2
 exact hq _ _ OM d2 d3 OM OM
theorem F94.law (b : List UInt8) (p : Int) (Q : List Change → Int → Prop) (hb : b.length ≤ 2000) (hp : 0 ≤ p) (hp1 : p ≤ 100000) (hq : ∀ d p', d.length ≤ 17 → (∀ c ∈ d, CB c) → p ≤ p' → p' ≤ p + 1000 → Q d p') : F94.E b p Q :=
 F94.gen (fun _ => True) (fun _ _ => trivial) ⟨trivial, trivial, trivial⟩ b p Q hb hp hp1 fun d p' h1 h2 _ => hq d p' h1 h2
theorem F13.law (code : List UInt8) (Q : List Change → List Change → Prop) (hq : ∀ a b, a.length ≤ 17 → b.length ≤ 17 → (∀ c ∈ a, CB c) → (∀ c ∈ b, CB c) → Q a b) : F13.E code Q := by
 unfold F13.E
 have bk : ∀ {s : List Feat}, sheetOk s = true → bulk s ≤ 1048576 := fun h => Nat.le_trans (MB.of h).small RD
 have ln : ∀ {s : List Feat}, sheetOk s = true → s.length ≤ 1000 := fun h => Nat.le_trans (sheet_ss h).2.1 RD
 refine F67.law _ _ fun b hb => F22.law _ _ _ _ hb OM OM fun v hv0 hv1 => ?_
 split
 ·exact F94.law _ _ _ hb OM OM fun d p h1 h2 q0 q1 => F94.law _ _ _ hb OM OM fun e p' h3 h4 _ _ => hq _ _ h1 h3 h2 h4
 refine F70.law _ _ _ hb OM OM fun s p hs _ sz _ q0 q1 => F88.law _ _ _ _ hb OM OM hs sz fun t p2 ht tz q2 q3 => F88.law _ _ _ _ hb OM OM ht tz fun u p3 hu uz q4 q5 => F22.law _ _ _ _ hb OM OM fun w hw0 hw1 => ?_
 obtain ⟨d1, d2⟩ := diffL_cb hs ht
 split
 ·obtain ⟨d3, d4⟩ := diffL_cb ht hs
  exact F139.law _ _ _ (bk hs) (bk ht) (ln hs) (ln ht) (sheet_ss hs).1 (F139.law _ _ _ (bk ht) (bk hs) (ln ht) (ln hs) (sheet_ss ht).1 (hq _ _ OM OM d2 d4))
 ·obtain ⟨d3, d4⟩ := diffL_cb ht hu
  exact F139.law _ _ _ (bk hs) (bk ht) (ln hs) (ln ht) (sheet_ss hs).1 (F139.law _ _ _ (bk ht) (bk hu) (ln ht) (ln hu) (sheet_ss ht).1 (hq _ _ OM OM d2 d4))
theorem F106.law (b : List UInt8) (p : Int) (Q : List Feat → Int → Prop) (hb : b.length ≤ 2000) (hp : 0 ≤ p) (hp1 : p ≤ 100000) (hq : ∀ s p', MD s → (∀ f ∈ s, ∀ q ∈ f.Shape.Pts, NX q) → p ≤ p' → p' ≤ p + 500 → Q s p') : F106.E b p Q := by
 unfold F106.E
 refine F70.law _ _ _ hb hp OM fun s p1 hs hl hz hn p2 p3 => F22.law _ _ _ _ hb OM OM fun v hv0 hv1 => ?_
 have mb := MB.of hs
 have hm : MD s := ⟨⟨OM, mb.fb⟩, hz⟩
 split
 ·refine F93.law _ _ _ hb OM OM fun f p4 h1 _ h2 hfx h3 h4 => ⟨by simp only [List.length_cons, List.length_nil]; omega, hq _ _ ⟨⟨by simp only [List.length_append, List.length_cons, List.length_nil]; omega, fun x hx => ?_⟩, fun x hx => ?_⟩ (fun x hx => ?_) OM OM⟩
  ·rcases List.mem_append.1 hx with hx | hx
   ·exact mb.fb x hx
   ·rw [List.mem_singleton.1 hx]; exact h1
  ·rcases List.mem_append.1 hx with hx | hx
   ·exact hz x hx
   ·rw [List.mem_singleton.1 hx]; exact h2
  ·rcases List.mem_append.1 hx with hx | hx
   ·exact hn x hx
   ·rw [List.mem_singleton.1 hx]; exact hfx
 split
 ·refine ⟨OM, hq _ _ ⟨⟨by simp only [List.length_append]; omega, fun x hx => ?_⟩, fun x hx => ?_⟩ (fun x hx => ?_) OM OM⟩
  ·rcases List.mem_append.1 hx with hx | hx <;> exact mb.fb x hx
  ·rcases List.mem_append.1 hx with hx | hx <;> exact hz x hx
  ·rcases List.mem_append.1 hx with hx | hx <;> exact hn x hx
 split
 ·refine ⟨fun s i => 0 ≤ i ∧ i ≤ 9 ∧ SS (ids s) ∧ (s.length : Int) ≤ 4 + i ∧ (∀ f ∈ s, FB 4 f ∧ f.Id ≠ zzI ∧ ∀ q ∈ f.Shape.Pts, NX q), fun _ i => (9 - i).toNat, ⟨OM, OM, (sheet_ss hs).1, OM, fun f hf => ⟨mb.fb f hf, hz f hf, hn f hf⟩⟩, ?_⟩
  rintro s i ⟨h0, h1, h2, h3, h4⟩
  by_cases hi : i ≤ 8
  case neg => rw [if_neg (by simpa using hi)]; exact hq _ _ ⟨⟨OM, fun f hf => (h4 f hf).1⟩, fun f hf => (h4 f hf).2.1⟩ (fun f hf => (h4 f hf).2.2) OM OM
  rw [if_pos (by simpa using hi)]
  have hl1 : ∀ l : Str, ((l.drop i.toNat).take ((i + 1).toNat - i.toNat)).length ≤ 1 := fun l => by rw [List.length_take]; omega
  refine ⟨by unfold I64; omega, by simp only [List.length_cons, List.length_nil]; omega, F127.law _ _ _ OM h2 fun r r1 r2 r3 r4 => ⟨by unfold I64; omega, ⟨OM, OM, r1, OM, fun f hf => ?_⟩, by dsimp only; omega⟩⟩
  rcases r4 f hf with g | rfl
  ·exact h4 f g
  ·refine ⟨⟨Nat.le_trans (hl1 _) RD, by dsimp only [List.length_cons, List.length_nil]; omega, by simp only [List.length_nil]; omega, by simp⟩, fun e => ?_, fun q hq' => by rw [List.mem_singleton.1 hq']; exact .of RD⟩
   have := hl1 [113, 114, 115, 116, 117, 118, 119, 120, 121, 122]
   dsimp only at e
   rw [e] at this
   exact absurd this RD
 exact hq _ _ hm hn OM OM
theorem F35.law (code : List UInt8) (Q : List Feat → List Change → Prop) (hq : ∀ s d, MD s → d.length ≤ 17 → (∀ c ∈ d, CB c) → Q s d) : F35.E code Q := by
 unfold F35.E
 refine F67.law _ _ fun b hb => F106.law _ _ _ hb OM OM fun s p ms _ p0 p1 => F71.law _ _ ?_
 cases hs : sheetOk s with
 | false => rw [if_pos RD]; exact F94.law _ _ _ hb OM OM fun d p' h1 h2 _ _ => hq _ _ ms h1 h2
 | true =>
 rw [if_neg RD]
 refine F22.law _ _ _ _ hb OM OM fun v hv0 hv1 => ?_
 split
 ·exact F94.law _ _ _ hb OM OM fun d p' h1 h2 _ _ => hq _ _ ms h1 h2
 refine F88.law _ _ _ _ hb OM OM hs ms.nz fun r p4 hr rz p5 p6 => F139.law _ _ _ ms.small (Nat.le_trans (MB.of hr).small RD) (Nat.le_trans (sheet_ss hs).2.1 RD) (Nat.le_trans (sheet_ss hr).2.1 RD) (sheet_ss hs).1 ?_
 obtain ⟨d1, d2⟩ := diffL_cb hs hr
 refine F22.law _ _ _ _ hb OM OM fun w hw0 hw1 => ?_
 split
 ·exact F88.law _ _ _ _ hb OM OM hs ms.nz fun t p7 ht tz _ _ => hq _ _ ⟨(MB.of ht).mono OM OM, tz⟩ OM d2
 exact hq _ _ ms OM d2
theorem F4.law (l : List (List Change)) (Q : List Change → Prop) (h1 : l.length ≤ 1000) (h2 : l.flatten.length ≤ 1000000) (hq : Q l.flatten) : F4.E l Q := by
 have htk : ∀ u, (l.take u).flatten.length ≤ l.flatten.length := fun u => by
  have : l.flatten = (l.take u).flatten ++ (l.drop u).flatten := by rw [← List.flatten_append, List.take_append_drop]
  rw [this, List.length_append]; omega
 have hsn : ∀ u, u < l.length → (l.take (u + 1)).flatten = (l.take u).flatten ++ nth l (u : Int) := fun u hu => by rw [take_nth l hu, List.flatten_append]; simp
 unfold F4.E
 refine ⟨fun size i => ∃ u : Nat, i = u ∧ u ≤ l.length ∧ size = ((l.take u).flatten.length : Int), fun _ i => (l.length - i).toNat, ⟨0, rfl, Nat.zero_le _, by simp⟩, ?_⟩
 rintro _ _ ⟨u, rfl, hu, rfl⟩
 by_cases h : u < l.length
 ·rw [if_pos (by simpa using h)]
  have e := hsn u h
  have ht := htk (u + 1)
  rw [e, List.length_append] at ht
  refine ⟨OM, fun _ => by unfold I64; omega, ?_⟩
  rw [if_neg (by rw [decide_eq_true_eq]; omega)]
  exact ⟨fun _ => by unfold I64; omega, ⟨u + 1, OM, OM, by rw [e, List.length_append]; omega⟩, by dsimp only; omega⟩
 ·rw [if_neg (by simpa using h)]
  have : u = l.length := by omega
  subst this
  rw [List.take_length]
  have rest : ∃ (I82 : (List Change) → Int → Prop) (mu83 : (List Change) → Int → Nat), I82 [] 0 ∧ ∀ (xs2 : List Change) (v4 : Int), I82 xs2 v4 → (if decide (v4 < (l.length : Int)) then ((0 : Int) ≤ v4 ∧ v4 < (l.length : Int)) ∧ (xs2.length + (nth l v4).length ≤ 268435456) ∧ (I64 (v4 + 1)) ∧ I82 (xs2 ++ (nth l v4)) (v4 + 1) ∧ mu83 (xs2 ++ (nth l v4)) (v4 + 1) < mu83 xs2 v4 else Q xs2) := by
   refine ⟨fun xs i => ∃ u : Nat, i = u ∧ u ≤ l.length ∧ xs = (l.take u).flatten, fun _ i => (l.length - i).toNat, ⟨0, rfl, Nat.zero_le _, by simp⟩, ?_⟩
   rintro _ _ ⟨u, rfl, hu, rfl⟩
   by_cases g : u < l.length
   ·rw [if_pos (by simpa using g)]
    have e := hsn u g
    have ht := htk (u + 1)
    rw [e, List.length_append] at ht
    exact ⟨OM, OM, by unfold I64; omega, ⟨u + 1, OM, OM, by rw [e]⟩, by dsimp only; omega⟩
   ·rw [if_neg (by simpa using g)]
    have : u = l.length := by omega
    subst this
    rw [List.take_length]; exact hq
  unfold F7.E
  rw [if_neg (by rw [decide_eq_true_eq]; omega)]
  refine ⟨by unfold I64; omega, by unfold I64; omega, ?_⟩
  by_cases hz : (l.flatten.length : Int) - (0 - 0) > 0
  ·rw [if_pos (by rw [decide_eq_true_eq]; exact hz)]
   exact ⟨OM, OM, rest⟩
  ·rw [if_neg (by rw [decide_eq_true_eq]; exact hz)]
   exact rest
theorem F0.law (s : List Change) (f : Change → Bool) (ok : Change → Prop) (Q : Int → Prop) (hl : s.length ≤ 1048576) (hok : ∀ x ∈ s, ok x) (hq : Q (findN s.length fun j => f (nth s (j : Int)))) : F0.E s f ok Q := by
 unfold F0.E
 refine loop_find s.length (fun j => f (nth s (j : Int))) hq (fun I mu k hk h1 h2 => ⟨OM, hok _ (nth_mem s hk), ?_⟩)
 cases h : f (nth s (k : Int)) with
 | true => rw [if_pos rfl]; exact h1 h
 | false => rw [if_neg RD]; obtain ⟨i1, i2⟩ := h2 h; exact ⟨by unfold I64; omega, i1, i2⟩
theorem F53.law (s : List Change) (id : Str) (Q : Int → Prop) (hl : s.length ≤ 1048576) (hq : Q (atC s id)) : F53.E s id Q := by
 unfold F53.E
 refine ⟨fun x => x.Id == id, fun x => x ∈ s, fun x hx => ?_, F0.law _ _ _ _ hl (fun x hx => hx) hq⟩
 unfold F27.E
 rfl
theorem F39.law (f : Feat) (Q : Feat → Prop) (hb : bulk f ≤ 1048576) (hq : Q f) : F39.E f Q := by
 unfold F39.E F24.E
 have h := bulk_feat f
 have h1 := bulk_len f.Tags
 have h2 := bulk_len f.Shape.Pts
 exact ⟨by simp only [List.length_nil]; omega, by simp only [List.length_nil]; omega, hq⟩
theorem F20.law (c : Change) (Q : Change → Prop) (hb : bulk c ≤ 1048576) (hq : Q c) : F20.E c Q := by
 unfold F20.E
 have h := bulk_change c
 exact F39.law _ _ OM (F39.law _ _ OM hq)
theorem F97.law (f : Feat) (Q : Bool → Prop) (hq : Q (noF f)) : F97.E f Q := by
 unfold F97.E
 obtain ⟨i, ⟨k, p⟩, t⟩ := f
 unfold noF at hq
 dsimp only
 have e : decide ((⟨i, ⟨k, p⟩, t⟩ : Feat) = ⟨[], ⟨0, []⟩, []⟩) = (decide (i = []) && decide (k = 0) && decide (p = []) && decide (t = [])) := by
  rw [Bool.eq_iff_iff]; simp [and_assoc]
 rw [e] at hq
 cases h1 : decide (i = []) with
 | false => rw [h1] at hq; rw [if_neg (by rw [beq_iff_eq]; exact of_decide_eq_false h1)]; exact hq
 | true =>
  rw [if_pos (by rw [beq_iff_eq]; exact of_decide_eq_true h1)]
  cases h2 : decide (k = 0) with
  | false => rw [h1, h2] at hq; rw [if_neg (by rw [beq_iff_eq]; exact of_decide_eq_false h2)]; exact hq
  | true =>
   rw [if_pos (by rw [beq_iff_eq]; exact of_decide_eq_true h2)]
   cases h3 : decide (p = []) with
   | false => rw [h1, h2, h3] at hq; rw [if_neg (by rw [beq_iff_eq]; have := of_decide_eq_false h3; intro e; exact this (List.length_eq_zero_iff.1 OM))]; exact hq
   | true =>
    rw [if_pos (by rw [beq_iff_eq, of_decide_eq_true h3]; rfl)]
    rw [h1, h2, h3] at hq
    have : ((t.length : Int) == 0) = decide (t = []) := by
     rw [Bool.eq_iff_iff, beq_iff_eq, decide_eq_true_eq]
     exact ⟨fun e => List.length_eq_zero_iff.1 OM, fun e => by rw [e]; rfl⟩
    rw [this]; exact hq
theorem F95.law (n lo hi : Int) (Q : Bool → Prop) (hq : Q (decide (lo ≤ n) && decide (n ≤ hi))) : F95.E n lo hi Q := by
 unfold F95.E
 by_cases h : lo ≤ n
 ·rw [if_pos (by simpa using h)]; rw [decide_eq_true h, Bool.true_and] at hq; exact hq
 ·rw [if_neg (by simpa using h)]; rw [decide_eq_false h, Bool.false_and] at hq; exact hq
theorem F95.m_is (n lo hi : Int) : F95.m n lo hi = (decide (lo ≤ n) && decide (n ≤ hi)) := by
 unfold F95.m
 by_cases h : lo ≤ n
 ·rw [if_pos (by simpa using h), decide_eq_true h, Bool.true_and]
 ·rw [if_neg (by simpa using h), decide_eq_false h, Bool.false_and]
theorem F96.law (s : Str) (Q : Bool → Prop) (hl : s.length ≤ 1048576) (hq : Q (wordOk s)) : F96.E s Q := by
 unfold F96.E
 unfold wordOk at hq
 refine loop_all s.length (fun k => byteOk (nth s (k : Int))) (fun I mu k hk hp hn => ?_) (fun ha => ?_)
 ·refine ⟨OM, ?_⟩
  cases h1 : decide (((nth s (k : Int)).toNat : Int) < 97) with
  | true => rw [if_pos rfl]; rw [allN_false hk (by simp only [byteOk, h1]; rfl), Bool.false_and] at hq; exact hq
  | false =>
   rw [if_neg RD]
   refine ⟨OM, ?_⟩
   cases h2 : decide (((nth s (k : Int)).toNat : Int) > 122) with
   | true => rw [if_pos rfl]; rw [allN_false hk (by simp only [byteOk, h1, h2]; rfl), Bool.false_and] at hq; exact hq
   | false =>
    rw [if_neg RD]
    obtain ⟨i1, i2⟩ := hn (by simp only [byteOk, h1, h2]; rfl)
    exact ⟨by unfold I64; omega, i1, i2⟩
 ·rw [allN_true ha, Bool.true_and] at hq
  refine F95.law _ _ _ _ ?_
  have e1 : decide ((1 : Int) ≤ (s.length : Int)) = decide (1 ≤ s.length) := decide_eq_decide.2 OM
  have e2 : decide ((s.length : Int) ≤ 6) = decide (s.length ≤ 6) := decide_eq_decide.2 OM
  rw [e1, e2]; exact hq
theorem F140.law (p : Pt) (Q : Bool → Prop) (hq : Q (ptOk p)) : F140.E p Q := by
 unfold F140.E
 unfold ptOk at hq
 refine F95.law _ _ _ _ ?_
 change if inR p.X = true then _ else _
 cases h : inR p.X with
 | true => rw [if_pos rfl]; rw [h, Bool.true_and] at hq; exact F95.law _ _ _ _ hq
 | false => rw [if_neg RD]; rw [h, Bool.false_and] at hq; exact hq
theorem F72.law (s : Shape) (Q : Bool → Prop) (hl : s.Pts.length ≤ 1048576) (hq : Q (shapeOk s)) : F72.E s Q := by
 unfold F72.E
 unfold shapeOk ptsOk at hq
 refine loop_all s.Pts.length (fun k => ptOk (nth s.Pts (k : Int)) && (decide (k = 0) || !(decide (nth s.Pts ((k : Int) - 1) = nth s.Pts (k : Int))))) (fun I mu k hk hp hn => ?_) (fun ha => ?_)
 ·refine ⟨OM, _, F140.law _ _ rfl, ?_⟩
  have bad : (ptOk (nth s.Pts (k : Int)) && (decide (k = 0) || !(decide (nth s.Pts ((k : Int) - 1) = nth s.Pts (k : Int))))) = false → Q false := fun h => by
   rw [allN_false hk h, Bool.false_and] at hq; exact hq
  cases h1 : ptOk (nth s.Pts (k : Int)) with
  | false => rw [if_pos RD]; exact bad (by rw [h1]; rfl)
  | true =>
   rw [if_neg RD]
   by_cases hk0 : k = 0
   ·rw [if_neg (by rw [decide_eq_true_eq]; omega)]
    obtain ⟨i1, i2⟩ := hn (by rw [h1, decide_eq_true hk0]; rfl)
    exact ⟨by unfold I64; omega, i1, i2⟩
   ·rw [if_pos (by rw [decide_eq_true_eq]; omega)]
    refine ⟨by unfold I64; omega, OM, ?_⟩
    rw [eqPt_is]
    by_cases he : nth s.Pts ((k : Int) - 1) = nth s.Pts (k : Int)
    ·rw [if_pos (by rw [decide_eq_true_eq]; exact he)]
     exact bad (by rw [h1, decide_eq_false hk0, decide_eq_true he]; rfl)
    ·rw [if_neg (by rw [decide_eq_true_eq]; exact he)]
     obtain ⟨i1, i2⟩ := hn (by simp only [h1, decide_eq_false hk0, decide_eq_false he]; rfl)
     exact ⟨by unfold I64; omega, i1, i2⟩
 ·rw [allN_true ha, Bool.true_and] at hq
  unfold kindOk at hq
  by_cases k1 : s.Kind = 1
  ·rw [if_pos k1] at hq
   rw [if_pos (by rw [beq_iff_eq]; exact k1)]
   have : ((s.Pts.length : Int) == 1) = decide (s.Pts.length = 1) := by rw [Bool.eq_iff_iff, beq_iff_eq, decide_eq_true_eq]; omega
   rw [this]; exact hq
  rw [if_neg k1] at hq
  rw [if_neg (by rw [beq_iff_eq]; exact k1)]
  have e2 : decide ((2 : Int) ≤ (s.Pts.length : Int)) = decide (2 ≤ s.Pts.length) := decide_eq_decide.2 OM
  have e3 : decide ((3 : Int) ≤ (s.Pts.length : Int)) = decide (3 ≤ s.Pts.length) := decide_eq_decide.2 OM
  have e6 : decide ((s.Pts.length : Int) ≤ 6) = decide (s.Pts.length ≤ 6) := decide_eq_decide.2 OM
  by_cases k2 : s.Kind = 2
  ·rw [if_pos k2] at hq
   rw [if_pos (by rw [beq_iff_eq]; exact k2)]
   refine F95.law _ _ _ _ ?_
   rw [e2, e6]; exact hq
  rw [if_neg k2] at hq
  rw [if_neg (by rw [beq_iff_eq]; exact k2)]
  by_cases k3 : s.Kind = 3
  ·rw [if_pos k3] at hq
   rw [if_pos (by rw [beq_iff_eq]; exact k3), F95.m_is, e3, e6]
   cases hc : decide (3 ≤ s.Pts.length) && decide (s.Pts.length ≤ 6) with
   | true =>
    rw [hc, Bool.true_and] at hq
    rw [Bool.and_eq_true, decide_eq_true_eq, decide_eq_true_eq] at hc
    rw [if_pos rfl, eqPt_is]
    exact ⟨OM, fun _ => by unfold I64; omega, OM, hq⟩
   | false =>
    rw [hc, Bool.false_and] at hq
    rw [if_neg RD]; exact hq
  ·rw [if_neg k3] at hq
   rw [if_neg (by rw [beq_iff_eq]; exact k3)]; exact hq
theorem F98.law (f : Feat) (Q : Bool → Prop) (hb : bulk f ≤ 1048576) (hq : Q (featOk f)) : F98.E f Q := by
 unfold F98.E
 unfold featOk at hq
 have b1 : bulk f = bulk f.Id + bulk f.Shape + bulk f.Tags := rfl
 have b2 : bulk f.Shape = bulk f.Shape.Kind + bulk f.Shape.Pts := rfl
 have l1 := bulk_len f.Tags; have l2 := bulk_len f.Shape.Pts; have l3 := bulk_len f.Id
 have core : (tagsOk f.Tags = true → F96.E f.Id (fun r3 => (if r3 then F72.E f.Shape (fun r4 => (if r4 then Q (decide ((f.Tags.length : Int) ≤ 4)) else Q false)) else Q false))) := fun ha => by
  rw [ha, Bool.true_and] at hq
  refine F96.law _ _ OM ?_
  cases h1 : wordOk f.Id with
  | false => rw [h1, Bool.and_false, Bool.false_and] at hq; rw [if_neg RD]; exact hq
  | true =>
   rw [h1, Bool.and_true] at hq
   rw [if_pos rfl]
   refine F72.law _ _ OM ?_
   cases h2 : shapeOk f.Shape with
   | false => rw [h2, Bool.and_false] at hq; rw [if_neg RD]; exact hq
   | true =>
    rw [h2, Bool.and_true] at hq; rw [if_pos rfl]
    have e2 : decide ((f.Tags.length : Int) ≤ 4) = decide (f.Tags.length ≤ 4) := decide_eq_decide.2 OM
    rw [e2]; exact hq
 have bad : tagsOk f.Tags = false → Q false := fun h => by
  rw [h, Bool.false_and, Bool.false_and, Bool.false_and] at hq; exact hq
 unfold tagsOk at core bad
 refine loop_all f.Tags.length (fun k => wordOk (nth f.Tags (k : Int)).Key && wordOk (nth f.Tags (k : Int)).Val && (decide (k = 0) || Op.bytesLess (nth f.Tags ((k : Int) - 1)).Key (nth f.Tags (k : Int)).Key)) (fun I mu k hk hp hn => ?_) (fun ha => core (allN_true ha))
 have bad := fun h => bad (allN_false hk h)
 have m1 := bulk_mem (nth_mem f.Tags hk)
 have m2 : bulk (nth f.Tags (k : Int)) = bulk (nth f.Tags (k : Int)).Key + bulk (nth f.Tags (k : Int)).Val := rfl
 have m3 := bulk_len (nth f.Tags (k : Int)).Key; have m4 := bulk_len (nth f.Tags (k : Int)).Val
 refine ⟨OM, _, F96.law _ _ OM rfl, ?_⟩
 cases h1 : wordOk (nth f.Tags (k : Int)).Key with
 | false => rw [if_pos RD]; exact bad (by rw [h1]; rfl)
 | true =>
  rw [if_neg RD]
  refine ⟨_, F96.law _ _ OM rfl, ?_⟩
  cases h2 : wordOk (nth f.Tags (k : Int)).Val with
  | false => rw [if_pos RD]; exact bad (by rw [h2, Bool.and_false]; rfl)
  | true =>
   rw [if_neg RD]
   by_cases hk0 : k = 0
   ·rw [if_neg (by rw [decide_eq_true_eq]; omega)]
    obtain ⟨i1, i2⟩ := hn (by rw [h1, h2, decide_eq_true hk0]; rfl)
    exact ⟨by unfold I64; omega, i1, i2⟩
   ·rw [if_pos (by rw [decide_eq_true_eq]; omega)]
    refine ⟨by unfold I64; omega, OM, ?_⟩
    cases h3 : Op.bytesLess (nth f.Tags ((k : Int) - 1)).Key (nth f.Tags (k : Int)).Key with
    | false => rw [if_pos RD]; exact bad (by rw [h3, h1, h2, decide_eq_false hk0]; rfl)
    | true =>
     rw [if_neg RD]
     obtain ⟨i1, i2⟩ := hn (by rw [h3, h1, h2, decide_eq_false hk0]; rfl)
     exact ⟨by unfold I64; omega, i1, i2⟩
theorem F99.law (id : Str) (has : Bool) (f : Feat) (Q : Bool → Prop) (hb : bulk f ≤ 1048576) (hq : Q (sideOk id has f)) : F99.E id has f Q := by
 unfold F99.E
 unfold sideOk at hq
 cases has with
 | false => rw [if_pos RD]; rw [if_neg RD] at hq; exact F97.law _ _ hq
 | true =>
  rw [if_neg RD]; rw [if_pos rfl] at hq
  refine F98.law _ _ hb ?_
  cases h : featOk f with
  | false => rw [h] at hq; rw [if_neg RD]; exact hq
  | true =>
   rw [h, Bool.true_and] at hq; rw [if_pos rfl]
   have : (f.Id == id) = decide (f.Id = id) := by rw [Bool.eq_iff_iff, beq_iff_eq, decide_eq_true_eq]
   rw [this]; exact hq
theorem F18.law (a b : List Tag) (Q : Bool → Prop) (hb : a.length ≤ 1048576) (hq : Q (decide (a = b))) : F18.E a b Q := by
 unfold F18.E
 exact eqI_shape eqTag eqTag_is a b Q hb hq
theorem F23.law (a b : List Pt) (Q : Bool → Prop) (hb : a.length ≤ 1048576) (hq : Q (decide (a = b))) : F23.E a b Q := by
 unfold F23.E
 exact eqI_shape eqPt eqPt_is a b Q hb hq
theorem F38.law (a b : Shape) (Q : Bool → Prop) (hl : a.Pts.length ≤ 1048576) (hq : Q (decide (a = b))) : F38.E a b Q := by
 unfold F38.E
 by_cases h : a.Kind = b.Kind
 ·rw [if_pos (by rw [beq_iff_eq]; exact h)]
  refine F23.law _ _ _ OM ?_
  have : decide (a.Pts = b.Pts) = decide (a = b) := decide_eq_decide.2 (by rw [Shape.ext_iff']; exact ⟨fun e => ⟨h, e⟩, fun e => e.2⟩)
  rw [this]; exact hq
 ·rw [if_neg (by rw [beq_iff_eq]; exact h)]
  rw [decide_eq_false (by rw [Shape.ext_iff']; exact fun e => h e.1)] at hq; exact hq
theorem F46.law (a b : Feat) (Q : Bool → Prop) (hl : a.Shape.Pts.length ≤ 1048576 ∧ a.Tags.length ≤ 1048576) (hq : Q (decide (a = b))) : F46.E a b Q := by
 unfold F46.E
 by_cases h : a.Id = b.Id
 ·rw [if_pos (by rw [beq_iff_eq]; exact h)]
  refine F38.law _ _ _ OM ?_
  by_cases h2 : a.Shape = b.Shape
  ·rw [decide_eq_true h2, if_pos rfl]
   refine F18.law _ _ _ OM ?_
   have : decide (a.Tags = b.Tags) = decide (a = b) := decide_eq_decide.2 (by rw [Feat.ext_iff']; exact ⟨fun e => ⟨h, h2, e⟩, fun e => e.2.2⟩)
   rw [this]; exact hq
  ·rw [decide_eq_false h2, if_neg RD]
   rw [decide_eq_false (by rw [Feat.ext_iff']; exact fun e => h2 e.2.1)] at hq; exact hq
 ·rw [if_neg (by rw [beq_iff_eq]; exact h)]
  rw [decide_eq_false (by rw [Feat.ext_iff']; exact fun e => h e.1)] at hq; exact hq
theorem F19.law (c : Change) (Q : Bool → Prop) (hb : bulk c ≤ 1048576) (hq : Q (sameC c)) : F19.E c Q := by
 unfold F19.E
 unfold sameC at hq
 have b1 : bulk c = bulk c.Id + bulk c.Had + bulk c.Was + bulk c.Has + bulk c.Now := rfl
 have b2 : bulk c.Was = bulk c.Was.Id + bulk c.Was.Shape + bulk c.Was.Tags := rfl
 have b3 : bulk c.Was.Shape = bulk c.Was.Shape.Kind + bulk c.Was.Shape.Pts := rfl
 have l1 := bulk_len c.Was.Tags; have l2 := bulk_len c.Was.Shape.Pts
 by_cases h : c.Had = c.Has
 ·rw [if_pos (by rw [beq_iff_eq]; exact h)]
  rw [decide_eq_true h, Bool.true_and] at hq
  exact F46.law _ _ _ OM hq
 ·rw [if_neg (by rw [beq_iff_eq]; exact h)]
  rw [decide_eq_false h] at hq; exact hq
theorem F100.law (d : List Change) (Q : Bool → Prop) (hb : bulk d ≤ 1048576) (hq : Q (diffOk d)) : F100.E d Q := by
 unfold F100.E
 unfold diffOk at hq
 have hl := bulk_len d
 refine loop_all d.length (fun k => changeOk (nth d (k : Int)) && (decide (k = 0) || Op.bytesLess (nth d ((k : Int) - 1)).Id (nth d (k : Int)).Id)) (fun I mu k hk hp hn => ?_) (fun ha => ?_)
 ·have bad : (changeOk (nth d (k : Int)) && (decide (k = 0) || Op.bytesLess (nth d ((k : Int) - 1)).Id (nth d (k : Int)).Id)) = false → Q false := fun h => by
   rw [allN_false hk h, Bool.false_and] at hq; exact hq
  have m1 := bulk_mem (nth_mem d hk)
  have b1 : bulk (nth d (k : Int)) = bulk (nth d (k : Int)).Id + bulk (nth d (k : Int)).Had + bulk (nth d (k : Int)).Was + bulk (nth d (k : Int)).Has + bulk (nth d (k : Int)).Now := rfl
  have l1 := bulk_len (nth d (k : Int)).Id
  generalize hc : nth d (k : Int) = c at *
  refine ⟨OM, _, F96.law _ _ OM rfl, ?_⟩
  have co : ∀ a b e g : Bool, wordOk c.Id = a → sideOk c.Id c.Had c.Was = b → sideOk c.Id c.Has c.Now = e → sameC c = g → changeOk c = (a && b && e && !g) := fun a b e g h1 h2 h3 h4 => by unfold changeOk; rw [h1, h2, h3, h4]
  have rest : wordOk c.Id = true → (decide (k = 0) || Op.bytesLess (nth d ((k : Int) - 1)).Id c.Id) = true →
    (∃ q : Bool, F99.E c.Id c.Had c.Was (fun x => x = q) ∧ (if !q then Q false else (∃ q2 : Bool, F99.E c.Id c.Has c.Now (fun x => x = q2) ∧ (if !q2 then Q false else (∃ q3 : Bool, F19.E c (fun x => x = q3) ∧ (if q3 then Q false else (I64 ((k : Int) + 1)) ∧ I ((k : Int) + 1) ∧ mu ((k : Int) + 1) < mu (k : Int))))))) := fun h1 ho => by
   refine ⟨_, F99.law _ _ _ _ OM rfl, ?_⟩
   cases h2 : sideOk c.Id c.Had c.Was with
   | false => rw [if_pos RD]; exact bad (by rw [co _ _ _ _ h1 h2 rfl rfl]; rfl)
   | true =>
    rw [if_neg RD]
    refine ⟨_, F99.law _ _ _ _ OM rfl, ?_⟩
    cases h3 : sideOk c.Id c.Has c.Now with
    | false => rw [if_pos RD]; exact bad (by rw [co _ _ _ _ h1 h2 h3 rfl]; rfl)
    | true =>
     rw [if_neg RD]
     refine ⟨_, F19.law _ _ OM rfl, ?_⟩
     cases h4 : sameC c with
     | true => rw [if_pos rfl]; exact bad (by rw [co _ _ _ _ h1 h2 h3 h4]; rfl)
     | false =>
      rw [if_neg RD]
      obtain ⟨i1, i2⟩ := hn (by rw [co _ _ _ _ h1 h2 h3 h4, ho]; rfl)
      exact ⟨by unfold I64; omega, i1, i2⟩
  cases h1 : wordOk c.Id with
  | false => rw [if_pos RD]; exact bad (by rw [co _ _ _ _ h1 rfl rfl rfl]; rfl)
  | true =>
   rw [if_neg RD]
   by_cases hk0 : k = 0
   ·rw [if_neg (by rw [decide_eq_true_eq]; omega)]
    exact rest h1 (by rw [decide_eq_true hk0]; rfl)
   ·rw [if_pos (by rw [decide_eq_true_eq]; omega)]
    refine ⟨by unfold I64; omega, OM, ?_⟩
    cases h3 : Op.bytesLess (nth d ((k : Int) - 1)).Id c.Id with
    | false => rw [if_pos RD]; exact bad (by rw [h3, decide_eq_false hk0]; simp)
    | true => rw [if_neg RD]; exact rest h1 (by rw [h3, Bool.or_true])
 ·rw [allN_true ha, Bool.true_and] at hq
  have e2 : decide ((d.length : Int) ≤ 16) = decide (d.length ≤ 16) := decide_eq_decide.2 OM
  rw [e2]; exact hq
theorem F54.law (a b : List Change) (Q : List Change → Bool → Prop) (ba : bulk a ≤ 1048576) (bb : bulk b ≤ 1048576) (hq : Q (thenR a b) (thenOk a b)) : F54.E a b Q := by
 unfold F54.E
 have bad : thenOk a b = false → Q [] false := fun h => by unfold thenR at hq; rw [h, if_neg RD] at hq; exact hq
 refine F100.law _ _ ba ?_
 cases ka : diffOk a with
 | false => rw [if_pos RD]; exact bad (by unfold thenOk; rw [ka]; rfl)
 | true =>
  rw [if_neg RD]
  refine F100.law _ _ bb ?_
  cases kb : diffOk b with
  | false => rw [if_pos RD]; exact bad (by unfold thenOk; rw [ka, kb]; rfl)
  | true =>
   rw [if_neg RD]
   obtain ⟨sa, la, ca⟩ := diff_cs ka
   obtain ⟨sb, lb, cb⟩ := diff_cs kb
   have hf : ([a, b] : List (List Change)).flatten = a ++ b := by simp
   refine F4.law _ _ (by simp) (by rw [hf, List.length_append]; omega) ?_
   rw [hf]
   refine ⟨fun xs i => ∃ u : Nat, i = u ∧ u ≤ (a ++ b).length ∧ xs = idsC ((a ++ b).take u), fun _ i => ((a ++ b).length - i).toNat, ⟨0, rfl, Nat.zero_le _, rfl⟩, ?_⟩
   rintro _ _ ⟨u, rfl, hu, rfl⟩
   have hab : (a ++ b).length ≤ 32 := by rw [List.length_append]; omega
   by_cases h : u < (a ++ b).length
   ·rw [if_pos (by rw [decide_eq_true_eq]; omega)]
    have hil : (idsC ((a ++ b).take u)).length ≤ u := by unfold idsC; rw [List.length_map, List.length_take]; omega
    exact ⟨OM, by simp only [List.length_cons, List.length_nil]; omega, by unfold I64; omega, ⟨u + 1, OM, OM, by rw [take_nth _ h, idsC_app]; rfl⟩, by dsimp only; omega⟩
   rw [if_neg (by rw [decide_eq_true_eq]; omega)]
   have hue : u = (a ++ b).length := by omega
   subst hue
   rw [List.take_length, idsC_app]
   have hol := thenOut_len la lb
   have hidl : (idsC a ++ idsC b).length ≤ 32 := by unfold idsC; rw [List.length_append, List.length_map, List.length_map]; omega
   unfold F8.E F1.E
   refine ⟨OM, by unfold sortS; rw [List.length_mergeSort]; omega, ?_⟩
   show ∃ (I271 : (List Change) → Int → Prop) (mu272 : (List Change) → Int → Nat), _
   have hU : Lib.compact (sortS (idsC a ++ idsC b)) = uniq (idsC a ++ idsC b) := rfl
   rw [hU]
   refine ⟨fun xs i => ∃ u : Nat, i = u ∧ u ≤ (uniq (idsC a ++ idsC b)).length ∧ xs = thenL a b ((uniq (idsC a ++ idsC b)).take u) ∧ ∀ id ∈ (uniq (idsC a ++ idsC b)).take u, clashAt a b id = false, fun _ i => ((uniq (idsC a ++ idsC b)).length - i).toNat, ⟨0, rfl, Nat.zero_le _, rfl, by simp⟩, ?_⟩
   rintro _ _ ⟨u, rfl, hu, rfl, hcl⟩
   by_cases h : u < (uniq (idsC a ++ idsC b)).length
   ·rw [if_pos (by simpa using h)]
    have hmem := nth_mem _ h
    have hm := uniqC_mem.1 hmem
    have hs := compC_small ca cb hm
    have hd := thenL_len a b ((uniq (idsC a ++ idsC b)).take u)
    rw [List.length_take] at hd
    have en := thenL_snoc a b ((uniq (idsC a ++ idsC b)).take u) (nth (uniq (idsC a ++ idsC b)) (u : Int))
    rw [← take_nth _ h] at en
    refine ⟨OM, F53.law _ _ _ OM (F53.law _ _ _ OM ?_)⟩
    have a0 := atC_le a (nth (uniq (idsC a ++ idsC b)) (u : Int))
    have b0 := atC_le b (nth (uniq (idsC a ++ idsC b)) (u : Int))
    have nxt : clashAt a b (nth (uniq (idsC a ++ idsC b)) (u : Int)) = false → ∀ id ∈ (uniq (idsC a ++ idsC b)).take (u + 1), clashAt a b id = false := fun hc id hid => by
     rw [take_nth _ h] at hid
     rcases List.mem_append.1 hid with hid | hid
     ·exact hcl id hid
     ·rw [List.mem_singleton.1 hid]; exact hc
    have step : ∀ (c : Change), c = compC a b (nth (uniq (idsC a ++ idsC b)) (u : Int)) → clashAt a b (nth (uniq (idsC a ++ idsC b)) (u : Int)) = false → ∀ (I : List Change → Int → Prop) (mu : List Change → Int → Nat),
      (∀ xs : List Change, xs = thenL a b ((uniq (idsC a ++ idsC b)).take (u + 1)) → I xs ((u : Int) + 1) ∧ mu xs ((u : Int) + 1) < mu (thenL a b ((uniq (idsC a ++ idsC b)).take u)) (u : Int)) →
      F19.E c (fun r7 => (if !r7 then F20.E c (fun r8 => ((thenL a b ((uniq (idsC a ++ idsC b)).take u)).length + ([r8] : List Change).length ≤ 268435456) ∧ (I64 ((u : Int) + 1)) ∧ I (thenL a b ((uniq (idsC a ++ idsC b)).take u) ++ ([r8] : List Change)) ((u : Int) + 1) ∧ mu (thenL a b ((uniq (idsC a ++ idsC b)).take u) ++ ([r8] : List Change)) ((u : Int) + 1) < mu (thenL a b ((uniq (idsC a ++ idsC b)).take u)) (u : Int)) else (I64 ((u : Int) + 1)) ∧ I (thenL a b ((uniq (idsC a ++ idsC b)).take u)) ((u : Int) + 1) ∧ mu (thenL a b ((uniq (idsC a ++ idsC b)).take u)) ((u : Int) + 1) < mu (thenL a b ((uniq (idsC a ++ idsC b)).take u)) (u : Int))) := fun c hc hcc I mu hI => by
     subst hc
     refine F19.law _ _ OM ?_
     cases k : sameC (compC a b (nth (uniq (idsC a ++ idsC b)) (u : Int))) with
     | false =>
      rw [k] at en
      rw [if_pos RD]
      refine F20.law _ _ OM ⟨by simp only [List.length_cons, List.length_nil]; omega, by unfold I64; omega, hI _ ?_⟩
      rw [en]; rfl
     | true =>
      rw [k] at en
      rw [if_neg RD]
      exact ⟨by unfold I64; omega, hI _ (by rw [en]; simp)⟩
    have done : clashAt a b (nth (uniq (idsC a ++ idsC b)) (u : Int)) = false → ∀ xs : List Change, xs = thenL a b ((uniq (idsC a ++ idsC b)).take (u + 1)) →
      (∃ u' : Nat, ((u : Int) + 1) = u' ∧ u' ≤ (uniq (idsC a ++ idsC b)).length ∧ xs = thenL a b ((uniq (idsC a ++ idsC b)).take u') ∧ ∀ id ∈ (uniq (idsC a ++ idsC b)).take u', clashAt a b id = false) ∧ (((uniq (idsC a ++ idsC b)).length - ((u : Int) + 1)).toNat < ((uniq (idsC a ++ idsC b)).length - (u : Int)).toNat) := fun hc xs hx => ⟨⟨u + 1, OM, OM, hx, nxt hc⟩, OM⟩
    by_cases kb0 : atC b (nth (uniq (idsC a ++ idsC b)) (u : Int)) < 0
    ·rw [if_pos (by rw [decide_eq_true_eq]; exact kb0)]
     have ka0 : ¬ atC a (nth (uniq (idsC a ++ idsC b)) (u : Int)) < 0 := fun e => by
      rcases hm with hm | hm
      ·exact atC_miss e hm
      ·exact atC_miss kb0 hm
     have hc : clashAt a b (nth (uniq (idsC a ++ idsC b)) (u : Int)) = false := by unfold clashAt; rw [decide_eq_false (p := ¬ atC b _ < 0) (not_not_intro kb0), Bool.and_false, Bool.false_and]
     exact ⟨OM, step _ (by unfold compC; rw [if_pos kb0]) hc (fun (xs : List Change) (i : Int) => ∃ u : Nat, i = u ∧ u ≤ (uniq (idsC a ++ idsC b)).length ∧ xs = thenL a b ((uniq (idsC a ++ idsC b)).take u) ∧ ∀ id ∈ (uniq (idsC a ++ idsC b)).take u, clashAt a b id = false) (fun _ i => ((uniq (idsC a ++ idsC b)).length - i).toNat) (fun xs hx => done hc xs hx)⟩
    ·rw [if_neg (by rw [decide_eq_true_eq]; exact kb0)]
     by_cases ka0 : atC a (nth (uniq (idsC a ++ idsC b)) (u : Int)) < 0
     ·rw [if_pos (by rw [decide_eq_true_eq]; exact ka0)]
      have hc : clashAt a b (nth (uniq (idsC a ++ idsC b)) (u : Int)) = false := by unfold clashAt; rw [decide_eq_false (p := ¬ atC a _ < 0) (not_not_intro ka0), Bool.false_and, Bool.false_and]
      exact ⟨OM, step _ (by unfold compC; rw [if_neg kb0, if_pos ka0]) hc (fun (xs : List Change) (i : Int) => ∃ u : Nat, i = u ∧ u ≤ (uniq (idsC a ++ idsC b)).length ∧ xs = thenL a b ((uniq (idsC a ++ idsC b)).take u) ∧ ∀ id ∈ (uniq (idsC a ++ idsC b)).take u, clashAt a b id = false) (fun _ i => ((uniq (idsC a ++ idsC b)).length - i).toNat) (fun xs hx => done hc xs hx)⟩
     ·rw [if_neg (by rw [decide_eq_true_eq]; exact ka0)]
      have clash : clashAt a b (nth (uniq (idsC a ++ idsC b)) (u : Int)) = true → Q [] false := fun hc => bad (by
       unfold thenOk
       rw [List.any_eq_true.2 ⟨_, hmem, hc⟩]; simp)
      have hca : clashAt a b (nth (uniq (idsC a ++ idsC b)) (u : Int)) = ((nth a (atC a (nth (uniq (idsC a ++ idsC b)) (u : Int)))).Has != (nth b (atC b (nth (uniq (idsC a ++ idsC b)) (u : Int)))).Had || !(decide ((nth a (atC a (nth (uniq (idsC a ++ idsC b)) (u : Int)))).Now = (nth b (atC b (nth (uniq (idsC a ++ idsC b)) (u : Int)))).Was))) := by
       unfold clashAt; rw [decide_eq_true ka0, decide_eq_true kb0, Bool.true_and, Bool.true_and]
      refine ⟨OM, OM, ?_⟩
      cases k1 : (nth a (atC a (nth (uniq (idsC a ++ idsC b)) (u : Int)))).Has != (nth b (atC b (nth (uniq (idsC a ++ idsC b)) (u : Int)))).Had with
      | true => rw [if_pos rfl]; exact clash (by rw [hca, k1]; rfl)
      | false =>
       rw [if_neg RD]
       have na := (change_small (ca _ (atC_hit ka0).1)).2.2.2.1
       have nf := bulk_feat (nth a (atC a (nth (uniq (idsC a ++ idsC b)) (u : Int)))).Now
       have nl := bulk_len (nth a (atC a (nth (uniq (idsC a ++ idsC b)) (u : Int)))).Now.Shape.Pts
       have nl2 := bulk_len (nth a (atC a (nth (uniq (idsC a ++ idsC b)) (u : Int)))).Now.Tags
       refine ⟨OM, OM, _, F46.law _ _ _ OM rfl, ?_⟩
       cases k2 : decide ((nth a (atC a (nth (uniq (idsC a ++ idsC b)) (u : Int)))).Now = (nth b (atC b (nth (uniq (idsC a ++ idsC b)) (u : Int)))).Was) with
       | false => rw [if_pos RD]; exact clash (by rw [hca, k1, k2]; rfl)
       | true =>
        rw [if_neg RD]
        have hc : clashAt a b (nth (uniq (idsC a ++ idsC b)) (u : Int)) = false := by rw [hca, k1, k2]; rfl
        exact ⟨OM, OM, OM, OM, step _ (by unfold compC; rw [if_neg kb0, if_neg ka0]) hc (fun (xs : List Change) (i : Int) => ∃ u : Nat, i = u ∧ u ≤ (uniq (idsC a ++ idsC b)).length ∧ xs = thenL a b ((uniq (idsC a ++ idsC b)).take u) ∧ ∀ id ∈ (uniq (idsC a ++ idsC b)).take u, clashAt a b id = false) (fun _ i => ((uniq (idsC a ++ idsC b)).length - i).toNat) (fun xs hx => done hc xs hx)⟩
   ·rw [if_neg (by simpa using h)]
    have hue : u = (uniq (idsC a ++ idsC b)).length := by omega
    subst hue
    rw [List.take_length] at hcl ⊢
    have hany : (uniq (idsC a ++ idsC b)).any (clashAt a b) = false := by
     rw [List.any_eq_false]; intro id hid; rw [hcl id hid]; exact Bool.false_ne_true
    refine F100.law _ _ (thenL_small ca cb (fun id hid => uniqC_mem.1 hid) OM) ?_
    cases ko : diffOk (thenL a b (uniq (idsC a ++ idsC b))) with
    | false => rw [if_pos RD]; exact bad (by unfold thenOk thenOut; rw [ko, Bool.and_false])
    | true =>
     rw [if_neg RD]
     have hok : thenOk a b = true := by unfold thenOk thenOut; rw [ka, kb, hany, ko]; rfl
     unfold thenR at hq
     rw [hok, if_pos rfl] at hq
     exact hq
theorem F120.law (s : List Change) (id : Str) (Q : Int → Prop) (hq : Q (atC s id)) : F120.E s id Q := by
 unfold F120.E
 unfold atC at hq
 refine loop_find s.length (fun j => (nth s (j : Int)).Id == id) hq (fun I mu k hk h1 h2 => ⟨OM, ?_⟩)
 cases h : (nth s (k : Int)).Id == id with
 | true => rw [if_pos rfl]; exact h1 h
 | false => rw [if_neg RD]; obtain ⟨i1, i2⟩ := h2 h; exact ⟨OM, i1, i2⟩
theorem F136.law (d : List Change) (c : Change) (Q : List Change → Prop) (hl : d.length ≤ 1048576) (hs : CS d) (hc : c.Id ∉ idsC d) (hq : ∀ r, CS r → (∀ x, x ∈ r ↔ x ∈ d ∨ x = c) → r.length = d.length + 1 → Q r) : F136.E d c Q := by
 unfold F136.E
 have fin : ∀ k : Nat, k ≤ d.length → (∀ j, j < k → Op.bytesLess (nth d (j : Int)).Id c.Id = true) → (k = d.length ∨ Op.bytesLess (nth d (k : Int)).Id c.Id = false) → Q (d.take k ++ [c] ++ d.drop k) := fun k hk h1 h2 => by
  have e : d = d.take k ++ d.drop k := (List.take_append_drop k d).symm
  have hs' := hs
  rw [e] at hs'
  obtain ⟨p1, p2, p3⟩ := List.pairwise_append.1 hs'
  refine hq _ ?_ (fun x => ?_) ?_
  ·refine List.pairwise_append.2 ⟨List.pairwise_append.2 ⟨p1, List.pairwise_singleton _ _, fun x hx y hy => ?_⟩, p2, fun x hx y hy => ?_⟩
   ·rw [List.mem_singleton.1 hy]
    obtain ⟨j, hj, rfl⟩ := List.getElem_of_mem hx
    have hj2 : j < k := by rw [List.length_take] at hj; omega
    have := h1 j hj2
    rw [nth_nat d OM] at this
    rw [List.getElem_take]; exact this
   ·rcases List.mem_append.1 hx with hx | hx
    ·exact p3 x hx y hy
    ·rw [List.mem_singleton.1 hx]
     rcases h2 with h2 | h2
     ·rw [h2, List.drop_length] at hy; cases hy
     ·have hkl : k < d.length := by
       rcases Nat.lt_or_ge k d.length with g | g
       ·exact g
       ·rw [List.drop_eq_nil_of_le g] at hy; cases hy
      have hlt : Op.bytesLess c.Id (nth d (k : Int)).Id = true := by
       rcases less_or h2 with g | g
       ·exact g
       ·exact absurd (List.mem_map.2 ⟨_, nth_mem d hkl, g.symm⟩) hc
      rw [List.drop_eq_getElem_cons hkl] at hy p2
      rw [nth_nat d hkl] at hlt
      rcases List.mem_cons.1 hy with g | g
      ·rw [g]; exact hlt
      ·exact less_trans hlt ((List.pairwise_cons.1 p2).1 y g)
  ·conv => rhs; rw [e]
   simp only [List.mem_append, List.mem_singleton]
   constructor
   ·rintro ((h | h) | h)
    ·exact .inl (.inl h)
    ·exact .inr h
    ·exact .inl (.inr h)
   ·rintro ((h | h) | h)
    ·exact .inl (.inl h)
    ·exact .inr h
    ·exact .inl (.inr h)
  ·conv => rhs; rw [e]
   simp only [List.length_append, List.length_singleton]; omega
 have out : ∀ k : Nat, k ≤ d.length → (∀ j, j < k → Op.bytesLess (nth d (j : Int)).Id c.Id = true) → (k = d.length ∨ Op.bytesLess (nth d (k : Int)).Id c.Id = false) →
   ((0 : Int) ≤ (k : Int) ∧ ((k : Int) : Int) ≤ (d.length : Int) ∧ (d.length : Int) ≤ (d.length : Int)) ∧ (([] : List Change).length + ((d.drop (k : Int).toNat).take ((d.length : Int).toNat - (k : Int).toNat)).length ≤ 268435456) ∧ ((0 : Int) ≤ 0 ∧ (0 : Int) ≤ (k : Int) ∧ (k : Int) ≤ (d.length : Int)) ∧ (([] : List Change).length + ((d.drop (0 : Int).toNat).take ((k : Int).toNat - (0 : Int).toNat)).length ≤ 268435456) ∧ ((([] : List Change) ++ ((d.drop (0 : Int).toNat).take ((k : Int).toNat - (0 : Int).toNat))).length + ([c] : List Change).length ≤ 268435456) ∧ (((([] : List Change) ++ ((d.drop (0 : Int).toNat).take ((k : Int).toNat - (0 : Int).toNat))) ++ ([c] : List Change)).length + (([] : List Change) ++ ((d.drop (k : Int).toNat).take ((d.length : Int).toNat - (k : Int).toNat))).length ≤ 268435456) ∧ Q (((([] : List Change) ++ ((d.drop (0 : Int).toNat).take ((k : Int).toNat - (0 : Int).toNat))) ++ ([c] : List Change)) ++ (([] : List Change) ++ ((d.drop (k : Int).toNat).take ((d.length : Int).toNat - (k : Int).toNat)))) := fun k hk h1 h2 => by
  have t1 : (d.drop (k : Int).toNat).take ((d.length : Int).toNat - (k : Int).toNat) = d.drop k := by
   rw [Int.toNat_natCast, Int.toNat_natCast]; exact List.take_of_length_le (by rw [List.length_drop]; exact Nat.le_refl _)
  have t2 : (d.drop (0 : Int).toNat).take ((k : Int).toNat - (0 : Int).toNat) = d.take k := by
   rw [Int.toNat_natCast, show (0 : Int).toNat = 0 from rfl, List.drop_zero, Nat.sub_zero]
  rw [t1, t2, List.nil_append, List.nil_append]
  refine ⟨OM, by simp only [List.length_nil, List.length_drop]; omega, OM, by simp only [List.length_nil, List.length_take]; omega, by simp only [List.length_take, List.length_singleton]; omega, by simp only [List.length_append, List.length_take, List.length_singleton, List.length_drop]; omega, fin k hk h1 h2⟩
 refine ⟨fun i => ∃ k : Nat, i = k ∧ k ≤ d.length ∧ ∀ j, j < k → Op.bytesLess (nth d (j : Int)).Id c.Id = true, fun i => (d.length - i).toNat, ⟨0, rfl, Nat.zero_le _, fun j h => absurd h OM⟩, ?_⟩
 rintro _ ⟨k, rfl, hk, h1⟩
 by_cases h : k < d.length
 ·rw [if_pos (by simpa using h)]
  refine ⟨OM, ?_⟩
  cases g : Op.bytesLess (nth d (k : Int)).Id c.Id with
  | true =>
   rw [if_pos rfl]
   refine ⟨OM, ⟨k + 1, OM, OM, fun j hj => ?_⟩, by dsimp only; omega⟩
   rcases Nat.lt_or_ge j k with g1 | g1
   ·exact h1 j g1
   ·have : j = k := by omega
    rw [this]; exact g
  | false =>
   rw [if_neg RD]
   exact out k hk h1 (.inr g)
 ·rw [if_neg (by simpa using h)]
  have : k = d.length := by omega
  exact out k hk h1 (.inl this)
theorem F102.law (c : Change) (Q : Change → Prop) (hb : bulk c ≤ 1048576) (hq : Q c) : F102.E c Q := by
 unfold F102.E
 have h := bulk_change c
 exact F83.law _ _ OM (F83.law _ _ OM hq)
theorem F130.law (c : Change) (Q : Bool → Prop) (hq : Q (changeOk c)) : F130.E c Q := by
 unfold F130.E
 unfold changeOk sideOk noF sameC at hq
 have eid : ∀ f : Feat, (f.Id == c.Id) = decide (f.Id = c.Id) := fun f => by rw [Bool.eq_iff_iff, beq_iff_eq, decide_eq_true_eq]
 refine F85.law _ _ ?_
 cases hw : wordOk c.Id with
 | false => rw [hw] at hq; rw [if_pos RD]; exact hq
 | true =>
  rw [hw, Bool.true_and] at hq
  rw [if_neg RD]
  cases h1 : c.Had <;> cases h2 : c.Has
  ·-- neither
   rw [h1, h2] at hq
   rw [if_pos RD, if_pos RD]
   simp only [reduceIte, Bool.false_eq_true, Bool.true_eq_false, reduceCtorEq, if_false, if_true, eq_self, decide_true, decide_false, Bool.true_and, Bool.false_and, Bool.not_false, Bool.not_true, Bool.and_true] at hq
   have e : (decide (c.Was = (⟨[], ⟨0, []⟩, []⟩ : Feat)) && decide (c.Now = (⟨[], ⟨0, []⟩, []⟩ : Feat)) && !(decide (c.Was = c.Now))) = false := by
    by_cases a : c.Was = (⟨[], ⟨0, []⟩, []⟩ : Feat)
    ·by_cases b : c.Now = (⟨[], ⟨0, []⟩, []⟩ : Feat)
     ·rw [decide_eq_true (a.trans b.symm)]; simp
     ·rw [decide_eq_false b]; simp
    ·rw [decide_eq_false a]; rfl
   rw [e] at hq; exact hq
  ·rw [h1, h2] at hq
   simp only [reduceIte, Bool.false_eq_true, Bool.true_eq_false, reduceCtorEq, if_false, if_true, eq_self, decide_true, decide_false, Bool.true_and, Bool.false_and, Bool.not_false, Bool.not_true, Bool.and_true] at hq
   rw [if_pos RD, if_neg RD, if_neg RD]
   refine F45.law _ _ _ ?_
   cases ha : decide (c.Was = (⟨[], ⟨0, []⟩, []⟩ : Feat)) with
   | false => rw [ha] at hq; rw [if_pos RD]; exact hq
   | true =>
    rw [ha, Bool.true_and] at hq
    rw [if_neg RD]
    refine F87.law _ _ ?_
    cases hf : featOk c.Now with
    | false => rw [hf] at hq; rw [if_neg RD]; exact hq
    | true => rw [hf, Bool.true_and] at hq; rw [if_pos rfl, eid]; exact hq
  ·rw [h1, h2] at hq
   simp only [reduceIte, Bool.false_eq_true, Bool.true_eq_false, reduceCtorEq, if_false, if_true, eq_self, decide_true, decide_false, Bool.true_and, Bool.false_and, Bool.not_false, Bool.not_true, Bool.and_true] at hq
   rw [if_neg RD, if_pos rfl, if_neg RD, if_pos RD]
   refine F45.law _ _ _ ?_
   cases ha : decide (c.Now = (⟨[], ⟨0, []⟩, []⟩ : Feat)) with
   | false => rw [ha, Bool.and_false] at hq; rw [if_pos RD]; exact hq
   | true =>
    rw [ha, Bool.and_true] at hq
    rw [if_neg RD]
    refine F87.law _ _ ?_
    cases hf : featOk c.Was with
    | false => rw [hf] at hq; rw [if_neg RD]; exact hq
    | true =>
     rw [hf, Bool.true_and] at hq; rw [if_pos rfl, eid]
     cases hi : decide (c.Was.Id = c.Id) with
     | false => rw [hi] at hq; rw [if_neg RD]; exact hq
     | true => rw [hi] at hq; rw [if_pos rfl]; exact hq
  ·rw [h1, h2] at hq
   simp only [reduceIte, Bool.false_eq_true, Bool.true_eq_false, reduceCtorEq, if_false, if_true, eq_self, decide_true, decide_false, Bool.true_and, Bool.false_and, Bool.not_false, Bool.not_true, Bool.and_true] at hq
   rw [if_neg RD, if_pos rfl, if_pos rfl]
   refine F45.law _ _ _ ?_
   cases hs : decide (c.Was = c.Now) with
   | true => rw [hs, Bool.not_true, Bool.and_false] at hq; rw [if_pos rfl]; exact hq
   | false =>
    rw [hs, Bool.not_false, Bool.and_true] at hq
    rw [if_neg RD, if_neg RD]
    refine F87.law _ _ ?_
    cases hf : featOk c.Was with
    | false => rw [hf] at hq; rw [if_neg RD]; exact hq
    | true =>
     rw [hf, Bool.true_and] at hq; rw [if_pos rfl, eid]
     cases hi : decide (c.Was.Id = c.Id) with
     | false => rw [hi] at hq; rw [if_neg RD]; exact hq
     | true =>
      rw [hi, Bool.true_and] at hq; rw [if_pos rfl]
      refine F87.law _ _ ?_
      cases hg : featOk c.Now with
      | false => rw [hg] at hq; rw [if_neg RD]; exact hq
      | true => rw [hg, Bool.true_and] at hq; rw [if_pos rfl, eid]; exact hq
theorem F101.law (d : List Change) (Q : Bool → Prop) (hq : Q (diffOk d)) : F101.E d Q := by
 unfold F101.E
 unfold diffOk at hq
 refine loop_all d.length (fun k => changeOk (nth d (k : Int)) && (decide (k = 0) || Op.bytesLess (nth d ((k : Int) - 1)).Id (nth d (k : Int)).Id)) (fun I mu k hk hp hn => ?_) (fun ha => ?_)
 ·have bad : (changeOk (nth d (k : Int)) && (decide (k = 0) || Op.bytesLess (nth d ((k : Int) - 1)).Id (nth d (k : Int)).Id)) = false → Q false := fun h => by
   rw [allN_false hk h, Bool.false_and] at hq; exact hq
  refine ⟨OM, _, F130.law _ _ rfl, ?_⟩
  cases h1 : changeOk (nth d (k : Int)) with
  | false => rw [if_pos RD]; exact bad (by rw [h1]; rfl)
  | true =>
   rw [if_neg RD]
   by_cases hk0 : k = 0
   ·rw [if_neg (by rw [decide_eq_true_eq]; omega)]
    obtain ⟨i1, i2⟩ := hn (by rw [h1, decide_eq_true hk0]; rfl)
    exact ⟨OM, i1, i2⟩
   ·rw [if_pos (by rw [decide_eq_true_eq]; omega)]
    refine ⟨OM, fun _ => by unfold I64; omega, OM, ?_⟩
    rw [← less_tri]
    cases h3 : Op.bytesLess (nth d ((k : Int) - 1)).Id (nth d (k : Int)).Id with
    | false => rw [if_pos RD]; exact bad (by rw [h3, h1, decide_eq_false hk0]; rfl)
    | true =>
     rw [if_neg RD]
     obtain ⟨i1, i2⟩ := hn (by rw [h3, h1, decide_eq_false hk0]; rfl)
     exact ⟨OM, i1, i2⟩
 ·rw [allN_true ha, Bool.true_and] at hq
  have e2 : decide ((d.length : Int) ≤ 16) = decide (d.length ≤ 16) := decide_eq_decide.2 OM
  rw [e2]; exact hq
theorem sameN_t {c : Change} (h1 : c.Had = c.Has) (h2 : c.Was = c.Now) : sameC c = true := by unfold sameC; rw [decide_eq_true h1, decide_eq_true h2]; rfl
theorem sameN_f1 {c : Change} (h : ¬ c.Was = c.Now) : sameC c = false := by unfold sameC; rw [decide_eq_false h, Bool.and_false]
theorem sameN_f2 {c : Change} (h : ¬ c.Had = c.Has) : sameC c = false := by unfold sameC; rw [decide_eq_false h, Bool.false_and]
theorem idsC_take {s : List Change} {u : Nat} (hu : u < s.length) : idsC (s.take (u + 1)) = idsC (s.take u) ++ [(nth s (u : Int)).Id] := by rw [take_nth s hu, idsC_app]; rfl
theorem F66.law (a b : List Change) (Q : List Change → Bool → Prop) (ba : bulk a ≤ 1048576) (bb : bulk b ≤ 1048576) (hq : Q (thenR a b) (thenOk a b)) : F66.E a b Q := by
 unfold F66.E
 have bad : thenOk a b = false → Q [] false := fun h => by unfold thenR at hq; rw [h, if_neg RD] at hq; exact hq
 refine F101.law _ _ ?_
 cases ka : diffOk a with
 | false => rw [if_pos RD]; exact bad (by unfold thenOk; rw [ka]; rfl)
 | true =>
  rw [if_neg RD]
  refine F101.law _ _ ?_
  cases kb : diffOk b with
  | false => rw [if_pos RD]; exact bad (by unfold thenOk; rw [ka, kb]; rfl)
  | true =>
   rw [if_neg RD]
   obtain ⟨sa, la, ca⟩ := diff_cs ka
   obtain ⟨sb, lb, cb⟩ := diff_cs kb
   refine ⟨fun xs i => ∃ u : Nat, i = u ∧ u ≤ a.length ∧ xs = thenL a b (idsC (a.take u)) ∧ ∀ id ∈ idsC (a.take u), clashAt a b id = false, fun _ i => (a.length - i).toNat, ⟨0, rfl, Nat.zero_le _, rfl, by simp [idsC]⟩, ?_⟩
   rintro _ _ ⟨u, rfl, hu, rfl, hcl⟩
   by_cases h : u < a.length
   ·rw [if_pos (by simpa using h)]
    have hin := nth_mem a h
    have hs := change_small (ca _ hin)
    have hfa := atC_of sa hin
    have ht := thenL_len a b (idsC (a.take u))
    have htl : (idsC (a.take u)).length ≤ u := by unfold idsC; rw [List.length_map, List.length_take]; omega
    have hia : (nth a (u : Int)).Id ∈ idsC a := List.mem_map.2 ⟨_, hin, rfl⟩
    have en := thenL_snoc a b (idsC (a.take u)) (nth a (u : Int)).Id
    rw [← idsC_take h] at en
    have nxt : clashAt a b (nth a (u : Int)).Id = false → ∀ id ∈ idsC (a.take (u + 1)), clashAt a b id = false := fun hc id hid => by
     rw [idsC_take h] at hid
     rcases List.mem_append.1 hid with hid | hid
     ·exact hcl id hid
     ·rw [List.mem_singleton.1 hid]; exact hc
    have b0 := atC_le b (nth a (u : Int)).Id
    have add : ∀ c : Change, c = compC a b (nth a (u : Int)).Id → sameC c = false → thenL a b (idsC (a.take u)) ++ [c] = thenL a b (idsC (a.take (u + 1))) := fun c hc k => by rw [← hc, k] at en; exact en.symm
    have old : ∀ c : Change, c = compC a b (nth a (u : Int)).Id → sameC c = true → thenL a b (idsC (a.take u)) = thenL a b (idsC (a.take (u + 1))) := fun c hc k => by rw [← hc, k] at en; rw [en]; simp
    refine ⟨OM, F120.law _ _ _ ⟨OM, F102.law _ _ OM ?_⟩⟩
    by_cases kb0 : atC b (nth a (u : Int)).Id < 0
    ·rw [if_neg (by rw [decide_eq_true_eq]; omega)]
     have hc : clashAt a b (nth a (u : Int)).Id = false := by unfold clashAt; rw [decide_eq_false (p := ¬ atC b _ < 0) (fun g => g kb0), Bool.and_false, Bool.false_and]
     have hcomp : nth a (u : Int) = compC a b (nth a (u : Int)).Id := by unfold compC; rw [if_pos kb0, hfa.2]
     by_cases k1 : (nth a (u : Int)).Had = (nth a (u : Int)).Has
     ·rw [if_neg (by rw [k1]; simp)]
      refine F45.law _ _ _ ?_
      by_cases k2 : (nth a (u : Int)).Was = (nth a (u : Int)).Now
      ·rw [decide_eq_true k2, if_neg RD]
       exact ⟨OM, ⟨u + 1, OM, OM, old _ hcomp (sameN_t k1 k2), nxt hc⟩, by dsimp only; omega⟩
      ·rw [decide_eq_false k2, if_pos RD]
       exact ⟨by simp only [List.length_cons, List.length_nil]; omega, OM, ⟨u + 1, OM, OM, add _ hcomp (sameN_f1 k2), nxt hc⟩, by dsimp only; omega⟩
     ·rw [if_pos (by rw [bne_iff_ne]; exact k1)]
      exact ⟨by simp only [List.length_cons, List.length_nil]; omega, OM, ⟨u + 1, OM, OM, add _ hcomp (sameN_f2 k1), nxt hc⟩, by dsimp only; omega⟩
    ·rw [if_pos (by rw [decide_eq_true_eq]; omega)]
     have hbm := atC_hit kb0
     have hbs := change_small (cb _ hbm.1)
     have hca : clashAt a b (nth a (u : Int)).Id = ((nth a (u : Int)).Has != (nth b (atC b (nth a (u : Int)).Id)).Had || !(decide ((nth a (u : Int)).Now = (nth b (atC b (nth a (u : Int)).Id)).Was))) := by
      unfold clashAt; rw [decide_eq_true hfa.1, decide_eq_true kb0, Bool.true_and, Bool.true_and, hfa.2]
     have clash : clashAt a b (nth a (u : Int)).Id = true → Q [] false := fun hc => bad (by
      unfold thenOk
      rw [List.any_eq_true.2 ⟨_, uniqC_mem.2 (.inl hia), hc⟩]; simp)
     refine ⟨OM, OM, ?_⟩
     cases k1 : (nth a (u : Int)).Has != (nth b (atC b (nth a (u : Int)).Id)).Had with
     | true => rw [if_pos rfl]; exact clash (by rw [hca, k1]; rfl)
     | false =>
      rw [if_neg RD]
      refine ⟨OM, OM, _, F45.law _ _ _ rfl, ?_⟩
      cases k2 : decide ((nth a (u : Int)).Now = (nth b (atC b (nth a (u : Int)).Id)).Was) with
      | false => rw [if_pos RD]; exact clash (by rw [hca, k1, k2]; rfl)
      | true =>
       rw [if_neg RD]
       have hc : clashAt a b (nth a (u : Int)).Id = false := by rw [hca, k1, k2]; rfl
       refine ⟨OM, OM, F83.law _ _ OM ?_⟩
       have hcomp : (⟨(nth a (u : Int)).Id, (nth a (u : Int)).Had, (nth a (u : Int)).Was, (nth b (atC b (nth a (u : Int)).Id)).Has, (nth b (atC b (nth a (u : Int)).Id)).Now⟩ : Change) = compC a b (nth a (u : Int)).Id := by unfold compC; rw [if_neg kb0, if_neg hfa.1, hfa.2]
       by_cases k3 : (nth a (u : Int)).Had = (nth b (atC b (nth a (u : Int)).Id)).Has
       ·rw [if_neg (by rw [k3]; simp)]
        refine F45.law _ _ _ ?_
        by_cases k4 : (nth a (u : Int)).Was = (nth b (atC b (nth a (u : Int)).Id)).Now
        ·rw [decide_eq_true k4, if_neg RD]
         exact ⟨OM, ⟨u + 1, OM, OM, old _ hcomp (sameN_t k3 k4), nxt hc⟩, by dsimp only; omega⟩
        ·rw [decide_eq_false k4, if_pos RD]
         exact ⟨by simp only [List.length_cons, List.length_nil]; omega, OM, ⟨u + 1, OM, OM, add _ hcomp (sameN_f1 k4), nxt hc⟩, by dsimp only; omega⟩
       ·rw [if_pos (by rw [bne_iff_ne]; exact k3)]
        exact ⟨by simp only [List.length_cons, List.length_nil]; omega, OM, ⟨u + 1, OM, OM, add _ hcomp (sameN_f2 k3), nxt hc⟩, by dsimp only; omega⟩
   ·rw [if_neg (by simpa using h)]
    have hue : u = a.length := by omega
    subst hue
    rw [List.take_length] at hcl ⊢
    have hia : ∀ id ∈ idsC a, id ∈ idsC a ∨ id ∈ idsC b := fun id hid => .inl hid
    have hla : (idsC a).length = a.length := by unfold idsC; exact List.length_map _
    have t0 := thenL_len a b (idsC a)
    have hid0 : ∀ x ∈ thenL a b (idsC a), x.Id ∈ idsC a := fun x hx => by
     obtain ⟨⟨id, h1, rfl⟩, _⟩ := thenL_mem.1 hx
     rw [compC_id (.inl h1)]; exact h1
    refine ⟨fun xs i => ∃ v : Nat, i = v ∧ v ≤ b.length ∧ CS xs ∧ (∀ x, x ∈ xs ↔ x ∈ thenL a b (idsC a) ∨ (x ∈ b.take v ∧ x.Id ∉ idsC a)) ∧ xs.length ≤ 16 + v, fun _ i => (b.length - i).toNat, ⟨0, rfl, Nat.zero_le _, thenL_cs sa.ids hia, by simp, OM⟩, ?_⟩
    rintro xs _ ⟨v, rfl, hv, h1, h2, h3⟩
    by_cases g : v < b.length
    ·rw [if_pos (by simpa using g)]
     have hin := nth_mem b g
     have hs := change_small (cb _ hin)
     refine ⟨OM, F120.law _ _ _ ?_⟩
     by_cases ka0 : atC a (nth b (v : Int)).Id < 0
     ·rw [if_pos (by rw [decide_eq_true_eq]; exact ka0)]
      have hna := atC_miss ka0
      refine ⟨OM, F102.law _ _ OM (F136.law _ _ _ OM h1 (fun hm => ?_) fun r r1 r2 r3 => ⟨OM, ⟨v + 1, OM, OM, r1, fun x => ?_, OM⟩, by dsimp only; omega⟩)⟩
      ·obtain ⟨x, hx, hxe⟩ := List.mem_map.1 hm
       rcases (h2 x).1 hx with hx | ⟨hx, _⟩
       ·exact hna (by rw [← hxe]; exact hid0 x hx)
       ·have := sb.inj (List.mem_of_mem_take hx) hin hxe
        subst this
        obtain ⟨j, hj, hje⟩ := List.getElem_of_mem hx
        rw [List.length_take] at hj
        rw [List.getElem_take] at hje
        rw [nth_nat b g] at hje
        have := List.pairwise_iff_getElem.1 sb j v OM g OM
        rw [hje, less_irr] at this; cases this
      ·rw [r2, h2, take_nth b g, List.mem_append, List.mem_singleton]
       constructor
       ·rintro ((hx | ⟨hx, hn⟩) | hx)
        ·exact .inl hx
        ·exact .inr ⟨.inl hx, hn⟩
        ·exact .inr ⟨.inr hx, by rw [hx]; exact hna⟩
       ·rintro (hx | ⟨hx | hx, hn⟩)
        ·exact .inl (.inl hx)
        ·exact .inl (.inr ⟨hx, hn⟩)
        ·exact .inr hx
     ·rw [if_neg (by rw [decide_eq_true_eq]; exact ka0)]
      refine ⟨OM, ⟨v + 1, OM, OM, h1, fun x => ?_, OM⟩, by dsimp only; omega⟩
      rw [h2, take_nth b g, List.mem_append, List.mem_singleton]
      constructor
      ·rintro (hx | ⟨hx, hn⟩)
       ·exact .inl hx
       ·exact .inr ⟨.inl hx, hn⟩
      ·rintro (hx | ⟨hx | hx, hn⟩)
       ·exact .inl hx
       ·exact .inr ⟨hx, hn⟩
       ·exact absurd (atC_mem ka0) (by rw [← hx]; exact hn)
    ·rw [if_neg (by simpa using g)]
     have hve : v = b.length := by omega
     subst hve
     rw [List.take_length] at h2
     have hxs : xs = thenOut a b := CS.ext h1 (thenL_cs (uniq_ss _) fun id hid => uniqC_mem.1 hid) fun x => by
      rw [h2]
      constructor
      ·rintro (hx | ⟨hx, hn⟩)
       ·obtain ⟨⟨id, g1, g2⟩, g3⟩ := thenL_mem.1 hx
        exact thenL_mem.2 ⟨⟨id, uniqC_mem.2 (.inl g1), g2⟩, g3⟩
       ·have hf := atC_of sb hx
        have hna : atC a x.Id < 0 := Classical.byContradiction fun e => hn (atC_mem e)
        exact thenL_mem.2 ⟨⟨x.Id, uniqC_mem.2 (.inr (List.mem_map.2 ⟨x, hx, rfl⟩)), by unfold compC; rw [if_neg hf.1, if_pos hna]; exact hf.2⟩, (change_small (cb x hx)).2.1⟩
      ·intro hx
       obtain ⟨⟨id, g1, g2⟩, g3⟩ := thenL_mem.1 hx
       by_cases hi : id ∈ idsC a
       ·exact .inl (thenL_mem.2 ⟨⟨id, hi, g2⟩, g3⟩)
       ·right
        have hib : id ∈ idsC b := (uniqC_mem.1 g1).resolve_left hi
        have hxid : x.Id = id := by rw [← g2]; exact compC_id (.inr hib)
        have hna : atC a id < 0 := Classical.byContradiction fun e => hi (atC_mem e)
        have hnb : ¬ atC b id < 0 := fun e => atC_miss e hib
        refine ⟨?_, by rw [hxid]; exact hi⟩
        rw [← g2]; unfold compC; rw [if_neg hnb, if_pos hna]; exact (atC_hit hnb).1
     subst hxs
     have hany : (uniq (idsC a ++ idsC b)).any (clashAt a b) = false := by
      rw [List.any_eq_false]; intro id hid
      by_cases hi : id ∈ idsC a
      ·rw [hcl id hi]; exact Bool.false_ne_true
      ·have hna : atC a id < 0 := Classical.byContradiction fun e => hi (atC_mem e)
       unfold clashAt
       rw [decide_eq_false (p := ¬ atC a id < 0) (fun g => g hna), Bool.false_and, Bool.false_and]; exact Bool.false_ne_true
     refine F101.law _ _ ?_
     cases ko : diffOk (thenOut a b) with
     | false => rw [if_pos RD]; exact bad (by unfold thenOk; rw [ko, Bool.and_false])
     | true =>
      rw [if_neg RD]
      have hok : thenOk a b = true := by unfold thenOk; rw [ka, kb, hany, ko]; rfl
      unfold thenR at hq
      rw [hok, if_pos rfl] at hq
      exact hq
def ptT (p : Pt) : Str := [32] ++ Lib.itoa p.X ++ [44] ++ Lib.itoa p.Y
def shT (s : Shape) : Str := nth shapeNamesL s.Kind ++ s.Pts.flatMap ptT
def tagT (t : Tag) : Str := [32] ++ t.Key ++ [61] ++ t.Val
def featT (f : Feat) : Str := if featOk f then f.Id ++ [32] ++ shT f.Shape ++ f.Tags.flatMap tagT else []
def sideT (has : Bool) (f : Feat) : Str := if has then featT f else [45]
def lineT (c : Change) : Str := c.Id ++ [58, 32] ++ sideT c.Had c.Was ++ [32, 62, 32] ++ sideT c.Has c.Now ++ [10]
def diffT (d : List Change) : Str := if diffOk d then d.flatMap lineT else []
theorem loop_text {α : Type} [Inhabited α] (l : List α) (g : α → Str) (t0 : Str) (m M : Nat) (hm : ∀ x ∈ l, (g x).length ≤ m) (hM : t0.length + l.length * m ≤ M)
  {B : (Str → Int → Prop) → (Str → Int → Nat) → Str → Int → Prop} {F : Str → Prop}
  (hs : ∀ (I : Str → Int → Prop) (mu : Str → Int → Nat) (k : Nat) (out : Str), k < l.length → nth l (k : Int) ∈ l → out.length ≤ M →
   (∀ X, X = out ++ g (nth l (k : Int)) → I X ((k : Int) + 1) ∧ mu X ((k : Int) + 1) < mu out (k : Int)) → B I mu out (k : Int))
  (hF : F (t0 ++ l.flatMap g)) :
  ∃ (I : Str → Int → Prop) (mu : Str → Int → Nat), I t0 0 ∧ ∀ (out : Str) (i : Int), I out i → (if decide (i < (l.length : Int)) then B I mu out i else F out) := by
 have len : ∀ k, k ≤ l.length → (t0 ++ (l.take k).flatMap g).length ≤ M := fun k hk => by
  have : ∀ n : List α, (∀ x ∈ n, (g x).length ≤ m) → (n.flatMap g).length ≤ n.length * m := fun n => by
   induction n with
   | nil => intro _; simp
   | cons a n ih =>
    intro h
    rw [List.flatMap_cons, List.length_append, List.length_cons, Nat.add_mul]
    have h1 := h a (List.mem_cons_self ..)
    have h2 := ih fun x hx => h x (List.mem_cons_of_mem _ hx)
    omega
  have h1 := this (l.take k) fun x hx => hm x (List.mem_of_mem_take hx)
  have h2 : (l.take k).length * m ≤ l.length * m := Nat.mul_le_mul_right _ (by rw [List.length_take]; omega)
  rw [List.length_append]; omega
 refine ⟨fun out i => ∃ k : Nat, i = k ∧ k ≤ l.length ∧ out = t0 ++ (l.take k).flatMap g, fun _ i => ((l.length : Int) - i).toNat, ⟨0, rfl, Nat.zero_le _, by simp⟩, ?_⟩
 rintro _ _ ⟨k, rfl, hk, rfl⟩
 by_cases h : (k : Int) < (l.length : Int)
 ·rw [if_pos (by simpa using h)]
  refine hs _ _ k _ OM (nth_mem l OM) (len k hk) fun X hX => ⟨⟨k + 1, OM, OM, ?_⟩, OM⟩
  rw [hX, take_nth l OM, List.flatMap_append, List.flatMap_cons, List.flatMap_nil, List.append_nil, List.append_assoc]
 ·rw [if_neg (by simpa using h)]
  have : k = l.length := by omega
  subst this
  rw [List.take_length]; exact hF
theorem flatT_len {α : Type} (l : List α) (g : α → Str) (m : Nat) (hm : ∀ x ∈ l, (g x).length ≤ m) : (l.flatMap g).length ≤ l.length * m := by
 induction l with
 | nil => simp
 | cons a n ih =>
  rw [List.flatMap_cons, List.length_append, List.length_cons, Nat.add_mul]
  have h1 := hm a (List.mem_cons_self ..)
  have h2 := ih fun x hx => hm x (List.mem_cons_of_mem _ hx)
  omega
theorem shape_in {s : Shape} (h : shapeOk s = true) : (1 ≤ s.Kind ∧ s.Kind ≤ 3) ∧ s.Pts.length ≤ 6 ∧ ∀ p ∈ s.Pts, (-1000 ≤ p.X ∧ p.X ≤ 1000) ∧ -1000 ≤ p.Y ∧ p.Y ≤ 1000 := by
 have hp := shape_pts h
 unfold shapeOk at h
 rw [Bool.and_eq_true] at h
 refine ⟨?_, hp, fun p hm => ?_⟩
 ·have h2 := h.2
  unfold kindOk at h2
  by_cases k1 : s.Kind = 1
  ·omega
  ·rw [if_neg k1] at h2
   by_cases k2 : s.Kind = 2
   ·omega
   ·rw [if_neg k2] at h2
    by_cases k3 : s.Kind = 3
    ·omega
    ·rw [if_neg k3] at h2; cases h2
 ·obtain ⟨i, hi, rfl⟩ := List.mem_iff_getElem.1 hm
  have h1 := allN_iff.1 h.1 i hi
  rw [Bool.and_eq_true] at h1
  have h3 := h1.1
  have e : nth s.Pts (i : Int) = s.Pts[i] := by unfold nth; simp [hi]
  rw [e] at h3
  unfold ptOk inR at h3
  simp only [Bool.and_eq_true, decide_eq_true_eq] at h3
  omega
theorem ptT_len {p : Pt} (h : (-1000 ≤ p.X ∧ p.X ≤ 1000) ∧ -1000 ≤ p.Y ∧ p.Y ≤ 1000) : (ptT p).length ≤ 44 := by
 have h1 := itoa_len p.X OM OM
 have h2 := itoa_len p.Y OM OM
 unfold ptT
 simp only [List.length_append, List.length_cons, List.length_nil]; omega
theorem names_len : ∀ k : Int, (nth shapeNamesL k).length ≤ 4 := fun k => by
 by_cases h : 0 ≤ k ∧ k < 4
 ·have : k = 0 ∨ k = 1 ∨ k = 2 ∨ k = 3 := by omega
  rcases this with rfl | rfl | rfl | rfl <;> decide
 ·unfold nth
  by_cases h0 : k < 0
  ·have : k.toNat = 0 := by omega
   rw [this]; decide
  ·rw [show shapeNamesL.getD k.toNat default = default from by rw [List.getD_eq_getElem?_getD, List.getElem?_eq_none (by show 4 ≤ k.toNat; omega)]; rfl]; decide
theorem shT_len {s : Shape} (h : shapeOk s = true) : (shT s).length ≤ 268 := by
 obtain ⟨_, h2, h3⟩ := shape_in h
 have h4 := flatT_len s.Pts ptT 44 fun p hp => ptT_len (h3 p hp)
 have h5 := names_len s.Kind
 unfold shT
 rw [List.length_append]; omega
theorem featT_len (f : Feat) : (featT f).length ≤ 400 := by
 unfold featT
 by_cases h : featOk f = true
 ·rw [if_pos h]
  obtain ⟨h1, h2, _, h4, h5⟩ := feat_facts h
  have h6 := shT_len h2
  have h7 := flatT_len f.Tags tagT 14 fun t ht => by
   have := h5 t ht
   unfold tagT
   simp only [List.length_append, List.length_cons, List.length_nil]; omega
  simp only [List.length_append, List.length_cons, List.length_nil]; omega
 ·rw [if_neg h]; exact Nat.zero_le _
theorem sideT_len (b : Bool) (f : Feat) : (sideT b f).length ≤ 400 := by
 unfold sideT
 cases b
 ·exact (by decide : ([45] : Str).length ≤ 400)
 ·exact featT_len f
theorem lineT_len {c : Change} (h : c.Id.length ≤ 6) : (lineT c).length ≤ 812 := by
 have h1 := sideT_len c.Had c.Was
 have h2 := sideT_len c.Has c.Now
 unfold lineT
 simp only [List.length_append, List.length_cons, List.length_nil]; omega
theorem F25.law (s : Shape) (h : shapeOk s = true) (Q : Str → Prop) (hq : Q (shT s)) : F25.E s Q := by
 obtain ⟨h1, h2, h3⟩ := shape_in h
 have h0 := names_len s.Kind
 unfold F25.E
 refine ⟨⟨OM, by show s.Kind < 4; omega⟩, loop_text s.Pts ptT _ 44 300 (fun p hp => ptT_len (h3 p hp)) OM (fun I mu k out hk hm ho hn => ?_) hq⟩
 have hp := h3 _ hm
 have l1 := itoa_len (nth s.Pts (k : Int)).X OM OM
 have l2 := itoa_len (nth s.Pts (k : Int)).Y OM OM
 obtain ⟨i1, i2⟩ := hn (out ++ (((([32] : Str) ++ Lib.itoa (nth s.Pts (k : Int)).X) ++ ([44] : Str)) ++ Lib.itoa (nth s.Pts (k : Int)).Y)) rfl
 refine ⟨OM, _, ⟨⟨OM, OM⟩, rfl⟩, by unfold Lim; omega, ?_, ?_, _, ⟨⟨OM, OM⟩, rfl⟩, by unfold Lim; omega, ?_, ?_, by unfold I64; omega, i1, i2⟩
 all_goals (simp only [List.length_append, List.length_cons, List.length_nil]; omega)
theorem F48.law (f : Feat) (hb : bulk f ≤ 1048576) (Q : Str → Prop) (hq : Q (featT f)) : F48.E f Q := by
 unfold F48.E
 refine F98.law _ _ hb ?_
 unfold featT at hq
 by_cases h : featOk f = true
 ·rw [if_pos h] at hq
  obtain ⟨h1, h2, _, h4, h5⟩ := feat_facts h
  have l1 := shT_len h2
  rw [h, if_neg RD]
  refine ⟨?_, _, F25.law _ h2 _ rfl, by unfold Lim; omega, ?_, loop_text f.Tags tagT _ 14 400 (fun t ht => ?_) ?_ (fun I mu k out hk hm ho hn => ?_) hq⟩
  ·simp only [List.length_cons, List.length_nil]; omega
  ·simp only [List.length_append, List.length_cons, List.length_nil]; omega
  ·have := h5 t ht
   unfold tagT
   simp only [List.length_append, List.length_cons, List.length_nil]; omega
  ·simp only [List.length_append, List.length_cons, List.length_nil]; omega
  ·have ht := h5 _ hm
   obtain ⟨i1, i2⟩ := hn (out ++ (((([32] : Str) ++ ((nth f.Tags (k : Int)).Key)) ++ ([61] : Str)) ++ ((nth f.Tags (k : Int)).Val))) rfl
   refine ⟨OM, ?_, ?_, ?_, ?_, by unfold I64; omega, i1, i2⟩
   all_goals (simp only [List.length_append, List.length_cons, List.length_nil]; omega)
 ·rw [if_neg h] at hq
  rw [Bool.eq_false_iff.2 h, if_pos RD]; exact hq
theorem F26.law (has : Bool) (f : Feat) (hb : bulk f ≤ 1048576) (Q : Str → Prop) (hq : Q (sideT has f)) : F26.E has f Q := by
 unfold F26.E
 cases has with
 | false => rw [if_pos RD]; exact hq
 | true => rw [if_neg RD]; exact F48.law _ hb _ hq
theorem F49.law (d : List Change) (hb : bulk d ≤ 1048576) (Q : Str → Prop) (hq : Q (diffT d)) : F49.E d Q := by
 unfold F49.E
 refine F100.law _ _ hb ?_
 unfold diffT at hq
 by_cases h : diffOk d = true
 ·rw [if_pos h] at hq
  obtain ⟨_, h2, h3⟩ := diff_cs h
  rw [h, if_neg RD]
  have hid : ∀ c ∈ d, c.Id.length ≤ 6 := fun c hc => by
   have := h3 c hc
   unfold changeOk at this
   simp only [Bool.and_eq_true] at this
   exact word_len this.1.1.1
  refine loop_text d lineT _ 812 13000 (fun c hc => lineT_len (hid c hc)) (by show 0 + d.length * 812 ≤ 13000; omega) (fun I mu k out hk hm ho hn => ?_) hq
  have m1 := bulk_mem hm
  have hi := hid _ hm
  have b1 : bulk (nth d (k : Int)) = bulk (nth d (k : Int)).Id + bulk (nth d (k : Int)).Had + bulk (nth d (k : Int)).Was + bulk (nth d (k : Int)).Has + bulk (nth d (k : Int)).Now := rfl
  have l1 := sideT_len (nth d (k : Int)).Had (nth d (k : Int)).Was
  have l2 := sideT_len (nth d (k : Int)).Has (nth d (k : Int)).Now
  obtain ⟨i1, i2⟩ := hn (out ++ (((((((nth d (k : Int)).Id) ++ ([58, 32] : Str)) ++ sideT (nth d (k : Int)).Had (nth d (k : Int)).Was) ++ ([32, 62, 32] : Str)) ++ sideT (nth d (k : Int)).Has (nth d (k : Int)).Now) ++ ([10] : Str))) rfl
  refine ⟨OM, ?_, F26.law _ _ OM _ ⟨?_, ?_, F26.law _ _ OM _ ⟨?_, ?_, ?_, by unfold I64; omega, i1, i2⟩⟩⟩
  all_goals (simp only [List.length_append, List.length_cons, List.length_nil]; omega)
 ·rw [if_neg h] at hq
  rw [Bool.eq_false_iff.2 h, if_pos RD]; exact hq
theorem l12Dec_pos (R : Int → (Str → Prop) → Prop) (n : Int) (h0 : 0 ≤ n) (h1 : n ≤ 4611686018427387904) (Q : Str → Prop) (hq : Q (Lib.itoa n)) : F104.Er R n Q := by
 unfold F104.Er
 rw [if_neg (by rw [decide_eq_true_eq]; omega), if_neg (by rw [decide_eq_true_eq]; omega)]
 have hl := decDigits_len n.toNat 19 OM
 have hi : Lib.itoa n = Lib.decDigits n.toNat := by unfold Lib.itoa; rw [if_neg OM]
 refine ⟨fun k out => 0 ≤ k ∧ k ≤ n ∧ Lib.decDigits n.toNat = Lib.decDigits k.toNat ++ out, fun k _ => k.toNat, ⟨h0, Int.le_refl _, by simp⟩, ?_⟩
 rintro k out ⟨k0, kn, e⟩
 have hlen : (Lib.decDigits k.toNat).length + out.length ≤ 20 := by rw [e, List.length_append] at hl; exact hl
 by_cases hk : k > 9
 ·rw [if_pos (by simpa using hk)]
  have d : [(UInt8.ofNat (48 + k % 10).toNat)] = [UInt8.ofNat (48 + k.toNat % 10)] := by congr 2; omega
  have e2 : Lib.decDigits k.toNat = Lib.decDigits (k / 10).toNat ++ [UInt8.ofNat (48 + k.toNat % 10)] := by
   conv => lhs; rw [Lib.decDigits]
   rw [dif_neg OM]
   congr 2; omega
  refine ⟨⟨k0, by decide⟩, by unfold I64; omega, OM, ?_, OM, ⟨OM, OM, ?_⟩, by dsimp only; omega⟩
  ·simp only [List.length_cons, List.length_nil]; omega
  ·rw [e, e2, d, List.append_assoc]
 ·rw [if_neg (by simpa using hk)]
  have e2 : Lib.decDigits k.toNat = [UInt8.ofNat (48 + k).toNat] := by
   rw [Lib.decDigits, dif_pos OM]
   congr 2; omega
  refine ⟨by unfold I64; omega, OM, ?_, ?_⟩
  ·simp only [List.length_cons, List.length_nil]; omega
  ·rw [← e2, ← e, ← hi]; exact hq
theorem F104.law (n : Int) (h0 : -4611686018427387904 ≤ n) (h1 : n ≤ 4611686018427387904) (Q : Str → Prop) (hq : Q (Lib.itoa n)) : F104.E n Q := by
 unfold F104.E
 by_cases hn : 0 ≤ n
 ·exact l12Dec_pos _ n hn h1 Q hq
 ·unfold F104.Er
  rw [if_neg (by rw [decide_eq_true_eq]; omega), if_pos (by rw [decide_eq_true_eq]; omega)]
  have hl := itoa_len (-n) OM OM
  refine ⟨by unfold I64; omega, l12Dec_pos _ (-n) OM OM _ ⟨?_, ?_⟩⟩
  ·simp only [List.length_cons, List.length_nil]; omega
  ·have : [45] ++ Lib.itoa (-n) = Lib.itoa n := by
    unfold Lib.itoa
    rw [if_neg OM, if_pos OM]
    have : (-n).toNat = n.natAbs := by omega
    rw [this]; rfl
   rw [this]; exact hq
theorem F103.law (k : Int) (h : 0 ≤ k ∧ k < 4) (Q : Str → Prop) (hq : Q (nth shapeNamesL k)) : F103.E k Q := by
 unfold F103.E
 exact ⟨⟨h.1, by show k < 4; omega⟩, hq⟩
theorem F40.law (s : Shape) (h : shapeOk s = true) (hl : s.Pts.length ≤ 1048576) (Q : Str → Prop) (hq : Q (shT s)) : F40.E s Q := by
 obtain ⟨h1, h2, h3⟩ := shape_in h
 have h0 := names_len s.Kind
 unfold F40.E
 refine F68.law _ _ ?_
 rw [h, if_neg RD]
 refine F103.law _ OM _ (loop_text s.Pts ptT _ 44 300 (fun p hp => ptT_len (h3 p hp)) OM (fun I mu k out hk hm ho hn => ?_) hq)
 have hp := h3 _ hm
 have l1 := itoa_len (nth s.Pts (k : Int)).X OM OM
 have l2 := itoa_len (nth s.Pts (k : Int)).Y OM OM
 obtain ⟨i1, i2⟩ := hn ((((out ++ ([32] : Str)) ++ Lib.itoa (nth s.Pts (k : Int)).X) ++ ([44] : Str)) ++ Lib.itoa (nth s.Pts (k : Int)).Y) (by unfold ptT; simp only [List.append_assoc])
 refine ⟨?_, OM, _, F104.law _ OM OM _ rfl, by unfold Lim; omega, ?_, ?_, OM, _, F104.law _ OM OM _ rfl, by unfold Lim; omega, ?_, OM, i1, i2⟩
 all_goals (simp only [List.length_append, List.length_cons, List.length_nil]; omega)
theorem F51.law (f : Feat) (hb : bulk f ≤ 1048576) (Q : Str → Prop) (hq : Q (featT f)) : F51.E f Q := by
 unfold F51.E
 refine F87.law _ _ ?_
 unfold featT at hq
 by_cases h : featOk f = true
 ·rw [if_pos h] at hq
  obtain ⟨h1, h2, h3, h4, h5⟩ := feat_facts h
  have l1 := shT_len h2
  rw [h, if_neg RD]
  refine ⟨?_, _, F40.law _ h2 OM _ rfl, by unfold Lim; omega, ?_, loop_text f.Tags tagT _ 14 400 (fun t ht => ?_) ?_ (fun I mu k out hk hm ho hn => ?_) hq⟩
  ·simp only [List.length_cons, List.length_nil]; omega
  ·simp only [List.length_append, List.length_cons, List.length_nil]; omega
  ·have := h5 t ht
   unfold tagT
   simp only [List.length_append, List.length_cons, List.length_nil]; omega
  ·simp only [List.length_append, List.length_cons, List.length_nil]; omega
  ·have ht := h5 _ hm
   obtain ⟨i1, i2⟩ := hn ((((out ++ ([32] : Str)) ++ ((nth f.Tags (k : Int)).Key)) ++ ([61] : Str)) ++ ((nth f.Tags (k : Int)).Val)) (by unfold tagT; simp only [List.append_assoc])
   refine ⟨?_, OM, ?_, ?_, OM, ?_, OM, i1, i2⟩
   all_goals (simp only [List.length_append, List.length_cons, List.length_nil]; omega)
 ·rw [if_neg h] at hq
  rw [Bool.eq_false_iff.2 h, if_pos RD]; exact hq
theorem F105.law (f : Feat) (is : Bool) (hb : bulk f ≤ 1048576) (Q : Str → Prop) (hq : Q (sideT is f)) : F105.E f is Q := by
 unfold F105.E
 cases is with
 | false => rw [if_pos RD]; exact hq
 | true => rw [if_neg RD]; exact F51.law _ hb _ hq
theorem F52.law (d : List Change) (hb : bulk d ≤ 1048576) (Q : Str → Prop) (hq : Q (diffT d)) : F52.E d Q := by
 unfold F52.E
 unfold diffT at hq
 by_cases h : diffOk d = true
 ·rw [if_pos h] at hq
  obtain ⟨_, h2, h3⟩ := diff_cs h
  have hid : ∀ c ∈ d, c.Id.length ≤ 6 := fun c hc => by
   have := h3 c hc
   unfold changeOk at this
   simp only [Bool.and_eq_true] at this
   exact word_len this.1.1.1
  refine loop_text d lineT _ 812 13000 (fun c hc => lineT_len (hid c hc)) (by show 0 + d.length * 812 ≤ 13000; omega) (fun I mu k out hk hm ho hn => ?_) hq
  refine F101.law _ _ ?_
  rw [h, if_pos rfl]
  have m1 := bulk_mem hm
  have hi := hid _ hm
  have b1 : bulk (nth d (k : Int)) = bulk (nth d (k : Int)).Id + bulk (nth d (k : Int)).Had + bulk (nth d (k : Int)).Was + bulk (nth d (k : Int)).Has + bulk (nth d (k : Int)).Now := rfl
  have l1 := sideT_len (nth d (k : Int)).Had (nth d (k : Int)).Was
  have l2 := sideT_len (nth d (k : Int)).Has (nth d (k : Int)).Now
  obtain ⟨i1, i2⟩ := hn ((((((out ++ ((nth d (k : Int)).Id)) ++ ([58, 32] : Str)) ++ sideT (nth d (k : Int)).Had (nth d (k : Int)).Was) ++ ([32, 62, 32] : Str)) ++ sideT (nth d (k : Int)).Has (nth d (k : Int)).Now) ++ ([10] : Str)) (by unfold lineT; simp only [List.append_assoc])
  refine ⟨OM, ?_, ?_, OM, OM, _, F105.law _ _ OM _ rfl, by unfold Lim; omega, ?_, ?_, OM, OM, _, F105.law _ _ OM _ rfl, by unfold Lim; omega, ?_, ?_, OM, i1, i2⟩
  all_goals ((try simp only [List.length_append, List.length_cons, List.length_nil]); omega)
 ·rw [if_neg h] at hq
  have e : diffOk d = false := Bool.eq_false_iff.2 h
  refine ⟨fun out i => out = [] ∧ i = 0, fun _ _ => 0, ⟨rfl, rfl⟩, ?_⟩
  rintro _ _ ⟨rfl, rfl⟩
  by_cases h0 : (0 : Int) < (d.length : Int)
  ·rw [if_pos (by simpa using h0)]
   refine F101.law _ _ ?_
   rw [e, if_neg RD]; exact hq
  ·rw [if_neg (by simpa using h0)]; exact hq
theorem F74.law (d : List Feat) (Q : Bool → Prop) (hb : bulk d ≤ 1048576) (hq : Q (sheetOk d)) : F74.E d Q := by
 unfold F74.E
 unfold sheetOk at hq
 have hl := bulk_len d
 refine loop_all d.length (fun k => featOk (nth d (k : Int)) && (decide (k = 0) || Op.bytesLess (nth d ((k : Int) - 1)).Id (nth d (k : Int)).Id)) (fun I mu k hk hp hn => ?_) (fun ha => ?_)
 ·have bad : (featOk (nth d (k : Int)) && (decide (k = 0) || Op.bytesLess (nth d ((k : Int) - 1)).Id (nth d (k : Int)).Id)) = false → Q false := fun h => by
   rw [allN_false hk h, Bool.false_and] at hq; exact hq
  have m1 := bulk_mem (nth_mem d hk)
  refine ⟨OM, _, F98.law _ _ OM rfl, ?_⟩
  cases h1 : featOk (nth d (k : Int)) with
  | false => rw [if_pos RD]; exact bad (by rw [h1]; rfl)
  | true =>
   rw [if_neg RD]
   by_cases hk0 : k = 0
   ·rw [if_neg (by rw [decide_eq_true_eq]; omega)]
    obtain ⟨i1, i2⟩ := hn (by rw [h1, decide_eq_true hk0]; rfl)
    exact ⟨by unfold I64; omega, i1, i2⟩
   ·rw [if_pos (by rw [decide_eq_true_eq]; omega)]
    refine ⟨by unfold I64; omega, OM, ?_⟩
    cases h3 : Op.bytesLess (nth d ((k : Int) - 1)).Id (nth d (k : Int)).Id with
    | false => rw [if_pos RD]; exact bad (by rw [h3, h1, decide_eq_false hk0]; rfl)
    | true =>
     rw [if_neg RD]
     obtain ⟨i1, i2⟩ := hn (by rw [h3, h1, decide_eq_false hk0]; rfl)
     exact ⟨by unfold I64; omega, i1, i2⟩
 ·rw [allN_true ha, Bool.true_and] at hq
  have e2 : decide ((d.length : Int) ≤ 8) = decide (d.length ≤ 8) := decide_eq_decide.2 OM
  rw [e2]; exact hq
theorem F33.law (s : List Feat) (Q : List Feat → Prop) (hb : bulk s ≤ 1048576) (hq : Q s) : F33.E s Q := by
 unfold F33.E
 have hl := bulk_len s
 refine ⟨fun xs i => ∃ u : Nat, i = u ∧ u ≤ s.length ∧ xs = s.take u, fun _ i => (s.length - i).toNat, ⟨0, rfl, Nat.zero_le _, rfl⟩, ?_⟩
 rintro _ _ ⟨u, rfl, hu, rfl⟩
 by_cases h : u < s.length
 ·rw [if_pos (by simpa using h)]
  have hm := bulk_mem (nth_mem s h)
  refine ⟨OM, F39.law _ _ OM ⟨by simp only [List.length_take, List.length_cons, List.length_nil]; omega, by unfold I64; omega, ⟨u + 1, OM, OM, ?_⟩, by dsimp only; omega⟩⟩
  rw [take_nth s h]
 ·rw [if_neg (by simpa using h)]
  have : u = s.length := by omega
  subst this
  rw [List.take_length]; exact hq
theorem F2.law (s : List Feat) (f : Feat → Bool) (ok : Feat → Prop) (Q : Int → Prop) (hl : s.length ≤ 1048576) (hok : ∀ x ∈ s, ok x) (hq : Q (findN s.length fun j => f (nth s (j : Int)))) : F2.E s f ok Q := by
 unfold F2.E
 refine loop_find s.length (fun j => f (nth s (j : Int))) hq (fun I mu k hk h1 h2 => ⟨OM, hok _ (nth_mem s hk), ?_⟩)
 cases h : f (nth s (k : Int)) with
 | true => rw [if_pos rfl]; exact h1 h
 | false => rw [if_neg RD]; obtain ⟨i1, i2⟩ := h2 h; exact ⟨by unfold I64; omega, i1, i2⟩
theorem F107.law (s : List Feat) (id : Str) (Q : Int → Prop) (hl : s.length ≤ 1048576) (hq : Q (findN s.length fun j => (nth s (j : Int)).Id == id)) : F107.E s id Q := by
 unfold F107.E
 refine ⟨fun x => x.Id == id, fun x => x ∈ s, fun x hx => ?_, F2.law _ _ _ _ hl (fun x hx => hx) hq⟩
 unfold F55.E
 rfl
theorem F141.law (s : List Feat) (id : Str) (Q : Feat → Bool → Prop) (hb : bulk s ≤ 1048576) (hq : Q (sideOf s id).1 (sideOf s id).2) : F141.E s id Q := by
 unfold F141.E
 have hl := bulk_len s
 refine F107.law _ _ _ OM ?_
 have h1 := findN_le s.length fun j => (nth s (j : Int)).Id == id
 unfold sideOf at hq
 by_cases h : findN s.length (fun j => (nth s (j : Int)).Id == id) < 0
 ·rw [if_pos h] at hq; rw [if_pos (by simpa using h)]; exact hq
 ·rw [if_neg h] at hq; rw [if_neg (by simpa using h)]
  exact ⟨OM, F39.law _ _ (by have := bulk_mem (nth_memi s OM h1.2); omega) hq⟩
theorem F115.law (s : List Feat) (d : List Change) (Q : List Feat → Bool → Prop) (h1 : bulk s ≤ 1048576) (h2 : bulk d ≤ 1048576) (hq : Q (diffDo s d).1 (diffDo s d).2) : F115.E s d Q := by
 unfold F115.E
 unfold diffDo at hq
 have zq : (sheetOk s && diffOk d && d.all (fits s) && sheetOk (doL s d)) = false → Q [] false := fun h => by rw [h, if_neg RD] at hq; exact hq
 refine F74.law _ _ h1 ?_
 cases ks : sheetOk s with
 | false => rw [if_pos RD]; exact zq (by rw [ks]; rfl)
 | true =>
 rw [if_neg RD]
 refine F100.law _ _ h2 ?_
 cases kd : diffOk d with
 | false => rw [if_pos RD]; exact zq (by rw [ks, kd]; rfl)
 | true =>
 rw [if_neg RD]
 have fs := sheet_fs ks; have dc := diff_cs kd; have ls := (sheet_ss ks).2.1; have ld := dc.2.1
 have nd0 : (ids s).Nodup := (sheet_ss ks).1.imp fun {a b} h e => by rw [e, less_irr] at h; cases h
 refine F33.law _ _ h1 ?_
 refine ⟨fun xs i => ∃ u : Nat, i = u ∧ u ≤ d.length ∧ (ids xs).Nodup ∧ xs.length ≤ s.length + u ∧ (∀ f, f ∈ xs ↔ Mem s (d.take u) f) ∧ ∀ c ∈ d.take u, fits s c = true, fun _ i => (d.length - i).toNat, ⟨0, rfl, Nat.zero_le _, nd0, OM, fun f => (Mem.zero s d f).symm, by simp⟩, ?_⟩
 rintro xs _ ⟨u, rfl, hu, g1, g2, g3, g4⟩
 by_cases h : u < d.length
 ·rw [if_pos (by simpa using h)]
  have hm : nth d (u : Int) ∈ d := nth_mem d h
  have hb := change_small (dc.2.2 _ hm)
  have st := fun f => Mem.step (s := s) h dc.1 dc.2.2 f
  have bad : fits s (nth d (u : Int)) = false → Q [] false := fun kf => zq (by
   have : d.all (fits s) = false := by
    rw [List.all_eq_false]; exact ⟨_, hm, by rw [kf]; decide⟩
   rw [this]; simp)
  have sb := sideOf_small ks (nth d (u : Int)).Id
  have sb2 : (sideOf s (nth d (u : Int)).Id).1.Shape.Pts.length ≤ 1048576 ∧ (sideOf s (nth d (u : Int)).Id).1.Tags.length ≤ 1048576 := by
   have e := bulk_feat (sideOf s (nth d (u : Int)).Id).1
   have e2 := bulk_len (sideOf s (nth d (u : Int)).Id).1.Tags
   have e3 := bulk_len (sideOf s (nth d (u : Int)).Id).1.Shape.Pts
   omega
  refine ⟨OM, F141.law _ _ _ h1 ?_⟩
  by_cases k1 : (sideOf s (nth d (u : Int)).Id).2 = (nth d (u : Int)).Had
  case neg => rw [if_pos (by rw [bne_iff_ne]; exact k1)]; exact bad (by unfold fits; rw [decide_eq_false k1]; rfl)
  rw [if_neg (by rw [k1]; simp)]
  refine F46.law _ _ _ sb2 ?_
  by_cases k2 : (sideOf s (nth d (u : Int)).Id).1 = (nth d (u : Int)).Was
  case neg => rw [decide_eq_false k2, if_pos RD]; exact bad (by unfold fits; rw [decide_eq_false k2, Bool.and_false])
  rw [decide_eq_true k2, if_neg RD]
  have kf : fits s (nth d (u : Int)) = true := by unfold fits; rw [decide_eq_true k1, decide_eq_true k2]; rfl
  have g4' : ∀ c ∈ d.take (u + 1), fits s c = true := fun c hc => by
   rw [take_nth d h] at hc
   rcases List.mem_append.1 hc with hc | hc
   ·exact g4 c hc
   ·rw [List.mem_singleton.1 hc]; exact kf
  -- what follows when the name is gone
  have fin : ∀ ys : List Feat, (ids ys).Nodup → (∀ f, f ∈ ys ↔ f ∈ xs ∧ f.Id ≠ (nth d (u : Int)).Id) → ys.length ≤ xs.length →
    (if (nth d (u : Int)).Has = true then F39.E (nth d (u : Int)).Now (fun r => (ys.length + ([r] : List Feat).length ≤ 268435456) ∧ (I64 ((u : Int) + 1)) ∧ (∃ v : Nat, (u : Int) + 1 = v ∧ v ≤ d.length ∧ (ids (ys ++ [r])).Nodup ∧ (ys ++ [r]).length ≤ s.length + v ∧ (∀ f, f ∈ ys ++ [r] ↔ Mem s (d.take v) f) ∧ ∀ c ∈ d.take v, fits s c = true) ∧ (d.length - ((u : Int) + 1)).toNat < (d.length - (u : Int)).toNat)
    else (I64 ((u : Int) + 1)) ∧ (∃ v : Nat, (u : Int) + 1 = v ∧ v ≤ d.length ∧ (ids ys).Nodup ∧ ys.length ≤ s.length + v ∧ (∀ f, f ∈ ys ↔ Mem s (d.take v) f) ∧ ∀ c ∈ d.take v, fits s c = true) ∧ (d.length - ((u : Int) + 1)).toNat < (d.length - (u : Int)).toNat) := fun ys n1 n2 n3 => by
   split
   ·rename_i kh
    have hid := (now_id dc.2.2 hm kh).1
    refine F39.law _ _ OM ⟨by simp only [List.length_cons, List.length_nil]; omega, by unfold I64; omega, ⟨u + 1, OM, OM, ?_, by simp only [List.length_append, List.length_cons, List.length_nil]; omega, fun f => ?_, g4'⟩, OM⟩
    ·rw [ids_app]
     refine List.nodup_append.2 ⟨n1, by simp [ids], fun a ha b hb' => ?_⟩
     have hb' : b = (nth d (u : Int)).Now.Id := List.mem_singleton.1 hb'
     obtain ⟨f, hf, rfl⟩ := List.mem_map.1 ha
     rw [hb', hid]; exact ((n2 f).1 hf).2
    ·rw [List.mem_append, List.mem_singleton, n2, st, g3, kh]
     constructor
     ·rintro (hx | rfl)
      ·exact .inl hx
      ·exact .inr ⟨rfl, rfl⟩
     ·rintro (hx | ⟨_, rfl⟩)
      ·exact .inl hx
      ·exact .inr rfl
   ·rename_i kh
    refine ⟨by unfold I64; omega, ⟨u + 1, OM, OM, n1, OM, fun f => ?_, g4'⟩, OM⟩
    rw [n2, st, g3]
    constructor
    ·exact .inl
    ·rintro (hx | ⟨hx, _⟩)
     ·exact hx
     ·exact absurd hx kh
  refine F107.law _ _ _ OM ?_
  have hle := findN_le xs.length fun j => (nth xs (j : Int)).Id == (nth d (u : Int)).Id
  by_cases k3 : findN xs.length (fun j => (nth xs (j : Int)).Id == (nth d (u : Int)).Id) < 0
  ·rw [if_neg (by rw [decide_eq_true_eq]; omega)]
   refine fin xs g1 (fun f => ⟨fun hf => ⟨hf, fun e => ?_⟩, fun hf => hf.1⟩) (Nat.le_refl _)
   obtain ⟨k, hk, rfl⟩ := List.getElem_of_mem hf
   have := findN_neg k3 k hk
   rw [nth_nat xs hk] at this
   simp [e] at this
  ·obtain ⟨k, hk⟩ : ∃ k : Nat, findN xs.length (fun j => (nth xs (j : Int)).Id == (nth d (u : Int)).Id) = (k : Int) := ⟨_, (Int.toNat_of_nonneg OM).symm⟩
   obtain ⟨q1, q2⟩ := findN_true hk
   rw [hk, if_pos (by rw [decide_eq_true_eq]; omega)]
   have q3 : xs[k].Id = (nth d (u : Int)).Id := by rw [nth_nat xs q1] at q2; simpa using q2
   obtain ⟨m1, m2, m3⟩ := del_mem g1 q1
   unfold F11.E
   refine ⟨by unfold I64; omega, ⟨OM, OM, OM⟩, OM, ?_⟩
   rw [Int.toNat_natCast, show ((k : Int) + 1).toNat = k + 1 by omega]
   exact fin _ m1 (fun f => by rw [m2, q3]) OM
 ·rw [if_neg (by simpa using h)]
  have : u = d.length := by omega
  subst this
  rw [List.take_length] at g3 g4
  unfold F6.E
  refine ⟨OM, fun r hp hs => ?_⟩
  have n1 : (ids r).Nodup := (hp.map Feat.Id).nodup_iff.2 g1
  have g5 : FS r := by
   have h3 := List.Pairwise.and hs (List.pairwise_map.1 n1)
   refine h3.imp fun {a b} hab => ?_
   rcases less_or hab.1 with g | g
   ·exact g
   ·exact absurd g hab.2
  have e : r = doL s d := FS.ext g5 (doL_fs s dc.2.2) fun f => by rw [hp.mem_iff, g3, doL_mem fs dc.1 dc.2.2]
  subst e
  have ka : d.all (fits s) = true := List.all_eq_true.2 g4
  rw [ks, kd, ka] at hq
  have hsm := doL_small ks kd
  refine F74.law _ _ OM ?_
  cases ko : sheetOk (doL s d) with
  | false => rw [if_pos RD]; rw [ko, if_neg RD] at hq; exact hq
  | true =>
   rw [if_neg RD]
   rw [ko, if_pos RD] at hq
   exact F33.law _ _ OM hq
theorem F47.law (d : List Change) (Q : List Change → Prop) (hb : bulk d ≤ 1048576) (hq : Q (turnD d)) : F47.E d Q := by
 unfold F47.E
 have hl := bulk_len d
 refine F100.law _ _ OM ?_
 cases hk : diffOk d with
 | false =>
  have e : turnD d = [] := by unfold turnD; rw [hk]; rfl
  rw [e] at hq; rw [if_pos RD]; exact hq
 | true =>
  have e : turnD d = d.map turnC := by unfold turnD; rw [hk]; rfl
  rw [e] at hq
  rw [if_neg RD]
  refine ⟨fun xs i => ∃ u : Nat, i = u ∧ u ≤ d.length ∧ xs = (d.take u).map turnC, fun _ i => (d.length - i).toNat, ⟨0, rfl, Nat.zero_le _, rfl⟩, ?_⟩
  rintro _ _ ⟨u, rfl, hu, rfl⟩
  by_cases h : u < d.length
  ·rw [if_pos (by simpa using h)]
   have hm := bulk_mem (nth_mem d h)
   have hc := bulk_change (nth d (u : Int))
   refine ⟨OM, ?_⟩
   unfold F20.E
   refine F39.law _ _ (by dsimp only; omega) (F39.law _ _ (by dsimp only; omega) ⟨by simp only [List.length_map, List.length_take, List.length_cons, List.length_nil]; omega, by unfold I64; omega, ⟨u + 1, OM, OM, ?_⟩, by dsimp only; omega⟩)
   rw [take_nth d h, List.map_append]; rfl
  ·rw [if_neg (by simpa using h)]
   have : u = d.length := by omega
   subst this
   rw [List.take_length]; exact hq
theorem F3.law (a b : List Feat) (el : Feat → Feat → Bool) (ok : Feat → Feat → Prop) (Q : Bool → Prop) (hb : a.length ≤ 1048576) (hok : ∀ x y, x ∈ a → ok x y) (hel : ∀ x y, x ∈ a → el x y = decide (x = y)) (hq : Q (decide (a = b))) : F3.E a b el ok Q := by
 unfold F3.E
 exact eqF_shape a b el ok hok hel hb Q hq
theorem F43.law (a b : List Feat) (Q : Bool → Prop) (hb : bulk a ≤ 1048576) (hq : Q (decide (a = b))) : F43.E a b Q := by
 unfold F43.E
 have hl := bulk_len a
 refine ⟨fun x y => decide (x = y), fun x _ => x ∈ a, fun x y hx => F46.law x y _ ?_ rfl, F3.law a b _ _ _ OM (fun x y hx => hx) (fun _ _ _ => rfl) hq⟩
 have m := bulk_mem hx
 have b1 : bulk x = bulk x.Id + bulk x.Shape + bulk x.Tags := rfl
 have b2 : bulk x.Shape = bulk x.Shape.Kind + bulk x.Shape.Pts := rfl
 have l1 := bulk_len x.Tags; have l2 := bulk_len x.Shape.Pts
 omega
theorem laws_FnDiffThen.gen (code : List UInt8) (Q : Bool → Prop) (hq : Q true) : laws_FnDiffThen.E code Q := by
 unfold laws_FnDiffThen.E
 by_cases c1 : (code.length : Int) > 1048576
 ·rw [if_pos (by simpa using c1)]; exact hq
 rw [if_neg (by simpa using c1)]
 refine F13.law _ _ fun a b la lb ha hb => ?_
 have ba := cb_bulk la ha
 have bb := cb_bulk lb hb
 have br := thenR_small a b
 refine F54.law _ _ _ ba bb (F66.law _ _ _ ba bb ?_)
 rw [if_neg (by simp)]
 refine F49.law _ br _ (F52.law _ br _ ?_)
 rw [if_neg (by simp), if_neg (by simp)]
 have rest : (if !(thenOk a b) then Q (((thenR a b).length : Int) == 0) else F35.E code (fun r13 r14 => F115.E r13 a (fun r15 r16 => F115.E r15 b (fun r17 r18 => F115.E r13 (thenR a b) (fun r19 r20 => F100.E (thenR a b) (fun r21 => (if r21 then (if !r16 then Q (decide ((r14.length : Int) ≥ 0)) else (if !r18 then Q (decide ((r14.length : Int) ≥ 0)) else (if r20 then F43.E r19 r17 (fun r22 => (if r22 then Q (decide ((r14.length : Int) ≥ 0)) else Q false)) else Q false))) else Q false))))))) := by
  cases kt : thenOk a b with
  | false =>
   rw [if_pos RD]
   have : thenR a b = [] := by unfold thenR; rw [kt]; rfl
   rw [this]; exact hq
  | true =>
  rw [if_neg RD]
  refine F35.law _ _ fun s m ms _ _ => ?_
  have qd : Q (decide ((m.length : Int) ≥ 0)) := by rw [decide_eq_true OM]; exact hq
  have x1 := diffDo_small s a
  refine F115.law _ _ _ ms.small ba (F115.law _ _ _ OM bb (F115.law _ _ _ ms.small br (F100.law _ _ br ?_)))
  rw [thenR_ok kt, if_pos rfl]
  cases k1 : (diffDo s a).2 with
  | false => rw [if_pos RD]; exact qd
  | true =>
  rw [if_neg RD]
  cases k2 : (diffDo (diffDo s a).1 b).2 with
  | false => rw [if_pos RD]; exact qd
  | true =>
  rw [if_neg RD, then_do kt k1 k2, if_pos rfl]
  have x2 := diffDo_small (diffDo s a).1 b
  refine F43.law _ _ _ (by dsimp only; omega) ?_
  rw [decide_eq_true rfl, if_pos rfl]; exact qd
 refine F101.law _ _ ?_
 cases ka : diffOk a with
 | false => rw [if_neg RD]; exact rest
 | true =>
 rw [if_pos rfl]
 obtain ⟨u1, u2⟩ := then_undo ka
 refine F47.law _ _ ba (F54.law _ _ _ ba (Nat.le_trans (bulk_turnD _) ba) ?_)
 rw [u1, u2, if_neg RD, if_neg RD]
 exact rest
theorem laws_FnDiffThen.law (code : List UInt8) (_ : ∀ x ∈ code, True) : laws_FnDiffThen.E code (fun r => r = true) := laws_FnDiffThen.gen code _ rfl
theorem laidVars_at {P : Program} {w : World} : ∀ {l : List (String × DataW Unit)} {ps : List MemPlace} {i : Nat} {n : String} {d : DataW Unit}, DataW.LaidVars P w l ps → l[i]? = some (n, d) →
  ∃ g t cs fuel p, P.globalNamed n = some g ∧ (P.globals[g]?).map (·.type) = some t ∧ w.var? P n = some cs ∧ DataW.trod (fun _ => ()) P w 0 (fun _ => true) false fuel t cs.toList = some (d, p) ∧ ∀ x ∈ MemPlace.row ⟨g, 0, none⟩ cs.size, x ∈ ps
 | [], _, _, _, _, _, h => by simp at h
 | (n', d') :: r, _, 0, n, d, ⟨g, t, cs, fuel, p, q, h1, h2, h3, h4, h5, e⟩, h => by
  simp only [List.getElem?_cons_zero, Option.some.injEq, Prod.mk.injEq] at h
  obtain ⟨rfl, rfl⟩ := h
  exact ⟨g, t, cs, fuel, p, h1, h2, h3, h4, fun x hx => by rw [e]; simp [hx]⟩
 | _ :: r, _, i + 1, n, d, ⟨g, t, cs, fuel, p, q, h1, h2, h3, h4, h5, e⟩, h => by
  obtain ⟨g', t', cs', f', p', a1, a2, a3, a4, a5⟩ := laidVars_at h5 (by simpa using h)
  exact ⟨g', t', cs', f', p', a1, a2, a3, a4, fun x hx => by rw [e]; simp [a5 x hx]⟩
theorem laid_box {P : Program} {w : World} {l : List (String × DataW Unit)} {i : Nat} {n : String} {d : DataW Unit} {g : Nat} {t : TypeId} (hL : laidMet P l w) (hi : l[i]? = some (n, d)) (hg : P.globalNamed n = some g) (ht : (P.globals[g]?).map (·.type) = some t) :
  ∃ cs fuel p, w.var? P n = some cs ∧ DataW.trod (fun _ => ()) P w 0 (fun _ => true) false fuel t cs.toList = some (d, p) ∧ (0 < cs.size → Bx w g cs.toList) := by
 obtain ⟨ps, h1, _, h3⟩ := hL
 obtain ⟨g', t', cs, fuel, p, a1, a2, a3, a4, a5⟩ := laidVars_at h1 hi
 obtain rfl := Option.some.inj (hg.symm.trans a1)
 obtain rfl := Option.some.inj (ht.symm.trans a2)
 refine ⟨cs, fuel, p, a3, a4, fun h0 => ?_⟩
 obtain ⟨⟨c, t', hh⟩, _⟩ := h3 g 0 (a5 _ (by unfold MemPlace.row; exact List.mem_map.2 ⟨0, List.mem_range.2 h0, rfl⟩))
 unfold World.var? at a3
 rw [hg] at a3
 simp only [Option.bind_some, hh, Option.some.injEq] at a3
 subst a3
 exact ⟨t', by rw [hh]⟩
theorem arr_vs {w : World} {S : Sp} : ∀ {ls : List Str}, (∀ x ∈ ls, Lim x) → Arr Kd.str w S ls (ls.map vs)
 | [], _ => rfl
 | x :: l, h => ⟨[vs x], l.map vs, rfl, ⟨rfl, h x (List.mem_cons_self ..)⟩, arr_vs fun y hy => h y (List.mem_cons_of_mem _ hy)⟩
theorem laid_strs {P : Program} {H : Type} {enc : TypeId × Value → H} {w : World} {t e : TypeId} {held : Bool} (ht : P.underlying t = some (.slice e)) (he : P.underlying e = some .string) (hce : P.cellsOf e = 1) {fuel : Nat} {cs : List Value} {ls : List Str} {p : List MemPlace} (hlim : ∀ x ∈ ls, Lim x)
  (h : DataW.trod enc P w 0 (fun _ => true) held fuel t cs = some (.slice (ls.map fun s => .lit (.string s)) [], p)) : ∃ A : Option Addr, cs = [.slice A ls.length ls.length] ∧ Sl Kd.str w (Fr []) (.slice A ls.length ls.length) ls := by
 rcases DataW.trod_slice ht h with ⟨_, e0⟩ | ⟨a, len, cap, elems, rest, n, _, rfl, hx, _, hl, hm, hlen, hel, hsp, _⟩
 ·simp only [Prod.mk.injEq, reduceCtorEq, false_and] at e0
 ·simp only [Prod.mk.injEq, DataW.slice.injEq] at hx
  obtain ⟨⟨hx1, hx2⟩, _⟩ := hx
  obtain ⟨hr, _⟩ := hsp rfl
  have hr0 : rest = [] := by
   cases rest with
   | nil => rfl
   | cons r rs => simp at hx2
  have hl2 : len = ls.length := by
   have := congrArg List.length hx1
   simp only [List.length_map] at this
   omega
  have hcl : cap = ls.length := by rw [hr0] at hr; simp at hr; omega
  subst hcl; subst hl2
  refine ⟨some a, rfl, some a, ls.length, ls.map vs, rfl, ⟨Nat.le_refl _, hm⟩, arr_vs hlim, fun j u hj => ⟨a, rfl, by simp [Fr], ?_⟩⟩
  have hjl : j < ls.length := by
   rcases Nat.lt_or_ge j ls.length with hq | hq
   ·exact hq
   ·rw [List.getElem?_eq_none (by simpa using hq)] at hj; cases hj
  have he' := hel j hjl
  rw [List.getElem?_eq_getElem OM, Option.bind_eq_some_iff] at he'
  obtain ⟨ci, hci, hti⟩ := he'
  obtain ⟨_, hcl, hcc⟩ := World.cells?_some hci
  obtain ⟨s, hs1, hs2, _⟩ := DataW.trod_string he hti
  have e1 : (ls.map fun s => (DataW.lit (.string s) : DataW H))[j]? = (elems.map (·.1))[j]? := by rw [hx1]
  rw [List.getElem?_map, List.getElem?_map, List.getElem?_eq_getElem hjl, List.getElem?_eq_getElem OM, hs2] at e1
  simp only [Option.map_some, Option.some.injEq, DataW.lit.injEq, Lit.string.injEq] at e1
  rw [List.getElem?_map, List.getElem?_eq_getElem hjl] at hj
  simp only [Option.map_some, Option.some.injEq] at hj
  have h0 := hcc 0 (by rw [hce]; omega)
  rw [hs1, add_add, hce, Nat.mul_one, Nat.add_zero] at h0
  rw [h0, ← hj, e1]
  simp [vs]
theorem glob_laid {W : World} {l : List (String × DataW Unit)} {i j : Nat} (hL : laidMet Tryz.prog l W)
  (hi : l[i]? = some ("loop.example/townland/impl.shapeNames", .slice (shapeNamesL.map fun s => .lit (.string s)) [])) (hj : l[j]? = some ("internal/strconv.uint64pow10", Lib.tabData .u64 Lib.pow10Tab)) : Glob W [] := by
 obtain ⟨cs, fuel, p, _, b1, c1⟩ := laid_box hL hi (g := 0) (t := 50) RK RK
 obtain ⟨A, e, hs⟩ := laid_strs Tryz.underlying50 Tryz.underlying9 RK RD b1
 obtain ⟨cs2, fuel2, p2, _, b2, c2⟩ := laid_box hL hj (g := 1) (t := 202) RK RK
 have e2 := Lib.cells_of_tab Tryz.underlying202 Tryz.underlying165 RK RK b2
 refine ⟨⟨A, ⟨?_, by simp⟩, hs⟩, ⟨?_, by simp⟩⟩
 ·have := c1 (by rw [← Array.length_toList, e]; exact Nat.one_pos)
  rw [e] at this; exact this
 ·have := c2 (by rw [← Array.length_toList, e2, List.length_map, Lib.pow10Tab_length]; decide)
  rw [e2] at this; exact this
end Go.Proofs.YtlaaehjcooonfaaGreatDoor
namespace Go.Proofs.YtlaaehjcooonfaaGreatDoor.rFnDiffThen
open Go.ChangeShapes Go.WideShapes Go.ChangeAt Go.RowKit
open Go.ChangeMaps (open_string shut_string)
set_option linter.unusedVariables false
theorem own : ownKnob Tryz.prog.godebug = none := by kernel_rfl
theorem laidOut : laidOutB Tryz.prog = true := by kernel_rfl
theorem door_met (os : Os) (args : Array Value) : laidMetH Tryz.prog Rows.fnDiffThenRow.laid ((World.doorLaid Tryz.prog 29 os).forCall (fun _ _ => 0) ⟨#[], args, []⟩).memory :=
  laidMetH_of_parts3 (fuel := 8) (laidMet_of_run' 8 (by kernel_rfl) (by kernel_rfl)) (by kernel_rfl) (by kernel_rfl)
set_option maxHeartbeats 4000000 in
set_option maxRecDepth 100000 in
theorem lifted (os : Os) (started : os.Started) (H : Type) (enc : TypeId × Value → H) :
    ReturnsInHanded {} Tryz.checked os 9 .any (fun w args => (Rows.fnDiffThenSpec.pre enc Tryz.prog Tryz.f9 [] false w args ∧ laidMetH Tryz.prog Rows.fnDiffThenRow.laid w) ∧ sizedMet enc Tryz.prog Tryz.f9 (OpenSpec.ofChange Rows.fnDiffThenSpec) false w args) (Rows.fnDiffThenSpec.post enc Tryz.prog Tryz.f9 false true false false) := by
  refine returnsInHanded_of_change_and (C := Tryz.checked) (X := fun w _ => laidMetH Tryz.prog Rows.fnDiffThenRow.laid w) (fun _ _ _ hh h => h.of_heap hh) own started (by kernel_rfl) Tryz.func9
    (ChangeSpec.witness_shaped (enc := enc) (C := Tryz.checked) (os := os) (X := fun w _ => laidMetH Tryz.prog Rows.fnDiffThenRow.laid w) false (World.doorLaid Tryz.prog 29 os) #[.slice none 0 0] 8 rfl (World.shaped_of_RefB (by kernel_rfl) (by kernel_rfl)) (by kernel_rfl) (by kernel_rfl) (by kernel_rfl) (door_met os _)) ?_
  intro W base args ds gs before hval0 hW _ hsz0 hL _
  have hG : Glob W [] := glob_laid (i := 3) (j := 2) (by rw [← MakeChecks.laidMetH_plain _ _ _ (by kernel_rfl)]; exact hL) (by kernel_rfl) (by kernel_rfl)
  have hval : ∀ (j : Nat) t v, Tryz.f9.params[j]? = some t → args[j]? = some v → Value.okWide Tryz.prog W .any base t v := hval0
  have hW' := hW
  obtain ⟨p, q, hA0, hV, rfl, hfz, hnd⟩ := hW
  have hA : DataW.TrodAll enc Tryz.prog W 0 (fun _ => true) true Tryz.f9.params.toList args.toList ds p := hA0
  rw [Tryz.params9] at hA hval
  obtain ⟨v0, vs0, d0, ds0, p0, q0, hargs, rfl, rfl, h0, r0⟩ := trodAll_cons hA
  obtain ⟨rfl, rfl, rfl⟩ := trodAll_nil r0
  obtain rfl : args = #[v0] := by cases args; simp_all
  have hV0 : DataW.TrodVars enc Tryz.prog W (fun _ => true) ["loop.example/townland/impl.shapeNames"] gs q := hV
  obtain ⟨_, _, _, _, g1, _, hgs, _⟩ := trodVars_one hV0
  subst hgs
  have k0 := h0
  have lt0 : ∀ x ∈ p0, x.block < W.heap.size := by obtain ⟨m, hm⟩ := k0; exact DataW.trod_lt m _ _ _ hm
  obtain ⟨x0, hv0, hx0⟩ : ∃ a : List UInt8, (∀ y0 ∈ a, True) ∧ (Kd.sl Kd.byte).R W (Fr []) a v0.cells.toList := by obtain ⟨fuel, hf⟩ := h0; exact (Tr.sl Tryz.underlying22 (by kernel_rfl) (Tr.byte Tryz.underlying5)) H enc W fuel _ _ hf
  obtain ⟨a0, n0, c0, rfl⟩ := okWide_slice Tryz.underlying22 (hval 0 22 v0 rfl rfl)
  have s0 : Sl Kd.byte W (Fr []) (.slice a0 n0 c0) x0 := by obtain ⟨_, e, h⟩ := hx0; simp [Value.cells] at e; subst e; exact h
  clear hA0 hval0 hsz0
  refine Calls.mono (laws_FnDiffThen.calls W (Ok.nil W) hG x0 a0 n0 c0 s0 (fun r => r = true) (laws_FnDiffThen.law x0 hv0)) fun e W' ⟨v, he, r, hr, hq, hg⟩ => ?_
  subst he; subst hr; subst hq
  have bel := Gr.below hg
  exact ⟨_, rfl, _, _, _, [], _, _, hW', trodAll_mk1 (shut_bool Tryz.underlying4 _), (trodAll_cons_mk (Below.trod laidOut (by kernel_rfl) (of_decide_eq_true (by kernel_rfl)) k0 bel lt0) trodAll_mk0), Below.trodVars laidOut bel (by kernel_rfl) hV0, bel.frame _, fun h => by cases h⟩
theorem over : Rows.fnDiffThenRow.holds Tryz.pinned (OpenSpec.ofChange Rows.fnDiffThenSpec) :=
  OpenClaim.holds_of_wide 9 Tryz.f9 rfl rfl rfl rfl rfl rfl rfl ⟨rfl, rfl, rfl, rfl, rfl⟩ rfl rfl rfl rfl rfl (by kernel_rfl) Tryz.func9 (by kernel_rfl)
    (of_decide_eq_true (by kernel_rfl)) (by unfold Func.isWrapper; first | (rw [if_pos (by decide +kernel)]; kernel_rfl) | (rw [if_neg (by decide +kernel)]; exact ⟨rfl, rfl⟩))
    (fun os started H enc _ => lifted os started H enc)
theorem card : Rows.FnDiffThenCardSaid :=
  Claim7.holds_tied_plain_at .later [] [.data, .data, .data, .widerDeep] true (true, "e415afabf9b868df025d23cfa6c51a343106c6c6c244cd0de1bc1fd0934c8ded") false
    over (fun _ h => by cases h) (by kernel_rfl) (fun _ h => by cases h) fnDiffThen_row_tie rfl ⟨rfl, rfl⟩ (by kernel_rfl) rfl
    (fun f fn hf hfn => by
      obtain rfl : f = 9 := Option.some.inj ((show Tryz.prog.funcNamed "loop.example/townland/laws.FnDiffThen" = some 9 by kernel_rfl).symm.trans hf) |>.symm
      obtain rfl : fn = Tryz.f9 := (Option.some.inj (Tryz.func9.symm.trans hfn)).symm
      exact ⟨by kernel_rfl, fun j t ht => by
        rw [Tryz.params9] at ht
        have hm : t ∈ [22] := by simpa using Array.mem_of_getElem? ht
        have hall : ([22].all fun u => !Tryz.prog.wantsStandIn u) = true := by kernel_rfl
        exact (show Tryz.prog.wantsStandIn t = false by simpa using List.all_eq_true.1 hall t hm)⟩)
    (by kernel_rfl)
theorem proved : Rows.FnDiffThenCardSaid := card
#print axioms proved
end Go.Proofs.YtlaaehjcooonfaaGreatDoor.rFnDiffThen
namespace Go.Proofs.YtlaaehjcooonfaaGreatDoor
theorem fnDiffThen_holds : Rows.FnDiffThenCardSaid := rFnDiffThen.proved
end Go.Proofs.YtlaaehjcooonfaaGreatDoor