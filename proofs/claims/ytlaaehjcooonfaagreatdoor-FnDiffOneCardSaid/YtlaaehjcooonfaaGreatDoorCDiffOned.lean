/- It is proved here that the law FnDiffOne of the given program holds whatever it is handed: the walks through the code, the plain laws and the row, in this order.
   Conditions: none. -/
import Derived.Below
import Derived.ChangeArms
import Derived.ChangeOld
import Derived.ChangeSlices
import Derived.ChangeVars
import Derived.DataReads
import Derived.Deep.Quiet
import Derived.KernelRfl
import Derived.LaidHandle
import Derived.LaidLaws
import Derived.LaidMore
import Derived.Laws.Build
import Derived.Laws.IdiomStrings
import Derived.Laws.OwnMore
import Derived.Laws.Slices
import Derived.Laws.Strings2
import Derived.Laws.StructEq
import Derived.Lib.ItoaNum
import Derived.Lib.LaidTab
import Derived.MakeChecks
import Derived.OpenShut
import Derived.OpenVars
import Derived.ProofKit
import Derived.SevenTiedAt
import Derived.Shelf.LaysM
import Derived.Shelf.SlSortCmp.NoneTotal
import Derived.Shelf.SlSortCmp.WholeK
import Derived.Shelf.Slices.Cells
import Derived.Shelf.Slices.CompactS
import Derived.Shelf.Slices.In.SortNone
import Derived.Shelf.Small.Bits
import Derived.Shelf.Sort.Plain
import Derived.Shelf.Strconv.Itoa0
import Derived.Shelf.Strconv.Itoa1
import Derived.Shelf.Strconv.Itoa2
import Derived.Shelf.Strconv.Itoa3
import Derived.ShutString
import Derived.SizedLaws
import Derived.StillTail
import Derived.Stop.Joined
import Derived.Test.YtlaaehjcooonfaaGreatDoorCards
import Derived.Test.YtlaaehjcooonfaaGreatDoorProg
import Derived.Test.YtlaaehjcooonfaaGreatDoorRows
import Derived.Test.YtlaaehjcooonfaaGreatDoorTie
import Derived.WalkKit
import Derived.Test.YtlaaehjcooonfaaGreatDoorCDiffOnea
import Derived.Test.YtlaaehjcooonfaaGreatDoorCDiffOneb
import Derived.Test.YtlaaehjcooonfaaGreatDoorCDiffOnec
namespace Go.Proofs.YtlaaehjcooonfaaGreatDoor
set_option linter.unusedVariables false
set_option linter.unusedSimpArgs false
set_option linter.unusedSectionVars false
set_option maxHeartbeats 8000000
set_option maxRecDepth 100000
open Go.RowKit
variable {O : Ob} {w0 : World}
def PutS (s : List Feat) (f : Feat) (u : Nat) (xs : List Feat) (done : Bool) : Prop :=
 u ≤ s.length ∧ SS (ids xs) ∧ (∀ x, x ∈ ids xs ↔ x ∈ ids (s.take u) ∨ (done = true ∧ x = f.Id)) ∧ (done = false → (∀ x ∈ ids (s.take u), Op.bytesLess x f.Id = true) ∧ xs = s.take u) ∧
  (done = true → ∀ y ∈ ids (s.drop u), Op.bytesLess f.Id y = true) ∧ xs.length ≤ u + 1 ∧ (∀ z ∈ xs, z ∈ s ∨ z = f)
theorem ss_snoc {l : List Str} {x : Str} (h : SS l) (hx : ∀ y ∈ l, Op.bytesLess y x = true) : SS (l ++ [x]) := by
 unfold SS
 rw [List.pairwise_append]
 exact ⟨h, List.pairwise_singleton _ _, fun a ha b hb => by rw [List.mem_singleton.1 hb]; exact hx a ha⟩
theorem ids_take {s : List Feat} {u : Nat} (hu : u < s.length) : ids (s.take (u + 1)) = ids (s.take u) ++ [(nth s (u : Int)).Id] := by rw [take_nth s hu, ids_app]; rfl
theorem ids_cut (s : List Feat) (u : Nat) : ids s = ids (s.take u) ++ ids (s.drop u) := by rw [← ids_app, List.take_append_drop]
theorem dropNth {s : List Feat} {u : Nat} (hu : u < s.length) : s.drop u = nth s (u : Int) :: s.drop (u + 1) := by rw [nth_nat s hu]; exact List.drop_eq_getElem_cons hu
theorem ss_lt {s : List Feat} (h : SS (ids s)) {u : Nat} (hu : u < s.length) : (∀ x ∈ ids (s.take u), Op.bytesLess x (nth s (u : Int)).Id = true) ∧ ∀ y ∈ ids (s.drop (u + 1)), Op.bytesLess (nth s (u : Int)).Id y = true := by
 have e := ids_cut s u
 rw [dropNth hu] at e
 have e2 : ids (nth s (u : Int) :: s.drop (u + 1)) = (nth s (u : Int)).Id :: ids (s.drop (u + 1)) := rfl
 rw [e2] at e
 rw [e] at h
 obtain ⟨h1, h2, h3⟩ := List.pairwise_append.1 h
 exact ⟨fun x hx => h3 x hx _ List.mem_cons_self, (List.pairwise_cons.1 h2).1⟩
theorem F127.law (s : List Feat) (f : Feat) (Q : List Feat → Prop) (hl : s.length ≤ 1048576) (hs : SS (ids s)) (hq : ∀ r, SS (ids r) → (∀ x, x ∈ ids r ↔ x ∈ ids s ∨ x = f.Id) → r.length ≤ s.length + 1 → (∀ z ∈ r, z ∈ s ∨ z = f) → Q r) : F127.E s f Q := by
 unfold F127.E
 refine ⟨fun xs done i => ∃ u : Nat, i = u ∧ PutS s f u xs done, fun _ _ i => (s.length - i).toNat, ⟨0, rfl, Nat.zero_le _, by simp [ids, SS], by simp [ids], fun _ => ⟨by simp [ids], by simp⟩, (fun h => by cases h), by simp, by simp⟩, ?_⟩
 rintro xs done _ ⟨u, rfl, hu, h1, h2, h3, h4, h5, h6⟩
 by_cases h : u < s.length
 ·rw [if_pos (by simpa using h)]
  obtain ⟨b1, b2⟩ := ss_lt hs h
  have hin : nth s (u : Int) ∈ s := nth_mem s h
  have hdr : ∀ y ∈ ids (s.drop u), y = (nth s (u : Int)).Id ∨ y ∈ ids (s.drop (u + 1)) := fun y hy => by rw [dropNth h] at hy; exact List.mem_cons.1 hy
  have hcur : (nth s (u : Int)).Id ∈ ids (s.drop u) := by rw [dropNth h]; exact List.mem_cons_self
  have hdr' : ∀ y ∈ ids (s.drop (u + 1)), y ∈ ids (s.drop u) := fun y hy => by rw [dropNth h]; exact List.mem_cons_of_mem _ hy
  have stay : ∀ d, d = done → Op.bytesLess (nth s (u : Int)).Id f.Id = true ∨ d = true → xs.length + 1 ≤ u + 1 + 1 → PutS s f (u + 1) (xs ++ [nth s (u : Int)]) d := fun d hd hor hlen => by
   subst hd
   refine ⟨h, ?_, fun x => ?_, fun hdn => ⟨fun x hx => ?_, ?_⟩, fun hdn y hy => h4 hdn y (hdr' y hy), by simp only [List.length_append, List.length_singleton]; omega, fun z hz => ?_⟩
   ·rw [ids_app]
    refine ss_snoc h1 fun y hy => ?_
    rcases (h2 y).1 hy with hy | ⟨hd, rfl⟩
    ·exact b1 y hy
    ·exact h4 hd _ hcur
   ·rw [ids_app, List.mem_append, h2, ids_take h, List.mem_append]
    constructor
    ·rintro ((hx | hx) | hx)
     ·exact .inl (.inl hx)
     ·exact .inr hx
     ·exact .inl (.inr hx)
    ·rintro ((hx | hx) | hx)
     ·exact .inl (.inl hx)
     ·exact .inr hx
     ·exact .inl (.inr hx)
   ·rw [ids_take h] at hx
    rcases List.mem_append.1 hx with hx | hx
    ·exact (h3 hdn).1 x hx
    ·rw [List.mem_singleton.1 hx]
     rcases hor with hor | hor
     ·exact hor
     ·rw [hdn] at hor; cases hor
   ·rw [(h3 hdn).2, ← take_nth s h]
   ·rcases List.mem_append.1 hz with hz | hz
    ·exact h6 z hz
    ·rw [List.mem_singleton.1 hz]; exact .inl hin
  cases done with
  | true =>
   rw [if_neg RD]
   have hlt := h4 rfl _ hcur
   have hne : (nth s (u : Int)).Id ≠ f.Id := fun e => by rw [e, less_irr] at hlt; cases hlt
   refine ⟨OM, ?_⟩
   rw [if_pos (by rw [bne_iff_ne]; exact hne)]
   exact ⟨OM, by simp only [List.length_cons, List.length_nil]; omega, OM, ⟨u + 1, OM, stay true rfl (.inr rfl) OM⟩, by dsimp only; omega⟩
  | false =>
   rw [if_pos RD]
   obtain ⟨c1, c2⟩ := h3 rfl
   have hxl : xs.length = u := by rw [c2, List.length_take]; omega
   refine ⟨OM, ?_⟩
   cases k : Op.bytesLess (nth s (u : Int)).Id f.Id with
   | true =>
    rw [if_neg RD]
    have hne : (nth s (u : Int)).Id ≠ f.Id := fun e => by rw [e, less_irr] at k; cases k
    refine ⟨OM, ?_⟩
    rw [if_pos (by rw [bne_iff_ne]; exact hne)]
    exact ⟨OM, by simp only [List.length_cons, List.length_nil]; omega, OM, ⟨u + 1, OM, stay false rfl (.inl k) OM⟩, by dsimp only; omega⟩
   | false =>
    rw [if_pos RD]
    have g1 : SS (ids (xs ++ [f])) := by
     rw [ids_app]
     refine ss_snoc h1 fun y hy => ?_
     rcases (h2 y).1 hy with hy | ⟨hd, _⟩
     ·exact c1 y hy
     ·cases hd
    refine ⟨by simp only [List.length_cons, List.length_nil]; omega, OM, ?_⟩
    by_cases hne : (nth s (u : Int)).Id = f.Id
    ·rw [if_neg (by rw [hne]; simp)]
     refine ⟨OM, ⟨u + 1, OM, h, g1, fun x => ?_, (fun hd => by cases hd), fun _ y hy => by rw [← hne]; exact b2 y hy, by simp only [List.length_append, List.length_singleton]; omega, fun z hz => ?_⟩, by dsimp only; omega⟩
     ·rw [ids_app, List.mem_append, h2, ids_take h, List.mem_append, hne]
      show _ ∨ x ∈ [f.Id] ↔ _
      rw [List.mem_singleton]
      constructor
      ·rintro ((hx | ⟨hd, _⟩) | hx)
       ·exact .inl (.inl hx)
       ·cases hd
       ·exact .inr ⟨rfl, hx⟩
      ·rintro ((hx | hx) | ⟨_, hx⟩)
       ·exact .inl (.inl hx)
       ·exact .inr hx
       ·exact .inr hx
     ·rcases List.mem_append.1 hz with hz | hz
      ·exact h6 z hz
      ·exact .inr (List.mem_singleton.1 hz)
    ·rw [if_pos (by rw [bne_iff_ne]; exact hne)]
     have hlt : Op.bytesLess f.Id (nth s (u : Int)).Id = true := by
      rcases less_or k with g | g
      ·exact g
      ·exact absurd g.symm hne
     refine ⟨OM, by simp only [List.length_append, List.length_cons, List.length_nil]; omega, OM, ⟨u + 1, OM, h, ?_, fun x => ?_, (fun hd => by cases hd), fun _ y hy => less_trans hlt (b2 y hy), by simp only [List.length_append, List.length_singleton]; omega, fun z hz => ?_⟩, by dsimp only; omega⟩
     ·rw [ids_app]
      refine ss_snoc g1 fun y hy => ?_
      rw [ids_app] at hy
      rcases List.mem_append.1 hy with hy | hy
      ·rcases (h2 y).1 hy with hy | ⟨hd, _⟩
       ·exact b1 y hy
       ·cases hd
      ·have hy : y = f.Id := List.mem_singleton.1 hy
       rw [hy]; exact hlt
     ·rw [ids_app, ids_app, List.mem_append, List.mem_append, h2, ids_take h, List.mem_append]
      show (_ ∨ x ∈ [f.Id]) ∨ x ∈ [(nth s (u : Int)).Id] ↔ _
      rw [List.mem_singleton, List.mem_singleton]
      constructor
      ·rintro (((hx | ⟨hd, _⟩) | hx) | hx)
       ·exact .inl (.inl hx)
       ·cases hd
       ·exact .inr ⟨rfl, hx⟩
       ·exact .inl (.inr hx)
      ·rintro ((hx | hx) | ⟨_, hx⟩)
       ·exact .inl (.inl (.inl hx))
       ·exact .inr hx
       ·exact .inl (.inr hx)
     ·rcases List.mem_append.1 hz with hz | hz
      ·rcases List.mem_append.1 hz with hz | hz
       ·exact h6 z hz
       ·exact .inr (List.mem_singleton.1 hz)
      ·rw [List.mem_singleton.1 hz]; exact .inl hin
 ·rw [if_neg (by simpa using h)]
  have : u = s.length := by omega
  subst this
  rw [List.take_length] at h2 h3
  cases done with
  | true =>
   rw [if_neg RD]
   exact hq xs h1 (fun x => by rw [h2]; simp) h5 h6
  | false =>
   rw [if_pos RD]
   obtain ⟨c1, c2⟩ := h3 rfl
   refine ⟨by simp only [List.length_cons, List.length_nil]; omega, hq _ ?_ (fun x => ?_) (by rw [c2]; simp) fun z hz => ?_⟩
   ·rw [ids_app]
    refine ss_snoc h1 fun y hy => ?_
    rcases (h2 y).1 hy with hy | ⟨hd, _⟩
    ·exact c1 y hy
    ·cases hd
   ·rw [ids_app, List.mem_append, h2]
    show _ ∨ x ∈ [f.Id] ↔ _
    rw [List.mem_singleton]; simp
   ·rcases List.mem_append.1 hz with hz | hz
    ·exact h6 z hz
    ·exact .inr (List.mem_singleton.1 hz)
def putL (s : List Feat) (f : Feat) : List Feat := (s.filter fun x => Op.bytesLess x.Id f.Id) ++ f :: s.filter fun x => Op.bytesLess f.Id x.Id
theorem putL_ss {s : List Feat} (h : SS (ids s)) (f : Feat) : SS (ids (putL s f)) := by
 have h := List.pairwise_map.1 h
 refine List.pairwise_map.2 ?_
 unfold putL
 refine List.pairwise_append.2 ⟨h.filter _, List.pairwise_cons.2 ⟨fun x hx => (List.mem_filter.1 hx).2, h.filter _⟩, fun a ha b hb => ?_⟩
 have h1 := (List.mem_filter.1 ha).2
 rcases List.mem_cons.1 hb with rfl | hb
 ·exact h1
 ·exact less_trans h1 (List.mem_filter.1 hb).2
theorem putL_mem {s : List Feat} {f x : Feat} : x ∈ putL s f ↔ (x ∈ s ∧ x.Id ≠ f.Id) ∨ x = f := by
 unfold putL
 rw [List.mem_append, List.mem_cons, List.mem_filter, List.mem_filter]
 constructor
 ·rintro (⟨h1, h2⟩ | rfl | ⟨h1, h2⟩)
  ·exact .inl ⟨h1, fun e => by rw [e, less_irr] at h2; cases h2⟩
  ·exact .inr rfl
  ·exact .inl ⟨h1, fun e => by rw [e, less_irr] at h2; cases h2⟩
 ·rintro (⟨h1, h2⟩ | rfl)
  ·cases k : Op.bytesLess x.Id f.Id with
   | true => exact .inl ⟨h1, rfl⟩
   | false =>
    rcases less_or k with g | g
    ·exact .inr (.inr ⟨h1, g⟩)
    ·exact absurd g.symm h2
  ·exact .inr (.inl rfl)
theorem nodup_ss {l : List Str} (h : SS l) : l.Nodup := h.imp fun {x y} hxy e => by rw [e, less_irr] at hxy; cases hxy
theorem putL_ids {s : List Feat} {f : Feat} {i : Str} : i ∈ ids (putL s f) ↔ i ∈ ids s ∨ i = f.Id := by
 constructor
 ·intro h
  obtain ⟨x, hx, rfl⟩ := List.mem_map.1 h
  rcases putL_mem.1 hx with g | rfl
  ·exact .inl (List.mem_map.2 ⟨x, g.1, rfl⟩)
  ·exact .inr rfl
 ·rintro (h | rfl)
  ·obtain ⟨x, hx, rfl⟩ := List.mem_map.1 h
   by_cases e : x.Id = f.Id
   ·exact List.mem_map.2 ⟨f, putL_mem.2 (.inr rfl), e.symm⟩
   ·exact List.mem_map.2 ⟨x, putL_mem.2 (.inl ⟨hx, e⟩), rfl⟩
  ·exact List.mem_map.2 ⟨f, putL_mem.2 (.inr rfl), rfl⟩
theorem putL_len {s : List Feat} (hs : SS (ids s)) (f : Feat) : (putL s f).length = s.length + (if f.Id ∈ ids s then 0 else 1) := by
 have e1 : (ids (putL s f)).length = (putL s f).length := List.length_map _
 have e2 : (ids s).length = s.length := List.length_map _
 rw [← e1, ← e2]
 have h := putL_ss hs f
 by_cases g : f.Id ∈ ids s
 ·rw [if_pos g, SS.ext h hs fun x => by rw [putL_ids]; exact ⟨fun h => h.elim id fun e => e ▸ g, .inl⟩]; rfl
 ·rw [if_neg g]
  have p : (ids (putL s f)).Perm (f.Id :: ids s) := (List.perm_ext_iff_of_nodup (nodup_ss h) (List.nodup_cons.2 ⟨g, nodup_ss hs⟩)).2 fun x => by rw [putL_ids, List.mem_cons]; exact or_comm
  rw [p.length_eq, List.length_cons]
theorem putL_fs {s : List Feat} (hs : FS s) (f : Feat) : FS (putL s f) := FS.of_ids (putL_ss hs.toIds f)
theorem putL_ok {s : List Feat} {f : Feat} (hs : sheetOk s = true) (hf : featOk f = true) (hl : (putL s f).length ≤ 8) : sheetOk (putL s f) = true := by
 refine sheet_of (putL_ss (sheet_ss hs).1 f) hl fun x hx => ?_
 rcases putL_mem.1 hx with g | rfl
 ·exact (sheet_ss hs).2.2 x g.1
 ·exact hf
def putOf (s : List Feat) (f : Feat) : List Feat × Bool := if sheetOk s && featOk f && decide ((putL s f).length ≤ 8) then (putL s f, true) else ([], false)
theorem putOf_of {s : List Feat} {f : Feat} (h : (putOf s f).2 = true) : sheetOk s = true ∧ featOk f = true ∧ (putL s f).length ≤ 8 ∧ putOf s f = (putL s f, true) := by
 unfold putOf at h ⊢
 split at h
 ·rename_i g
  rw [if_pos g]
  simp only [Bool.and_eq_true, decide_eq_true_eq] at g
  exact ⟨g.1.1, g.1.2, g.2, rfl⟩
 ·cases h
theorem putOf_small (s : List Feat) (f : Feat) : bulk (putOf s f).1 ≤ 1000 := by
 unfold putOf
 split
 ·rename_i g
  simp only [Bool.and_eq_true, decide_eq_true_eq] at g
  have h := (MB.of (putL_ok g.1.1 g.1.2 g.2)).small
  exact Nat.le_trans h RD
 ·exact Nat.zero_le _
theorem sideOf_put {s : List Feat} (h : FS s) (f : Feat) (i : Str) : sideOf (putL s f) i = if i = f.Id then (f, true) else sideOf s i := by
 by_cases e : i = f.Id
 ·rw [if_pos e, e]; exact sideOf_of (putL_fs h f) (putL_mem.2 (.inr rfl))
 ·rw [if_neg e]
  refine sideOf_eq (putL_fs h f) h fun x hx => ?_
  rw [putL_mem]
  constructor
  ·rintro (g | rfl)
   ·exact g.1
   ·exact absurd hx.symm e
  ·intro g; exact .inl ⟨g, fun k => e (hx.symm.trans k)⟩
theorem side_ext {l m : List Feat} (hl : FS l) (hm : FS m) (h : ∀ i, sideOf l i = sideOf m i) : l = m := by
 have key : ∀ {a b : List Feat}, FS a → FS b → (∀ i, sideOf a i = sideOf b i) → ∀ f ∈ a, f ∈ b := fun ha hb h f hf => by
  have h1 := sideOf_of ha hf
  rw [h f.Id] at h1
  have h2 := (sideOf_hit (show (sideOf _ f.Id).2 = true by rw [h1])).1
  rw [h1] at h2; exact h2
 exact FS.ext hl hm fun f => ⟨key hl hm h f, key hm hl (fun i => (h i).symm) f⟩
theorem diffOf_is {a b : List Feat} (ha : sheetOk a = true) (hb : sheetOk b = true) : diffOf a b = diffL a b (uniq (ids a ++ ids b)) := by unfold diffOf; rw [ha, hb]; rfl
theorem diffL_in {a b : List Feat} {l : List Str} {c : Change} (h : c ∈ diffL a b l) : c = diffC a b c.Id ∧ c.Id ∈ l ∧ sameC c = false := by
 unfold diffL at h
 obtain ⟨h1, h2⟩ := List.mem_filter.1 h
 obtain ⟨x, hx, rfl⟩ := List.mem_map.1 h1
 exact ⟨rfl, hx, by simpa using h2⟩
theorem diffOf_mem {a b : List Feat} (ha : sheetOk a = true) (hb : sheetOk b = true) (i : Str) : (i ∈ idsC (diffOf a b) → diffC a b i ∈ diffOf a b) ∧ (i ∉ idsC (diffOf a b) → sideOf a i = sideOf b i) := by
 rw [diffOf_is ha hb]
 constructor
 ·intro h
  obtain ⟨c, hc, rfl⟩ := idsC_mem.1 h
  rw [← (diffL_in hc).1]; exact hc
 ·intro h
  by_cases hl : i ∈ ids a ++ ids b
  ·have hs : sameC (diffC a b i) = true := by
    cases k : sameC (diffC a b i) with
    | true => rfl
    | false =>
     refine absurd (idsC_mem.2 ⟨diffC a b i, ?_, rfl⟩) h
     unfold diffL
     exact List.mem_filter.2 ⟨List.mem_map.2 ⟨i, uniq_mem.2 hl, rfl⟩, by rw [k]; rfl⟩
   unfold sameC diffC at hs
   simp only [Bool.and_eq_true, decide_eq_true_eq] at hs
   exact Prod.ext hs.2 hs.1
  ·have h1 : ∀ {s : List Feat}, i ∉ ids s → sideOf s i = (zeroF, false) := fun {s} hn => by
    have : (sideOf s i).2 = false := by
     cases k : (sideOf s i).2 with
     | false => rfl
     | true => exact absurd (sideOf_iff.1 k) hn
    exact Prod.ext (sideOf_no this).1 this
   rw [h1 fun g => hl (List.mem_append_left _ g), h1 fun g => hl (List.mem_append_right _ g)]
theorem diffOf_ok {a b : List Feat} (ha : sheetOk a = true) (hb : sheetOk b = true) : diffOk (diffOf a b) = true := by
 rw [diffOf_is ha hb]
 have la := (sheet_ss ha).2.1
 have lb := (sheet_ss hb).2.1
 have l1 := diffL_len a b (uniq (ids a ++ ids b))
 have l2 := uniq_len (ids a ++ ids b)
 have l3 : (ids a ++ ids b).length = a.length + b.length := by unfold ids; simp
 refine diff_of ?_ OM fun c hc => ?_
 ·unfold CS diffL
  refine List.Pairwise.filter _ (List.pairwise_map.2 ?_)
  exact (uniq_ss (ids a ++ ids b)).imp fun {x y} h => h
 ·obtain ⟨e, hi, hs⟩ := diffL_in hc
  have side : ∀ {s : List Feat}, sheetOk s = true → sideOk c.Id (sideOf s c.Id).2 (sideOf s c.Id).1 = true := fun {s} h => by
   unfold sideOk
   cases k : (sideOf s c.Id).2 with
   | true =>
    obtain ⟨k1, k2⟩ := sideOf_hit k
    rw [if_pos rfl, (sheet_ss h).2.2 _ k1, decide_eq_true k2]; rfl
   | false =>
    rw [if_neg RD, (sideOf_no k).1]
    exact decide_eq_true rfl
  have hw : wordOk c.Id = true := by
   rcases List.mem_append.1 (uniq_mem.1 hi) with g | g
   all_goals
    obtain ⟨f, hf, e2⟩ := List.mem_map.1 g
    rw [← e2]
   ·exact (feat_words ((sheet_ss ha).2.2 f hf)).1
   ·exact (feat_words ((sheet_ss hb).2.2 f hf)).1
  unfold changeOk
  have e1 : sideOk c.Id c.Had c.Was = true := by
   have h1 : c.Had = (sideOf a c.Id).2 := congrArg Change.Had e
   have h2 : c.Was = (sideOf a c.Id).1 := congrArg Change.Was e
   rw [h1, h2]; exact side ha
  have e2 : sideOk c.Id c.Has c.Now = true := by
   have h1 : c.Has = (sideOf b c.Id).2 := congrArg Change.Has e
   have h2 : c.Now = (sideOf b c.Id).1 := congrArg Change.Now e
   rw [h1, h2]; exact side hb
  rw [hs, hw, e1, e2]; rfl
theorem diffOf_self {a b : List Feat} (ha : sheetOk a = true) (hb : sheetOk b = true) : diffOf a b = [] ↔ a = b := by
 constructor
 ·intro h
  refine side_ext (sheet_fs ha) (sheet_fs hb) fun i => (diffOf_mem ha hb i).2 ?_
  rw [h]; exact fun g => by cases g
 ·rintro rfl
  refine List.eq_nil_iff_forall_not_mem.2 fun x hx => ?_
  rw [diffOf_is ha ha] at hx
  obtain ⟨e, _, h3⟩ := diffL_in hx
  rw [e] at h3
  unfold sameC diffC at h3
  simp at h3
structure CB (c : Change) : Prop where
 id : c.Id.length ≤ 7
 was : FB 4 c.Was
 now : FB 4 c.Now
theorem CB.small {c : Change} (h : CB c) : bulk c ≤ 139 := by
 have e : bulk c = bulk c.Id + 0 + bulk c.Was + 0 + bulk c.Now := rfl
 have e2 : bulk c.Id = c.Id.length := bulk_str _
 have := h.id; have := h.was.small; have := h.now.small
 omega
theorem FB.zero : FB 4 zeroF := ⟨by decide, by decide, by decide, fun x hx => (by cases hx)⟩
theorem sideOf_fb {s : List Feat} (h : sheetOk s = true) (i : Str) : FB 4 (sideOf s i).1 := by
 cases g : (sideOf s i).2 with
 | true => exact FB.of ((sheet_ss h).2.2 _ (sideOf_hit g).1)
 | false => rw [(sideOf_no g).1]; exact FB.zero
theorem F67.law (code : List UInt8) (Q : List UInt8 → Int → Prop) (hq : ∀ b, b.length ≤ 2000 → Q b 0) : F67.E code Q := by
 unfold F67.E
 by_cases h : (code.length : Int) > 2000
 ·rw [if_pos (by simpa using h)]
  exact ⟨OM, hq _ (by rw [List.length_take]; omega)⟩
 ·rw [if_neg (by simpa using h)]
  exact hq _ OM
theorem ediv_le {p l : Int} (hp : 0 ≤ p) (hl : 0 < l) : 0 ≤ p / l ∧ p / l ≤ p := ⟨Int.ediv_nonneg hp OM, Int.ediv_le_self _ hp⟩
theorem F22.law (b : List UInt8) (p n : Int) (Q : Int → Int → Prop) (hb : b.length ≤ 2000) (hp : 0 ≤ p) (hp1 : p ≤ 1099511627776) (hq : ∀ v, 0 ≤ v → (v < n ∨ v = 0) → Q v (p + 1)) : F22.E b p n Q := by
 unfold F22.E
 refine ⟨by unfold I64; omega, ?_⟩
 by_cases hn : n < 1
 ·rw [if_pos (by simpa using hn)]; exact hq 0 OM (.inr rfl)
 rw [if_neg (by simpa using hn)]
 by_cases hl : (b.length : Int) = 0
 ·rw [if_pos (by simpa using hl)]; exact hq 0 OM (.inr rfl)
 rw [if_neg (by simpa using hl)]
 refine ⟨fun _ => by unfold I64; omega, ?_⟩
 rw [show p + 1 - 1 = p by omega]
 have fin : ∀ z : Int, 0 ≤ z → Q (z % n) (p + 1) := fun z hz => hq _ (Int.emod_nonneg _ OM) (.inl (Int.emod_lt_of_pos _ OM))
 by_cases hc : p < (b.length : Int)
 ·rw [if_pos (by simpa using hc)]
  exact ⟨OM, ⟨OM, OM⟩, fin _ OM⟩
 rw [if_neg (by simpa using hc)]
 have hlen : (0 : Int) < (b.length : Int) := by omega
 generalize hL : (b.length : Int) = L at *
 have m1 := Int.emod_nonneg p (show L ≠ 0 by omega)
 have m2 := Int.emod_lt_of_pos p hlen
 have m3 := Int.emod_nonneg (p * 7 + 3) (show L ≠ 0 by omega)
 have m4 := Int.emod_lt_of_pos (p * 7 + 3) hlen
 obtain ⟨d1, d2⟩ := ediv_le hp hlen
 generalize p % L = r1 at *
 generalize (p * 7 + 3) % L = r2 at *
 generalize p / L = q at *
 have u1 := (nth b r1).toNat_lt
 have u2 := (nth b r2).toNat_lt
 generalize (nth b r1).toNat = x1 at *
 generalize (nth b r2).toNat = x2 at *
 have s0 : 0 ≤ (x1 : Int) * 131 + (x2 : Int) * 1117 + p * 29 + q * 53 := by omega
 have s1 : (x1 : Int) * 131 + (x2 : Int) * 1117 + p * 29 + q * 53 ≤ 9223372036854775807 := by omega
 refine ⟨OM, OM, fun _ => by unfold I64; omega, fun _ => by unfold I64; omega, fun _ => by unfold I64; omega, OM, OM, fun _ => by unfold I64; omega, fun _ => by unfold I64; omega, fun _ => by unfold I64; omega, fun _ => by unfold I64; omega, OM, fun _ => by unfold I64; omega, fun _ => by unfold I64; omega, OM, ?_⟩
 generalize (x1 : Int) * 131 + (x2 : Int) * 1117 + p * 29 + q * 53 = s at *
 have hx : 0 ≤ xor64 s (s / 64) := xor64_nonneg ⟨s0, s1⟩ OM
 exact ⟨OM, fin _ hx⟩
theorem F37.law (b : List UInt8) (p : Int) (l : List Int) (Q : Int → Int → Prop) (hb : b.length ≤ 2000) (hp : 0 ≤ p) (hp1 : p ≤ 1099511627776) (hl : 0 < l.length) (hq : ∀ s ∈ l, Q s (p + 1)) : F37.E b p l Q := by
 unfold F37.E
 exact F22.law _ _ _ _ hb hp hp1 fun v h0 h1 => ⟨OM, hq _ (nth_memi l h0 OM)⟩
theorem F138.law (b : List UInt8) (p : Int) (Q : Pt → Int → Prop) (hb : b.length ≤ 2000) (hp : 0 ≤ p) (hp1 : p ≤ 1000000000) (hq : ∀ x y, 0 ≤ x → x ≤ 3 → 0 ≤ y → y ≤ 5 → Q ⟨x, y⟩ (p + 2)) : F138.E b p Q := by
 unfold F138.E
 refine F22.law _ _ _ _ hb hp OM fun v h0 h1 => F37.law _ _ _ _ hb OM OM RD fun y hy => ?_
 rw [show p + 1 + 1 = p + 2 by omega]
 simp only [List.mem_cons, List.not_mem_nil, or_false] at hy
 exact hq _ _ h0 OM OM OM
theorem F121.m_is (a b : Int) : F121.m a b = min a b := by
 unfold F121.m
 by_cases h : a < b
 ·simp [h]; omega
 ·simp [h]; omega
theorem F122.m_is (n : Int) : F122.m n = inR n := by
 unfold F122.m inR
 by_cases h : -1000 ≤ n
 ·rw [if_pos (by rw [decide_eq_true_eq]; omega), decide_eq_true h, Bool.true_and]
 ·rw [if_neg (by rw [decide_eq_true_eq]; omega), decide_eq_false h, Bool.false_and]
theorem F123.law (p : List Pt) (Q : Bool → Prop) (hq : Q (ptsOk p && decide (p.length ≤ 6))) : F123.E p Q := by
 unfold F123.E
 unfold ptsOk at hq
 refine loop_all p.length (fun k => ptOk (nth p (k : Int)) && (decide (k = 0) || !(decide (nth p ((k : Int) - 1) = nth p (k : Int))))) (fun I mu k hk hp hn => ?_) (fun ha => ?_)
 ·refine ⟨OM, ?_⟩
  rw [F122.m_is, F122.m_is]
  have bad : (ptOk (nth p (k : Int)) && (decide (k = 0) || !(decide (nth p ((k : Int) - 1) = nth p (k : Int))))) = false → Q false := fun h => by
   rw [allN_false hk h, Bool.false_and] at hq; exact hq
  cases h1 : inR (nth p (k : Int)).X with
  | false => rw [if_pos RD]; exact bad (by simp only [ptOk, h1, Bool.false_and])
  | true =>
   rw [if_neg RD]
   refine ⟨OM, ?_⟩
   cases h2 : inR (nth p (k : Int)).Y with
   | false => rw [if_pos RD]; exact bad (by simp only [ptOk, h2, Bool.and_false, Bool.false_and])
   | true =>
    rw [if_neg RD]
    have hpt : ptOk (nth p (k : Int)) = true := by simp only [ptOk, h1, h2, Bool.and_self]
    by_cases hk0 : k = 0
    ·rw [if_neg (by rw [decide_eq_true_eq]; omega)]
     obtain ⟨i1, i2⟩ := hn (by rw [hpt, decide_eq_true hk0]; rfl)
     exact ⟨OM, i1, i2⟩
    ·rw [if_pos (by rw [decide_eq_true_eq]; omega)]
     refine ⟨OM, fun _ => by unfold I64; omega, OM, ?_⟩
     rw [eqPt_is]
     by_cases he : nth p ((k : Int) - 1) = nth p (k : Int)
     ·rw [if_pos (by rw [decide_eq_true_eq]; exact he.symm)]
      exact bad (by rw [hpt, decide_eq_false hk0, decide_eq_true he]; rfl)
     ·rw [if_neg (by rw [decide_eq_true_eq]; exact fun e => he e.symm)]
      obtain ⟨i1, i2⟩ := hn (by rw [hpt, decide_eq_false hk0, decide_eq_false he]; rfl)
      exact ⟨OM, i1, i2⟩
 ·rw [allN_true ha, Bool.true_and] at hq
  have e2 : decide ((p.length : Int) ≤ 6) = decide (p.length ≤ 6) := decide_eq_decide.2 OM
  rw [e2]; exact hq
theorem F68.law (s : Shape) (Q : Bool → Prop) (hq : Q (shapeOk s)) : F68.E s Q := by
 unfold F68.E
 unfold shapeOk at hq
 refine F123.law _ _ ?_
 cases h1 : ptsOk s.Pts with
 | false => rw [h1, Bool.false_and] at hq; rw [Bool.false_and, if_pos RD]; exact hq
 | true =>
  rw [h1, Bool.true_and] at hq
  rw [Bool.true_and]
  unfold kindOk at hq
  by_cases h6 : s.Pts.length ≤ 6
  ·rw [decide_eq_true h6, if_neg RD]
   by_cases k1 : s.Kind = 1
   ·rw [if_pos k1] at hq
    rw [if_pos (by rw [beq_iff_eq]; exact k1)]
    have : ((s.Pts.length : Int) == 1) = decide (s.Pts.length = 1) := by rw [Bool.eq_iff_iff, beq_iff_eq, decide_eq_true_eq]; omega
    rw [this]; exact hq
   rw [if_neg k1] at hq
   rw [if_neg (by rw [beq_iff_eq]; exact k1)]
   by_cases k2 : s.Kind = 2
   ·rw [if_pos k2, decide_eq_true h6, Bool.and_true] at hq
    rw [if_pos (by rw [beq_iff_eq]; exact k2)]
    have : decide ((s.Pts.length : Int) ≥ 2) = decide (2 ≤ s.Pts.length) := decide_eq_decide.2 OM
    rw [this]; exact hq
   rw [if_neg k2] at hq
   rw [if_neg (by rw [beq_iff_eq]; exact k2)]
   by_cases k3 : s.Kind = 3
   ·rw [if_pos k3, decide_eq_true h6, Bool.and_true] at hq
    rw [if_pos (by rw [beq_iff_eq]; exact k3)]
    by_cases h3 : 3 ≤ s.Pts.length
    ·rw [decide_eq_true h3, Bool.true_and] at hq
     rw [if_pos (by rw [decide_eq_true_eq]; omega), eqPt_is]
     exact ⟨OM, fun _ => by unfold I64; omega, OM, hq⟩
    ·rw [decide_eq_false h3, Bool.false_and] at hq
     rw [if_neg (by rw [decide_eq_true_eq]; omega)]; exact hq
   ·rw [if_neg k3] at hq
    rw [if_neg (by rw [beq_iff_eq]; exact k3)]; exact hq
  ·rw [decide_eq_false h6, if_pos RD]
   have : (if s.Kind = 1 then decide (s.Pts.length = 1) else if s.Kind = 2 then decide (2 ≤ s.Pts.length) && decide (s.Pts.length ≤ 6)
 else if s.Kind = 3 then decide (3 ≤ s.Pts.length) && decide (s.Pts.length ≤ 6) && !(decide (nth s.Pts 0 = nth s.Pts ((s.Pts.length : Int) - 1))) else false) = false := by
    rw [decide_eq_false h6, decide_eq_false (show ¬ s.Pts.length = 1 by omega)]
    simp
   rw [this] at hq; exact hq
theorem F69.law (b : List UInt8) (p : Int) (Q : Shape → Int → Prop) (hb : b.length ≤ 2000) (hp : 0 ≤ p) (hp1 : p ≤ 100000000) (hq : ∀ s p', shapeOk s = true → (∀ q ∈ s.Pts, NX q) → p ≤ p' → p' ≤ p + 40 → Q s p') : F69.E b p Q := by
 unfold F69.E
 refine F37.law _ _ _ _ hb hp OM RD fun k hk => F22.law _ _ _ _ hb OM OM fun v hv0 hv1 => ?_
 have hk' : 1 ≤ k ∧ k ≤ 3 := by
  simp only [List.mem_cons, List.not_mem_nil, or_false] at hk; omega
 have fin : ∀ (xs : List Pt) (z : Int), (∀ q ∈ xs, NX q) → p ≤ z → z ≤ p + 30 → F68.E ⟨k, xs⟩ (fun r6 => (if !r6 then F138.E b z (fun r7 m4 => Q (⟨1, ([r7] : List Pt)⟩ : Shape) m4) else Q (⟨k, xs⟩ : Shape) z)) := fun xs z hx h1 h2 => by
  refine F68.law _ _ ?_
  cases h : shapeOk ⟨k, xs⟩ with
  | true => rw [if_neg RD]; exact hq _ _ h hx h1 OM
  | false => rw [if_pos RD]; exact F138.law _ _ _ hb OM OM fun x y x0 x1 y0 y1 => hq _ _ (dot_ok x0 OM y0 y1) (fun q hq' => by rw [List.mem_singleton.1 hq']; exact .of x1) OM OM
 refine ⟨by unfold I64; omega, fun w => 1 ≤ w ∧ w ≤ 6, by split <;> omega, ?_⟩
 rintro want ⟨w1, w2⟩
 refine ⟨fun i xs z => 0 ≤ i ∧ i ≤ 12 ∧ (xs.length : Int) ≤ i ∧ (∀ q ∈ xs, NX q) ∧ p + 2 ≤ z ∧ z ≤ p + 2 + 2 * i, fun i _ _ => (12 - i).toNat, ⟨OM, OM, by simp, by simp, OM, OM⟩, ?_⟩
 rintro i xs z ⟨h0, h1, h2, hx, h3, h4⟩
 by_cases hi : i < 12
 case neg => rw [if_neg (by simpa using hi)]; exact fin _ _ hx OM OM
 rw [if_pos (by simpa using hi)]
 by_cases hl : (xs.length : Int) < F121.m want 6
 case neg => rw [if_neg (by simpa using hl)]; exact fin _ _ hx OM OM
 rw [if_pos (by simpa using hl)]
 refine F138.law _ _ _ hb OM OM fun x y x0 x1 y0 y1 => ⟨fun _ => True, ?_, fun v _ => ⟨fun ys => (ys.length : Int) ≤ i + 1 ∧ ∀ q ∈ ys, NX q, ?_, fun ys hys => ⟨by unfold I64; omega, ⟨OM, OM, hys.1, hys.2, OM, OM⟩, by dsimp only; omega⟩⟩⟩
 ·by_cases h0 : (xs.length : Int) = 0
  ·rw [if_pos (by simpa using h0)]; trivial
  ·rw [if_neg (by simpa using h0)]
   refine ⟨fun _ => by unfold I64; omega, OM, ?_⟩
   split
   ·split
    ·trivial
    ·exact ⟨OM, trivial⟩
   ·trivial
 ·cases v with
  | true => rw [if_pos rfl]; exact ⟨by simp only [List.length_cons, List.length_nil]; omega, by simp only [List.length_append, List.length_cons, List.length_nil]; omega, fun q hq' => (List.mem_append.1 hq').elim (hx q) fun g => by rw [List.mem_singleton.1 g]; exact .of x1⟩
  | false => rw [if_neg RD]; exact ⟨OM, hx⟩
theorem F44.law (b : List UInt8) (p : Int) (l : List Str) (Q : Str → Int → Prop) (hb : b.length ≤ 2000) (hp : 0 ≤ p) (hp1 : p ≤ 1099511627776) (hl : 0 < l.length) (hq : ∀ s ∈ l, Q s (p + 1)) : F44.E b p l Q := by
 unfold F44.E
 exact F22.law _ _ _ _ hb hp hp1 fun v h0 h1 => ⟨OM, hq _ (nth_memi l h0 OM)⟩
theorem F124.law (b : List UInt8) (p : Int) (Q : Str → Int → Prop) (hb : b.length ≤ 2000) (hp : 0 ≤ p) (hp1 : p ≤ 1000000000) (hq : ∀ k ∈ keyL, Q k (p + 1)) : F124.E b p Q := by
 unfold F124.E
 exact F44.law _ _ _ _ hb hp OM RD hq
theorem F125.law (b : List UInt8) (p : Int) (Q : Str → Int → Prop) (hb : b.length ≤ 2000) (hp : 0 ≤ p) (hp1 : p ≤ 1000000000) (hq : ∀ k ∈ valL, Q k (p + 1)) : F125.E b p Q := by
 unfold F125.E
 exact F44.law _ _ _ _ hb hp OM RD hq
def PutT (s : List Tag) (key val : Str) (u : Nat) (xs : List Tag) (done : Bool) : Prop :=
 u ≤ s.length ∧ SS (keysT xs) ∧ (∀ x, x ∈ keysT xs ↔ x ∈ keysT (s.take u) ∨ (done = true ∧ x = key)) ∧ (done = false → (∀ x ∈ keysT (s.take u), Op.bytesLess x key = true) ∧ xs = s.take u) ∧
  (done = true → ∀ y ∈ keysT (s.drop u), Op.bytesLess key y = true) ∧ xs.length ≤ u + 1 ∧ (∀ z ∈ xs, z ∈ s ∨ z = ⟨key, val⟩)
theorem ss_snocT {l : List Str} {x : Str} (h : SS l) (hx : ∀ y ∈ l, Op.bytesLess y x = true) : SS (l ++ [x]) := by
 unfold SS
 rw [List.pairwise_append]
 exact ⟨h, List.pairwise_singleton _ _, fun a ha b hb => by rw [List.mem_singleton.1 hb]; exact hx a ha⟩
theorem keys_take {s : List Tag} {u : Nat} (hu : u < s.length) : keysT (s.take (u + 1)) = keysT (s.take u) ++ [(nth s (u : Int)).Key] := by rw [take_nth s hu, keys_app]; rfl
theorem keys_cut (s : List Tag) (u : Nat) : keysT s = keysT (s.take u) ++ keysT (s.drop u) := by rw [← keys_app, List.take_append_drop]
theorem dropNthT {s : List Tag} {u : Nat} (hu : u < s.length) : s.drop u = nth s (u : Int) :: s.drop (u + 1) := by rw [nth_nat s hu]; exact List.drop_eq_getElem_cons hu
theorem ss_ltT {s : List Tag} (h : SS (keysT s)) {u : Nat} (hu : u < s.length) : (∀ x ∈ keysT (s.take u), Op.bytesLess x (nth s (u : Int)).Key = true) ∧ ∀ y ∈ keysT (s.drop (u + 1)), Op.bytesLess (nth s (u : Int)).Key y = true := by
 have e := keys_cut s u
 rw [dropNthT hu] at e
 have e2 : keysT (nth s (u : Int) :: s.drop (u + 1)) = (nth s (u : Int)).Key :: keysT (s.drop (u + 1)) := rfl
 rw [e2] at e
 rw [e] at h
 obtain ⟨h1, h2, h3⟩ := List.pairwise_append.1 h
 exact ⟨fun x hx => h3 x hx _ List.mem_cons_self, (List.pairwise_cons.1 h2).1⟩
theorem F126.law (s : List Tag) (key val : Str) (Q : List Tag → Prop) (hl : s.length ≤ 1048576) (hs : SS (keysT s)) (hq : ∀ r, SS (keysT r) → (∀ x, x ∈ keysT r ↔ x ∈ keysT s ∨ x = key) → r.length ≤ s.length + 1 → (∀ z ∈ r, z ∈ s ∨ z = ⟨key, val⟩) → Q r) : F126.E s key val Q := by
 unfold F126.E
 refine ⟨fun xs done i => ∃ u : Nat, i = u ∧ PutT s key val u xs done, fun _ _ i => (s.length - i).toNat, ⟨0, rfl, Nat.zero_le _, by simp [keysT, SS], by simp [keysT], fun _ => ⟨by simp [keysT], by simp⟩, (fun h => by cases h), by simp, by simp⟩, ?_⟩
 rintro xs done _ ⟨u, rfl, hu, h1, h2, h3, h4, h5, h6⟩
 by_cases h : u < s.length
 ·rw [if_pos (by simpa using h)]
  obtain ⟨b1, b2⟩ := ss_ltT hs h
  have hin : nth s (u : Int) ∈ s := nth_mem s h
  have hdr : ∀ y ∈ keysT (s.drop u), y = (nth s (u : Int)).Key ∨ y ∈ keysT (s.drop (u + 1)) := fun y hy => by rw [dropNthT h] at hy; exact List.mem_cons.1 hy
  have hcur : (nth s (u : Int)).Key ∈ keysT (s.drop u) := by rw [dropNthT h]; exact List.mem_cons_self
  have hdr' : ∀ y ∈ keysT (s.drop (u + 1)), y ∈ keysT (s.drop u) := fun y hy => by rw [dropNthT h]; exact List.mem_cons_of_mem _ hy
  have stay : ∀ d, d = done → Op.bytesLess (nth s (u : Int)).Key key = true ∨ d = true → xs.length + 1 ≤ u + 1 + 1 → PutT s key val (u + 1) (xs ++ [nth s (u : Int)]) d := fun d hd hor hlen => by
   subst hd
   refine ⟨h, ?_, fun x => ?_, fun hdn => ⟨fun x hx => ?_, ?_⟩, fun hdn y hy => h4 hdn y (hdr' y hy), by simp only [List.length_append, List.length_singleton]; omega, fun z hz => ?_⟩
   ·rw [keys_app]
    refine ss_snocT h1 fun y hy => ?_
    rcases (h2 y).1 hy with hy | ⟨hd, rfl⟩
    ·exact b1 y hy
    ·exact h4 hd _ hcur
   ·rw [keys_app, List.mem_append, h2, keys_take h, List.mem_append]
    constructor
    ·rintro ((hx | hx) | hx)
     ·exact .inl (.inl hx)
     ·exact .inr hx
     ·exact .inl (.inr hx)
    ·rintro ((hx | hx) | hx)
     ·exact .inl (.inl hx)
     ·exact .inr hx
     ·exact .inl (.inr hx)
   ·rw [keys_take h] at hx
    rcases List.mem_append.1 hx with hx | hx
    ·exact (h3 hdn).1 x hx
    ·rw [List.mem_singleton.1 hx]
     rcases hor with hor | hor
     ·exact hor
     ·rw [hdn] at hor; cases hor
   ·rw [(h3 hdn).2, ← take_nth s h]
   ·rcases List.mem_append.1 hz with hz | hz
    ·exact h6 z hz
    ·rw [List.mem_singleton.1 hz]; exact .inl hin
  cases done with
  | true =>
   rw [if_neg RD]
   have hlt := h4 rfl _ hcur
   have hne : (nth s (u : Int)).Key ≠ key := fun e => by rw [e, less_irr] at hlt; cases hlt
   refine ⟨OM, ?_⟩
   rw [if_pos (by rw [bne_iff_ne]; exact hne)]
   exact ⟨OM, by simp only [List.length_cons, List.length_nil]; omega, OM, ⟨u + 1, OM, stay true rfl (.inr rfl) OM⟩, by dsimp only; omega⟩
  | false =>
   rw [if_pos RD]
   obtain ⟨c1, c2⟩ := h3 rfl
   have hxl : xs.length = u := by rw [c2, List.length_take]; omega
   refine ⟨OM, ?_⟩
   cases k : Op.bytesLess (nth s (u : Int)).Key key with
   | true =>
    rw [if_neg RD]
    have hne : (nth s (u : Int)).Key ≠ key := fun e => by rw [e, less_irr] at k; cases k
    refine ⟨OM, ?_⟩
    rw [if_pos (by rw [bne_iff_ne]; exact hne)]
    exact ⟨OM, by simp only [List.length_cons, List.length_nil]; omega, OM, ⟨u + 1, OM, stay false rfl (.inl k) OM⟩, by dsimp only; omega⟩
   | false =>
    rw [if_pos RD]
    have g1 : SS (keysT (xs ++ [(⟨key, val⟩ : Tag)])) := by
     rw [keys_app]
     refine ss_snocT h1 fun y hy => ?_
     rcases (h2 y).1 hy with hy | ⟨hd, _⟩
     ·exact c1 y hy
     ·cases hd
    refine ⟨by simp only [List.length_cons, List.length_nil]; omega, OM, ?_⟩
    by_cases hne : (nth s (u : Int)).Key = key
    ·rw [if_neg (by rw [hne]; simp)]
     refine ⟨OM, ⟨u + 1, OM, h, g1, fun x => ?_, (fun hd => by cases hd), fun _ y hy => by rw [← hne]; exact b2 y hy, by simp only [List.length_append, List.length_singleton]; omega, fun z hz => ?_⟩, by dsimp only; omega⟩
     ·rw [keys_app, List.mem_append, h2, keys_take h, List.mem_append, hne]
      show _ ∨ x ∈ [key] ↔ _
      rw [List.mem_singleton]
      constructor
      ·rintro ((hx | ⟨hd, _⟩) | hx)
       ·exact .inl (.inl hx)
       ·cases hd
       ·exact .inr ⟨rfl, hx⟩
      ·rintro ((hx | hx) | ⟨_, hx⟩)
       ·exact .inl (.inl hx)
       ·exact .inr hx
       ·exact .inr hx
     ·rcases List.mem_append.1 hz with hz | hz
      ·exact h6 z hz
      ·exact .inr (List.mem_singleton.1 hz)
    ·rw [if_pos (by rw [bne_iff_ne]; exact hne)]
     have hlt : Op.bytesLess key (nth s (u : Int)).Key = true := by
      rcases less_or k with g | g
      ·exact g
      ·exact absurd g.symm hne
     refine ⟨OM, by simp only [List.length_append, List.length_cons, List.length_nil]; omega, OM, ⟨u + 1, OM, h, ?_, fun x => ?_, (fun hd => by cases hd), fun _ y hy => less_trans hlt (b2 y hy), by simp only [List.length_append, List.length_singleton]; omega, fun z hz => ?_⟩, by dsimp only; omega⟩
     ·rw [keys_app]
      refine ss_snocT g1 fun y hy => ?_
      rw [keys_app] at hy
      rcases List.mem_append.1 hy with hy | hy
      ·rcases (h2 y).1 hy with hy | ⟨hd, _⟩
       ·exact b1 y hy
       ·cases hd
      ·have hy : y = key := List.mem_singleton.1 hy
       rw [hy]; exact hlt
     ·rw [keys_app, keys_app, List.mem_append, List.mem_append, h2, keys_take h, List.mem_append]
      show (_ ∨ x ∈ [key]) ∨ x ∈ [(nth s (u : Int)).Key] ↔ _
      rw [List.mem_singleton, List.mem_singleton]
      constructor
      ·rintro (((hx | ⟨hd, _⟩) | hx) | hx)
       ·exact .inl (.inl hx)
       ·cases hd
       ·exact .inr ⟨rfl, hx⟩
       ·exact .inl (.inr hx)
      ·rintro ((hx | hx) | ⟨_, hx⟩)
       ·exact .inl (.inl (.inl hx))
       ·exact .inr hx
       ·exact .inl (.inr hx)
     ·rcases List.mem_append.1 hz with hz | hz
      ·rcases List.mem_append.1 hz with hz | hz
       ·exact h6 z hz
       ·exact .inr (List.mem_singleton.1 hz)
      ·rw [List.mem_singleton.1 hz]; exact .inl hin
 ·rw [if_neg (by simpa using h)]
  have : u = s.length := by omega
  subst this
  rw [List.take_length] at h2 h3
  cases done with
  | true =>
   rw [if_neg RD]
   exact hq xs h1 (fun x => by rw [h2]; simp) h5 h6
  | false =>
   rw [if_pos RD]
   obtain ⟨c1, c2⟩ := h3 rfl
   refine ⟨by simp only [List.length_cons, List.length_nil]; omega, hq _ ?_ (fun x => ?_) (by rw [c2]; simp) fun z hz => ?_⟩
   ·rw [keys_app]
    refine ss_snocT h1 fun y hy => ?_
    rcases (h2 y).1 hy with hy | ⟨hd, _⟩
    ·exact c1 y hy
    ·cases hd
   ·rw [keys_app, List.mem_append, h2]
    show _ ∨ x ∈ [key] ↔ _
    rw [List.mem_singleton]; simp
   ·rcases List.mem_append.1 hz with hz | hz
    ·exact h6 z hz
    ·exact .inr (List.mem_singleton.1 hz)
theorem keys_drawn {s : List Tag} {k v : Str} (hk : k ∈ keyL) (hv : v ∈ valL) (h : ∀ x ∈ s, DT x) {r : List Tag} (hr : ∀ z ∈ r, z ∈ s ∨ z = ⟨k, v⟩) : ∀ x ∈ r, DT x := fun x hx => by
 rcases hr x hx with g | rfl
 ·exact h x g
 ·exact ⟨hk, hv⟩
theorem F80.law (b : List UInt8) (p : Int) (id : Str) (Q : Feat → Int → Prop) (hb : b.length ≤ 2000) (hp : 0 ≤ p) (hp1 : p ≤ 10000000) (hq : ∀ s t p', shapeOk s = true → SS (keysT t) → t.length ≤ 3 → (∀ x ∈ t, DT x) → (∀ q ∈ s.Pts, NX q) → p ≤ p' → p' ≤ p + 60 → Q ⟨id, s, t⟩ p') : F80.E b p id Q := by
 unfold F80.E
 refine F69.law _ _ _ hb hp OM fun s p1 hs hx p0 p2 => F22.law _ _ _ _ hb OM OM fun k hk0 hk1 => ?_
 refine ⟨fun i t z => 0 ≤ i ∧ i ≤ 3 ∧ SS (keysT t) ∧ (t.length : Int) + i ≤ 3 ∧ (∀ x ∈ t, DT x) ∧ p ≤ z ∧ z ≤ p + 41 + 2 * (3 - i), fun i _ _ => i.toNat, ⟨OM, OM, List.Pairwise.nil, by simp only [List.length_nil]; omega, by simp, OM, OM⟩, ?_⟩
 rintro i t z ⟨h0, h1, h2, h3, h4, h5, h6⟩
 by_cases hi : i > 0
 case neg => rw [if_neg (by simpa using hi)]; exact hq _ _ _ hs h2 OM h4 hx h5 OM
 rw [if_pos (by simpa using hi)]
 refine F124.law _ _ _ hb OM OM fun key hkey => F125.law _ _ _ hb OM OM fun val hval => F126.law _ _ _ _ OM h2 fun r r1 r2 r3 r4 => ⟨by unfold I64; omega, ⟨OM, OM, r1, OM, keys_drawn hkey hval h4 r4, OM, OM⟩, by dsimp only; omega⟩
theorem feat_drawn {id : Str} {s : Shape} {t : List Tag} (h1 : wordOk id = true) (h2 : shapeOk s = true) (h3 : SS (keysT t)) (h4 : t.length ≤ 3) (h5 : ∀ x ∈ t, DT x) : featOk ⟨id, s, t⟩ = true := feat_of h1 h2 h3 OM fun x hx => (h5 x hx).ok
theorem F137.law (b : List UInt8) (p : Int) (Q : Str → Int → Prop) (hb : b.length ≤ 2000) (hp : 0 ≤ p) (hp1 : p ≤ 1000000000) (hq : ∀ k ∈ idL, Q k (p + 1)) : F137.E b p Q := by
 unfold F137.E
 exact F44.law _ _ _ _ hb hp OM RD hq
theorem F70.gen (P : Str → Prop) (hP : ∀ k ∈ idL, P k) (b : List UInt8) (p : Int) (Q : List Feat → Int → Prop) (hb : b.length ≤ 2000) (hp : 0 ≤ p) (hp1 : p ≤ 1000000) (hq : ∀ s p', sheetOk s = true → s.length ≤ 4 → (∀ f ∈ s, P f.Id) → (∀ f ∈ s, ∀ q ∈ f.Shape.Pts, NX q) → p ≤ p' → p' ≤ p + 300 → Q s p') : F70.E b p Q := by
 unfold F70.E
 refine F22.law _ _ _ _ hb hp OM fun k hk0 hk1 => ?_
 refine ⟨fun s i z => 0 ≤ i ∧ i ≤ 4 ∧ SS (ids s) ∧ (s.length : Int) + i ≤ 4 ∧ (∀ f ∈ s, featOk f = true ∧ P f.Id ∧ ∀ q ∈ f.Shape.Pts, NX q) ∧ p ≤ z ∧ z ≤ p + 1 + 61 * (4 - i), fun _ i _ => i.toNat, ⟨OM, OM, List.Pairwise.nil, by simp only [List.length_nil]; omega, by simp, OM, OM⟩, ?_⟩
 rintro s i z ⟨h0, h1, h2, h3, h4, h5, h6⟩
 by_cases hi : i > 0
 case neg => rw [if_neg (by simpa using hi)]; exact hq _ _ (sheet_of h2 OM fun f hf => (h4 f hf).1) OM (fun f hf => (h4 f hf).2.1) (fun f hf => (h4 f hf).2.2) h5 OM
 rw [if_pos (by simpa using hi)]
 refine F137.law _ _ _ hb OM OM fun id hid => F80.law _ _ _ _ hb OM OM fun sh t p1 hs ht tl td hx p2 p3 => F127.law _ _ _ OM h2 fun r r1 r2 r3 r4 => ⟨by unfold I64; omega, ⟨OM, OM, r1, OM, fun f hf => ?_, OM, OM⟩, by dsimp only; omega⟩
 rcases r4 f hf with g | rfl
 ·exact h4 f g
 ·exact ⟨feat_drawn (idL_ok _ hid) hs ht tl td, hP _ hid, hx⟩
theorem F70.law (b : List UInt8) (p : Int) (Q : List Feat → Int → Prop) (hb : b.length ≤ 2000) (hp : 0 ≤ p) (hp1 : p ≤ 1000000) (hq : ∀ s p', sheetOk s = true → s.length ≤ 4 → (∀ f ∈ s, f.Id ≠ zzI) → (∀ f ∈ s, ∀ q ∈ f.Shape.Pts, NX q) → p ≤ p' → p' ≤ p + 300 → Q s p') : F70.E b p Q :=
 F70.gen (fun i => i ≠ zzI) idL_nz b p Q hb hp hp1 hq
theorem F92.law (b : List UInt8) (p : Int) (Q : Shape → Int → Prop) (hb : b.length ≤ 2000) (hp : 0 ≤ p) (hp1 : p ≤ 10000000) (hq : ∀ s p', s.Pts.length ≤ 7 → (∀ q ∈ s.Pts, NX q) → p ≤ p' → p' ≤ p + 50 → Q s p') : F92.E b p Q := by
 unfold F92.E
 refine F69.law _ _ _ hb hp OM fun s p1 hs hx p0 p2 => F22.law _ _ _ _ hb OM OM fun k hk0 hk1 => F22.law _ _ _ _ hb OM OM fun v hv0 hv1 => ?_
 have l1 := shape_pos hs
 have l2 := shape_pts hs
 split
 ·exact F37.law _ _ _ _ hb OM OM RD fun n hn => hq _ _ (by dsimp only; omega) hx OM OM
 split
 ·exact F37.law _ _ _ _ hb OM OM RD fun n hn => ⟨OM, hq _ _ (by simp only [List.length_set]; omega) (fun q hq' => by
   rcases List.mem_or_eq_of_mem_set hq' with g | rfl
   ·exact hx q g
   ·simp only [List.mem_cons, List.not_mem_nil, or_false] at hn
    exact ⟨by dsimp only; omega, by dsimp only; omega⟩) OM OM⟩
 split
 ·exact ⟨fun _ => by unfold I64; omega, OM, by simp only [List.length_cons, List.length_nil]; omega, hq _ _ (by simp only [List.length_append, List.length_cons, List.length_nil]; omega) (fun q hq' => (List.mem_append.1 hq').elim (hx q) fun g => by rw [List.mem_singleton.1 g]; exact hx _ (nth_memi _ OM OM)) OM OM⟩
 split
 ·exact ⟨OM, hq _ _ (by simp only [List.length_take, List.length_drop]; omega) (fun q hq' => hx q (List.mem_of_mem_drop (List.mem_of_mem_take hq'))) OM OM⟩
 exact hq _ _ OM hx OM OM
theorem F93.law (b : List UInt8) (p : Int) (Q : Feat → Int → Prop) (hb : b.length ≤ 2000) (hp : 0 ≤ p) (hp1 : p ≤ 1000000) (hq : ∀ f p', FB 4 f → (∀ x ∈ f.Tags, plainK x.Key) → f.Id ≠ zzI → (∀ q ∈ f.Shape.Pts, NX q) → p ≤ p' → p' ≤ p + 120 → Q f p') : F93.E b p Q := by
 unfold F93.E
 refine F137.law _ _ _ hb hp OM fun id hid => F80.law _ _ _ _ hb OM OM fun s t p1 hs ht tl td hx p2 p3 => F22.law _ _ _ _ hb OM OM fun v hv0 hv1 => ?_
 have li := word_len (idL_ok _ hid)
 have lp := shape_pts hs
 have tp : ∀ x ∈ t, plainK x.Key := fun x hx => keyL_plain _ (td x hx).1
 have tw : ∀ x ∈ t, x.Key.length ≤ 6 ∧ x.Val.length ≤ 6 := fun x hx => (td x hx).len
 have iz := idL_nz _ hid
 split
 ·refine F44.law _ _ _ _ hb OM OM RD fun w hw => hq _ _ ⟨?_, by dsimp only; omega, by dsimp only; omega, tw⟩ tp ?_ hx OM OM
  all_goals
   simp only [List.mem_cons, List.not_mem_nil, or_false] at hw
   dsimp only
   rcases hw with rfl | rfl | rfl <;> decide
 split
 ·exact F92.law _ _ _ hb OM OM fun s' p4 h4 hx' h5 h6 => hq _ _ ⟨by dsimp only; omega, h4, by dsimp only; omega, tw⟩ tp iz hx' OM OM
 split
 ·refine ⟨by simp only [List.length_cons, List.length_nil]; omega, hq _ _ ⟨by dsimp only; omega, by dsimp only; omega, by simp only [List.length_append, List.length_cons, List.length_nil]; omega, fun x hx2 => ?_⟩ (fun x hx2 => ?_) iz hx OM OM⟩
  ·rcases List.mem_append.1 hx2 with hx2 | hx2
   ·exact tw x hx2
   ·rw [List.mem_singleton.1 hx2]; decide
  ·rcases List.mem_append.1 hx2 with hx2 | hx2
   ·exact tp x hx2
   ·rw [List.mem_singleton.1 hx2]; unfold plainK; dsimp only; decide
 split
 ·refine F44.law _ _ _ _ hb OM OM RD fun w hw => ⟨by simp only [List.length_cons, List.length_nil]; omega, hq _ _ ⟨by dsimp only; omega, by dsimp only; omega, by simp only [List.length_append, List.length_cons, List.length_nil]; omega, fun x hx2 => ?_⟩ (fun x hx2 => ?_) iz hx OM OM⟩
  ·rcases List.mem_append.1 hx2 with hx2 | hx2
   ·exact tw x hx2
   ·rw [List.mem_singleton.1 hx2]
    simp only [List.mem_cons, List.not_mem_nil, or_false] at hw
    rcases hw with rfl | rfl <;> decide
  ·rcases List.mem_append.1 hx2 with hx2 | hx2
   ·exact tp x hx2
   ·rw [List.mem_singleton.1 hx2]; unfold plainK; dsimp only; decide
 exact hq _ _ ⟨by dsimp only; omega, by dsimp only; omega, by dsimp only; omega, tw⟩ tp iz hx OM OM
theorem F106.law (b : List UInt8) (p : Int) (Q : List Feat → Int → Prop) (hb : b.length ≤ 2000) (hp : 0 ≤ p) (hp1 : p ≤ 100000) (hq : ∀ s p', MD s → (∀ f ∈ s, ∀ q ∈ f.Shape.Pts, NX q) → p ≤ p' → p' ≤ p + 500 → Q s p') : F106.E b p Q := by
 unfold F106.E
 refine F70.law _ _ _ hb hp OM fun s p1 hs hl hz hn p2 p3 => F22.law _ _ _ _ hb OM OM fun v hv0 hv1 => ?_
 have mb := MB.of hs
 have hm : MD s := ⟨⟨OM, mb.fb⟩, hz⟩
 split
 ·refine F93.law _ _ _ hb OM OM fun f p4 h1 _ h2 hfx h3 h4 => ⟨by simp only [List.length_cons, List.length_nil]; omega, hq _ _ ⟨⟨by simp only [List.length_append, List.length_cons, List.length_nil]; omega, fun x hx => ?_⟩, fun x hx => ?_⟩ (fun x hx => ?_) OM OM⟩
  ·rcases List.mem_append.1 hx with hx | hx
   ·exact mb.fb x hx
   ·rw [List.mem_singleton.1 hx]; exact h1
  ·rcases List.mem_append.1 hx with hx | hx
   ·exact hz x hx
   ·rw [List.mem_singleton.1 hx]; exact h2
  ·rcases List.mem_append.1 hx with hx | hx
   ·exact hn x hx
   ·rw [List.mem_singleton.1 hx]; exact hfx
 split
 ·refine ⟨OM, hq _ _ ⟨⟨by simp only [List.length_append]; omega, fun x hx => ?_⟩, fun x hx => ?_⟩ (fun x hx => ?_) OM OM⟩
  ·rcases List.mem_append.1 hx with hx | hx <;> exact mb.fb x hx
  ·rcases List.mem_append.1 hx with hx | hx <;> exact hz x hx
  ·rcases List.mem_append.1 hx with hx | hx <;> exact hn x hx
 split
 ·refine ⟨fun s i => 0 ≤ i ∧ i ≤ 9 ∧ SS (ids s) ∧ (s.length : Int) ≤ 4 + i ∧ (∀ f ∈ s, FB 4 f ∧ f.Id ≠ zzI ∧ ∀ q ∈ f.Shape.Pts, NX q), fun _ i => (9 - i).toNat, ⟨OM, OM, (sheet_ss hs).1, OM, fun f hf => ⟨mb.fb f hf, hz f hf, hn f hf⟩⟩, ?_⟩
  rintro s i ⟨h0, h1, h2, h3, h4⟩
  by_cases hi : i ≤ 8
  case neg => rw [if_neg (by simpa using hi)]; exact hq _ _ ⟨⟨OM, fun f hf => (h4 f hf).1⟩, fun f hf => (h4 f hf).2.1⟩ (fun f hf => (h4 f hf).2.2) OM OM
  rw [if_pos (by simpa using hi)]
  have hl1 : ∀ l : Str, ((l.drop i.toNat).take ((i + 1).toNat - i.toNat)).length ≤ 1 := fun l => by rw [List.length_take]; omega
  refine ⟨by unfold I64; omega, by simp only [List.length_cons, List.length_nil]; omega, F127.law _ _ _ OM h2 fun r r1 r2 r3 r4 => ⟨by unfold I64; omega, ⟨OM, OM, r1, OM, fun f hf => ?_⟩, by dsimp only; omega⟩⟩
  rcases r4 f hf with g | rfl
  ·exact h4 f g
  ·refine ⟨⟨Nat.le_trans (hl1 _) RD, by dsimp only [List.length_cons, List.length_nil]; omega, by simp only [List.length_nil]; omega, by simp⟩, fun e => ?_, fun q hq' => by rw [List.mem_singleton.1 hq']; exact .of RD⟩
   have := hl1 [113, 114, 115, 116, 117, 118, 119, 120, 121, 122]
   dsimp only at e
   rw [e] at this
   exact absurd this RD
 exact hq _ _ hm hn OM OM
theorem F17.law (code : List UInt8) (Q : List Feat → Feat → Prop) (hq : ∀ s f, MD s → FB 4 f → (∀ x ∈ s, ∀ q ∈ x.Shape.Pts, NX q) → Q s f) : F17.E code Q := by
 unfold F17.E
 exact F67.law _ _ fun b hb => F106.law _ _ _ hb OM OM fun s p ms hx p0 p1 => F93.law _ _ _ hb OM OM fun f p2 hf _ _ _ _ _ => hq _ _ ms hf hx
theorem F95.law (n lo hi : Int) (Q : Bool → Prop) (hq : Q (decide (lo ≤ n) && decide (n ≤ hi))) : F95.E n lo hi Q := by
 unfold F95.E
 by_cases h : lo ≤ n
 ·rw [if_pos (by simpa using h)]; rw [decide_eq_true h, Bool.true_and] at hq; exact hq
 ·rw [if_neg (by simpa using h)]; rw [decide_eq_false h, Bool.false_and] at hq; exact hq
theorem F95.m_is (n lo hi : Int) : F95.m n lo hi = (decide (lo ≤ n) && decide (n ≤ hi)) := by
 unfold F95.m
 by_cases h : lo ≤ n
 ·rw [if_pos (by simpa using h), decide_eq_true h, Bool.true_and]
 ·rw [if_neg (by simpa using h), decide_eq_false h, Bool.false_and]
theorem F96.law (s : Str) (Q : Bool → Prop) (hl : s.length ≤ 1048576) (hq : Q (wordOk s)) : F96.E s Q := by
 unfold F96.E
 unfold wordOk at hq
 refine loop_all s.length (fun k => byteOk (nth s (k : Int))) (fun I mu k hk hp hn => ?_) (fun ha => ?_)
 ·refine ⟨OM, ?_⟩
  cases h1 : decide (((nth s (k : Int)).toNat : Int) < 97) with
  | true => rw [if_pos rfl]; rw [allN_false hk (by simp only [byteOk, h1]; rfl), Bool.false_and] at hq; exact hq
  | false =>
   rw [if_neg RD]
   refine ⟨OM, ?_⟩
   cases h2 : decide (((nth s (k : Int)).toNat : Int) > 122) with
   | true => rw [if_pos rfl]; rw [allN_false hk (by simp only [byteOk, h1, h2]; rfl), Bool.false_and] at hq; exact hq
   | false =>
    rw [if_neg RD]
    obtain ⟨i1, i2⟩ := hn (by simp only [byteOk, h1, h2]; rfl)
    exact ⟨by unfold I64; omega, i1, i2⟩
 ·rw [allN_true ha, Bool.true_and] at hq
  refine F95.law _ _ _ _ ?_
  have e1 : decide ((1 : Int) ≤ (s.length : Int)) = decide (1 ≤ s.length) := decide_eq_decide.2 OM
  have e2 : decide ((s.length : Int) ≤ 6) = decide (s.length ≤ 6) := decide_eq_decide.2 OM
  rw [e1, e2]; exact hq
theorem F140.law (p : Pt) (Q : Bool → Prop) (hq : Q (ptOk p)) : F140.E p Q := by
 unfold F140.E
 unfold ptOk at hq
 refine F95.law _ _ _ _ ?_
 change if inR p.X = true then _ else _
 cases h : inR p.X with
 | true => rw [if_pos rfl]; rw [h, Bool.true_and] at hq; exact F95.law _ _ _ _ hq
 | false => rw [if_neg RD]; rw [h, Bool.false_and] at hq; exact hq
theorem F72.law (s : Shape) (Q : Bool → Prop) (hl : s.Pts.length ≤ 1048576) (hq : Q (shapeOk s)) : F72.E s Q := by
 unfold F72.E
 unfold shapeOk ptsOk at hq
 refine loop_all s.Pts.length (fun k => ptOk (nth s.Pts (k : Int)) && (decide (k = 0) || !(decide (nth s.Pts ((k : Int) - 1) = nth s.Pts (k : Int))))) (fun I mu k hk hp hn => ?_) (fun ha => ?_)
 ·refine ⟨OM, _, F140.law _ _ rfl, ?_⟩
  have bad : (ptOk (nth s.Pts (k : Int)) && (decide (k = 0) || !(decide (nth s.Pts ((k : Int) - 1) = nth s.Pts (k : Int))))) = false → Q false := fun h => by
   rw [allN_false hk h, Bool.false_and] at hq; exact hq
  cases h1 : ptOk (nth s.Pts (k : Int)) with
  | false => rw [if_pos RD]; exact bad (by rw [h1]; rfl)
  | true =>
   rw [if_neg RD]
   by_cases hk0 : k = 0
   ·rw [if_neg (by rw [decide_eq_true_eq]; omega)]
    obtain ⟨i1, i2⟩ := hn (by rw [h1, decide_eq_true hk0]; rfl)
    exact ⟨by unfold I64; omega, i1, i2⟩
   ·rw [if_pos (by rw [decide_eq_true_eq]; omega)]
    refine ⟨by unfold I64; omega, OM, ?_⟩
    rw [eqPt_is]
    by_cases he : nth s.Pts ((k : Int) - 1) = nth s.Pts (k : Int)
    ·rw [if_pos (by rw [decide_eq_true_eq]; exact he)]
     exact bad (by rw [h1, decide_eq_false hk0, decide_eq_true he]; rfl)
    ·rw [if_neg (by rw [decide_eq_true_eq]; exact he)]
     obtain ⟨i1, i2⟩ := hn (by simp only [h1, decide_eq_false hk0, decide_eq_false he]; rfl)
     exact ⟨by unfold I64; omega, i1, i2⟩
 ·rw [allN_true ha, Bool.true_and] at hq
  unfold kindOk at hq
  by_cases k1 : s.Kind = 1
  ·rw [if_pos k1] at hq
   rw [if_pos (by rw [beq_iff_eq]; exact k1)]
   have : ((s.Pts.length : Int) == 1) = decide (s.Pts.length = 1) := by rw [Bool.eq_iff_iff, beq_iff_eq, decide_eq_true_eq]; omega
   rw [this]; exact hq
  rw [if_neg k1] at hq
  rw [if_neg (by rw [beq_iff_eq]; exact k1)]
  have e2 : decide ((2 : Int) ≤ (s.Pts.length : Int)) = decide (2 ≤ s.Pts.length) := decide_eq_decide.2 OM
  have e3 : decide ((3 : Int) ≤ (s.Pts.length : Int)) = decide (3 ≤ s.Pts.length) := decide_eq_decide.2 OM
  have e6 : decide ((s.Pts.length : Int) ≤ 6) = decide (s.Pts.length ≤ 6) := decide_eq_decide.2 OM
  by_cases k2 : s.Kind = 2
  ·rw [if_pos k2] at hq
   rw [if_pos (by rw [beq_iff_eq]; exact k2)]
   refine F95.law _ _ _ _ ?_
   rw [e2, e6]; exact hq
  rw [if_neg k2] at hq
  rw [if_neg (by rw [beq_iff_eq]; exact k2)]
  by_cases k3 : s.Kind = 3
  ·rw [if_pos k3] at hq
   rw [if_pos (by rw [beq_iff_eq]; exact k3), F95.m_is, e3, e6]
   cases hc : decide (3 ≤ s.Pts.length) && decide (s.Pts.length ≤ 6) with
   | true =>
    rw [hc, Bool.true_and] at hq
    rw [Bool.and_eq_true, decide_eq_true_eq, decide_eq_true_eq] at hc
    rw [if_pos rfl, eqPt_is]
    exact ⟨OM, fun _ => by unfold I64; omega, OM, hq⟩
   | false =>
    rw [hc, Bool.false_and] at hq
    rw [if_neg RD]; exact hq
  ·rw [if_neg k3] at hq
   rw [if_neg (by rw [beq_iff_eq]; exact k3)]; exact hq
theorem F98.law (f : Feat) (Q : Bool → Prop) (hb : bulk f ≤ 1048576) (hq : Q (featOk f)) : F98.E f Q := by
 unfold F98.E
 unfold featOk at hq
 have b1 : bulk f = bulk f.Id + bulk f.Shape + bulk f.Tags := rfl
 have b2 : bulk f.Shape = bulk f.Shape.Kind + bulk f.Shape.Pts := rfl
 have l1 := bulk_len f.Tags; have l2 := bulk_len f.Shape.Pts; have l3 := bulk_len f.Id
 have core : (tagsOk f.Tags = true → F96.E f.Id (fun r3 => (if r3 then F72.E f.Shape (fun r4 => (if r4 then Q (decide ((f.Tags.length : Int) ≤ 4)) else Q false)) else Q false))) := fun ha => by
  rw [ha, Bool.true_and] at hq
  refine F96.law _ _ OM ?_
  cases h1 : wordOk f.Id with
  | false => rw [h1, Bool.and_false, Bool.false_and] at hq; rw [if_neg RD]; exact hq
  | true =>
   rw [h1, Bool.and_true] at hq
   rw [if_pos rfl]
   refine F72.law _ _ OM ?_
   cases h2 : shapeOk f.Shape with
   | false => rw [h2, Bool.and_false] at hq; rw [if_neg RD]; exact hq
   | true =>
    rw [h2, Bool.and_true] at hq; rw [if_pos rfl]
    have e2 : decide ((f.Tags.length : Int) ≤ 4) = decide (f.Tags.length ≤ 4) := decide_eq_decide.2 OM
    rw [e2]; exact hq
 have bad : tagsOk f.Tags = false → Q false := fun h => by
  rw [h, Bool.false_and, Bool.false_and, Bool.false_and] at hq; exact hq
 unfold tagsOk at core bad
 refine loop_all f.Tags.length (fun k => wordOk (nth f.Tags (k : Int)).Key && wordOk (nth f.Tags (k : Int)).Val && (decide (k = 0) || Op.bytesLess (nth f.Tags ((k : Int) - 1)).Key (nth f.Tags (k : Int)).Key)) (fun I mu k hk hp hn => ?_) (fun ha => core (allN_true ha))
 have bad := fun h => bad (allN_false hk h)
 have m1 := bulk_mem (nth_mem f.Tags hk)
 have m2 : bulk (nth f.Tags (k : Int)) = bulk (nth f.Tags (k : Int)).Key + bulk (nth f.Tags (k : Int)).Val := rfl
 have m3 := bulk_len (nth f.Tags (k : Int)).Key; have m4 := bulk_len (nth f.Tags (k : Int)).Val
 refine ⟨OM, _, F96.law _ _ OM rfl, ?_⟩
 cases h1 : wordOk (nth f.Tags (k : Int)).Key with
 | false => rw [if_pos RD]; exact bad (by rw [h1]; rfl)
 | true =>
  rw [if_neg RD]
  refine ⟨_, F96.law _ _ OM rfl, ?_⟩
  cases h2 : wordOk (nth f.Tags (k : Int)).Val with
  | false => rw [if_pos RD]; exact bad (by rw [h2, Bool.and_false]; rfl)
  | true =>
   rw [if_neg RD]
   by_cases hk0 : k = 0
   ·rw [if_neg (by rw [decide_eq_true_eq]; omega)]
    obtain ⟨i1, i2⟩ := hn (by rw [h1, h2, decide_eq_true hk0]; rfl)
    exact ⟨by unfold I64; omega, i1, i2⟩
   ·rw [if_pos (by rw [decide_eq_true_eq]; omega)]
    refine ⟨by unfold I64; omega, OM, ?_⟩
    cases h3 : Op.bytesLess (nth f.Tags ((k : Int) - 1)).Key (nth f.Tags (k : Int)).Key with
    | false => rw [if_pos RD]; exact bad (by rw [h3, h1, h2, decide_eq_false hk0]; rfl)
    | true =>
     rw [if_neg RD]
     obtain ⟨i1, i2⟩ := hn (by rw [h3, h1, h2, decide_eq_false hk0]; rfl)
     exact ⟨by unfold I64; omega, i1, i2⟩
theorem F74.law (d : List Feat) (Q : Bool → Prop) (hb : bulk d ≤ 1048576) (hq : Q (sheetOk d)) : F74.E d Q := by
 unfold F74.E
 unfold sheetOk at hq
 have hl := bulk_len d
 refine loop_all d.length (fun k => featOk (nth d (k : Int)) && (decide (k = 0) || Op.bytesLess (nth d ((k : Int) - 1)).Id (nth d (k : Int)).Id)) (fun I mu k hk hp hn => ?_) (fun ha => ?_)
 ·have bad : (featOk (nth d (k : Int)) && (decide (k = 0) || Op.bytesLess (nth d ((k : Int) - 1)).Id (nth d (k : Int)).Id)) = false → Q false := fun h => by
   rw [allN_false hk h, Bool.false_and] at hq; exact hq
  have m1 := bulk_mem (nth_mem d hk)
  refine ⟨OM, _, F98.law _ _ OM rfl, ?_⟩
  cases h1 : featOk (nth d (k : Int)) with
  | false => rw [if_pos RD]; exact bad (by rw [h1]; rfl)
  | true =>
   rw [if_neg RD]
   by_cases hk0 : k = 0
   ·rw [if_neg (by rw [decide_eq_true_eq]; omega)]
    obtain ⟨i1, i2⟩ := hn (by rw [h1, decide_eq_true hk0]; rfl)
    exact ⟨by unfold I64; omega, i1, i2⟩
   ·rw [if_pos (by rw [decide_eq_true_eq]; omega)]
    refine ⟨by unfold I64; omega, OM, ?_⟩
    cases h3 : Op.bytesLess (nth d ((k : Int) - 1)).Id (nth d (k : Int)).Id with
    | false => rw [if_pos RD]; exact bad (by rw [h3, h1, decide_eq_false hk0]; rfl)
    | true =>
     rw [if_neg RD]
     obtain ⟨i1, i2⟩ := hn (by rw [h3, h1, decide_eq_false hk0]; rfl)
     exact ⟨by unfold I64; omega, i1, i2⟩
 ·rw [allN_true ha, Bool.true_and] at hq
  have e2 : decide ((d.length : Int) ≤ 8) = decide (d.length ≤ 8) := decide_eq_decide.2 OM
  rw [e2]; exact hq
theorem F40.law (f : Feat) (Q : Feat → Prop) (hb : bulk f ≤ 1048576) (hq : Q f) : F40.E f Q := by
 unfold F40.E F24.E
 have h := bulk_feat f
 have h1 := bulk_len f.Tags
 have h2 := bulk_len f.Shape.Pts
 exact ⟨by simp only [List.length_nil]; omega, by simp only [List.length_nil]; omega, hq⟩
theorem F33.law (s : List Feat) (Q : List Feat → Prop) (hb : bulk s ≤ 1048576) (hq : Q s) : F33.E s Q := by
 unfold F33.E
 have hl := bulk_len s
 refine ⟨fun xs i => ∃ u : Nat, i = u ∧ u ≤ s.length ∧ xs = s.take u, fun _ i => (s.length - i).toNat, ⟨0, rfl, Nat.zero_le _, rfl⟩, ?_⟩
 rintro _ _ ⟨u, rfl, hu, rfl⟩
 by_cases h : u < s.length
 ·rw [if_pos (by simpa using h)]
  have hm := bulk_mem (nth_mem s h)
  refine ⟨OM, F40.law _ _ OM ⟨by simp only [List.length_take, List.length_cons, List.length_nil]; omega, by unfold I64; omega, ⟨u + 1, OM, OM, ?_⟩, by dsimp only; omega⟩⟩
  rw [take_nth s h]
 ·rw [if_neg (by simpa using h)]
  have : u = s.length := by omega
  subst this
  rw [List.take_length]; exact hq
theorem F2.law (s : List Feat) (f : Feat → Bool) (ok : Feat → Prop) (Q : Int → Prop) (hl : s.length ≤ 1048576) (hok : ∀ x ∈ s, ok x) (hq : Q (findN s.length fun j => f (nth s (j : Int)))) : F2.E s f ok Q := by
 unfold F2.E
 refine loop_find s.length (fun j => f (nth s (j : Int))) hq (fun I mu k hk h1 h2 => ⟨OM, hok _ (nth_mem s hk), ?_⟩)
 cases h : f (nth s (k : Int)) with
 | true => rw [if_pos rfl]; exact h1 h
 | false => rw [if_neg RD]; obtain ⟨i1, i2⟩ := h2 h; exact ⟨by unfold I64; omega, i1, i2⟩
theorem F107.law (s : List Feat) (id : Str) (Q : Int → Prop) (hl : s.length ≤ 1048576) (hq : Q (findN s.length fun j => (nth s (j : Int)).Id == id)) : F107.E s id Q := by
 unfold F107.E
 refine ⟨fun x => x.Id == id, fun x => x ∈ s, fun x hx => ?_, F2.law _ _ _ _ hl (fun x hx => hx) hq⟩
 unfold F55.E
 rfl
theorem F62.law (s : List Feat) (f : Feat) (Q : List Feat → Bool → Prop) (hb : bulk s ≤ 1048576) (hbf : bulk f ≤ 1048576) (hq : Q (putOf s f).1 (putOf s f).2) : F62.E s f Q := by
 unfold F62.E
 unfold putOf at hq
 refine F74.law _ _ hb ?_
 cases ks : sheetOk s with
 | false => rw [if_pos RD]; rw [ks, if_neg (by simp)] at hq; exact hq
 | true =>
 rw [if_neg RD]
 refine F98.law _ _ hbf ?_
 cases kf : featOk f with
 | false => rw [if_pos RD]; rw [kf, if_neg (by simp)] at hq; exact hq
 | true =>
 rw [if_neg RD]
 rw [ks, kf] at hq
 have ss := (sheet_ss ks).1
 have fs := sheet_fs ks
 have ll := (sheet_ss ks).2.1
 have pl := putL_len ss f
 refine F33.law _ _ hb (F107.law _ _ _ OM ?_)
 have hle := findN_le s.length fun j => (nth s (j : Int)).Id == f.Id
 by_cases h : findN s.length (fun j => (nth s (j : Int)).Id == f.Id) ≥ 0
 ·rw [if_pos (by simpa using h)]
  refine F40.law _ _ hbf ⟨OM, ?_⟩
  obtain ⟨i, hi⟩ : ∃ i : Nat, findN s.length (fun j => (nth s (j : Int)).Id == f.Id) = (i : Int) := ⟨_, (Int.toNat_of_nonneg OM).symm⟩
  obtain ⟨h1, h2⟩ := findN_true hi
  rw [hi, Int.toNat_natCast]
  have e : (nth s (i : Int)).Id = f.Id := by simpa using h2
  have hin : f.Id ∈ ids s := List.mem_map.2 ⟨_, nth_mem s h1, e⟩
  rw [nth_nat _ h1] at e
  have hks : ids (s.set i f) = ids s := by
   unfold ids
   apply List.ext_getElem?
   intro j
   rw [List.getElem?_map, List.getElem?_map, List.getElem?_set]
   by_cases hj : i = j
   ·subst hj
    rw [if_pos rfl, if_pos h1, List.getElem?_eq_getElem h1]
    simp [e]
   ·rw [if_neg hj]
  have hmem : f ∈ s.set i f := List.mem_of_getElem? (List.getElem?_set_self h1)
  have hs' : FS (s.set i f) := FS.of_ids (by rw [hks]; exact ss)
  have eq : s.set i f = putL s f := FS.ext hs' (putL_fs fs f) fun x => by
   rw [putL_mem]
   constructor
   ·intro hx
    by_cases k : x.Id = f.Id
    ·exact .inr (hs'.inj hx hmem k)
    ·rcases List.mem_or_eq_of_mem_set hx with g | g
     ·exact .inl ⟨g, k⟩
     ·exact .inr g
   ·rintro (⟨g, k⟩ | rfl)
    ·obtain ⟨j, hj, rfl⟩ := List.getElem_of_mem g
     have : i ≠ j := fun e2 => by subst e2; exact k e
     refine List.mem_of_getElem? (i := j) ?_
     rw [List.getElem?_set, if_neg this, List.getElem?_eq_getElem hj]
    ·exact hmem
  rw [if_pos hin] at pl
  rw [decide_eq_true (by omega : (putL s f).length ≤ 8)] at hq
  rw [eq]; exact hq
 ·rw [if_neg (by simpa using h)]
  have hno : f.Id ∉ ids s := fun hm => by
   obtain ⟨x, hx, ex⟩ := List.mem_map.1 hm
   obtain ⟨j, hj, rfl⟩ := List.getElem_of_mem hx
   have := findN_neg (n := s.length) (c := fun j => (nth s (j : Int)).Id == f.Id) OM j hj
   rw [nth_nat _ hj] at this
   simp at this
   exact this ex
  rw [if_neg hno] at pl
  by_cases h8 : (s.length : Int) = 8
  ·rw [if_pos (by simpa using h8)]
   rw [decide_eq_false (by omega : ¬ (putL s f).length ≤ 8), if_neg RD] at hq; exact hq
  rw [if_neg (by simpa using h8)]
  rw [decide_eq_true (by omega : (putL s f).length ≤ 8)] at hq
  unfold F6.E
  refine ⟨by simp only [List.length_cons, List.length_nil]; omega, by simp only [List.length_append, List.length_cons, List.length_nil]; omega, fun r hp hs => ?_⟩
  have nd : (ids r).Nodup := by
   have h0 : (ids (s ++ [f])).Nodup := by
    rw [ids_app]
    refine List.nodup_append.2 ⟨nodup_ss ss, by simp [ids], fun a ha b hb' e => ?_⟩
    have hb' : b = f.Id := by simpa [ids] using hb'
    rw [e, hb'] at ha; exact hno ha
   exact (hp.map (fun x : Feat => x.Id)).nodup_iff.2 h0
  have fr : FS r := by
   unfold FS
   unfold ids at nd
   refine (hs.and (List.pairwise_map.1 nd)).imp fun {a b} h => ?_
   rcases less_or h.1 with g | g
   ·exact g
   ·exact absurd g h.2
  have eq : r = putL s f := FS.ext fr (putL_fs fs f) fun x => by
   rw [putL_mem, hp.mem_iff, List.mem_append, List.mem_singleton]
   constructor
   ·rintro (g | g)
    ·exact .inl ⟨g, fun e => hno (List.mem_map.2 ⟨x, g, e⟩)⟩
    ·exact .inr g
   ·rintro (g | g)
    ·exact .inl g.1
    ·exact .inr g
  rw [eq]
  exact F33.law _ _ (Nat.le_trans (MB.of (putL_ok ks kf OM)).small RD) hq
def ptT (p : Pt) : Str := [32] ++ Lib.itoa p.X ++ [44] ++ Lib.itoa p.Y
def shT (s : Shape) : Str := nth shapeNamesL s.Kind ++ s.Pts.flatMap ptT
def tagT (t : Tag) : Str := [32] ++ t.Key ++ [61] ++ t.Val
def featT (f : Feat) : Str := if featOk f then f.Id ++ [32] ++ shT f.Shape ++ f.Tags.flatMap tagT else []
def sideT (has : Bool) (f : Feat) : Str := if has then featT f else [45]
def lineT (c : Change) : Str := c.Id ++ [58, 32] ++ sideT c.Had c.Was ++ [32, 62, 32] ++ sideT c.Has c.Now ++ [10]
def diffT (d : List Change) : Str := if diffOk d then d.flatMap lineT else []
theorem loop_text {α : Type} [Inhabited α] (l : List α) (g : α → Str) (t0 : Str) (m M : Nat) (hm : ∀ x ∈ l, (g x).length ≤ m) (hM : t0.length + l.length * m ≤ M)
  {B : (Str → Int → Prop) → (Str → Int → Nat) → Str → Int → Prop} {F : Str → Prop}
  (hs : ∀ (I : Str → Int → Prop) (mu : Str → Int → Nat) (k : Nat) (out : Str), k < l.length → nth l (k : Int) ∈ l → out.length ≤ M →
   (∀ X, X = out ++ g (nth l (k : Int)) → I X ((k : Int) + 1) ∧ mu X ((k : Int) + 1) < mu out (k : Int)) → B I mu out (k : Int))
  (hF : F (t0 ++ l.flatMap g)) :
  ∃ (I : Str → Int → Prop) (mu : Str → Int → Nat), I t0 0 ∧ ∀ (out : Str) (i : Int), I out i → (if decide (i < (l.length : Int)) then B I mu out i else F out) := by
 have len : ∀ k, k ≤ l.length → (t0 ++ (l.take k).flatMap g).length ≤ M := fun k hk => by
  have : ∀ n : List α, (∀ x ∈ n, (g x).length ≤ m) → (n.flatMap g).length ≤ n.length * m := fun n => by
   induction n with
   | nil => intro _; simp
   | cons a n ih =>
    intro h
    rw [List.flatMap_cons, List.length_append, List.length_cons, Nat.add_mul]
    have h1 := h a (List.mem_cons_self ..)
    have h2 := ih fun x hx => h x (List.mem_cons_of_mem _ hx)
    omega
  have h1 := this (l.take k) fun x hx => hm x (List.mem_of_mem_take hx)
  have h2 : (l.take k).length * m ≤ l.length * m := Nat.mul_le_mul_right _ (by rw [List.length_take]; omega)
  rw [List.length_append]; omega
 refine ⟨fun out i => ∃ k : Nat, i = k ∧ k ≤ l.length ∧ out = t0 ++ (l.take k).flatMap g, fun _ i => ((l.length : Int) - i).toNat, ⟨0, rfl, Nat.zero_le _, by simp⟩, ?_⟩
 rintro _ _ ⟨k, rfl, hk, rfl⟩
 by_cases h : (k : Int) < (l.length : Int)
 ·rw [if_pos (by simpa using h)]
  refine hs _ _ k _ OM (nth_mem l OM) (len k hk) fun X hX => ⟨⟨k + 1, OM, OM, ?_⟩, OM⟩
  rw [hX, take_nth l OM, List.flatMap_append, List.flatMap_cons, List.flatMap_nil, List.append_nil, List.append_assoc]
 ·rw [if_neg (by simpa using h)]
  have : k = l.length := by omega
  subst this
  rw [List.take_length]; exact hF
theorem flatT_len {α : Type} (l : List α) (g : α → Str) (m : Nat) (hm : ∀ x ∈ l, (g x).length ≤ m) : (l.flatMap g).length ≤ l.length * m := by
 induction l with
 | nil => simp
 | cons a n ih =>
  rw [List.flatMap_cons, List.length_append, List.length_cons, Nat.add_mul]
  have h1 := hm a (List.mem_cons_self ..)
  have h2 := ih fun x hx => hm x (List.mem_cons_of_mem _ hx)
  omega
theorem shape_in {s : Shape} (h : shapeOk s = true) : (1 ≤ s.Kind ∧ s.Kind ≤ 3) ∧ s.Pts.length ≤ 6 ∧ ∀ p ∈ s.Pts, (-1000 ≤ p.X ∧ p.X ≤ 1000) ∧ -1000 ≤ p.Y ∧ p.Y ≤ 1000 := by
 have hp := shape_pts h
 unfold shapeOk at h
 rw [Bool.and_eq_true] at h
 refine ⟨?_, hp, fun p hm => ?_⟩
 ·have h2 := h.2
  unfold kindOk at h2
  by_cases k1 : s.Kind = 1
  ·omega
  ·rw [if_neg k1] at h2
   by_cases k2 : s.Kind = 2
   ·omega
   ·rw [if_neg k2] at h2
    by_cases k3 : s.Kind = 3
    ·omega
    ·rw [if_neg k3] at h2; cases h2
 ·obtain ⟨i, hi, rfl⟩ := List.mem_iff_getElem.1 hm
  have h1 := allN_iff.1 h.1 i hi
  rw [Bool.and_eq_true] at h1
  have h3 := h1.1
  have e : nth s.Pts (i : Int) = s.Pts[i] := by unfold nth; simp [hi]
  rw [e] at h3
  unfold ptOk inR at h3
  simp only [Bool.and_eq_true, decide_eq_true_eq] at h3
  omega
theorem ptT_len {p : Pt} (h : (-1000 ≤ p.X ∧ p.X ≤ 1000) ∧ -1000 ≤ p.Y ∧ p.Y ≤ 1000) : (ptT p).length ≤ 44 := by
 have h1 := itoa_len p.X OM OM
 have h2 := itoa_len p.Y OM OM
 unfold ptT
 simp only [List.length_append, List.length_cons, List.length_nil]; omega
theorem names_len : ∀ k : Int, (nth shapeNamesL k).length ≤ 4 := fun k => by
 by_cases h : 0 ≤ k ∧ k < 4
 ·have : k = 0 ∨ k = 1 ∨ k = 2 ∨ k = 3 := by omega
  rcases this with rfl | rfl | rfl | rfl <;> decide
 ·unfold nth
  by_cases h0 : k < 0
  ·have : k.toNat = 0 := by omega
   rw [this]; decide
  ·rw [show shapeNamesL.getD k.toNat default = default from by rw [List.getD_eq_getElem?_getD, List.getElem?_eq_none (by show 4 ≤ k.toNat; omega)]; rfl]; decide
theorem shT_len {s : Shape} (h : shapeOk s = true) : (shT s).length ≤ 268 := by
 obtain ⟨_, h2, h3⟩ := shape_in h
 have h4 := flatT_len s.Pts ptT 44 fun p hp => ptT_len (h3 p hp)
 have h5 := names_len s.Kind
 unfold shT
 rw [List.length_append]; omega
theorem featT_len (f : Feat) : (featT f).length ≤ 400 := by
 unfold featT
 by_cases h : featOk f = true
 ·rw [if_pos h]
  obtain ⟨h1, h2, _, h4, h5⟩ := feat_facts h
  have h6 := shT_len h2
  have h7 := flatT_len f.Tags tagT 14 fun t ht => by
   have := h5 t ht
   unfold tagT
   simp only [List.length_append, List.length_cons, List.length_nil]; omega
  simp only [List.length_append, List.length_cons, List.length_nil]; omega
 ·rw [if_neg h]; exact Nat.zero_le _
theorem sideT_len (b : Bool) (f : Feat) : (sideT b f).length ≤ 400 := by
 unfold sideT
 cases b
 ·exact (by decide : ([45] : Str).length ≤ 400)
 ·exact featT_len f
theorem lineT_len {c : Change} (h : c.Id.length ≤ 6) : (lineT c).length ≤ 812 := by
 have h1 := sideT_len c.Had c.Was
 have h2 := sideT_len c.Has c.Now
 unfold lineT
 simp only [List.length_append, List.length_cons, List.length_nil]; omega
theorem F97.law (f : Feat) (Q : Bool → Prop) (hq : Q (noF f)) : F97.E f Q := by
 unfold F97.E
 obtain ⟨i, ⟨k, p⟩, t⟩ := f
 unfold noF at hq
 dsimp only
 have e : decide ((⟨i, ⟨k, p⟩, t⟩ : Feat) = ⟨[], ⟨0, []⟩, []⟩) = (decide (i = []) && decide (k = 0) && decide (p = []) && decide (t = [])) := by
  rw [Bool.eq_iff_iff]; simp [and_assoc]
 rw [e] at hq
 cases h1 : decide (i = []) with
 | false => rw [h1] at hq; rw [if_neg (by rw [beq_iff_eq]; exact of_decide_eq_false h1)]; exact hq
 | true =>
  rw [if_pos (by rw [beq_iff_eq]; exact of_decide_eq_true h1)]
  cases h2 : decide (k = 0) with
  | false => rw [h1, h2] at hq; rw [if_neg (by rw [beq_iff_eq]; exact of_decide_eq_false h2)]; exact hq
  | true =>
   rw [if_pos (by rw [beq_iff_eq]; exact of_decide_eq_true h2)]
   cases h3 : decide (p = []) with
   | false => rw [h1, h2, h3] at hq; rw [if_neg (by rw [beq_iff_eq]; have := of_decide_eq_false h3; intro e; exact this (List.length_eq_zero_iff.1 OM))]; exact hq
   | true =>
    rw [if_pos (by rw [beq_iff_eq, of_decide_eq_true h3]; rfl)]
    rw [h1, h2, h3] at hq
    have : ((t.length : Int) == 0) = decide (t = []) := by
     rw [Bool.eq_iff_iff, beq_iff_eq, decide_eq_true_eq]
     exact ⟨fun e => List.length_eq_zero_iff.1 OM, fun e => by rw [e]; rfl⟩
    rw [this]; exact hq
theorem F99.law (id : Str) (has : Bool) (f : Feat) (Q : Bool → Prop) (hb : bulk f ≤ 1048576) (hq : Q (sideOk id has f)) : F99.E id has f Q := by
 unfold F99.E
 unfold sideOk at hq
 cases has with
 | false => rw [if_pos RD]; rw [if_neg RD] at hq; exact F97.law _ _ hq
 | true =>
  rw [if_neg RD]; rw [if_pos rfl] at hq
  refine F98.law _ _ hb ?_
  cases h : featOk f with
  | false => rw [h] at hq; rw [if_neg RD]; exact hq
  | true =>
   rw [h, Bool.true_and] at hq; rw [if_pos rfl]
   have : (f.Id == id) = decide (f.Id = id) := by rw [Bool.eq_iff_iff, beq_iff_eq, decide_eq_true_eq]
   rw [this]; exact hq
theorem F18.law (a b : List Tag) (Q : Bool → Prop) (hb : a.length ≤ 1048576) (hq : Q (decide (a = b))) : F18.E a b Q := by
 unfold F18.E
 exact eqI_shape eqTag eqTag_is a b Q hb hq
theorem F23.law (a b : List Pt) (Q : Bool → Prop) (hb : a.length ≤ 1048576) (hq : Q (decide (a = b))) : F23.E a b Q := by
 unfold F23.E
 exact eqI_shape eqPt eqPt_is a b Q hb hq
theorem F39.law (a b : Shape) (Q : Bool → Prop) (hl : a.Pts.length ≤ 1048576) (hq : Q (decide (a = b))) : F39.E a b Q := by
 unfold F39.E
 by_cases h : a.Kind = b.Kind
 ·rw [if_pos (by rw [beq_iff_eq]; exact h)]
  refine F23.law _ _ _ OM ?_
  have : decide (a.Pts = b.Pts) = decide (a = b) := decide_eq_decide.2 (by rw [Shape.ext_iff']; exact ⟨fun e => ⟨h, e⟩, fun e => e.2⟩)
  rw [this]; exact hq
 ·rw [if_neg (by rw [beq_iff_eq]; exact h)]
  rw [decide_eq_false (by rw [Shape.ext_iff']; exact fun e => h e.1)] at hq; exact hq
theorem F46.law (a b : Feat) (Q : Bool → Prop) (hl : a.Shape.Pts.length ≤ 1048576 ∧ a.Tags.length ≤ 1048576) (hq : Q (decide (a = b))) : F46.E a b Q := by
 unfold F46.E
 by_cases h : a.Id = b.Id
 ·rw [if_pos (by rw [beq_iff_eq]; exact h)]
  refine F39.law _ _ _ OM ?_
  by_cases h2 : a.Shape = b.Shape
  ·rw [decide_eq_true h2, if_pos rfl]
   refine F18.law _ _ _ OM ?_
   have : decide (a.Tags = b.Tags) = decide (a = b) := decide_eq_decide.2 (by rw [Feat.ext_iff']; exact ⟨fun e => ⟨h, h2, e⟩, fun e => e.2.2⟩)
   rw [this]; exact hq
  ·rw [decide_eq_false h2, if_neg RD]
   rw [decide_eq_false (by rw [Feat.ext_iff']; exact fun e => h2 e.2.1)] at hq; exact hq
 ·rw [if_neg (by rw [beq_iff_eq]; exact h)]
  rw [decide_eq_false (by rw [Feat.ext_iff']; exact fun e => h e.1)] at hq; exact hq
theorem F19.law (c : Change) (Q : Bool → Prop) (hb : bulk c ≤ 1048576) (hq : Q (sameC c)) : F19.E c Q := by
 unfold F19.E
 unfold sameC at hq
 have b1 : bulk c = bulk c.Id + bulk c.Had + bulk c.Was + bulk c.Has + bulk c.Now := rfl
 have b2 : bulk c.Was = bulk c.Was.Id + bulk c.Was.Shape + bulk c.Was.Tags := rfl
 have b3 : bulk c.Was.Shape = bulk c.Was.Shape.Kind + bulk c.Was.Shape.Pts := rfl
 have l1 := bulk_len c.Was.Tags; have l2 := bulk_len c.Was.Shape.Pts
 by_cases h : c.Had = c.Has
 ·rw [if_pos (by rw [beq_iff_eq]; exact h)]
  rw [decide_eq_true h, Bool.true_and] at hq
  exact F46.law _ _ _ OM hq
 ·rw [if_neg (by rw [beq_iff_eq]; exact h)]
  rw [decide_eq_false h] at hq; exact hq
theorem F100.law (d : List Change) (Q : Bool → Prop) (hb : bulk d ≤ 1048576) (hq : Q (diffOk d)) : F100.E d Q := by
 unfold F100.E
 unfold diffOk at hq
 have hl := bulk_len d
 refine loop_all d.length (fun k => changeOk (nth d (k : Int)) && (decide (k = 0) || Op.bytesLess (nth d ((k : Int) - 1)).Id (nth d (k : Int)).Id)) (fun I mu k hk hp hn => ?_) (fun ha => ?_)
 ·have bad : (changeOk (nth d (k : Int)) && (decide (k = 0) || Op.bytesLess (nth d ((k : Int) - 1)).Id (nth d (k : Int)).Id)) = false → Q false := fun h => by
   rw [allN_false hk h, Bool.false_and] at hq; exact hq
  have m1 := bulk_mem (nth_mem d hk)
  have b1 : bulk (nth d (k : Int)) = bulk (nth d (k : Int)).Id + bulk (nth d (k : Int)).Had + bulk (nth d (k : Int)).Was + bulk (nth d (k : Int)).Has + bulk (nth d (k : Int)).Now := rfl
  have l1 := bulk_len (nth d (k : Int)).Id
  generalize hc : nth d (k : Int) = c at *
  refine ⟨OM, _, F96.law _ _ OM rfl, ?_⟩
  have co : ∀ a b e g : Bool, wordOk c.Id = a → sideOk c.Id c.Had c.Was = b → sideOk c.Id c.Has c.Now = e → sameC c = g → changeOk c = (a && b && e && !g) := fun a b e g h1 h2 h3 h4 => by unfold changeOk; rw [h1, h2, h3, h4]
  have rest : wordOk c.Id = true → (decide (k = 0) || Op.bytesLess (nth d ((k : Int) - 1)).Id c.Id) = true →
    (∃ q : Bool, F99.E c.Id c.Had c.Was (fun x => x = q) ∧ (if !q then Q false else (∃ q2 : Bool, F99.E c.Id c.Has c.Now (fun x => x = q2) ∧ (if !q2 then Q false else (∃ q3 : Bool, F19.E c (fun x => x = q3) ∧ (if q3 then Q false else (I64 ((k : Int) + 1)) ∧ I ((k : Int) + 1) ∧ mu ((k : Int) + 1) < mu (k : Int))))))) := fun h1 ho => by
   refine ⟨_, F99.law _ _ _ _ OM rfl, ?_⟩
   cases h2 : sideOk c.Id c.Had c.Was with
   | false => rw [if_pos RD]; exact bad (by rw [co _ _ _ _ h1 h2 rfl rfl]; rfl)
   | true =>
    rw [if_neg RD]
    refine ⟨_, F99.law _ _ _ _ OM rfl, ?_⟩
    cases h3 : sideOk c.Id c.Has c.Now with
    | false => rw [if_pos RD]; exact bad (by rw [co _ _ _ _ h1 h2 h3 rfl]; rfl)
    | true =>
     rw [if_neg RD]
     refine ⟨_, F19.law _ _ OM rfl, ?_⟩
     cases h4 : sameC c with
     | true => rw [if_pos rfl]; exact bad (by rw [co _ _ _ _ h1 h2 h3 h4]; rfl)
     | false =>
      rw [if_neg RD]
      obtain ⟨i1, i2⟩ := hn (by rw [co _ _ _ _ h1 h2 h3 h4, ho]; rfl)
      exact ⟨by unfold I64; omega, i1, i2⟩
  cases h1 : wordOk c.Id with
  | false => rw [if_pos RD]; exact bad (by rw [co _ _ _ _ h1 rfl rfl rfl]; rfl)
  | true =>
   rw [if_neg RD]
   by_cases hk0 : k = 0
   ·rw [if_neg (by rw [decide_eq_true_eq]; omega)]
    exact rest h1 (by rw [decide_eq_true hk0]; rfl)
   ·rw [if_pos (by rw [decide_eq_true_eq]; omega)]
    refine ⟨by unfold I64; omega, OM, ?_⟩
    cases h3 : Op.bytesLess (nth d ((k : Int) - 1)).Id c.Id with
    | false => rw [if_pos RD]; exact bad (by rw [h3, decide_eq_false hk0]; simp)
    | true => rw [if_neg RD]; exact rest h1 (by rw [h3, Bool.or_true])
 ·rw [allN_true ha, Bool.true_and] at hq
  have e2 : decide ((d.length : Int) ≤ 16) = decide (d.length ≤ 16) := decide_eq_decide.2 OM
  rw [e2]; exact hq
theorem F25.law (s : Shape) (h : shapeOk s = true) (Q : Str → Prop) (hq : Q (shT s)) : F25.E s Q := by
 obtain ⟨h1, h2, h3⟩ := shape_in h
 have h0 := names_len s.Kind
 unfold F25.E
 refine ⟨⟨OM, by show s.Kind < 4; omega⟩, loop_text s.Pts ptT _ 44 300 (fun p hp => ptT_len (h3 p hp)) OM (fun I mu k out hk hm ho hn => ?_) hq⟩
 have hp := h3 _ hm
 have l1 := itoa_len (nth s.Pts (k : Int)).X OM OM
 have l2 := itoa_len (nth s.Pts (k : Int)).Y OM OM
 obtain ⟨i1, i2⟩ := hn (out ++ (((([32] : Str) ++ Lib.itoa (nth s.Pts (k : Int)).X) ++ ([44] : Str)) ++ Lib.itoa (nth s.Pts (k : Int)).Y)) rfl
 refine ⟨OM, _, ⟨⟨OM, OM⟩, rfl⟩, by unfold Lim; omega, ?_, ?_, _, ⟨⟨OM, OM⟩, rfl⟩, by unfold Lim; omega, ?_, ?_, by unfold I64; omega, i1, i2⟩
 all_goals (simp only [List.length_append, List.length_cons, List.length_nil]; omega)
theorem F48.law (f : Feat) (hb : bulk f ≤ 1048576) (Q : Str → Prop) (hq : Q (featT f)) : F48.E f Q := by
 unfold F48.E
 refine F98.law _ _ hb ?_
 unfold featT at hq
 by_cases h : featOk f = true
 ·rw [if_pos h] at hq
  obtain ⟨h1, h2, _, h4, h5⟩ := feat_facts h
  have l1 := shT_len h2
  rw [h, if_neg RD]
  refine ⟨?_, _, F25.law _ h2 _ rfl, by unfold Lim; omega, ?_, loop_text f.Tags tagT _ 14 400 (fun t ht => ?_) ?_ (fun I mu k out hk hm ho hn => ?_) hq⟩
  ·simp only [List.length_cons, List.length_nil]; omega
  ·simp only [List.length_append, List.length_cons, List.length_nil]; omega
  ·have := h5 t ht
   unfold tagT
   simp only [List.length_append, List.length_cons, List.length_nil]; omega
  ·simp only [List.length_append, List.length_cons, List.length_nil]; omega
  ·have ht := h5 _ hm
   obtain ⟨i1, i2⟩ := hn (out ++ (((([32] : Str) ++ ((nth f.Tags (k : Int)).Key)) ++ ([61] : Str)) ++ ((nth f.Tags (k : Int)).Val))) rfl
   refine ⟨OM, ?_, ?_, ?_, ?_, by unfold I64; omega, i1, i2⟩
   all_goals (simp only [List.length_append, List.length_cons, List.length_nil]; omega)
 ·rw [if_neg h] at hq
  rw [Bool.eq_false_iff.2 h, if_pos RD]; exact hq
theorem F26.law (has : Bool) (f : Feat) (hb : bulk f ≤ 1048576) (Q : Str → Prop) (hq : Q (sideT has f)) : F26.E has f Q := by
 unfold F26.E
 cases has with
 | false => rw [if_pos RD]; exact hq
 | true => rw [if_neg RD]; exact F48.law _ hb _ hq
theorem F49.law (d : List Change) (hb : bulk d ≤ 1048576) (Q : Str → Prop) (hq : Q (diffT d)) : F49.E d Q := by
 unfold F49.E
 refine F100.law _ _ hb ?_
 unfold diffT at hq
 by_cases h : diffOk d = true
 ·rw [if_pos h] at hq
  obtain ⟨_, h2, h3⟩ := diff_cs h
  rw [h, if_neg RD]
  have hid : ∀ c ∈ d, c.Id.length ≤ 6 := fun c hc => by
   have := h3 c hc
   unfold changeOk at this
   simp only [Bool.and_eq_true] at this
   exact word_len this.1.1.1
  refine loop_text d lineT _ 812 13000 (fun c hc => lineT_len (hid c hc)) (by show 0 + d.length * 812 ≤ 13000; omega) (fun I mu k out hk hm ho hn => ?_) hq
  have m1 := bulk_mem hm
  have hi := hid _ hm
  have b1 : bulk (nth d (k : Int)) = bulk (nth d (k : Int)).Id + bulk (nth d (k : Int)).Had + bulk (nth d (k : Int)).Was + bulk (nth d (k : Int)).Has + bulk (nth d (k : Int)).Now := rfl
  have l1 := sideT_len (nth d (k : Int)).Had (nth d (k : Int)).Was
  have l2 := sideT_len (nth d (k : Int)).Has (nth d (k : Int)).Now
  obtain ⟨i1, i2⟩ := hn (out ++ (((((((nth d (k : Int)).Id) ++ ([58, 32] : Str)) ++ sideT (nth d (k : Int)).Had (nth d (k : Int)).Was) ++ ([32, 62, 32] : Str)) ++ sideT (nth d (k : Int)).Has (nth d (k : Int)).Now) ++ ([10] : Str))) rfl
  refine ⟨OM, ?_, F26.law _ _ OM _ ⟨?_, ?_, F26.law _ _ OM _ ⟨?_, ?_, ?_, by unfold I64; omega, i1, i2⟩⟩⟩
  all_goals (simp only [List.length_append, List.length_cons, List.length_nil]; omega)
 ·rw [if_neg h] at hq
  rw [Bool.eq_false_iff.2 h, if_pos RD]; exact hq
theorem F85.law (s : Str) (Q : Bool → Prop) (hq : Q (wordOk s)) : F85.E s Q := by
 unfold F85.E
 unfold wordOk at hq
 refine loop_all s.length (fun k => byteOk (nth s (k : Int))) (fun I mu k hk hp hn => ?_) (fun ha => ?_)
 ·refine ⟨OM, ?_⟩
  cases h1 : decide (((nth s (k : Int)).toNat : Int) < 97) with
  | true => rw [if_pos rfl]; rw [allN_false hk (by simp only [byteOk, h1]; rfl), Bool.false_and] at hq; exact hq
  | false =>
   rw [if_neg RD]
   refine ⟨OM, ?_⟩
   cases h2 : decide (((nth s (k : Int)).toNat : Int) > 122) with
   | true => rw [if_pos rfl]; rw [allN_false hk (by simp only [byteOk, h1, h2]; rfl), Bool.false_and] at hq; exact hq
   | false =>
    rw [if_neg RD]
    obtain ⟨i1, i2⟩ := hn (by simp only [byteOk, h1, h2]; rfl)
    exact ⟨OM, i1, i2⟩
 ·rw [allN_true ha, Bool.true_and] at hq
  by_cases h : 1 ≤ s.length
  ·rw [decide_eq_true h, Bool.true_and] at hq
   rw [if_pos (by rw [decide_eq_true_eq]; omega)]
   have e2 : decide ((s.length : Int) ≤ 6) = decide (s.length ≤ 6) := decide_eq_decide.2 OM
   rw [e2]; exact hq
  ·rw [decide_eq_false h, Bool.false_and] at hq
   rw [if_neg (by rw [decide_eq_true_eq]; omega)]; exact hq
theorem F86.law (t : List Tag) (Q : Bool → Prop) (hq : Q (tagsOk t && decide (t.length ≤ 4))) : F86.E t Q := by
 unfold F86.E
 unfold tagsOk at hq
 refine loop_all t.length (fun k => wordOk (nth t (k : Int)).Key && wordOk (nth t (k : Int)).Val && (decide (k = 0) || Op.bytesLess (nth t ((k : Int) - 1)).Key (nth t (k : Int)).Key)) (fun I mu k hk hp hn => ?_) (fun ha => ?_)
 ·have bad : (wordOk (nth t (k : Int)).Key && wordOk (nth t (k : Int)).Val && (decide (k = 0) || Op.bytesLess (nth t ((k : Int) - 1)).Key (nth t (k : Int)).Key)) = false → Q false := fun h => by
   rw [allN_false hk h, Bool.false_and] at hq; exact hq
  refine ⟨OM, _, F85.law _ _ rfl, ?_⟩
  cases h1 : wordOk (nth t (k : Int)).Key with
  | false => rw [if_pos RD]; exact bad (by rw [h1]; rfl)
  | true =>
   rw [if_neg RD]
   refine ⟨OM, _, F85.law _ _ rfl, ?_⟩
   cases h2 : wordOk (nth t (k : Int)).Val with
   | false => rw [if_pos RD]; exact bad (by rw [h2, Bool.and_false]; rfl)
   | true =>
    rw [if_neg RD]
    by_cases hk0 : k = 0
    ·rw [if_neg (by rw [decide_eq_true_eq]; omega)]
     obtain ⟨i1, i2⟩ := hn (by rw [h1, h2, decide_eq_true hk0]; rfl)
     exact ⟨OM, i1, i2⟩
    ·rw [if_pos (by rw [decide_eq_true_eq]; omega)]
     refine ⟨OM, fun _ => by unfold I64; omega, OM, ?_⟩
     rw [← less_tri]
     cases h3 : Op.bytesLess (nth t ((k : Int) - 1)).Key (nth t (k : Int)).Key with
     | false => rw [if_pos RD]; exact bad (by rw [h3, h1, h2, decide_eq_false hk0]; rfl)
     | true =>
      rw [if_neg RD]
      obtain ⟨i1, i2⟩ := hn (by rw [h3, h1, h2, decide_eq_false hk0]; rfl)
      exact ⟨OM, i1, i2⟩
 ·rw [allN_true ha, Bool.true_and] at hq
  have e2 : decide ((t.length : Int) ≤ 4) = decide (t.length ≤ 4) := decide_eq_decide.2 OM
  rw [e2]; exact hq
theorem F87.law (f : Feat) (Q : Bool → Prop) (hq : Q (featOk f)) : F87.E f Q := by
 unfold F87.E
 unfold featOk at hq
 refine F85.law _ _ ?_
 cases h1 : wordOk f.Id with
 | false => rw [h1, Bool.and_false, Bool.false_and] at hq; rw [if_neg RD]; exact hq
 | true =>
  rw [h1, Bool.and_true] at hq
  rw [if_pos rfl]
  refine F68.law _ _ ?_
  cases h2 : shapeOk f.Shape with
  | false => rw [h2, Bool.and_false] at hq; rw [if_neg RD]; exact hq
  | true => rw [h2, Bool.and_true] at hq; rw [if_pos rfl]; exact F86.law _ _ hq
theorem F91.law (a b : List Tag) (Q : Bool → Prop) (hq : Q (decide (a = b))) : F91.E a b Q := by
 unfold F91.E
 exact eqS_shape eqTag eqTag_is a b Q hq
theorem F90.law (a b : List Pt) (Q : Bool → Prop) (hq : Q (decide (a = b))) : F90.E a b Q := by
 unfold F90.E
 exact eqS_shape eqPt eqPt_is a b Q hq
theorem F38.law (a b : Shape) (Q : Bool → Prop) (hq : Q (decide (a = b))) : F38.E a b Q := by
 unfold F38.E
 by_cases h : a.Kind = b.Kind
 ·rw [if_pos (by rw [beq_iff_eq]; exact h)]
  refine F90.law _ _ _ ?_
  have : decide (a.Pts = b.Pts) = decide (a = b) := decide_eq_decide.2 (by rw [Shape.ext_iff']; exact ⟨fun e => ⟨h, e⟩, fun e => e.2⟩)
  rw [this]; exact hq
 ·rw [if_neg (by rw [beq_iff_eq]; exact h)]
  rw [decide_eq_false (by rw [Shape.ext_iff']; exact fun e => h e.1)] at hq; exact hq
theorem F45.law (a b : Feat) (Q : Bool → Prop) (hq : Q (decide (a = b))) : F45.E a b Q := by
 unfold F45.E
 by_cases h : a.Id = b.Id
 ·rw [if_pos (by rw [beq_iff_eq]; exact h)]
  refine F38.law _ _ _ ?_
  by_cases h2 : a.Shape = b.Shape
  ·rw [decide_eq_true h2, if_pos rfl]
   refine F91.law _ _ _ ?_
   have : decide (a.Tags = b.Tags) = decide (a = b) := decide_eq_decide.2 (by rw [Feat.ext_iff']; exact ⟨fun e => ⟨h, h2, e⟩, fun e => e.2.2⟩)
   rw [this]; exact hq
  ·rw [decide_eq_false h2, if_neg RD]
   rw [decide_eq_false (by rw [Feat.ext_iff']; exact fun e => h2 e.2.1)] at hq; exact hq
 ·rw [if_neg (by rw [beq_iff_eq]; exact h)]
  rw [decide_eq_false (by rw [Feat.ext_iff']; exact fun e => h e.1)] at hq; exact hq
theorem F130.law (c : Change) (Q : Bool → Prop) (hq : Q (changeOk c)) : F130.E c Q := by
 unfold F130.E
 unfold changeOk sideOk noF sameC at hq
 have eid : ∀ f : Feat, (f.Id == c.Id) = decide (f.Id = c.Id) := fun f => by rw [Bool.eq_iff_iff, beq_iff_eq, decide_eq_true_eq]
 refine F85.law _ _ ?_
 cases hw : wordOk c.Id with
 | false => rw [hw] at hq; rw [if_pos RD]; exact hq
 | true =>
  rw [hw, Bool.true_and] at hq
  rw [if_neg RD]
  cases h1 : c.Had <;> cases h2 : c.Has
  ·-- neither
   rw [h1, h2] at hq
   rw [if_pos RD, if_pos RD]
   simp only [reduceIte, Bool.false_eq_true, Bool.true_eq_false, reduceCtorEq, if_false, if_true, eq_self, decide_true, decide_false, Bool.true_and, Bool.false_and, Bool.not_false, Bool.not_true, Bool.and_true] at hq
   have e : (decide (c.Was = (⟨[], ⟨0, []⟩, []⟩ : Feat)) && decide (c.Now = (⟨[], ⟨0, []⟩, []⟩ : Feat)) && !(decide (c.Was = c.Now))) = false := by
    by_cases a : c.Was = (⟨[], ⟨0, []⟩, []⟩ : Feat)
    ·by_cases b : c.Now = (⟨[], ⟨0, []⟩, []⟩ : Feat)
     ·rw [decide_eq_true (a.trans b.symm)]; simp
     ·rw [decide_eq_false b]; simp
    ·rw [decide_eq_false a]; rfl
   rw [e] at hq; exact hq
  ·rw [h1, h2] at hq
   simp only [reduceIte, Bool.false_eq_true, Bool.true_eq_false, reduceCtorEq, if_false, if_true, eq_self, decide_true, decide_false, Bool.true_and, Bool.false_and, Bool.not_false, Bool.not_true, Bool.and_true] at hq
   rw [if_pos RD, if_neg RD, if_neg RD]
   refine F45.law _ _ _ ?_
   cases ha : decide (c.Was = (⟨[], ⟨0, []⟩, []⟩ : Feat)) with
   | false => rw [ha] at hq; rw [if_pos RD]; exact hq
   | true =>
    rw [ha, Bool.true_and] at hq
    rw [if_neg RD]
    refine F87.law _ _ ?_
    cases hf : featOk c.Now with
    | false => rw [hf] at hq; rw [if_neg RD]; exact hq
    | true => rw [hf, Bool.true_and] at hq; rw [if_pos rfl, eid]; exact hq
  ·rw [h1, h2] at hq
   simp only [reduceIte, Bool.false_eq_true, Bool.true_eq_false, reduceCtorEq, if_false, if_true, eq_self, decide_true, decide_false, Bool.true_and, Bool.false_and, Bool.not_false, Bool.not_true, Bool.and_true] at hq
   rw [if_neg RD, if_pos rfl, if_neg RD, if_pos RD]
   refine F45.law _ _ _ ?_
   cases ha : decide (c.Now = (⟨[], ⟨0, []⟩, []⟩ : Feat)) with
   | false => rw [ha, Bool.and_false] at hq; rw [if_pos RD]; exact hq
   | true =>
    rw [ha, Bool.and_true] at hq
    rw [if_neg RD]
    refine F87.law _ _ ?_
    cases hf : featOk c.Was with
    | false => rw [hf] at hq; rw [if_neg RD]; exact hq
    | true =>
     rw [hf, Bool.true_and] at hq; rw [if_pos rfl, eid]
     cases hi : decide (c.Was.Id = c.Id) with
     | false => rw [hi] at hq; rw [if_neg RD]; exact hq
     | true => rw [hi] at hq; rw [if_pos rfl]; exact hq
  ·rw [h1, h2] at hq
   simp only [reduceIte, Bool.false_eq_true, Bool.true_eq_false, reduceCtorEq, if_false, if_true, eq_self, decide_true, decide_false, Bool.true_and, Bool.false_and, Bool.not_false, Bool.not_true, Bool.and_true] at hq
   rw [if_neg RD, if_pos rfl, if_pos rfl]
   refine F45.law _ _ _ ?_
   cases hs : decide (c.Was = c.Now) with
   | true => rw [hs, Bool.not_true, Bool.and_false] at hq; rw [if_pos rfl]; exact hq
   | false =>
    rw [hs, Bool.not_false, Bool.and_true] at hq
    rw [if_neg RD, if_neg RD]
    refine F87.law _ _ ?_
    cases hf : featOk c.Was with
    | false => rw [hf] at hq; rw [if_neg RD]; exact hq
    | true =>
     rw [hf, Bool.true_and] at hq; rw [if_pos rfl, eid]
     cases hi : decide (c.Was.Id = c.Id) with
     | false => rw [hi] at hq; rw [if_neg RD]; exact hq
     | true =>
      rw [hi, Bool.true_and] at hq; rw [if_pos rfl]
      refine F87.law _ _ ?_
      cases hg : featOk c.Now with
      | false => rw [hg] at hq; rw [if_neg RD]; exact hq
      | true => rw [hg, Bool.true_and] at hq; rw [if_pos rfl, eid]; exact hq
theorem F101.law (d : List Change) (Q : Bool → Prop) (hq : Q (diffOk d)) : F101.E d Q := by
 unfold F101.E
 unfold diffOk at hq
 refine loop_all d.length (fun k => changeOk (nth d (k : Int)) && (decide (k = 0) || Op.bytesLess (nth d ((k : Int) - 1)).Id (nth d (k : Int)).Id)) (fun I mu k hk hp hn => ?_) (fun ha => ?_)
 ·have bad : (changeOk (nth d (k : Int)) && (decide (k = 0) || Op.bytesLess (nth d ((k : Int) - 1)).Id (nth d (k : Int)).Id)) = false → Q false := fun h => by
   rw [allN_false hk h, Bool.false_and] at hq; exact hq
  refine ⟨OM, _, F130.law _ _ rfl, ?_⟩
  cases h1 : changeOk (nth d (k : Int)) with
  | false => rw [if_pos RD]; exact bad (by rw [h1]; rfl)
  | true =>
   rw [if_neg RD]
   by_cases hk0 : k = 0
   ·rw [if_neg (by rw [decide_eq_true_eq]; omega)]
    obtain ⟨i1, i2⟩ := hn (by rw [h1, decide_eq_true hk0]; rfl)
    exact ⟨OM, i1, i2⟩
   ·rw [if_pos (by rw [decide_eq_true_eq]; omega)]
    refine ⟨OM, fun _ => by unfold I64; omega, OM, ?_⟩
    rw [← less_tri]
    cases h3 : Op.bytesLess (nth d ((k : Int) - 1)).Id (nth d (k : Int)).Id with
    | false => rw [if_pos RD]; exact bad (by rw [h3, h1, decide_eq_false hk0]; rfl)
    | true =>
     rw [if_neg RD]
     obtain ⟨i1, i2⟩ := hn (by rw [h3, h1, decide_eq_false hk0]; rfl)
     exact ⟨OM, i1, i2⟩
 ·rw [allN_true ha, Bool.true_and] at hq
  have e2 : decide ((d.length : Int) ≤ 16) = decide (d.length ≤ 16) := decide_eq_decide.2 OM
  rw [e2]; exact hq
theorem l12Dec_pos (R : Int → (Str → Prop) → Prop) (n : Int) (h0 : 0 ≤ n) (h1 : n ≤ 4611686018427387904) (Q : Str → Prop) (hq : Q (Lib.itoa n)) : F104.Er R n Q := by
 unfold F104.Er
 rw [if_neg (by rw [decide_eq_true_eq]; omega), if_neg (by rw [decide_eq_true_eq]; omega)]
 have hl := decDigits_len n.toNat 19 OM
 have hi : Lib.itoa n = Lib.decDigits n.toNat := by unfold Lib.itoa; rw [if_neg OM]
 refine ⟨fun k out => 0 ≤ k ∧ k ≤ n ∧ Lib.decDigits n.toNat = Lib.decDigits k.toNat ++ out, fun k _ => k.toNat, ⟨h0, Int.le_refl _, by simp⟩, ?_⟩
 rintro k out ⟨k0, kn, e⟩
 have hlen : (Lib.decDigits k.toNat).length + out.length ≤ 20 := by rw [e, List.length_append] at hl; exact hl
 by_cases hk : k > 9
 ·rw [if_pos (by simpa using hk)]
  have d : [(UInt8.ofNat (48 + k % 10).toNat)] = [UInt8.ofNat (48 + k.toNat % 10)] := by congr 2; omega
  have e2 : Lib.decDigits k.toNat = Lib.decDigits (k / 10).toNat ++ [UInt8.ofNat (48 + k.toNat % 10)] := by
   conv => lhs; rw [Lib.decDigits]
   rw [dif_neg OM]
   congr 2; omega
  refine ⟨⟨k0, by decide⟩, by unfold I64; omega, OM, ?_, OM, ⟨OM, OM, ?_⟩, by dsimp only; omega⟩
  ·simp only [List.length_cons, List.length_nil]; omega
  ·rw [e, e2, d, List.append_assoc]
 ·rw [if_neg (by simpa using hk)]
  have e2 : Lib.decDigits k.toNat = [UInt8.ofNat (48 + k).toNat] := by
   rw [Lib.decDigits, dif_pos OM]
   congr 2; omega
  refine ⟨by unfold I64; omega, OM, ?_, ?_⟩
  ·simp only [List.length_cons, List.length_nil]; omega
  ·rw [← e2, ← e, ← hi]; exact hq
theorem F104.law (n : Int) (h0 : -4611686018427387904 ≤ n) (h1 : n ≤ 4611686018427387904) (Q : Str → Prop) (hq : Q (Lib.itoa n)) : F104.E n Q := by
 unfold F104.E
 by_cases hn : 0 ≤ n
 ·exact l12Dec_pos _ n hn h1 Q hq
 ·unfold F104.Er
  rw [if_neg (by rw [decide_eq_true_eq]; omega), if_pos (by rw [decide_eq_true_eq]; omega)]
  have hl := itoa_len (-n) OM OM
  refine ⟨by unfold I64; omega, l12Dec_pos _ (-n) OM OM _ ⟨?_, ?_⟩⟩
  ·simp only [List.length_cons, List.length_nil]; omega
  ·have : [45] ++ Lib.itoa (-n) = Lib.itoa n := by
    unfold Lib.itoa
    rw [if_neg OM, if_pos OM]
    have : (-n).toNat = n.natAbs := by omega
    rw [this]; rfl
   rw [this]; exact hq
theorem F103.law (k : Int) (h : 0 ≤ k ∧ k < 4) (Q : Str → Prop) (hq : Q (nth shapeNamesL k)) : F103.E k Q := by
 unfold F103.E
 exact ⟨⟨h.1, by show k < 4; omega⟩, hq⟩
theorem F41.law (s : Shape) (h : shapeOk s = true) (hl : s.Pts.length ≤ 1048576) (Q : Str → Prop) (hq : Q (shT s)) : F41.E s Q := by
 obtain ⟨h1, h2, h3⟩ := shape_in h
 have h0 := names_len s.Kind
 unfold F41.E
 refine F68.law _ _ ?_
 rw [h, if_neg RD]
 refine F103.law _ OM _ (loop_text s.Pts ptT _ 44 300 (fun p hp => ptT_len (h3 p hp)) OM (fun I mu k out hk hm ho hn => ?_) hq)
 have hp := h3 _ hm
 have l1 := itoa_len (nth s.Pts (k : Int)).X OM OM
 have l2 := itoa_len (nth s.Pts (k : Int)).Y OM OM
 obtain ⟨i1, i2⟩ := hn ((((out ++ ([32] : Str)) ++ Lib.itoa (nth s.Pts (k : Int)).X) ++ ([44] : Str)) ++ Lib.itoa (nth s.Pts (k : Int)).Y) (by unfold ptT; simp only [List.append_assoc])
 refine ⟨?_, OM, _, F104.law _ OM OM _ rfl, by unfold Lim; omega, ?_, ?_, OM, _, F104.law _ OM OM _ rfl, by unfold Lim; omega, ?_, OM, i1, i2⟩
 all_goals (simp only [List.length_append, List.length_cons, List.length_nil]; omega)
theorem F51.law (f : Feat) (hb : bulk f ≤ 1048576) (Q : Str → Prop) (hq : Q (featT f)) : F51.E f Q := by
 unfold F51.E
 refine F87.law _ _ ?_
 unfold featT at hq
 by_cases h : featOk f = true
 ·rw [if_pos h] at hq
  obtain ⟨h1, h2, h3, h4, h5⟩ := feat_facts h
  have l1 := shT_len h2
  rw [h, if_neg RD]
  refine ⟨?_, _, F41.law _ h2 OM _ rfl, by unfold Lim; omega, ?_, loop_text f.Tags tagT _ 14 400 (fun t ht => ?_) ?_ (fun I mu k out hk hm ho hn => ?_) hq⟩
  ·simp only [List.length_cons, List.length_nil]; omega
  ·simp only [List.length_append, List.length_cons, List.length_nil]; omega
  ·have := h5 t ht
   unfold tagT
   simp only [List.length_append, List.length_cons, List.length_nil]; omega
  ·simp only [List.length_append, List.length_cons, List.length_nil]; omega
  ·have ht := h5 _ hm
   obtain ⟨i1, i2⟩ := hn ((((out ++ ([32] : Str)) ++ ((nth f.Tags (k : Int)).Key)) ++ ([61] : Str)) ++ ((nth f.Tags (k : Int)).Val)) (by unfold tagT; simp only [List.append_assoc])
   refine ⟨?_, OM, ?_, ?_, OM, ?_, OM, i1, i2⟩
   all_goals (simp only [List.length_append, List.length_cons, List.length_nil]; omega)
 ·rw [if_neg h] at hq
  rw [Bool.eq_false_iff.2 h, if_pos RD]; exact hq
theorem F105.law (f : Feat) (is : Bool) (hb : bulk f ≤ 1048576) (Q : Str → Prop) (hq : Q (sideT is f)) : F105.E f is Q := by
 unfold F105.E
 cases is with
 | false => rw [if_pos RD]; exact hq
 | true => rw [if_neg RD]; exact F51.law _ hb _ hq
theorem F52.law (d : List Change) (hb : bulk d ≤ 1048576) (Q : Str → Prop) (hq : Q (diffT d)) : F52.E d Q := by
 unfold F52.E
 unfold diffT at hq
 by_cases h : diffOk d = true
 ·rw [if_pos h] at hq
  obtain ⟨_, h2, h3⟩ := diff_cs h
  have hid : ∀ c ∈ d, c.Id.length ≤ 6 := fun c hc => by
   have := h3 c hc
   unfold changeOk at this
   simp only [Bool.and_eq_true] at this
   exact word_len this.1.1.1
  refine loop_text d lineT _ 812 13000 (fun c hc => lineT_len (hid c hc)) (by show 0 + d.length * 812 ≤ 13000; omega) (fun I mu k out hk hm ho hn => ?_) hq
  refine F101.law _ _ ?_
  rw [h, if_pos rfl]
  have m1 := bulk_mem hm
  have hi := hid _ hm
  have b1 : bulk (nth d (k : Int)) = bulk (nth d (k : Int)).Id + bulk (nth d (k : Int)).Had + bulk (nth d (k : Int)).Was + bulk (nth d (k : Int)).Has + bulk (nth d (k : Int)).Now := rfl
  have l1 := sideT_len (nth d (k : Int)).Had (nth d (k : Int)).Was
  have l2 := sideT_len (nth d (k : Int)).Has (nth d (k : Int)).Now
  obtain ⟨i1, i2⟩ := hn ((((((out ++ ((nth d (k : Int)).Id)) ++ ([58, 32] : Str)) ++ sideT (nth d (k : Int)).Had (nth d (k : Int)).Was) ++ ([32, 62, 32] : Str)) ++ sideT (nth d (k : Int)).Has (nth d (k : Int)).Now) ++ ([10] : Str)) (by unfold lineT; simp only [List.append_assoc])
  refine ⟨OM, ?_, ?_, OM, OM, _, F105.law _ _ OM _ rfl, by unfold Lim; omega, ?_, ?_, OM, OM, _, F105.law _ _ OM _ rfl, by unfold Lim; omega, ?_, ?_, OM, i1, i2⟩
  all_goals ((try simp only [List.length_append, List.length_cons, List.length_nil]); omega)
 ·rw [if_neg h] at hq
  have e : diffOk d = false := Bool.eq_false_iff.2 h
  refine ⟨fun out i => out = [] ∧ i = 0, fun _ _ => 0, ⟨rfl, rfl⟩, ?_⟩
  rintro _ _ ⟨rfl, rfl⟩
  by_cases h0 : (0 : Int) < (d.length : Int)
  ·rw [if_pos (by simpa using h0)]
   refine F101.law _ _ ?_
   rw [e, if_neg RD]; exact hq
  ·rw [if_neg (by simpa using h0)]; exact hq
theorem F141.law (s : List Feat) (id : Str) (Q : Feat → Bool → Prop) (hb : bulk s ≤ 1048576) (hq : Q (sideOf s id).1 (sideOf s id).2) : F141.E s id Q := by
 unfold F141.E
 have hl := bulk_len s
 refine F107.law _ _ _ OM ?_
 have h1 := findN_le s.length fun j => (nth s (j : Int)).Id == id
 unfold sideOf at hq
 by_cases h : findN s.length (fun j => (nth s (j : Int)).Id == id) < 0
 ·rw [if_pos h] at hq; rw [if_pos (by simpa using h)]; exact hq
 ·rw [if_neg h] at hq; rw [if_neg (by simpa using h)]
  exact ⟨OM, F40.law _ _ (by have := bulk_mem (nth_memi s OM h1.2); omega) hq⟩
def idsAll (maps : List (List Feat)) : List Str := (maps.map ids).flatten
theorem idsAll_snoc (m : List (List Feat)) (s : List Feat) : idsAll (m ++ [s]) = idsAll m ++ ids s := by unfold idsAll; simp
theorem idsAll_take (m : List (List Feat)) (k : Nat) : (idsAll (m.take k)).length ≤ (idsAll m).length := by
 have h : idsAll m = idsAll (m.take k) ++ idsAll (m.drop k) := by
  unfold idsAll; rw [← List.flatten_append, ← List.map_append, List.take_append_drop]
 rw [h, List.length_append]; omega
theorem F131.law (maps : List (List Feat)) (Q : List Str → Prop) (h1 : maps.length ≤ 1048576) (h2 : (idsAll maps).length ≤ 268435456) (h3 : ∀ s ∈ maps, s.length ≤ 1048576) (hq : Q (uniq (idsAll maps))) : F131.E maps Q := by
 unfold F131.E
 refine ⟨fun xs i => ∃ u : Nat, i = u ∧ u ≤ maps.length ∧ xs = idsAll (maps.take u), fun _ i => (maps.length - i).toNat, ⟨0, rfl, Nat.zero_le _, rfl⟩, ?_⟩
 rintro _ _ ⟨u, rfl, hu, rfl⟩
 by_cases h : u < maps.length
 ·rw [if_pos (by simpa using h)]
  have hs := h3 _ (nth_mem maps h)
  have ht := idsAll_take maps (u + 1)
  rw [take_nth maps h, idsAll_snoc, List.length_append] at ht
  have hil : (ids (nth maps (u : Int))).length = (nth maps (u : Int)).length := by unfold ids; simp
  refine ⟨OM, fun xs j => ∃ v : Nat, j = v ∧ v ≤ (nth maps (u : Int)).length ∧ xs = idsAll (maps.take u) ++ ids ((nth maps (u : Int)).take v), fun _ j => ((nth maps (u : Int)).length - j).toNat, ⟨0, rfl, Nat.zero_le _, by simp [ids]⟩, ?_⟩
  rintro _ _ ⟨v, rfl, hv, rfl⟩
  by_cases g : v < (nth maps (u : Int)).length
  ·rw [if_pos (by simpa using g)]
   have hiv : (ids ((nth maps (u : Int)).take v)).length ≤ v := by unfold ids; simp; omega
   refine ⟨OM, by simp only [List.length_append, List.length_cons, List.length_nil]; omega, by unfold I64; omega, ⟨v + 1, OM, OM, ?_⟩, by dsimp only; omega⟩
   rw [take_nth _ g, ids_app, List.append_assoc]; rfl
  ·rw [if_neg (by simpa using g)]
   have : v = (nth maps (u : Int)).length := by omega
   subst this
   refine ⟨by unfold I64; omega, ⟨u + 1, OM, OM, ?_⟩, by dsimp only; omega⟩
   rw [List.take_length, take_nth maps h, idsAll_snoc]
 ·rw [if_neg (by simpa using h)]
  have : u = maps.length := by omega
  subst this
  rw [List.take_length]
  unfold F8.E F1.E
  exact ⟨h2, by unfold sortS; rw [List.length_mergeSort]; exact h2, hq⟩
theorem F108.law (a b : List Feat) (Q : List Change → Prop) (ha : bulk a ≤ 1048576) (hb : bulk b ≤ 1048576) (hq : Q (diffOf a b)) : F108.E a b Q := by
 unfold F108.E
 unfold diffOf at hq
 refine F74.law _ _ ha ?_
 cases ka : sheetOk a with
 | false => rw [if_pos RD]; rw [ka, Bool.false_and, if_neg RD] at hq; exact hq
 | true =>
  rw [if_neg RD]
  refine F74.law _ _ hb ?_
  cases kb : sheetOk b with
  | false => rw [if_pos RD]; rw [ka, kb, if_neg RD] at hq; exact hq
  | true =>
   rw [if_neg RD]
   rw [ka, kb, if_pos RD] at hq
   have la := (sheet_ss ka).2.1
   have lb := (sheet_ss kb).2.1
   have e : idsAll [a, b] = ids a ++ ids b := by unfold idsAll; simp
   have l3 : (ids a ++ ids b).length = a.length + b.length := by unfold ids; simp
   refine F131.law _ _ (by simp) (by rw [e]; omega) (fun s hs => by
    simp only [List.mem_cons, List.not_mem_nil, or_false] at hs
    rcases hs with rfl | rfl <;> omega) ?_
   rw [e]
   have l2 := uniq_len (ids a ++ ids b)
   refine ⟨fun xs i => ∃ u : Nat, i = u ∧ u ≤ (uniq (ids a ++ ids b)).length ∧ xs = diffL a b ((uniq (ids a ++ ids b)).take u), fun _ i => ((uniq (ids a ++ ids b)).length - i).toNat, ⟨0, rfl, Nat.zero_le _, rfl⟩, ?_⟩
   rintro _ _ ⟨u, rfl, hu, rfl⟩
   by_cases h : u < (uniq (ids a ++ ids b)).length
   ·rw [if_pos (by simpa using h)]
    have hm := List.mem_append.1 (uniq_mem.1 (nth_mem _ h))
    have hs := diffC_small ka kb hm
    have hd := diffL_len a b ((uniq (ids a ++ ids b)).take u)
    rw [List.length_take] at hd
    have en := diffL_snoc a b ((uniq (ids a ++ ids b)).take u) (nth (uniq (ids a ++ ids b)) (u : Int))
    rw [← take_nth _ h] at en
    refine ⟨OM, F141.law _ _ _ ha (F141.law _ _ _ hb (F19.law _ _ (by exact Nat.le_trans hs RD) ?_))⟩
    show (if (!(sameC (diffC a b (nth (uniq (ids a ++ ids b)) (u : Int))))) = true then _ else _)
    cases k : sameC (diffC a b (nth (uniq (ids a ++ ids b)) (u : Int))) with
    | false =>
     rw [k] at en
     rw [if_pos RD]
     exact ⟨by simp only [List.length_cons, List.length_nil]; omega, by unfold I64; omega, ⟨u + 1, OM, OM, en.symm⟩, by dsimp only; omega⟩
    | true =>
     rw [k] at en
     rw [if_neg RD]
     exact ⟨by unfold I64; omega, ⟨u + 1, OM, OM, by rw [en]; simp⟩, by dsimp only; omega⟩
   ·rw [if_neg (by simpa using h)]
    have : u = (uniq (ids a ++ ids b)).length := by omega
    subst this
    rw [List.take_length]; exact hq
theorem F129.law (a b : List Feat) (Q : List Str → Prop) (ha : a.length ≤ 1000) (hb : b.length ≤ 1000) (hs : SS (ids a)) (hq : Q (uniq (ids a ++ ids b))) : F129.E a b Q := by
 unfold F129.E
 refine ⟨fun s i => ∃ u : Nat, i = u ∧ u ≤ b.length ∧ SS (ids s) ∧ (∀ x, x ∈ ids s ↔ x ∈ ids a ∨ x ∈ ids (b.take u)) ∧ s.length ≤ a.length + u, fun _ i => (b.length - i).toNat, ⟨0, rfl, Nat.zero_le _, hs, by simp [ids], OM⟩, ?_⟩
 rintro s _ ⟨u, rfl, hu, h1, h2, h3⟩
 by_cases h : u < b.length
 ·rw [if_pos (by simpa using h)]
  refine ⟨OM, F127.law _ _ _ OM h1 fun r r1 r2 r3 _ => ⟨OM, ⟨u + 1, OM, OM, r1, fun x => ?_, OM⟩, by dsimp only; omega⟩⟩
  rw [r2, h2, ids_take h, List.mem_append, List.mem_singleton]
  constructor
  ·rintro ((hx | hx) | hx)
   ·exact .inl hx
   ·exact .inr (.inl hx)
   ·exact .inr (.inr hx)
  ·rintro (hx | hx | hx)
   ·exact .inl (.inl hx)
   ·exact .inl (.inr hx)
   ·exact .inr hx
 ·rw [if_neg (by simpa using h)]
  have : u = b.length := by omega
  subst this
  rw [List.take_length] at h2
  have e : ids s = uniq (ids a ++ ids b) := SS.ext h1 (uniq_ss _) fun x => by rw [h2, uniq_mem, List.mem_append]
  rw [← e] at hq
  refine ⟨fun xs i => ∃ v : Nat, i = v ∧ v ≤ s.length ∧ xs = ids (s.take v), fun _ i => (s.length - i).toNat, ⟨0, rfl, Nat.zero_le _, rfl⟩, ?_⟩
  rintro _ _ ⟨v, rfl, hv, rfl⟩
  have hil : (ids (s.take v)).length ≤ v := by unfold ids; simp; omega
  by_cases g : v < s.length
  ·rw [if_pos (by simpa using g)]
   refine ⟨OM, by simp only [List.length_cons, List.length_nil]; omega, OM, ⟨v + 1, OM, OM, ?_⟩, by dsimp only; omega⟩
   rw [ids_take g]
  ·rw [if_neg (by simpa using g)]
   have : v = s.length := by omega
   subst this
   rw [List.take_length]; exact hq
theorem F81.law (s : List Feat) (id : Str) (Q : Int → Prop) (hq : Q (findN s.length fun j => (nth s (j : Int)).Id == id)) : F81.E s id Q := by
 unfold F81.E
 refine loop_find s.length (fun j => (nth s (j : Int)).Id == id) hq (fun I mu k hk h1 h2 => ⟨OM, ?_⟩)
 cases h : (nth s (k : Int)).Id == id with
 | true => rw [if_pos rfl]; exact h1 h
 | false => rw [if_neg RD]; obtain ⟨i1, i2⟩ := h2 h; exact ⟨OM, i1, i2⟩
theorem F83.law (f : Feat) (Q : Feat → Prop) (hb : bulk f ≤ 1048576) (hq : Q f) : F83.E f Q := by
 unfold F83.E F82.E
 have h := bulk_feat f
 have h1 := bulk_len f.Tags
 have h2 := bulk_len f.Shape.Pts
 exact ⟨by simp only [List.length_nil]; omega, by simp only [List.length_nil]; omega, hq⟩
theorem F89.law (s : List Feat) (id : Str) (Q : Feat → Bool → Prop) (hb : bulk s ≤ 1048576) (hq : Q (sideOf s id).1 (sideOf s id).2) : F89.E s id Q := by
 unfold F89.E
 have hl := bulk_len s
 refine F81.law _ _ _ ?_
 have h1 := findN_le s.length fun j => (nth s (j : Int)).Id == id
 unfold sideOf at hq
 by_cases h : findN s.length (fun j => (nth s (j : Int)).Id == id) < 0
 ·rw [if_pos h] at hq; rw [if_pos (by simpa using h)]; exact hq
 ·rw [if_neg h] at hq; rw [if_neg (by simpa using h)]
  exact ⟨OM, F83.law _ _ (by have := bulk_mem (nth_memi s OM h1.2); omega) hq⟩
theorem sameC_t {c : Change} (h1 : c.Had = c.Has) (h2 : c.Was = c.Now) : sameC c = true := by unfold sameC; rw [decide_eq_true h1, decide_eq_true h2]; rfl
theorem sameC_f1 {c : Change} (h : ¬ c.Was = c.Now) : sameC c = false := by unfold sameC; rw [decide_eq_false h, Bool.and_false]
theorem sameC_f2 {c : Change} (h : ¬ c.Had = c.Has) : sameC c = false := by unfold sameC; rw [decide_eq_false h, Bool.false_and]
theorem F139.law (a b : List Feat) (Q : List Change → Prop) (ba : bulk a ≤ 1048576) (bb : bulk b ≤ 1048576) (ha : a.length ≤ 1000) (hb : b.length ≤ 1000) (hs : SS (ids a)) (hq : Q (diffL a b (uniq (ids a ++ ids b)))) : F139.E a b Q := by
 unfold F139.E
 refine F129.law _ _ _ ha hb hs ?_
 have l2 := uniq_len (ids a ++ ids b)
 have l3 : (ids a ++ ids b).length = a.length + b.length := by unfold ids; simp
 refine ⟨fun xs i => ∃ u : Nat, i = u ∧ u ≤ (uniq (ids a ++ ids b)).length ∧ xs = diffL a b ((uniq (ids a ++ ids b)).take u), fun _ i => ((uniq (ids a ++ ids b)).length - i).toNat, ⟨0, rfl, Nat.zero_le _, rfl⟩, ?_⟩
 rintro _ _ ⟨u, rfl, hu, rfl⟩
 by_cases h : u < (uniq (ids a ++ ids b)).length
 ·rw [if_pos (by simpa using h)]
  have hd := diffL_len a b ((uniq (ids a ++ ids b)).take u)
  rw [List.length_take] at hd
  have en := diffL_snoc a b ((uniq (ids a ++ ids b)).take u) (nth (uniq (ids a ++ ids b)) (u : Int))
  rw [← take_nth _ h] at en
  have add : sameC (diffC a b (nth (uniq (ids a ++ ids b)) (u : Int))) = false → diffL a b ((uniq (ids a ++ ids b)).take u) ++ [diffC a b (nth (uniq (ids a ++ ids b)) (u : Int))] = diffL a b ((uniq (ids a ++ ids b)).take (u + 1)) := fun k => by rw [k] at en; exact en.symm
  have old : sameC (diffC a b (nth (uniq (ids a ++ ids b)) (u : Int))) = true → diffL a b ((uniq (ids a ++ ids b)).take u) = diffL a b ((uniq (ids a ++ ids b)).take (u + 1)) := fun k => by rw [k] at en; rw [en]; simp
  refine ⟨OM, F89.law _ _ _ ba ⟨OM, F89.law _ _ _ bb ?_⟩⟩
  by_cases k1 : (sideOf a (nth (uniq (ids a ++ ids b)) (u : Int))).2 = (sideOf b (nth (uniq (ids a ++ ids b)) (u : Int))).2
  ·rw [if_neg (by rw [k1]; simp)]
   refine F45.law _ _ _ ?_
   by_cases k2 : (sideOf a (nth (uniq (ids a ++ ids b)) (u : Int))).1 = (sideOf b (nth (uniq (ids a ++ ids b)) (u : Int))).1
   ·rw [decide_eq_true k2, if_neg RD]
    exact ⟨OM, ⟨u + 1, OM, OM, old (sameC_t k1 k2)⟩, by dsimp only; omega⟩
   ·rw [decide_eq_false k2, if_pos RD]
    exact ⟨OM, by simp only [List.length_cons, List.length_nil]; omega, OM, ⟨u + 1, OM, OM, add (sameC_f1 k2)⟩, by dsimp only; omega⟩
  ·rw [if_pos (by rw [bne_iff_ne]; exact k1)]
   exact ⟨OM, by simp only [List.length_cons, List.length_nil]; omega, OM, ⟨u + 1, OM, OM, add (sameC_f2 k1)⟩, by dsimp only; omega⟩
 ·rw [if_neg (by simpa using h)]
  have : u = (uniq (ids a ++ ids b)).length := by omega
  subst this
  rw [List.take_length]; exact hq
theorem F71.law (d : List Feat) (Q : Bool → Prop) (hq : Q (sheetOk d)) : F71.E d Q := by
 unfold F71.E
 unfold sheetOk at hq
 refine loop_all d.length (fun k => featOk (nth d (k : Int)) && (decide (k = 0) || Op.bytesLess (nth d ((k : Int) - 1)).Id (nth d (k : Int)).Id)) (fun I mu k hk hp hn => ?_) (fun ha => ?_)
 ·have bad : (featOk (nth d (k : Int)) && (decide (k = 0) || Op.bytesLess (nth d ((k : Int) - 1)).Id (nth d (k : Int)).Id)) = false → Q false := fun h => by
   rw [allN_false hk h, Bool.false_and] at hq; exact hq
  refine ⟨OM, _, F87.law _ _ rfl, ?_⟩
  cases h1 : featOk (nth d (k : Int)) with
  | false => rw [if_pos RD]; exact bad (by rw [h1]; rfl)
  | true =>
   rw [if_neg RD]
   by_cases hk0 : k = 0
   ·rw [if_neg (by rw [decide_eq_true_eq]; omega)]
    obtain ⟨i1, i2⟩ := hn (by rw [h1, decide_eq_true hk0]; rfl)
    exact ⟨OM, i1, i2⟩
   ·rw [if_pos (by rw [decide_eq_true_eq]; omega)]
    refine ⟨OM, fun _ => by unfold I64; omega, OM, ?_⟩
    rw [← less_tri]
    cases h3 : Op.bytesLess (nth d ((k : Int) - 1)).Id (nth d (k : Int)).Id with
    | false => rw [if_pos RD]; exact bad (by rw [h3, h1, decide_eq_false hk0]; rfl)
    | true =>
     rw [if_neg RD]
     obtain ⟨i1, i2⟩ := hn (by rw [h3, h1, decide_eq_false hk0]; rfl)
     exact ⟨OM, i1, i2⟩
 ·rw [allN_true ha, Bool.true_and] at hq
  have e2 : decide ((d.length : Int) ≤ 8) = decide (d.length ≤ 8) := decide_eq_decide.2 OM
  rw [e2]; exact hq
theorem F109.law (a b : List Feat) (Q : List Change → Prop) (ba : bulk a ≤ 1048576) (bb : bulk b ≤ 1048576) (hq : Q (diffOf a b)) : F109.E a b Q := by
 unfold F109.E
 unfold diffOf at hq
 refine F71.law _ _ ?_
 cases ka : sheetOk a with
 | false => rw [if_pos RD]; rw [ka, Bool.false_and, if_neg RD] at hq; exact hq
 | true =>
  rw [if_neg RD]
  refine F71.law _ _ ?_
  cases kb : sheetOk b with
  | false => rw [if_pos RD]; rw [ka, kb, if_neg RD] at hq; exact hq
  | true =>
   rw [if_neg RD]
   rw [ka, kb, if_pos RD] at hq
   have la := sheet_ss ka
   have lb := sheet_ss kb
   exact F139.law _ _ _ ba bb OM OM la.1 hq
theorem F63.law (s : List Feat) (id : Str) (Q : Feat → Bool → Prop) (hb : bulk s ≤ 1048576) (hq : Q (getOf s id).1 (getOf s id).2) : F63.E s id Q := by
 unfold F63.E
 have hl := bulk_len s
 refine F107.law _ _ _ OM (F74.law _ _ hb ?_)
 unfold getOf at hq
 cases h : sheetOk s with
 | false => rw [if_pos RD]; rw [h, if_neg RD] at hq; exact hq
 | true =>
  rw [if_neg RD]; rw [h, if_pos rfl] at hq
  unfold sideOf at hq
  have hle := findN_le s.length fun j => (nth s (j : Int)).Id == id
  split
  ·rename_i g; rw [if_pos (by simpa using g)] at hq; exact hq
  ·rename_i g
   have g : ¬ findN s.length (fun j => (nth s (j : Int)).Id == id) < 0 := by simpa using g
   rw [if_neg g] at hq
   have hm := nth_memi s (by omega : 0 ≤ findN s.length fun j => (nth s (j : Int)).Id == id) hle.2
   exact ⟨OM, F40.law _ _ (Nat.le_trans (feat_small ((sheet_ss h).2.2 _ hm)).1 RD) hq⟩
theorem put_diff {s : List Feat} {f : Feat} (hs : sheetOk s = true) (hp : sheetOk (putL s f) = true) (h : ¬ sideOf s f.Id = (f, true)) : diffOf s (putL s f) = [⟨f.Id, (sideOf s f.Id).2, (sideOf s f.Id).1, true, f⟩] := by
 have pf := sideOf_put (sheet_fs hs) f
 have e0 : diffC s (putL s f) f.Id = ⟨f.Id, (sideOf s f.Id).2, (sideOf s f.Id).1, true, f⟩ := by unfold diffC; rw [pf, if_pos rfl]
 refine CS.ext (diff_cs (diffOf_ok hs hp)).1 (List.pairwise_singleton _ _) fun x => ?_
 rw [List.mem_singleton, ← e0]
 constructor
 ·intro hx
  rw [diffOf_is hs hp] at hx
  obtain ⟨e, _, h3⟩ := diffL_in hx
  by_cases hi : x.Id = f.Id
  ·rw [e, hi]
  ·rw [e] at h3
   unfold sameC diffC at h3
   dsimp only at h3
   rw [pf, if_neg hi] at h3; simp at h3
 ·rintro rfl
  by_cases hi : f.Id ∈ idsC (diffOf s (putL s f))
  ·exact (diffOf_mem hs hp _).1 hi
  ·have := (diffOf_mem hs hp _).2 hi
   rw [pf, if_pos rfl] at this; exact absurd this h
theorem laws_FnDiffOne.gen (code : List UInt8) (Q : Bool → Prop) (hq : Q true) : laws_FnDiffOne.E code Q := by
 unfold laws_FnDiffOne.E
 by_cases c1 : (code.length : Int) > 1048576
 ·rw [if_pos (by simpa using c1)]; exact hq
 rw [if_neg (by simpa using c1)]
 refine F17.law _ _ fun s f ms fb _ => ?_
 have bs := ms.small
 have bf : bulk f ≤ 1048576 := Nat.le_trans fb.small RD
 have bx := putOf_small s f
 have bd : ∀ t : List Feat, bulk (diffOf s t) ≤ 1048576 := fun t => Nat.le_trans (diffOf_small s t) RD
 refine F62.law _ _ _ bs bf (F108.law _ _ _ bs OM (F49.law _ (bd _) _ (F109.law _ _ _ bs OM (F52.law _ (bd _) _ ?_))))
 rw [if_neg (by simp)]
 cases k0 : (putOf s f).2 with
 | false =>
  rw [if_pos RD]
  exact F49.law _ (bd _) _ (F109.law _ _ _ bs OM (F52.law _ (bd _) _ (by rw [show (diffT (diffOf s (putOf s f).1) == diffT (diffOf s (putOf s f).1)) = true from by simp]; exact hq)))
 | true =>
 rw [if_neg RD]
 obtain ⟨ks, kf, kl, e0⟩ := putOf_of k0
 have kp := putL_ok ks kf kl
 refine F63.law _ _ _ bs ?_
 rw [getOf_ok ks, e0]
 dsimp only
 have same : sideOf s f.Id = (f, true) → diffOf s (putL s f) = [] := fun h => (diffOf_self ks kp).2 (side_ext (sheet_fs ks) (sheet_fs kp) fun i => by
  rw [sideOf_put (sheet_fs ks)]
  by_cases hi : i = f.Id
  ·rw [if_pos hi, hi, h]
  ·rw [if_neg hi])
 have one := put_diff ks kp
 have fo : FB 4 (sideOf s f.Id).1 := sideOf_fb ks _
 have tail : ∀ h2 : Bool, (sideOf s f.Id).2 = h2 → ¬ sideOf s f.Id = (f, true) → (if ((diffOf s (putL s f)).length : Int) == 1 then ((0 : Int) ≤ 0 ∧ 0 < ((diffOf s (putL s f)).length : Int)) ∧ (if ((nth (diffOf s (putL s f)) 0).Id) == f.Id then ((0 : Int) ≤ 0 ∧ 0 < ((diffOf s (putL s f)).length : Int)) ∧ (if ((nth (diffOf s (putL s f)) 0).Had) == h2 then ((0 : Int) ≤ 0 ∧ 0 < ((diffOf s (putL s f)).length : Int)) ∧ (∃ q : Bool, F46.E ((nth (diffOf s (putL s f)) 0).Was) (sideOf s f.Id).1 (fun x => x = q) ∧ (if q then ((0 : Int) ≤ 0 ∧ 0 < ((diffOf s (putL s f)).length : Int)) ∧ (if (nth (diffOf s (putL s f)) 0).Has then ((0 : Int) ≤ 0 ∧ 0 < ((diffOf s (putL s f)).length : Int)) ∧ (∃ q2 : Bool, F46.E ((nth (diffOf s (putL s f)) 0).Now) f (fun x => x = q2) ∧ Q q2) else Q false) else Q false)) else Q false) else Q false) else Q false) := fun h2 hh hn => by
  rw [one hn]
  have z : ∀ c : Change, nth [c] 0 = c := fun _ => rfl
  rw [z]
  have r : (0 : Int) ≤ 0 ∧ 0 < (([⟨f.Id, (sideOf s f.Id).2, (sideOf s f.Id).1, true, f⟩] : List Change).length : Int) := ⟨by decide, by show (0 : Int) < 1; decide⟩
  rw [if_pos (by rfl)]
  refine ⟨r, ?_⟩
  rw [if_pos (by simp)]
  refine ⟨r, ?_⟩
  rw [if_pos (by simp [hh])]
  refine ⟨r, _, F46.law _ _ _ (fo.lens RD) rfl, ?_⟩
  rw [decide_eq_true rfl, if_pos rfl]
  refine ⟨r, ?_⟩
  rw [if_pos rfl]
  exact ⟨r, _, F46.law _ _ _ (fb.lens RD) rfl, by rw [decide_eq_true rfl]; exact hq⟩
 cases kh : (sideOf s f.Id).2 with
 | false =>
  rw [if_neg RD]
  exact tail false kh fun h => by rw [h] at kh; cases kh
 | true =>
  rw [if_pos rfl]
  refine F46.law _ _ _ (fo.lens RD) ?_
  by_cases he : (sideOf s f.Id).1 = f
  ·rw [decide_eq_true he, if_pos rfl, same (Prod.ext he kh)]; exact hq
  ·rw [decide_eq_false he, if_neg RD]
   exact tail true kh fun h => he (by rw [h])
theorem laws_FnDiffOne.law (code : List UInt8) (_ : ∀ x ∈ code, True) : laws_FnDiffOne.E code (fun r => r = true) := laws_FnDiffOne.gen code _ rfl
theorem laidVars_at {P : Program} {w : World} : ∀ {l : List (String × DataW Unit)} {ps : List MemPlace} {i : Nat} {n : String} {d : DataW Unit}, DataW.LaidVars P w l ps → l[i]? = some (n, d) →
  ∃ g t cs fuel p, P.globalNamed n = some g ∧ (P.globals[g]?).map (·.type) = some t ∧ w.var? P n = some cs ∧ DataW.trod (fun _ => ()) P w 0 (fun _ => true) false fuel t cs.toList = some (d, p) ∧ ∀ x ∈ MemPlace.row ⟨g, 0, none⟩ cs.size, x ∈ ps
 | [], _, _, _, _, _, h => by simp at h
 | (n', d') :: r, _, 0, n, d, ⟨g, t, cs, fuel, p, q, h1, h2, h3, h4, h5, e⟩, h => by
  simp only [List.getElem?_cons_zero, Option.some.injEq, Prod.mk.injEq] at h
  obtain ⟨rfl, rfl⟩ := h
  exact ⟨g, t, cs, fuel, p, h1, h2, h3, h4, fun x hx => by rw [e]; simp [hx]⟩
 | _ :: r, _, i + 1, n, d, ⟨g, t, cs, fuel, p, q, h1, h2, h3, h4, h5, e⟩, h => by
  obtain ⟨g', t', cs', f', p', a1, a2, a3, a4, a5⟩ := laidVars_at h5 (by simpa using h)
  exact ⟨g', t', cs', f', p', a1, a2, a3, a4, fun x hx => by rw [e]; simp [a5 x hx]⟩
theorem laid_box {P : Program} {w : World} {l : List (String × DataW Unit)} {i : Nat} {n : String} {d : DataW Unit} {g : Nat} {t : TypeId} (hL : laidMet P l w) (hi : l[i]? = some (n, d)) (hg : P.globalNamed n = some g) (ht : (P.globals[g]?).map (·.type) = some t) :
  ∃ cs fuel p, w.var? P n = some cs ∧ DataW.trod (fun _ => ()) P w 0 (fun _ => true) false fuel t cs.toList = some (d, p) ∧ (0 < cs.size → Bx w g cs.toList) := by
 obtain ⟨ps, h1, _, h3⟩ := hL
 obtain ⟨g', t', cs, fuel, p, a1, a2, a3, a4, a5⟩ := laidVars_at h1 hi
 obtain rfl := Option.some.inj (hg.symm.trans a1)
 obtain rfl := Option.some.inj (ht.symm.trans a2)
 refine ⟨cs, fuel, p, a3, a4, fun h0 => ?_⟩
 obtain ⟨⟨c, t', hh⟩, _⟩ := h3 g 0 (a5 _ (by unfold MemPlace.row; exact List.mem_map.2 ⟨0, List.mem_range.2 h0, rfl⟩))
 unfold World.var? at a3
 rw [hg] at a3
 simp only [Option.bind_some, hh, Option.some.injEq] at a3
 subst a3
 exact ⟨t', by rw [hh]⟩
theorem arr_vs {w : World} {S : Sp} : ∀ {ls : List Str}, (∀ x ∈ ls, Lim x) → Arr Kd.str w S ls (ls.map vs)
 | [], _ => rfl
 | x :: l, h => ⟨[vs x], l.map vs, rfl, ⟨rfl, h x (List.mem_cons_self ..)⟩, arr_vs fun y hy => h y (List.mem_cons_of_mem _ hy)⟩
theorem laid_strs {P : Program} {H : Type} {enc : TypeId × Value → H} {w : World} {t e : TypeId} {held : Bool} (ht : P.underlying t = some (.slice e)) (he : P.underlying e = some .string) (hce : P.cellsOf e = 1) {fuel : Nat} {cs : List Value} {ls : List Str} {p : List MemPlace} (hlim : ∀ x ∈ ls, Lim x)
  (h : DataW.trod enc P w 0 (fun _ => true) held fuel t cs = some (.slice (ls.map fun s => .lit (.string s)) [], p)) : ∃ A : Option Addr, cs = [.slice A ls.length ls.length] ∧ Sl Kd.str w (Fr []) (.slice A ls.length ls.length) ls := by
 rcases DataW.trod_slice ht h with ⟨_, e0⟩ | ⟨a, len, cap, elems, rest, n, _, rfl, hx, _, hl, hm, hlen, hel, hsp, _⟩
 ·simp only [Prod.mk.injEq, reduceCtorEq, false_and] at e0
 ·simp only [Prod.mk.injEq, DataW.slice.injEq] at hx
  obtain ⟨⟨hx1, hx2⟩, _⟩ := hx
  obtain ⟨hr, _⟩ := hsp rfl
  have hr0 : rest = [] := by
   cases rest with
   | nil => rfl
   | cons r rs => simp at hx2
  have hl2 : len = ls.length := by
   have := congrArg List.length hx1
   simp only [List.length_map] at this
   omega
  have hcl : cap = ls.length := by rw [hr0] at hr; simp at hr; omega
  subst hcl; subst hl2
  refine ⟨some a, rfl, some a, ls.length, ls.map vs, rfl, ⟨Nat.le_refl _, hm⟩, arr_vs hlim, fun j u hj => ⟨a, rfl, by simp [Fr], ?_⟩⟩
  have hjl : j < ls.length := by
   rcases Nat.lt_or_ge j ls.length with hq | hq
   ·exact hq
   ·rw [List.getElem?_eq_none (by simpa using hq)] at hj; cases hj
  have he' := hel j hjl
  rw [List.getElem?_eq_getElem OM, Option.bind_eq_some_iff] at he'
  obtain ⟨ci, hci, hti⟩ := he'
  obtain ⟨_, hcl, hcc⟩ := World.cells?_some hci
  obtain ⟨s, hs1, hs2, _⟩ := DataW.trod_string he hti
  have e1 : (ls.map fun s => (DataW.lit (.string s) : DataW H))[j]? = (elems.map (·.1))[j]? := by rw [hx1]
  rw [List.getElem?_map, List.getElem?_map, List.getElem?_eq_getElem hjl, List.getElem?_eq_getElem OM, hs2] at e1
  simp only [Option.map_some, Option.some.injEq, DataW.lit.injEq, Lit.string.injEq] at e1
  rw [List.getElem?_map, List.getElem?_eq_getElem hjl] at hj
  simp only [Option.map_some, Option.some.injEq] at hj
  have h0 := hcc 0 (by rw [hce]; omega)
  rw [hs1, add_add, hce, Nat.mul_one, Nat.add_zero] at h0
  rw [h0, ← hj, e1]
  simp [vs]
theorem glob_laid {W : World} {l : List (String × DataW Unit)} {i j : Nat} (hL : laidMet Tryz.prog l W)
  (hi : l[i]? = some ("loop.example/townland/impl.shapeNames", .slice (shapeNamesL.map fun s => .lit (.string s)) [])) (hj : l[j]? = some ("internal/strconv.uint64pow10", Lib.tabData .u64 Lib.pow10Tab)) : Glob W [] := by
 obtain ⟨cs, fuel, p, _, b1, c1⟩ := laid_box hL hi (g := 0) (t := 50) RK RK
 obtain ⟨A, e, hs⟩ := laid_strs Tryz.underlying50 Tryz.underlying9 RK RD b1
 obtain ⟨cs2, fuel2, p2, _, b2, c2⟩ := laid_box hL hj (g := 1) (t := 202) RK RK
 have e2 := Lib.cells_of_tab Tryz.underlying202 Tryz.underlying165 RK RK b2
 refine ⟨⟨A, ⟨?_, by simp⟩, hs⟩, ⟨?_, by simp⟩⟩
 ·have := c1 (by rw [← Array.length_toList, e]; exact Nat.one_pos)
  rw [e] at this; exact this
 ·have := c2 (by rw [← Array.length_toList, e2, List.length_map, Lib.pow10Tab_length]; decide)
  rw [e2] at this; exact this
end Go.Proofs.YtlaaehjcooonfaaGreatDoor
namespace Go.Proofs.YtlaaehjcooonfaaGreatDoor.rFnDiffOne
open Go.ChangeShapes Go.WideShapes Go.ChangeAt Go.RowKit
open Go.ChangeMaps (open_string shut_string)
set_option linter.unusedVariables false
theorem own : ownKnob Tryz.prog.godebug = none := by kernel_rfl
theorem laidOut : laidOutB Tryz.prog = true := by kernel_rfl
theorem door_met (os : Os) (args : Array Value) : laidMetH Tryz.prog Rows.fnDiffOneRow.laid ((World.doorLaid Tryz.prog 29 os).forCall (fun _ _ => 0) ⟨#[], args, []⟩).memory :=
  laidMetH_of_parts3 (fuel := 8) (laidMet_of_run' 8 (by kernel_rfl) (by kernel_rfl)) (by kernel_rfl) (by kernel_rfl)
set_option maxHeartbeats 4000000 in
set_option maxRecDepth 100000 in
theorem lifted (os : Os) (started : os.Started) (H : Type) (enc : TypeId × Value → H) :
    ReturnsInHanded {} Tryz.checked os 6 .any (fun w args => (Rows.fnDiffOneSpec.pre enc Tryz.prog Tryz.f6 [] false w args ∧ laidMetH Tryz.prog Rows.fnDiffOneRow.laid w) ∧ sizedMet enc Tryz.prog Tryz.f6 (OpenSpec.ofChange Rows.fnDiffOneSpec) false w args) (Rows.fnDiffOneSpec.post enc Tryz.prog Tryz.f6 false true false false) := by
  refine returnsInHanded_of_change_and (C := Tryz.checked) (X := fun w _ => laidMetH Tryz.prog Rows.fnDiffOneRow.laid w) (fun _ _ _ hh h => h.of_heap hh) own started (by kernel_rfl) Tryz.func6
    (ChangeSpec.witness_shaped (enc := enc) (C := Tryz.checked) (os := os) (X := fun w _ => laidMetH Tryz.prog Rows.fnDiffOneRow.laid w) false (World.doorLaid Tryz.prog 29 os) #[.slice none 0 0] 8 rfl (World.shaped_of_RefB (by kernel_rfl) (by kernel_rfl)) (by kernel_rfl) (by kernel_rfl) (by kernel_rfl) (door_met os _)) ?_
  intro W base args ds gs before hval0 hW _ hsz0 hL _
  have hG : Glob W [] := glob_laid (i := 3) (j := 2) (by rw [← MakeChecks.laidMetH_plain _ _ _ (by kernel_rfl)]; exact hL) (by kernel_rfl) (by kernel_rfl)
  have hval : ∀ (j : Nat) t v, Tryz.f6.params[j]? = some t → args[j]? = some v → Value.okWide Tryz.prog W .any base t v := hval0
  have hW' := hW
  obtain ⟨p, q, hA0, hV, rfl, hfz, hnd⟩ := hW
  have hA : DataW.TrodAll enc Tryz.prog W 0 (fun _ => true) true Tryz.f6.params.toList args.toList ds p := hA0
  rw [Tryz.params6] at hA hval
  obtain ⟨v0, vs0, d0, ds0, p0, q0, hargs, rfl, rfl, h0, r0⟩ := trodAll_cons hA
  obtain ⟨rfl, rfl, rfl⟩ := trodAll_nil r0
  obtain rfl : args = #[v0] := by cases args; simp_all
  have hV0 : DataW.TrodVars enc Tryz.prog W (fun _ => true) ["loop.example/townland/impl.shapeNames"] gs q := hV
  obtain ⟨_, _, _, _, g1, _, hgs, _⟩ := trodVars_one hV0
  subst hgs
  have k0 := h0
  have lt0 : ∀ x ∈ p0, x.block < W.heap.size := by obtain ⟨m, hm⟩ := k0; exact DataW.trod_lt m _ _ _ hm
  obtain ⟨x0, hv0, hx0⟩ : ∃ a : List UInt8, (∀ y0 ∈ a, True) ∧ (Kd.sl Kd.byte).R W (Fr []) a v0.cells.toList := by obtain ⟨fuel, hf⟩ := h0; exact (Tr.sl Tryz.underlying22 (by kernel_rfl) (Tr.byte Tryz.underlying5)) H enc W fuel _ _ hf
  obtain ⟨a0, n0, c0, rfl⟩ := okWide_slice Tryz.underlying22 (hval 0 22 v0 rfl rfl)
  have s0 : Sl Kd.byte W (Fr []) (.slice a0 n0 c0) x0 := by obtain ⟨_, e, h⟩ := hx0; simp [Value.cells] at e; subst e; exact h
  clear hA0 hval0 hsz0
  refine Calls.mono (laws_FnDiffOne.calls W (Ok.nil W) hG x0 a0 n0 c0 s0 (fun r => r = true) (laws_FnDiffOne.law x0 hv0)) fun e W' ⟨v, he, r, hr, hq, hg⟩ => ?_
  subst he; subst hr; subst hq
  have bel := Gr.below hg
  exact ⟨_, rfl, _, _, _, [], _, _, hW', trodAll_mk1 (shut_bool Tryz.underlying4 _), (trodAll_cons_mk (Below.trod laidOut (by kernel_rfl) (of_decide_eq_true (by kernel_rfl)) k0 bel lt0) trodAll_mk0), Below.trodVars laidOut bel (by kernel_rfl) hV0, bel.frame _, fun h => by cases h⟩
theorem over : Rows.fnDiffOneRow.holds Tryz.pinned (OpenSpec.ofChange Rows.fnDiffOneSpec) :=
  OpenClaim.holds_of_wide 6 Tryz.f6 rfl rfl rfl rfl rfl rfl rfl ⟨rfl, rfl, rfl, rfl, rfl⟩ rfl rfl rfl rfl rfl (by kernel_rfl) Tryz.func6 (by kernel_rfl)
    (of_decide_eq_true (by kernel_rfl)) (by unfold Func.isWrapper; first | (rw [if_pos (by decide +kernel)]; kernel_rfl) | (rw [if_neg (by decide +kernel)]; exact ⟨rfl, rfl⟩))
    (fun os started H enc _ => lifted os started H enc)
theorem card : Rows.FnDiffOneCardSaid :=
  Claim7.holds_tied_plain_at .later [] [.data, .data, .data, .widerDeep] true (true, "e415afabf9b868df025d23cfa6c51a343106c6c6c244cd0de1bc1fd0934c8ded") false
    over (fun _ h => by cases h) (by kernel_rfl) (fun _ h => by cases h) fnDiffOne_row_tie rfl ⟨rfl, rfl⟩ (by kernel_rfl) rfl
    (fun f fn hf hfn => by
      obtain rfl : f = 6 := Option.some.inj ((show Tryz.prog.funcNamed "loop.example/townland/laws.FnDiffOne" = some 6 by kernel_rfl).symm.trans hf) |>.symm
      obtain rfl : fn = Tryz.f6 := (Option.some.inj (Tryz.func6.symm.trans hfn)).symm
      exact ⟨by kernel_rfl, fun j t ht => by
        rw [Tryz.params6] at ht
        have hm : t ∈ [22] := by simpa using Array.mem_of_getElem? ht
        have hall : ([22].all fun u => !Tryz.prog.wantsStandIn u) = true := by kernel_rfl
        exact (show Tryz.prog.wantsStandIn t = false by simpa using List.all_eq_true.1 hall t hm)⟩)
    (by kernel_rfl)
theorem proved : Rows.FnDiffOneCardSaid := card
#print axioms proved
end Go.Proofs.YtlaaehjcooonfaaGreatDoor.rFnDiffOne
namespace Go.Proofs.YtlaaehjcooonfaaGreatDoor
theorem fnDiffOne_holds : Rows.FnDiffOneCardSaid := rFnDiffOne.proved
end Go.Proofs.YtlaaehjcooonfaaGreatDoor