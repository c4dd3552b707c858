/- It is proved here that the law FnRepoSame of the given program holds whatever it is handed: the walks through the code, the plain laws and the row, in this order.
   Conditions: none. -/
import Derived.Below
import Derived.ChangeArms
import Derived.ChangeOld
import Derived.ChangeSlices
import Derived.DataReads
import Derived.Deep.Quiet
import Derived.KernelRfl
import Derived.Laws.Build
import Derived.Laws.IdiomStrings
import Derived.Laws.OwnMore
import Derived.Laws.Slices
import Derived.Laws.Strings2
import Derived.Laws.StructEq
import Derived.OpenShut
import Derived.ProofKit
import Derived.Shelf.Slices.CompactS
import Derived.Shelf.Sort.Plain
import Derived.ShutString
import Derived.SizedLaws
import Derived.StillTail
import Derived.Test.YtemeihpokbleaaaProg
import Derived.Test.YtemeihpokbleaaaRows
import Derived.WalkKit
import Derived.Test.YtemeihpokbleaaaCRepoSamea
import Derived.Test.YtemeihpokbleaaaCRepoSameb
import Derived.Test.YtemeihpokbleaaaCRepoSamec
import Derived.Test.YtemeihpokbleaaaCRepoSamed
namespace Go.Proofs.Ytemeihpokbleaaa
set_option linter.unusedVariables false
set_option linter.unusedSimpArgs false
set_option linter.unusedSectionVars false
set_option maxHeartbeats 8000000
set_option maxRecDepth 100000
open Go.RowKit
variable {O : Ob} {w0 : World}
theorem F75.law (b : List UInt8) (p : Int) (Q : Str → Int → Prop) (hb : b.length ≤ 2000) (hp : 0 ≤ p) (hp1 : p ≤ 1000000) (hq : ∀ n : Str, n.length ≤ 5 → Q n (p + 1)) : F75.E b p Q := by
 unfold F75.E
 exact F39.law _ _ _ _ hb hp OM RD fun n hn => hq n (note_len hn)
theorem RW.head {r : Repo} (h : RW r) {k : Int} (hk : 0 ≤ k ∧ k < (r.Heads.length : Int)) {a n : Int} (ha : 0 ≤ a ∧ a < n) {cs : List Commit} (hn : (cs.length : Int) = n) (hl : (r.Commits.length : Int) ≤ n) (h12 : n ≤ 12)
  (hc : ∀ c ∈ cs, c.Up.length ≤ 2 ∧ sheetOk c.Sheet = true ∧ c.Note.length ≤ 5) : RW ⟨cs, r.Heads.set k.toNat ⟨(nth r.Heads k).Name, a⟩⟩ :=
 ⟨by have := h.c0; dsimp only; omega, by dsimp only; omega, by dsimp only; rw [List.length_set]; exact h.h0, by dsimp only; rw [List.length_set]; exact h.h1, hc, fun x hx => by
  dsimp only
  rcases List.mem_or_eq_of_mem_set hx with hx | rfl
  ·obtain ⟨h1, h2, h3⟩ := h.hs x hx
   exact ⟨h1, h2, OM⟩
  ·exact ⟨(h.hs _ (nth_memi _ hk.1 hk.2)).1, ha.1, by dsimp only; omega⟩⟩
theorem RW.add1 {xs : List Commit} {ys : List Head} (h : RW ⟨xs, ys⟩) {k : Int} (hk : 0 ≤ k ∧ k < (ys.length : Int)) {c : Commit} (hc : c.Up.length ≤ 2 ∧ sheetOk c.Sheet = true ∧ c.Note.length ≤ 5) (hl : xs.length < 12) :
  RW ⟨xs ++ [c], ys.set k.toNat ⟨(nth ys k).Name, (xs.length : Int)⟩⟩ :=
 RW.head h hk (n := (xs.length : Int) + 1) ⟨OM, OM⟩ (by rw [List.length_append]; rfl) (by dsimp only; omega) OM fun x hx => by
  rcases List.mem_append.1 hx with hx | hx
  ·exact h.cs x hx
  ·rw [List.mem_singleton.1 hx]; exact hc
theorem RW.add2 {xs : List Commit} {ys : List Head} (h : RW ⟨xs, ys⟩) {k : Int} (hk : 0 ≤ k ∧ k < (ys.length : Int)) {j : Int} (hj : 0 ≤ j ∧ j < (xs.length : Int)) : RW ⟨xs, ys.set k.toNat ⟨(nth ys k).Name, j⟩⟩ :=
 RW.head h hk (n := (xs.length : Int)) hj rfl (Int.le_refl _) (by have := h.c1; dsimp only at this; omega) h.cs
theorem grow_tail {xs : List Commit} {ys : List Head} (h : RW ⟨xs, ys⟩) {c : Commit} (hc : c.Up.length ≤ 2 ∧ sheetOk c.Sheet = true ∧ c.Note.length ≤ 5) (A0 : Prop) (A : Repo → Commit → Prop) (B : Repo → Int → Prop)
  (h0 : A0) (h1 : xs.length < 12 → A ⟨xs, ys⟩ c) (h2 : ∀ j : Int, 0 ≤ j → j < (xs.length : Int) → B ⟨xs, ys⟩ j) :
  (if decide ((xs.length : Int) ≥ 12) then A0 else F71.E ⟨xs, ys⟩ (fun r => F66.E r c (fun j => (if decide (j < 0) then F92.E c (fun d => A r d) else B r j)))) := by
 split
 ·exact h0
 rename_i hl
 simp only [ge_iff_le, decide_eq_true_eq] at hl
 refine F71.law _ _ (Nat.le_trans h.c1 RD) (Nat.le_trans h.h1 RD) (fun x hx => ?_) (F66.law _ _ _ ?_)
 ·obtain ⟨g1, g2, g3⟩ := h.cs x hx
  exact ⟨OM, Nat.le_trans (sheet_bulk g2) RD⟩
 split
 ·exact F92.law _ _ OM (Nat.le_trans (sheet_bulk hc.2.1) RD) (h1 OM)
 rename_i hj
 simp only [decide_eq_true_eq] at hj
 have hle : findCommit ⟨xs, ys⟩ c < (xs.length : Int) := (findN_le _ _).2
 exact h2 _ OM hle
theorem F76.law (b : List UInt8) (p : Int) (Q : Repo → Int → Prop) (hb : b.length ≤ 2000) (hp : 0 ≤ p) (hp1 : p ≤ 100000) (hq : ∀ x p', RW x → p ≤ p' → p' ≤ p + 3000 → Q x p') : F76.E b p Q := by
 unfold F76.E
 refine F48.law _ _ RD (F51.law _ _ _ hb hp OM fun s m hs _ _ _ m1 m2 => ⟨by decide, F23.law _ _ _ _ hb OM OM fun v hv0 hv1 => ⟨by unfold I64; omega, ?_⟩⟩)
 refine ⟨fun i z xs ys => 0 ≤ i ∧ i ≤ 8 ∧ RW ⟨xs, ys⟩ ∧ p ≤ z ∧ z ≤ p + 301 + 260 * (8 - i), fun i _ _ _ => i.toNat, ⟨OM, OM, ?_, OM, OM⟩, ?_⟩
 ·show RW ⟨[⟨[], s, [98, 101, 103, 105, 110]⟩], [⟨[109, 97, 105, 110], 0⟩]⟩
  refine ⟨by simp, by simp, by simp, by simp, fun c hc => ?_, fun h hh => ?_⟩
  ·have e : c = ⟨[], s, [98, 101, 103, 105, 110]⟩ := List.mem_singleton.1 hc
   rw [e]; exact ⟨by simp, hs, by simp⟩
  ·have e : h = ⟨[109, 97, 105, 110], 0⟩ := List.mem_singleton.1 hh
   rw [e]; exact ⟨by simp, by simp, by simp⟩
 rintro i z xs ys ⟨h0, h1, hr, h2, h3⟩
 have r0 := hr.h0
 have r1 := hr.h1
 dsimp only at r0 r1
 by_cases hi : i > 0
 case neg =>
  rw [if_neg (by simpa using hi)]
  refine F23.law _ _ _ _ hb OM OM fun v hv0 hv1 => ?_
  split
  ·split
   ·rename_i hl
    simp only [gt_iff_lt, decide_eq_true_eq] at hl
    refine ⟨fun _ => by unfold I64; omega, OM, hq _ _ ⟨hr.c0, hr.c1, ?_, ?_, hr.cs, fun x hx => hr.hs x (List.mem_of_mem_take hx)⟩ OM OM⟩
    ·dsimp only; rw [List.length_take]; omega
    ·dsimp only; rw [List.length_take]; omega
   ·exact hq _ _ hr OM OM
  ·exact hq _ _ hr OM OM
 rw [if_pos (by simpa using hi)]
 have hI : I64 (i - 1) := by unfold I64; omega
 refine F58.law _ _ _ hb OM OM fun n hn => F59.law _ _ _ ?_
 have hle : findHead ⟨xs, ys⟩ n < (ys.length : Int) := (findN_le _ _).2
 generalize findHead ⟨xs, ys⟩ n = k at *
 by_cases hk : k < 0
 ·rw [if_pos (by simpa using hk)]
  refine F23.law _ _ _ _ hb OM OM fun v hv0 hv1 => ⟨OM, F24.law _ _ _ _ hr hn (fun _ => ?_) fun x _ hx => ?_⟩
  ·rw [if_neg RD]
   exact ⟨fun _ _ => hI, ⟨OM, OM, hr, OM, OM⟩, by dsimp only; omega⟩
  ·have := hx.h0
   rw [if_pos (by rw [decide_eq_true_eq]; omega)]
   exact ⟨fun _ _ => hI, ⟨OM, OM, hx, OM, OM⟩, by dsimp only; omega⟩
 rw [if_neg (by simpa using hk)]
 have hk2 : 0 ≤ k ∧ k < (ys.length : Int) := ⟨OM, hle⟩
 have hm := hr.hs _ (nth_memi ys hk2.1 hk2.2)
 have hc := hr.cs _ (nth_memi xs hm.2.1 hm.2.2)
 refine ⟨hk2, hm.2, F74.gen (fun _ => True) (fun _ _ => trivial) _ _ _ _ hb OM OM hc.2.1 (fun _ _ => trivial) fun s' z' hs' _ z1 z2 => F75.law _ _ _ hb OM OM fun nt hnt => F23.law _ _ _ _ hb OM OM fun v hv0 hv1 => ⟨OM, ?_⟩⟩
 split
 ·refine F23.law _ _ _ _ hb OM OM fun u hu0 hu1 => ?_
  split
  ·refine grow_tail hr ⟨by simp, hs', hnt⟩ _ _ _ ?_ (fun hl => ?_) (fun j j0 j1 => ?_)
   ·exact ⟨fun _ _ => hI, ⟨OM, OM, hr, OM, OM⟩, by dsimp only; omega⟩
   ·exact ⟨by simp only [List.length_cons, List.length_nil]; omega, hk2, fun _ _ _ => hI, ⟨OM, OM, hr.add1 hk2 ⟨by simp, hs', hnt⟩ hl, OM, OM⟩, by dsimp only; omega⟩
   ·exact ⟨hk2, fun _ _ => hI, ⟨OM, OM, hr.add2 hk2 ⟨j0, j1⟩, OM, OM⟩, by dsimp only; omega⟩
  ·refine grow_tail hr ⟨by simp, hs', hnt⟩ _ _ _ ?_ (fun hl => ?_) (fun j j0 j1 => ?_)
   ·exact ⟨fun _ _ => hI, ⟨OM, OM, hr, OM, OM⟩, by dsimp only; omega⟩
   ·exact ⟨by simp only [List.length_cons, List.length_nil]; omega, hk2, fun _ _ _ => hI, ⟨OM, OM, hr.add1 hk2 ⟨by simp, hs', hnt⟩ hl, OM, OM⟩, by dsimp only; omega⟩
   ·exact ⟨hk2, fun _ _ => hI, ⟨OM, OM, hr.add2 hk2 ⟨j0, j1⟩, OM, OM⟩, by dsimp only; omega⟩
 ·refine grow_tail hr ⟨by simp, hs', hnt⟩ _ _ _ ?_ (fun hl => ?_) (fun j j0 j1 => ?_)
  ·exact ⟨fun _ _ => hI, ⟨OM, OM, hr, OM, OM⟩, by dsimp only; omega⟩
  ·exact ⟨by simp only [List.length_cons, List.length_nil]; omega, hk2, fun _ _ _ => hI, ⟨OM, OM, hr.add1 hk2 ⟨by simp, hs', hnt⟩ hl, OM, OM⟩, by dsimp only; omega⟩
  ·exact ⟨hk2, fun _ _ => hI, ⟨OM, OM, hr.add2 hk2 ⟨j0, j1⟩, OM, OM⟩, by dsimp only; omega⟩
theorem F77.law (b : List UInt8) (p : Int) (Q : Shape → Int → Prop) (hb : b.length ≤ 2000) (hp : 0 ≤ p) (hp1 : p ≤ 10000000) (hq : ∀ s p', s.Pts.length ≤ 7 → (∀ q ∈ s.Pts, NX q) → p ≤ p' → p' ≤ p + 50 → Q s p') : F77.E b p Q := by
 unfold F77.E
 refine F50.law _ _ _ hb hp OM fun s p1 hs hx p0 p2 => F23.law _ _ _ _ hb OM OM fun k hk0 hk1 => F23.law _ _ _ _ hb OM OM fun v hv0 hv1 => ?_
 have l1 := shape_pos hs
 have l2 := shape_pts hs
 split
 ·exact F28.law _ _ _ _ hb OM OM RD fun n hn => hq _ _ (by dsimp only; omega) hx OM OM
 split
 ·exact F28.law _ _ _ _ hb OM OM RD fun n hn => ⟨OM, hq _ _ (by simp only [List.length_set]; omega) (fun q hq' => by
   rcases List.mem_or_eq_of_mem_set hq' with g | rfl
   ·exact hx q g
   ·simp only [List.mem_cons, List.not_mem_nil, or_false] at hn
    exact ⟨by dsimp only; omega, by dsimp only; omega⟩) OM OM⟩
 split
 ·exact ⟨fun _ => by unfold I64; omega, OM, by simp only [List.length_cons, List.length_nil]; omega, hq _ _ (by simp only [List.length_append, List.length_cons, List.length_nil]; omega) (fun q hq' => (List.mem_append.1 hq').elim (hx q) fun g => by rw [List.mem_singleton.1 g]; exact hx _ (nth_memi _ OM OM)) OM OM⟩
 split
 ·exact ⟨OM, hq _ _ (by simp only [List.length_take, List.length_drop]; omega) (fun q hq' => hx q (List.mem_of_mem_drop (List.mem_of_mem_take hq'))) OM OM⟩
 exact hq _ _ OM hx OM OM
theorem F78.law (b : List UInt8) (p : Int) (Q : Feat → Int → Prop) (hb : b.length ≤ 2000) (hp : 0 ≤ p) (hp1 : p ≤ 1000000) (hq : ∀ f p', FB 4 f → (∀ x ∈ f.Tags, plainK x.Key) → f.Id ≠ zzI → (∀ q ∈ f.Shape.Pts, NX q) → p ≤ p' → p' ≤ p + 120 → Q f p') : F78.E b p Q := by
 unfold F78.E
 refine F94.law _ _ _ hb hp OM fun id hid => F57.law _ _ _ _ hb OM OM fun s t p1 hs ht tl td hx p2 p3 => F23.law _ _ _ _ hb OM OM fun v hv0 hv1 => ?_
 have li := word_len (idL_ok _ hid)
 have lp := shape_pts hs
 have tp : ∀ x ∈ t, plainK x.Key := fun x hx => keyL_plain _ (td x hx).1
 have tw : ∀ x ∈ t, x.Key.length ≤ 6 ∧ x.Val.length ≤ 6 := fun x hx => (td x hx).len
 have iz := idL_nz _ hid
 split
 ·refine F39.law _ _ _ _ hb OM OM RD fun w hw => hq _ _ ⟨?_, by dsimp only; omega, by dsimp only; omega, tw⟩ tp ?_ hx OM OM
  all_goals
   simp only [List.mem_cons, List.not_mem_nil, or_false] at hw
   dsimp only
   rcases hw with rfl | rfl | rfl <;> decide
 split
 ·exact F77.law _ _ _ hb OM OM fun s' p4 h4 hx' h5 h6 => hq _ _ ⟨by dsimp only; omega, h4, by dsimp only; omega, tw⟩ tp iz hx' OM OM
 split
 ·refine ⟨by simp only [List.length_cons, List.length_nil]; omega, hq _ _ ⟨by dsimp only; omega, by dsimp only; omega, by simp only [List.length_append, List.length_cons, List.length_nil]; omega, fun x hx2 => ?_⟩ (fun x hx2 => ?_) iz hx OM OM⟩
  ·rcases List.mem_append.1 hx2 with hx2 | hx2
   ·exact tw x hx2
   ·rw [List.mem_singleton.1 hx2]; decide
  ·rcases List.mem_append.1 hx2 with hx2 | hx2
   ·exact tp x hx2
   ·rw [List.mem_singleton.1 hx2]; unfold plainK; dsimp only; decide
 split
 ·refine F39.law _ _ _ _ hb OM OM RD fun w hw => ⟨by simp only [List.length_cons, List.length_nil]; omega, hq _ _ ⟨by dsimp only; omega, by dsimp only; omega, by simp only [List.length_append, List.length_cons, List.length_nil]; omega, fun x hx2 => ?_⟩ (fun x hx2 => ?_) iz hx OM OM⟩
  ·rcases List.mem_append.1 hx2 with hx2 | hx2
   ·exact tw x hx2
   ·rw [List.mem_singleton.1 hx2]
    simp only [List.mem_cons, List.not_mem_nil, or_false] at hw
    rcases hw with rfl | rfl <;> decide
  ·rcases List.mem_append.1 hx2 with hx2 | hx2
   ·exact tp x hx2
   ·rw [List.mem_singleton.1 hx2]; unfold plainK; dsimp only; decide
 exact hq _ _ ⟨by dsimp only; omega, by dsimp only; omega, by dsimp only; omega, tw⟩ tp iz hx OM OM
theorem F79.law (b : List UInt8) (p : Int) (Q : List Feat → Int → Prop) (hb : b.length ≤ 2000) (hp : 0 ≤ p) (hp1 : p ≤ 100000) (hq : ∀ s p', MD s → (∀ f ∈ s, ∀ q ∈ f.Shape.Pts, NX q) → p ≤ p' → p' ≤ p + 500 → Q s p') : F79.E b p Q := by
 unfold F79.E
 refine F51.law _ _ _ hb hp OM fun s p1 hs hl hz hn p2 p3 => F23.law _ _ _ _ hb OM OM fun v hv0 hv1 => ?_
 have mb := MB.of hs
 have hm : MD s := ⟨⟨OM, mb.fb⟩, hz⟩
 split
 ·refine F78.law _ _ _ hb OM OM fun f p4 h1 _ h2 hfx h3 h4 => ⟨by simp only [List.length_cons, List.length_nil]; omega, hq _ _ ⟨⟨by simp only [List.length_append, List.length_cons, List.length_nil]; omega, fun x hx => ?_⟩, fun x hx => ?_⟩ (fun x hx => ?_) OM OM⟩
  ·rcases List.mem_append.1 hx with hx | hx
   ·exact mb.fb x hx
   ·rw [List.mem_singleton.1 hx]; exact h1
  ·rcases List.mem_append.1 hx with hx | hx
   ·exact hz x hx
   ·rw [List.mem_singleton.1 hx]; exact h2
  ·rcases List.mem_append.1 hx with hx | hx
   ·exact hn x hx
   ·rw [List.mem_singleton.1 hx]; exact hfx
 split
 ·refine ⟨OM, hq _ _ ⟨⟨by simp only [List.length_append]; omega, fun x hx => ?_⟩, fun x hx => ?_⟩ (fun x hx => ?_) OM OM⟩
  ·rcases List.mem_append.1 hx with hx | hx <;> exact mb.fb x hx
  ·rcases List.mem_append.1 hx with hx | hx <;> exact hz x hx
  ·rcases List.mem_append.1 hx with hx | hx <;> exact hn x hx
 split
 ·refine ⟨fun s i => 0 ≤ i ∧ i ≤ 9 ∧ SS (ids s) ∧ (s.length : Int) ≤ 4 + i ∧ (∀ f ∈ s, FB 4 f ∧ f.Id ≠ zzI ∧ ∀ q ∈ f.Shape.Pts, NX q), fun _ i => (9 - i).toNat, ⟨OM, OM, (sheet_ss hs).1, OM, fun f hf => ⟨mb.fb f hf, hz f hf, hn f hf⟩⟩, ?_⟩
  rintro s i ⟨h0, h1, h2, h3, h4⟩
  by_cases hi : i ≤ 8
  case neg => rw [if_neg (by simpa using hi)]; exact hq _ _ ⟨⟨OM, fun f hf => (h4 f hf).1⟩, fun f hf => (h4 f hf).2.1⟩ (fun f hf => (h4 f hf).2.2) OM OM
  rw [if_pos (by simpa using hi)]
  have hl1 : ∀ l : Str, ((l.drop i.toNat).take ((i + 1).toNat - i.toNat)).length ≤ 1 := fun l => by rw [List.length_take]; omega
  refine ⟨by unfold I64; omega, by simp only [List.length_cons, List.length_nil]; omega, F91.law _ _ _ OM h2 fun r r1 r2 r3 r4 => ⟨by unfold I64; omega, ⟨OM, OM, r1, OM, fun f hf => ?_⟩, by dsimp only; omega⟩⟩
  rcases r4 f hf with g | rfl
  ·exact h4 f g
  ·refine ⟨⟨Nat.le_trans (hl1 _) RD, by dsimp only [List.length_cons, List.length_nil]; omega, by simp only [List.length_nil]; omega, by simp⟩, fun e => ?_, fun q hq' => by rw [List.mem_singleton.1 hq']; exact .of RD⟩
   have := hl1 [113, 114, 115, 116, 117, 118, 119, 120, 121, 122]
   dsimp only at e
   rw [e] at this
   exact absurd this RD
 exact hq _ _ hm hn OM OM
theorem RB.heads {r : Repo} (h : RB r) {hs : List Head} (h0 : 1 ≤ hs.length) (h1 : hs.length ≤ 5) (h2 : ∀ x ∈ hs, x.Name.length ≤ 6) : RB ⟨r.Commits, hs⟩ := ⟨h.c0, h.c1, h0, h1, h.cs, h2⟩
theorem F80.law (b : List UInt8) (p : Int) (Q : Repo → Int → Prop) (hb : b.length ≤ 2000) (hp : 0 ≤ p) (hp1 : p ≤ 10000) (hq : ∀ x p', RB x → p ≤ p' → p' ≤ p + 4000 → Q x p') : F80.E b p Q := by
 unfold F80.E
 refine F76.law _ _ _ hb hp OM fun x m hx m1 m2 => ?_
 have hr := hx.rb
 have c0 := hx.c0
 have h0 := hx.h0
 have h1 := hx.h1
 have hh : nth x.Heads 0 ∈ x.Heads := nth_memi _ OM OM
 refine F23.law _ _ _ _ hb OM OM fun k hk0 hk1 => ?_
 have hk : 0 ≤ k ∧ k < (x.Commits.length : Int) := by omega
 have hc := hr.cs _ (nth_memi x.Commits hk.1 hk.2)
 have hu := hx.cs _ (nth_memi x.Commits hk.1 hk.2)
 refine F23.law _ _ _ _ hb OM OM fun v hv0 hv1 => ?_
 split
 ·refine F28.law _ _ _ _ hb OM OM (by simp) fun a _ => ⟨OM, hq _ _ (hr.heads (by rw [List.length_set]; exact h0) (by rw [List.length_set]; omega) fun y hy => ?_) OM OM⟩
  rcases List.mem_or_eq_of_mem_set hy with hy | rfl
  ·exact hr.hs y hy
  ·show (nth x.Heads 0).Name.length ≤ 6
   exact hr.hs _ hh
 split
 ·refine ⟨hk, by simp only [List.length_cons, List.length_nil]; omega, hq _ _ (hr.set _ ⟨?_, hc.2.1, hc.2.2⟩) OM OM⟩
  dsimp only
  rw [List.length_append, List.length_singleton]; omega
 split
 ·exact F79.law _ _ _ hb OM OM fun s p' hs _ p1 p2 => ⟨hk, hq _ _ (hr.set _ ⟨hc.1, md_bulk hs, hc.2.2⟩) OM OM⟩
 split
 ·exact ⟨hk, hq _ _ (hr.set _ ⟨hc.1, hc.2.1, Nat.zero_le _⟩) OM OM⟩
 split
 ·refine ⟨OM, by simp only [List.length_cons, List.length_nil]; omega, hq _ _ (hr.heads (by rw [List.length_append]; omega) (by rw [List.length_append, List.length_singleton]; omega) fun y hy => ?_) OM OM⟩
  rcases List.mem_append.1 hy with hy | hy
  ·exact hr.hs y hy
  ·rw [List.mem_singleton.1 hy]; exact hr.hs _ hh
 split
 ·exact ⟨hk, hq _ _ (hr.set _ ⟨Nat.zero_le _, hc.2.1, hc.2.2⟩) OM OM⟩
 exact hq _ _ hr OM OM
theorem F47.law (code : List UInt8) (Q : List UInt8 → Int → Prop) (hq : ∀ b, b.length ≤ 2000 → Q b 0) : F47.E code Q := by
 unfold F47.E
 by_cases h : (code.length : Int) > 2000
 ·rw [if_pos (by simpa using h)]
  exact ⟨OM, hq _ (by rw [List.length_take]; omega)⟩
 ·rw [if_neg (by simpa using h)]
  exact hq _ OM
theorem F11.law (code : List UInt8) (Q : Repo → Repo → Prop) (hq : ∀ a b, RB a → bulk b ≤ 1048576 → Q a b) : F11.E code Q := by
 unfold F11.E
 refine F47.law _ _ fun b hb => F80.law _ _ _ hb OM OM fun x _ hx _ _ => F47.law _ _ fun b2 hb2 => F80.law _ _ _ hb2 OM OM fun y _ hy _ _ => ?_
 split
 ·rename_i hl
  simp only [gt_iff_lt, decide_eq_true_eq] at hl
  refine ⟨OM, OM, ?_⟩
  split
  ·have c0 := hy.c0
   have hm := hy.cs _ (nth_memi y.Commits (i := 0) OM OM)
   refine ⟨OM, by simp only [List.length_cons, List.length_nil]; omega, OM, hq _ _ hx ?_⟩
   have := repo_bulk (r := ⟨y.Commits.set (0 : Int).toNat ⟨(nth y.Commits 0).Up, (nth y.Commits 0).Sheet, (nth y.Commits 0).Note ++ [97]⟩, y.Heads⟩) (n := 12) (m := 5) (a := 3 + 938 + 7) (b := 6) (by dsimp only; rw [List.length_set]; exact hy.c1) hy.h1 (fun c hc => ?_) hy.hs
   ·omega
   ·rcases List.mem_or_eq_of_mem_set hc with hc | rfl
    ·obtain ⟨h1, h2, h3⟩ := hy.cs c hc
     exact commit_bulk h1 h2 OM
    ·exact commit_bulk hm.1 hm.2.1 (by rw [List.length_append, List.length_singleton]; omega)
  ·exact hq _ _ hx hy.big
 ·exact hq _ _ hx hy.big
theorem laws_FnRepoSame.law (code : List UInt8) (_ : ∀ x ∈ code, True) : laws_FnRepoSame.E code (fun r => r = true) := by
 unfold laws_FnRepoSame.E
 refine iteB (fun _ => rfl) fun _ => F11.law _ _ fun a b ha hb => ?_
 have hs : decide (a = b) = decide (b = a) := decide_eq_decide.2 eq_comm
 refine F42.law _ _ _ ha.big (F43.law _ _ _ (iteB (fun h => by simp at h) fun _ => F42.law _ _ _ hb (iteB (fun h => by rw [hs] at h; simp at h) fun _ => F42.law _ _ _ ha.big (iteB (fun h => by simp at h) fun _ => ?_))))
 have c0 := ha.c0
 have c1 := ha.c1
 have h1 := ha.h1
 have hm := ha.cs _ (nth_memi a.Commits (i := 0) OM OM)
 refine ⟨by simp only [List.length_nil]; omega, OM, by simp only [List.length_cons, List.length_nil]; omega, by rw [List.nil_append]; omega, by simp only [List.length_nil]; omega, by simp only [List.nil_append, List.length_cons, List.length_nil]; omega, fun _ _ => by unfold I64; omega, OM, ?_⟩
 refine F42.law _ _ _ ha.big (iteB (fun _ => F42.law _ _ _ ha.big (iteB (fun _ => F42.law _ _ _ ha.big ?_) fun h => ?_)) fun h => ?_)
 ·show (!decide _) = true
  rw [Bool.not_eq_true', decide_eq_false_iff_not]
  intro e
  have e := congrArg (fun r : Repo => r.Commits.length) e
  dsimp only at e
  rw [List.length_take, List.length_drop] at e
  omega
 ·rw [Bool.not_eq_false', decide_eq_true_eq] at h
  have e := congrArg (fun r : Repo => r.Heads.length) h
  dsimp only at e
  rw [List.length_append, List.nil_append, List.length_singleton] at e
  omega
 ·rw [Bool.not_eq_false', decide_eq_true_eq] at h
  have e := congrArg (fun r : Repo => (nth r.Commits 0).Note.length) h
  dsimp only at e
  rw [List.nil_append] at e
  obtain ⟨x, l, el⟩ := List.exists_cons_of_ne_nil (show a.Commits ≠ [] by intro e; rw [e] at c0; simp at c0)
  rw [el] at e
  have e : x.Note.length = (x.Note ++ [120]).length := e
  rw [List.length_append, List.length_singleton] at e
  omega
end Go.Proofs.Ytemeihpokbleaaa
namespace Go.Proofs.Ytemeihpokbleaaa.rFnRepoSame
open Go.ChangeShapes Go.WideShapes Go.ChangeAt Go.RowKit
open Go.ChangeMaps (open_string shut_string)
set_option linter.unusedVariables false
theorem own : ownKnob Try.prog.godebug = none := by kernel_rfl
theorem laidOut : laidOutB Try.prog = true := by kernel_rfl
set_option maxHeartbeats 4000000 in
set_option maxRecDepth 100000 in
theorem lifted (os : Os) (started : os.Started) (H : Type) (enc : TypeId × Value → H) :
    ReturnsInHanded {} Try.checked os 3 .any (Rows.fnRepoSameSpec.pre6 enc Try.prog Try.f3 Rows.fnRepoSameRow.domain false) (Rows.fnRepoSameSpec.post enc Try.prog Try.f3 false true false false) := by
  refine returnsInHanded_of_change_sized (C := Try.checked) own started (by kernel_rfl) Try.func3
    (ChangeSpec.witness6 (enc := enc) (C := Try.checked) false ⟨#[], #[.slice none 0 0], []⟩ 8 (by kernel_rfl) (by kernel_rfl) (by kernel_rfl) (by kernel_rfl)) ?_
  intro W base args ds gs before hval0 hW hcnd hsz0 _
  have hval : ∀ (j : Nat) t v, Try.f3.params[j]? = some t → args[j]? = some v → Value.okWide Try.prog W .any base t v := hval0
  have hW' := hW
  obtain ⟨p, q, hA0, hV, rfl, hfz, hnd⟩ := hW
  have hA : DataW.TrodAll enc Try.prog W 0 (fun _ => true) true Try.f3.params.toList args.toList ds p := hA0
  rw [Try.params3] at hA hval
  obtain ⟨v0, vs0, d0, ds0, p0, q0, hargs, rfl, rfl, h0, r0⟩ := trodAll_cons hA
  obtain ⟨rfl, rfl, rfl⟩ := trodAll_nil r0
  obtain rfl : args = #[v0] := by cases args; simp_all
  obtain ⟨rfl, rfl⟩ := trodVars_none hV
  have k0 := h0
  have lt0 : ∀ x ∈ p0, x.block < W.heap.size := by obtain ⟨m, hm⟩ := k0; exact DataW.trod_lt m _ _ _ hm
  obtain ⟨x0, hv0, hx0⟩ : ∃ a : List UInt8, (∀ y0 ∈ a, True) ∧ (Kd.sl Kd.byte).R W (Fr []) a v0.cells.toList := by obtain ⟨fuel, hf⟩ := h0; exact (Tr.sl Try.underlying22 (by kernel_rfl) (Tr.byte Try.underlying5)) H enc W fuel _ _ hf
  obtain ⟨a0, n0, c0, rfl⟩ := okWide_slice Try.underlying22 (hval 0 22 v0 rfl rfl)
  have s0 : Sl Kd.byte W (Fr []) (.slice a0 n0 c0) x0 := by obtain ⟨_, e, h⟩ := hx0; simp [Value.cells] at e; subst e; exact h
  clear hA0 hval0 hsz0
  refine Calls.mono (laws_FnRepoSame.calls W (Ok.nil W) x0 a0 n0 c0 s0 (fun r => r = true) (laws_FnRepoSame.law x0 hv0)) fun e W' ⟨v, he, r, hr, hq, hg⟩ => ?_
  subst he; subst hr; subst hq
  have bel := Gr.below hg
  exact ⟨_, rfl, _, _, _, [], _, [], hW', trodAll_mk1 (shut_bool Try.underlying4 _), (trodAll_cons_mk (Below.trod laidOut (by kernel_rfl) (of_decide_eq_true (by kernel_rfl)) k0 bel lt0) trodAll_mk0), rfl, bel.frame _, fun h => by cases h⟩
theorem over : Rows.fnRepoSameRow.holds Try.pinned (OpenSpec.ofChange Rows.fnRepoSameSpec) :=
  OpenClaim.holds_of_wide 3 Try.f3 rfl rfl rfl rfl rfl rfl rfl ⟨rfl, rfl, rfl, rfl, rfl⟩ rfl rfl rfl rfl rfl (by kernel_rfl) Try.func3 (by kernel_rfl)
    (of_decide_eq_true (by kernel_rfl)) (by unfold Func.isWrapper; first | (rw [if_pos (by decide +kernel)]; kernel_rfl) | (rw [if_neg (by decide +kernel)]; exact ⟨rfl, rfl⟩))
    (fun os started H enc _ => lifted os started H enc)
theorem proved : Rows.FnRepoSameSaid := over
#print axioms proved
end Go.Proofs.Ytemeihpokbleaaa.rFnRepoSame
namespace Go.Proofs.Ytemeihpokbleaaa
theorem fnRepoSame_holds : Rows.FnRepoSameSaid := rFnRepoSame.proved
end Go.Proofs.Ytemeihpokbleaaa