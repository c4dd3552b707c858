/- It is proved here that the law FnExactRepoAhead of the given program holds whatever it is handed: the walks through the code, the plain laws and the row, in this order.
   Conditions: none. -/
import Derived.Below
import Derived.ChangeArms
import Derived.ChangeOld
import Derived.ChangeSlices
import Derived.DataReads
import Derived.Deep.Quiet
import Derived.KernelRfl
import Derived.Laws.Build
import Derived.Laws.OwnMore
import Derived.Laws.Slices
import Derived.Laws.StructEq
import Derived.OpenShut
import Derived.ProofKit
import Derived.ShutString
import Derived.SizedLaws
import Derived.StillTail
import Derived.Test.YthkeboifjlnjjaaProg
import Derived.Test.YthkeboifjlnjjaaRows
import Derived.WalkKit
import Derived.Test.YthkeboifjlnjjaaCExactRepoAheada
import Derived.Test.YthkeboifjlnjjaaCExactRepoAheadb
import Derived.Test.YthkeboifjlnjjaaCExactRepoAheadc
namespace Go.Proofs.Ythkeboifjlnjjaa
set_option linter.unusedVariables false
set_option linter.unusedSimpArgs false
set_option linter.unusedSectionVars false
theorem impl_FeatOk.law (f : Feat) (Q : Bool → Prop) (hb : bulk f ≤ 1048576) (hq : Q (featOk f)) : impl_FeatOk.E f Q := by
  unfold impl_FeatOk.E
  unfold featOk at hq
  have b1 : bulk f = bulk f.Id + bulk f.Shape + bulk f.Tags := rfl
  have b2 : bulk f.Shape = bulk f.Shape.Kind + bulk f.Shape.Pts := rfl
  have l1 := bulk_len f.Tags; have l2 := bulk_len f.Shape.Pts; have l3 := bulk_len f.Id
  have core : (tagsOk f.Tags = true → impl_WordOk.E f.Id (fun r3 => (if r3 then impl_ShapeOk.E f.Shape (fun r4 => (if r4 then Q (decide ((f.Tags.length : Int) ≤ 4)) else Q false)) else Q false))) := fun ha => by
    rw [ha, Bool.true_and] at hq
    refine impl_WordOk.law _ _ (by omega) ?_
    cases h1 : wordOk f.Id with
    | false => rw [h1, Bool.and_false, Bool.false_and] at hq; rw [if_neg (by decide)]; exact hq
    | true =>
      rw [h1, Bool.and_true] at hq
      rw [if_pos rfl]
      refine impl_ShapeOk.law _ _ (by omega) ?_
      cases h2 : shapeOk f.Shape with
      | false => rw [h2, Bool.and_false] at hq; rw [if_neg (by decide)]; exact hq
      | true =>
        rw [h2, Bool.and_true] at hq; rw [if_pos rfl]
        have e2 : decide ((f.Tags.length : Int) ≤ 4) = decide (f.Tags.length ≤ 4) := decide_eq_decide.2 (by omega)
        rw [e2]; exact hq
  have bad : tagsOk f.Tags = false → Q false := fun h => by
    rw [h, Bool.false_and, Bool.false_and, Bool.false_and] at hq; exact hq
  unfold tagsOk at core bad
  refine loop_all f.Tags.length (fun k => wordOk (nth f.Tags (k : Int)).Key && wordOk (nth f.Tags (k : Int)).Val && (decide (k = 0) || Op.bytesLess (nth f.Tags ((k : Int) - 1)).Key (nth f.Tags (k : Int)).Key)) (fun I mu k hk hp hn => ?_) (fun ha => core (allN_true ha))
  have bad := fun h => bad (allN_false hk h)
  have m1 := bulk_mem (nth_mem f.Tags hk)
  have m2 : bulk (nth f.Tags (k : Int)) = bulk (nth f.Tags (k : Int)).Key + bulk (nth f.Tags (k : Int)).Val := rfl
  have m3 := bulk_len (nth f.Tags (k : Int)).Key; have m4 := bulk_len (nth f.Tags (k : Int)).Val
  refine ⟨by omega, _, impl_WordOk.law _ _ (by omega) rfl, ?_⟩
  cases h1 : wordOk (nth f.Tags (k : Int)).Key with
  | false => rw [if_pos (by decide)]; exact bad (by rw [h1]; rfl)
  | true =>
    rw [if_neg (by decide)]
    refine ⟨_, impl_WordOk.law _ _ (by omega) rfl, ?_⟩
    cases h2 : wordOk (nth f.Tags (k : Int)).Val with
    | false => rw [if_pos (by decide)]; exact bad (by rw [h2, Bool.and_false]; rfl)
    | true =>
      rw [if_neg (by decide)]
      by_cases hk0 : k = 0
      · rw [if_neg (by rw [decide_eq_true_eq]; omega)]
        obtain ⟨i1, i2⟩ := hn (by rw [h1, h2, decide_eq_true hk0]; rfl)
        exact ⟨by unfold I64; omega, i1, i2⟩
      · rw [if_pos (by rw [decide_eq_true_eq]; omega)]
        refine ⟨by unfold I64; omega, by omega, ?_⟩
        cases h3 : Op.bytesLess (nth f.Tags ((k : Int) - 1)).Key (nth f.Tags (k : Int)).Key with
        | false => rw [if_pos (by decide)]; exact bad (by rw [h3, h1, h2, decide_eq_false hk0]; rfl)
        | true =>
          rw [if_neg (by decide)]
          obtain ⟨i1, i2⟩ := hn (by rw [h3, h1, h2, decide_eq_false hk0]; rfl)
          exact ⟨by unfold I64; omega, i1, i2⟩
end Go.Proofs.Ythkeboifjlnjjaa

namespace Go.Proofs.Ythkeboifjlnjjaa
open Go.RowKit
set_option linter.unusedVariables false
def impl_SheetOk.E (s : List Feat) (Q : Bool → Prop) : Prop :=
  (∃ (I19 : Int → Prop) (mu20 : Int → Nat), I19 0 ∧ ∀ (v2 : Int), I19 v2 → (if decide (v2 < (s.length : Int)) then ((0 : Int) ≤ v2 ∧ v2 < (s.length : Int)) ∧ (∃ q : Bool, impl_FeatOk.E (nth s v2) (fun x => x = q) ∧ (if !q then Q false else (if decide (v2 > 0) then (I64 (v2 - 1)) ∧ ((0 : Int) ≤ v2 - 1 ∧ v2 - 1 < (s.length : Int)) ∧ (if !(Op.bytesLess ((nth s (v2 - 1)).Id) ((nth s v2).Id)) then Q false else (I64 (v2 + 1)) ∧ I19 (v2 + 1) ∧ mu20 (v2 + 1) < mu20 v2) else (I64 (v2 + 1)) ∧ I19 (v2 + 1) ∧ mu20 (v2 + 1) < mu20 v2))) else Q (decide ((s.length : Int) ≤ 8))))
set_option maxHeartbeats 8000000 in
set_option maxRecDepth 100000 in
theorem impl_SheetOk.calls {O : Ob} (w0 : World) (hO : Ok w0 O) (s : List Feat) (A1 : Option Addr) (n2 c3 : Nat) (hp4 : Sl kFeat w0 (Fr O) (.slice A1 n2 c3) s) (Q : Bool → Prop) (h : impl_SheetOk.E s Q) :
    Ret Try.prog 61 [.slice A1 n2 c3] w0 (fun v w' => ∃ (r0 : Bool), v = vb r0 ∧ Q r0 ∧ Gr w0 w' none) := by
  have H : (∃ (I19 : Int → Prop) (mu20 : Int → Nat), I19 0 ∧ ∀ (v2 : Int), I19 v2 → (if decide (v2 < (s.length : Int)) then ((0 : Int) ≤ v2 ∧ v2 < (s.length : Int)) ∧ (∃ q : Bool, impl_FeatOk.E (nth s v2) (fun x => x = q) ∧ (if !q then Q false else (if decide (v2 > 0) then (I64 (v2 - 1)) ∧ ((0 : Int) ≤ v2 - 1 ∧ v2 - 1 < (s.length : Int)) ∧ (if !(Op.bytesLess ((nth s (v2 - 1)).Id) ((nth s v2).Id)) then Q false else (I64 (v2 + 1)) ∧ I19 (v2 + 1) ∧ mu20 (v2 + 1) < mu20 v2) else (I64 (v2 + 1)) ∧ I19 (v2 + 1) ∧ mu20 (v2 + 1) < mu20 v2))) else Q (decide ((s.length : Int) ≤ 8)))) := h
  clear h
  have hc0 := Ct.init hO
  refine Ret_enter Try.func61 rfl 34 rfl [.tmp 2] rfl rfl ?_
  refine W_seq ?_
  refine W_reg ?_
  refine L_pu (P_assign (vb false) rfl) ?_
  refine L_nil ?_
  refine W_seq ?_
  refine W_seq ?_
  refine W_reg ?_
  refine L_pu (P_move (.slice A1 n2 c3) rfl) ?_
  have hl6 := hp4.le
  refine L_pu (P_len Try.underlying91 A1 n2 c3 hp4.len rfl) ?_
  refine L_pu (P_move (vi 0) rfl) ?_
  refine L_nil ?_
  refine W_block ?_
  obtain ⟨I19, mu20, hI21, H⟩ := H
  refine W_loop (α := Int) (fun (sv__ : Int) t w15 => match sv__ with | v2 => I19 v2 ∧ Has t [(0, .slice A1 n2 c3), (5, .slice A1 n2 c3), (6, vi (s.length : Int)), (7, vi v2)] ∧ Ct none w0 w15 [] O ∧ Sl kFeat w15 (Fr ([] ++ O)) (.slice A1 n2 c3) s) (fun (sv__ : Int) => match sv__ with | v2 => mu20 v2) 0 ⟨hI21, ⟨rfl, rfl, rfl, rfl, trivial⟩, hc0, hp4⟩ ?_
  rintro v2 _ w15 ⟨hI21, hh23, hc17, h18⟩
  obtain ⟨u24, rfl⟩ := Has.ins hh23
  have H := H v2 hI21
  refine W_seq ?_
  refine W_reg ?_
  refine L_pu (P_cmp v2 (s.length : Int) (decide (v2 < (s.length : Int))) rfl rfl rfl) ?_
  refine L_nil ?_
  refine W_seq ?_
  refine W_cond (decide (v2 < (s.length : Int))) rfl (fun hq25 => ?_) (fun hq25 => ?_)
  · have H := ite_t H hq25
    refine W_skip ?_
    refine W_seq ?_
    refine W_block ?_
    refine W_seq ?_
    refine W_reg ?_
    refine L_pu (P_move (vi v2) rfl) ?_
    obtain ⟨hb26, H⟩ := H
    obtain ⟨ad27, cs28, hA29, hS32, hR30, hcl31⟩ := h18.get default (by decide) v2 hb26
    obtain ⟨A34, n35, c36, A39, n40, c41, rfl, hs33, h37, h42⟩ := kFeat.op hR30
    refine L_pu (P_ia Try.underlying91 se91 A1 ad27 n2 c3 h18.len v2 rfl hA29 rfl hb26) ?_
    refine L_pu (P_lda ag79 sz79 cL (ad27.add (v2.toNat * 4)) [vs ((nth s v2).Id), vi ((nth s v2).Shape.Kind), .slice A34 n35 c36, .slice A39 n40 c41] rfl rfl hcl31) ?_
    refine L_alloc [vs [], .int .i64 0, .slice none 0 0, .slice none 0 0] ze79 fun w44 b45 hl47 hu48 g46 hx49 => ?_
    have hc51 := hc17.own g46 (some b45) (oglt hl47 hu48)
    refine L_pu (P_assign (vi v2) rfl) ?_
    refine L_stb b45 0 [vs ([] : Str), vi 0, .slice none 0 0, .slice none 0 0] [vs ((nth s v2).Id), vi ((nth s v2).Shape.Kind), .slice A34 n35 c36, .slice A39 n40 c41] [vs ((nth s v2).Id), vi ((nth s v2).Shape.Kind), .slice A34 n35 c36, .slice A39 n40 c41] rfl hx49 rfl sz79 rfl rfl rfl fun w52 g53 hx54 => ?_
    have hc55 := hc51.wr 0 rfl g53
    refine L_nil ?_
    refine W_seq ?_
    refine W_draw (fun x => Gr w52 x none) (by kernel_rfl) (by kernel_rfl) (Gr.drew _) ?_
    refine Q_pu (P_lda ag79 sz79 cQ ⟨b45, 0, none⟩ [vs ((nth s v2).Id), vi ((nth s v2).Shape.Kind), .slice A34 n35 c36, .slice A39 n40 c41] rfl rfl (hx54.cells (off := 0) rfl)) ?_
    have h56 := ((h37.st (.own _ _ g46 (oge hl47))).st (.wl (L := [some b45]) (O := O) (j := 0) rfl g53))
    have h57 := ((h42.st (.own _ _ g46 (oge hl47))).st (.wl (L := [some b45]) (O := O) (j := 0) rfl g53))
    obtain ⟨q, hE63, H⟩ := H
    refine Q_call go79 [.agg #[vs ((nth s v2).Id), vi ((nth s v2).Shape.Kind), .slice A34 n35 c36, .slice A39 n40 c41]] rfl (vb q) (fun w g => (impl_FeatOk.calls w (hc55.k0 g).ok (nth s v2) A34 n35 c36 A39 n40 c41 hs33 (h56.st (.new _ g)) (h57.st (.new _ g)) _ hE63).mono ?_) ?_
    · rintro _ w ⟨r, rfl, rfl, g2⟩
      exact ⟨rfl, Gr.t0 g g2⟩
    refine Q_pu (P_not q rfl) ?_
    refine Q_pu (P_move (vb (!q)) rfl) ?_
    rcases bool_or (!q) with hq65 | hq65
    · have H := ite_t H hq65
      refine Q_pass (dj := 15) rfl rfl (.inl (by exact congrArg Value.bool hq65)) ?_
      refine Q_pass (dj := 15) rfl rfl (.inl (by exact congrArg Value.bool hq65)) ?_
      refine Q_pass (dj := 15) rfl rfl (.inl (by exact congrArg Value.bool hq65)) ?_
      refine Q_pass (dj := 18) rfl rfl (.inr rfl) ?_
      refine Q_pass (dj := 18) rfl rfl (.inr rfl) ?_
      refine Q_pass (dj := 18) rfl rfl (.inr rfl) ?_
      refine Q_pass (dj := 18) rfl rfl (.inr rfl) ?_
      refine Q_pass (dj := 18) rfl rfl (.inr rfl) ?_
      refine Q_pass (dj := 18) rfl rfl (.inr rfl) ?_
      refine Q_pass (dj := 18) rfl rfl (.inr rfl) ?_
      refine Q_pass (dj := 18) rfl rfl (.inr rfl) ?_
      refine Q_pass (dj := 18) rfl rfl (.inr rfl) ?_
      refine Q_pass (dj := 15) rfl rfl (.inl (by exact congrArg Value.bool hq65)) ?_
      refine Q_pu (P_pick true (vb true) (by exact congrArg Value.bool hq65) rfl) ?_
      refine Q_nil fun w66 g67 => ?_
      have hc69 := hc55.k0 g67
      refine W_ct (b := true) rfl rfl ?_
      refine W_seq ?_
      refine W_reg ?_
      refine L_pu (P_assign (vb false) rfl) ?_
      refine L_nil ?_
      refine W_ret ?_
      have hc70 := hc69.drop 0 rfl
      exact ⟨[vb false], ⟨_, rfl, rfl⟩, false, rfl, H, hc70.gr⟩
    · have H := ite_f H hq65
      refine Q_run (dj := 15) rfl rfl (by exact congrArg Value.bool hq65) ?_
      refine Q_pu (P_move (vi v2) rfl) ?_
      refine Q_run (dj := 15) rfl rfl (by exact congrArg Value.bool hq65) ?_
      refine Q_pu (P_cmp v2 0 (decide (v2 > 0)) rfl rfl rfl) ?_
      refine Q_run (dj := 15) rfl rfl (by exact congrArg Value.bool hq65) ?_
      refine Q_pu (P_move (vb (decide (v2 > 0))) rfl) ?_
      rcases bool_or (decide (v2 > 0)) with hq71 | hq71
      · have H := ite_t H hq71
        refine Q_run (dj := 18) rfl rfl (by exact congrArg Value.bool hq71) ?_
        refine Q_pu (P_move (.slice A1 n2 c3) rfl) ?_
        refine Q_run (dj := 18) rfl rfl (by exact congrArg Value.bool hq71) ?_
        refine Q_pu (P_move (vi v2) rfl) ?_
        refine Q_run (dj := 18) rfl rfl (by exact congrArg Value.bool hq71) ?_
        obtain ⟨hb72, H⟩ := H
        refine Q_pu (P_sub v2 1 rfl rfl hb72) ?_
        refine Q_run (dj := 18) rfl rfl (by exact congrArg Value.bool hq71) ?_
        obtain ⟨hb73, H⟩ := H
        have h80 := ((h18.st (.own _ _ g46 (oge hl47))).st (.wl (L := [some b45]) (O := O) (j := 0) rfl g53))
        obtain ⟨ad74, cs75, hA76, hS79, hR77, hcl78⟩ := h80.get default (by decide) (v2 - 1) hb73
        obtain ⟨A82, n83, c84, A87, n88, c89, rfl, hs81, h85, h90⟩ := kFeat.op hR77
        refine Q_pu (P_ia Try.underlying91 se91 A1 ad74 n2 c3 h80.len (v2 - 1) rfl hA76 rfl hb73) ?_
        refine Q_run (dj := 18) rfl rfl (by exact congrArg Value.bool hq71) ?_
        refine Q_pu (P_fa fa79_0 (ad74.add ((v2 - 1).toNat * 4)) ((ad74.add ((v2 - 1).toNat * 4)).add 0) rfl rfl) ?_
        refine Q_run (dj := 18) rfl rfl (by exact congrArg Value.bool hq71) ?_
        refine Q_pu (P_ld ag9 cQ ((ad74.add ((v2 - 1).toNat * 4)).add 0) (vs ((nth s (v2 - 1)).Id)) rfl (hcl78 0 _ rfl)) ?_
        refine Q_run (dj := 18) rfl rfl (by exact congrArg Value.bool hq71) ?_
        refine Q_pu (P_fa fa79_0 ⟨b45, 0, none⟩ ⟨b45, 0, none⟩ rfl rfl) ?_
        refine Q_run (dj := 18) rfl rfl (by exact congrArg Value.bool hq71) ?_
        refine Q_pu (P_ld ag9 cQ ⟨b45, 0, none⟩ (vs ((nth s v2).Id)) rfl (hx54.cell rfl)) ?_
        refine Q_run (dj := 18) rfl rfl (by exact congrArg Value.bool hq71) ?_
        refine Q_pu (P_scmp ((nth s (v2 - 1)).Id) ((nth s v2).Id) (!(Op.bytesLess ((nth s (v2 - 1)).Id) ((nth s v2).Id))) rfl rfl rfl) ?_
        refine Q_run (dj := 15) rfl rfl (by exact congrArg Value.bool hq65) ?_
        refine Q_pu (P_pick true (vb (!(Op.bytesLess ((nth s (v2 - 1)).Id) ((nth s v2).Id)))) (by exact congrArg Value.bool hq71) rfl) ?_
        refine Q_pu (P_pick false (vb (!(Op.bytesLess ((nth s (v2 - 1)).Id) ((nth s v2).Id)))) (by exact congrArg Value.bool hq65) rfl) ?_
        refine Q_nil fun w92 g93 => ?_
        have hc95 := hc55.k0 g93
        refine W_cond (!(Op.bytesLess ((nth s (v2 - 1)).Id) ((nth s v2).Id))) rfl (fun hq96 => ?_) (fun hq96 => ?_)
        · have H := ite_t H hq96
          refine W_seq ?_
          refine W_reg ?_
          refine L_pu (P_assign (vb false) rfl) ?_
          refine L_nil ?_
          refine W_ret ?_
          have hc97 := hc95.drop 0 rfl
          exact ⟨[vb false], ⟨_, rfl, rfl⟩, false, rfl, H, hc97.gr⟩
        · have H := ite_f H hq96
          refine W_skip ?_
          refine W_reg ?_
          obtain ⟨hb98, H⟩ := H
          refine L_pu (P_add v2 1 rfl rfl hb98) ?_
          refine L_pu (P_move (vi (v2 + 1)) rfl) ?_
          refine L_nil ?_
          have hc99 := hc95.drop 0 rfl
          obtain ⟨hI100, hm101⟩ := H
          have h102 := ((h80.st (.new _ g93)).st (.dr _ (L := [some b45]) (O := O) (j := 0) rfl))
          exact ⟨v2 + 1, hm101, hI100, ⟨rfl, rfl, rfl, rfl, trivial⟩, hc99, h102⟩
      · have H := ite_f H hq71
        refine Q_pass (dj := 18) rfl rfl (.inl (by exact congrArg Value.bool hq71)) ?_
        refine Q_pass (dj := 18) rfl rfl (.inl (by exact congrArg Value.bool hq71)) ?_
        refine Q_pass (dj := 18) rfl rfl (.inl (by exact congrArg Value.bool hq71)) ?_
        refine Q_pass (dj := 18) rfl rfl (.inl (by exact congrArg Value.bool hq71)) ?_
        refine Q_pass (dj := 18) rfl rfl (.inl (by exact congrArg Value.bool hq71)) ?_
        refine Q_pass (dj := 18) rfl rfl (.inl (by exact congrArg Value.bool hq71)) ?_
        refine Q_pass (dj := 18) rfl rfl (.inl (by exact congrArg Value.bool hq71)) ?_
        refine Q_pass (dj := 18) rfl rfl (.inl (by exact congrArg Value.bool hq71)) ?_
        refine Q_pass (dj := 18) rfl rfl (.inl (by exact congrArg Value.bool hq71)) ?_
        refine Q_run (dj := 15) rfl rfl (by exact congrArg Value.bool hq65) ?_
        refine Q_pu (P_pick false (vb false) (by exact congrArg Value.bool hq71) rfl) ?_
        refine Q_pu (P_pick false (vb false) (by exact congrArg Value.bool hq65) rfl) ?_
        refine Q_nil fun w103 g104 => ?_
        have hc106 := hc55.k0 g104
        refine W_cf (b := false) rfl rfl ?_
        refine W_skip ?_
        refine W_reg ?_
        obtain ⟨hb107, H⟩ := H
        refine L_pu (P_add v2 1 rfl rfl hb107) ?_
        refine L_pu (P_move (vi (v2 + 1)) rfl) ?_
        refine L_nil ?_
        have hc108 := hc106.drop 0 rfl
        obtain ⟨hI109, hm110⟩ := H
        have h111 := ((((h18.st (.own _ _ g46 (oge hl47))).st (.wl (L := [some b45]) (O := O) (j := 0) rfl g53)).st (.new _ g104)).st (.dr _ (L := [some b45]) (O := O) (j := 0) rfl))
        exact ⟨v2 + 1, hm110, hI109, ⟨rfl, rfl, rfl, rfl, trivial⟩, hc108, h111⟩
  · have H := ite_f H hq25
    refine W_exit (xin_hit ?_)
    refine W_seq ?_
    refine W_reg ?_
    refine L_pu (P_move (.slice A1 n2 c3) rfl) ?_
    have hl112 := h18.le
    refine L_pu (P_len Try.underlying91 A1 n2 c3 h18.len rfl) ?_
    refine L_pu (P_cmp (s.length : Int) 8 (decide ((s.length : Int) ≤ 8)) rfl rfl rfl) ?_
    refine L_pu (P_assign (vb (decide ((s.length : Int) ≤ 8))) rfl) ?_
    refine L_nil ?_
    refine W_ret ?_
    exact ⟨[vb (decide ((s.length : Int) ≤ 8))], ⟨_, rfl, rfl⟩, decide ((s.length : Int) ≤ 8), rfl, H, hc17.gr⟩
end Go.Proofs.Ythkeboifjlnjjaa

namespace Go.Proofs.Ythkeboifjlnjjaa
set_option linter.unusedVariables false
set_option linter.unusedSimpArgs false
set_option linter.unusedSectionVars false
theorem impl_SheetOk.law (d : List Feat) (Q : Bool → Prop) (hb : bulk d ≤ 1048576) (hq : Q (sheetOk d)) : impl_SheetOk.E d Q := by
  unfold impl_SheetOk.E
  unfold sheetOk at hq
  have hl := bulk_len d
  refine loop_all d.length (fun k => featOk (nth d (k : Int)) && (decide (k = 0) || Op.bytesLess (nth d ((k : Int) - 1)).Id (nth d (k : Int)).Id)) (fun I mu k hk hp hn => ?_) (fun ha => ?_)
  · have bad : (featOk (nth d (k : Int)) && (decide (k = 0) || Op.bytesLess (nth d ((k : Int) - 1)).Id (nth d (k : Int)).Id)) = false → Q false := fun h => by
      rw [allN_false hk h, Bool.false_and] at hq; exact hq
    have m1 := bulk_mem (nth_mem d hk)
    refine ⟨by omega, _, impl_FeatOk.law _ _ (by omega) rfl, ?_⟩
    cases h1 : featOk (nth d (k : Int)) with
    | false => rw [if_pos (by decide)]; exact bad (by rw [h1]; rfl)
    | true =>
      rw [if_neg (by decide)]
      by_cases hk0 : k = 0
      · rw [if_neg (by rw [decide_eq_true_eq]; omega)]
        obtain ⟨i1, i2⟩ := hn (by rw [h1, decide_eq_true hk0]; rfl)
        exact ⟨by unfold I64; omega, i1, i2⟩
      · rw [if_pos (by rw [decide_eq_true_eq]; omega)]
        refine ⟨by unfold I64; omega, by omega, ?_⟩
        cases h3 : Op.bytesLess (nth d ((k : Int) - 1)).Id (nth d (k : Int)).Id with
        | false => rw [if_pos (by decide)]; exact bad (by rw [h3, h1, decide_eq_false hk0]; rfl)
        | true =>
          rw [if_neg (by decide)]
          obtain ⟨i1, i2⟩ := hn (by rw [h3, h1, decide_eq_false hk0]; rfl)
          exact ⟨by unfold I64; omega, i1, i2⟩
  · rw [allN_true ha, Bool.true_and] at hq
    have e2 : decide ((d.length : Int) ≤ 8) = decide (d.length ≤ 8) := decide_eq_decide.2 (by omega)
    rw [e2]; exact hq
end Go.Proofs.Ythkeboifjlnjjaa

namespace Go.Proofs.Ythkeboifjlnjjaa
open Go.RowKit
set_option linter.unusedVariables false
def slices_Equal_int.E (s1 : List Int) (s2 : List Int) (Q : Bool → Prop) : Prop :=
  (if (s1.length : Int) != (s2.length : Int) then Q false else (∃ (I32 : Int → Prop) (mu33 : Int → Nat), I32 0 ∧ ∀ (v2 : Int), I32 v2 → (if decide (v2 < (s1.length : Int)) then ((0 : Int) ≤ v2 ∧ v2 < (s1.length : Int)) ∧ ((0 : Int) ≤ v2 ∧ v2 < (s2.length : Int)) ∧ (if (nth s1 v2) != (nth s2 v2) then Q false else (I64 (v2 + 1)) ∧ I32 (v2 + 1) ∧ mu33 (v2 + 1) < mu33 v2) else Q true)))
set_option maxHeartbeats 8000000 in
set_option maxRecDepth 100000 in
theorem slices_Equal_int.calls {O : Ob} (w0 : World) (hO : Ok w0 O) (s1 : List Int) (A1 : Option Addr) (n2 c3 : Nat) (hp4 : Sl (Kd.int .i64) w0 (Fr O) (.slice A1 n2 c3) s1) (s2 : List Int) (A6 : Option Addr) (n7 c8 : Nat) (hp9 : Sl (Kd.int .i64) w0 (Fr O) (.slice A6 n7 c8) s2) (Q : Bool → Prop) (h : slices_Equal_int.E s1 s2 Q) :
    Ret Try.prog 88 [.slice A1 n2 c3, .slice A6 n7 c8] w0 (fun v w' => ∃ (r0 : Bool), v = vb r0 ∧ Q r0 ∧ Gr w0 w' none) := by
  have H : (if (s1.length : Int) != (s2.length : Int) then Q false else (∃ (I32 : Int → Prop) (mu33 : Int → Nat), I32 0 ∧ ∀ (v2 : Int), I32 v2 → (if decide (v2 < (s1.length : Int)) then ((0 : Int) ≤ v2 ∧ v2 < (s1.length : Int)) ∧ ((0 : Int) ≤ v2 ∧ v2 < (s2.length : Int)) ∧ (if (nth s1 v2) != (nth s2 v2) then Q false else (I64 (v2 + 1)) ∧ I32 (v2 + 1) ∧ mu33 (v2 + 1) < mu33 v2) else Q true))) := h
  clear h
  have hc0 := Ct.init hO
  refine Ret_enter Try.func88 rfl 26 rfl [.tmp 4] rfl rfl ?_
  refine W_seq ?_
  refine W_reg ?_
  refine L_pu (P_assign (vb false) rfl) ?_
  refine L_nil ?_
  refine W_seq ?_
  refine W_seq ?_
  refine W_reg ?_
  refine L_pu (P_move (.slice A1 n2 c3) rfl) ?_
  have hl11 := hp4.le
  refine L_pu (P_len Try.underlying90 A1 n2 c3 hp4.len rfl) ?_
  refine L_pu (P_move (.slice A6 n7 c8) rfl) ?_
  have hl12 := hp9.le
  refine L_pu (P_len Try.underlying90 A6 n7 c8 hp9.len rfl) ?_
  refine L_pu (P_cmp (s1.length : Int) (s2.length : Int) ((s1.length : Int) != (s2.length : Int)) rfl rfl rfl) ?_
  refine L_nil ?_
  refine W_cond ((s1.length : Int) != (s2.length : Int)) rfl (fun hq13 => ?_) (fun hq13 => ?_)
  · have H := ite_t H hq13
    refine W_seq ?_
    refine W_reg ?_
    refine L_pu (P_assign (vb false) rfl) ?_
    refine L_nil ?_
    refine W_ret ?_
    exact ⟨[vb false], ⟨_, rfl, rfl⟩, false, rfl, H, hc0.gr⟩
  · have H := ite_f H hq13
    refine W_skip ?_
    refine W_seq ?_
    refine W_seq ?_
    refine W_reg ?_
    refine L_pu (P_move (.slice A1 n2 c3) rfl) ?_
    refine L_pu (P_len Try.underlying90 A1 n2 c3 hp4.len rfl) ?_
    refine L_pu (P_move (vi 0) rfl) ?_
    refine L_nil ?_
    refine W_block ?_
    obtain ⟨I32, mu33, hI34, H⟩ := H
    refine W_loop (α := Int) (fun (sv__ : Int) t w26 => match sv__ with | v2 => I32 v2 ∧ Has t [(0, .slice A1 n2 c3), (1, .slice A6 n7 c8), (12, vi (s1.length : Int)), (13, vi v2)] ∧ Ct none w0 w26 [] O ∧ Sl (Kd.int .i64) w26 (Fr ([] ++ O)) (.slice A1 n2 c3) s1 ∧ Sl (Kd.int .i64) w26 (Fr ([] ++ O)) (.slice A6 n7 c8) s2) (fun (sv__ : Int) => match sv__ with | v2 => mu33 v2) 0 ⟨hI34, ⟨rfl, rfl, rfl, rfl, trivial⟩, hc0, hp4, hp9⟩ ?_
    rintro v2 _ w26 ⟨hI34, hh36, hc29, h30, h31⟩
    obtain ⟨u37, rfl⟩ := Has.ins hh36
    have H := H v2 hI34
    refine W_seq ?_
    refine W_reg ?_
    refine L_pu (P_cmp v2 (s1.length : Int) (decide (v2 < (s1.length : Int))) rfl rfl rfl) ?_
    refine L_nil ?_
    refine W_seq ?_
    refine W_cond (decide (v2 < (s1.length : Int))) rfl (fun hq38 => ?_) (fun hq38 => ?_)
    · have H := ite_t H hq38
      refine W_skip ?_
      refine W_seq ?_
      refine W_block ?_
      refine W_seq ?_
      refine W_reg ?_
      refine L_pu (P_move (vi v2) rfl) ?_
      refine L_pu (P_assign (vi v2) rfl) ?_
      refine L_nil ?_
      refine W_seq ?_
      refine W_draw (fun x => Gr w26 x none) (by kernel_rfl) (by kernel_rfl) (Gr.drew _) ?_
      refine Q_pu (P_move (.slice A1 n2 c3) rfl) ?_
      refine Q_pu (P_move (vi v2) rfl) ?_
      obtain ⟨hb39, H⟩ := H
      obtain ⟨ad40, cs41, hA42, hS45, hR43, hcl44⟩ := h30.get default (by decide) v2 hb39
      obtain rfl := Kd.int.op hR43
      refine Q_pu (P_ia Try.underlying90 se90 A1 ad40 n2 c3 h30.len v2 rfl hA42 rfl hb39) ?_
      refine Q_pu (P_ld ag3 cQ (ad40.add (v2.toNat * 1)) (vi (nth s1 v2)) rfl (hcl44 0 _ rfl)) ?_
      refine Q_pu (P_move (.slice A6 n7 c8) rfl) ?_
      refine Q_pu (P_move (vi v2) rfl) ?_
      obtain ⟨hb46, H⟩ := H
      obtain ⟨ad47, cs48, hA49, hS52, hR50, hcl51⟩ := h31.get default (by decide) v2 hb46
      obtain rfl := Kd.int.op hR50
      refine Q_pu (P_ia Try.underlying90 se90 A6 ad47 n7 c8 h31.len v2 rfl hA49 rfl hb46) ?_
      refine Q_pu (P_ld ag3 cQ (ad47.add (v2.toNat * 1)) (vi (nth s2 v2)) rfl (hcl51 0 _ rfl)) ?_
      refine Q_pu (P_cmp (nth s1 v2) (nth s2 v2) ((nth s1 v2) != (nth s2 v2)) rfl rfl rfl) ?_
      refine Q_nil fun w53 g54 => ?_
      have hc56 := hc29.k0 g54
      refine W_cond ((nth s1 v2) != (nth s2 v2)) rfl (fun hq57 => ?_) (fun hq57 => ?_)
      · have H := ite_t H hq57
        refine W_seq ?_
        refine W_reg ?_
        refine L_pu (P_assign (vb false) rfl) ?_
        refine L_nil ?_
        refine W_ret ?_
        exact ⟨[vb false], ⟨_, rfl, rfl⟩, false, rfl, H, hc56.gr⟩
      · have H := ite_f H hq57
        refine W_skip ?_
        refine W_reg ?_
        obtain ⟨hb58, H⟩ := H
        refine L_pu (P_add v2 1 rfl rfl hb58) ?_
        refine L_pu (P_move (vi (v2 + 1)) rfl) ?_
        refine L_nil ?_
        obtain ⟨hI59, hm60⟩ := H
        exact ⟨v2 + 1, hm60, hI59, ⟨rfl, rfl, rfl, rfl, trivial⟩, hc56, (h30.st (.new _ g54)), (h31.st (.new _ g54))⟩
    · have H := ite_f H hq38
      refine W_exit (xin_hit ?_)
      refine W_seq ?_
      refine W_reg ?_
      refine L_pu (P_assign (vb true) rfl) ?_
      refine L_nil ?_
      refine W_ret ?_
      exact ⟨[vb true], ⟨_, rfl, rfl⟩, true, rfl, H, hc29.gr⟩
end Go.Proofs.Ythkeboifjlnjjaa

namespace Go.Proofs.Ythkeboifjlnjjaa
set_option linter.unusedVariables false
set_option linter.unusedSimpArgs false
set_option linter.unusedSectionVars false
theorem slices_Equal_int.law (a b : List Int) (Q : Bool → Prop) (hb : a.length ≤ 1048576) (hq : Q (decide (a = b))) : slices_Equal_int.E a b Q := by
  unfold slices_Equal_int.E
  exact eqI_shape (fun x y => x == y) (fun x y => by by_cases h : x = y <;> simp [h]) a b Q hb hq
end Go.Proofs.Ythkeboifjlnjjaa

namespace Go.Proofs.Ythkeboifjlnjjaa
open Go.RowKit
set_option linter.unusedVariables false
def slices_EqualFunc_Feat.E (s1 : List Feat) (s2 : List Feat) (eq : Feat → Feat → Bool) (eq_ok : Feat → Feat → Prop) (Q : Bool → Prop) : Prop :=
  (if (s1.length : Int) != (s2.length : Int) then Q false else (∃ (I36 : Int → Prop) (mu37 : Int → Nat), I36 0 ∧ ∀ (v2 : Int), I36 v2 → (if decide (v2 < (s1.length : Int)) then ((0 : Int) ≤ v2 ∧ v2 < (s1.length : Int)) ∧ ((0 : Int) ≤ v2 ∧ v2 < (s2.length : Int)) ∧ (eq_ok (nth s1 v2) (nth s2 v2)) ∧ (if !(eq (nth s1 v2) (nth s2 v2)) then Q false else (I64 (v2 + 1)) ∧ I36 (v2 + 1) ∧ mu37 (v2 + 1) < mu37 v2) else Q true)))
set_option maxHeartbeats 8000000 in
set_option maxRecDepth 100000 in
theorem slices_EqualFunc_Feat.calls {O : Ob} (w0 : World) (hO : Ok w0 O) (s1 : List Feat) (A1 : Option Addr) (n2 c3 : Nat) (hp4 : Sl kFeat w0 (Fr O) (.slice A1 n2 c3) s1) (s2 : List Feat) (A6 : Option Addr) (n7 c8 : Nat) (hp9 : Sl kFeat w0 (Fr O) (.slice A6 n7 c8) s2) (fg11 : FuncId) (fc12 : List Value) (eq : Feat → Feat → Bool) (eq_ok : Feat → Feat → Prop) (hgo13 : Goes Try.prog fg11) (hf14 : ∀ (w : World) (L : Ob), Ct none w0 w L O → ∀ (x0_ : Feat) (A16 : Option Addr) (n17 c18 : Nat) (A21 : Option Addr) (n22 c23 : Nat) (hs15 : Lim x0_.Id) (hp19 : Sl kPt w (Fr (L ++ O)) (.slice A16 n17 c18) x0_.Shape.Pts) (hp24 : Sl kTag w (Fr (L ++ O)) (.slice A21 n22 c23) x0_.Tags) (x1_ : Feat) (A27 : Option Addr) (n28 c29 : Nat) (A32 : Option Addr) (n33 c34 : Nat) (hs26 : Lim x1_.Id) (hp30 : Sl kPt w (Fr (L ++ O)) (.slice A27 n28 c29) x1_.Shape.Pts) (hp35 : Sl kTag w (Fr (L ++ O)) (.slice A32 n33 c34) x1_.Tags), eq_ok x0_ x1_ → Ret Try.prog fg11 ([.agg #[vs x0_.Id, vi x0_.Shape.Kind, .slice A16 n17 c18, .slice A21 n22 c23], .agg #[vs x1_.Id, vi x1_.Shape.Kind, .slice A27 n28 c29, .slice A32 n33 c34]] ++ fc12) w (fun v w' => v = vb (eq x0_ x1_) ∧ Gr w w' none)) (Q : Bool → Prop) (h : slices_EqualFunc_Feat.E s1 s2 eq eq_ok Q) :
    Ret Try.prog 116 [.slice A1 n2 c3, .slice A6 n7 c8, .func (.func fg11) #[] fc12.toArray] w0 (fun v w' => ∃ (r0 : Bool), v = vb r0 ∧ Q r0 ∧ Gr w0 w' none) := by
  have H : (if (s1.length : Int) != (s2.length : Int) then Q false else (∃ (I36 : Int → Prop) (mu37 : Int → Nat), I36 0 ∧ ∀ (v2 : Int), I36 v2 → (if decide (v2 < (s1.length : Int)) then ((0 : Int) ≤ v2 ∧ v2 < (s1.length : Int)) ∧ ((0 : Int) ≤ v2 ∧ v2 < (s2.length : Int)) ∧ (eq_ok (nth s1 v2) (nth s2 v2)) ∧ (if !(eq (nth s1 v2) (nth s2 v2)) then Q false else (I64 (v2 + 1)) ∧ I36 (v2 + 1) ∧ mu37 (v2 + 1) < mu37 v2) else Q true))) := h
  clear h
  have hc0 := Ct.init hO
  refine Ret_enter Try.func116 rfl 32 rfl [.tmp 6] rfl rfl ?_
  refine W_seq ?_
  refine W_reg ?_
  refine L_pu (P_assign (vb false) rfl) ?_
  refine L_nil ?_
  refine W_seq ?_
  refine W_seq ?_
  refine W_reg ?_
  refine L_pu (P_move (.slice A1 n2 c3) rfl) ?_
  have hl15 := hp4.le
  refine L_pu (P_len Try.underlying91 A1 n2 c3 hp4.len rfl) ?_
  refine L_pu (P_move (.slice A6 n7 c8) rfl) ?_
  have hl16 := hp9.le
  refine L_pu (P_len Try.underlying91 A6 n7 c8 hp9.len rfl) ?_
  refine L_pu (P_cmp (s1.length : Int) (s2.length : Int) ((s1.length : Int) != (s2.length : Int)) rfl rfl rfl) ?_
  refine L_nil ?_
  refine W_cond ((s1.length : Int) != (s2.length : Int)) rfl (fun hq17 => ?_) (fun hq17 => ?_)
  · have H := ite_t H hq17
    refine W_seq ?_
    refine W_reg ?_
    refine L_pu (P_assign (vb false) rfl) ?_
    refine L_nil ?_
    refine W_ret ?_
    exact ⟨[vb false], ⟨_, rfl, rfl⟩, false, rfl, H, hc0.gr⟩
  · have H := ite_f H hq17
    refine W_skip ?_
    refine W_seq ?_
    refine W_seq ?_
    refine W_reg ?_
    refine L_pu (P_move (.slice A1 n2 c3) rfl) ?_
    refine L_pu (P_len Try.underlying91 A1 n2 c3 hp4.len rfl) ?_
    refine L_pu (P_move (vi 0) rfl) ?_
    refine L_nil ?_
    refine W_block ?_
    obtain ⟨I36, mu37, hI38, H⟩ := H
    refine W_loop (α := Int) (fun (sv__ : Int) t w30 => match sv__ with | v2 => I36 v2 ∧ Has t [(1, .slice A6 n7 c8), (2, .func (.func fg11) #[] fc12.toArray), (15, .slice A1 n2 c3), (16, vi (s1.length : Int)), (17, vi v2)] ∧ Ct none w0 w30 [] O ∧ Sl kFeat w30 (Fr ([] ++ O)) (.slice A6 n7 c8) s2 ∧ Sl kFeat w30 (Fr ([] ++ O)) (.slice A1 n2 c3) s1) (fun (sv__ : Int) => match sv__ with | v2 => mu37 v2) 0 ⟨hI38, ⟨rfl, rfl, rfl, rfl, rfl, trivial⟩, hc0, hp9, hp4⟩ ?_
    rintro v2 _ w30 ⟨hI38, hh40, hc33, h34, h35⟩
    obtain ⟨u41, rfl⟩ := Has.ins hh40
    have H := H v2 hI38
    refine W_seq ?_
    refine W_reg ?_
    refine L_pu (P_cmp v2 (s1.length : Int) (decide (v2 < (s1.length : Int))) rfl rfl rfl) ?_
    refine L_nil ?_
    refine W_seq ?_
    refine W_cond (decide (v2 < (s1.length : Int))) rfl (fun hq42 => ?_) (fun hq42 => ?_)
    · have H := ite_t H hq42
      refine W_skip ?_
      refine W_seq ?_
      refine W_block ?_
      refine W_seq ?_
      refine W_reg ?_
      refine L_pu (P_move (vi v2) rfl) ?_
      obtain ⟨hb43, H⟩ := H
      obtain ⟨ad44, cs45, hA46, hS49, hR47, hcl48⟩ := h35.get default (by decide) v2 hb43
      obtain ⟨A51, n52, c53, A56, n57, c58, rfl, hs50, h54, h59⟩ := kFeat.op hR47
      refine L_pu (P_ia Try.underlying91 se91 A1 ad44 n2 c3 h35.len v2 rfl hA46 rfl hb43) ?_
      refine L_pu (P_lda ag79 sz79 cL (ad44.add (v2.toNat * 4)) [vs ((nth s1 v2).Id), vi ((nth s1 v2).Shape.Kind), .slice A51 n52 c53, .slice A56 n57 c58] rfl rfl hcl48) ?_
      refine L_alloc [vs [], .int .i64 0, .slice none 0 0, .slice none 0 0] ze79 fun w61 b62 hl64 hu65 g63 hx66 => ?_
      have hc68 := hc33.own g63 (some b62) (oglt hl64 hu65)
      refine L_pu (P_assign (vi v2) rfl) ?_
      refine L_stb b62 0 [vs ([] : Str), vi 0, .slice none 0 0, .slice none 0 0] [vs ((nth s1 v2).Id), vi ((nth s1 v2).Shape.Kind), .slice A51 n52 c53, .slice A56 n57 c58] [vs ((nth s1 v2).Id), vi ((nth s1 v2).Shape.Kind), .slice A51 n52 c53, .slice A56 n57 c58] rfl hx66 rfl sz79 rfl rfl rfl fun w69 g70 hx71 => ?_
      have hc72 := hc68.wr 0 rfl g70
      refine L_nil ?_
      refine W_seq ?_
      refine W_reg ?_
      refine L_pu (P_move (.slice A6 n7 c8) rfl) ?_
      refine L_pu (P_move (vi v2) rfl) ?_
      obtain ⟨hb73, H⟩ := H
      have h80 := ((h34.st (.own _ _ g63 (oge hl64))).st (.wl (L := [some b62]) (O := O) (j := 0) rfl g70))
      obtain ⟨ad74, cs75, hA76, hS79, hR77, hcl78⟩ := h80.get default (by decide) v2 hb73
      obtain ⟨A82, n83, c84, A87, n88, c89, rfl, hs81, h85, h90⟩ := kFeat.op hR77
      refine L_pu (P_ia Try.underlying91 se91 A6 ad74 n7 c8 h80.len v2 rfl hA76 rfl hb73) ?_
      refine L_pu (P_lda ag79 sz79 cL (ad74.add (v2.toNat * 4)) [vs ((nth s2 v2).Id), vi ((nth s2 v2).Shape.Kind), .slice A82 n83 c84, .slice A87 n88 c89] rfl rfl hcl78) ?_
      refine L_alloc [vs [], .int .i64 0, .slice none 0 0, .slice none 0 0] ze79 fun w92 b93 hl95 hu96 g94 hx97 => ?_
      have hc99 := hc72.own g94 (some b93) (oglt hl95 hu96)
      refine L_stb b93 0 [vs ([] : Str), vi 0, .slice none 0 0, .slice none 0 0] [vs ((nth s2 v2).Id), vi ((nth s2 v2).Shape.Kind), .slice A82 n83 c84, .slice A87 n88 c89] [vs ((nth s2 v2).Id), vi ((nth s2 v2).Shape.Kind), .slice A82 n83 c84, .slice A87 n88 c89] rfl hx97 rfl sz79 rfl rfl rfl fun w100 g101 hx102 => ?_
      have hc103 := hc99.wr 0 rfl g101
      refine L_nil ?_
      refine W_seq ?_
      refine W_reg ?_
      refine L_pu (P_move (.func (.func fg11) #[] fc12.toArray) rfl) ?_
      have h104 := (Bx.sm (L := [some b93, some b62]) (O := O) (hx71.k0 g94) hc99 (i := 1) rfl (j := 0) rfl (by decide) g101)
      refine L_pu (P_lda ag79 sz79 cL ⟨b62, 0, none⟩ [vs ((nth s1 v2).Id), vi ((nth s1 v2).Shape.Kind), .slice A51 n52 c53, .slice A56 n57 c58] rfl rfl (h104.cells (off := 0) rfl)) ?_
      refine L_pu (P_lda ag79 sz79 cL ⟨b93, 0, none⟩ [vs ((nth s2 v2).Id), vi ((nth s2 v2).Shape.Kind), .slice A82 n83 c84, .slice A87 n88 c89] rfl rfl (hx102.cells (off := 0) rfl)) ?_
      obtain ⟨hb105, H⟩ := H
      have h109 := ((((h54.st (.own _ _ g63 (oge hl64))).st (.wl (L := [some b62]) (O := O) (j := 0) rfl g70)).st (.own _ _ g94 (oge hl95))).st (.wl (L := [some b93, some b62]) (O := O) (j := 0) rfl g101))
      have h110 := ((((h59.st (.own _ _ g63 (oge hl64))).st (.wl (L := [some b62]) (O := O) (j := 0) rfl g70)).st (.own _ _ g94 (oge hl95))).st (.wl (L := [some b93, some b62]) (O := O) (j := 0) rfl g101))
      have h111 := ((h85.st (.own _ _ g94 (oge hl95))).st (.wl (L := [some b93, some b62]) (O := O) (j := 0) rfl g101))
      have h112 := ((h90.st (.own _ _ g94 (oge hl95))).st (.wl (L := [some b93, some b62]) (O := O) (j := 0) rfl g101))
      refine L_callv hgo13 fc12 rfl [.agg #[vs ((nth s1 v2).Id), vi ((nth s1 v2).Shape.Kind), .slice A51 n52 c53, .slice A56 n57 c58], .agg #[vs ((nth s2 v2).Id), vi ((nth s2 v2).Shape.Kind), .slice A82 n83 c84, .slice A87 n88 c89]] rfl ((hf14 w100 [some b93, some b62] hc103 (nth s1 v2) A51 n52 c53 A56 n57 c58 hs50 h109 h110 (nth s2 v2) A82 n83 c84 A87 n88 c89 hs81 h111 h112 hb105).mono ?_)
      rintro _ w106 ⟨rfl, g107⟩
      have hc113 := hc103.k0 g107
      refine L_pu (P_not (eq (nth s1 v2) (nth s2 v2)) rfl) ?_
      refine L_nil ?_
      refine W_cond (!(eq (nth s1 v2) (nth s2 v2))) rfl (fun hq114 => ?_) (fun hq114 => ?_)
      · have H := ite_t H hq114
        refine W_seq ?_
        refine W_reg ?_
        refine L_pu (P_assign (vb false) rfl) ?_
        refine L_nil ?_
        refine W_ret ?_
        have hc115 := hc113.drop 0 rfl
        have hc116 := hc115.drop 0 rfl
        exact ⟨[vb false], ⟨_, rfl, rfl⟩, false, rfl, H, hc116.gr⟩
      · have H := ite_f H hq114
        refine W_skip ?_
        refine W_reg ?_
        obtain ⟨hb117, H⟩ := H
        refine L_pu (P_add v2 1 rfl rfl hb117) ?_
        refine L_pu (P_move (vi (v2 + 1)) rfl) ?_
        refine L_nil ?_
        have hc118 := hc113.drop 0 rfl
        have hc119 := hc118.drop 0 rfl
        obtain ⟨hI120, hm121⟩ := H
        have h122 := (((((h80.st (.own _ _ g94 (oge hl95))).st (.wl (L := [some b93, some b62]) (O := O) (j := 0) rfl g101)).st (.new _ g107)).st (.dr _ (L := [some b93, some b62]) (O := O) (j := 0) rfl)).st (.dr _ (L := [some b62]) (O := O) (j := 0) rfl))
        have h123 := (((((((h35.st (.own _ _ g63 (oge hl64))).st (.wl (L := [some b62]) (O := O) (j := 0) rfl g70)).st (.own _ _ g94 (oge hl95))).st (.wl (L := [some b93, some b62]) (O := O) (j := 0) rfl g101)).st (.new _ g107)).st (.dr _ (L := [some b93, some b62]) (O := O) (j := 0) rfl)).st (.dr _ (L := [some b62]) (O := O) (j := 0) rfl))
        exact ⟨v2 + 1, hm121, hI120, ⟨rfl, rfl, rfl, rfl, rfl, trivial⟩, hc119, h122, h123⟩
    · have H := ite_f H hq42
      refine W_exit (xin_hit ?_)
      refine W_seq ?_
      refine W_reg ?_
      refine L_pu (P_assign (vb true) rfl) ?_
      refine L_nil ?_
      refine W_ret ?_
      exact ⟨[vb true], ⟨_, rfl, rfl⟩, true, rfl, H, hc33.gr⟩
end Go.Proofs.Ythkeboifjlnjjaa

namespace Go.Proofs.Ythkeboifjlnjjaa
set_option linter.unusedVariables false
set_option linter.unusedSimpArgs false
set_option linter.unusedSectionVars false
theorem slices_EqualFunc_Feat.law (a b : List Feat) (el : Feat → Feat → Bool) (ok : Feat → Feat → Prop) (Q : Bool → Prop) (hb : a.length ≤ 1048576) (hok : ∀ x y, x ∈ a → ok x y) (hel : ∀ x y, x ∈ a → el x y = decide (x = y)) (hq : Q (decide (a = b))) : slices_EqualFunc_Feat.E a b el ok Q := by
  unfold slices_EqualFunc_Feat.E
  exact eqF_shape a b el ok hok hel hb Q hq
end Go.Proofs.Ythkeboifjlnjjaa

namespace Go.Proofs.Ythkeboifjlnjjaa
open Go.RowKit
set_option linter.unusedVariables false
def slices_Equal_Pt.E (s1 : List Pt) (s2 : List Pt) (Q : Bool → Prop) : Prop :=
  (if (s1.length : Int) != (s2.length : Int) then Q false else (∃ (I32 : Int → Prop) (mu33 : Int → Nat), I32 0 ∧ ∀ (v2 : Int), I32 v2 → (if decide (v2 < (s1.length : Int)) then ((0 : Int) ≤ v2 ∧ v2 < (s1.length : Int)) ∧ ((0 : Int) ≤ v2 ∧ v2 < (s2.length : Int)) ∧ (if !(eqPt (nth s1 v2) (nth s2 v2)) then Q false else (I64 (v2 + 1)) ∧ I32 (v2 + 1) ∧ mu33 (v2 + 1) < mu33 v2) else Q true)))
set_option maxHeartbeats 8000000 in
set_option maxRecDepth 100000 in
theorem slices_Equal_Pt.calls {O : Ob} (w0 : World) (hO : Ok w0 O) (s1 : List Pt) (A1 : Option Addr) (n2 c3 : Nat) (hp4 : Sl kPt w0 (Fr O) (.slice A1 n2 c3) s1) (s2 : List Pt) (A6 : Option Addr) (n7 c8 : Nat) (hp9 : Sl kPt w0 (Fr O) (.slice A6 n7 c8) s2) (Q : Bool → Prop) (h : slices_Equal_Pt.E s1 s2 Q) :
    Ret Try.prog 35 [.slice A1 n2 c3, .slice A6 n7 c8] w0 (fun v w' => ∃ (r0 : Bool), v = vb r0 ∧ Q r0 ∧ Gr w0 w' none) := by
  have H : (if (s1.length : Int) != (s2.length : Int) then Q false else (∃ (I32 : Int → Prop) (mu33 : Int → Nat), I32 0 ∧ ∀ (v2 : Int), I32 v2 → (if decide (v2 < (s1.length : Int)) then ((0 : Int) ≤ v2 ∧ v2 < (s1.length : Int)) ∧ ((0 : Int) ≤ v2 ∧ v2 < (s2.length : Int)) ∧ (if !(eqPt (nth s1 v2) (nth s2 v2)) then Q false else (I64 (v2 + 1)) ∧ I32 (v2 + 1) ∧ mu33 (v2 + 1) < mu33 v2) else Q true))) := h
  clear h
  have hc0 := Ct.init hO
  refine Ret_enter Try.func35 rfl 26 rfl [.tmp 4] rfl rfl ?_
  refine W_seq ?_
  refine W_reg ?_
  refine L_pu (P_assign (vb false) rfl) ?_
  refine L_nil ?_
  refine W_seq ?_
  refine W_seq ?_
  refine W_reg ?_
  refine L_pu (P_move (.slice A1 n2 c3) rfl) ?_
  have hl11 := hp4.le
  refine L_pu (P_len Try.underlying23 A1 n2 c3 hp4.len rfl) ?_
  refine L_pu (P_move (.slice A6 n7 c8) rfl) ?_
  have hl12 := hp9.le
  refine L_pu (P_len Try.underlying23 A6 n7 c8 hp9.len rfl) ?_
  refine L_pu (P_cmp (s1.length : Int) (s2.length : Int) ((s1.length : Int) != (s2.length : Int)) rfl rfl rfl) ?_
  refine L_nil ?_
  refine W_cond ((s1.length : Int) != (s2.length : Int)) rfl (fun hq13 => ?_) (fun hq13 => ?_)
  · have H := ite_t H hq13
    refine W_seq ?_
    refine W_reg ?_
    refine L_pu (P_assign (vb false) rfl) ?_
    refine L_nil ?_
    refine W_ret ?_
    exact ⟨[vb false], ⟨_, rfl, rfl⟩, false, rfl, H, hc0.gr⟩
  · have H := ite_f H hq13
    refine W_skip ?_
    refine W_seq ?_
    refine W_seq ?_
    refine W_reg ?_
    refine L_pu (P_move (.slice A1 n2 c3) rfl) ?_
    refine L_pu (P_len Try.underlying23 A1 n2 c3 hp4.len rfl) ?_
    refine L_pu (P_move (vi 0) rfl) ?_
    refine L_nil ?_
    refine W_block ?_
    obtain ⟨I32, mu33, hI34, H⟩ := H
    refine W_loop (α := Int) (fun (sv__ : Int) t w26 => match sv__ with | v2 => I32 v2 ∧ Has t [(0, .slice A1 n2 c3), (1, .slice A6 n7 c8), (12, vi (s1.length : Int)), (13, vi v2)] ∧ Ct none w0 w26 [] O ∧ Sl kPt w26 (Fr ([] ++ O)) (.slice A1 n2 c3) s1 ∧ Sl kPt w26 (Fr ([] ++ O)) (.slice A6 n7 c8) s2) (fun (sv__ : Int) => match sv__ with | v2 => mu33 v2) 0 ⟨hI34, ⟨rfl, rfl, rfl, rfl, trivial⟩, hc0, hp4, hp9⟩ ?_
    rintro v2 _ w26 ⟨hI34, hh36, hc29, h30, h31⟩
    obtain ⟨u37, rfl⟩ := Has.ins hh36
    have H := H v2 hI34
    refine W_seq ?_
    refine W_reg ?_
    refine L_pu (P_cmp v2 (s1.length : Int) (decide (v2 < (s1.length : Int))) rfl rfl rfl) ?_
    refine L_nil ?_
    refine W_seq ?_
    refine W_cond (decide (v2 < (s1.length : Int))) rfl (fun hq38 => ?_) (fun hq38 => ?_)
    · have H := ite_t H hq38
      refine W_skip ?_
      refine W_seq ?_
      refine W_block ?_
      refine W_seq ?_
      refine W_reg ?_
      refine L_pu (P_move (vi v2) rfl) ?_
      refine L_pu (P_assign (vi v2) rfl) ?_
      refine L_nil ?_
      refine W_seq ?_
      refine W_draw (fun x => Gr w26 x none) (by kernel_rfl) (by kernel_rfl) (Gr.drew _) ?_
      refine Q_pu (P_move (.slice A1 n2 c3) rfl) ?_
      refine Q_pu (P_move (vi v2) rfl) ?_
      obtain ⟨hb39, H⟩ := H
      obtain ⟨ad40, cs41, hA42, hS45, hR43, hcl44⟩ := h30.get default (by decide) v2 hb39
      obtain rfl := kPt.op hR43
      refine Q_pu (P_ia Try.underlying23 se23 A1 ad40 n2 c3 h30.len v2 rfl hA42 rfl hb39) ?_
      refine Q_pu (P_lda ag64 sz64 cQ (ad40.add (v2.toNat * 2)) [vi ((nth s1 v2).X), vi ((nth s1 v2).Y)] rfl rfl hcl44) ?_
      refine Q_pu (P_move (.slice A6 n7 c8) rfl) ?_
      refine Q_pu (P_move (vi v2) rfl) ?_
      obtain ⟨hb46, H⟩ := H
      obtain ⟨ad47, cs48, hA49, hS52, hR50, hcl51⟩ := h31.get default (by decide) v2 hb46
      obtain rfl := kPt.op hR50
      refine Q_pu (P_ia Try.underlying23 se23 A6 ad47 n7 c8 h31.len v2 rfl hA49 rfl hb46) ?_
      refine Q_pu (P_lda ag64 sz64 cQ (ad47.add (v2.toNat * 2)) [vi ((nth s2 v2).X), vi ((nth s2 v2).Y)] rfl rfl hcl51) ?_
      refine Q_pu (P_ne _ _ (eqPt (nth s1 v2) (nth s2 v2)) (qt64 (nth s1 v2) (nth s2 v2)) rfl rfl) ?_
      refine Q_nil fun w53 g54 => ?_
      have hc56 := hc29.k0 g54
      refine W_cond (!(eqPt (nth s1 v2) (nth s2 v2))) rfl (fun hq57 => ?_) (fun hq57 => ?_)
      · have H := ite_t H hq57
        refine W_seq ?_
        refine W_reg ?_
        refine L_pu (P_assign (vb false) rfl) ?_
        refine L_nil ?_
        refine W_ret ?_
        exact ⟨[vb false], ⟨_, rfl, rfl⟩, false, rfl, H, hc56.gr⟩
      · have H := ite_f H hq57
        refine W_skip ?_
        refine W_reg ?_
        obtain ⟨hb58, H⟩ := H
        refine L_pu (P_add v2 1 rfl rfl hb58) ?_
        refine L_pu (P_move (vi (v2 + 1)) rfl) ?_
        refine L_nil ?_
        obtain ⟨hI59, hm60⟩ := H
        exact ⟨v2 + 1, hm60, hI59, ⟨rfl, rfl, rfl, rfl, trivial⟩, hc56, (h30.st (.new _ g54)), (h31.st (.new _ g54))⟩
    · have H := ite_f H hq38
      refine W_exit (xin_hit ?_)
      refine W_seq ?_
      refine W_reg ?_
      refine L_pu (P_assign (vb true) rfl) ?_
      refine L_nil ?_
      refine W_ret ?_
      exact ⟨[vb true], ⟨_, rfl, rfl⟩, true, rfl, H, hc29.gr⟩
end Go.Proofs.Ythkeboifjlnjjaa

namespace Go.Proofs.Ythkeboifjlnjjaa
set_option linter.unusedVariables false
set_option linter.unusedSimpArgs false
set_option linter.unusedSectionVars false
theorem slices_Equal_Pt.law (a b : List Pt) (Q : Bool → Prop) (hb : a.length ≤ 1048576) (hq : Q (decide (a = b))) : slices_Equal_Pt.E a b Q := by
  unfold slices_Equal_Pt.E
  exact eqI_shape eqPt eqPt_is a b Q hb hq
end Go.Proofs.Ythkeboifjlnjjaa

namespace Go.Proofs.Ythkeboifjlnjjaa
open Go.RowKit
set_option linter.unusedVariables false
def impl_ShapeSame.E (a : Shape) (b : Shape) (Q : Bool → Prop) : Prop :=
  (if a.Kind == b.Kind then slices_Equal_Pt.E a.Pts b.Pts (fun r => Q r) else Q false)
set_option maxHeartbeats 8000000 in
set_option maxRecDepth 100000 in
theorem impl_ShapeSame.calls {O : Ob} (w0 : World) (hO : Ok w0 O) (a : Shape) (A1 : Option Addr) (n2 c3 : Nat) (hp4 : Sl kPt w0 (Fr O) (.slice A1 n2 c3) a.Pts) (b : Shape) (A6 : Option Addr) (n7 c8 : Nat) (hp9 : Sl kPt w0 (Fr O) (.slice A6 n7 c8) b.Pts) (Q : Bool → Prop) (h : impl_ShapeSame.E a b Q) :
    Ret Try.prog 108 [.agg #[vi a.Kind, .slice A1 n2 c3], .agg #[vi b.Kind, .slice A6 n7 c8]] w0 (fun v w' => ∃ (r0 : Bool), v = vb r0 ∧ Q r0 ∧ Gr w0 w' none) := by
  have H : (if a.Kind == b.Kind then slices_Equal_Pt.E a.Pts b.Pts (fun r => Q r) else Q false) := h
  clear h
  have hc0 := Ct.init hO
  refine Ret_enter Try.func108 rfl 17 rfl [.tmp 4] rfl rfl ?_
  refine W_seq ?_
  refine W_reg ?_
  refine L_box [vi a.Kind, .slice A1 n2 c3] rfl fun w11 b12 hl14 hu15 g13 hx16 => ?_
  have h18 := Fb.mk hc0.ok hl14 hx16
  have hc19 := hc0.k0 g13
  refine L_box [vi b.Kind, .slice A6 n7 c8] rfl fun w20 b21 hl23 hu24 g22 hx25 => ?_
  have h27 := Fb.mk hc19.ok hl23 hx25
  have hc28 := hc19.k0 g22
  refine L_pu (P_assign (vb false) rfl) ?_
  refine L_nil ?_
  refine W_seq ?_
  refine W_reg ?_
  refine L_pu (P_fa fa76_0 ⟨b12, 0, none⟩ ⟨b12, 0, none⟩ rfl rfl) ?_
  have h29 := (h18.st (.new _ g22))
  refine L_pu (P_ld ag3 cL ⟨b12, 0, none⟩ (vi a.Kind) rfl (h29.cell rfl)) ?_
  refine L_pu (P_fa fa76_0 ⟨b21, 0, none⟩ ⟨b21, 0, none⟩ rfl rfl) ?_
  refine L_pu (P_ld ag3 cL ⟨b21, 0, none⟩ (vi b.Kind) rfl (h27.cell rfl)) ?_
  refine L_pu (P_cmp a.Kind b.Kind (a.Kind == b.Kind) rfl rfl rfl) ?_
  refine L_pu (P_move (vb (a.Kind == b.Kind)) rfl) ?_
  rcases bool_or (a.Kind == b.Kind) with hq30 | hq30
  · have H := ite_t H hq30
    refine L_run (dj := 10) rfl rfl (by exact congrArg Value.bool hq30) ?_
    refine L_pu (P_fa fa76_1 ⟨b12, 0, none⟩ ⟨b12, 1, none⟩ rfl rfl) ?_
    refine L_run (dj := 10) rfl rfl (by exact congrArg Value.bool hq30) ?_
    refine L_pu (P_ld ag23 cL ⟨b12, 1, none⟩ (.slice A1 n2 c3) rfl (h29.cell rfl)) ?_
    refine L_run (dj := 10) rfl rfl (by exact congrArg Value.bool hq30) ?_
    refine L_pu (P_fa fa76_1 ⟨b21, 0, none⟩ ⟨b21, 1, none⟩ rfl rfl) ?_
    refine L_run (dj := 10) rfl rfl (by exact congrArg Value.bool hq30) ?_
    refine L_pu (P_ld ag23 cL ⟨b21, 1, none⟩ (.slice A6 n7 c8) rfl (h27.cell rfl)) ?_
    refine L_run (dj := 10) rfl rfl (by exact congrArg Value.bool hq30) ?_
    refine L_call go35 [.slice A1 n2 c3, .slice A6 n7 c8] rfl ((slices_Equal_Pt.calls w20 hc28.ok a.Pts A1 n2 c3 (hp4.st hc28.st) b.Pts A6 n7 c8 (hp9.st hc28.st) _ H).mono ?_)
    rintro _ w31 ⟨r, rfl, H, g32⟩
    have hc36 := hc28.k0 g32
    refine L_pu (P_pick true (vb r) (by exact congrArg Value.bool hq30) rfl) ?_
    refine L_pu (P_assign (vb r) rfl) ?_
    refine L_nil ?_
    refine W_ret ?_
    exact ⟨[vb r], ⟨_, rfl, rfl⟩, r, rfl, H, hc36.gr⟩
  · have H := ite_f H hq30
    refine L_pass (dj := 10) rfl rfl (.inl (by exact congrArg Value.bool hq30)) ?_
    refine L_pass (dj := 10) rfl rfl (.inl (by exact congrArg Value.bool hq30)) ?_
    refine L_pass (dj := 10) rfl rfl (.inl (by exact congrArg Value.bool hq30)) ?_
    refine L_pass (dj := 10) rfl rfl (.inl (by exact congrArg Value.bool hq30)) ?_
    refine L_pass (dj := 10) rfl rfl (.inl (by exact congrArg Value.bool hq30)) ?_
    refine L_pu (P_pick false (vb false) (by exact congrArg Value.bool hq30) rfl) ?_
    refine L_pu (P_assign (vb false) rfl) ?_
    refine L_nil ?_
    refine W_ret ?_
    exact ⟨[vb false], ⟨_, rfl, rfl⟩, false, rfl, H, hc28.gr⟩
end Go.Proofs.Ythkeboifjlnjjaa

namespace Go.Proofs.Ythkeboifjlnjjaa
set_option linter.unusedVariables false
set_option linter.unusedSimpArgs false
set_option linter.unusedSectionVars false
theorem impl_ShapeSame.law (a b : Shape) (Q : Bool → Prop) (hl : a.Pts.length ≤ 1048576) (hq : Q (decide (a = b))) : impl_ShapeSame.E a b Q := by
  unfold impl_ShapeSame.E
  by_cases h : a.Kind = b.Kind
  · rw [if_pos (by rw [beq_iff_eq]; exact h)]
    refine slices_Equal_Pt.law _ _ _ (by omega) ?_
    have : decide (a.Pts = b.Pts) = decide (a = b) := decide_eq_decide.2 (by rw [Shape.ext_iff']; exact ⟨fun e => ⟨h, e⟩, fun e => e.2⟩)
    rw [this]; exact hq
  · rw [if_neg (by rw [beq_iff_eq]; exact h)]
    rw [decide_eq_false (by rw [Shape.ext_iff']; exact fun e => h e.1)] at hq; exact hq
end Go.Proofs.Ythkeboifjlnjjaa

namespace Go.Proofs.Ythkeboifjlnjjaa
open Go.RowKit
set_option linter.unusedVariables false
def slices_Equal_Tag.E (s1 : List Tag) (s2 : List Tag) (Q : Bool → Prop) : Prop :=
  (if (s1.length : Int) != (s2.length : Int) then Q false else (∃ (I32 : Int → Prop) (mu33 : Int → Nat), I32 0 ∧ ∀ (v2 : Int), I32 v2 → (if decide (v2 < (s1.length : Int)) then ((0 : Int) ≤ v2 ∧ v2 < (s1.length : Int)) ∧ ((0 : Int) ≤ v2 ∧ v2 < (s2.length : Int)) ∧ (if !(eqTag (nth s1 v2) (nth s2 v2)) then Q false else (I64 (v2 + 1)) ∧ I32 (v2 + 1) ∧ mu33 (v2 + 1) < mu33 v2) else Q true)))
set_option maxHeartbeats 8000000 in
set_option maxRecDepth 100000 in
theorem slices_Equal_Tag.calls {O : Ob} (w0 : World) (hO : Ok w0 O) (s1 : List Tag) (A1 : Option Addr) (n2 c3 : Nat) (hp4 : Sl kTag w0 (Fr O) (.slice A1 n2 c3) s1) (s2 : List Tag) (A6 : Option Addr) (n7 c8 : Nat) (hp9 : Sl kTag w0 (Fr O) (.slice A6 n7 c8) s2) (Q : Bool → Prop) (h : slices_Equal_Tag.E s1 s2 Q) :
    Ret Try.prog 109 [.slice A1 n2 c3, .slice A6 n7 c8] w0 (fun v w' => ∃ (r0 : Bool), v = vb r0 ∧ Q r0 ∧ Gr w0 w' none) := by
  have H : (if (s1.length : Int) != (s2.length : Int) then Q false else (∃ (I32 : Int → Prop) (mu33 : Int → Nat), I32 0 ∧ ∀ (v2 : Int), I32 v2 → (if decide (v2 < (s1.length : Int)) then ((0 : Int) ≤ v2 ∧ v2 < (s1.length : Int)) ∧ ((0 : Int) ≤ v2 ∧ v2 < (s2.length : Int)) ∧ (if !(eqTag (nth s1 v2) (nth s2 v2)) then Q false else (I64 (v2 + 1)) ∧ I32 (v2 + 1) ∧ mu33 (v2 + 1) < mu33 v2) else Q true))) := h
  clear h
  have hc0 := Ct.init hO
  refine Ret_enter Try.func109 rfl 26 rfl [.tmp 4] rfl rfl ?_
  refine W_seq ?_
  refine W_reg ?_
  refine L_pu (P_assign (vb false) rfl) ?_
  refine L_nil ?_
  refine W_seq ?_
  refine W_seq ?_
  refine W_reg ?_
  refine L_pu (P_move (.slice A1 n2 c3) rfl) ?_
  have hl11 := hp4.le
  refine L_pu (P_len Try.underlying77 A1 n2 c3 hp4.len rfl) ?_
  refine L_pu (P_move (.slice A6 n7 c8) rfl) ?_
  have hl12 := hp9.le
  refine L_pu (P_len Try.underlying77 A6 n7 c8 hp9.len rfl) ?_
  refine L_pu (P_cmp (s1.length : Int) (s2.length : Int) ((s1.length : Int) != (s2.length : Int)) rfl rfl rfl) ?_
  refine L_nil ?_
  refine W_cond ((s1.length : Int) != (s2.length : Int)) rfl (fun hq13 => ?_) (fun hq13 => ?_)
  · have H := ite_t H hq13
    refine W_seq ?_
    refine W_reg ?_
    refine L_pu (P_assign (vb false) rfl) ?_
    refine L_nil ?_
    refine W_ret ?_
    exact ⟨[vb false], ⟨_, rfl, rfl⟩, false, rfl, H, hc0.gr⟩
  · have H := ite_f H hq13
    refine W_skip ?_
    refine W_seq ?_
    refine W_seq ?_
    refine W_reg ?_
    refine L_pu (P_move (.slice A1 n2 c3) rfl) ?_
    refine L_pu (P_len Try.underlying77 A1 n2 c3 hp4.len rfl) ?_
    refine L_pu (P_move (vi 0) rfl) ?_
    refine L_nil ?_
    refine W_block ?_
    obtain ⟨I32, mu33, hI34, H⟩ := H
    refine W_loop (α := Int) (fun (sv__ : Int) t w26 => match sv__ with | v2 => I32 v2 ∧ Has t [(0, .slice A1 n2 c3), (1, .slice A6 n7 c8), (12, vi (s1.length : Int)), (13, vi v2)] ∧ Ct none w0 w26 [] O ∧ Sl kTag w26 (Fr ([] ++ O)) (.slice A1 n2 c3) s1 ∧ Sl kTag w26 (Fr ([] ++ O)) (.slice A6 n7 c8) s2) (fun (sv__ : Int) => match sv__ with | v2 => mu33 v2) 0 ⟨hI34, ⟨rfl, rfl, rfl, rfl, trivial⟩, hc0, hp4, hp9⟩ ?_
    rintro v2 _ w26 ⟨hI34, hh36, hc29, h30, h31⟩
    obtain ⟨u37, rfl⟩ := Has.ins hh36
    have H := H v2 hI34
    refine W_seq ?_
    refine W_reg ?_
    refine L_pu (P_cmp v2 (s1.length : Int) (decide (v2 < (s1.length : Int))) rfl rfl rfl) ?_
    refine L_nil ?_
    refine W_seq ?_
    refine W_cond (decide (v2 < (s1.length : Int))) rfl (fun hq38 => ?_) (fun hq38 => ?_)
    · have H := ite_t H hq38
      refine W_skip ?_
      refine W_seq ?_
      refine W_block ?_
      refine W_seq ?_
      refine W_reg ?_
      refine L_pu (P_move (vi v2) rfl) ?_
      refine L_pu (P_assign (vi v2) rfl) ?_
      refine L_nil ?_
      refine W_seq ?_
      refine W_draw (fun x => Gr w26 x none) (by kernel_rfl) (by kernel_rfl) (Gr.drew _) ?_
      refine Q_pu (P_move (.slice A1 n2 c3) rfl) ?_
      refine Q_pu (P_move (vi v2) rfl) ?_
      obtain ⟨hb39, H⟩ := H
      obtain ⟨ad40, cs41, hA42, hS45, hR43, hcl44⟩ := h30.get default (by decide) v2 hb39
      obtain ⟨rfl, hs46, hs47⟩ := kTag.op hR43
      refine Q_pu (P_ia Try.underlying77 se77 A1 ad40 n2 c3 h30.len v2 rfl hA42 rfl hb39) ?_
      refine Q_pu (P_lda ag149 sz149 cQ (ad40.add (v2.toNat * 2)) [vs ((nth s1 v2).Key), vs ((nth s1 v2).Val)] rfl rfl hcl44) ?_
      refine Q_pu (P_move (.slice A6 n7 c8) rfl) ?_
      refine Q_pu (P_move (vi v2) rfl) ?_
      obtain ⟨hb48, H⟩ := H
      obtain ⟨ad49, cs50, hA51, hS54, hR52, hcl53⟩ := h31.get default (by decide) v2 hb48
      obtain ⟨rfl, hs55, hs56⟩ := kTag.op hR52
      refine Q_pu (P_ia Try.underlying77 se77 A6 ad49 n7 c8 h31.len v2 rfl hA51 rfl hb48) ?_
      refine Q_pu (P_lda ag149 sz149 cQ (ad49.add (v2.toNat * 2)) [vs ((nth s2 v2).Key), vs ((nth s2 v2).Val)] rfl rfl hcl53) ?_
      refine Q_pu (P_ne _ _ (eqTag (nth s1 v2) (nth s2 v2)) (qt149 (nth s1 v2) (nth s2 v2)) rfl rfl) ?_
      refine Q_nil fun w57 g58 => ?_
      have hc60 := hc29.k0 g58
      refine W_cond (!(eqTag (nth s1 v2) (nth s2 v2))) rfl (fun hq61 => ?_) (fun hq61 => ?_)
      · have H := ite_t H hq61
        refine W_seq ?_
        refine W_reg ?_
        refine L_pu (P_assign (vb false) rfl) ?_
        refine L_nil ?_
        refine W_ret ?_
        exact ⟨[vb false], ⟨_, rfl, rfl⟩, false, rfl, H, hc60.gr⟩
      · have H := ite_f H hq61
        refine W_skip ?_
        refine W_reg ?_
        obtain ⟨hb62, H⟩ := H
        refine L_pu (P_add v2 1 rfl rfl hb62) ?_
        refine L_pu (P_move (vi (v2 + 1)) rfl) ?_
        refine L_nil ?_
        obtain ⟨hI63, hm64⟩ := H
        exact ⟨v2 + 1, hm64, hI63, ⟨rfl, rfl, rfl, rfl, trivial⟩, hc60, (h30.st (.new _ g58)), (h31.st (.new _ g58))⟩
    · have H := ite_f H hq38
      refine W_exit (xin_hit ?_)
      refine W_seq ?_
      refine W_reg ?_
      refine L_pu (P_assign (vb true) rfl) ?_
      refine L_nil ?_
      refine W_ret ?_
      exact ⟨[vb true], ⟨_, rfl, rfl⟩, true, rfl, H, hc29.gr⟩
end Go.Proofs.Ythkeboifjlnjjaa

namespace Go.Proofs.Ythkeboifjlnjjaa
set_option linter.unusedVariables false
set_option linter.unusedSimpArgs false
set_option linter.unusedSectionVars false
theorem slices_Equal_Tag.law (a b : List Tag) (Q : Bool → Prop) (hb : a.length ≤ 1048576) (hq : Q (decide (a = b))) : slices_Equal_Tag.E a b Q := by
  unfold slices_Equal_Tag.E
  exact eqI_shape eqTag eqTag_is a b Q hb hq
end Go.Proofs.Ythkeboifjlnjjaa

namespace Go.Proofs.Ythkeboifjlnjjaa
open Go.RowKit
set_option linter.unusedVariables false
def impl_FeatSame.E (a : Feat) (b : Feat) (Q : Bool → Prop) : Prop :=
  (if a.Id == b.Id then impl_ShapeSame.E a.Shape b.Shape (fun r => (if r then slices_Equal_Tag.E a.Tags b.Tags (fun r2 => Q r2) else Q false)) else Q false)
set_option maxHeartbeats 8000000 in
set_option maxRecDepth 100000 in
theorem impl_FeatSame.calls {O : Ob} (w0 : World) (hO : Ok w0 O) (a : Feat) (A2 : Option Addr) (n3 c4 : Nat) (A7 : Option Addr) (n8 c9 : Nat) (hs1 : Lim a.Id) (hp5 : Sl kPt w0 (Fr O) (.slice A2 n3 c4) a.Shape.Pts) (hp10 : Sl kTag w0 (Fr O) (.slice A7 n8 c9) a.Tags) (b : Feat) (A13 : Option Addr) (n14 c15 : Nat) (A18 : Option Addr) (n19 c20 : Nat) (hs12 : Lim b.Id) (hp16 : Sl kPt w0 (Fr O) (.slice A13 n14 c15) b.Shape.Pts) (hp21 : Sl kTag w0 (Fr O) (.slice A18 n19 c20) b.Tags) (Q : Bool → Prop) (h : impl_FeatSame.E a b Q) :
    Ret Try.prog 80 [.agg #[vs a.Id, vi a.Shape.Kind, .slice A2 n3 c4, .slice A7 n8 c9], .agg #[vs b.Id, vi b.Shape.Kind, .slice A13 n14 c15, .slice A18 n19 c20]] w0 (fun v w' => ∃ (r0 : Bool), v = vb r0 ∧ Q r0 ∧ Gr w0 w' none) := by
  have H : (if a.Id == b.Id then impl_ShapeSame.E a.Shape b.Shape (fun r => (if r then slices_Equal_Tag.E a.Tags b.Tags (fun r2 => Q r2) else Q false)) else Q false) := h
  clear h
  have hc0 := Ct.init hO
  refine Ret_enter Try.func80 rfl 24 rfl [.tmp 4] rfl rfl ?_
  refine W_seq ?_
  refine W_reg ?_
  refine L_box [vs a.Id, vi a.Shape.Kind, .slice A2 n3 c4, .slice A7 n8 c9] rfl fun w23 b24 hl26 hu27 g25 hx28 => ?_
  have h30 := Fb.mk hc0.ok hl26 hx28
  have hc31 := hc0.k0 g25
  refine L_box [vs b.Id, vi b.Shape.Kind, .slice A13 n14 c15, .slice A18 n19 c20] rfl fun w32 b33 hl35 hu36 g34 hx37 => ?_
  have h39 := Fb.mk hc31.ok hl35 hx37
  have hc40 := hc31.k0 g34
  refine L_pu (P_assign (vb false) rfl) ?_
  refine L_nil ?_
  refine W_seq ?_
  refine W_reg ?_
  refine L_pu (P_fa fa79_0 ⟨b24, 0, none⟩ ⟨b24, 0, none⟩ rfl rfl) ?_
  have h41 := (h30.st (.new _ g34))
  refine L_pu (P_ld ag9 cL ⟨b24, 0, none⟩ (vs a.Id) rfl (h41.cell rfl)) ?_
  refine L_pu (P_fa fa79_0 ⟨b33, 0, none⟩ ⟨b33, 0, none⟩ rfl rfl) ?_
  refine L_pu (P_ld ag9 cL ⟨b33, 0, none⟩ (vs b.Id) rfl (h39.cell rfl)) ?_
  refine L_pu (P_scmp a.Id b.Id (a.Id == b.Id) rfl rfl rfl) ?_
  refine L_pu (P_move (vb (a.Id == b.Id)) rfl) ?_
  rcases bool_or (a.Id == b.Id) with hq42 | hq42
  · have H := ite_t H hq42
    refine L_run (dj := 10) rfl rfl (by exact congrArg Value.bool hq42) ?_
    refine L_pu (P_fa fa79_1 ⟨b24, 0, none⟩ ⟨b24, 1, none⟩ rfl rfl) ?_
    refine L_run (dj := 10) rfl rfl (by exact congrArg Value.bool hq42) ?_
    refine L_pu (P_lda ag76 sz76 cL ⟨b24, 1, none⟩ [vi a.Shape.Kind, .slice A2 n3 c4] rfl rfl (h41.cells (off := 1) rfl)) ?_
    refine L_run (dj := 10) rfl rfl (by exact congrArg Value.bool hq42) ?_
    refine L_pu (P_fa fa79_1 ⟨b33, 0, none⟩ ⟨b33, 1, none⟩ rfl rfl) ?_
    refine L_run (dj := 10) rfl rfl (by exact congrArg Value.bool hq42) ?_
    refine L_pu (P_lda ag76 sz76 cL ⟨b33, 1, none⟩ [vi b.Shape.Kind, .slice A13 n14 c15] rfl rfl (h39.cells (off := 1) rfl)) ?_
    refine L_run (dj := 10) rfl rfl (by exact congrArg Value.bool hq42) ?_
    refine L_call go108 [.agg #[vi a.Shape.Kind, .slice A2 n3 c4], .agg #[vi b.Shape.Kind, .slice A13 n14 c15]] rfl ((impl_ShapeSame.calls w32 hc40.ok a.Shape A2 n3 c4 (hp5.st hc40.st) b.Shape A13 n14 c15 (hp16.st hc40.st) _ H).mono ?_)
    rintro _ w43 ⟨r, rfl, H, g44⟩
    have hc48 := hc40.k0 g44
    refine L_pu (P_pick true (vb r) (by exact congrArg Value.bool hq42) rfl) ?_
    refine L_pu (P_move (vb r) rfl) ?_
    rcases bool_or r with hq49 | hq49
    · have H := ite_t H hq49
      refine L_run (dj := 17) rfl rfl (by exact congrArg Value.bool hq49) ?_
      refine L_pu (P_fa fa79_2 ⟨b24, 0, none⟩ ⟨b24, 3, none⟩ rfl rfl) ?_
      refine L_run (dj := 17) rfl rfl (by exact congrArg Value.bool hq49) ?_
      have h50 := (h41.st (.new _ g44))
      refine L_pu (P_ld ag77 cL ⟨b24, 3, none⟩ (.slice A7 n8 c9) rfl (h50.cell rfl)) ?_
      refine L_run (dj := 17) rfl rfl (by exact congrArg Value.bool hq49) ?_
      refine L_pu (P_fa fa79_2 ⟨b33, 0, none⟩ ⟨b33, 3, none⟩ rfl rfl) ?_
      refine L_run (dj := 17) rfl rfl (by exact congrArg Value.bool hq49) ?_
      have h51 := (h39.st (.new _ g44))
      refine L_pu (P_ld ag77 cL ⟨b33, 3, none⟩ (.slice A18 n19 c20) rfl (h51.cell rfl)) ?_
      refine L_run (dj := 17) rfl rfl (by exact congrArg Value.bool hq49) ?_
      refine L_call go109 [.slice A7 n8 c9, .slice A18 n19 c20] rfl ((slices_Equal_Tag.calls w43 hc48.ok a.Tags A7 n8 c9 (hp10.st hc48.st) b.Tags A18 n19 c20 (hp21.st hc48.st) _ H).mono ?_)
      rintro _ w52 ⟨r2, rfl, H, g53⟩
      have hc57 := hc48.k0 g53
      refine L_pu (P_pick true (vb r2) (by exact congrArg Value.bool hq49) rfl) ?_
      refine L_pu (P_assign (vb r2) rfl) ?_
      refine L_nil ?_
      refine W_ret ?_
      exact ⟨[vb r2], ⟨_, rfl, rfl⟩, r2, rfl, H, hc57.gr⟩
    · have H := ite_f H hq49
      refine L_pass (dj := 17) rfl rfl (.inl (by exact congrArg Value.bool hq49)) ?_
      refine L_pass (dj := 17) rfl rfl (.inl (by exact congrArg Value.bool hq49)) ?_
      refine L_pass (dj := 17) rfl rfl (.inl (by exact congrArg Value.bool hq49)) ?_
      refine L_pass (dj := 17) rfl rfl (.inl (by exact congrArg Value.bool hq49)) ?_
      refine L_pass (dj := 17) rfl rfl (.inl (by exact congrArg Value.bool hq49)) ?_
      refine L_pu (P_pick false (vb false) (by exact congrArg Value.bool hq49) rfl) ?_
      refine L_pu (P_assign (vb false) rfl) ?_
      refine L_nil ?_
      refine W_ret ?_
      exact ⟨[vb false], ⟨_, rfl, rfl⟩, false, rfl, H, hc48.gr⟩
  · have H := ite_f H hq42
    refine L_pass (dj := 10) rfl rfl (.inl (by exact congrArg Value.bool hq42)) ?_
    refine L_pass (dj := 10) rfl rfl (.inl (by exact congrArg Value.bool hq42)) ?_
    refine L_pass (dj := 10) rfl rfl (.inl (by exact congrArg Value.bool hq42)) ?_
    refine L_pass (dj := 10) rfl rfl (.inl (by exact congrArg Value.bool hq42)) ?_
    refine L_pass (dj := 10) rfl rfl (.inl (by exact congrArg Value.bool hq42)) ?_
    refine L_pu (P_pick false (vb false) (by exact congrArg Value.bool hq42) rfl) ?_
    refine L_pu (P_move (vb false) rfl) ?_
    refine L_pass (dj := 17) rfl rfl (.inl rfl) ?_
    refine L_pass (dj := 17) rfl rfl (.inl rfl) ?_
    refine L_pass (dj := 17) rfl rfl (.inl rfl) ?_
    refine L_pass (dj := 17) rfl rfl (.inl rfl) ?_
    refine L_pass (dj := 17) rfl rfl (.inl rfl) ?_
    refine L_pu (P_pick false (vb false) (by exact congrArg Value.bool rfl) rfl) ?_
    refine L_pu (P_assign (vb false) rfl) ?_
    refine L_nil ?_
    refine W_ret ?_
    exact ⟨[vb false], ⟨_, rfl, rfl⟩, false, rfl, H, hc40.gr⟩
end Go.Proofs.Ythkeboifjlnjjaa

namespace Go.Proofs.Ythkeboifjlnjjaa
set_option linter.unusedVariables false
set_option linter.unusedSimpArgs false
set_option linter.unusedSectionVars false
theorem impl_FeatSame.law (a b : Feat) (Q : Bool → Prop) (hl : a.Shape.Pts.length ≤ 1048576 ∧ a.Tags.length ≤ 1048576) (hq : Q (decide (a = b))) : impl_FeatSame.E a b Q := by
  unfold impl_FeatSame.E
  by_cases h : a.Id = b.Id
  · rw [if_pos (by rw [beq_iff_eq]; exact h)]
    refine impl_ShapeSame.law _ _ _ (by omega) ?_
    by_cases h2 : a.Shape = b.Shape
    · rw [decide_eq_true h2, if_pos rfl]
      refine slices_Equal_Tag.law _ _ _ (by omega) ?_
      have : decide (a.Tags = b.Tags) = decide (a = b) := decide_eq_decide.2 (by rw [Feat.ext_iff']; exact ⟨fun e => ⟨h, h2, e⟩, fun e => e.2.2⟩)
      rw [this]; exact hq
    · rw [decide_eq_false h2, if_neg (by decide)]
      rw [decide_eq_false (by rw [Feat.ext_iff']; exact fun e => h2 e.2.1)] at hq; exact hq
  · rw [if_neg (by rw [beq_iff_eq]; exact h)]
    rw [decide_eq_false (by rw [Feat.ext_iff']; exact fun e => h e.1)] at hq; exact hq
end Go.Proofs.Ythkeboifjlnjjaa

namespace Go.Proofs.Ythkeboifjlnjjaa
open Go.RowKit
set_option linter.unusedVariables false
def impl_SheetSame.E (a : List Feat) (b : List Feat) (Q : Bool → Prop) : Prop :=
  (∃ (f : Feat → Feat → Bool) (f_ok : Feat → Feat → Prop), (∀ x0_ x1_, f_ok x0_ x1_ → impl_FeatSame.E x0_ x1_  (fun r => r = f x0_ x1_)) ∧ slices_EqualFunc_Feat.E a b f f_ok (fun r => Q r))
set_option maxHeartbeats 8000000 in
set_option maxRecDepth 100000 in
theorem impl_SheetSame.calls {O : Ob} (w0 : World) (hO : Ok w0 O) (a : List Feat) (A1 : Option Addr) (n2 c3 : Nat) (hp4 : Sl kFeat w0 (Fr O) (.slice A1 n2 c3) a) (b : List Feat) (A6 : Option Addr) (n7 c8 : Nat) (hp9 : Sl kFeat w0 (Fr O) (.slice A6 n7 c8) b) (Q : Bool → Prop) (h : impl_SheetSame.E a b Q) :
    Ret Try.prog 89 [.slice A1 n2 c3, .slice A6 n7 c8] w0 (fun v w' => ∃ (r0 : Bool), v = vb r0 ∧ Q r0 ∧ Gr w0 w' none) := by
  have H : (∃ (f : Feat → Feat → Bool) (f_ok : Feat → Feat → Prop), (∀ x0_ x1_, f_ok x0_ x1_ → impl_FeatSame.E x0_ x1_  (fun r => r = f x0_ x1_)) ∧ slices_EqualFunc_Feat.E a b f f_ok (fun r => Q r)) := h
  clear h
  have hc0 := Ct.init hO
  refine Ret_enter Try.func89 rfl 8 rfl [.tmp 4] rfl rfl ?_
  refine W_seq ?_
  refine W_reg ?_
  refine L_pu (P_assign (vb false) rfl) ?_
  refine L_nil ?_
  refine W_seq ?_
  refine W_reg ?_
  refine L_pu (P_move (.slice A1 n2 c3) rfl) ?_
  refine L_pu (P_move (.slice A6 n7 c8) rfl) ?_
  obtain ⟨f, f_ok, hE11, H⟩ := H
  have hf12 : ∀ (w : World) (L : Ob), Ct none w0 w L ([] ++ O) → ∀ (x0_ : Feat) (A13 : Option Addr) (n14 c15 : Nat) (A18 : Option Addr) (n19 c20 : Nat) (hs12 : Lim x0_.Id) (hp16 : Sl kPt w (Fr (L ++ ([] ++ O))) (.slice A13 n14 c15) x0_.Shape.Pts) (hp21 : Sl kTag w (Fr (L ++ ([] ++ O))) (.slice A18 n19 c20) x0_.Tags) (x1_ : Feat) (A24 : Option Addr) (n25 c26 : Nat) (A29 : Option Addr) (n30 c31 : Nat) (hs23 : Lim x1_.Id) (hp27 : Sl kPt w (Fr (L ++ ([] ++ O))) (.slice A24 n25 c26) x1_.Shape.Pts) (hp32 : Sl kTag w (Fr (L ++ ([] ++ O))) (.slice A29 n30 c31) x1_.Tags), f_ok x0_ x1_ → Ret Try.prog 80 ([.agg #[vs x0_.Id, vi x0_.Shape.Kind, .slice A13 n14 c15, .slice A18 n19 c20], .agg #[vs x1_.Id, vi x1_.Shape.Kind, .slice A24 n25 c26, .slice A29 n30 c31]] ++ []) w (fun v w' => v = vb (f x0_ x1_) ∧ Gr w w' none) := by
    intro w L c x0_ A13 n14 c15 A18 n19 c20 hs12 hp16 hp21 x1_ A24 n25 c26 A29 n30 c31 hs23 hp27 hp32 hok
    refine (impl_FeatSame.calls w c.ok x0_ A13 n14 c15 A18 n19 c20 hs12 hp16 hp21 x1_ A24 n25 c26 A29 n30 c31 hs23 hp27 hp32  _ (hE11 x0_ x1_ hok)).mono ?_
    rintro _ w2 ⟨r, rfl, rfl, g2⟩
    exact ⟨rfl, g2⟩
  refine L_call go116 [.slice A1 n2 c3, .slice A6 n7 c8, .func (.func 80) #[] #[]] rfl ((slices_EqualFunc_Feat.calls w0 hc0.ok a A1 n2 c3 hp4 b A6 n7 c8 hp9 80 [] f f_ok go80 hf12 _ H).mono ?_)
  rintro _ w13 ⟨r, rfl, H, g14⟩
  have hc18 := hc0.k0 g14
  refine L_pu (P_assign (vb r) rfl) ?_
  refine L_nil ?_
  refine W_ret ?_
  exact ⟨[vb r], ⟨_, rfl, rfl⟩, r, rfl, H, hc18.gr⟩
end Go.Proofs.Ythkeboifjlnjjaa

namespace Go.Proofs.Ythkeboifjlnjjaa
set_option linter.unusedVariables false
set_option linter.unusedSimpArgs false
set_option linter.unusedSectionVars false
theorem impl_SheetSame.law (a b : List Feat) (Q : Bool → Prop) (hb : bulk a ≤ 1048576) (hq : Q (decide (a = b))) : impl_SheetSame.E a b Q := by
  unfold impl_SheetSame.E
  have hl := bulk_len a
  refine ⟨fun x y => decide (x = y), fun x _ => x ∈ a, fun x y hx => impl_FeatSame.law x y _ ?_ rfl, slices_EqualFunc_Feat.law a b _ _ _ (by omega) (fun x y hx => hx) (fun _ _ _ => rfl) hq⟩
  have m := bulk_mem hx
  have b1 : bulk x = bulk x.Id + bulk x.Shape + bulk x.Tags := rfl
  have b2 : bulk x.Shape = bulk x.Shape.Kind + bulk x.Shape.Pts := rfl
  have l1 := bulk_len x.Tags; have l2 := bulk_len x.Shape.Pts
  omega
end Go.Proofs.Ythkeboifjlnjjaa

namespace Go.Proofs.Ythkeboifjlnjjaa
open Go.RowKit
set_option linter.unusedVariables false
def impl_sameCommit.E (a : Commit) (b : Commit) (Q : Bool → Prop) : Prop :=
  slices_Equal_int.E a.Up b.Up (fun r => (if r then impl_SheetSame.E a.Sheet b.Sheet (fun r2 => (if r2 then Q (a.Note == b.Note) else Q false)) else Q false))
set_option maxHeartbeats 8000000 in
set_option maxRecDepth 100000 in
theorem impl_sameCommit.calls {O : Ob} (w0 : World) (hO : Ok w0 O) (a : Commit) (A1 : Option Addr) (n2 c3 : Nat) (A6 : Option Addr) (n7 c8 : Nat) (hp4 : Sl (Kd.int .i64) w0 (Fr O) (.slice A1 n2 c3) a.Up) (hp9 : Sl kFeat w0 (Fr O) (.slice A6 n7 c8) a.Sheet) (hs11 : Lim a.Note) (b : Commit) (A12 : Option Addr) (n13 c14 : Nat) (A17 : Option Addr) (n18 c19 : Nat) (hp15 : Sl (Kd.int .i64) w0 (Fr O) (.slice A12 n13 c14) b.Up) (hp20 : Sl kFeat w0 (Fr O) (.slice A17 n18 c19) b.Sheet) (hs22 : Lim b.Note) (Q : Bool → Prop) (h : impl_sameCommit.E a b Q) :
    Ret Try.prog 51 [.agg #[.slice A1 n2 c3, .slice A6 n7 c8, vs a.Note], .agg #[.slice A12 n13 c14, .slice A17 n18 c19, vs b.Note]] w0 (fun v w' => ∃ (r0 : Bool), v = vb r0 ∧ Q r0 ∧ Gr w0 w' none) := by
  have H : slices_Equal_int.E a.Up b.Up (fun r => (if r then impl_SheetSame.E a.Sheet b.Sheet (fun r2 => (if r2 then Q (a.Note == b.Note) else Q false)) else Q false)) := h
  clear h
  have hc0 := Ct.init hO
  refine Ret_enter Try.func51 rfl 24 rfl [.tmp 4] rfl rfl ?_
  refine W_seq ?_
  refine W_reg ?_
  refine L_box [.slice A1 n2 c3, .slice A6 n7 c8, vs a.Note] rfl fun w23 b24 hl26 hu27 g25 hx28 => ?_
  have h30 := Fb.mk hc0.ok hl26 hx28
  have hc31 := hc0.k0 g25
  refine L_box [.slice A12 n13 c14, .slice A17 n18 c19, vs b.Note] rfl fun w32 b33 hl35 hu36 g34 hx37 => ?_
  have h39 := Fb.mk hc31.ok hl35 hx37
  have hc40 := hc31.k0 g34
  refine L_pu (P_assign (vb false) rfl) ?_
  refine L_nil ?_
  refine W_seq ?_
  refine W_reg ?_
  refine L_pu (P_fa fa93_0 ⟨b24, 0, none⟩ ⟨b24, 0, none⟩ rfl rfl) ?_
  have h41 := (h30.st (.new _ g34))
  refine L_pu (P_ld ag90 cL ⟨b24, 0, none⟩ (.slice A1 n2 c3) rfl (h41.cell rfl)) ?_
  refine L_pu (P_fa fa93_0 ⟨b33, 0, none⟩ ⟨b33, 0, none⟩ rfl rfl) ?_
  refine L_pu (P_ld ag90 cL ⟨b33, 0, none⟩ (.slice A12 n13 c14) rfl (h39.cell rfl)) ?_
  refine L_call go88 [.slice A1 n2 c3, .slice A12 n13 c14] rfl ((slices_Equal_int.calls w32 hc40.ok a.Up A1 n2 c3 (hp4.st hc40.st) b.Up A12 n13 c14 (hp15.st hc40.st) _ H).mono ?_)
  rintro _ w42 ⟨r, rfl, H, g43⟩
  have hc47 := hc40.k0 g43
  refine L_pu (P_move (vb r) rfl) ?_
  rcases bool_or r with hq48 | hq48
  · have H := ite_t H hq48
    refine L_run (dj := 10) rfl rfl (by exact congrArg Value.bool hq48) ?_
    refine L_pu (P_fa fa93_1 ⟨b24, 0, none⟩ ⟨b24, 1, none⟩ rfl rfl) ?_
    refine L_run (dj := 10) rfl rfl (by exact congrArg Value.bool hq48) ?_
    have h49 := (h41.st (.new _ g43))
    refine L_pu (P_ld ag91 cL ⟨b24, 1, none⟩ (.slice A6 n7 c8) rfl (h49.cell rfl)) ?_
    refine L_run (dj := 10) rfl rfl (by exact congrArg Value.bool hq48) ?_
    refine L_pu (P_fa fa93_1 ⟨b33, 0, none⟩ ⟨b33, 1, none⟩ rfl rfl) ?_
    refine L_run (dj := 10) rfl rfl (by exact congrArg Value.bool hq48) ?_
    have h50 := (h39.st (.new _ g43))
    refine L_pu (P_ld ag91 cL ⟨b33, 1, none⟩ (.slice A17 n18 c19) rfl (h50.cell rfl)) ?_
    refine L_run (dj := 10) rfl rfl (by exact congrArg Value.bool hq48) ?_
    refine L_call go89 [.slice A6 n7 c8, .slice A17 n18 c19] rfl ((impl_SheetSame.calls w42 hc47.ok a.Sheet A6 n7 c8 (hp9.st hc47.st) b.Sheet A17 n18 c19 (hp20.st hc47.st) _ H).mono ?_)
    rintro _ w51 ⟨r2, rfl, H, g52⟩
    have hc56 := hc47.k0 g52
    refine L_pu (P_pick true (vb r2) (by exact congrArg Value.bool hq48) rfl) ?_
    refine L_pu (P_move (vb r2) rfl) ?_
    rcases bool_or r2 with hq57 | hq57
    · have H := ite_t H hq57
      refine L_run (dj := 17) rfl rfl (by exact congrArg Value.bool hq57) ?_
      refine L_pu (P_fa fa93_2 ⟨b24, 0, none⟩ ⟨b24, 2, none⟩ rfl rfl) ?_
      refine L_run (dj := 17) rfl rfl (by exact congrArg Value.bool hq57) ?_
      have h58 := (h49.st (.new _ g52))
      refine L_pu (P_ld ag9 cL ⟨b24, 2, none⟩ (vs a.Note) rfl (h58.cell rfl)) ?_
      refine L_run (dj := 17) rfl rfl (by exact congrArg Value.bool hq57) ?_
      refine L_pu (P_fa fa93_2 ⟨b33, 0, none⟩ ⟨b33, 2, none⟩ rfl rfl) ?_
      refine L_run (dj := 17) rfl rfl (by exact congrArg Value.bool hq57) ?_
      have h59 := (h50.st (.new _ g52))
      refine L_pu (P_ld ag9 cL ⟨b33, 2, none⟩ (vs b.Note) rfl (h59.cell rfl)) ?_
      refine L_run (dj := 17) rfl rfl (by exact congrArg Value.bool hq57) ?_
      refine L_pu (P_scmp a.Note b.Note (a.Note == b.Note) rfl rfl rfl) ?_
      refine L_pu (P_pick true (vb (a.Note == b.Note)) (by exact congrArg Value.bool hq57) rfl) ?_
      refine L_pu (P_assign (vb (a.Note == b.Note)) rfl) ?_
      refine L_nil ?_
      refine W_ret ?_
      exact ⟨[vb (a.Note == b.Note)], ⟨_, rfl, rfl⟩, a.Note == b.Note, rfl, H, hc56.gr⟩
    · have H := ite_f H hq57
      refine L_pass (dj := 17) rfl rfl (.inl (by exact congrArg Value.bool hq57)) ?_
      refine L_pass (dj := 17) rfl rfl (.inl (by exact congrArg Value.bool hq57)) ?_
      refine L_pass (dj := 17) rfl rfl (.inl (by exact congrArg Value.bool hq57)) ?_
      refine L_pass (dj := 17) rfl rfl (.inl (by exact congrArg Value.bool hq57)) ?_
      refine L_pass (dj := 17) rfl rfl (.inl (by exact congrArg Value.bool hq57)) ?_
      refine L_pu (P_pick false (vb false) (by exact congrArg Value.bool hq57) rfl) ?_
      refine L_pu (P_assign (vb false) rfl) ?_
      refine L_nil ?_
      refine W_ret ?_
      exact ⟨[vb false], ⟨_, rfl, rfl⟩, false, rfl, H, hc56.gr⟩
  · have H := ite_f H hq48
    refine L_pass (dj := 10) rfl rfl (.inl (by exact congrArg Value.bool hq48)) ?_
    refine L_pass (dj := 10) rfl rfl (.inl (by exact congrArg Value.bool hq48)) ?_
    refine L_pass (dj := 10) rfl rfl (.inl (by exact congrArg Value.bool hq48)) ?_
    refine L_pass (dj := 10) rfl rfl (.inl (by exact congrArg Value.bool hq48)) ?_
    refine L_pass (dj := 10) rfl rfl (.inl (by exact congrArg Value.bool hq48)) ?_
    refine L_pu (P_pick false (vb false) (by exact congrArg Value.bool hq48) rfl) ?_
    refine L_pu (P_move (vb false) rfl) ?_
    refine L_pass (dj := 17) rfl rfl (.inl rfl) ?_
    refine L_pass (dj := 17) rfl rfl (.inl rfl) ?_
    refine L_pass (dj := 17) rfl rfl (.inl rfl) ?_
    refine L_pass (dj := 17) rfl rfl (.inl rfl) ?_
    refine L_pass (dj := 17) rfl rfl (.inl rfl) ?_
    refine L_pu (P_pick false (vb false) (by exact congrArg Value.bool rfl) rfl) ?_
    refine L_pu (P_assign (vb false) rfl) ?_
    refine L_nil ?_
    refine W_ret ?_
    exact ⟨[vb false], ⟨_, rfl, rfl⟩, false, rfl, H, hc47.gr⟩
end Go.Proofs.Ythkeboifjlnjjaa

namespace Go.Proofs.Ythkeboifjlnjjaa
set_option linter.unusedVariables false
set_option linter.unusedSimpArgs false
set_option linter.unusedSectionVars false
theorem Commit.ext_iff' (a b : Commit) : a = b ↔ a.Up = b.Up ∧ a.Sheet = b.Sheet ∧ a.Note = b.Note := by cases a; cases b; simp
theorem impl_sameCommit.law (a b : Commit) (Q : Bool → Prop) (hb : bulk a ≤ 1048576) (hq : Q (decide (a = b))) : impl_sameCommit.E a b Q := by
  unfold impl_sameCommit.E
  have b1 : bulk a = bulk a.Up + bulk a.Sheet + bulk a.Note := rfl
  have l1 := bulk_len a.Up
  have e : decide (a = b) = (decide (a.Up = b.Up) && (decide (a.Sheet = b.Sheet) && decide (a.Note = b.Note))) := by
    rw [Bool.eq_iff_iff]; simp only [Bool.and_eq_true, decide_eq_true_eq]; exact Commit.ext_iff' a b
  rw [e] at hq
  refine slices_Equal_int.law _ _ _ (by omega) ?_
  cases h1 : decide (a.Up = b.Up) with
  | false => rw [h1] at hq; rw [if_neg (by decide)]; exact hq
  | true =>
    rw [h1, Bool.true_and] at hq
    rw [if_pos rfl]
    refine impl_SheetSame.law _ _ _ (by omega) ?_
    cases h2 : decide (a.Sheet = b.Sheet) with
    | false => rw [h2] at hq; rw [if_neg (by decide)]; exact hq
    | true =>
      rw [h2, Bool.true_and] at hq
      rw [if_pos rfl]
      have : (a.Note == b.Note) = decide (a.Note = b.Note) := by rw [Bool.eq_iff_iff, beq_iff_eq, decide_eq_true_eq]
      rw [this]; exact hq
end Go.Proofs.Ythkeboifjlnjjaa

namespace Go.Proofs.Ythkeboifjlnjjaa
open Go.RowKit
set_option linter.unusedVariables false
def impl_Repo_commit_1.E (x : Commit) (fv_Up : List Int) (fv_Sheet : List Feat) (fv_Note : Str) (Q : Bool → Prop) : Prop :=
  impl_sameCommit.E x (⟨fv_Up, fv_Sheet, fv_Note⟩ : Commit) (fun r => Q r)
set_option maxHeartbeats 8000000 in
set_option maxRecDepth 100000 in
theorem impl_Repo_commit_1.calls {O : Ob} (w0 : World) (hO : Ok w0 O) (x : Commit) (A1 : Option Addr) (n2 c3 : Nat) (A6 : Option Addr) (n7 c8 : Nat) (hp4 : Sl (Kd.int .i64) w0 (Fr O) (.slice A1 n2 c3) x.Up) (hp9 : Sl kFeat w0 (Fr O) (.slice A6 n7 c8) x.Sheet) (hs11 : Lim x.Note) (b : Nat) (fv_Up : List Int) (A13 : Option Addr) (n14 c15 : Nat) (fv_Sheet : List Feat) (A18 : Option Addr) (n19 c20 : Nat) (fv_Note : Str) (hp16 : Sl (Kd.int .i64) w0 (Fr O) (.slice A13 n14 c15) fv_Up) (hp21 : Sl kFeat w0 (Fr O) (.slice A18 n19 c20) fv_Sheet) (hs23 : Lim fv_Note) (hp1 : Fb w0 O b [.slice A13 n14 c15, .slice A18 n19 c20, vs fv_Note]) (Q : Bool → Prop) (h : impl_Repo_commit_1.E x fv_Up fv_Sheet fv_Note Q) :
    Ret Try.prog 93 [.agg #[.slice A1 n2 c3, .slice A6 n7 c8, vs x.Note], .pointer (some ⟨b, 0, none⟩)] w0 (fun v w' => ∃ (r0 : Bool), v = vb r0 ∧ Q r0 ∧ Gr w0 w' none) := by
  have H : impl_sameCommit.E x (⟨fv_Up, fv_Sheet, fv_Note⟩ : Commit) (fun r => Q r) := h
  clear h
  have hc0 := Ct.init hO
  refine Ret_enter Try.func93 rfl 7 rfl [.tmp 3] rfl rfl ?_
  refine W_seq ?_
  refine W_reg ?_
  refine L_box [.slice A1 n2 c3, .slice A6 n7 c8, vs x.Note] rfl fun w24 b25 hl27 hu28 g26 hx29 => ?_
  have h31 := Fb.mk hc0.ok hl27 hx29
  have hc32 := hc0.k0 g26
  refine L_pu (P_assign (vb false) rfl) ?_
  refine L_nil ?_
  refine W_seq ?_
  refine W_reg ?_
  refine L_pu (P_lda ag93 sz93 cL ⟨b25, 0, none⟩ [.slice A1 n2 c3, .slice A6 n7 c8, vs x.Note] rfl rfl (h31.cells (off := 0) rfl)) ?_
  have h33 := (hp1.st hc32.st)
  refine L_pu (P_lda ag93 sz93 cL ⟨b, 0, none⟩ [.slice A13 n14 c15, .slice A18 n19 c20, vs fv_Note] rfl rfl (h33.cells (off := 0) rfl)) ?_
  refine L_call go51 [.agg #[.slice A1 n2 c3, .slice A6 n7 c8, vs x.Note], .agg #[.slice A13 n14 c15, .slice A18 n19 c20, vs fv_Note]] rfl ((impl_sameCommit.calls w24 hc32.ok x A1 n2 c3 A6 n7 c8 (hp4.st hc32.st) (hp9.st hc32.st) hs11 (⟨fv_Up, fv_Sheet, fv_Note⟩ : Commit) A13 n14 c15 A18 n19 c20 (hp16.st hc32.st) (hp21.st hc32.st) hs23 _ H).mono ?_)
  rintro _ w34 ⟨r, rfl, H, g35⟩
  have hc39 := hc32.k0 g35
  refine L_pu (P_assign (vb r) rfl) ?_
  refine L_nil ?_
  refine W_ret ?_
  exact ⟨[vb r], ⟨_, rfl, rfl⟩, r, rfl, H, hc39.gr⟩
end Go.Proofs.Ythkeboifjlnjjaa

namespace Go.Proofs.Ythkeboifjlnjjaa
open Go.RowKit
set_option linter.unusedVariables false
def slices_IndexFunc_Commit.E (s : List Commit) (f : Commit → Bool) (f_ok : Commit → Prop) (Q : Int → Prop) : Prop :=
  (∃ (I23 : Int → Prop) (mu24 : Int → Nat), I23 0 ∧ ∀ (v2 : Int), I23 v2 → (if decide (v2 < (s.length : Int)) then ((0 : Int) ≤ v2 ∧ v2 < (s.length : Int)) ∧ (f_ok (nth s v2)) ∧ (if (f (nth s v2)) then Q v2 else (I64 (v2 + 1)) ∧ I23 (v2 + 1) ∧ mu24 (v2 + 1) < mu24 v2) else Q (-1)))
set_option maxHeartbeats 8000000 in
set_option maxRecDepth 100000 in
theorem slices_IndexFunc_Commit.calls {O : Ob} (w0 : World) (hO : Ok w0 O) (s : List Commit) (A1 : Option Addr) (n2 c3 : Nat) (hp4 : Sl kCommit w0 (Fr O) (.slice A1 n2 c3) s) (fg6 : FuncId) (fc7 : List Value) (f : Commit → Bool) (f_ok : Commit → Prop) (hgo8 : Goes Try.prog fg6) (hf9 : ∀ (w : World) (L : Ob), Ct none w0 w L O → ∀ (x0_ : Commit) (A10 : Option Addr) (n11 c12 : Nat) (A15 : Option Addr) (n16 c17 : Nat) (hp13 : Sl (Kd.int .i64) w (Fr (L ++ O)) (.slice A10 n11 c12) x0_.Up) (hp18 : Sl kFeat w (Fr (L ++ O)) (.slice A15 n16 c17) x0_.Sheet) (hs20 : Lim x0_.Note), f_ok x0_ → Ret Try.prog fg6 ([.agg #[.slice A10 n11 c12, .slice A15 n16 c17, vs x0_.Note]] ++ fc7) w (fun v w' => v = vb (f x0_) ∧ Gr w w' none)) (Q : Int → Prop) (h : slices_IndexFunc_Commit.E s f f_ok Q) :
    Ret Try.prog 92 [.slice A1 n2 c3, .func (.func fg6) #[] fc7.toArray] w0 (fun v w' => ∃ (r0 : Int), v = vi r0 ∧ Q r0 ∧ Gr w0 w' none) := by
  have H : (∃ (I23 : Int → Prop) (mu24 : Int → Nat), I23 0 ∧ ∀ (v2 : Int), I23 v2 → (if decide (v2 < (s.length : Int)) then ((0 : Int) ≤ v2 ∧ v2 < (s.length : Int)) ∧ (f_ok (nth s v2)) ∧ (if (f (nth s v2)) then Q v2 else (I64 (v2 + 1)) ∧ I23 (v2 + 1) ∧ mu24 (v2 + 1) < mu24 v2) else Q (-1))) := h
  clear h
  have hc0 := Ct.init hO
  refine Ret_enter Try.func92 rfl 19 rfl [.tmp 4] rfl rfl ?_
  refine W_seq ?_
  refine W_reg ?_
  refine L_pu (P_assign (vi 0) rfl) ?_
  refine L_nil ?_
  refine W_seq ?_
  refine W_seq ?_
  refine W_reg ?_
  refine L_pu (P_move (.slice A1 n2 c3) rfl) ?_
  have hl10 := hp4.le
  refine L_pu (P_len Try.underlying43 A1 n2 c3 hp4.len rfl) ?_
  refine L_pu (P_move (vi 0) rfl) ?_
  refine L_nil ?_
  refine W_block ?_
  obtain ⟨I23, mu24, hI25, H⟩ := H
  refine W_loop (α := Int) (fun (sv__ : Int) t w19 => match sv__ with | v2 => I23 v2 ∧ Has t [(0, .slice A1 n2 c3), (1, .func (.func fg6) #[] fc7.toArray), (7, vi (s.length : Int)), (8, vi v2)] ∧ Ct none w0 w19 [] O ∧ Sl kCommit w19 (Fr ([] ++ O)) (.slice A1 n2 c3) s) (fun (sv__ : Int) => match sv__ with | v2 => mu24 v2) 0 ⟨hI25, ⟨rfl, rfl, rfl, rfl, trivial⟩, hc0, hp4⟩ ?_
  rintro v2 _ w19 ⟨hI25, hh27, hc21, h22⟩
  obtain ⟨u28, rfl⟩ := Has.ins hh27
  have H := H v2 hI25
  refine W_seq ?_
  refine W_reg ?_
  refine L_pu (P_cmp v2 (s.length : Int) (decide (v2 < (s.length : Int))) rfl rfl rfl) ?_
  refine L_nil ?_
  refine W_seq ?_
  refine W_cond (decide (v2 < (s.length : Int))) rfl (fun hq29 => ?_) (fun hq29 => ?_)
  · have H := ite_t H hq29
    refine W_skip ?_
    refine W_seq ?_
    refine W_block ?_
    refine W_seq ?_
    refine W_reg ?_
    refine L_pu (P_move (vi v2) rfl) ?_
    refine L_pu (P_assign (vi v2) rfl) ?_
    refine L_nil ?_
    refine W_seq ?_
    refine W_reg ?_
    refine L_pu (P_move (.func (.func fg6) #[] fc7.toArray) rfl) ?_
    refine L_pu (P_move (.slice A1 n2 c3) rfl) ?_
    refine L_pu (P_move (vi v2) rfl) ?_
    obtain ⟨hb30, H⟩ := H
    obtain ⟨ad31, cs32, hA33, hS36, hR34, hcl35⟩ := h22.get default (by decide) v2 hb30
    obtain ⟨A37, n38, c39, A42, n43, c44, rfl, h40, h45, hs47⟩ := kCommit.op hR34
    refine L_pu (P_ia Try.underlying43 se43 A1 ad31 n2 c3 h22.len v2 rfl hA33 rfl hb30) ?_
    refine L_pu (P_lda ag93 sz93 cL (ad31.add (v2.toNat * 3)) [.slice A37 n38 c39, .slice A42 n43 c44, vs ((nth s v2).Note)] rfl rfl hcl35) ?_
    obtain ⟨hb48, H⟩ := H
    refine L_callv hgo8 fc7 rfl [.agg #[.slice A37 n38 c39, .slice A42 n43 c44, vs ((nth s v2).Note)]] rfl ((hf9 w19 [] hc21 (nth s v2) A37 n38 c39 A42 n43 c44 h40 h45 hs47 hb48).mono ?_)
    rintro _ w49 ⟨rfl, g50⟩
    have hc52 := hc21.k0 g50
    refine L_nil ?_
    refine W_cond (f (nth s v2)) rfl (fun hq53 => ?_) (fun hq53 => ?_)
    · have H := ite_t H hq53
      refine W_seq ?_
      refine W_reg ?_
      refine L_pu (P_move (vi v2) rfl) ?_
      refine L_pu (P_assign (vi v2) rfl) ?_
      refine L_nil ?_
      refine W_ret ?_
      exact ⟨[vi v2], ⟨_, rfl, rfl⟩, v2, rfl, H, hc52.gr⟩
    · have H := ite_f H hq53
      refine W_skip ?_
      refine W_reg ?_
      obtain ⟨hb54, H⟩ := H
      refine L_pu (P_add v2 1 rfl rfl hb54) ?_
      refine L_pu (P_move (vi (v2 + 1)) rfl) ?_
      refine L_nil ?_
      obtain ⟨hI55, hm56⟩ := H
      exact ⟨v2 + 1, hm56, hI55, ⟨rfl, rfl, rfl, rfl, trivial⟩, hc52, (h22.st (.new _ g50))⟩
  · have H := ite_f H hq29
    refine W_exit (xin_hit ?_)
    refine W_seq ?_
    refine W_reg ?_
    refine L_pu (P_assign (vi (-1)) rfl) ?_
    refine L_nil ?_
    refine W_ret ?_
    exact ⟨[vi (-1)], ⟨_, rfl, rfl⟩, (-1), rfl, H, hc21.gr⟩
end Go.Proofs.Ythkeboifjlnjjaa

namespace Go.Proofs.Ythkeboifjlnjjaa
set_option linter.unusedVariables false
set_option linter.unusedSimpArgs false
set_option linter.unusedSectionVars false
theorem slices_IndexFunc_Commit.law (s : List Commit) (f : Commit → Bool) (ok : Commit → Prop) (Q : Int → Prop) (hl : s.length ≤ 1048576) (hok : ∀ x ∈ s, ok x) (hq : Q (findN s.length fun j => f (nth s (j : Int)))) : slices_IndexFunc_Commit.E s f ok Q := by
  unfold slices_IndexFunc_Commit.E
  refine loop_find s.length (fun j => f (nth s (j : Int))) hq (fun I mu k hk h1 h2 => ⟨by omega, hok _ (nth_mem s hk), ?_⟩)
  cases h : f (nth s (k : Int)) with
  | true => rw [if_pos rfl]; exact h1 h
  | false => rw [if_neg (by decide)]; obtain ⟨i1, i2⟩ := h2 h; exact ⟨by unfold I64; omega, i1, i2⟩
end Go.Proofs.Ythkeboifjlnjjaa

namespace Go.Proofs.Ythkeboifjlnjjaa
open Go.RowKit
set_option linter.unusedVariables false
def impl_Repo_commit.E (r : Repo) (c_ : Commit) (Q : Int → Prop) : Prop :=
  (∃ (f : Commit → Bool) (f_ok : Commit → Prop), (∀ x0_, f_ok x0_ → impl_Repo_commit_1.E x0_ c_.Up c_.Sheet c_.Note (fun r => r = f x0_)) ∧ slices_IndexFunc_Commit.E r.Commits f f_ok (fun r2 => Q r2))
set_option maxHeartbeats 8000000 in
set_option maxRecDepth 100000 in
theorem impl_Repo_commit.calls {O : Ob} (w0 : World) (hO : Ok w0 O) (r : Repo) (A1 : Option Addr) (n2 c3 : Nat) (A6 : Option Addr) (n7 c8 : Nat) (hp4 : Sl kCommit w0 (Fr O) (.slice A1 n2 c3) r.Commits) (hp9 : Sl kHead w0 (Fr O) (.slice A6 n7 c8) r.Heads) (c_ : Commit) (A11 : Option Addr) (n12 c13 : Nat) (A16 : Option Addr) (n17 c18 : Nat) (hp14 : Sl (Kd.int .i64) w0 (Fr O) (.slice A11 n12 c13) c_.Up) (hp19 : Sl kFeat w0 (Fr O) (.slice A16 n17 c18) c_.Sheet) (hs21 : Lim c_.Note) (Q : Int → Prop) (h : impl_Repo_commit.E r c_ Q) :
    Ret Try.prog 62 [.agg #[.slice A1 n2 c3, .slice A6 n7 c8], .agg #[.slice A11 n12 c13, .slice A16 n17 c18, vs c_.Note]] w0 (fun v w' => ∃ (r0 : Int), v = vi r0 ∧ Q r0 ∧ Gr w0 w' none) := by
  have H : (∃ (f : Commit → Bool) (f_ok : Commit → Prop), (∀ x0_, f_ok x0_ → impl_Repo_commit_1.E x0_ c_.Up c_.Sheet c_.Note (fun r => r = f x0_)) ∧ slices_IndexFunc_Commit.E r.Commits f f_ok (fun r2 => Q r2)) := h
  clear h
  have hc0 := Ct.init hO
  refine Ret_enter Try.func62 rfl 9 rfl [.tmp 4] rfl rfl ?_
  refine W_seq ?_
  refine W_reg ?_
  refine L_box [.slice A1 n2 c3, .slice A6 n7 c8] rfl fun w22 b23 hl25 hu26 g24 hx27 => ?_
  have h29 := Fb.mk hc0.ok hl25 hx27
  have hc30 := hc0.k0 g24
  refine L_box [.slice A11 n12 c13, .slice A16 n17 c18, vs c_.Note] rfl fun w31 b32 hl34 hu35 g33 hx36 => ?_
  have h38 := Fb.mk hc30.ok hl34 hx36
  have hc39 := hc30.k0 g33
  refine L_pu (P_assign (vi 0) rfl) ?_
  refine L_nil ?_
  refine W_seq ?_
  refine W_reg ?_
  refine L_pu (P_fa fa46_0 ⟨b23, 0, none⟩ ⟨b23, 0, none⟩ rfl rfl) ?_
  have h40 := (h29.st (.new _ g33))
  refine L_pu (P_ld ag43 cL ⟨b23, 0, none⟩ (.slice A1 n2 c3) rfl (h40.cell rfl)) ?_
  refine L_pu (P_func [.pointer (some ⟨b32, 0, none⟩)] rfl) ?_
  obtain ⟨f, f_ok, hE41, H⟩ := H
  have hf42 : ∀ (w : World) (L : Ob), Ct none w31 w L ([] ++ O) → ∀ (x0_ : Commit) (A42 : Option Addr) (n43 c44 : Nat) (A47 : Option Addr) (n48 c49 : Nat) (hp45 : Sl (Kd.int .i64) w (Fr (L ++ ([] ++ O))) (.slice A42 n43 c44) x0_.Up) (hp50 : Sl kFeat w (Fr (L ++ ([] ++ O))) (.slice A47 n48 c49) x0_.Sheet) (hs52 : Lim x0_.Note), f_ok x0_ → Ret Try.prog 93 ([.agg #[.slice A42 n43 c44, .slice A47 n48 c49, vs x0_.Note]] ++ [.pointer (some ⟨b32, 0, none⟩)]) w (fun v w' => v = vb (f x0_) ∧ Gr w w' none) := by
    intro w L c x0_ A42 n43 c44 A47 n48 c49 hp45 hp50 hs52 hok
    refine (impl_Repo_commit_1.calls w c.ok x0_ A42 n43 c44 A47 n48 c49 hp45 hp50 hs52 b32 c_.Up A11 n12 c13 c_.Sheet A16 n17 c18 c_.Note ((hp14.st hc39.st).st c.st) ((hp19.st hc39.st).st c.st) hs21 (h38.st c.st) _ (hE41 x0_ hok)).mono ?_
    rintro _ w2 ⟨r, rfl, rfl, g2⟩
    exact ⟨rfl, g2⟩
  refine L_call go92 [.slice A1 n2 c3, .func (.func 93) #[] #[.pointer (some ⟨b32, 0, none⟩)]] rfl ((slices_IndexFunc_Commit.calls w31 hc39.ok r.Commits A1 n2 c3 (hp4.st hc39.st) 93 [.pointer (some ⟨b32, 0, none⟩)] f f_ok go93 hf42 _ H).mono ?_)
  rintro _ w43 ⟨r2, rfl, H, g44⟩
  have hc48 := hc39.k0 g44
  refine L_pu (P_assign (vi r2) rfl) ?_
  refine L_nil ?_
  refine W_ret ?_
  exact ⟨[vi r2], ⟨_, rfl, rfl⟩, r2, rfl, H, hc48.gr⟩
end Go.Proofs.Ythkeboifjlnjjaa

namespace Go.Proofs.Ythkeboifjlnjjaa
set_option linter.unusedVariables false
set_option linter.unusedSimpArgs false
set_option linter.unusedSectionVars false
theorem impl_Repo_commit.law (r : Repo) (c : Commit) (Q : Int → Prop) (hb : bulk r ≤ 1048576) (hq : Q (findCommit r c)) : impl_Repo_commit.E r c Q := by
  unfold impl_Repo_commit.E
  have b1 : bulk r = bulk r.Commits + bulk r.Heads := rfl
  have l1 := bulk_len r.Commits
  refine ⟨fun x => decide (x = c), fun x => x ∈ r.Commits, fun x hx => ?_, slices_IndexFunc_Commit.law _ _ _ _ (by omega) (fun x hx => hx) hq⟩
  unfold impl_Repo_commit_1.E
  exact impl_sameCommit.law _ _ _ (by have := bulk_mem hx; omega) rfl
end Go.Proofs.Ythkeboifjlnjjaa

namespace Go.Proofs.Ythkeboifjlnjjaa
open Go.RowKit
set_option linter.unusedVariables false
def slices_Index_int.E (s : List Int) (v : Int) (Q : Int → Prop) : Prop :=
  (∃ (I19 : Int → Prop) (mu20 : Int → Nat), I19 0 ∧ ∀ (v3 : Int), I19 v3 → (if decide (v3 < (s.length : Int)) then ((0 : Int) ≤ v3 ∧ v3 < (s.length : Int)) ∧ (if v == (nth s v3) then Q v3 else (I64 (v3 + 1)) ∧ I19 (v3 + 1) ∧ mu20 (v3 + 1) < mu20 v3) else Q (-1)))
set_option maxHeartbeats 8000000 in
set_option maxRecDepth 100000 in
theorem slices_Index_int.calls {O : Ob} (w0 : World) (hO : Ok w0 O) (s : List Int) (A1 : Option Addr) (n2 c3 : Nat) (hp4 : Sl (Kd.int .i64) w0 (Fr O) (.slice A1 n2 c3) s) (v : Int) (Q : Int → Prop) (h : slices_Index_int.E s v Q) :
    Ret Try.prog 94 [.slice A1 n2 c3, vi v] w0 (fun v w' => ∃ (r0 : Int), v = vi r0 ∧ Q r0 ∧ Gr w0 w' none) := by
  have H : (∃ (I19 : Int → Prop) (mu20 : Int → Nat), I19 0 ∧ ∀ (v3 : Int), I19 v3 → (if decide (v3 < (s.length : Int)) then ((0 : Int) ≤ v3 ∧ v3 < (s.length : Int)) ∧ (if v == (nth s v3) then Q v3 else (I64 (v3 + 1)) ∧ I19 (v3 + 1) ∧ mu20 (v3 + 1) < mu20 v3) else Q (-1))) := h
  clear h
  have hc0 := Ct.init hO
  refine Ret_enter Try.func94 rfl 19 rfl [.tmp 4] rfl rfl ?_
  refine W_seq ?_
  refine W_reg ?_
  refine L_pu (P_assign (vi 0) rfl) ?_
  refine L_nil ?_
  refine W_seq ?_
  refine W_seq ?_
  refine W_reg ?_
  refine L_pu (P_move (.slice A1 n2 c3) rfl) ?_
  have hl6 := hp4.le
  refine L_pu (P_len Try.underlying90 A1 n2 c3 hp4.len rfl) ?_
  refine L_pu (P_move (vi 0) rfl) ?_
  refine L_nil ?_
  refine W_block ?_
  obtain ⟨I19, mu20, hI21, H⟩ := H
  refine W_loop (α := Int) (fun (sv__ : Int) t w15 => match sv__ with | v3 => I19 v3 ∧ Has t [(0, .slice A1 n2 c3), (1, vi v), (7, vi (s.length : Int)), (8, vi v3)] ∧ Ct none w0 w15 [] O ∧ Sl (Kd.int .i64) w15 (Fr ([] ++ O)) (.slice A1 n2 c3) s) (fun (sv__ : Int) => match sv__ with | v3 => mu20 v3) 0 ⟨hI21, ⟨rfl, rfl, rfl, rfl, trivial⟩, hc0, hp4⟩ ?_
  rintro v3 _ w15 ⟨hI21, hh23, hc17, h18⟩
  obtain ⟨u24, rfl⟩ := Has.ins hh23
  have H := H v3 hI21
  refine W_seq ?_
  refine W_reg ?_
  refine L_pu (P_cmp v3 (s.length : Int) (decide (v3 < (s.length : Int))) rfl rfl rfl) ?_
  refine L_nil ?_
  refine W_seq ?_
  refine W_cond (decide (v3 < (s.length : Int))) rfl (fun hq25 => ?_) (fun hq25 => ?_)
  · have H := ite_t H hq25
    refine W_skip ?_
    refine W_seq ?_
    refine W_block ?_
    refine W_seq ?_
    refine W_reg ?_
    refine L_pu (P_move (vi v3) rfl) ?_
    refine L_pu (P_assign (vi v3) rfl) ?_
    refine L_nil ?_
    refine W_seq ?_
    refine W_reg ?_
    refine L_pu (P_move (vi v) rfl) ?_
    refine L_pu (P_move (.slice A1 n2 c3) rfl) ?_
    refine L_pu (P_move (vi v3) rfl) ?_
    obtain ⟨hb26, H⟩ := H
    obtain ⟨ad27, cs28, hA29, hS32, hR30, hcl31⟩ := h18.get default (by decide) v3 hb26
    obtain rfl := Kd.int.op hR30
    refine L_pu (P_ia Try.underlying90 se90 A1 ad27 n2 c3 h18.len v3 rfl hA29 rfl hb26) ?_
    refine L_pu (P_ld ag3 cL (ad27.add (v3.toNat * 1)) (vi (nth s v3)) rfl (hcl31 0 _ rfl)) ?_
    refine L_pu (P_cmp v (nth s v3) (v == (nth s v3)) rfl rfl rfl) ?_
    refine L_nil ?_
    refine W_cond (v == (nth s v3)) rfl (fun hq33 => ?_) (fun hq33 => ?_)
    · have H := ite_t H hq33
      refine W_seq ?_
      refine W_reg ?_
      refine L_pu (P_move (vi v3) rfl) ?_
      refine L_pu (P_assign (vi v3) rfl) ?_
      refine L_nil ?_
      refine W_ret ?_
      exact ⟨[vi v3], ⟨_, rfl, rfl⟩, v3, rfl, H, hc17.gr⟩
    · have H := ite_f H hq33
      refine W_skip ?_
      refine W_reg ?_
      obtain ⟨hb34, H⟩ := H
      refine L_pu (P_add v3 1 rfl rfl hb34) ?_
      refine L_pu (P_move (vi (v3 + 1)) rfl) ?_
      refine L_nil ?_
      obtain ⟨hI35, hm36⟩ := H
      exact ⟨v3 + 1, hm36, hI35, ⟨rfl, rfl, rfl, rfl, trivial⟩, hc17, h18⟩
  · have H := ite_f H hq25
    refine W_exit (xin_hit ?_)
    refine W_seq ?_
    refine W_reg ?_
    refine L_pu (P_assign (vi (-1)) rfl) ?_
    refine L_nil ?_
    refine W_ret ?_
    exact ⟨[vi (-1)], ⟨_, rfl, rfl⟩, (-1), rfl, H, hc17.gr⟩
end Go.Proofs.Ythkeboifjlnjjaa

namespace Go.Proofs.Ythkeboifjlnjjaa
set_option linter.unusedVariables false
set_option linter.unusedSimpArgs false
set_option linter.unusedSectionVars false
theorem slices_Index_int.law (s : List Int) (v : Int) (Q : Int → Prop) (hl : s.length ≤ 1048576) (hq : Q (findN s.length fun j => decide (v = nth s (j : Int)))) : slices_Index_int.E s v Q := by
  unfold slices_Index_int.E
  refine loop_find s.length (fun j => decide (v = nth s (j : Int))) hq (fun I mu k hk h1 h2 => ⟨by omega, ?_⟩)
  have e : (v == nth s (k : Int)) = decide (v = nth s (k : Int)) := by rw [Bool.eq_iff_iff, beq_iff_eq, decide_eq_true_eq]
  rw [e]
  cases h : decide (v = nth s (k : Int)) with
  | true => rw [if_pos rfl]; exact h1 h
  | false => rw [if_neg (by decide)]; obtain ⟨i1, i2⟩ := h2 h; exact ⟨by unfold I64; omega, i1, i2⟩
end Go.Proofs.Ythkeboifjlnjjaa

namespace Go.Proofs.Ythkeboifjlnjjaa
open Go.RowKit
set_option linter.unusedVariables false
def slices_Contains_int.E (s : List Int) (v : Int) (Q : Bool → Prop) : Prop :=
  slices_Index_int.E s v (fun r => Q (decide (r ≥ 0)))
set_option maxHeartbeats 8000000 in
set_option maxRecDepth 100000 in
theorem slices_Contains_int.calls {O : Ob} (w0 : World) (hO : Ok w0 O) (s : List Int) (A1 : Option Addr) (n2 c3 : Nat) (hp4 : Sl (Kd.int .i64) w0 (Fr O) (.slice A1 n2 c3) s) (v : Int) (Q : Bool → Prop) (h : slices_Contains_int.E s v Q) :
    Ret Try.prog 63 [.slice A1 n2 c3, vi v] w0 (fun v w' => ∃ (r0 : Bool), v = vb r0 ∧ Q r0 ∧ Gr w0 w' none) := by
  have H : slices_Index_int.E s v (fun r => Q (decide (r ≥ 0))) := h
  clear h
  have hc0 := Ct.init hO
  refine Ret_enter Try.func63 rfl 9 rfl [.tmp 4] rfl rfl ?_
  refine W_seq ?_
  refine W_reg ?_
  refine L_pu (P_assign (vb false) rfl) ?_
  refine L_nil ?_
  refine W_seq ?_
  refine W_reg ?_
  refine L_pu (P_move (.slice A1 n2 c3) rfl) ?_
  refine L_pu (P_move (vi v) rfl) ?_
  refine L_call go94 [.slice A1 n2 c3, vi v] rfl ((slices_Index_int.calls w0 hc0.ok s A1 n2 c3 hp4 v _ H).mono ?_)
  rintro _ w6 ⟨r, rfl, H, g7⟩
  have hc11 := hc0.k0 g7
  refine L_pu (P_cmp r 0 (decide (r ≥ 0)) rfl rfl rfl) ?_
  refine L_pu (P_assign (vb (decide (r ≥ 0))) rfl) ?_
  refine L_nil ?_
  refine W_ret ?_
  exact ⟨[vb (decide (r ≥ 0))], ⟨_, rfl, rfl⟩, decide (r ≥ 0), rfl, H, hc11.gr⟩
end Go.Proofs.Ythkeboifjlnjjaa

namespace Go.Proofs.Ythkeboifjlnjjaa
set_option linter.unusedVariables false
set_option linter.unusedSimpArgs false
set_option linter.unusedSectionVars false
theorem slices_Contains_int.law (s : List Int) (v : Int) (Q : Bool → Prop) (hl : s.length ≤ 1048576) (hq : Q (decide (v ∈ s))) : slices_Contains_int.E s v Q := by
  unfold slices_Contains_int.E
  refine slices_Index_int.law _ _ _ hl ?_
  have : decide ((findN s.length fun j => decide (v = nth s (j : Int))) ≥ 0) = decide (v ∈ s) := by
    by_cases h : v ∈ s
    · rw [decide_eq_true h, decide_eq_true_eq]
      apply Decidable.byContradiction
      intro hc
      obtain ⟨k, hk, e⟩ := mem_nth h
      have hle := findN_le s.length fun j => decide (v = nth s (j : Int))
      -- the first place
      have : ∀ m, (∃ j, j < m ∧ j < s.length ∧ v = nth s (j : Int)) → (findN s.length fun j => decide (v = nth s (j : Int))) ≥ 0 := by
        intro m
        induction m with
        | zero => rintro ⟨j, hj, _⟩; exact absurd hj (Nat.not_lt_zero _)
        | succ m ih =>
          rintro ⟨j, hj, hjl, hjv⟩
          by_cases hex : ∃ i, i < m ∧ i < s.length ∧ v = nth s (i : Int)
          · exact ih hex
          · by_cases hjm : j < m
            · exact absurd ⟨j, hjm, hjl, hjv⟩ hex
            · have : j = m := by omega
              subst this
              rw [findN_hit hjl (decide_eq_true hjv) (fun i hi => decide_eq_false fun e => hex ⟨i, hi, by omega, e⟩)]
              omega
      exact hc (this (k + 1) ⟨k, by omega, hk, e.symm⟩)
    · rw [decide_eq_false h, decide_eq_false_iff_not, findN_none (fun j hj => decide_eq_false fun e => h (by rw [e]; exact nth_mem s hj))]
      omega
  rw [this]; exact hq
end Go.Proofs.Ythkeboifjlnjjaa

namespace Go.Proofs.Ythkeboifjlnjjaa
open Go.RowKit
set_option linter.unusedVariables false
def impl_Repo_head_1.E (h_ : Head) (fv2 : Str) (Q : Bool → Prop) : Prop :=
  Q (h_.Name == fv2)
set_option maxHeartbeats 8000000 in
set_option maxRecDepth 100000 in
theorem impl_Repo_head_1.calls {O : Ob} (w0 : World) (hO : Ok w0 O) (h_ : Head) (hs1 : Lim h_.Name) (b : Nat) (fv2 : Str) (hs3 : Lim fv2) (hp1 : Fb w0 O b [vs fv2]) (Q : Bool → Prop) (h : impl_Repo_head_1.E h_ fv2 Q) :
    Ret Try.prog 96 [.agg #[vs h_.Name, vi h_.At], .pointer (some ⟨b, 0, none⟩)] w0 (fun v w' => ∃ (r0 : Bool), v = vb r0 ∧ Q r0 ∧ Gr w0 w' none) := by
  have H : Q (h_.Name == fv2) := h
  clear h
  have hc0 := Ct.init hO
  refine Ret_enter Try.func96 rfl 8 rfl [.tmp 3] rfl rfl ?_
  refine W_seq ?_
  refine W_reg ?_
  refine L_box [vs h_.Name, vi h_.At] rfl fun w4 b5 hl7 hu8 g6 hx9 => ?_
  have h11 := Fb.mk hc0.ok hl7 hx9
  have hc12 := hc0.k0 g6
  refine L_pu (P_assign (vb false) rfl) ?_
  refine L_nil ?_
  refine W_seq ?_
  refine W_reg ?_
  refine L_pu (P_fa fa95_0 ⟨b5, 0, none⟩ ⟨b5, 0, none⟩ rfl rfl) ?_
  refine L_pu (P_ld ag9 cL ⟨b5, 0, none⟩ (vs h_.Name) rfl (h11.cell rfl)) ?_
  have h13 := (hp1.st hc12.st)
  refine L_pu (P_ld ag9 cL ⟨b, 0, none⟩ (vs fv2) rfl (h13.cell rfl)) ?_
  refine L_pu (P_scmp h_.Name fv2 (h_.Name == fv2) rfl rfl rfl) ?_
  refine L_pu (P_assign (vb (h_.Name == fv2)) rfl) ?_
  refine L_nil ?_
  refine W_ret ?_
  exact ⟨[vb (h_.Name == fv2)], ⟨_, rfl, rfl⟩, h_.Name == fv2, rfl, H, hc12.gr⟩
def impl_Repo_head_1.m (h_ : Head) (fv2 : Str) : Bool := (h_.Name == fv2)
theorem impl_Repo_head_1.fn (h_ : Head) (fv2 : Str) : impl_Repo_head_1.E h_ fv2 (fun r => r = impl_Repo_head_1.m h_ fv2) := by
  unfold impl_Repo_head_1.E impl_Repo_head_1.m
  rfl
end Go.Proofs.Ythkeboifjlnjjaa

namespace Go.Proofs.Ythkeboifjlnjjaa
open Go.RowKit
set_option linter.unusedVariables false
def slices_IndexFunc_Head.E (s : List Head) (f : Head → Bool) (f_ok : Head → Prop) (Q : Int → Prop) : Prop :=
  (∃ (I23 : Int → Prop) (mu24 : Int → Nat), I23 0 ∧ ∀ (v2 : Int), I23 v2 → (if decide (v2 < (s.length : Int)) then ((0 : Int) ≤ v2 ∧ v2 < (s.length : Int)) ∧ (f_ok (nth s v2)) ∧ (if (f (nth s v2)) then Q v2 else (I64 (v2 + 1)) ∧ I23 (v2 + 1) ∧ mu24 (v2 + 1) < mu24 v2) else Q (-1)))
set_option maxHeartbeats 8000000 in
set_option maxRecDepth 100000 in
theorem slices_IndexFunc_Head.calls {O : Ob} (w0 : World) (hO : Ok w0 O) (s : List Head) (A1 : Option Addr) (n2 c3 : Nat) (hp4 : Sl kHead w0 (Fr O) (.slice A1 n2 c3) s) (fg6 : FuncId) (fc7 : List Value) (f : Head → Bool) (f_ok : Head → Prop) (hgo8 : Goes Try.prog fg6) (hf9 : ∀ (w : World) (L : Ob), Ct none w0 w L O → ∀ (x0_ : Head) (hs10 : Lim x0_.Name), f_ok x0_ → Ret Try.prog fg6 ([.agg #[vs x0_.Name, vi x0_.At]] ++ fc7) w (fun v w' => v = vb (f x0_) ∧ Gr w w' none)) (Q : Int → Prop) (h : slices_IndexFunc_Head.E s f f_ok Q) :
    Ret Try.prog 95 [.slice A1 n2 c3, .func (.func fg6) #[] fc7.toArray] w0 (fun v w' => ∃ (r0 : Int), v = vi r0 ∧ Q r0 ∧ Gr w0 w' none) := by
  have H : (∃ (I23 : Int → Prop) (mu24 : Int → Nat), I23 0 ∧ ∀ (v2 : Int), I23 v2 → (if decide (v2 < (s.length : Int)) then ((0 : Int) ≤ v2 ∧ v2 < (s.length : Int)) ∧ (f_ok (nth s v2)) ∧ (if (f (nth s v2)) then Q v2 else (I64 (v2 + 1)) ∧ I23 (v2 + 1) ∧ mu24 (v2 + 1) < mu24 v2) else Q (-1))) := h
  clear h
  have hc0 := Ct.init hO
  refine Ret_enter Try.func95 rfl 19 rfl [.tmp 4] rfl rfl ?_
  refine W_seq ?_
  refine W_reg ?_
  refine L_pu (P_assign (vi 0) rfl) ?_
  refine L_nil ?_
  refine W_seq ?_
  refine W_seq ?_
  refine W_reg ?_
  refine L_pu (P_move (.slice A1 n2 c3) rfl) ?_
  have hl10 := hp4.le
  refine L_pu (P_len Try.underlying44 A1 n2 c3 hp4.len rfl) ?_
  refine L_pu (P_move (vi 0) rfl) ?_
  refine L_nil ?_
  refine W_block ?_
  obtain ⟨I23, mu24, hI25, H⟩ := H
  refine W_loop (α := Int) (fun (sv__ : Int) t w19 => match sv__ with | v2 => I23 v2 ∧ Has t [(0, .slice A1 n2 c3), (1, .func (.func fg6) #[] fc7.toArray), (7, vi (s.length : Int)), (8, vi v2)] ∧ Ct none w0 w19 [] O ∧ Sl kHead w19 (Fr ([] ++ O)) (.slice A1 n2 c3) s) (fun (sv__ : Int) => match sv__ with | v2 => mu24 v2) 0 ⟨hI25, ⟨rfl, rfl, rfl, rfl, trivial⟩, hc0, hp4⟩ ?_
  rintro v2 _ w19 ⟨hI25, hh27, hc21, h22⟩
  obtain ⟨u28, rfl⟩ := Has.ins hh27
  have H := H v2 hI25
  refine W_seq ?_
  refine W_reg ?_
  refine L_pu (P_cmp v2 (s.length : Int) (decide (v2 < (s.length : Int))) rfl rfl rfl) ?_
  refine L_nil ?_
  refine W_seq ?_
  refine W_cond (decide (v2 < (s.length : Int))) rfl (fun hq29 => ?_) (fun hq29 => ?_)
  · have H := ite_t H hq29
    refine W_skip ?_
    refine W_seq ?_
    refine W_block ?_
    refine W_seq ?_
    refine W_reg ?_
    refine L_pu (P_move (vi v2) rfl) ?_
    refine L_pu (P_assign (vi v2) rfl) ?_
    refine L_nil ?_
    refine W_seq ?_
    refine W_reg ?_
    refine L_pu (P_move (.func (.func fg6) #[] fc7.toArray) rfl) ?_
    refine L_pu (P_move (.slice A1 n2 c3) rfl) ?_
    refine L_pu (P_move (vi v2) rfl) ?_
    obtain ⟨hb30, H⟩ := H
    obtain ⟨ad31, cs32, hA33, hS36, hR34, hcl35⟩ := h22.get default (by decide) v2 hb30
    obtain ⟨rfl, hs37⟩ := kHead.op hR34
    refine L_pu (P_ia Try.underlying44 se44 A1 ad31 n2 c3 h22.len v2 rfl hA33 rfl hb30) ?_
    refine L_pu (P_lda ag95 sz95 cL (ad31.add (v2.toNat * 2)) [vs ((nth s v2).Name), vi ((nth s v2).At)] rfl rfl hcl35) ?_
    obtain ⟨hb38, H⟩ := H
    refine L_callv hgo8 fc7 rfl [.agg #[vs ((nth s v2).Name), vi ((nth s v2).At)]] rfl ((hf9 w19 [] hc21 (nth s v2) hs37 hb38).mono ?_)
    rintro _ w39 ⟨rfl, g40⟩
    have hc42 := hc21.k0 g40
    refine L_nil ?_
    refine W_cond (f (nth s v2)) rfl (fun hq43 => ?_) (fun hq43 => ?_)
    · have H := ite_t H hq43
      refine W_seq ?_
      refine W_reg ?_
      refine L_pu (P_move (vi v2) rfl) ?_
      refine L_pu (P_assign (vi v2) rfl) ?_
      refine L_nil ?_
      refine W_ret ?_
      exact ⟨[vi v2], ⟨_, rfl, rfl⟩, v2, rfl, H, hc42.gr⟩
    · have H := ite_f H hq43
      refine W_skip ?_
      refine W_reg ?_
      obtain ⟨hb44, H⟩ := H
      refine L_pu (P_add v2 1 rfl rfl hb44) ?_
      refine L_pu (P_move (vi (v2 + 1)) rfl) ?_
      refine L_nil ?_
      obtain ⟨hI45, hm46⟩ := H
      exact ⟨v2 + 1, hm46, hI45, ⟨rfl, rfl, rfl, rfl, trivial⟩, hc42, (h22.st (.new _ g40))⟩
  · have H := ite_f H hq29
    refine W_exit (xin_hit ?_)
    refine W_seq ?_
    refine W_reg ?_
    refine L_pu (P_assign (vi (-1)) rfl) ?_
    refine L_nil ?_
    refine W_ret ?_
    exact ⟨[vi (-1)], ⟨_, rfl, rfl⟩, (-1), rfl, H, hc21.gr⟩
end Go.Proofs.Ythkeboifjlnjjaa

namespace Go.Proofs.Ythkeboifjlnjjaa
set_option linter.unusedVariables false
set_option linter.unusedSimpArgs false
set_option linter.unusedSectionVars false
theorem slices_IndexFunc_Head.law (s : List Head) (f : Head → Bool) (ok : Head → Prop) (Q : Int → Prop) (hl : s.length ≤ 1048576) (hok : ∀ x ∈ s, ok x) (hq : Q (findN s.length fun j => f (nth s (j : Int)))) : slices_IndexFunc_Head.E s f ok Q := by
  unfold slices_IndexFunc_Head.E
  refine loop_find s.length (fun j => f (nth s (j : Int))) hq (fun I mu k hk h1 h2 => ⟨by omega, hok _ (nth_mem s hk), ?_⟩)
  cases h : f (nth s (k : Int)) with
  | true => rw [if_pos rfl]; exact h1 h
  | false => rw [if_neg (by decide)]; obtain ⟨i1, i2⟩ := h2 h; exact ⟨by unfold I64; omega, i1, i2⟩
end Go.Proofs.Ythkeboifjlnjjaa

namespace Go.Proofs.Ythkeboifjlnjjaa
open Go.RowKit
set_option linter.unusedVariables false
def impl_Repo_head.E (r : Repo) (name : Str) (Q : Int → Prop) : Prop :=
  (∃ (f : Head → Bool) (f_ok : Head → Prop), (∀ x0_, f_ok x0_ → impl_Repo_head_1.E x0_ name (fun r => r = f x0_)) ∧ slices_IndexFunc_Head.E r.Heads f f_ok (fun r2 => Q r2))
set_option maxHeartbeats 8000000 in
set_option maxRecDepth 100000 in
theorem impl_Repo_head.calls {O : Ob} (w0 : World) (hO : Ok w0 O) (r : Repo) (A1 : Option Addr) (n2 c3 : Nat) (A6 : Option Addr) (n7 c8 : Nat) (hp4 : Sl kCommit w0 (Fr O) (.slice A1 n2 c3) r.Commits) (hp9 : Sl kHead w0 (Fr O) (.slice A6 n7 c8) r.Heads) (name : Str) (hs11 : Lim name) (Q : Int → Prop) (h : impl_Repo_head.E r name Q) :
    Ret Try.prog 64 [.agg #[.slice A1 n2 c3, .slice A6 n7 c8], vs name] w0 (fun v w' => ∃ (r0 : Int), v = vi r0 ∧ Q r0 ∧ Gr w0 w' none) := by
  have H : (∃ (f : Head → Bool) (f_ok : Head → Prop), (∀ x0_, f_ok x0_ → impl_Repo_head_1.E x0_ name (fun r => r = f x0_)) ∧ slices_IndexFunc_Head.E r.Heads f f_ok (fun r2 => Q r2)) := h
  clear h
  have hc0 := Ct.init hO
  refine Ret_enter Try.func64 rfl 9 rfl [.tmp 4] rfl rfl ?_
  refine W_seq ?_
  refine W_reg ?_
  refine L_box [.slice A1 n2 c3, .slice A6 n7 c8] rfl fun w12 b13 hl15 hu16 g14 hx17 => ?_
  have h19 := Fb.mk hc0.ok hl15 hx17
  have hc20 := hc0.k0 g14
  refine L_box [vs name] rfl fun w21 b22 hl24 hu25 g23 hx26 => ?_
  have h28 := Fb.mk hc20.ok hl24 hx26
  have hc29 := hc20.k0 g23
  refine L_pu (P_assign (vi 0) rfl) ?_
  refine L_nil ?_
  refine W_seq ?_
  refine W_reg ?_
  refine L_pu (P_fa fa46_1 ⟨b13, 0, none⟩ ⟨b13, 1, none⟩ rfl rfl) ?_
  have h30 := (h19.st (.new _ g23))
  refine L_pu (P_ld ag44 cL ⟨b13, 1, none⟩ (.slice A6 n7 c8) rfl (h30.cell rfl)) ?_
  refine L_pu (P_func [.pointer (some ⟨b22, 0, none⟩)] rfl) ?_
  obtain ⟨f, f_ok, hE31, H⟩ := H
  have hf32 : ∀ (w : World) (L : Ob), Ct none w21 w L ([] ++ O) → ∀ (x0_ : Head) (hs32 : Lim x0_.Name), f_ok x0_ → Ret Try.prog 96 ([.agg #[vs x0_.Name, vi x0_.At]] ++ [.pointer (some ⟨b22, 0, none⟩)]) w (fun v w' => v = vb (f x0_) ∧ Gr w w' none) := by
    intro w L c x0_ hs32 hok
    refine (impl_Repo_head_1.calls w c.ok x0_ hs32 b22 name hs11 (h28.st c.st) _ (hE31 x0_ hok)).mono ?_
    rintro _ w2 ⟨r, rfl, rfl, g2⟩
    exact ⟨rfl, g2⟩
  refine L_call go95 [.slice A6 n7 c8, .func (.func 96) #[] #[.pointer (some ⟨b22, 0, none⟩)]] rfl ((slices_IndexFunc_Head.calls w21 hc29.ok r.Heads A6 n7 c8 (hp9.st hc29.st) 96 [.pointer (some ⟨b22, 0, none⟩)] f f_ok go96 hf32 _ H).mono ?_)
  rintro _ w33 ⟨r2, rfl, H, g34⟩
  have hc38 := hc29.k0 g34
  refine L_pu (P_assign (vi r2) rfl) ?_
  refine L_nil ?_
  refine W_ret ?_
  exact ⟨[vi r2], ⟨_, rfl, rfl⟩, r2, rfl, H, hc38.gr⟩
end Go.Proofs.Ythkeboifjlnjjaa

namespace Go.Proofs.Ythkeboifjlnjjaa
set_option linter.unusedVariables false
set_option linter.unusedSimpArgs false
set_option linter.unusedSectionVars false
theorem impl_Repo_head.law (r : Repo) (name : Str) (Q : Int → Prop) (hb : bulk r ≤ 1048576) (hq : Q (findHead r name)) : impl_Repo_head.E r name Q := by
  unfold impl_Repo_head.E
  have b1 : bulk r = bulk r.Commits + bulk r.Heads := rfl
  have l1 := bulk_len r.Heads
  refine ⟨fun x => decide (x.Name = name), fun _ => True, fun x _ => ?_, slices_IndexFunc_Head.law _ _ _ _ (by omega) (fun x _ => trivial) hq⟩
  unfold impl_Repo_head_1.E
  show (x.Name == name) = decide (x.Name = name)
  rw [Bool.eq_iff_iff, beq_iff_eq, decide_eq_true_eq]
end Go.Proofs.Ythkeboifjlnjjaa

namespace Go.Proofs.Ythkeboifjlnjjaa
open Go.RowKit
set_option linter.unusedVariables false
def impl_Repo_version.E (r : Repo) (at_ : Int) (Q : Bool → Prop) : Prop :=
  ((r.Commits.length : Int) ≤ 9223372036854775807 → I64 ((r.Commits.length : Int) - 1)) ∧ impl_within.E at_ 0 ((r.Commits.length : Int) - 1) (fun r2 => Q r2)
set_option maxHeartbeats 8000000 in
set_option maxRecDepth 100000 in
theorem impl_Repo_version.calls {O : Ob} (w0 : World) (hO : Ok w0 O) (r : Repo) (A1 : Option Addr) (n2 c3 : Nat) (A6 : Option Addr) (n7 c8 : Nat) (hp4 : Sl kCommit w0 (Fr O) (.slice A1 n2 c3) r.Commits) (hp9 : Sl kHead w0 (Fr O) (.slice A6 n7 c8) r.Heads) (at_ : Int) (Q : Bool → Prop) (h : impl_Repo_version.E r at_ Q) :
    Ret Try.prog 65 [.agg #[.slice A1 n2 c3, .slice A6 n7 c8], vi at_] w0 (fun v w' => ∃ (r0 : Bool), v = vb r0 ∧ Q r0 ∧ Gr w0 w' none) := by
  have H : ((r.Commits.length : Int) ≤ 9223372036854775807 → I64 ((r.Commits.length : Int) - 1)) ∧ impl_within.E at_ 0 ((r.Commits.length : Int) - 1) (fun r2 => Q r2) := h
  clear h
  have hc0 := Ct.init hO
  refine Ret_enter Try.func65 rfl 11 rfl [.tmp 4] rfl rfl ?_
  refine W_seq ?_
  refine W_reg ?_
  refine L_box [.slice A1 n2 c3, .slice A6 n7 c8] rfl fun w11 b12 hl14 hu15 g13 hx16 => ?_
  have h18 := Fb.mk hc0.ok hl14 hx16
  have hc19 := hc0.k0 g13
  refine L_pu (P_assign (vb false) rfl) ?_
  refine L_nil ?_
  refine W_seq ?_
  refine W_reg ?_
  refine L_pu (P_move (vi at_) rfl) ?_
  refine L_pu (P_fa fa46_0 ⟨b12, 0, none⟩ ⟨b12, 0, none⟩ rfl rfl) ?_
  refine L_pu (P_ld ag43 cL ⟨b12, 0, none⟩ (.slice A1 n2 c3) rfl (h18.cell rfl)) ?_
  have hl20 := (hp4.st hc19.st).le
  refine L_pu (P_len Try.underlying43 A1 n2 c3 (hp4.st hc19.st).len rfl) ?_
  obtain ⟨hb21, H⟩ := H
  have hi22 := hb21 (len_le hl20)
  refine L_pu (P_sub (r.Commits.length : Int) 1 rfl rfl hi22) ?_
  refine L_call go60 [vi at_, vi 0, vi ((r.Commits.length : Int) - 1)] rfl ((impl_within.calls w11 hc19.ok at_ 0 ((r.Commits.length : Int) - 1) _ H).mono ?_)
  rintro _ w23 ⟨r2, rfl, H, g24, _⟩
  have hc28 := hc19.k0 g24
  refine L_pu (P_assign (vb r2) rfl) ?_
  refine L_nil ?_
  refine W_ret ?_
  exact ⟨[vb r2], ⟨_, rfl, rfl⟩, r2, rfl, H, hc28.gr⟩
end Go.Proofs.Ythkeboifjlnjjaa

namespace Go.Proofs.Ythkeboifjlnjjaa
set_option linter.unusedVariables false
set_option linter.unusedSimpArgs false
set_option linter.unusedSectionVars false
theorem impl_Repo_version.law (r : Repo) (k : Int) (Q : Bool → Prop) (hq : Q (decide (0 ≤ k) && decide (k < (r.Commits.length : Int)))) : impl_Repo_version.E r k Q := by
  unfold impl_Repo_version.E
  refine ⟨fun _ => by unfold I64; omega, impl_within.law _ _ _ _ ?_⟩
  have : decide (k ≤ (r.Commits.length : Int) - 1) = decide (k < (r.Commits.length : Int)) := decide_eq_decide.2 (by omega)
  rw [this]; exact hq
end Go.Proofs.Ythkeboifjlnjjaa

namespace Go.Proofs.Ythkeboifjlnjjaa
open Go.RowKit
set_option linter.unusedVariables false
def impl_RepoOk.E (r : Repo) (Q : Bool → Prop) : Prop :=
  impl_within.E (r.Commits.length : Int) 1 14 (fun r2 => (if !r2 then Q false else impl_within.E (r.Heads.length : Int) 1 4 (fun r3 => (if !r3 then Q false else (∃ (I59 : Int → Prop) (mu60 : Int → Nat), I59 0 ∧ ∀ (v2 : Int), I59 v2 → (if decide (v2 < (r.Commits.length : Int)) then ((0 : Int) ≤ v2 ∧ v2 < (r.Commits.length : Int)) ∧ impl_SheetOk.E ((nth r.Commits v2).Sheet) (fun r4 => (if !r4 then Q false else impl_WordOk.E ((nth r.Commits v2).Note) (fun r5 => (if !r5 then Q false else impl_Repo_commit.E r (nth r.Commits v2) (fun r6 => (if r6 != v2 then Q false else (if (v2 == 0) != ((((nth r.Commits v2).Up).length : Int) == 0) then Q false else (if decide ((((nth r.Commits v2).Up).length : Int) > 2) then Q false else (∃ (I170 : Int → Prop) (mu171 : Int → Nat), I170 0 ∧ ∀ (v4 : Int), I170 v4 → (if decide (v4 < (((nth r.Commits v2).Up).length : Int)) then ((0 : Int) ≤ v4 ∧ v4 < (((nth r.Commits v2).Up).length : Int)) ∧ (I64 (v2 - 1)) ∧ impl_within.E (nth ((nth r.Commits v2).Up) v4) 0 (v2 - 1) (fun r7 => (if !r7 then Q false else ((0 : Int) ≤ 0 ∧ (0 : Int) ≤ v4 ∧ v4 ≤ (((nth r.Commits v2).Up).length : Int)) ∧ slices_Contains_int.E ((((nth r.Commits v2).Up).drop (0 : Int).toNat).take (v4.toNat - (0 : Int).toNat)) (nth ((nth r.Commits v2).Up) v4) (fun r8 => (if r8 then Q false else (I64 (v4 + 1)) ∧ I170 (v4 + 1) ∧ mu171 (v4 + 1) < mu171 v4)))) else (I64 (v2 + 1)) ∧ I59 (v2 + 1) ∧ mu60 (v2 + 1) < mu60 v2)))))))))) else (∃ (I245 : Int → Prop) (mu246 : Int → Nat), I245 0 ∧ ∀ (v6 : Int), I245 v6 → (if decide (v6 < (r.Heads.length : Int)) then ((0 : Int) ≤ v6 ∧ v6 < (r.Heads.length : Int)) ∧ impl_WordOk.E ((nth r.Heads v6).Name) (fun r9 => (if !r9 then Q false else impl_Repo_head.E r ((nth r.Heads v6).Name) (fun r10 => (if r10 != v6 then Q false else impl_Repo_version.E r ((nth r.Heads v6).At) (fun r11 => (if !r11 then Q false else (I64 (v6 + 1)) ∧ I245 (v6 + 1) ∧ mu246 (v6 + 1) < mu246 v6)))))) else Q true))))))))
set_option maxHeartbeats 8000000 in
set_option maxRecDepth 100000 in
theorem impl_RepoOk.calls {O : Ob} (w0 : World) (hO : Ok w0 O) (r : Repo) (A1 : Option Addr) (n2 c3 : Nat) (A6 : Option Addr) (n7 c8 : Nat) (hp4 : Sl kCommit w0 (Fr O) (.slice A1 n2 c3) r.Commits) (hp9 : Sl kHead w0 (Fr O) (.slice A6 n7 c8) r.Heads) (Q : Bool → Prop) (h : impl_RepoOk.E r Q) :
    Ret Try.prog 24 [.agg #[.slice A1 n2 c3, .slice A6 n7 c8]] w0 (fun v w' => ∃ (r0 : Bool), v = vb r0 ∧ Q r0 ∧ Gr w0 w' none) := by
  have H : impl_within.E (r.Commits.length : Int) 1 14 (fun r2 => (if !r2 then Q false else impl_within.E (r.Heads.length : Int) 1 4 (fun r3 => (if !r3 then Q false else (∃ (I59 : Int → Prop) (mu60 : Int → Nat), I59 0 ∧ ∀ (v2 : Int), I59 v2 → (if decide (v2 < (r.Commits.length : Int)) then ((0 : Int) ≤ v2 ∧ v2 < (r.Commits.length : Int)) ∧ impl_SheetOk.E ((nth r.Commits v2).Sheet) (fun r4 => (if !r4 then Q false else impl_WordOk.E ((nth r.Commits v2).Note) (fun r5 => (if !r5 then Q false else impl_Repo_commit.E r (nth r.Commits v2) (fun r6 => (if r6 != v2 then Q false else (if (v2 == 0) != ((((nth r.Commits v2).Up).length : Int) == 0) then Q false else (if decide ((((nth r.Commits v2).Up).length : Int) > 2) then Q false else (∃ (I170 : Int → Prop) (mu171 : Int → Nat), I170 0 ∧ ∀ (v4 : Int), I170 v4 → (if decide (v4 < (((nth r.Commits v2).Up).length : Int)) then ((0 : Int) ≤ v4 ∧ v4 < (((nth r.Commits v2).Up).length : Int)) ∧ (I64 (v2 - 1)) ∧ impl_within.E (nth ((nth r.Commits v2).Up) v4) 0 (v2 - 1) (fun r7 => (if !r7 then Q false else ((0 : Int) ≤ 0 ∧ (0 : Int) ≤ v4 ∧ v4 ≤ (((nth r.Commits v2).Up).length : Int)) ∧ slices_Contains_int.E ((((nth r.Commits v2).Up).drop (0 : Int).toNat).take (v4.toNat - (0 : Int).toNat)) (nth ((nth r.Commits v2).Up) v4) (fun r8 => (if r8 then Q false else (I64 (v4 + 1)) ∧ I170 (v4 + 1) ∧ mu171 (v4 + 1) < mu171 v4)))) else (I64 (v2 + 1)) ∧ I59 (v2 + 1) ∧ mu60 (v2 + 1) < mu60 v2)))))))))) else (∃ (I245 : Int → Prop) (mu246 : Int → Nat), I245 0 ∧ ∀ (v6 : Int), I245 v6 → (if decide (v6 < (r.Heads.length : Int)) then ((0 : Int) ≤ v6 ∧ v6 < (r.Heads.length : Int)) ∧ impl_WordOk.E ((nth r.Heads v6).Name) (fun r9 => (if !r9 then Q false else impl_Repo_head.E r ((nth r.Heads v6).Name) (fun r10 => (if r10 != v6 then Q false else impl_Repo_version.E r ((nth r.Heads v6).At) (fun r11 => (if !r11 then Q false else (I64 (v6 + 1)) ∧ I245 (v6 + 1) ∧ mu246 (v6 + 1) < mu246 v6)))))) else Q true)))))))) := h
  clear h
  have hc0 := Ct.init hO
  refine Ret_enter Try.func24 rfl 112 rfl [.tmp 2] rfl rfl ?_
  refine W_seq ?_
  refine W_reg ?_
  refine L_box [.slice A1 n2 c3, .slice A6 n7 c8] rfl fun w11 b12 hl14 hu15 g13 hx16 => ?_
  have h18 := Fb.mk hc0.ok hl14 hx16
  have hc19 := hc0.k0 g13
  refine L_pu (P_assign (vb false) rfl) ?_
  refine L_nil ?_
  refine W_seq ?_
  refine W_seq ?_
  refine W_reg ?_
  refine L_pu (P_fa fa46_0 ⟨b12, 0, none⟩ ⟨b12, 0, none⟩ rfl rfl) ?_
  refine L_pu (P_ld ag43 cL ⟨b12, 0, none⟩ (.slice A1 n2 c3) rfl (h18.cell rfl)) ?_
  have hl20 := (hp4.st hc19.st).le
  refine L_pu (P_len Try.underlying43 A1 n2 c3 (hp4.st hc19.st).len rfl) ?_
  refine L_call go60 [vi (r.Commits.length : Int), vi 1, vi 14] rfl ((impl_within.calls w11 hc19.ok (r.Commits.length : Int) 1 14 _ H).mono ?_)
  rintro _ w21 ⟨r2, rfl, H, g22, _⟩
  have hc26 := hc19.k0 g22
  refine L_pu (P_not r2 rfl) ?_
  refine L_pu (P_move (vb (!r2)) rfl) ?_
  rcases bool_or (!r2) with hq27 | hq27
  · have H := ite_t H hq27
    refine L_pass (dj := 14) rfl rfl (.inl (by exact congrArg Value.bool hq27)) ?_
    refine L_pass (dj := 14) rfl rfl (.inl (by exact congrArg Value.bool hq27)) ?_
    refine L_pass (dj := 14) rfl rfl (.inl (by exact congrArg Value.bool hq27)) ?_
    refine L_pass (dj := 14) rfl rfl (.inl (by exact congrArg Value.bool hq27)) ?_
    refine L_pass (dj := 14) rfl rfl (.inl (by exact congrArg Value.bool hq27)) ?_
    refine L_pu (P_pick true (vb true) (by exact congrArg Value.bool hq27) rfl) ?_
    refine L_nil ?_
    refine W_ct (b := true) rfl rfl ?_
    refine W_seq ?_
    refine W_reg ?_
    refine L_pu (P_assign (vb false) rfl) ?_
    refine L_nil ?_
    refine W_ret ?_
    exact ⟨[vb false], ⟨_, rfl, rfl⟩, false, rfl, H, hc26.gr⟩
  · have H := ite_f H hq27
    refine L_run (dj := 14) rfl rfl (by exact congrArg Value.bool hq27) ?_
    refine L_pu (P_fa fa46_1 ⟨b12, 0, none⟩ ⟨b12, 1, none⟩ rfl rfl) ?_
    refine L_run (dj := 14) rfl rfl (by exact congrArg Value.bool hq27) ?_
    have h28 := (h18.st (.new _ g22))
    refine L_pu (P_ld ag44 cL ⟨b12, 1, none⟩ (.slice A6 n7 c8) rfl (h28.cell rfl)) ?_
    refine L_run (dj := 14) rfl rfl (by exact congrArg Value.bool hq27) ?_
    have hl29 := (hp9.st hc26.st).le
    refine L_pu (P_len Try.underlying44 A6 n7 c8 (hp9.st hc26.st).len rfl) ?_
    refine L_run (dj := 14) rfl rfl (by exact congrArg Value.bool hq27) ?_
    refine L_call go60 [vi (r.Heads.length : Int), vi 1, vi 4] rfl ((impl_within.calls w21 hc26.ok (r.Heads.length : Int) 1 4 _ H).mono ?_)
    rintro _ w30 ⟨r3, rfl, H, g31, _⟩
    have hc35 := hc26.k0 g31
    refine L_run (dj := 14) rfl rfl (by exact congrArg Value.bool hq27) ?_
    refine L_pu (P_not r3 rfl) ?_
    refine L_pu (P_pick false (vb (!r3)) (by exact congrArg Value.bool hq27) rfl) ?_
    refine L_nil ?_
    refine W_cond (!r3) rfl (fun hq36 => ?_) (fun hq36 => ?_)
    · have H := ite_t H hq36
      refine W_seq ?_
      refine W_reg ?_
      refine L_pu (P_assign (vb false) rfl) ?_
      refine L_nil ?_
      refine W_ret ?_
      exact ⟨[vb false], ⟨_, rfl, rfl⟩, false, rfl, H, hc35.gr⟩
    · have H := ite_f H hq36
      refine W_skip ?_
      refine W_seq ?_
      refine W_seq ?_
      refine W_reg ?_
      refine L_pu (P_fa fa46_0 ⟨b12, 0, none⟩ ⟨b12, 0, none⟩ rfl rfl) ?_
      have h37 := (h28.st (.new _ g31))
      refine L_pu (P_ld ag43 cL ⟨b12, 0, none⟩ (.slice A1 n2 c3) rfl (h37.cell rfl)) ?_
      refine L_pu (P_len Try.underlying43 A1 n2 c3 (hp4.st hc35.st).len rfl) ?_
      refine L_pu (P_move (vi 0) rfl) ?_
      refine L_nil ?_
      refine W_block ?_
      obtain ⟨I59, mu60, hI61, H⟩ := H
      refine W_loop (α := Int) (fun (sv__ : Int) t w52 => match sv__ with | v2 => I59 v2 ∧ Has t [(1, .pointer (some ⟨b12, 0, none⟩)), (22, .slice A1 n2 c3), (23, vi (r.Commits.length : Int)), (24, vi v2)] ∧ Ct none w0 w52 [] O ∧ Sl kCommit w52 (Fr ([] ++ O)) (.slice A1 n2 c3) r.Commits ∧ Sl kHead w52 (Fr ([] ++ O)) (.slice A6 n7 c8) r.Heads ∧ Fb w52 ([] ++ O) b12 [.slice A1 n2 c3, .slice A6 n7 c8]) (fun (sv__ : Int) => match sv__ with | v2 => mu60 v2) 0 ⟨hI61, ⟨rfl, rfl, rfl, rfl, trivial⟩, hc35, (hp4.st hc35.st), (hp9.st hc35.st), h37⟩ ?_
      rintro v2 _ w52 ⟨hI61, hh63, hc55, h56, h57, h58⟩
      obtain ⟨u64, rfl⟩ := Has.ins hh63
      have H := H v2 hI61
      refine W_seq ?_
      refine W_reg ?_
      refine L_pu (P_cmp v2 (r.Commits.length : Int) (decide (v2 < (r.Commits.length : Int))) rfl rfl rfl) ?_
      refine L_nil ?_
      refine W_seq ?_
      refine W_cond (decide (v2 < (r.Commits.length : Int))) rfl (fun hq65 => ?_) (fun hq65 => ?_)
      · have H := ite_t H hq65
        refine W_skip ?_
        refine W_seq ?_
        refine W_block ?_
        refine W_seq ?_
        refine W_reg ?_
        refine L_pu (P_move (vi v2) rfl) ?_
        obtain ⟨hb66, H⟩ := H
        obtain ⟨ad67, cs68, hA69, hS72, hR70, hcl71⟩ := h56.get default (by decide) v2 hb66
        obtain ⟨A73, n74, c75, A78, n79, c80, rfl, h76, h81, hs83⟩ := kCommit.op hR70
        refine L_pu (P_ia Try.underlying43 se43 A1 ad67 n2 c3 h56.len v2 rfl hA69 rfl hb66) ?_
        refine L_pu (P_lda ag93 sz93 cL (ad67.add (v2.toNat * 3)) [.slice A73 n74 c75, .slice A78 n79 c80, vs ((nth r.Commits v2).Note)] rfl rfl hcl71) ?_
        refine L_alloc [.slice none 0 0, .slice none 0 0, vs []] ze93 fun w84 b85 hl87 hu88 g86 hx89 => ?_
        have hc91 := hc55.own g86 (some b85) (oglt hl87 hu88)
        refine L_pu (P_assign (vi v2) rfl) ?_
        refine L_stb b85 0 [.slice none 0 0, .slice none 0 0, vs ([] : Str)] [.slice A73 n74 c75, .slice A78 n79 c80, vs ((nth r.Commits v2).Note)] [.slice A73 n74 c75, .slice A78 n79 c80, vs ((nth r.Commits v2).Note)] rfl hx89 rfl sz93 rfl rfl rfl fun w92 g93 hx94 => ?_
        have hc95 := hc91.wr 0 rfl g93
        refine L_nil ?_
        refine W_seq ?_
        refine W_seq ?_
        refine W_reg ?_
        refine L_pu (P_fa fa93_1 ⟨b85, 0, none⟩ ⟨b85, 1, none⟩ rfl rfl) ?_
        refine L_pu (P_ld ag91 cL ⟨b85, 1, none⟩ (.slice A78 n79 c80) rfl (hx94.cell rfl)) ?_
        have h96 := ((h81.st (.own _ _ g86 (oge hl87))).st (.wl (L := [some b85]) (O := O) (j := 0) rfl g93))
        refine L_call go61 [.slice A78 n79 c80] rfl ((impl_SheetOk.calls w92 hc95.ok ((nth r.Commits v2).Sheet) A78 n79 c80 h96 _ H).mono ?_)
        rintro _ w97 ⟨r4, rfl, H, g98⟩
        have hc102 := hc95.k0 g98
        refine L_pu (P_not r4 rfl) ?_
        refine L_pu (P_move (vb (!r4)) rfl) ?_
        rcases bool_or (!r4) with hq103 | hq103
        · have H := ite_t H hq103
          refine L_pass (dj := 33) rfl rfl (.inl (by exact congrArg Value.bool hq103)) ?_
          refine L_pass (dj := 33) rfl rfl (.inl (by exact congrArg Value.bool hq103)) ?_
          refine L_pass (dj := 33) rfl rfl (.inl (by exact congrArg Value.bool hq103)) ?_
          refine L_pass (dj := 33) rfl rfl (.inl (by exact congrArg Value.bool hq103)) ?_
          refine L_pu (P_pick true (vb true) (by exact congrArg Value.bool hq103) rfl) ?_
          refine L_pu (P_move (vb true) rfl) ?_
          refine L_pass (dj := 39) rfl rfl (.inl rfl) ?_
          refine L_pass (dj := 39) rfl rfl (.inl rfl) ?_
          refine L_pass (dj := 39) rfl rfl (.inl rfl) ?_
          refine L_pass (dj := 39) rfl rfl (.inl rfl) ?_
          refine L_pass (dj := 39) rfl rfl (.inl rfl) ?_
          refine L_pu (P_pick true (vb true) (by exact congrArg Value.bool rfl) rfl) ?_
          refine L_pu (P_move (vb true) rfl) ?_
          refine L_pass (dj := 46) rfl rfl (.inl rfl) ?_
          refine L_pass (dj := 46) rfl rfl (.inl rfl) ?_
          refine L_pass (dj := 46) rfl rfl (.inl rfl) ?_
          refine L_pass (dj := 46) rfl rfl (.inl rfl) ?_
          refine L_pass (dj := 46) rfl rfl (.inl rfl) ?_
          refine L_pass (dj := 46) rfl rfl (.inl rfl) ?_
          refine L_pass (dj := 46) rfl rfl (.inl rfl) ?_
          refine L_pu (P_pick true (vb true) (by exact congrArg Value.bool rfl) rfl) ?_
          refine L_pu (P_move (vb true) rfl) ?_
          refine L_pass (dj := 55) rfl rfl (.inl rfl) ?_
          refine L_pass (dj := 55) rfl rfl (.inl rfl) ?_
          refine L_pass (dj := 55) rfl rfl (.inl rfl) ?_
          refine L_pass (dj := 55) rfl rfl (.inl rfl) ?_
          refine L_pu (P_pick true (vb true) (by exact congrArg Value.bool rfl) rfl) ?_
          refine L_nil ?_
          refine W_ct (b := true) rfl rfl ?_
          refine W_seq ?_
          refine W_reg ?_
          refine L_pu (P_assign (vb false) rfl) ?_
          refine L_nil ?_
          refine W_ret ?_
          have hc104 := hc102.drop 0 rfl
          exact ⟨[vb false], ⟨_, rfl, rfl⟩, false, rfl, H, hc104.gr⟩
        · have H := ite_f H hq103
          refine L_run (dj := 33) rfl rfl (by exact congrArg Value.bool hq103) ?_
          refine L_pu (P_fa fa93_2 ⟨b85, 0, none⟩ ⟨b85, 2, none⟩ rfl rfl) ?_
          refine L_run (dj := 33) rfl rfl (by exact congrArg Value.bool hq103) ?_
          have h105 := (hx94.k0 g98)
          refine L_pu (P_ld ag9 cL ⟨b85, 2, none⟩ (vs ((nth r.Commits v2).Note)) rfl (h105.cell rfl)) ?_
          refine L_run (dj := 33) rfl rfl (by exact congrArg Value.bool hq103) ?_
          refine L_call go41 [vs ((nth r.Commits v2).Note)] rfl ((impl_WordOk.calls w97 hc102.ok ((nth r.Commits v2).Note) hs83 _ H).mono ?_)
          rintro _ w106 ⟨r5, rfl, H, g107⟩
          have hc111 := hc102.k0 g107
          refine L_run (dj := 33) rfl rfl (by exact congrArg Value.bool hq103) ?_
          refine L_pu (P_not r5 rfl) ?_
          refine L_pu (P_pick false (vb (!r5)) (by exact congrArg Value.bool hq103) rfl) ?_
          refine L_pu (P_move (vb (!r5)) rfl) ?_
          rcases bool_or (!r5) with hq112 | hq112
          · have H := ite_t H hq112
            refine L_pass (dj := 39) rfl rfl (.inl (by exact congrArg Value.bool hq112)) ?_
            refine L_pass (dj := 39) rfl rfl (.inl (by exact congrArg Value.bool hq112)) ?_
            refine L_pass (dj := 39) rfl rfl (.inl (by exact congrArg Value.bool hq112)) ?_
            refine L_pass (dj := 39) rfl rfl (.inl (by exact congrArg Value.bool hq112)) ?_
            refine L_pass (dj := 39) rfl rfl (.inl (by exact congrArg Value.bool hq112)) ?_
            refine L_pu (P_pick true (vb true) (by exact congrArg Value.bool hq112) rfl) ?_
            refine L_pu (P_move (vb true) rfl) ?_
            refine L_pass (dj := 46) rfl rfl (.inl rfl) ?_
            refine L_pass (dj := 46) rfl rfl (.inl rfl) ?_
            refine L_pass (dj := 46) rfl rfl (.inl rfl) ?_
            refine L_pass (dj := 46) rfl rfl (.inl rfl) ?_
            refine L_pass (dj := 46) rfl rfl (.inl rfl) ?_
            refine L_pass (dj := 46) rfl rfl (.inl rfl) ?_
            refine L_pass (dj := 46) rfl rfl (.inl rfl) ?_
            refine L_pu (P_pick true (vb true) (by exact congrArg Value.bool rfl) rfl) ?_
            refine L_pu (P_move (vb true) rfl) ?_
            refine L_pass (dj := 55) rfl rfl (.inl rfl) ?_
            refine L_pass (dj := 55) rfl rfl (.inl rfl) ?_
            refine L_pass (dj := 55) rfl rfl (.inl rfl) ?_
            refine L_pass (dj := 55) rfl rfl (.inl rfl) ?_
            refine L_pu (P_pick true (vb true) (by exact congrArg Value.bool rfl) rfl) ?_
            refine L_nil ?_
            refine W_ct (b := true) rfl rfl ?_
            refine W_seq ?_
            refine W_reg ?_
            refine L_pu (P_assign (vb false) rfl) ?_
            refine L_nil ?_
            refine W_ret ?_
            have hc113 := hc111.drop 0 rfl
            exact ⟨[vb false], ⟨_, rfl, rfl⟩, false, rfl, H, hc113.gr⟩
          · have H := ite_f H hq112
            refine L_run (dj := 39) rfl rfl (by exact congrArg Value.bool hq112) ?_
            have h114 := ((((h58.st (.own _ _ g86 (oge hl87))).st (.wl (L := [some b85]) (O := O) (j := 0) rfl g93)).st (.new _ g98)).st (.new _ g107))
            refine L_pu (P_lda ag46 sz46 cL ⟨b12, 0, none⟩ [.slice A1 n2 c3, .slice A6 n7 c8] rfl rfl (h114.cells (off := 0) rfl)) ?_
            refine L_run (dj := 39) rfl rfl (by exact congrArg Value.bool hq112) ?_
            have h115 := (h105.k0 g107)
            refine L_pu (P_lda ag93 sz93 cL ⟨b85, 0, none⟩ [.slice A73 n74 c75, .slice A78 n79 c80, vs ((nth r.Commits v2).Note)] rfl rfl (h115.cells (off := 0) rfl)) ?_
            refine L_run (dj := 39) rfl rfl (by exact congrArg Value.bool hq112) ?_
            have h116 := ((((h56.st (.own _ _ g86 (oge hl87))).st (.wl (L := [some b85]) (O := O) (j := 0) rfl g93)).st (.new _ g98)).st (.new _ g107))
            have h117 := ((((h57.st (.own _ _ g86 (oge hl87))).st (.wl (L := [some b85]) (O := O) (j := 0) rfl g93)).st (.new _ g98)).st (.new _ g107))
            have h118 := ((((h76.st (.own _ _ g86 (oge hl87))).st (.wl (L := [some b85]) (O := O) (j := 0) rfl g93)).st (.new _ g98)).st (.new _ g107))
            have h119 := ((h96.st (.new _ g98)).st (.new _ g107))
            refine L_call go62 [.agg #[.slice A1 n2 c3, .slice A6 n7 c8], .agg #[.slice A73 n74 c75, .slice A78 n79 c80, vs ((nth r.Commits v2).Note)]] rfl ((impl_Repo_commit.calls w106 hc111.ok r A1 n2 c3 A6 n7 c8 h116 h117 (nth r.Commits v2) A73 n74 c75 A78 n79 c80 h118 h119 hs83 _ H).mono ?_)
            rintro _ w120 ⟨r6, rfl, H, g121⟩
            have hc125 := hc111.k0 g121
            refine L_run (dj := 39) rfl rfl (by exact congrArg Value.bool hq112) ?_
            refine L_pu (P_move (vi v2) rfl) ?_
            refine L_run (dj := 39) rfl rfl (by exact congrArg Value.bool hq112) ?_
            refine L_pu (P_cmp r6 v2 (r6 != v2) rfl rfl rfl) ?_
            refine L_pu (P_pick false (vb (r6 != v2)) (by exact congrArg Value.bool hq112) rfl) ?_
            refine L_pu (P_move (vb (r6 != v2)) rfl) ?_
            rcases bool_or (r6 != v2) with hq126 | hq126
            · have H := ite_t H hq126
              refine L_pass (dj := 46) rfl rfl (.inl (by exact congrArg Value.bool hq126)) ?_
              refine L_pass (dj := 46) rfl rfl (.inl (by exact congrArg Value.bool hq126)) ?_
              refine L_pass (dj := 46) rfl rfl (.inl (by exact congrArg Value.bool hq126)) ?_
              refine L_pass (dj := 46) rfl rfl (.inl (by exact congrArg Value.bool hq126)) ?_
              refine L_pass (dj := 46) rfl rfl (.inl (by exact congrArg Value.bool hq126)) ?_
              refine L_pass (dj := 46) rfl rfl (.inl (by exact congrArg Value.bool hq126)) ?_
              refine L_pass (dj := 46) rfl rfl (.inl (by exact congrArg Value.bool hq126)) ?_
              refine L_pu (P_pick true (vb true) (by exact congrArg Value.bool hq126) rfl) ?_
              refine L_pu (P_move (vb true) rfl) ?_
              refine L_pass (dj := 55) rfl rfl (.inl rfl) ?_
              refine L_pass (dj := 55) rfl rfl (.inl rfl) ?_
              refine L_pass (dj := 55) rfl rfl (.inl rfl) ?_
              refine L_pass (dj := 55) rfl rfl (.inl rfl) ?_
              refine L_pu (P_pick true (vb true) (by exact congrArg Value.bool rfl) rfl) ?_
              refine L_nil ?_
              refine W_ct (b := true) rfl rfl ?_
              refine W_seq ?_
              refine W_reg ?_
              refine L_pu (P_assign (vb false) rfl) ?_
              refine L_nil ?_
              refine W_ret ?_
              have hc127 := hc125.drop 0 rfl
              exact ⟨[vb false], ⟨_, rfl, rfl⟩, false, rfl, H, hc127.gr⟩
            · have H := ite_f H hq126
              refine L_run (dj := 46) rfl rfl (by exact congrArg Value.bool hq126) ?_
              refine L_pu (P_move (vi v2) rfl) ?_
              refine L_run (dj := 46) rfl rfl (by exact congrArg Value.bool hq126) ?_
              refine L_pu (P_cmp v2 0 (v2 == 0) rfl rfl rfl) ?_
              refine L_run (dj := 46) rfl rfl (by exact congrArg Value.bool hq126) ?_
              refine L_pu (P_fa fa93_0 ⟨b85, 0, none⟩ ⟨b85, 0, none⟩ rfl rfl) ?_
              refine L_run (dj := 46) rfl rfl (by exact congrArg Value.bool hq126) ?_
              have h128 := (h115.k0 g121)
              refine L_pu (P_ld ag90 cL ⟨b85, 0, none⟩ (.slice A73 n74 c75) rfl (h128.cell rfl)) ?_
              refine L_run (dj := 46) rfl rfl (by exact congrArg Value.bool hq126) ?_
              have hl129 := (h118.st (.new _ g121)).le
              refine L_pu (P_len Try.underlying90 A73 n74 c75 (h118.st (.new _ g121)).len rfl) ?_
              refine L_run (dj := 46) rfl rfl (by exact congrArg Value.bool hq126) ?_
              refine L_pu (P_cmp (((nth r.Commits v2).Up).length : Int) 0 ((((nth r.Commits v2).Up).length : Int) == 0) rfl rfl rfl) ?_
              refine L_run (dj := 46) rfl rfl (by exact congrArg Value.bool hq126) ?_
              refine L_pu (P_bcmp Try.underlying4 (v2 == 0) ((((nth r.Commits v2).Up).length : Int) == 0) ((v2 == 0) != ((((nth r.Commits v2).Up).length : Int) == 0)) rfl rfl rfl) ?_
              refine L_pu (P_pick false (vb ((v2 == 0) != ((((nth r.Commits v2).Up).length : Int) == 0))) (by exact congrArg Value.bool hq126) rfl) ?_
              refine L_pu (P_move (vb ((v2 == 0) != ((((nth r.Commits v2).Up).length : Int) == 0))) rfl) ?_
              rcases bool_or ((v2 == 0) != ((((nth r.Commits v2).Up).length : Int) == 0)) with hq130 | hq130
              · have H := ite_t H hq130
                refine L_pass (dj := 55) rfl rfl (.inl (by exact congrArg Value.bool hq130)) ?_
                refine L_pass (dj := 55) rfl rfl (.inl (by exact congrArg Value.bool hq130)) ?_
                refine L_pass (dj := 55) rfl rfl (.inl (by exact congrArg Value.bool hq130)) ?_
                refine L_pass (dj := 55) rfl rfl (.inl (by exact congrArg Value.bool hq130)) ?_
                refine L_pu (P_pick true (vb true) (by exact congrArg Value.bool hq130) rfl) ?_
                refine L_nil ?_
                refine W_ct (b := true) rfl rfl ?_
                refine W_seq ?_
                refine W_reg ?_
                refine L_pu (P_assign (vb false) rfl) ?_
                refine L_nil ?_
                refine W_ret ?_
                have hc131 := hc125.drop 0 rfl
                exact ⟨[vb false], ⟨_, rfl, rfl⟩, false, rfl, H, hc131.gr⟩
              · have H := ite_f H hq130
                refine L_run (dj := 55) rfl rfl (by exact congrArg Value.bool hq130) ?_
                refine L_pu (P_fa fa93_0 ⟨b85, 0, none⟩ ⟨b85, 0, none⟩ rfl rfl) ?_
                refine L_run (dj := 55) rfl rfl (by exact congrArg Value.bool hq130) ?_
                refine L_pu (P_ld ag90 cL ⟨b85, 0, none⟩ (.slice A73 n74 c75) rfl (h128.cell rfl)) ?_
                refine L_run (dj := 55) rfl rfl (by exact congrArg Value.bool hq130) ?_
                refine L_pu (P_len Try.underlying90 A73 n74 c75 (h118.st (.new _ g121)).len rfl) ?_
                refine L_run (dj := 55) rfl rfl (by exact congrArg Value.bool hq130) ?_
                refine L_pu (P_cmp (((nth r.Commits v2).Up).length : Int) 2 (decide ((((nth r.Commits v2).Up).length : Int) > 2)) rfl rfl rfl) ?_
                refine L_pu (P_pick false (vb (decide ((((nth r.Commits v2).Up).length : Int) > 2))) (by exact congrArg Value.bool hq130) rfl) ?_
                refine L_nil ?_
                refine W_cond (decide ((((nth r.Commits v2).Up).length : Int) > 2)) rfl (fun hq132 => ?_) (fun hq132 => ?_)
                · have H := ite_t H hq132
                  refine W_seq ?_
                  refine W_reg ?_
                  refine L_pu (P_assign (vb false) rfl) ?_
                  refine L_nil ?_
                  refine W_ret ?_
                  have hc133 := hc125.drop 0 rfl
                  exact ⟨[vb false], ⟨_, rfl, rfl⟩, false, rfl, H, hc133.gr⟩
                · have H := ite_f H hq132
                  refine W_skip ?_
                  refine W_seq ?_
                  refine W_reg ?_
                  refine L_pu (P_fa fa93_0 ⟨b85, 0, none⟩ ⟨b85, 0, none⟩ rfl rfl) ?_
                  refine L_pu (P_ld ag90 cL ⟨b85, 0, none⟩ (.slice A73 n74 c75) rfl (h128.cell rfl)) ?_
                  refine L_pu (P_len Try.underlying90 A73 n74 c75 (h118.st (.new _ g121)).len rfl) ?_
                  refine L_pu (P_move (vi 0) rfl) ?_
                  refine L_nil ?_
                  refine W_block ?_
                  obtain ⟨I170, mu171, hI172, H⟩ := H
                  have h174 := (h114.st (.new _ g121))
                  refine W_loop (α := Int) (fun (sv__ : Int) t w158 => match sv__ with | v4 => I170 v4 ∧ Has t [(1, .pointer (some ⟨b12, 0, none⟩)), (3, vi v2), (4, .pointer (some ⟨b85, 0, none⟩)), (22, .slice A1 n2 c3), (23, vi (r.Commits.length : Int)), (24, vi v2), (62, .slice A73 n74 c75), (63, vi (((nth r.Commits v2).Up).length : Int)), (64, vi v4)] ∧ Ct none w0 w158 [some b85] O ∧ Sl kCommit w158 (Fr ([some b85] ++ O)) (.slice A1 n2 c3) r.Commits ∧ Sl (Kd.int .i64) w158 (Fr ([some b85] ++ O)) (.slice A73 n74 c75) ((nth r.Commits v2).Up) ∧ Sl kHead w158 (Fr ([some b85] ++ O)) (.slice A6 n7 c8) r.Heads ∧ Sl kFeat w158 (Fr ([some b85] ++ O)) (.slice A78 n79 c80) ((nth r.Commits v2).Sheet) ∧ Fb w158 ([some b85] ++ O) b12 [.slice A1 n2 c3, .slice A6 n7 c8] ∧ Bx w158 b85 [.slice A73 n74 c75, .slice A78 n79 c80, vs ((nth r.Commits v2).Note)]) (fun (sv__ : Int) => match sv__ with | v4 => mu171 v4) 0 ⟨hI172, ⟨rfl, rfl, rfl, rfl, rfl, rfl, rfl, rfl, rfl, trivial⟩, hc125, (h116.st (.new _ g121)), (h118.st (.new _ g121)), (h117.st (.new _ g121)), (h119.st (.new _ g121)), h174, h128⟩ ?_
                  rintro v4 _ w158 ⟨hI172, hh175, hc163, h164, h165, h166, h167, h168, h169⟩
                  obtain ⟨u176, rfl⟩ := Has.ins hh175
                  have H := H v4 hI172
                  refine W_seq ?_
                  refine W_reg ?_
                  refine L_pu (P_cmp v4 (((nth r.Commits v2).Up).length : Int) (decide (v4 < (((nth r.Commits v2).Up).length : Int))) rfl rfl rfl) ?_
                  refine L_nil ?_
                  refine W_seq ?_
                  refine W_cond (decide (v4 < (((nth r.Commits v2).Up).length : Int))) rfl (fun hq177 => ?_) (fun hq177 => ?_)
                  · have H := ite_t H hq177
                    refine W_skip ?_
                    refine W_seq ?_
                    refine W_block ?_
                    refine W_seq ?_
                    refine W_reg ?_
                    refine L_pu (P_move (vi v4) rfl) ?_
                    obtain ⟨hb178, H⟩ := H
                    obtain ⟨ad179, cs180, hA181, hS184, hR182, hcl183⟩ := h165.get default (by decide) v4 hb178
                    obtain rfl := Kd.int.op hR182
                    refine L_pu (P_ia Try.underlying90 se90 A73 ad179 n74 c75 h165.len v4 rfl hA181 rfl hb178) ?_
                    refine L_pu (P_ld ag3 cL (ad179.add (v4.toNat * 1)) (vi (nth ((nth r.Commits v2).Up) v4)) rfl (hcl183 0 _ rfl)) ?_
                    refine L_pu (P_assign (vi v4) rfl) ?_
                    refine L_pu (P_assign (vi (nth ((nth r.Commits v2).Up) v4)) rfl) ?_
                    refine L_nil ?_
                    refine W_seq ?_
                    refine W_reg ?_
                    refine L_pu (P_move (vi (nth ((nth r.Commits v2).Up) v4)) rfl) ?_
                    refine L_pu (P_move (vi v2) rfl) ?_
                    obtain ⟨hb185, H⟩ := H
                    refine L_pu (P_sub v2 1 rfl rfl hb185) ?_
                    refine L_call go60 [vi (nth ((nth r.Commits v2).Up) v4), vi 0, vi (v2 - 1)] rfl ((impl_within.calls w158 hc163.ok (nth ((nth r.Commits v2).Up) v4) 0 (v2 - 1) _ H).mono ?_)
                    rintro _ w186 ⟨r7, rfl, H, g187, _⟩
                    have hc191 := hc163.k0 g187
                    refine L_pu (P_not r7 rfl) ?_
                    refine L_pu (P_move (vb (!r7)) rfl) ?_
                    rcases bool_or (!r7) with hq192 | hq192
                    · have H := ite_t H hq192
                      refine L_pass (dj := 74) rfl rfl (.inl (by exact congrArg Value.bool hq192)) ?_
                      refine L_pass (dj := 74) rfl rfl (.inl (by exact congrArg Value.bool hq192)) ?_
                      refine L_pass (dj := 74) rfl rfl (.inl (by exact congrArg Value.bool hq192)) ?_
                      refine L_pass (dj := 74) rfl rfl (.inl (by exact congrArg Value.bool hq192)) ?_
                      refine L_pass (dj := 74) rfl rfl (.inl (by exact congrArg Value.bool hq192)) ?_
                      refine L_pass (dj := 74) rfl rfl (.inl (by exact congrArg Value.bool hq192)) ?_
                      refine L_pu (P_pick true (vb true) (by exact congrArg Value.bool hq192) rfl) ?_
                      refine L_nil ?_
                      refine W_ct (b := true) rfl rfl ?_
                      refine W_seq ?_
                      refine W_reg ?_
                      refine L_pu (P_assign (vb false) rfl) ?_
                      refine L_nil ?_
                      refine W_ret ?_
                      have hc193 := hc191.drop 0 rfl
                      exact ⟨[vb false], ⟨_, rfl, rfl⟩, false, rfl, H, hc193.gr⟩
                    · have H := ite_f H hq192
                      refine L_run (dj := 74) rfl rfl (by exact congrArg Value.bool hq192) ?_
                      refine L_pu (P_fa fa93_0 ⟨b85, 0, none⟩ ⟨b85, 0, none⟩ rfl rfl) ?_
                      refine L_run (dj := 74) rfl rfl (by exact congrArg Value.bool hq192) ?_
                      have h194 := (h169.k0 g187)
                      refine L_pu (P_ld ag90 cL ⟨b85, 0, none⟩ (.slice A73 n74 c75) rfl (h194.cell rfl)) ?_
                      refine L_run (dj := 74) rfl rfl (by exact congrArg Value.bool hq192) ?_
                      refine L_pu (P_move (vi v4) rfl) ?_
                      refine L_run (dj := 74) rfl rfl (by exact congrArg Value.bool hq192) ?_
                      obtain ⟨hb195, H⟩ := H
                      refine L_cuts Try.underlying90 se90 A73 n74 c75 ((nth r.Commits v2).Up) rfl (h165.st (.new _ g187)) 0 v4 rfl rfl hb195 fun A196 n197 c198 h199 => ?_
                      refine L_run (dj := 74) rfl rfl (by exact congrArg Value.bool hq192) ?_
                      refine L_pu (P_move (vi (nth ((nth r.Commits v2).Up) v4)) rfl) ?_
                      refine L_run (dj := 74) rfl rfl (by exact congrArg Value.bool hq192) ?_
                      refine L_call go63 [.slice A196 n197 c198, vi (nth ((nth r.Commits v2).Up) v4)] rfl ((slices_Contains_int.calls w186 hc191.ok ((((nth r.Commits v2).Up).drop (0 : Int).toNat).take (v4.toNat - (0 : Int).toNat)) A196 n197 c198 h199 (nth ((nth r.Commits v2).Up) v4) _ H).mono ?_)
                      rintro _ w201 ⟨r8, rfl, H, g202⟩
                      have hc206 := hc191.k0 g202
                      refine L_pu (P_pick false (vb r8) (by exact congrArg Value.bool hq192) rfl) ?_
                      refine L_nil ?_
                      refine W_cond r8 rfl (fun hq207 => ?_) (fun hq207 => ?_)
                      · have H := ite_t H hq207
                        refine W_seq ?_
                        refine W_reg ?_
                        refine L_pu (P_assign (vb false) rfl) ?_
                        refine L_nil ?_
                        refine W_ret ?_
                        have hc208 := hc206.drop 0 rfl
                        exact ⟨[vb false], ⟨_, rfl, rfl⟩, false, rfl, H, hc208.gr⟩
                      · have H := ite_f H hq207
                        refine W_skip ?_
                        refine W_reg ?_
                        obtain ⟨hb209, H⟩ := H
                        refine L_pu (P_add v4 1 rfl rfl hb209) ?_
                        refine L_pu (P_move (vi (v4 + 1)) rfl) ?_
                        refine L_nil ?_
                        obtain ⟨hI210, hm211⟩ := H
                        have h212 := ((h164.st (.new _ g187)).st (.new _ g202))
                        have h213 := ((h165.st (.new _ g187)).st (.new _ g202))
                        have h214 := ((h166.st (.new _ g187)).st (.new _ g202))
                        have h215 := ((h167.st (.new _ g187)).st (.new _ g202))
                        have h216 := ((h168.st (.new _ g187)).st (.new _ g202))
                        have h217 := (h194.k0 g202)
                        exact ⟨v4 + 1, hm211, hI210, ⟨rfl, rfl, rfl, rfl, rfl, rfl, rfl, rfl, rfl, trivial⟩, hc206, h212, h213, h214, h215, h216, h217⟩
                  · have H := ite_f H hq177
                    refine W_exit (xin_hit ?_)
                    refine W_reg ?_
                    obtain ⟨hb218, H⟩ := H
                    refine L_pu (P_add v2 1 rfl rfl hb218) ?_
                    refine L_pu (P_move (vi (v2 + 1)) rfl) ?_
                    refine L_nil ?_
                    have hc219 := hc163.drop 0 rfl
                    obtain ⟨hI220, hm221⟩ := H
                    have h222 := (h168.st (.dr _ (L := [some b85]) (O := O) (j := 0) rfl))
                    exact ⟨v2 + 1, hm221, hI220, ⟨rfl, rfl, rfl, rfl, trivial⟩, hc219, (h164.st (.dr _ (L := [some b85]) (O := O) (j := 0) rfl)), (h166.st (.dr _ (L := [some b85]) (O := O) (j := 0) rfl)), h222⟩
      · have H := ite_f H hq65
        refine W_exit (xin_hit ?_)
        refine W_seq ?_
        refine W_seq ?_
        refine W_reg ?_
        refine L_pu (P_fa fa46_1 ⟨b12, 0, none⟩ ⟨b12, 1, none⟩ rfl rfl) ?_
        refine L_pu (P_ld ag44 cL ⟨b12, 1, none⟩ (.slice A6 n7 c8) rfl (h58.cell rfl)) ?_
        have hl223 := h57.le
        refine L_pu (P_len Try.underlying44 A6 n7 c8 h57.len rfl) ?_
        refine L_pu (P_move (vi 0) rfl) ?_
        refine L_nil ?_
        refine W_block ?_
        obtain ⟨I245, mu246, hI247, H⟩ := H
        refine W_loop (α := Int) (fun (sv__ : Int) t w238 => match sv__ with | v6 => I245 v6 ∧ Has t [(1, .pointer (some ⟨b12, 0, none⟩)), (85, .slice A6 n7 c8), (86, vi (r.Heads.length : Int)), (87, vi v6)] ∧ Ct none w0 w238 [] O ∧ Sl kHead w238 (Fr ([] ++ O)) (.slice A6 n7 c8) r.Heads ∧ Sl kCommit w238 (Fr ([] ++ O)) (.slice A1 n2 c3) r.Commits ∧ Fb w238 ([] ++ O) b12 [.slice A1 n2 c3, .slice A6 n7 c8]) (fun (sv__ : Int) => match sv__ with | v6 => mu246 v6) 0 ⟨hI247, ⟨rfl, rfl, rfl, rfl, trivial⟩, hc55, h57, h56, h58⟩ ?_
        rintro v6 _ w238 ⟨hI247, hh249, hc241, h242, h243, h244⟩
        obtain ⟨u250, rfl⟩ := Has.ins hh249
        have H := H v6 hI247
        refine W_seq ?_
        refine W_reg ?_
        refine L_pu (P_cmp v6 (r.Heads.length : Int) (decide (v6 < (r.Heads.length : Int))) rfl rfl rfl) ?_
        refine L_nil ?_
        refine W_seq ?_
        refine W_cond (decide (v6 < (r.Heads.length : Int))) rfl (fun hq251 => ?_) (fun hq251 => ?_)
        · have H := ite_t H hq251
          refine W_skip ?_
          refine W_seq ?_
          refine W_block ?_
          refine W_seq ?_
          refine W_reg ?_
          refine L_pu (P_move (vi v6) rfl) ?_
          obtain ⟨hb252, H⟩ := H
          obtain ⟨ad253, cs254, hA255, hS258, hR256, hcl257⟩ := h242.get default (by decide) v6 hb252
          obtain ⟨rfl, hs259⟩ := kHead.op hR256
          refine L_pu (P_ia Try.underlying44 se44 A6 ad253 n7 c8 h242.len v6 rfl hA255 rfl hb252) ?_
          refine L_pu (P_lda ag95 sz95 cL (ad253.add (v6.toNat * 2)) [vs ((nth r.Heads v6).Name), vi ((nth r.Heads v6).At)] rfl rfl hcl257) ?_
          refine L_alloc [vs [], .int .i64 0] ze95 fun w260 b261 hl263 hu264 g262 hx265 => ?_
          have hc267 := hc241.own g262 (some b261) (oglt hl263 hu264)
          refine L_pu (P_assign (vi v6) rfl) ?_
          refine L_stb b261 0 [vs ([] : Str), vi 0] [vs ((nth r.Heads v6).Name), vi ((nth r.Heads v6).At)] [vs ((nth r.Heads v6).Name), vi ((nth r.Heads v6).At)] rfl hx265 rfl sz95 rfl rfl rfl fun w268 g269 hx270 => ?_
          have hc271 := hc267.wr 0 rfl g269
          refine L_nil ?_
          refine W_seq ?_
          refine W_reg ?_
          refine L_pu (P_fa fa95_0 ⟨b261, 0, none⟩ ⟨b261, 0, none⟩ rfl rfl) ?_
          refine L_pu (P_ld ag9 cL ⟨b261, 0, none⟩ (vs ((nth r.Heads v6).Name)) rfl (hx270.cell rfl)) ?_
          refine L_call go41 [vs ((nth r.Heads v6).Name)] rfl ((impl_WordOk.calls w268 hc271.ok ((nth r.Heads v6).Name) hs259 _ H).mono ?_)
          rintro _ w272 ⟨r9, rfl, H, g273⟩
          have hc277 := hc271.k0 g273
          refine L_pu (P_not r9 rfl) ?_
          refine L_pu (P_move (vb (!r9)) rfl) ?_
          rcases bool_or (!r9) with hq278 | hq278
          · have H := ite_t H hq278
            refine L_pass (dj := 96) rfl rfl (.inl (by exact congrArg Value.bool hq278)) ?_
            refine L_pass (dj := 96) rfl rfl (.inl (by exact congrArg Value.bool hq278)) ?_
            refine L_pass (dj := 96) rfl rfl (.inl (by exact congrArg Value.bool hq278)) ?_
            refine L_pass (dj := 96) rfl rfl (.inl (by exact congrArg Value.bool hq278)) ?_
            refine L_pass (dj := 96) rfl rfl (.inl (by exact congrArg Value.bool hq278)) ?_
            refine L_pass (dj := 96) rfl rfl (.inl (by exact congrArg Value.bool hq278)) ?_
            refine L_pu (P_pick true (vb true) (by exact congrArg Value.bool hq278) rfl) ?_
            refine L_pu (P_move (vb true) rfl) ?_
            refine L_pass (dj := 104) rfl rfl (.inl rfl) ?_
            refine L_pass (dj := 104) rfl rfl (.inl rfl) ?_
            refine L_pass (dj := 104) rfl rfl (.inl rfl) ?_
            refine L_pass (dj := 104) rfl rfl (.inl rfl) ?_
            refine L_pass (dj := 104) rfl rfl (.inl rfl) ?_
            refine L_pu (P_pick true (vb true) (by exact congrArg Value.bool rfl) rfl) ?_
            refine L_nil ?_
            refine W_ct (b := true) rfl rfl ?_
            refine W_seq ?_
            refine W_reg ?_
            refine L_pu (P_assign (vb false) rfl) ?_
            refine L_nil ?_
            refine W_ret ?_
            have hc279 := hc277.drop 0 rfl
            exact ⟨[vb false], ⟨_, rfl, rfl⟩, false, rfl, H, hc279.gr⟩
          · have H := ite_f H hq278
            refine L_run (dj := 96) rfl rfl (by exact congrArg Value.bool hq278) ?_
            have h280 := (((h244.st (.own _ _ g262 (oge hl263))).st (.wl (L := [some b261]) (O := O) (j := 0) rfl g269)).st (.new _ g273))
            refine L_pu (P_lda ag46 sz46 cL ⟨b12, 0, none⟩ [.slice A1 n2 c3, .slice A6 n7 c8] rfl rfl (h280.cells (off := 0) rfl)) ?_
            refine L_run (dj := 96) rfl rfl (by exact congrArg Value.bool hq278) ?_
            refine L_pu (P_fa fa95_0 ⟨b261, 0, none⟩ ⟨b261, 0, none⟩ rfl rfl) ?_
            refine L_run (dj := 96) rfl rfl (by exact congrArg Value.bool hq278) ?_
            have h281 := (hx270.k0 g273)
            refine L_pu (P_ld ag9 cL ⟨b261, 0, none⟩ (vs ((nth r.Heads v6).Name)) rfl (h281.cell rfl)) ?_
            refine L_run (dj := 96) rfl rfl (by exact congrArg Value.bool hq278) ?_
            have h282 := (((h243.st (.own _ _ g262 (oge hl263))).st (.wl (L := [some b261]) (O := O) (j := 0) rfl g269)).st (.new _ g273))
            have h283 := (((h242.st (.own _ _ g262 (oge hl263))).st (.wl (L := [some b261]) (O := O) (j := 0) rfl g269)).st (.new _ g273))
            refine L_call go64 [.agg #[.slice A1 n2 c3, .slice A6 n7 c8], vs ((nth r.Heads v6).Name)] rfl ((impl_Repo_head.calls w272 hc277.ok r A1 n2 c3 A6 n7 c8 h282 h283 ((nth r.Heads v6).Name) hs259 _ H).mono ?_)
            rintro _ w284 ⟨r10, rfl, H, g285⟩
            have hc289 := hc277.k0 g285
            refine L_run (dj := 96) rfl rfl (by exact congrArg Value.bool hq278) ?_
            refine L_pu (P_move (vi v6) rfl) ?_
            refine L_run (dj := 96) rfl rfl (by exact congrArg Value.bool hq278) ?_
            refine L_pu (P_cmp r10 v6 (r10 != v6) rfl rfl rfl) ?_
            refine L_pu (P_pick false (vb (r10 != v6)) (by exact congrArg Value.bool hq278) rfl) ?_
            refine L_pu (P_move (vb (r10 != v6)) rfl) ?_
            rcases bool_or (r10 != v6) with hq290 | hq290
            · have H := ite_t H hq290
              refine L_pass (dj := 104) rfl rfl (.inl (by exact congrArg Value.bool hq290)) ?_
              refine L_pass (dj := 104) rfl rfl (.inl (by exact congrArg Value.bool hq290)) ?_
              refine L_pass (dj := 104) rfl rfl (.inl (by exact congrArg Value.bool hq290)) ?_
              refine L_pass (dj := 104) rfl rfl (.inl (by exact congrArg Value.bool hq290)) ?_
              refine L_pass (dj := 104) rfl rfl (.inl (by exact congrArg Value.bool hq290)) ?_
              refine L_pu (P_pick true (vb true) (by exact congrArg Value.bool hq290) rfl) ?_
              refine L_nil ?_
              refine W_ct (b := true) rfl rfl ?_
              refine W_seq ?_
              refine W_reg ?_
              refine L_pu (P_assign (vb false) rfl) ?_
              refine L_nil ?_
              refine W_ret ?_
              have hc291 := hc289.drop 0 rfl
              exact ⟨[vb false], ⟨_, rfl, rfl⟩, false, rfl, H, hc291.gr⟩
            · have H := ite_f H hq290
              refine L_run (dj := 104) rfl rfl (by exact congrArg Value.bool hq290) ?_
              have h292 := (h280.st (.new _ g285))
              refine L_pu (P_lda ag46 sz46 cL ⟨b12, 0, none⟩ [.slice A1 n2 c3, .slice A6 n7 c8] rfl rfl (h292.cells (off := 0) rfl)) ?_
              refine L_run (dj := 104) rfl rfl (by exact congrArg Value.bool hq290) ?_
              refine L_pu (P_fa fa95_1 ⟨b261, 0, none⟩ ⟨b261, 1, none⟩ rfl rfl) ?_
              refine L_run (dj := 104) rfl rfl (by exact congrArg Value.bool hq290) ?_
              have h293 := (h281.k0 g285)
              refine L_pu (P_ld ag3 cL ⟨b261, 1, none⟩ (vi ((nth r.Heads v6).At)) rfl (h293.cell rfl)) ?_
              refine L_run (dj := 104) rfl rfl (by exact congrArg Value.bool hq290) ?_
              refine L_call go65 [.agg #[.slice A1 n2 c3, .slice A6 n7 c8], vi ((nth r.Heads v6).At)] rfl ((impl_Repo_version.calls w284 hc289.ok r A1 n2 c3 A6 n7 c8 (h282.st (.new _ g285)) (h283.st (.new _ g285)) ((nth r.Heads v6).At) _ H).mono ?_)
              rintro _ w294 ⟨r11, rfl, H, g295⟩
              have hc299 := hc289.k0 g295
              refine L_run (dj := 104) rfl rfl (by exact congrArg Value.bool hq290) ?_
              refine L_pu (P_not r11 rfl) ?_
              refine L_pu (P_pick false (vb (!r11)) (by exact congrArg Value.bool hq290) rfl) ?_
              refine L_nil ?_
              refine W_cond (!r11) rfl (fun hq300 => ?_) (fun hq300 => ?_)
              · have H := ite_t H hq300
                refine W_seq ?_
                refine W_reg ?_
                refine L_pu (P_assign (vb false) rfl) ?_
                refine L_nil ?_
                refine W_ret ?_
                have hc301 := hc299.drop 0 rfl
                exact ⟨[vb false], ⟨_, rfl, rfl⟩, false, rfl, H, hc301.gr⟩
              · have H := ite_f H hq300
                refine W_skip ?_
                refine W_reg ?_
                obtain ⟨hb302, H⟩ := H
                refine L_pu (P_add v6 1 rfl rfl hb302) ?_
                refine L_pu (P_move (vi (v6 + 1)) rfl) ?_
                refine L_nil ?_
                have hc303 := hc299.drop 0 rfl
                obtain ⟨hI304, hm305⟩ := H
                have h306 := (((h283.st (.new _ g285)).st (.new _ g295)).st (.dr _ (L := [some b261]) (O := O) (j := 0) rfl))
                have h307 := (((h282.st (.new _ g285)).st (.new _ g295)).st (.dr _ (L := [some b261]) (O := O) (j := 0) rfl))
                have h308 := ((h292.st (.new _ g295)).st (.dr _ (L := [some b261]) (O := O) (j := 0) rfl))
                exact ⟨v6 + 1, hm305, hI304, ⟨rfl, rfl, rfl, rfl, trivial⟩, hc303, h306, h307, h308⟩
        · have H := ite_f H hq251
          refine W_exit (xin_hit ?_)
          refine W_seq ?_
          refine W_reg ?_
          refine L_pu (P_assign (vb true) rfl) ?_
          refine L_nil ?_
          refine W_ret ?_
          exact ⟨[vb true], ⟨_, rfl, rfl⟩, true, rfl, H, hc241.gr⟩
end Go.Proofs.Ythkeboifjlnjjaa

namespace Go.Proofs.Ythkeboifjlnjjaa
set_option linter.unusedVariables false
set_option linter.unusedSimpArgs false
set_option linter.unusedSectionVars false
theorem impl_RepoOk.law (r : Repo) (Q : Bool → Prop) (hb : bulk r ≤ 1048576) (hq : Q (repoOk r)) : impl_RepoOk.E r Q := by
  unfold impl_RepoOk.E
  unfold repoOk at hq
  have b1 : bulk r = bulk r.Commits + bulk r.Heads := rfl
  have l1 := bulk_len r.Commits; have l2 := bulk_len r.Heads
  have e1 : decide ((1 : Int) ≤ (r.Commits.length : Int)) = decide (1 ≤ r.Commits.length) := decide_eq_decide.2 (by omega)
  have e2 : decide ((r.Commits.length : Int) ≤ 14) = decide (r.Commits.length ≤ 14) := decide_eq_decide.2 (by omega)
  have e3 : decide ((1 : Int) ≤ (r.Heads.length : Int)) = decide (1 ≤ r.Heads.length) := decide_eq_decide.2 (by omega)
  have e4 : decide ((r.Heads.length : Int) ≤ 4) = decide (r.Heads.length ≤ 4) := decide_eq_decide.2 (by omega)
  refine impl_within.law _ _ _ _ ?_
  rw [e1, e2]
  cases h1 : (decide (1 ≤ r.Commits.length) && decide (r.Commits.length ≤ 14)) with
  | false => rw [h1] at hq; rw [if_pos (by decide)]; exact hq
  | true =>
  rw [h1, Bool.true_and] at hq
  rw [if_neg (by decide)]
  refine impl_within.law _ _ _ _ ?_
  rw [e3, e4]
  cases h2 : (decide (1 ≤ r.Heads.length) && decide (r.Heads.length ≤ 4)) with
  | false => rw [h2] at hq; rw [if_pos (by decide)]; exact hq
  | true =>
  rw [h2, Bool.true_and] at hq
  rw [if_neg (by decide)]
  refine loop_all r.Commits.length (fun k => sheetOk (nth r.Commits (k : Int)).Sheet && wordOk (nth r.Commits (k : Int)).Note && decide (findCommit r (nth r.Commits (k : Int)) = (k : Int)) && upOk (nth r.Commits (k : Int)).Up k) (fun I mu k hk hp hn => ?_) (fun ha => ?_)
  · have bad : (sheetOk (nth r.Commits (k : Int)).Sheet && wordOk (nth r.Commits (k : Int)).Note && decide (findCommit r (nth r.Commits (k : Int)) = (k : Int)) && upOk (nth r.Commits (k : Int)).Up k) = false → Q false := fun h => by
      rw [allN_false hk h, Bool.false_and] at hq; exact hq
    have m1 := bulk_mem (nth_mem r.Commits hk)
    have m2 : bulk (nth r.Commits (k : Int)) = bulk (nth r.Commits (k : Int)).Up + bulk (nth r.Commits (k : Int)).Sheet + bulk (nth r.Commits (k : Int)).Note := rfl
    have m3 := bulk_len (nth r.Commits (k : Int)).Up; have m4 := bulk_len (nth r.Commits (k : Int)).Note
    refine ⟨by omega, impl_SheetOk.law _ _ (by omega) ?_⟩
    cases a2 : sheetOk (nth r.Commits (k : Int)).Sheet with
    | false => rw [if_pos (by decide)]; exact bad (by rw [a2]; rfl)
    | true =>
    rw [if_neg (by decide)]
    refine impl_WordOk.law _ _ (by omega) ?_
    cases a3 : wordOk (nth r.Commits (k : Int)).Note with
    | false => rw [if_pos (by decide)]; exact bad (by rw [a3, Bool.and_false]; rfl)
    | true =>
    rw [if_neg (by decide)]
    refine impl_Repo_commit.law _ _ _ hb ?_
    by_cases a4 : findCommit r (nth r.Commits (k : Int)) = (k : Int)
    case neg => rw [if_pos (by rw [bne_iff_ne]; exact a4)]; exact bad (by rw [decide_eq_false a4, Bool.and_false]; rfl)
    rw [if_neg (by rw [bne_iff_ne]; exact fun h => h a4)]
    have bad : upOk (nth r.Commits (k : Int)).Up k = false → Q false := fun h => bad (by rw [h, Bool.and_false])
    have hn : upOk (nth r.Commits (k : Int)).Up k = true → I ((k : Int) + 1) ∧ mu ((k : Int) + 1) < mu (k : Int) := fun h => hn (by rw [a2, a3, decide_eq_true a4, h]; rfl)
    generalize (nth r.Commits (k : Int)).Up = up at *
    unfold upOk at bad hn
    have z1 : ((k : Int) == 0) = decide (k = 0) := by rw [Bool.eq_iff_iff, beq_iff_eq, decide_eq_true_eq]; omega
    have z2 : ((up.length : Int) == 0) = decide (up.length = 0) := by rw [Bool.eq_iff_iff, beq_iff_eq, decide_eq_true_eq]; omega
    rw [z1, z2]
    cases a5 : (decide (k = 0) == decide (up.length = 0)) with
    | false =>
      rw [if_pos (by rw [bne, a5]; rfl)]; exact bad (by rw [a5]; rfl)
    | true =>
    rw [if_neg (by rw [bne, a5]; decide)]
    by_cases a6 : up.length ≤ 2
    case neg => rw [if_pos (by rw [decide_eq_true_eq]; omega)]; exact bad (by rw [decide_eq_false a6, Bool.and_false]; rfl)
    rw [if_neg (by rw [decide_eq_true_eq]; omega)]
    rw [a5, decide_eq_true a6, Bool.and_self, Bool.true_and] at bad hn
    refine loop_all up.length (fun j => inUp up k j && !(decide (nth up (j : Int) ∈ up.take j))) (fun I' mu' j hj hp' hn' => ?_) (fun ha => ?_)
    · have bad : (inUp up k j && !(decide (nth up (j : Int) ∈ up.take j))) = false → Q false := fun h => bad (allN_false hj h)
      refine ⟨by omega, by unfold I64; omega, impl_within.law _ _ _ _ ?_⟩
      have e : (decide (0 ≤ nth up (j : Int)) && decide (nth up (j : Int) ≤ (k : Int) - 1)) = inUp up k j := by
        unfold inUp
        rw [show decide (nth up (j : Int) ≤ (k : Int) - 1) = decide (nth up (j : Int) < (k : Int)) from decide_eq_decide.2 (by omega)]
      rw [e]
      cases a7 : inUp up k j with
      | false => rw [if_pos (by decide)]; exact bad (by rw [a7]; rfl)
      | true =>
      rw [if_neg (by decide)]
      have ec : (up.drop (0 : Int).toNat).take ((j : Int).toNat - (0 : Int).toNat) = up.take j := by simp
      rw [ec]
      refine ⟨by omega, slices_Contains_int.law _ _ _ (by rw [List.length_take]; omega) ?_⟩
      cases a8 : decide (nth up (j : Int) ∈ up.take j) with
      | true => rw [if_pos rfl]; exact bad (by rw [a7, a8]; rfl)
      | false =>
        rw [if_neg (by decide)]
        obtain ⟨i1, i2⟩ := hn' (by rw [a7, a8]; rfl)
        exact ⟨by unfold I64; omega, i1, i2⟩
    · obtain ⟨i1, i2⟩ := hn (allN_true ha)
      exact ⟨by unfold I64; omega, i1, i2⟩
  · rw [allN_true ha, Bool.true_and] at hq
    refine loop_all r.Heads.length (fun k => wordOk (nth r.Heads (k : Int)).Name && decide (findHead r (nth r.Heads (k : Int)).Name = (k : Int)) && (decide (0 ≤ (nth r.Heads (k : Int)).At) && decide ((nth r.Heads (k : Int)).At < (r.Commits.length : Int)))) (fun I mu k hk hp hn => ?_) (fun ha => ?_)
    · have bad : (wordOk (nth r.Heads (k : Int)).Name && decide (findHead r (nth r.Heads (k : Int)).Name = (k : Int)) && (decide (0 ≤ (nth r.Heads (k : Int)).At) && decide ((nth r.Heads (k : Int)).At < (r.Commits.length : Int)))) = false → Q false := fun h => by
        rw [allN_false hk h] at hq; exact hq
      have m1 := bulk_mem (nth_mem r.Heads hk)
      have m2 : bulk (nth r.Heads (k : Int)) = bulk (nth r.Heads (k : Int)).Name + bulk (nth r.Heads (k : Int)).At := rfl
      have m3 := bulk_len (nth r.Heads (k : Int)).Name
      refine ⟨by omega, impl_WordOk.law _ _ (by omega) ?_⟩
      cases a1 : wordOk (nth r.Heads (k : Int)).Name with
      | false => rw [if_pos (by decide)]; exact bad (by rw [a1]; rfl)
      | true =>
      rw [if_neg (by decide)]
      refine impl_Repo_head.law _ _ _ hb ?_
      by_cases a2 : findHead r (nth r.Heads (k : Int)).Name = (k : Int)
      case neg => rw [if_pos (by rw [bne_iff_ne]; exact a2)]; exact bad (by rw [decide_eq_false a2, Bool.and_false]; rfl)
      rw [if_neg (by rw [bne_iff_ne]; exact fun h => h a2)]
      refine impl_Repo_version.law _ _ _ ?_
      cases a3 : (decide (0 ≤ (nth r.Heads (k : Int)).At) && decide ((nth r.Heads (k : Int)).At < (r.Commits.length : Int))) with
      | false => rw [if_pos (by decide)]; exact bad (by rw [a3, Bool.and_false])
      | true =>
        rw [if_neg (by decide)]
        obtain ⟨i1, i2⟩ := hn (by rw [a1, decide_eq_true a2, a3]; rfl)
        exact ⟨by unfold I64; omega, i1, i2⟩
    · rw [allN_true ha] at hq; exact hq
end Go.Proofs.Ythkeboifjlnjjaa

namespace Go.Proofs.Ythkeboifjlnjjaa
open Go.RowKit
set_option linter.unusedVariables false
def impl_Repo_past.E (r : Repo) (at_ : Int) (Q : List Bool → Prop) : Prop :=
  ((0 : Int) ≤ (r.Commits.length : Int) ∧ (r.Commits.length : Int) ≤ (268435456 : Int)) ∧ ((0 : Int) ≤ at_ ∧ at_ < ((List.replicate (r.Commits.length : Int).toNat (false : Bool)).length : Int)) ∧ (∃ (I75 : (List Bool) → Int → Prop) (mu76 : (List Bool) → Int → Nat), I75 ((List.replicate (r.Commits.length : Int).toNat (false : Bool)).set at_.toNat true) at_ ∧ ∀ (xs2 : List Bool) (k2 : Int), I75 xs2 k2 → (if decide (k2 ≥ 0) then ((0 : Int) ≤ k2 ∧ k2 < (xs2.length : Int)) ∧ (if (nth xs2 k2) then ((0 : Int) ≤ k2 ∧ k2 < (r.Commits.length : Int)) ∧ (∃ (I149 : (List Bool) → Int → Prop) (mu150 : (List Bool) → Int → Nat), I149 xs2 0 ∧ ∀ (xs4 : List Bool) (v2 : Int), I149 xs4 v2 → (if decide (v2 < (((nth r.Commits k2).Up).length : Int)) then ((0 : Int) ≤ v2 ∧ v2 < (((nth r.Commits k2).Up).length : Int)) ∧ ((0 : Int) ≤ (nth ((nth r.Commits k2).Up) v2) ∧ (nth ((nth r.Commits k2).Up) v2) < (xs4.length : Int)) ∧ (I64 (v2 + 1)) ∧ I149 (xs4.set (nth ((nth r.Commits k2).Up) v2).toNat true) (v2 + 1) ∧ mu150 (xs4.set (nth ((nth r.Commits k2).Up) v2).toNat true) (v2 + 1) < mu150 xs4 v2 else (I64 (k2 - 1)) ∧ I75 xs4 (k2 - 1) ∧ mu76 xs4 (k2 - 1) < mu76 xs2 k2)) else (I64 (k2 - 1)) ∧ I75 xs2 (k2 - 1) ∧ mu76 xs2 (k2 - 1) < mu76 xs2 k2) else Q xs2))
set_option maxHeartbeats 8000000 in
set_option maxRecDepth 100000 in
theorem impl_Repo_past.calls {O : Ob} (w0 : World) (hO : Ok w0 O) (r : Repo) (A1 : Option Addr) (n2 c3 : Nat) (A6 : Option Addr) (n7 c8 : Nat) (hp4 : Sl kCommit w0 (Fr O) (.slice A1 n2 c3) r.Commits) (hp9 : Sl kHead w0 (Fr O) (.slice A6 n7 c8) r.Heads) (at_ : Int) (Q : List Bool → Prop) (h : impl_Repo_past.E r at_ Q) :
    Ret Try.prog 68 [.agg #[.slice A1 n2 c3, .slice A6 n7 c8], vi at_] w0 (fun v w' => ∃ (r0 : List Bool) (A0 : Option Addr) (n0 c0 : Nat), v = .slice A0 n0 c0 ∧ Q r0 ∧ Gr w0 w' none ∧ Ok w' ([blk (.slice A0 n0 c0)] ++ O) ∧ (∀ b, some b ∈ [blk (.slice A0 n0 c0)] → w0.heap.size ≤ b) ∧ Ow Kd.bool 4 w' ([blk (.slice A0 n0 c0)] ++ O) (.slice A0 n0 c0) r0) := by
  have H : ((0 : Int) ≤ (r.Commits.length : Int) ∧ (r.Commits.length : Int) ≤ (268435456 : Int)) ∧ ((0 : Int) ≤ at_ ∧ at_ < ((List.replicate (r.Commits.length : Int).toNat (false : Bool)).length : Int)) ∧ (∃ (I75 : (List Bool) → Int → Prop) (mu76 : (List Bool) → Int → Nat), I75 ((List.replicate (r.Commits.length : Int).toNat (false : Bool)).set at_.toNat true) at_ ∧ ∀ (xs2 : List Bool) (k2 : Int), I75 xs2 k2 → (if decide (k2 ≥ 0) then ((0 : Int) ≤ k2 ∧ k2 < (xs2.length : Int)) ∧ (if (nth xs2 k2) then ((0 : Int) ≤ k2 ∧ k2 < (r.Commits.length : Int)) ∧ (∃ (I149 : (List Bool) → Int → Prop) (mu150 : (List Bool) → Int → Nat), I149 xs2 0 ∧ ∀ (xs4 : List Bool) (v2 : Int), I149 xs4 v2 → (if decide (v2 < (((nth r.Commits k2).Up).length : Int)) then ((0 : Int) ≤ v2 ∧ v2 < (((nth r.Commits k2).Up).length : Int)) ∧ ((0 : Int) ≤ (nth ((nth r.Commits k2).Up) v2) ∧ (nth ((nth r.Commits k2).Up) v2) < (xs4.length : Int)) ∧ (I64 (v2 + 1)) ∧ I149 (xs4.set (nth ((nth r.Commits k2).Up) v2).toNat true) (v2 + 1) ∧ mu150 (xs4.set (nth ((nth r.Commits k2).Up) v2).toNat true) (v2 + 1) < mu150 xs4 v2 else (I64 (k2 - 1)) ∧ I75 xs4 (k2 - 1) ∧ mu76 xs4 (k2 - 1) < mu76 xs2 k2)) else (I64 (k2 - 1)) ∧ I75 xs2 (k2 - 1) ∧ mu76 xs2 (k2 - 1) < mu76 xs2 k2) else Q xs2)) := h
  clear h
  have hc0 := Ct.init hO
  refine Ret_enter Try.func68 rfl 41 rfl [.tmp 4] rfl rfl ?_
  refine W_seq ?_
  refine W_reg ?_
  refine L_box [.slice A1 n2 c3, .slice A6 n7 c8] rfl fun w11 b12 hl14 hu15 g13 hx16 => ?_
  have h18 := Fb.mk hc0.ok hl14 hx16
  have hc19 := hc0.k0 g13
  refine L_pu (P_assign (.slice none 0 0) rfl) ?_
  refine L_nil ?_
  refine W_seq ?_
  refine W_reg ?_
  refine L_pu (P_fa fa46_0 ⟨b12, 0, none⟩ ⟨b12, 0, none⟩ rfl rfl) ?_
  refine L_pu (P_ld ag43 cL ⟨b12, 0, none⟩ (.slice A1 n2 c3) rfl (h18.cell rfl)) ?_
  have hl20 := (hp4.st hc19.st).le
  refine L_pu (P_len Try.underlying43 A1 n2 c3 (hp4.st hc19.st).len rfl) ?_
  obtain ⟨hb21, H⟩ := H
  refine L_make (kd := Kd.bool) ei109 hc19 (false : Bool) (rfl) (r.Commits.length : Int) rfl rfl hb21 fun w22 A23 n24 c25 g26 hr27 hc28 h29 => ?_
  refine L_pu (P_assign (.slice A23 n24 c25) rfl) ?_
  refine L_nil ?_
  refine W_seq ?_
  refine W_reg ?_
  refine L_pu (P_move (.slice A23 n24 c25) rfl) ?_
  refine L_pu (P_move (vi at_) rfl) ?_
  obtain ⟨hb31, H⟩ := H
  obtain ⟨ad32, cs33, hA34, hR35, hcl36⟩ := h29.get default (by decide) at_ hb31
  obtain rfl := Kd.bool.op hR35
  refine L_pu (P_ia Try.underlying109 se109 A23 ad32 n24 c25 h29.len at_ rfl hA34 rfl hb31) ?_
  refine L_ste0 A23 n24 c25 (List.replicate (r.Commits.length : Int).toNat (false : Bool)) h29 at_ hb31 ad32 hA34 0 rfl [vb true] rfl sz4 rfl true [vb (nth (List.replicate (r.Commits.length : Int).toNat (false : Bool)) at_)] [vb true] hcl36 rfl rfl rfl fun w38 g39 h40 => ?_
  have hc41 := hc28.wr 0 rfl g39
  refine L_nil ?_
  refine W_seq ?_
  refine W_seq ?_
  refine W_reg ?_
  refine L_pu (P_move (vi at_) rfl) ?_
  refine L_pu (P_assign (vi at_) rfl) ?_
  refine L_nil ?_
  refine W_block ?_
  obtain ⟨I75, mu76, hI77, H⟩ := H
  have h79 := ((h18.st (.own _ _ g26 hr27)).st (.wl (L := [blk (.slice A23 n24 c25)]) (O := O) (j := 0) rfl g39))
  refine W_loop (α := (List Bool) × (Option Addr) × Nat × Nat × Int) (fun (sv__ : (List Bool) × (Option Addr) × Nat × Nat × Int) t w63 => match sv__ with | (xs2, A64, n65, c66, k2) => I75 xs2 k2 ∧ Has t [(2, .pointer (some ⟨b12, 0, none⟩)), (5, .slice A64 n65 c66), (6, vi k2)] ∧ Ct none w0 w63 [blk (.slice A64 n65 c66)] O ∧ Sl kCommit w63 (Fr ([blk (.slice A64 n65 c66)] ++ O)) (.slice A1 n2 c3) r.Commits ∧ Sl kHead w63 (Fr ([blk (.slice A64 n65 c66)] ++ O)) (.slice A6 n7 c8) r.Heads ∧ Ow Kd.bool 4 w63 ([blk (.slice A64 n65 c66)] ++ O) (.slice A64 n65 c66) xs2 ∧ Fb w63 ([blk (.slice A64 n65 c66)] ++ O) b12 [.slice A1 n2 c3, .slice A6 n7 c8]) (fun (sv__ : (List Bool) × (Option Addr) × Nat × Nat × Int) => match sv__ with | (xs2, _, _, _, k2) => mu76 xs2 k2) (((List.replicate (r.Commits.length : Int).toNat (false : Bool)).set at_.toNat true), A23, n24, c25, at_) ⟨hI77, ⟨rfl, rfl, rfl, trivial⟩, hc41, (hp4.st hc41.st), (hp9.st hc41.st), h40, h79⟩ ?_
  rintro ⟨xs2, A64, n65, c66, k2⟩ _ w63 ⟨hI77, hh80, hc70, h71, h72, h73, h74⟩
  obtain ⟨u81, rfl⟩ := Has.ins hh80
  have H := H xs2 k2 hI77
  refine W_seq ?_
  refine W_seq ?_
  refine W_reg ?_
  refine L_pu (P_move (vi k2) rfl) ?_
  refine L_pu (P_cmp k2 0 (decide (k2 ≥ 0)) rfl rfl rfl) ?_
  refine L_nil ?_
  refine W_cond (decide (k2 ≥ 0)) rfl (fun hq82 => ?_) (fun hq82 => ?_)
  · have H := ite_t H hq82
    refine W_skip ?_
    refine W_seq ?_
    refine W_block ?_
    refine W_seq ?_
    refine W_reg ?_
    refine L_pu (P_move (.slice A64 n65 c66) rfl) ?_
    refine L_pu (P_move (vi k2) rfl) ?_
    obtain ⟨hb83, H⟩ := H
    obtain ⟨ad84, cs85, hA86, hR87, hcl88⟩ := h73.get default (by decide) k2 hb83
    obtain rfl := Kd.bool.op hR87
    refine L_pu (P_ia Try.underlying109 se109 A64 ad84 n65 c66 h73.len k2 rfl hA86 rfl hb83) ?_
    refine L_pu (P_ld ag4 cL (ad84.add (k2.toNat * 1)) (vb (nth xs2 k2)) rfl (hcl88 0 _ rfl)) ?_
    refine L_nil ?_
    refine W_cond (nth xs2 k2) rfl (fun hq90 => ?_) (fun hq90 => ?_)
    · have H := ite_t H hq90
      refine W_seq ?_
      refine W_reg ?_
      refine L_pu (P_fa fa46_0 ⟨b12, 0, none⟩ ⟨b12, 0, none⟩ rfl rfl) ?_
      refine L_pu (P_ld ag43 cL ⟨b12, 0, none⟩ (.slice A1 n2 c3) rfl (h74.cell rfl)) ?_
      refine L_pu (P_move (vi k2) rfl) ?_
      obtain ⟨hb91, H⟩ := H
      obtain ⟨ad92, cs93, hA94, hS97, hR95, hcl96⟩ := h71.get default (by decide) k2 hb91
      obtain ⟨A98, n99, c100, A103, n104, c105, rfl, h101, h106, hs108⟩ := kCommit.op hR95
      refine L_pu (P_ia Try.underlying43 se43 A1 ad92 n2 c3 h71.len k2 rfl hA94 rfl hb91) ?_
      refine L_pu (P_fa fa93_0 (ad92.add (k2.toNat * 3)) ((ad92.add (k2.toNat * 3)).add 0) rfl rfl) ?_
      refine L_pu (P_ld ag90 cL ((ad92.add (k2.toNat * 3)).add 0) (.slice A98 n99 c100) rfl (hcl96 0 _ rfl)) ?_
      have hl109 := h101.le
      refine L_pu (P_len Try.underlying90 A98 n99 c100 h101.len rfl) ?_
      refine L_pu (P_move (vi 0) rfl) ?_
      refine L_nil ?_
      refine W_block ?_
      obtain ⟨I149, mu150, hI151, H⟩ := H
      refine W_loop (α := (List Bool) × Int) (fun (sv__ : (List Bool) × Int) t w135 => match sv__ with | (xs4, v2) => I149 xs4 v2 ∧ Has t [(2, .pointer (some ⟨b12, 0, none⟩)), (5, .slice A64 n65 c66), (6, vi k2), (30, .slice A98 n99 c100), (31, vi (((nth r.Commits k2).Up).length : Int)), (32, vi v2)] ∧ Ct none w0 w135 [blk (.slice A64 n65 c66)] O ∧ Sl (Kd.int .i64) w135 (Fr ([blk (.slice A64 n65 c66)] ++ O)) (.slice A98 n99 c100) ((nth r.Commits k2).Up) ∧ Sl kCommit w135 (Fr ([blk (.slice A64 n65 c66)] ++ O)) (.slice A1 n2 c3) r.Commits ∧ Sl kHead w135 (Fr ([blk (.slice A64 n65 c66)] ++ O)) (.slice A6 n7 c8) r.Heads ∧ Ow Kd.bool 4 w135 ([blk (.slice A64 n65 c66)] ++ O) (.slice A64 n65 c66) xs4 ∧ Fb w135 ([blk (.slice A64 n65 c66)] ++ O) b12 [.slice A1 n2 c3, .slice A6 n7 c8]) (fun (sv__ : (List Bool) × Int) => match sv__ with | (xs4, v2) => mu150 xs4 v2) (xs2, 0) ⟨hI151, ⟨rfl, rfl, rfl, rfl, rfl, rfl, trivial⟩, hc70, h101, h71, h72, h73, h74⟩ ?_
      rintro ⟨xs4, v2⟩ _ w135 ⟨hI151, hh153, hc143, h144, h145, h146, h147, h148⟩
      obtain ⟨u154, rfl⟩ := Has.ins hh153
      have H := H xs4 v2 hI151
      refine W_seq ?_
      refine W_reg ?_
      refine L_pu (P_cmp v2 (((nth r.Commits k2).Up).length : Int) (decide (v2 < (((nth r.Commits k2).Up).length : Int))) rfl rfl rfl) ?_
      refine L_nil ?_
      refine W_seq ?_
      refine W_cond (decide (v2 < (((nth r.Commits k2).Up).length : Int))) rfl (fun hq155 => ?_) (fun hq155 => ?_)
      · have H := ite_t H hq155
        refine W_skip ?_
        refine W_seq ?_
        refine W_block ?_
        refine W_seq ?_
        refine W_reg ?_
        obtain ⟨hb156, H⟩ := H
        obtain ⟨ad157, cs158, hA159, hS162, hR160, hcl161⟩ := h144.get default (by decide) v2 hb156
        obtain rfl := Kd.int.op hR160
        refine L_pu (P_ia Try.underlying90 se90 A98 ad157 n99 c100 h144.len v2 rfl hA159 rfl hb156) ?_
        refine L_pu (P_ld ag3 cL (ad157.add (v2.toNat * 1)) (vi (nth ((nth r.Commits k2).Up) v2)) rfl (hcl161 0 _ rfl)) ?_
        refine L_pu (P_assign (vi (nth ((nth r.Commits k2).Up) v2)) rfl) ?_
        refine L_nil ?_
        refine W_reg ?_
        refine L_pu (P_move (.slice A64 n65 c66) rfl) ?_
        refine L_pu (P_move (vi (nth ((nth r.Commits k2).Up) v2)) rfl) ?_
        obtain ⟨hb163, H⟩ := H
        obtain ⟨ad164, cs165, hA166, hR167, hcl168⟩ := h147.get default (by decide) (nth ((nth r.Commits k2).Up) v2) hb163
        obtain rfl := Kd.bool.op hR167
        refine L_pu (P_ia Try.underlying109 se109 A64 ad164 n65 c66 h147.len (nth ((nth r.Commits k2).Up) v2) rfl hA166 rfl hb163) ?_
        refine L_ste0 A64 n65 c66 xs4 h147 (nth ((nth r.Commits k2).Up) v2) hb163 ad164 hA166 0 rfl [vb true] rfl sz4 rfl true [vb (nth xs4 (nth ((nth r.Commits k2).Up) v2))] [vb true] hcl168 rfl rfl rfl fun w170 g171 h172 => ?_
        have hc173 := hc143.wr 0 rfl g171
        refine L_nil ?_
        refine W_reg ?_
        obtain ⟨hb174, H⟩ := H
        refine L_pu (P_add v2 1 rfl rfl hb174) ?_
        refine L_pu (P_move (vi (v2 + 1)) rfl) ?_
        refine L_nil ?_
        obtain ⟨hI175, hm176⟩ := H
        have h177 := (h144.st (.wl (L := [blk (.slice A64 n65 c66)]) (O := O) (j := 0) rfl g171))
        have h178 := (h145.st (.wl (L := [blk (.slice A64 n65 c66)]) (O := O) (j := 0) rfl g171))
        have h179 := (h146.st (.wl (L := [blk (.slice A64 n65 c66)]) (O := O) (j := 0) rfl g171))
        have h180 := (h148.st (.wl (L := [blk (.slice A64 n65 c66)]) (O := O) (j := 0) rfl g171))
        exact ⟨((xs4.set (nth ((nth r.Commits k2).Up) v2).toNat true), v2 + 1), hm176, hI175, ⟨rfl, rfl, rfl, rfl, rfl, rfl, trivial⟩, hc173, h177, h178, h179, h172, h180⟩
      · have H := ite_f H hq155
        refine W_exit (xin_hit ?_)
        refine W_reg ?_
        refine L_pu (P_move (vi k2) rfl) ?_
        obtain ⟨hb181, H⟩ := H
        refine L_pu (P_sub k2 1 rfl rfl hb181) ?_
        refine L_pu (P_assign (vi (k2 - 1)) rfl) ?_
        refine L_nil ?_
        obtain ⟨hI182, hm183⟩ := H
        exact ⟨(xs4, A64, n65, c66, k2 - 1), hm183, hI182, ⟨rfl, rfl, rfl, trivial⟩, hc143, h145, h146, h147, h148⟩
    · have H := ite_f H hq90
      refine W_skip ?_
      refine W_reg ?_
      refine L_pu (P_move (vi k2) rfl) ?_
      obtain ⟨hb184, H⟩ := H
      refine L_pu (P_sub k2 1 rfl rfl hb184) ?_
      refine L_pu (P_assign (vi (k2 - 1)) rfl) ?_
      refine L_nil ?_
      obtain ⟨hI185, hm186⟩ := H
      exact ⟨(xs2, A64, n65, c66, k2 - 1), hm186, hI185, ⟨rfl, rfl, rfl, trivial⟩, hc70, h71, h72, h73, h74⟩
  · have H := ite_f H hq82
    refine W_exit (xin_hit ?_)
    refine W_seq ?_
    refine W_reg ?_
    refine L_pu (P_move (.slice A64 n65 c66) rfl) ?_
    refine L_pu (P_assign (.slice A64 n65 c66) rfl) ?_
    refine L_nil ?_
    refine W_ret ?_
    exact ⟨[.slice A64 n65 c66], ⟨_, rfl, rfl⟩, xs2, A64, n65, c66, rfl, H, hc70.gr, hc70.ok, hc70.ge, h73⟩
end Go.Proofs.Ythkeboifjlnjjaa

namespace Go.Proofs.Ythkeboifjlnjjaa
set_option linter.unusedVariables false
set_option linter.unusedSimpArgs false
set_option linter.unusedSectionVars false
theorem impl_Repo_past.law (r : Repo) (b : Nat) (Q : List Bool → Prop) (hr : repoOk r = true) (hb : b < r.Commits.length) (hl : bulk r ≤ 1048576) (hq : Q (pastOf r b)) : impl_Repo_past.E r (b : Int) Q := by
  unfold impl_Repo_past.E
  have hc := repoOk_len hr
  have b1 : bulk r = bulk r.Commits + bulk r.Heads := rfl
  simp only [Int.toNat_natCast]
  refine ⟨by omega, by simp; omega, ?_⟩
  refine ⟨fun xs k => ∃ j : Nat, k = (j : Int) - 1 ∧ j ≤ b + 1 ∧ xs.length = r.Commits.length ∧ back r j xs = pastOf r b, fun _ k => (k + 1).toNat, ⟨b + 1, by omega, Nat.le_refl _, by simp, rfl⟩, ?_⟩
  rintro xs _ ⟨j, rfl, hj, hx, hbk⟩
  by_cases h0 : (j : Int) - 1 ≥ 0
  · rw [if_pos (by rw [decide_eq_true_eq]; exact h0)]
    obtain ⟨i, rfl⟩ : ∃ i, j = i + 1 := ⟨j - 1, by omega⟩
    have ei : ((i + 1 : Nat) : Int) - 1 = (i : Int) := by omega
    rw [ei]
    rw [back] at hbk
    refine ⟨by omega, ?_⟩
    cases hn : nth xs (i : Int) with
    | false =>
      rw [if_neg (by decide)]
      rw [hn, if_neg (by decide)] at hbk
      exact ⟨by unfold I64; omega, ⟨i, rfl, by omega, hx, hbk⟩, by dsimp only; omega⟩
    | true =>
      rw [if_pos rfl]
      rw [hn, if_pos rfl] at hbk
      have hu := repoOk_up hr (k := i) (by omega)
      have m1 := bulk_mem (nth_mem r.Commits (show i < r.Commits.length by omega))
      have m2 : bulk (nth r.Commits (i : Int)) = bulk (nth r.Commits (i : Int)).Up + bulk (nth r.Commits (i : Int)).Sheet + bulk (nth r.Commits (i : Int)).Note := rfl
      have m3 := bulk_len (nth r.Commits (i : Int)).Up
      generalize (nth r.Commits (i : Int)).Up = up at *
      refine ⟨by omega, fun ys v => ∃ u : Nat, v = u ∧ u ≤ up.length ∧ ys = stepUp (up.take u) xs, fun _ v => (up.length - v).toNat, ⟨0, rfl, Nat.zero_le _, rfl⟩, ?_⟩
      rintro _ _ ⟨u, rfl, hu', rfl⟩
      by_cases h1 : (u : Int) < (up.length : Int)
      · rw [if_pos (by rw [decide_eq_true_eq]; exact h1)]
        have hm := hu _ (nth_mem up (show u < up.length by omega))
        exact ⟨by omega, by rw [stepUp_len]; omega, by unfold I64; omega, ⟨u + 1, by omega, by omega, (stepUp_take up xs (by omega)).symm⟩, by dsimp only; omega⟩
      · rw [if_neg (by rw [decide_eq_true_eq]; exact h1)]
        have : u = up.length := by omega
        subst this
        rw [List.take_length]
        exact ⟨by unfold I64; omega, ⟨i, rfl, by omega, by rw [stepUp_len]; exact hx, hbk⟩, by dsimp only; omega⟩
  · rw [if_neg (by rw [decide_eq_true_eq]; exact h0)]
    have : j = 0 := by omega
    subst this
    rw [back] at hbk
    rw [hbk]; exact hq
end Go.Proofs.Ythkeboifjlnjjaa

namespace Go.Proofs.Ythkeboifjlnjjaa
open Go.RowKit
set_option linter.unusedVariables false
def impl_RepoAhead.E (r : Repo) (a : Int) (b : Int) (Q : Bool → Prop) : Prop :=
  impl_RepoOk.E r (fun r2 => (if r2 then impl_Repo_version.E r a (fun r3 => (if r3 then impl_Repo_version.E r b (fun r4 => (if r4 then impl_Repo_past.E r b (fun r5 => ((0 : Int) ≤ a ∧ a < (r5.length : Int)) ∧ Q (nth r5 a)) else Q false)) else Q false)) else Q false))
set_option maxHeartbeats 8000000 in
set_option maxRecDepth 100000 in
theorem impl_RepoAhead.calls {O : Ob} (w0 : World) (hO : Ok w0 O) (r : Repo) (A1 : Option Addr) (n2 c3 : Nat) (A6 : Option Addr) (n7 c8 : Nat) (hp4 : Sl kCommit w0 (Fr O) (.slice A1 n2 c3) r.Commits) (hp9 : Sl kHead w0 (Fr O) (.slice A6 n7 c8) r.Heads) (a : Int) (b : Int) (Q : Bool → Prop) (h : impl_RepoAhead.E r a b Q) :
    Ret Try.prog 28 [.agg #[.slice A1 n2 c3, .slice A6 n7 c8], vi a, vi b] w0 (fun v w' => ∃ (r0 : Bool), v = vb r0 ∧ Q r0 ∧ Gr w0 w' none) := by
  have H : impl_RepoOk.E r (fun r2 => (if r2 then impl_Repo_version.E r a (fun r3 => (if r3 then impl_Repo_version.E r b (fun r4 => (if r4 then impl_Repo_past.E r b (fun r5 => ((0 : Int) ≤ a ∧ a < (r5.length : Int)) ∧ Q (nth r5 a)) else Q false)) else Q false)) else Q false)) := h
  clear h
  have hc0 := Ct.init hO
  refine Ret_enter Try.func28 rfl 27 rfl [.tmp 6] rfl rfl ?_
  refine W_seq ?_
  refine W_reg ?_
  refine L_box [.slice A1 n2 c3, .slice A6 n7 c8] rfl fun w11 b12 hl14 hu15 g13 hx16 => ?_
  have h18 := Fb.mk hc0.ok hl14 hx16
  have hc19 := hc0.k0 g13
  refine L_pu (P_assign (vb false) rfl) ?_
  refine L_nil ?_
  refine W_seq ?_
  refine W_reg ?_
  refine L_pu (P_lda ag46 sz46 cL ⟨b12, 0, none⟩ [.slice A1 n2 c3, .slice A6 n7 c8] rfl rfl (h18.cells (off := 0) rfl)) ?_
  refine L_call go24 [.agg #[.slice A1 n2 c3, .slice A6 n7 c8]] rfl ((impl_RepoOk.calls w11 hc19.ok r A1 n2 c3 A6 n7 c8 (hp4.st hc19.st) (hp9.st hc19.st) _ H).mono ?_)
  rintro _ w20 ⟨r2, rfl, H, g21⟩
  have hc25 := hc19.k0 g21
  refine L_pu (P_move (vb r2) rfl) ?_
  rcases bool_or r2 with hq26 | hq26
  · have H := ite_t H hq26
    refine L_run (dj := 9) rfl rfl (by exact congrArg Value.bool hq26) ?_
    have h27 := (h18.st (.new _ g21))
    refine L_pu (P_lda ag46 sz46 cL ⟨b12, 0, none⟩ [.slice A1 n2 c3, .slice A6 n7 c8] rfl rfl (h27.cells (off := 0) rfl)) ?_
    refine L_run (dj := 9) rfl rfl (by exact congrArg Value.bool hq26) ?_
    refine L_pu (P_move (vi a) rfl) ?_
    refine L_run (dj := 9) rfl rfl (by exact congrArg Value.bool hq26) ?_
    refine L_call go65 [.agg #[.slice A1 n2 c3, .slice A6 n7 c8], vi a] rfl ((impl_Repo_version.calls w20 hc25.ok r A1 n2 c3 A6 n7 c8 (hp4.st hc25.st) (hp9.st hc25.st) a _ H).mono ?_)
    rintro _ w28 ⟨r3, rfl, H, g29⟩
    have hc33 := hc25.k0 g29
    refine L_pu (P_pick true (vb r3) (by exact congrArg Value.bool hq26) rfl) ?_
    refine L_pu (P_move (vb r3) rfl) ?_
    rcases bool_or r3 with hq34 | hq34
    · have H := ite_t H hq34
      refine L_run (dj := 14) rfl rfl (by exact congrArg Value.bool hq34) ?_
      have h35 := (h27.st (.new _ g29))
      refine L_pu (P_lda ag46 sz46 cL ⟨b12, 0, none⟩ [.slice A1 n2 c3, .slice A6 n7 c8] rfl rfl (h35.cells (off := 0) rfl)) ?_
      refine L_run (dj := 14) rfl rfl (by exact congrArg Value.bool hq34) ?_
      refine L_pu (P_move (vi b) rfl) ?_
      refine L_run (dj := 14) rfl rfl (by exact congrArg Value.bool hq34) ?_
      refine L_call go65 [.agg #[.slice A1 n2 c3, .slice A6 n7 c8], vi b] rfl ((impl_Repo_version.calls w28 hc33.ok r A1 n2 c3 A6 n7 c8 (hp4.st hc33.st) (hp9.st hc33.st) b _ H).mono ?_)
      rintro _ w36 ⟨r4, rfl, H, g37⟩
      have hc41 := hc33.k0 g37
      refine L_pu (P_pick true (vb r4) (by exact congrArg Value.bool hq34) rfl) ?_
      refine L_pu (P_move (vb r4) rfl) ?_
      rcases bool_or r4 with hq42 | hq42
      · have H := ite_t H hq42
        refine L_run (dj := 19) rfl rfl (by exact congrArg Value.bool hq42) ?_
        have h43 := (h35.st (.new _ g37))
        refine L_pu (P_lda ag46 sz46 cL ⟨b12, 0, none⟩ [.slice A1 n2 c3, .slice A6 n7 c8] rfl rfl (h43.cells (off := 0) rfl)) ?_
        refine L_run (dj := 19) rfl rfl (by exact congrArg Value.bool hq42) ?_
        refine L_pu (P_move (vi b) rfl) ?_
        refine L_run (dj := 19) rfl rfl (by exact congrArg Value.bool hq42) ?_
        refine L_call go68 [.agg #[.slice A1 n2 c3, .slice A6 n7 c8], vi b] rfl ((impl_Repo_past.calls w36 hc41.ok r A1 n2 c3 A6 n7 c8 (hp4.st hc41.st) (hp9.st hc41.st) b _ H).mono ?_)
        rintro _ w44 ⟨r5, A46, n47, c48, rfl, H, g45, hk52, hk53, h49⟩
        have hc54 := hc41.owns g45 hk52 hk53
        refine L_run (dj := 19) rfl rfl (by exact congrArg Value.bool hq42) ?_
        refine L_pu (P_move (vi a) rfl) ?_
        refine L_run (dj := 19) rfl rfl (by exact congrArg Value.bool hq42) ?_
        obtain ⟨hb55, H⟩ := H
        obtain ⟨ad56, cs57, hA58, hR59, hcl60⟩ := h49.get default (by decide) a hb55
        obtain rfl := Kd.bool.op hR59
        refine L_pu (P_ia Try.underlying109 se109 A46 ad56 n47 c48 h49.len a rfl hA58 rfl hb55) ?_
        refine L_run (dj := 19) rfl rfl (by exact congrArg Value.bool hq42) ?_
        refine L_pu (P_ld ag4 cL (ad56.add (a.toNat * 1)) (vb (nth r5 a)) rfl (hcl60 0 _ rfl)) ?_
        refine L_pu (P_pick true (vb (nth r5 a)) (by exact congrArg Value.bool hq42) rfl) ?_
        refine L_pu (P_assign (vb (nth r5 a)) rfl) ?_
        refine L_nil ?_
        refine W_ret ?_
        have hc62 := hc54.drop 0 rfl
        exact ⟨[vb (nth r5 a)], ⟨_, rfl, rfl⟩, (nth r5 a), rfl, H, hc62.gr⟩
      · have H := ite_f H hq42
        refine L_pass (dj := 19) rfl rfl (.inl (by exact congrArg Value.bool hq42)) ?_
        refine L_pass (dj := 19) rfl rfl (.inl (by exact congrArg Value.bool hq42)) ?_
        refine L_pass (dj := 19) rfl rfl (.inl (by exact congrArg Value.bool hq42)) ?_
        refine L_pass (dj := 19) rfl rfl (.inl (by exact congrArg Value.bool hq42)) ?_
        refine L_pass (dj := 19) rfl rfl (.inl (by exact congrArg Value.bool hq42)) ?_
        refine L_pass (dj := 19) rfl rfl (.inl (by exact congrArg Value.bool hq42)) ?_
        refine L_pu (P_pick false (vb false) (by exact congrArg Value.bool hq42) rfl) ?_
        refine L_pu (P_assign (vb false) rfl) ?_
        refine L_nil ?_
        refine W_ret ?_
        exact ⟨[vb false], ⟨_, rfl, rfl⟩, false, rfl, H, hc41.gr⟩
    · have H := ite_f H hq34
      refine L_pass (dj := 14) rfl rfl (.inl (by exact congrArg Value.bool hq34)) ?_
      refine L_pass (dj := 14) rfl rfl (.inl (by exact congrArg Value.bool hq34)) ?_
      refine L_pass (dj := 14) rfl rfl (.inl (by exact congrArg Value.bool hq34)) ?_
      refine L_pu (P_pick false (vb false) (by exact congrArg Value.bool hq34) rfl) ?_
      refine L_pu (P_move (vb false) rfl) ?_
      refine L_pass (dj := 19) rfl rfl (.inl rfl) ?_
      refine L_pass (dj := 19) rfl rfl (.inl rfl) ?_
      refine L_pass (dj := 19) rfl rfl (.inl rfl) ?_
      refine L_pass (dj := 19) rfl rfl (.inl rfl) ?_
      refine L_pass (dj := 19) rfl rfl (.inl rfl) ?_
      refine L_pass (dj := 19) rfl rfl (.inl rfl) ?_
      refine L_pu (P_pick false (vb false) (by exact congrArg Value.bool rfl) rfl) ?_
      refine L_pu (P_assign (vb false) rfl) ?_
      refine L_nil ?_
      refine W_ret ?_
      exact ⟨[vb false], ⟨_, rfl, rfl⟩, false, rfl, H, hc33.gr⟩
  · have H := ite_f H hq26
    refine L_pass (dj := 9) rfl rfl (.inl (by exact congrArg Value.bool hq26)) ?_
    refine L_pass (dj := 9) rfl rfl (.inl (by exact congrArg Value.bool hq26)) ?_
    refine L_pass (dj := 9) rfl rfl (.inl (by exact congrArg Value.bool hq26)) ?_
    refine L_pu (P_pick false (vb false) (by exact congrArg Value.bool hq26) rfl) ?_
    refine L_pu (P_move (vb false) rfl) ?_
    refine L_pass (dj := 14) rfl rfl (.inl rfl) ?_
    refine L_pass (dj := 14) rfl rfl (.inl rfl) ?_
    refine L_pass (dj := 14) rfl rfl (.inl rfl) ?_
    refine L_pu (P_pick false (vb false) (by exact congrArg Value.bool rfl) rfl) ?_
    refine L_pu (P_move (vb false) rfl) ?_
    refine L_pass (dj := 19) rfl rfl (.inl rfl) ?_
    refine L_pass (dj := 19) rfl rfl (.inl rfl) ?_
    refine L_pass (dj := 19) rfl rfl (.inl rfl) ?_
    refine L_pass (dj := 19) rfl rfl (.inl rfl) ?_
    refine L_pass (dj := 19) rfl rfl (.inl rfl) ?_
    refine L_pass (dj := 19) rfl rfl (.inl rfl) ?_
    refine L_pu (P_pick false (vb false) (by exact congrArg Value.bool rfl) rfl) ?_
    refine L_pu (P_assign (vb false) rfl) ?_
    refine L_nil ?_
    refine W_ret ?_
    exact ⟨[vb false], ⟨_, rfl, rfl⟩, false, rfl, H, hc25.gr⟩
end Go.Proofs.Ythkeboifjlnjjaa

namespace Go.Proofs.Ythkeboifjlnjjaa
set_option linter.unusedVariables false
set_option linter.unusedSimpArgs false
set_option linter.unusedSectionVars false
theorem impl_RepoAhead.law (r : Repo) (a b : Int) (Q : Bool → Prop) (hb : bulk r ≤ 1048576) (hq : Q (ahead r a b)) : impl_RepoAhead.E r a b Q := by
  unfold impl_RepoAhead.E
  unfold ahead verIn at hq
  refine impl_RepoOk.law _ _ hb ?_
  cases hr : repoOk r with
  | false => rw [hr] at hq; rw [if_neg (by decide)]; exact hq
  | true =>
  rw [hr, Bool.true_and, Bool.true_and] at hq
  rw [if_pos rfl]
  refine impl_Repo_version.law _ _ _ ?_
  cases h1 : (decide (0 ≤ a) && decide (a < (r.Commits.length : Int))) with
  | false => rw [h1] at hq; rw [if_neg (by decide)]; exact hq
  | true =>
  rw [h1, Bool.true_and] at hq; rw [if_pos rfl]
  refine impl_Repo_version.law _ _ _ ?_
  cases h2 : (decide (0 ≤ b) && decide (b < (r.Commits.length : Int))) with
  | false => rw [h2] at hq; rw [if_neg (by decide)]; exact hq
  | true =>
  rw [h2, Bool.true_and] at hq; rw [if_pos rfl]
  simp only [Bool.and_eq_true, decide_eq_true_eq] at h1 h2
  obtain ⟨hb0, hb1⟩ := h2
  obtain ⟨n, rfl⟩ := Int.eq_ofNat_of_zero_le hb0
  rw [Int.toNat_natCast] at hq
  refine impl_Repo_past.law r n _ hr (by omega) hb ?_
  exact ⟨by rw [pastOf_len]; omega, hq⟩
end Go.Proofs.Ythkeboifjlnjjaa

namespace Go.Proofs.Ythkeboifjlnjjaa
open Go.RowKit
set_option linter.unusedVariables false
def laws_eqIntS.E (a : List Int) (b : List Int) (Q : Bool → Prop) : Prop :=
  (if (a.length : Int) != (b.length : Int) then Q false else (∃ (I32 : Int → Prop) (mu33 : Int → Nat), I32 0 ∧ ∀ (i2 : Int), I32 i2 → (if decide (i2 < (a.length : Int)) then ((0 : Int) ≤ i2 ∧ i2 < (a.length : Int)) ∧ ((0 : Int) ≤ i2 ∧ i2 < (b.length : Int)) ∧ (if (nth a i2) != (nth b i2) then Q false else (-9223372036854775808 ≤ i2) ∧ I32 (i2 + 1) ∧ mu33 (i2 + 1) < mu33 i2) else Q true)))
set_option maxHeartbeats 8000000 in
set_option maxRecDepth 100000 in
theorem laws_eqIntS.calls {O : Ob} (w0 : World) (hO : Ok w0 O) (a : List Int) (A1 : Option Addr) (n2 c3 : Nat) (hp4 : Sl (Kd.int .i64) w0 (Fr O) (.slice A1 n2 c3) a) (b : List Int) (A6 : Option Addr) (n7 c8 : Nat) (hp9 : Sl (Kd.int .i64) w0 (Fr O) (.slice A6 n7 c8) b) (Q : Bool → Prop) (h : laws_eqIntS.E a b Q) :
    Ret Try.prog 117 [.slice A1 n2 c3, .slice A6 n7 c8] w0 (fun v w' => ∃ (r0 : Bool), v = vb r0 ∧ Q r0 ∧ Gr w0 w' none) := by
  have H : (if (a.length : Int) != (b.length : Int) then Q false else (∃ (I32 : Int → Prop) (mu33 : Int → Nat), I32 0 ∧ ∀ (i2 : Int), I32 i2 → (if decide (i2 < (a.length : Int)) then ((0 : Int) ≤ i2 ∧ i2 < (a.length : Int)) ∧ ((0 : Int) ≤ i2 ∧ i2 < (b.length : Int)) ∧ (if (nth a i2) != (nth b i2) then Q false else (-9223372036854775808 ≤ i2) ∧ I32 (i2 + 1) ∧ mu33 (i2 + 1) < mu33 i2) else Q true))) := h
  clear h
  have hc0 := Ct.init hO
  refine Ret_enter Try.func117 rfl 26 rfl [.tmp 4] rfl rfl ?_
  refine W_seq ?_
  refine W_reg ?_
  refine L_pu (P_assign (vb false) rfl) ?_
  refine L_nil ?_
  refine W_seq ?_
  refine W_seq ?_
  refine W_reg ?_
  refine L_pu (P_move (.slice A1 n2 c3) rfl) ?_
  have hl11 := hp4.le
  refine L_pu (P_len Try.underlying90 A1 n2 c3 hp4.len rfl) ?_
  refine L_pu (P_move (.slice A6 n7 c8) rfl) ?_
  have hl12 := hp9.le
  refine L_pu (P_len Try.underlying90 A6 n7 c8 hp9.len rfl) ?_
  refine L_pu (P_cmp (a.length : Int) (b.length : Int) ((a.length : Int) != (b.length : Int)) rfl rfl rfl) ?_
  refine L_nil ?_
  refine W_cond ((a.length : Int) != (b.length : Int)) rfl (fun hq13 => ?_) (fun hq13 => ?_)
  · have H := ite_t H hq13
    refine W_seq ?_
    refine W_reg ?_
    refine L_pu (P_assign (vb false) rfl) ?_
    refine L_nil ?_
    refine W_ret ?_
    exact ⟨[vb false], ⟨_, rfl, rfl⟩, false, rfl, H, hc0.gr⟩
  · have H := ite_f H hq13
    refine W_skip ?_
    refine W_seq ?_
    refine W_seq ?_
    refine W_reg ?_
    refine L_pu (P_assign (vi 0) rfl) ?_
    refine L_nil ?_
    refine W_block ?_
    obtain ⟨I32, mu33, hI34, H⟩ := H
    refine W_loop (α := Int) (fun (sv__ : Int) t w26 => match sv__ with | i2 => I32 i2 ∧ Has t [(0, .slice A1 n2 c3), (1, .slice A6 n7 c8), (5, vi i2)] ∧ Ct none w0 w26 [] O ∧ Sl (Kd.int .i64) w26 (Fr ([] ++ O)) (.slice A1 n2 c3) a ∧ Sl (Kd.int .i64) w26 (Fr ([] ++ O)) (.slice A6 n7 c8) b) (fun (sv__ : Int) => match sv__ with | i2 => mu33 i2) 0 ⟨hI34, ⟨rfl, rfl, rfl, trivial⟩, hc0, hp4, hp9⟩ ?_
    rintro i2 _ w26 ⟨hI34, hh36, hc29, h30, h31⟩
    obtain ⟨u37, rfl⟩ := Has.ins hh36
    have H := H i2 hI34
    refine W_seq ?_
    refine W_seq ?_
    refine W_reg ?_
    refine L_pu (P_move (vi i2) rfl) ?_
    refine L_pu (P_move (.slice A1 n2 c3) rfl) ?_
    have hl38 := h30.le
    refine L_pu (P_len Try.underlying90 A1 n2 c3 h30.len rfl) ?_
    refine L_pu (P_cmp i2 (a.length : Int) (decide (i2 < (a.length : Int))) rfl rfl rfl) ?_
    refine L_nil ?_
    refine W_cond (decide (i2 < (a.length : Int))) rfl (fun hq39 => ?_) (fun hq39 => ?_)
    · have H := ite_t H hq39
      refine W_skip ?_
      refine W_seq ?_
      refine W_block ?_
      refine W_seq ?_
      refine W_draw (fun x => Gr w26 x none) (by kernel_rfl) (by kernel_rfl) (Gr.drew _) ?_
      refine Q_pu (P_move (.slice A1 n2 c3) rfl) ?_
      refine Q_pu (P_move (vi i2) rfl) ?_
      obtain ⟨hb40, H⟩ := H
      obtain ⟨ad41, cs42, hA43, hS46, hR44, hcl45⟩ := h30.get default (by decide) i2 hb40
      obtain rfl := Kd.int.op hR44
      refine Q_pu (P_ia Try.underlying90 se90 A1 ad41 n2 c3 h30.len i2 rfl hA43 rfl hb40) ?_
      refine Q_pu (P_ld ag3 cQ (ad41.add (i2.toNat * 1)) (vi (nth a i2)) rfl (hcl45 0 _ rfl)) ?_
      refine Q_pu (P_move (.slice A6 n7 c8) rfl) ?_
      refine Q_pu (P_move (vi i2) rfl) ?_
      obtain ⟨hb47, H⟩ := H
      obtain ⟨ad48, cs49, hA50, hS53, hR51, hcl52⟩ := h31.get default (by decide) i2 hb47
      obtain rfl := Kd.int.op hR51
      refine Q_pu (P_ia Try.underlying90 se90 A6 ad48 n7 c8 h31.len i2 rfl hA50 rfl hb47) ?_
      refine Q_pu (P_ld ag3 cQ (ad48.add (i2.toNat * 1)) (vi (nth b i2)) rfl (hcl52 0 _ rfl)) ?_
      refine Q_pu (P_cmp (nth a i2) (nth b i2) ((nth a i2) != (nth b i2)) rfl rfl rfl) ?_
      refine Q_nil fun w54 g55 => ?_
      have hc57 := hc29.k0 g55
      refine W_cond ((nth a i2) != (nth b i2)) rfl (fun hq58 => ?_) (fun hq58 => ?_)
      · have H := ite_t H hq58
        refine W_seq ?_
        refine W_reg ?_
        refine L_pu (P_assign (vb false) rfl) ?_
        refine L_nil ?_
        refine W_ret ?_
        exact ⟨[vb false], ⟨_, rfl, rfl⟩, false, rfl, H, hc57.gr⟩
      · have H := ite_f H hq58
        refine W_skip ?_
        refine W_reg ?_
        refine L_pu (P_move (vi i2) rfl) ?_
        obtain ⟨hb60, H⟩ := H
        have hi59 : I64 (i2 + 1) := i64_succ (of_decide_eq_true hq39) hl38 hb60
        refine L_pu (P_add i2 1 rfl rfl hi59) ?_
        refine L_pu (P_assign (vi (i2 + 1)) rfl) ?_
        refine L_nil ?_
        obtain ⟨hI61, hm62⟩ := H
        exact ⟨i2 + 1, hm62, hI61, ⟨rfl, rfl, rfl, trivial⟩, hc57, (h30.st (.new _ g55)), (h31.st (.new _ g55))⟩
    · have H := ite_f H hq39
      refine W_exit (xin_hit ?_)
      refine W_seq ?_
      refine W_reg ?_
      refine L_pu (P_assign (vb true) rfl) ?_
      refine L_nil ?_
      refine W_ret ?_
      exact ⟨[vb true], ⟨_, rfl, rfl⟩, true, rfl, H, hc29.gr⟩
end Go.Proofs.Ythkeboifjlnjjaa

namespace Go.Proofs.Ythkeboifjlnjjaa
set_option linter.unusedVariables false
set_option linter.unusedSimpArgs false
set_option linter.unusedSectionVars false
theorem laws_eqIntS.law (a b : List Int) (Q : Bool → Prop) (hq : Q (decide (a = b))) : laws_eqIntS.E a b Q := by
  unfold laws_eqIntS.E
  exact eqN_shape a b Q hq
theorem laws_eqIntS.is (a b : List Int) : laws_eqIntS.E a b (fun r => r = decide (a = b)) := laws_eqIntS.law a b _ rfl
end Go.Proofs.Ythkeboifjlnjjaa

namespace Go.Proofs.Ythkeboifjlnjjaa
open Go.RowKit
set_option linter.unusedVariables false
def laws_eqPt.E (a : Pt) (b : Pt) (Q : Bool → Prop) : Prop :=
  (if a.X != b.X then Q false else (if a.Y != b.Y then Q false else Q true))
set_option maxHeartbeats 8000000 in
set_option maxRecDepth 100000 in
theorem laws_eqPt.calls {O : Ob} (w0 : World) (hO : Ok w0 O) (a : Pt) (b : Pt) (Q : Bool → Prop) (h : laws_eqPt.E a b Q) :
    Ret Try.prog 130 [.agg #[vi a.X, vi a.Y], .agg #[vi b.X, vi b.Y]] w0 (fun v w' => ∃ (r0 : Bool), v = vb r0 ∧ Q r0 ∧ Gr w0 w' none) := by
  have H : (if a.X != b.X then Q false else (if a.Y != b.Y then Q false else Q true)) := h
  clear h
  have hc0 := Ct.init hO
  refine Ret_enter Try.func130 rfl 15 rfl [.tmp 4] rfl rfl ?_
  refine W_seq ?_
  refine W_reg ?_
  refine L_box [vi a.X, vi a.Y] rfl fun w1 b2 hl4 hu5 g3 hx6 => ?_
  have h8 := Fb.mk hc0.ok hl4 hx6
  have hc9 := hc0.k0 g3
  refine L_box [vi b.X, vi b.Y] rfl fun w10 b11 hl13 hu14 g12 hx15 => ?_
  have h17 := Fb.mk hc9.ok hl13 hx15
  have hc18 := hc9.k0 g12
  refine L_pu (P_assign (vb false) rfl) ?_
  refine L_nil ?_
  refine W_seq ?_
  refine W_seq ?_
  refine W_reg ?_
  refine L_pu (P_fa fa64_0 ⟨b2, 0, none⟩ ⟨b2, 0, none⟩ rfl rfl) ?_
  have h19 := (h8.st (.new _ g12))
  refine L_pu (P_ld ag3 cL ⟨b2, 0, none⟩ (vi a.X) rfl (h19.cell rfl)) ?_
  refine L_pu (P_fa fa64_0 ⟨b11, 0, none⟩ ⟨b11, 0, none⟩ rfl rfl) ?_
  refine L_pu (P_ld ag3 cL ⟨b11, 0, none⟩ (vi b.X) rfl (h17.cell rfl)) ?_
  refine L_pu (P_cmp a.X b.X (a.X != b.X) rfl rfl rfl) ?_
  refine L_nil ?_
  refine W_cond (a.X != b.X) rfl (fun hq20 => ?_) (fun hq20 => ?_)
  · have H := ite_t H hq20
    refine W_seq ?_
    refine W_reg ?_
    refine L_pu (P_assign (vb false) rfl) ?_
    refine L_nil ?_
    refine W_ret ?_
    exact ⟨[vb false], ⟨_, rfl, rfl⟩, false, rfl, H, hc18.gr⟩
  · have H := ite_f H hq20
    refine W_skip ?_
    refine W_seq ?_
    refine W_seq ?_
    refine W_reg ?_
    refine L_pu (P_fa fa64_1 ⟨b2, 0, none⟩ ⟨b2, 1, none⟩ rfl rfl) ?_
    refine L_pu (P_ld ag3 cL ⟨b2, 1, none⟩ (vi a.Y) rfl (h19.cell rfl)) ?_
    refine L_pu (P_fa fa64_1 ⟨b11, 0, none⟩ ⟨b11, 1, none⟩ rfl rfl) ?_
    refine L_pu (P_ld ag3 cL ⟨b11, 1, none⟩ (vi b.Y) rfl (h17.cell rfl)) ?_
    refine L_pu (P_cmp a.Y b.Y (a.Y != b.Y) rfl rfl rfl) ?_
    refine L_nil ?_
    refine W_cond (a.Y != b.Y) rfl (fun hq21 => ?_) (fun hq21 => ?_)
    · have H := ite_t H hq21
      refine W_seq ?_
      refine W_reg ?_
      refine L_pu (P_assign (vb false) rfl) ?_
      refine L_nil ?_
      refine W_ret ?_
      exact ⟨[vb false], ⟨_, rfl, rfl⟩, false, rfl, H, hc18.gr⟩
    · have H := ite_f H hq21
      refine W_skip ?_
      refine W_seq ?_
      refine W_reg ?_
      refine L_pu (P_assign (vb true) rfl) ?_
      refine L_nil ?_
      refine W_ret ?_
      exact ⟨[vb true], ⟨_, rfl, rfl⟩, true, rfl, H, hc18.gr⟩
def laws_eqPt.m (a : Pt) (b : Pt) : Bool := (if a.X != b.X then false else (if a.Y != b.Y then false else true))
theorem laws_eqPt.fn (a : Pt) (b : Pt) : laws_eqPt.E a b (fun r => r = laws_eqPt.m a b) := by
  unfold laws_eqPt.E laws_eqPt.m
  (repeat' split) <;> simp_all
end Go.Proofs.Ythkeboifjlnjjaa

namespace Go.Proofs.Ythkeboifjlnjjaa
set_option linter.unusedVariables false
set_option linter.unusedSimpArgs false
set_option linter.unusedSectionVars false
theorem laws_eqPt.law (a b : Pt) (Q : Bool → Prop) (hq : Q (decide (a = b))) : laws_eqPt.E a b Q := by
  obtain ⟨x0, x1⟩ := a; obtain ⟨y0, y1⟩ := b
  rw [show (decide ((⟨x0, x1⟩ : Pt) = ⟨y0, y1⟩)) = ((decide (x0 = y0)) && (decide (x1 = y1))) by simp only [Pt.mk.injEq, Bool.decide_and]] at hq
  unfold laws_eqPt.E
  by_cases h0 : x0 = y0
  case neg => simpa [h0] using hq
  simp only [h0, decide_true, Bool.true_and, bne_self_eq_false, Bool.not_true, Bool.false_eq_true, if_false] at hq ⊢
  by_cases h1 : x1 = y1
  case neg => simpa [h1] using hq
  simp only [h1, decide_true, Bool.true_and, bne_self_eq_false, Bool.not_true, Bool.false_eq_true, if_false] at hq ⊢
  all_goals (try exact hq)
theorem laws_eqPt.is (a b : Pt) : laws_eqPt.E a b (fun r => r = decide (a = b)) := laws_eqPt.law a b _ rfl
end Go.Proofs.Ythkeboifjlnjjaa

namespace Go.Proofs.Ythkeboifjlnjjaa
open Go.RowKit
set_option linter.unusedVariables false
def laws_eqPtS.E (a : List Pt) (b : List Pt) (Q : Bool → Prop) : Prop :=
  (if (a.length : Int) != (b.length : Int) then Q false else (∃ (I32 : Int → Prop) (mu33 : Int → Nat), I32 0 ∧ ∀ (i2 : Int), I32 i2 → (if decide (i2 < (a.length : Int)) then ((0 : Int) ≤ i2 ∧ i2 < (a.length : Int)) ∧ ((0 : Int) ≤ i2 ∧ i2 < (b.length : Int)) ∧ (if !(decide ((nth a i2) = (nth b i2))) then Q false else (-9223372036854775808 ≤ i2) ∧ I32 (i2 + 1) ∧ mu33 (i2 + 1) < mu33 i2) else Q true)))
set_option maxHeartbeats 8000000 in
set_option maxRecDepth 100000 in
theorem laws_eqPtS.calls {O : Ob} (w0 : World) (hO : Ok w0 O) (a : List Pt) (A1 : Option Addr) (n2 c3 : Nat) (hp4 : Sl kPt w0 (Fr O) (.slice A1 n2 c3) a) (b : List Pt) (A6 : Option Addr) (n7 c8 : Nat) (hp9 : Sl kPt w0 (Fr O) (.slice A6 n7 c8) b) (Q : Bool → Prop) (h : laws_eqPtS.E a b Q) :
    Ret Try.prog 126 [.slice A1 n2 c3, .slice A6 n7 c8] w0 (fun v w' => ∃ (r0 : Bool), v = vb r0 ∧ Q r0 ∧ Gr w0 w' none) := by
  have H : (if (a.length : Int) != (b.length : Int) then Q false else (∃ (I32 : Int → Prop) (mu33 : Int → Nat), I32 0 ∧ ∀ (i2 : Int), I32 i2 → (if decide (i2 < (a.length : Int)) then ((0 : Int) ≤ i2 ∧ i2 < (a.length : Int)) ∧ ((0 : Int) ≤ i2 ∧ i2 < (b.length : Int)) ∧ (if !(decide ((nth a i2) = (nth b i2))) then Q false else (-9223372036854775808 ≤ i2) ∧ I32 (i2 + 1) ∧ mu33 (i2 + 1) < mu33 i2) else Q true))) := h
  clear h
  have hc0 := Ct.init hO
  refine Ret_enter Try.func126 rfl 27 rfl [.tmp 4] rfl rfl ?_
  refine W_seq ?_
  refine W_reg ?_
  refine L_pu (P_assign (vb false) rfl) ?_
  refine L_nil ?_
  refine W_seq ?_
  refine W_seq ?_
  refine W_reg ?_
  refine L_pu (P_move (.slice A1 n2 c3) rfl) ?_
  have hl11 := hp4.le
  refine L_pu (P_len Try.underlying23 A1 n2 c3 hp4.len rfl) ?_
  refine L_pu (P_move (.slice A6 n7 c8) rfl) ?_
  have hl12 := hp9.le
  refine L_pu (P_len Try.underlying23 A6 n7 c8 hp9.len rfl) ?_
  refine L_pu (P_cmp (a.length : Int) (b.length : Int) ((a.length : Int) != (b.length : Int)) rfl rfl rfl) ?_
  refine L_nil ?_
  refine W_cond ((a.length : Int) != (b.length : Int)) rfl (fun hq13 => ?_) (fun hq13 => ?_)
  · have H := ite_t H hq13
    refine W_seq ?_
    refine W_reg ?_
    refine L_pu (P_assign (vb false) rfl) ?_
    refine L_nil ?_
    refine W_ret ?_
    exact ⟨[vb false], ⟨_, rfl, rfl⟩, false, rfl, H, hc0.gr⟩
  · have H := ite_f H hq13
    refine W_skip ?_
    refine W_seq ?_
    refine W_seq ?_
    refine W_reg ?_
    refine L_pu (P_assign (vi 0) rfl) ?_
    refine L_nil ?_
    refine W_block ?_
    obtain ⟨I32, mu33, hI34, H⟩ := H
    refine W_loop (α := Int) (fun (sv__ : Int) t w26 => match sv__ with | i2 => I32 i2 ∧ Has t [(0, .slice A1 n2 c3), (1, .slice A6 n7 c8), (5, vi i2)] ∧ Ct none w0 w26 [] O ∧ Sl kPt w26 (Fr ([] ++ O)) (.slice A1 n2 c3) a ∧ Sl kPt w26 (Fr ([] ++ O)) (.slice A6 n7 c8) b) (fun (sv__ : Int) => match sv__ with | i2 => mu33 i2) 0 ⟨hI34, ⟨rfl, rfl, rfl, trivial⟩, hc0, hp4, hp9⟩ ?_
    rintro i2 _ w26 ⟨hI34, hh36, hc29, h30, h31⟩
    obtain ⟨u37, rfl⟩ := Has.ins hh36
    have H := H i2 hI34
    refine W_seq ?_
    refine W_seq ?_
    refine W_reg ?_
    refine L_pu (P_move (vi i2) rfl) ?_
    refine L_pu (P_move (.slice A1 n2 c3) rfl) ?_
    have hl38 := h30.le
    refine L_pu (P_len Try.underlying23 A1 n2 c3 h30.len rfl) ?_
    refine L_pu (P_cmp i2 (a.length : Int) (decide (i2 < (a.length : Int))) rfl rfl rfl) ?_
    refine L_nil ?_
    refine W_cond (decide (i2 < (a.length : Int))) rfl (fun hq39 => ?_) (fun hq39 => ?_)
    · have H := ite_t H hq39
      refine W_skip ?_
      refine W_seq ?_
      refine W_block ?_
      refine W_seq ?_
      refine W_draw (fun x => Gr w26 x none) (by kernel_rfl) (by kernel_rfl) (Gr.drew _) ?_
      refine Q_pu (P_move (.slice A1 n2 c3) rfl) ?_
      refine Q_pu (P_move (vi i2) rfl) ?_
      obtain ⟨hb40, H⟩ := H
      obtain ⟨ad41, cs42, hA43, hS46, hR44, hcl45⟩ := h30.get default (by decide) i2 hb40
      obtain rfl := kPt.op hR44
      refine Q_pu (P_ia Try.underlying23 se23 A1 ad41 n2 c3 h30.len i2 rfl hA43 rfl hb40) ?_
      refine Q_pu (P_lda ag64 sz64 cQ (ad41.add (i2.toNat * 2)) [vi ((nth a i2).X), vi ((nth a i2).Y)] rfl rfl hcl45) ?_
      refine Q_pu (P_move (.slice A6 n7 c8) rfl) ?_
      refine Q_pu (P_move (vi i2) rfl) ?_
      obtain ⟨hb47, H⟩ := H
      obtain ⟨ad48, cs49, hA50, hS53, hR51, hcl52⟩ := h31.get default (by decide) i2 hb47
      obtain rfl := kPt.op hR51
      refine Q_pu (P_ia Try.underlying23 se23 A6 ad48 n7 c8 h31.len i2 rfl hA50 rfl hb47) ?_
      refine Q_pu (P_lda ag64 sz64 cQ (ad48.add (i2.toNat * 2)) [vi ((nth b i2).X), vi ((nth b i2).Y)] rfl rfl hcl52) ?_
      refine Q_call go130 [.agg #[vi ((nth a i2).X), vi ((nth a i2).Y)], .agg #[vi ((nth b i2).X), vi ((nth b i2).Y)]] rfl (vb (decide ((nth a i2) = (nth b i2)))) (fun w g => (laws_eqPt.calls w (hc29.k0 g).ok (nth a i2) (nth b i2) _ (laws_eqPt.is (nth a i2) (nth b i2))).mono ?_) ?_
      · rintro _ w ⟨r, rfl, rfl, g2⟩
        exact ⟨rfl, Gr.t0 g g2⟩
      refine Q_pu (P_not (decide ((nth a i2) = (nth b i2))) rfl) ?_
      refine Q_nil fun w59 g60 => ?_
      have hc62 := hc29.k0 g60
      refine W_cond (!(decide ((nth a i2) = (nth b i2)))) rfl (fun hq63 => ?_) (fun hq63 => ?_)
      · have H := ite_t H hq63
        refine W_seq ?_
        refine W_reg ?_
        refine L_pu (P_assign (vb false) rfl) ?_
        refine L_nil ?_
        refine W_ret ?_
        exact ⟨[vb false], ⟨_, rfl, rfl⟩, false, rfl, H, hc62.gr⟩
      · have H := ite_f H hq63
        refine W_skip ?_
        refine W_reg ?_
        refine L_pu (P_move (vi i2) rfl) ?_
        obtain ⟨hb65, H⟩ := H
        have hi64 : I64 (i2 + 1) := i64_succ (of_decide_eq_true hq39) hl38 hb65
        refine L_pu (P_add i2 1 rfl rfl hi64) ?_
        refine L_pu (P_assign (vi (i2 + 1)) rfl) ?_
        refine L_nil ?_
        obtain ⟨hI66, hm67⟩ := H
        exact ⟨i2 + 1, hm67, hI66, ⟨rfl, rfl, rfl, trivial⟩, hc62, (h30.st (.new _ g60)), (h31.st (.new _ g60))⟩
    · have H := ite_f H hq39
      refine W_exit (xin_hit ?_)
      refine W_seq ?_
      refine W_reg ?_
      refine L_pu (P_assign (vb true) rfl) ?_
      refine L_nil ?_
      refine W_ret ?_
      exact ⟨[vb true], ⟨_, rfl, rfl⟩, true, rfl, H, hc29.gr⟩
end Go.Proofs.Ythkeboifjlnjjaa

namespace Go.Proofs.Ythkeboifjlnjjaa
set_option linter.unusedVariables false
set_option linter.unusedSimpArgs false
set_option linter.unusedSectionVars false
theorem laws_eqPtS.law (a b : List Pt) (Q : Bool → Prop) (hq : Q (decide (a = b))) : laws_eqPtS.E a b Q := by
  unfold laws_eqPtS.E
  exact eqS_shape (fun x y => decide (x = y)) (fun _ _ => rfl) a b Q hq
theorem laws_eqPtS.is (a b : List Pt) : laws_eqPtS.E a b (fun r => r = decide (a = b)) := laws_eqPtS.law a b _ rfl
end Go.Proofs.Ythkeboifjlnjjaa

namespace Go.Proofs.Ythkeboifjlnjjaa
open Go.RowKit
set_option linter.unusedVariables false
def laws_eqShape.E (a : Shape) (b : Shape) (Q : Bool → Prop) : Prop :=
  (if a.Kind != b.Kind then Q false else laws_eqPtS.E a.Pts b.Pts (fun r => (if !r then Q false else Q true)))
set_option maxHeartbeats 8000000 in
set_option maxRecDepth 100000 in
theorem laws_eqShape.calls {O : Ob} (w0 : World) (hO : Ok w0 O) (a : Shape) (A1 : Option Addr) (n2 c3 : Nat) (hp4 : Sl kPt w0 (Fr O) (.slice A1 n2 c3) a.Pts) (b : Shape) (A6 : Option Addr) (n7 c8 : Nat) (hp9 : Sl kPt w0 (Fr O) (.slice A6 n7 c8) b.Pts) (Q : Bool → Prop) (h : laws_eqShape.E a b Q) :
    Ret Try.prog 110 [.agg #[vi a.Kind, .slice A1 n2 c3], .agg #[vi b.Kind, .slice A6 n7 c8]] w0 (fun v w' => ∃ (r0 : Bool), v = vb r0 ∧ Q r0 ∧ Gr w0 w' none) := by
  have H : (if a.Kind != b.Kind then Q false else laws_eqPtS.E a.Pts b.Pts (fun r => (if !r then Q false else Q true))) := h
  clear h
  have hc0 := Ct.init hO
  refine Ret_enter Try.func110 rfl 16 rfl [.tmp 4] rfl rfl ?_
  refine W_seq ?_
  refine W_reg ?_
  refine L_box [vi a.Kind, .slice A1 n2 c3] rfl fun w11 b12 hl14 hu15 g13 hx16 => ?_
  have h18 := Fb.mk hc0.ok hl14 hx16
  have hc19 := hc0.k0 g13
  refine L_box [vi b.Kind, .slice A6 n7 c8] rfl fun w20 b21 hl23 hu24 g22 hx25 => ?_
  have h27 := Fb.mk hc19.ok hl23 hx25
  have hc28 := hc19.k0 g22
  refine L_pu (P_assign (vb false) rfl) ?_
  refine L_nil ?_
  refine W_seq ?_
  refine W_seq ?_
  refine W_reg ?_
  refine L_pu (P_fa fa76_0 ⟨b12, 0, none⟩ ⟨b12, 0, none⟩ rfl rfl) ?_
  have h29 := (h18.st (.new _ g22))
  refine L_pu (P_ld ag3 cL ⟨b12, 0, none⟩ (vi a.Kind) rfl (h29.cell rfl)) ?_
  refine L_pu (P_fa fa76_0 ⟨b21, 0, none⟩ ⟨b21, 0, none⟩ rfl rfl) ?_
  refine L_pu (P_ld ag3 cL ⟨b21, 0, none⟩ (vi b.Kind) rfl (h27.cell rfl)) ?_
  refine L_pu (P_cmp a.Kind b.Kind (a.Kind != b.Kind) rfl rfl rfl) ?_
  refine L_nil ?_
  refine W_cond (a.Kind != b.Kind) rfl (fun hq30 => ?_) (fun hq30 => ?_)
  · have H := ite_t H hq30
    refine W_seq ?_
    refine W_reg ?_
    refine L_pu (P_assign (vb false) rfl) ?_
    refine L_nil ?_
    refine W_ret ?_
    exact ⟨[vb false], ⟨_, rfl, rfl⟩, false, rfl, H, hc28.gr⟩
  · have H := ite_f H hq30
    refine W_skip ?_
    refine W_seq ?_
    refine W_seq ?_
    refine W_reg ?_
    refine L_pu (P_fa fa76_1 ⟨b12, 0, none⟩ ⟨b12, 1, none⟩ rfl rfl) ?_
    refine L_pu (P_ld ag23 cL ⟨b12, 1, none⟩ (.slice A1 n2 c3) rfl (h29.cell rfl)) ?_
    refine L_pu (P_fa fa76_1 ⟨b21, 0, none⟩ ⟨b21, 1, none⟩ rfl rfl) ?_
    refine L_pu (P_ld ag23 cL ⟨b21, 1, none⟩ (.slice A6 n7 c8) rfl (h27.cell rfl)) ?_
    refine L_call go126 [.slice A1 n2 c3, .slice A6 n7 c8] rfl ((laws_eqPtS.calls w20 hc28.ok a.Pts A1 n2 c3 (hp4.st hc28.st) b.Pts A6 n7 c8 (hp9.st hc28.st) _ H).mono ?_)
    rintro _ w31 ⟨r, rfl, H, g32⟩
    have hc36 := hc28.k0 g32
    refine L_pu (P_not r rfl) ?_
    refine L_nil ?_
    refine W_cond (!r) rfl (fun hq37 => ?_) (fun hq37 => ?_)
    · have H := ite_t H hq37
      refine W_seq ?_
      refine W_reg ?_
      refine L_pu (P_assign (vb false) rfl) ?_
      refine L_nil ?_
      refine W_ret ?_
      exact ⟨[vb false], ⟨_, rfl, rfl⟩, false, rfl, H, hc36.gr⟩
    · have H := ite_f H hq37
      refine W_skip ?_
      refine W_seq ?_
      refine W_reg ?_
      refine L_pu (P_assign (vb true) rfl) ?_
      refine L_nil ?_
      refine W_ret ?_
      exact ⟨[vb true], ⟨_, rfl, rfl⟩, true, rfl, H, hc36.gr⟩
end Go.Proofs.Ythkeboifjlnjjaa

namespace Go.Proofs.Ythkeboifjlnjjaa
set_option linter.unusedVariables false
set_option linter.unusedSimpArgs false
set_option linter.unusedSectionVars false
theorem laws_eqShape.law (a b : Shape) (Q : Bool → Prop) (hq : Q (decide (a = b))) : laws_eqShape.E a b Q := by
  obtain ⟨x0, x1⟩ := a; obtain ⟨y0, y1⟩ := b
  rw [show (decide ((⟨x0, x1⟩ : Shape) = ⟨y0, y1⟩)) = ((decide (x0 = y0)) && (decide (x1 = y1))) by simp only [Shape.mk.injEq, Bool.decide_and]] at hq
  unfold laws_eqShape.E
  by_cases h0 : x0 = y0
  case neg => simpa [h0] using hq
  simp only [h0, decide_true, Bool.true_and, bne_self_eq_false, Bool.not_true, Bool.false_eq_true, if_false] at hq ⊢
  try refine laws_eqPtS.law _ _ _ ?_
  by_cases h1 : x1 = y1
  case neg => simpa [h1] using hq
  simp only [h1, decide_true, Bool.true_and, bne_self_eq_false, Bool.not_true, Bool.false_eq_true, if_false] at hq ⊢
  all_goals (try exact hq)
theorem laws_eqShape.is (a b : Shape) : laws_eqShape.E a b (fun r => r = decide (a = b)) := laws_eqShape.law a b _ rfl
end Go.Proofs.Ythkeboifjlnjjaa

namespace Go.Proofs.Ythkeboifjlnjjaa
open Go.RowKit
set_option linter.unusedVariables false
def laws_eqTag.E (a : Tag) (b : Tag) (Q : Bool → Prop) : Prop :=
  (if a.Key != b.Key then Q false else (if a.Val != b.Val then Q false else Q true))
set_option maxHeartbeats 8000000 in
set_option maxRecDepth 100000 in
theorem laws_eqTag.calls {O : Ob} (w0 : World) (hO : Ok w0 O) (a : Tag) (hs1 : Lim a.Key) (hs2 : Lim a.Val) (b : Tag) (hs3 : Lim b.Key) (hs4 : Lim b.Val) (Q : Bool → Prop) (h : laws_eqTag.E a b Q) :
    Ret Try.prog 127 [.agg #[vs a.Key, vs a.Val], .agg #[vs b.Key, vs b.Val]] w0 (fun v w' => ∃ (r0 : Bool), v = vb r0 ∧ Q r0 ∧ Gr w0 w' none) := by
  have H : (if a.Key != b.Key then Q false else (if a.Val != b.Val then Q false else Q true)) := h
  clear h
  have hc0 := Ct.init hO
  refine Ret_enter Try.func127 rfl 15 rfl [.tmp 4] rfl rfl ?_
  refine W_seq ?_
  refine W_reg ?_
  refine L_box [vs a.Key, vs a.Val] rfl fun w5 b6 hl8 hu9 g7 hx10 => ?_
  have h12 := Fb.mk hc0.ok hl8 hx10
  have hc13 := hc0.k0 g7
  refine L_box [vs b.Key, vs b.Val] rfl fun w14 b15 hl17 hu18 g16 hx19 => ?_
  have h21 := Fb.mk hc13.ok hl17 hx19
  have hc22 := hc13.k0 g16
  refine L_pu (P_assign (vb false) rfl) ?_
  refine L_nil ?_
  refine W_seq ?_
  refine W_seq ?_
  refine W_reg ?_
  refine L_pu (P_fa fa149_0 ⟨b6, 0, none⟩ ⟨b6, 0, none⟩ rfl rfl) ?_
  have h23 := (h12.st (.new _ g16))
  refine L_pu (P_ld ag9 cL ⟨b6, 0, none⟩ (vs a.Key) rfl (h23.cell rfl)) ?_
  refine L_pu (P_fa fa149_0 ⟨b15, 0, none⟩ ⟨b15, 0, none⟩ rfl rfl) ?_
  refine L_pu (P_ld ag9 cL ⟨b15, 0, none⟩ (vs b.Key) rfl (h21.cell rfl)) ?_
  refine L_pu (P_scmp a.Key b.Key (a.Key != b.Key) rfl rfl rfl) ?_
  refine L_nil ?_
  refine W_cond (a.Key != b.Key) rfl (fun hq24 => ?_) (fun hq24 => ?_)
  · have H := ite_t H hq24
    refine W_seq ?_
    refine W_reg ?_
    refine L_pu (P_assign (vb false) rfl) ?_
    refine L_nil ?_
    refine W_ret ?_
    exact ⟨[vb false], ⟨_, rfl, rfl⟩, false, rfl, H, hc22.gr⟩
  · have H := ite_f H hq24
    refine W_skip ?_
    refine W_seq ?_
    refine W_seq ?_
    refine W_reg ?_
    refine L_pu (P_fa fa149_1 ⟨b6, 0, none⟩ ⟨b6, 1, none⟩ rfl rfl) ?_
    refine L_pu (P_ld ag9 cL ⟨b6, 1, none⟩ (vs a.Val) rfl (h23.cell rfl)) ?_
    refine L_pu (P_fa fa149_1 ⟨b15, 0, none⟩ ⟨b15, 1, none⟩ rfl rfl) ?_
    refine L_pu (P_ld ag9 cL ⟨b15, 1, none⟩ (vs b.Val) rfl (h21.cell rfl)) ?_
    refine L_pu (P_scmp a.Val b.Val (a.Val != b.Val) rfl rfl rfl) ?_
    refine L_nil ?_
    refine W_cond (a.Val != b.Val) rfl (fun hq25 => ?_) (fun hq25 => ?_)
    · have H := ite_t H hq25
      refine W_seq ?_
      refine W_reg ?_
      refine L_pu (P_assign (vb false) rfl) ?_
      refine L_nil ?_
      refine W_ret ?_
      exact ⟨[vb false], ⟨_, rfl, rfl⟩, false, rfl, H, hc22.gr⟩
    · have H := ite_f H hq25
      refine W_skip ?_
      refine W_seq ?_
      refine W_reg ?_
      refine L_pu (P_assign (vb true) rfl) ?_
      refine L_nil ?_
      refine W_ret ?_
      exact ⟨[vb true], ⟨_, rfl, rfl⟩, true, rfl, H, hc22.gr⟩
def laws_eqTag.m (a : Tag) (b : Tag) : Bool := (if a.Key != b.Key then false else (if a.Val != b.Val then false else true))
theorem laws_eqTag.fn (a : Tag) (b : Tag) : laws_eqTag.E a b (fun r => r = laws_eqTag.m a b) := by
  unfold laws_eqTag.E laws_eqTag.m
  (repeat' split) <;> simp_all
end Go.Proofs.Ythkeboifjlnjjaa

namespace Go.Proofs.Ythkeboifjlnjjaa
set_option linter.unusedVariables false
set_option linter.unusedSimpArgs false
set_option linter.unusedSectionVars false
theorem laws_eqTag.law (a b : Tag) (Q : Bool → Prop) (hq : Q (decide (a = b))) : laws_eqTag.E a b Q := by
  obtain ⟨x0, x1⟩ := a; obtain ⟨y0, y1⟩ := b
  rw [show (decide ((⟨x0, x1⟩ : Tag) = ⟨y0, y1⟩)) = ((decide (x0 = y0)) && (decide (x1 = y1))) by simp only [Tag.mk.injEq, Bool.decide_and]] at hq
  unfold laws_eqTag.E
  by_cases h0 : x0 = y0
  case neg => simpa [h0] using hq
  simp only [h0, decide_true, Bool.true_and, bne_self_eq_false, Bool.not_true, Bool.false_eq_true, if_false] at hq ⊢
  by_cases h1 : x1 = y1
  case neg => simpa [h1] using hq
  simp only [h1, decide_true, Bool.true_and, bne_self_eq_false, Bool.not_true, Bool.false_eq_true, if_false] at hq ⊢
  all_goals (try exact hq)
theorem laws_eqTag.is (a b : Tag) : laws_eqTag.E a b (fun r => r = decide (a = b)) := laws_eqTag.law a b _ rfl
end Go.Proofs.Ythkeboifjlnjjaa

namespace Go.Proofs.Ythkeboifjlnjjaa
open Go.RowKit
set_option linter.unusedVariables false
def laws_eqTagS.E (a : List Tag) (b : List Tag) (Q : Bool → Prop) : Prop :=
  (if (a.length : Int) != (b.length : Int) then Q false else (∃ (I32 : Int → Prop) (mu33 : Int → Nat), I32 0 ∧ ∀ (i2 : Int), I32 i2 → (if decide (i2 < (a.length : Int)) then ((0 : Int) ≤ i2 ∧ i2 < (a.length : Int)) ∧ ((0 : Int) ≤ i2 ∧ i2 < (b.length : Int)) ∧ (if !(decide ((nth a i2) = (nth b i2))) then Q false else (-9223372036854775808 ≤ i2) ∧ I32 (i2 + 1) ∧ mu33 (i2 + 1) < mu33 i2) else Q true)))
set_option maxHeartbeats 8000000 in
set_option maxRecDepth 100000 in
theorem laws_eqTagS.calls {O : Ob} (w0 : World) (hO : Ok w0 O) (a : List Tag) (A1 : Option Addr) (n2 c3 : Nat) (hp4 : Sl kTag w0 (Fr O) (.slice A1 n2 c3) a) (b : List Tag) (A6 : Option Addr) (n7 c8 : Nat) (hp9 : Sl kTag w0 (Fr O) (.slice A6 n7 c8) b) (Q : Bool → Prop) (h : laws_eqTagS.E a b Q) :
    Ret Try.prog 111 [.slice A1 n2 c3, .slice A6 n7 c8] w0 (fun v w' => ∃ (r0 : Bool), v = vb r0 ∧ Q r0 ∧ Gr w0 w' none) := by
  have H : (if (a.length : Int) != (b.length : Int) then Q false else (∃ (I32 : Int → Prop) (mu33 : Int → Nat), I32 0 ∧ ∀ (i2 : Int), I32 i2 → (if decide (i2 < (a.length : Int)) then ((0 : Int) ≤ i2 ∧ i2 < (a.length : Int)) ∧ ((0 : Int) ≤ i2 ∧ i2 < (b.length : Int)) ∧ (if !(decide ((nth a i2) = (nth b i2))) then Q false else (-9223372036854775808 ≤ i2) ∧ I32 (i2 + 1) ∧ mu33 (i2 + 1) < mu33 i2) else Q true))) := h
  clear h
  have hc0 := Ct.init hO
  refine Ret_enter Try.func111 rfl 27 rfl [.tmp 4] rfl rfl ?_
  refine W_seq ?_
  refine W_reg ?_
  refine L_pu (P_assign (vb false) rfl) ?_
  refine L_nil ?_
  refine W_seq ?_
  refine W_seq ?_
  refine W_reg ?_
  refine L_pu (P_move (.slice A1 n2 c3) rfl) ?_
  have hl11 := hp4.le
  refine L_pu (P_len Try.underlying77 A1 n2 c3 hp4.len rfl) ?_
  refine L_pu (P_move (.slice A6 n7 c8) rfl) ?_
  have hl12 := hp9.le
  refine L_pu (P_len Try.underlying77 A6 n7 c8 hp9.len rfl) ?_
  refine L_pu (P_cmp (a.length : Int) (b.length : Int) ((a.length : Int) != (b.length : Int)) rfl rfl rfl) ?_
  refine L_nil ?_
  refine W_cond ((a.length : Int) != (b.length : Int)) rfl (fun hq13 => ?_) (fun hq13 => ?_)
  · have H := ite_t H hq13
    refine W_seq ?_
    refine W_reg ?_
    refine L_pu (P_assign (vb false) rfl) ?_
    refine L_nil ?_
    refine W_ret ?_
    exact ⟨[vb false], ⟨_, rfl, rfl⟩, false, rfl, H, hc0.gr⟩
  · have H := ite_f H hq13
    refine W_skip ?_
    refine W_seq ?_
    refine W_seq ?_
    refine W_reg ?_
    refine L_pu (P_assign (vi 0) rfl) ?_
    refine L_nil ?_
    refine W_block ?_
    obtain ⟨I32, mu33, hI34, H⟩ := H
    refine W_loop (α := Int) (fun (sv__ : Int) t w26 => match sv__ with | i2 => I32 i2 ∧ Has t [(0, .slice A1 n2 c3), (1, .slice A6 n7 c8), (5, vi i2)] ∧ Ct none w0 w26 [] O ∧ Sl kTag w26 (Fr ([] ++ O)) (.slice A1 n2 c3) a ∧ Sl kTag w26 (Fr ([] ++ O)) (.slice A6 n7 c8) b) (fun (sv__ : Int) => match sv__ with | i2 => mu33 i2) 0 ⟨hI34, ⟨rfl, rfl, rfl, trivial⟩, hc0, hp4, hp9⟩ ?_
    rintro i2 _ w26 ⟨hI34, hh36, hc29, h30, h31⟩
    obtain ⟨u37, rfl⟩ := Has.ins hh36
    have H := H i2 hI34
    refine W_seq ?_
    refine W_seq ?_
    refine W_reg ?_
    refine L_pu (P_move (vi i2) rfl) ?_
    refine L_pu (P_move (.slice A1 n2 c3) rfl) ?_
    have hl38 := h30.le
    refine L_pu (P_len Try.underlying77 A1 n2 c3 h30.len rfl) ?_
    refine L_pu (P_cmp i2 (a.length : Int) (decide (i2 < (a.length : Int))) rfl rfl rfl) ?_
    refine L_nil ?_
    refine W_cond (decide (i2 < (a.length : Int))) rfl (fun hq39 => ?_) (fun hq39 => ?_)
    · have H := ite_t H hq39
      refine W_skip ?_
      refine W_seq ?_
      refine W_block ?_
      refine W_seq ?_
      refine W_draw (fun x => Gr w26 x none) (by kernel_rfl) (by kernel_rfl) (Gr.drew _) ?_
      refine Q_pu (P_move (.slice A1 n2 c3) rfl) ?_
      refine Q_pu (P_move (vi i2) rfl) ?_
      obtain ⟨hb40, H⟩ := H
      obtain ⟨ad41, cs42, hA43, hS46, hR44, hcl45⟩ := h30.get default (by decide) i2 hb40
      obtain ⟨rfl, hs47, hs48⟩ := kTag.op hR44
      refine Q_pu (P_ia Try.underlying77 se77 A1 ad41 n2 c3 h30.len i2 rfl hA43 rfl hb40) ?_
      refine Q_pu (P_lda ag149 sz149 cQ (ad41.add (i2.toNat * 2)) [vs ((nth a i2).Key), vs ((nth a i2).Val)] rfl rfl hcl45) ?_
      refine Q_pu (P_move (.slice A6 n7 c8) rfl) ?_
      refine Q_pu (P_move (vi i2) rfl) ?_
      obtain ⟨hb49, H⟩ := H
      obtain ⟨ad50, cs51, hA52, hS55, hR53, hcl54⟩ := h31.get default (by decide) i2 hb49
      obtain ⟨rfl, hs56, hs57⟩ := kTag.op hR53
      refine Q_pu (P_ia Try.underlying77 se77 A6 ad50 n7 c8 h31.len i2 rfl hA52 rfl hb49) ?_
      refine Q_pu (P_lda ag149 sz149 cQ (ad50.add (i2.toNat * 2)) [vs ((nth b i2).Key), vs ((nth b i2).Val)] rfl rfl hcl54) ?_
      refine Q_call go127 [.agg #[vs ((nth a i2).Key), vs ((nth a i2).Val)], .agg #[vs ((nth b i2).Key), vs ((nth b i2).Val)]] rfl (vb (decide ((nth a i2) = (nth b i2)))) (fun w g => (laws_eqTag.calls w (hc29.k0 g).ok (nth a i2) hs47 hs48 (nth b i2) hs56 hs57 _ (laws_eqTag.is (nth a i2) (nth b i2))).mono ?_) ?_
      · rintro _ w ⟨r, rfl, rfl, g2⟩
        exact ⟨rfl, Gr.t0 g g2⟩
      refine Q_pu (P_not (decide ((nth a i2) = (nth b i2))) rfl) ?_
      refine Q_nil fun w63 g64 => ?_
      have hc66 := hc29.k0 g64
      refine W_cond (!(decide ((nth a i2) = (nth b i2)))) rfl (fun hq67 => ?_) (fun hq67 => ?_)
      · have H := ite_t H hq67
        refine W_seq ?_
        refine W_reg ?_
        refine L_pu (P_assign (vb false) rfl) ?_
        refine L_nil ?_
        refine W_ret ?_
        exact ⟨[vb false], ⟨_, rfl, rfl⟩, false, rfl, H, hc66.gr⟩
      · have H := ite_f H hq67
        refine W_skip ?_
        refine W_reg ?_
        refine L_pu (P_move (vi i2) rfl) ?_
        obtain ⟨hb69, H⟩ := H
        have hi68 : I64 (i2 + 1) := i64_succ (of_decide_eq_true hq39) hl38 hb69
        refine L_pu (P_add i2 1 rfl rfl hi68) ?_
        refine L_pu (P_assign (vi (i2 + 1)) rfl) ?_
        refine L_nil ?_
        obtain ⟨hI70, hm71⟩ := H
        exact ⟨i2 + 1, hm71, hI70, ⟨rfl, rfl, rfl, trivial⟩, hc66, (h30.st (.new _ g64)), (h31.st (.new _ g64))⟩
    · have H := ite_f H hq39
      refine W_exit (xin_hit ?_)
      refine W_seq ?_
      refine W_reg ?_
      refine L_pu (P_assign (vb true) rfl) ?_
      refine L_nil ?_
      refine W_ret ?_
      exact ⟨[vb true], ⟨_, rfl, rfl⟩, true, rfl, H, hc29.gr⟩
end Go.Proofs.Ythkeboifjlnjjaa

namespace Go.Proofs.Ythkeboifjlnjjaa
set_option linter.unusedVariables false
set_option linter.unusedSimpArgs false
set_option linter.unusedSectionVars false
theorem laws_eqTagS.law (a b : List Tag) (Q : Bool → Prop) (hq : Q (decide (a = b))) : laws_eqTagS.E a b Q := by
  unfold laws_eqTagS.E
  exact eqS_shape (fun x y => decide (x = y)) (fun _ _ => rfl) a b Q hq
theorem laws_eqTagS.is (a b : List Tag) : laws_eqTagS.E a b (fun r => r = decide (a = b)) := laws_eqTagS.law a b _ rfl
end Go.Proofs.Ythkeboifjlnjjaa

namespace Go.Proofs.Ythkeboifjlnjjaa
open Go.RowKit
set_option linter.unusedVariables false
def laws_eqFeat.E (a : Feat) (b : Feat) (Q : Bool → Prop) : Prop :=
  (if a.Id != b.Id then Q false else laws_eqShape.E a.Shape b.Shape (fun r => (if !r then Q false else laws_eqTagS.E a.Tags b.Tags (fun r2 => (if !r2 then Q false else Q true)))))
set_option maxHeartbeats 8000000 in
set_option maxRecDepth 100000 in
theorem laws_eqFeat.calls {O : Ob} (w0 : World) (hO : Ok w0 O) (a : Feat) (A2 : Option Addr) (n3 c4 : Nat) (A7 : Option Addr) (n8 c9 : Nat) (hs1 : Lim a.Id) (hp5 : Sl kPt w0 (Fr O) (.slice A2 n3 c4) a.Shape.Pts) (hp10 : Sl kTag w0 (Fr O) (.slice A7 n8 c9) a.Tags) (b : Feat) (A13 : Option Addr) (n14 c15 : Nat) (A18 : Option Addr) (n19 c20 : Nat) (hs12 : Lim b.Id) (hp16 : Sl kPt w0 (Fr O) (.slice A13 n14 c15) b.Shape.Pts) (hp21 : Sl kTag w0 (Fr O) (.slice A18 n19 c20) b.Tags) (Q : Bool → Prop) (h : laws_eqFeat.E a b Q) :
    Ret Try.prog 81 [.agg #[vs a.Id, vi a.Shape.Kind, .slice A2 n3 c4, .slice A7 n8 c9], .agg #[vs b.Id, vi b.Shape.Kind, .slice A13 n14 c15, .slice A18 n19 c20]] w0 (fun v w' => ∃ (r0 : Bool), v = vb r0 ∧ Q r0 ∧ Gr w0 w' none) := by
  have H : (if a.Id != b.Id then Q false else laws_eqShape.E a.Shape b.Shape (fun r => (if !r then Q false else laws_eqTagS.E a.Tags b.Tags (fun r2 => (if !r2 then Q false else Q true))))) := h
  clear h
  have hc0 := Ct.init hO
  refine Ret_enter Try.func81 rfl 22 rfl [.tmp 4] rfl rfl ?_
  refine W_seq ?_
  refine W_reg ?_
  refine L_box [vs a.Id, vi a.Shape.Kind, .slice A2 n3 c4, .slice A7 n8 c9] rfl fun w23 b24 hl26 hu27 g25 hx28 => ?_
  have h30 := Fb.mk hc0.ok hl26 hx28
  have hc31 := hc0.k0 g25
  refine L_box [vs b.Id, vi b.Shape.Kind, .slice A13 n14 c15, .slice A18 n19 c20] rfl fun w32 b33 hl35 hu36 g34 hx37 => ?_
  have h39 := Fb.mk hc31.ok hl35 hx37
  have hc40 := hc31.k0 g34
  refine L_pu (P_assign (vb false) rfl) ?_
  refine L_nil ?_
  refine W_seq ?_
  refine W_seq ?_
  refine W_reg ?_
  refine L_pu (P_fa fa79_0 ⟨b24, 0, none⟩ ⟨b24, 0, none⟩ rfl rfl) ?_
  have h41 := (h30.st (.new _ g34))
  refine L_pu (P_ld ag9 cL ⟨b24, 0, none⟩ (vs a.Id) rfl (h41.cell rfl)) ?_
  refine L_pu (P_fa fa79_0 ⟨b33, 0, none⟩ ⟨b33, 0, none⟩ rfl rfl) ?_
  refine L_pu (P_ld ag9 cL ⟨b33, 0, none⟩ (vs b.Id) rfl (h39.cell rfl)) ?_
  refine L_pu (P_scmp a.Id b.Id (a.Id != b.Id) rfl rfl rfl) ?_
  refine L_nil ?_
  refine W_cond (a.Id != b.Id) rfl (fun hq42 => ?_) (fun hq42 => ?_)
  · have H := ite_t H hq42
    refine W_seq ?_
    refine W_reg ?_
    refine L_pu (P_assign (vb false) rfl) ?_
    refine L_nil ?_
    refine W_ret ?_
    exact ⟨[vb false], ⟨_, rfl, rfl⟩, false, rfl, H, hc40.gr⟩
  · have H := ite_f H hq42
    refine W_skip ?_
    refine W_seq ?_
    refine W_seq ?_
    refine W_reg ?_
    refine L_pu (P_fa fa79_1 ⟨b24, 0, none⟩ ⟨b24, 1, none⟩ rfl rfl) ?_
    refine L_pu (P_lda ag76 sz76 cL ⟨b24, 1, none⟩ [vi a.Shape.Kind, .slice A2 n3 c4] rfl rfl (h41.cells (off := 1) rfl)) ?_
    refine L_pu (P_fa fa79_1 ⟨b33, 0, none⟩ ⟨b33, 1, none⟩ rfl rfl) ?_
    refine L_pu (P_lda ag76 sz76 cL ⟨b33, 1, none⟩ [vi b.Shape.Kind, .slice A13 n14 c15] rfl rfl (h39.cells (off := 1) rfl)) ?_
    refine L_call go110 [.agg #[vi a.Shape.Kind, .slice A2 n3 c4], .agg #[vi b.Shape.Kind, .slice A13 n14 c15]] rfl ((laws_eqShape.calls w32 hc40.ok a.Shape A2 n3 c4 (hp5.st hc40.st) b.Shape A13 n14 c15 (hp16.st hc40.st) _ H).mono ?_)
    rintro _ w43 ⟨r, rfl, H, g44⟩
    have hc48 := hc40.k0 g44
    refine L_pu (P_not r rfl) ?_
    refine L_nil ?_
    refine W_cond (!r) rfl (fun hq49 => ?_) (fun hq49 => ?_)
    · have H := ite_t H hq49
      refine W_seq ?_
      refine W_reg ?_
      refine L_pu (P_assign (vb false) rfl) ?_
      refine L_nil ?_
      refine W_ret ?_
      exact ⟨[vb false], ⟨_, rfl, rfl⟩, false, rfl, H, hc48.gr⟩
    · have H := ite_f H hq49
      refine W_skip ?_
      refine W_seq ?_
      refine W_seq ?_
      refine W_reg ?_
      refine L_pu (P_fa fa79_2 ⟨b24, 0, none⟩ ⟨b24, 3, none⟩ rfl rfl) ?_
      have h50 := (h41.st (.new _ g44))
      refine L_pu (P_ld ag77 cL ⟨b24, 3, none⟩ (.slice A7 n8 c9) rfl (h50.cell rfl)) ?_
      refine L_pu (P_fa fa79_2 ⟨b33, 0, none⟩ ⟨b33, 3, none⟩ rfl rfl) ?_
      have h51 := (h39.st (.new _ g44))
      refine L_pu (P_ld ag77 cL ⟨b33, 3, none⟩ (.slice A18 n19 c20) rfl (h51.cell rfl)) ?_
      refine L_call go111 [.slice A7 n8 c9, .slice A18 n19 c20] rfl ((laws_eqTagS.calls w43 hc48.ok a.Tags A7 n8 c9 (hp10.st hc48.st) b.Tags A18 n19 c20 (hp21.st hc48.st) _ H).mono ?_)
      rintro _ w52 ⟨r2, rfl, H, g53⟩
      have hc57 := hc48.k0 g53
      refine L_pu (P_not r2 rfl) ?_
      refine L_nil ?_
      refine W_cond (!r2) rfl (fun hq58 => ?_) (fun hq58 => ?_)
      · have H := ite_t H hq58
        refine W_seq ?_
        refine W_reg ?_
        refine L_pu (P_assign (vb false) rfl) ?_
        refine L_nil ?_
        refine W_ret ?_
        exact ⟨[vb false], ⟨_, rfl, rfl⟩, false, rfl, H, hc57.gr⟩
      · have H := ite_f H hq58
        refine W_skip ?_
        refine W_seq ?_
        refine W_reg ?_
        refine L_pu (P_assign (vb true) rfl) ?_
        refine L_nil ?_
        refine W_ret ?_
        exact ⟨[vb true], ⟨_, rfl, rfl⟩, true, rfl, H, hc57.gr⟩
end Go.Proofs.Ythkeboifjlnjjaa

namespace Go.Proofs.Ythkeboifjlnjjaa
set_option linter.unusedVariables false
set_option linter.unusedSimpArgs false
set_option linter.unusedSectionVars false
theorem laws_eqFeat.law (a b : Feat) (Q : Bool → Prop) (hq : Q (decide (a = b))) : laws_eqFeat.E a b Q := by
  obtain ⟨x0, x1, x2⟩ := a; obtain ⟨y0, y1, y2⟩ := b
  rw [show (decide ((⟨x0, x1, x2⟩ : Feat) = ⟨y0, y1, y2⟩)) = ((decide (x0 = y0)) && ((decide (x1 = y1)) && (decide (x2 = y2)))) by simp only [Feat.mk.injEq, Bool.decide_and]] at hq
  unfold laws_eqFeat.E
  by_cases h0 : x0 = y0
  case neg => simpa [h0] using hq
  simp only [h0, decide_true, Bool.true_and, bne_self_eq_false, Bool.not_true, Bool.false_eq_true, if_false] at hq ⊢
  try refine laws_eqShape.law _ _ _ ?_
  by_cases h1 : x1 = y1
  case neg => simpa [h1] using hq
  simp only [h1, decide_true, Bool.true_and, bne_self_eq_false, Bool.not_true, Bool.false_eq_true, if_false] at hq ⊢
  try refine laws_eqTagS.law _ _ _ ?_
  by_cases h2 : x2 = y2
  case neg => simpa [h2] using hq
  simp only [h2, decide_true, Bool.true_and, bne_self_eq_false, Bool.not_true, Bool.false_eq_true, if_false] at hq ⊢
  all_goals (try exact hq)
theorem laws_eqFeat.is (a b : Feat) : laws_eqFeat.E a b (fun r => r = decide (a = b)) := laws_eqFeat.law a b _ rfl
end Go.Proofs.Ythkeboifjlnjjaa

namespace Go.Proofs.Ythkeboifjlnjjaa
open Go.RowKit
set_option linter.unusedVariables false
def laws_eqFeatS.E (a : List Feat) (b : List Feat) (Q : Bool → Prop) : Prop :=
  (if (a.length : Int) != (b.length : Int) then Q false else (∃ (I32 : Int → Prop) (mu33 : Int → Nat), I32 0 ∧ ∀ (i2 : Int), I32 i2 → (if decide (i2 < (a.length : Int)) then ((0 : Int) ≤ i2 ∧ i2 < (a.length : Int)) ∧ ((0 : Int) ≤ i2 ∧ i2 < (b.length : Int)) ∧ (if !(decide ((nth a i2) = (nth b i2))) then Q false else (-9223372036854775808 ≤ i2) ∧ I32 (i2 + 1) ∧ mu33 (i2 + 1) < mu33 i2) else Q true)))
set_option maxHeartbeats 8000000 in
set_option maxRecDepth 100000 in
theorem laws_eqFeatS.calls {O : Ob} (w0 : World) (hO : Ok w0 O) (a : List Feat) (A1 : Option Addr) (n2 c3 : Nat) (hp4 : Sl kFeat w0 (Fr O) (.slice A1 n2 c3) a) (b : List Feat) (A6 : Option Addr) (n7 c8 : Nat) (hp9 : Sl kFeat w0 (Fr O) (.slice A6 n7 c8) b) (Q : Bool → Prop) (h : laws_eqFeatS.E a b Q) :
    Ret Try.prog 118 [.slice A1 n2 c3, .slice A6 n7 c8] w0 (fun v w' => ∃ (r0 : Bool), v = vb r0 ∧ Q r0 ∧ Gr w0 w' none) := by
  have H : (if (a.length : Int) != (b.length : Int) then Q false else (∃ (I32 : Int → Prop) (mu33 : Int → Nat), I32 0 ∧ ∀ (i2 : Int), I32 i2 → (if decide (i2 < (a.length : Int)) then ((0 : Int) ≤ i2 ∧ i2 < (a.length : Int)) ∧ ((0 : Int) ≤ i2 ∧ i2 < (b.length : Int)) ∧ (if !(decide ((nth a i2) = (nth b i2))) then Q false else (-9223372036854775808 ≤ i2) ∧ I32 (i2 + 1) ∧ mu33 (i2 + 1) < mu33 i2) else Q true))) := h
  clear h
  have hc0 := Ct.init hO
  refine Ret_enter Try.func118 rfl 27 rfl [.tmp 4] rfl rfl ?_
  refine W_seq ?_
  refine W_reg ?_
  refine L_pu (P_assign (vb false) rfl) ?_
  refine L_nil ?_
  refine W_seq ?_
  refine W_seq ?_
  refine W_reg ?_
  refine L_pu (P_move (.slice A1 n2 c3) rfl) ?_
  have hl11 := hp4.le
  refine L_pu (P_len Try.underlying91 A1 n2 c3 hp4.len rfl) ?_
  refine L_pu (P_move (.slice A6 n7 c8) rfl) ?_
  have hl12 := hp9.le
  refine L_pu (P_len Try.underlying91 A6 n7 c8 hp9.len rfl) ?_
  refine L_pu (P_cmp (a.length : Int) (b.length : Int) ((a.length : Int) != (b.length : Int)) rfl rfl rfl) ?_
  refine L_nil ?_
  refine W_cond ((a.length : Int) != (b.length : Int)) rfl (fun hq13 => ?_) (fun hq13 => ?_)
  · have H := ite_t H hq13
    refine W_seq ?_
    refine W_reg ?_
    refine L_pu (P_assign (vb false) rfl) ?_
    refine L_nil ?_
    refine W_ret ?_
    exact ⟨[vb false], ⟨_, rfl, rfl⟩, false, rfl, H, hc0.gr⟩
  · have H := ite_f H hq13
    refine W_skip ?_
    refine W_seq ?_
    refine W_seq ?_
    refine W_reg ?_
    refine L_pu (P_assign (vi 0) rfl) ?_
    refine L_nil ?_
    refine W_block ?_
    obtain ⟨I32, mu33, hI34, H⟩ := H
    refine W_loop (α := Int) (fun (sv__ : Int) t w26 => match sv__ with | i2 => I32 i2 ∧ Has t [(0, .slice A1 n2 c3), (1, .slice A6 n7 c8), (5, vi i2)] ∧ Ct none w0 w26 [] O ∧ Sl kFeat w26 (Fr ([] ++ O)) (.slice A1 n2 c3) a ∧ Sl kFeat w26 (Fr ([] ++ O)) (.slice A6 n7 c8) b) (fun (sv__ : Int) => match sv__ with | i2 => mu33 i2) 0 ⟨hI34, ⟨rfl, rfl, rfl, trivial⟩, hc0, hp4, hp9⟩ ?_
    rintro i2 _ w26 ⟨hI34, hh36, hc29, h30, h31⟩
    obtain ⟨u37, rfl⟩ := Has.ins hh36
    have H := H i2 hI34
    refine W_seq ?_
    refine W_seq ?_
    refine W_reg ?_
    refine L_pu (P_move (vi i2) rfl) ?_
    refine L_pu (P_move (.slice A1 n2 c3) rfl) ?_
    have hl38 := h30.le
    refine L_pu (P_len Try.underlying91 A1 n2 c3 h30.len rfl) ?_
    refine L_pu (P_cmp i2 (a.length : Int) (decide (i2 < (a.length : Int))) rfl rfl rfl) ?_
    refine L_nil ?_
    refine W_cond (decide (i2 < (a.length : Int))) rfl (fun hq39 => ?_) (fun hq39 => ?_)
    · have H := ite_t H hq39
      refine W_skip ?_
      refine W_seq ?_
      refine W_block ?_
      refine W_seq ?_
      refine W_draw (fun x => Gr w26 x none) (by kernel_rfl) (by kernel_rfl) (Gr.drew _) ?_
      refine Q_pu (P_move (.slice A1 n2 c3) rfl) ?_
      refine Q_pu (P_move (vi i2) rfl) ?_
      obtain ⟨hb40, H⟩ := H
      obtain ⟨ad41, cs42, hA43, hS46, hR44, hcl45⟩ := h30.get default (by decide) i2 hb40
      obtain ⟨A48, n49, c50, A53, n54, c55, rfl, hs47, h51, h56⟩ := kFeat.op hR44
      refine Q_pu (P_ia Try.underlying91 se91 A1 ad41 n2 c3 h30.len i2 rfl hA43 rfl hb40) ?_
      refine Q_pu (P_lda ag79 sz79 cQ (ad41.add (i2.toNat * 4)) [vs ((nth a i2).Id), vi ((nth a i2).Shape.Kind), .slice A48 n49 c50, .slice A53 n54 c55] rfl rfl hcl45) ?_
      refine Q_pu (P_move (.slice A6 n7 c8) rfl) ?_
      refine Q_pu (P_move (vi i2) rfl) ?_
      obtain ⟨hb58, H⟩ := H
      obtain ⟨ad59, cs60, hA61, hS64, hR62, hcl63⟩ := h31.get default (by decide) i2 hb58
      obtain ⟨A66, n67, c68, A71, n72, c73, rfl, hs65, h69, h74⟩ := kFeat.op hR62
      refine Q_pu (P_ia Try.underlying91 se91 A6 ad59 n7 c8 h31.len i2 rfl hA61 rfl hb58) ?_
      refine Q_pu (P_lda ag79 sz79 cQ (ad59.add (i2.toNat * 4)) [vs ((nth b i2).Id), vi ((nth b i2).Shape.Kind), .slice A66 n67 c68, .slice A71 n72 c73] rfl rfl hcl63) ?_
      refine Q_call go81 [.agg #[vs ((nth a i2).Id), vi ((nth a i2).Shape.Kind), .slice A48 n49 c50, .slice A53 n54 c55], .agg #[vs ((nth b i2).Id), vi ((nth b i2).Shape.Kind), .slice A66 n67 c68, .slice A71 n72 c73]] rfl (vb (decide ((nth a i2) = (nth b i2)))) (fun w g => (laws_eqFeat.calls w (hc29.k0 g).ok (nth a i2) A48 n49 c50 A53 n54 c55 hs47 (h51.st (.new _ g)) (h56.st (.new _ g)) (nth b i2) A66 n67 c68 A71 n72 c73 hs65 (h69.st (.new _ g)) (h74.st (.new _ g)) _ (laws_eqFeat.is (nth a i2) (nth b i2))).mono ?_) ?_
      · rintro _ w ⟨r, rfl, rfl, g2⟩
        exact ⟨rfl, Gr.t0 g g2⟩
      refine Q_pu (P_not (decide ((nth a i2) = (nth b i2))) rfl) ?_
      refine Q_nil fun w81 g82 => ?_
      have hc84 := hc29.k0 g82
      refine W_cond (!(decide ((nth a i2) = (nth b i2)))) rfl (fun hq85 => ?_) (fun hq85 => ?_)
      · have H := ite_t H hq85
        refine W_seq ?_
        refine W_reg ?_
        refine L_pu (P_assign (vb false) rfl) ?_
        refine L_nil ?_
        refine W_ret ?_
        exact ⟨[vb false], ⟨_, rfl, rfl⟩, false, rfl, H, hc84.gr⟩
      · have H := ite_f H hq85
        refine W_skip ?_
        refine W_reg ?_
        refine L_pu (P_move (vi i2) rfl) ?_
        obtain ⟨hb87, H⟩ := H
        have hi86 : I64 (i2 + 1) := i64_succ (of_decide_eq_true hq39) hl38 hb87
        refine L_pu (P_add i2 1 rfl rfl hi86) ?_
        refine L_pu (P_assign (vi (i2 + 1)) rfl) ?_
        refine L_nil ?_
        obtain ⟨hI88, hm89⟩ := H
        exact ⟨i2 + 1, hm89, hI88, ⟨rfl, rfl, rfl, trivial⟩, hc84, (h30.st (.new _ g82)), (h31.st (.new _ g82))⟩
    · have H := ite_f H hq39
      refine W_exit (xin_hit ?_)
      refine W_seq ?_
      refine W_reg ?_
      refine L_pu (P_assign (vb true) rfl) ?_
      refine L_nil ?_
      refine W_ret ?_
      exact ⟨[vb true], ⟨_, rfl, rfl⟩, true, rfl, H, hc29.gr⟩
end Go.Proofs.Ythkeboifjlnjjaa

namespace Go.Proofs.Ythkeboifjlnjjaa
set_option linter.unusedVariables false
set_option linter.unusedSimpArgs false
set_option linter.unusedSectionVars false
theorem laws_eqFeatS.law (a b : List Feat) (Q : Bool → Prop) (hq : Q (decide (a = b))) : laws_eqFeatS.E a b Q := by
  unfold laws_eqFeatS.E
  exact eqS_shape (fun x y => decide (x = y)) (fun _ _ => rfl) a b Q hq
theorem laws_eqFeatS.is (a b : List Feat) : laws_eqFeatS.E a b (fun r => r = decide (a = b)) := laws_eqFeatS.law a b _ rfl
end Go.Proofs.Ythkeboifjlnjjaa

namespace Go.Proofs.Ythkeboifjlnjjaa
open Go.RowKit
set_option linter.unusedVariables false
def laws_eqCommit.E (a : Commit) (b : Commit) (Q : Bool → Prop) : Prop :=
  laws_eqIntS.E a.Up b.Up (fun r => (if !r then Q false else laws_eqFeatS.E a.Sheet b.Sheet (fun r2 => (if !r2 then Q false else (if a.Note != b.Note then Q false else Q true)))))
set_option maxHeartbeats 8000000 in
set_option maxRecDepth 100000 in
theorem laws_eqCommit.calls {O : Ob} (w0 : World) (hO : Ok w0 O) (a : Commit) (A1 : Option Addr) (n2 c3 : Nat) (A6 : Option Addr) (n7 c8 : Nat) (hp4 : Sl (Kd.int .i64) w0 (Fr O) (.slice A1 n2 c3) a.Up) (hp9 : Sl kFeat w0 (Fr O) (.slice A6 n7 c8) a.Sheet) (hs11 : Lim a.Note) (b : Commit) (A12 : Option Addr) (n13 c14 : Nat) (A17 : Option Addr) (n18 c19 : Nat) (hp15 : Sl (Kd.int .i64) w0 (Fr O) (.slice A12 n13 c14) b.Up) (hp20 : Sl kFeat w0 (Fr O) (.slice A17 n18 c19) b.Sheet) (hs22 : Lim b.Note) (Q : Bool → Prop) (h : laws_eqCommit.E a b Q) :
    Ret Try.prog 90 [.agg #[.slice A1 n2 c3, .slice A6 n7 c8, vs a.Note], .agg #[.slice A12 n13 c14, .slice A17 n18 c19, vs b.Note]] w0 (fun v w' => ∃ (r0 : Bool), v = vb r0 ∧ Q r0 ∧ Gr w0 w' none) := by
  have H : laws_eqIntS.E a.Up b.Up (fun r => (if !r then Q false else laws_eqFeatS.E a.Sheet b.Sheet (fun r2 => (if !r2 then Q false else (if a.Note != b.Note then Q false else Q true))))) := h
  clear h
  have hc0 := Ct.init hO
  refine Ret_enter Try.func90 rfl 22 rfl [.tmp 4] rfl rfl ?_
  refine W_seq ?_
  refine W_reg ?_
  refine L_box [.slice A1 n2 c3, .slice A6 n7 c8, vs a.Note] rfl fun w23 b24 hl26 hu27 g25 hx28 => ?_
  have h30 := Fb.mk hc0.ok hl26 hx28
  have hc31 := hc0.k0 g25
  refine L_box [.slice A12 n13 c14, .slice A17 n18 c19, vs b.Note] rfl fun w32 b33 hl35 hu36 g34 hx37 => ?_
  have h39 := Fb.mk hc31.ok hl35 hx37
  have hc40 := hc31.k0 g34
  refine L_pu (P_assign (vb false) rfl) ?_
  refine L_nil ?_
  refine W_seq ?_
  refine W_seq ?_
  refine W_reg ?_
  refine L_pu (P_fa fa93_0 ⟨b24, 0, none⟩ ⟨b24, 0, none⟩ rfl rfl) ?_
  have h41 := (h30.st (.new _ g34))
  refine L_pu (P_ld ag90 cL ⟨b24, 0, none⟩ (.slice A1 n2 c3) rfl (h41.cell rfl)) ?_
  refine L_pu (P_fa fa93_0 ⟨b33, 0, none⟩ ⟨b33, 0, none⟩ rfl rfl) ?_
  refine L_pu (P_ld ag90 cL ⟨b33, 0, none⟩ (.slice A12 n13 c14) rfl (h39.cell rfl)) ?_
  refine L_call go117 [.slice A1 n2 c3, .slice A12 n13 c14] rfl ((laws_eqIntS.calls w32 hc40.ok a.Up A1 n2 c3 (hp4.st hc40.st) b.Up A12 n13 c14 (hp15.st hc40.st) _ H).mono ?_)
  rintro _ w42 ⟨r, rfl, H, g43⟩
  have hc47 := hc40.k0 g43
  refine L_pu (P_not r rfl) ?_
  refine L_nil ?_
  refine W_cond (!r) rfl (fun hq48 => ?_) (fun hq48 => ?_)
  · have H := ite_t H hq48
    refine W_seq ?_
    refine W_reg ?_
    refine L_pu (P_assign (vb false) rfl) ?_
    refine L_nil ?_
    refine W_ret ?_
    exact ⟨[vb false], ⟨_, rfl, rfl⟩, false, rfl, H, hc47.gr⟩
  · have H := ite_f H hq48
    refine W_skip ?_
    refine W_seq ?_
    refine W_seq ?_
    refine W_reg ?_
    refine L_pu (P_fa fa93_1 ⟨b24, 0, none⟩ ⟨b24, 1, none⟩ rfl rfl) ?_
    have h49 := (h41.st (.new _ g43))
    refine L_pu (P_ld ag91 cL ⟨b24, 1, none⟩ (.slice A6 n7 c8) rfl (h49.cell rfl)) ?_
    refine L_pu (P_fa fa93_1 ⟨b33, 0, none⟩ ⟨b33, 1, none⟩ rfl rfl) ?_
    have h50 := (h39.st (.new _ g43))
    refine L_pu (P_ld ag91 cL ⟨b33, 1, none⟩ (.slice A17 n18 c19) rfl (h50.cell rfl)) ?_
    refine L_call go118 [.slice A6 n7 c8, .slice A17 n18 c19] rfl ((laws_eqFeatS.calls w42 hc47.ok a.Sheet A6 n7 c8 (hp9.st hc47.st) b.Sheet A17 n18 c19 (hp20.st hc47.st) _ H).mono ?_)
    rintro _ w51 ⟨r2, rfl, H, g52⟩
    have hc56 := hc47.k0 g52
    refine L_pu (P_not r2 rfl) ?_
    refine L_nil ?_
    refine W_cond (!r2) rfl (fun hq57 => ?_) (fun hq57 => ?_)
    · have H := ite_t H hq57
      refine W_seq ?_
      refine W_reg ?_
      refine L_pu (P_assign (vb false) rfl) ?_
      refine L_nil ?_
      refine W_ret ?_
      exact ⟨[vb false], ⟨_, rfl, rfl⟩, false, rfl, H, hc56.gr⟩
    · have H := ite_f H hq57
      refine W_skip ?_
      refine W_seq ?_
      refine W_seq ?_
      refine W_reg ?_
      refine L_pu (P_fa fa93_2 ⟨b24, 0, none⟩ ⟨b24, 2, none⟩ rfl rfl) ?_
      have h58 := (h49.st (.new _ g52))
      refine L_pu (P_ld ag9 cL ⟨b24, 2, none⟩ (vs a.Note) rfl (h58.cell rfl)) ?_
      refine L_pu (P_fa fa93_2 ⟨b33, 0, none⟩ ⟨b33, 2, none⟩ rfl rfl) ?_
      have h59 := (h50.st (.new _ g52))
      refine L_pu (P_ld ag9 cL ⟨b33, 2, none⟩ (vs b.Note) rfl (h59.cell rfl)) ?_
      refine L_pu (P_scmp a.Note b.Note (a.Note != b.Note) rfl rfl rfl) ?_
      refine L_nil ?_
      refine W_cond (a.Note != b.Note) rfl (fun hq60 => ?_) (fun hq60 => ?_)
      · have H := ite_t H hq60
        refine W_seq ?_
        refine W_reg ?_
        refine L_pu (P_assign (vb false) rfl) ?_
        refine L_nil ?_
        refine W_ret ?_
        exact ⟨[vb false], ⟨_, rfl, rfl⟩, false, rfl, H, hc56.gr⟩
      · have H := ite_f H hq60
        refine W_skip ?_
        refine W_seq ?_
        refine W_reg ?_
        refine L_pu (P_assign (vb true) rfl) ?_
        refine L_nil ?_
        refine W_ret ?_
        exact ⟨[vb true], ⟨_, rfl, rfl⟩, true, rfl, H, hc56.gr⟩
end Go.Proofs.Ythkeboifjlnjjaa

namespace Go.Proofs.Ythkeboifjlnjjaa
set_option linter.unusedVariables false
set_option linter.unusedSimpArgs false
set_option linter.unusedSectionVars false
theorem laws_eqCommit.law (a b : Commit) (Q : Bool → Prop) (hq : Q (decide (a = b))) : laws_eqCommit.E a b Q := by
  obtain ⟨x0, x1, x2⟩ := a; obtain ⟨y0, y1, y2⟩ := b
  rw [show (decide ((⟨x0, x1, x2⟩ : Commit) = ⟨y0, y1, y2⟩)) = ((decide (x0 = y0)) && ((decide (x1 = y1)) && (decide (x2 = y2)))) by simp only [Commit.mk.injEq, Bool.decide_and]] at hq
  unfold laws_eqCommit.E
  try refine laws_eqIntS.law _ _ _ ?_
  by_cases h0 : x0 = y0
  case neg => simpa [h0] using hq
  simp only [h0, decide_true, Bool.true_and, bne_self_eq_false, Bool.not_true, Bool.false_eq_true, if_false] at hq ⊢
  try refine laws_eqFeatS.law _ _ _ ?_
  by_cases h1 : x1 = y1
  case neg => simpa [h1] using hq
  simp only [h1, decide_true, Bool.true_and, bne_self_eq_false, Bool.not_true, Bool.false_eq_true, if_false] at hq ⊢
  by_cases h2 : x2 = y2
  case neg => simpa [h2] using hq
  simp only [h2, decide_true, Bool.true_and, bne_self_eq_false, Bool.not_true, Bool.false_eq_true, if_false] at hq ⊢
  all_goals (try exact hq)
theorem laws_eqCommit.is (a b : Commit) : laws_eqCommit.E a b (fun r => r = decide (a = b)) := laws_eqCommit.law a b _ rfl
end Go.Proofs.Ythkeboifjlnjjaa

namespace Go.Proofs.Ythkeboifjlnjjaa
open Go.RowKit
set_option linter.unusedVariables false
def laws_eqCommitS.E (a : List Commit) (b : List Commit) (Q : Bool → Prop) : Prop :=
  (if (a.length : Int) != (b.length : Int) then Q false else (∃ (I32 : Int → Prop) (mu33 : Int → Nat), I32 0 ∧ ∀ (i2 : Int), I32 i2 → (if decide (i2 < (a.length : Int)) then ((0 : Int) ≤ i2 ∧ i2 < (a.length : Int)) ∧ ((0 : Int) ≤ i2 ∧ i2 < (b.length : Int)) ∧ (if !(decide ((nth a i2) = (nth b i2))) then Q false else (-9223372036854775808 ≤ i2) ∧ I32 (i2 + 1) ∧ mu33 (i2 + 1) < mu33 i2) else Q true)))
set_option maxHeartbeats 8000000 in
set_option maxRecDepth 100000 in
theorem laws_eqCommitS.calls {O : Ob} (w0 : World) (hO : Ok w0 O) (a : List Commit) (A1 : Option Addr) (n2 c3 : Nat) (hp4 : Sl kCommit w0 (Fr O) (.slice A1 n2 c3) a) (b : List Commit) (A6 : Option Addr) (n7 c8 : Nat) (hp9 : Sl kCommit w0 (Fr O) (.slice A6 n7 c8) b) (Q : Bool → Prop) (h : laws_eqCommitS.E a b Q) :
    Ret Try.prog 53 [.slice A1 n2 c3, .slice A6 n7 c8] w0 (fun v w' => ∃ (r0 : Bool), v = vb r0 ∧ Q r0 ∧ Gr w0 w' none) := by
  have H : (if (a.length : Int) != (b.length : Int) then Q false else (∃ (I32 : Int → Prop) (mu33 : Int → Nat), I32 0 ∧ ∀ (i2 : Int), I32 i2 → (if decide (i2 < (a.length : Int)) then ((0 : Int) ≤ i2 ∧ i2 < (a.length : Int)) ∧ ((0 : Int) ≤ i2 ∧ i2 < (b.length : Int)) ∧ (if !(decide ((nth a i2) = (nth b i2))) then Q false else (-9223372036854775808 ≤ i2) ∧ I32 (i2 + 1) ∧ mu33 (i2 + 1) < mu33 i2) else Q true))) := h
  clear h
  have hc0 := Ct.init hO
  refine Ret_enter Try.func53 rfl 27 rfl [.tmp 4] rfl rfl ?_
  refine W_seq ?_
  refine W_reg ?_
  refine L_pu (P_assign (vb false) rfl) ?_
  refine L_nil ?_
  refine W_seq ?_
  refine W_seq ?_
  refine W_reg ?_
  refine L_pu (P_move (.slice A1 n2 c3) rfl) ?_
  have hl11 := hp4.le
  refine L_pu (P_len Try.underlying43 A1 n2 c3 hp4.len rfl) ?_
  refine L_pu (P_move (.slice A6 n7 c8) rfl) ?_
  have hl12 := hp9.le
  refine L_pu (P_len Try.underlying43 A6 n7 c8 hp9.len rfl) ?_
  refine L_pu (P_cmp (a.length : Int) (b.length : Int) ((a.length : Int) != (b.length : Int)) rfl rfl rfl) ?_
  refine L_nil ?_
  refine W_cond ((a.length : Int) != (b.length : Int)) rfl (fun hq13 => ?_) (fun hq13 => ?_)
  · have H := ite_t H hq13
    refine W_seq ?_
    refine W_reg ?_
    refine L_pu (P_assign (vb false) rfl) ?_
    refine L_nil ?_
    refine W_ret ?_
    exact ⟨[vb false], ⟨_, rfl, rfl⟩, false, rfl, H, hc0.gr⟩
  · have H := ite_f H hq13
    refine W_skip ?_
    refine W_seq ?_
    refine W_seq ?_
    refine W_reg ?_
    refine L_pu (P_assign (vi 0) rfl) ?_
    refine L_nil ?_
    refine W_block ?_
    obtain ⟨I32, mu33, hI34, H⟩ := H
    refine W_loop (α := Int) (fun (sv__ : Int) t w26 => match sv__ with | i2 => I32 i2 ∧ Has t [(0, .slice A1 n2 c3), (1, .slice A6 n7 c8), (5, vi i2)] ∧ Ct none w0 w26 [] O ∧ Sl kCommit w26 (Fr ([] ++ O)) (.slice A1 n2 c3) a ∧ Sl kCommit w26 (Fr ([] ++ O)) (.slice A6 n7 c8) b) (fun (sv__ : Int) => match sv__ with | i2 => mu33 i2) 0 ⟨hI34, ⟨rfl, rfl, rfl, trivial⟩, hc0, hp4, hp9⟩ ?_
    rintro i2 _ w26 ⟨hI34, hh36, hc29, h30, h31⟩
    obtain ⟨u37, rfl⟩ := Has.ins hh36
    have H := H i2 hI34
    refine W_seq ?_
    refine W_seq ?_
    refine W_reg ?_
    refine L_pu (P_move (vi i2) rfl) ?_
    refine L_pu (P_move (.slice A1 n2 c3) rfl) ?_
    have hl38 := h30.le
    refine L_pu (P_len Try.underlying43 A1 n2 c3 h30.len rfl) ?_
    refine L_pu (P_cmp i2 (a.length : Int) (decide (i2 < (a.length : Int))) rfl rfl rfl) ?_
    refine L_nil ?_
    refine W_cond (decide (i2 < (a.length : Int))) rfl (fun hq39 => ?_) (fun hq39 => ?_)
    · have H := ite_t H hq39
      refine W_skip ?_
      refine W_seq ?_
      refine W_block ?_
      refine W_seq ?_
      refine W_draw (fun x => Gr w26 x none) (by kernel_rfl) (by kernel_rfl) (Gr.drew _) ?_
      refine Q_pu (P_move (.slice A1 n2 c3) rfl) ?_
      refine Q_pu (P_move (vi i2) rfl) ?_
      obtain ⟨hb40, H⟩ := H
      obtain ⟨ad41, cs42, hA43, hS46, hR44, hcl45⟩ := h30.get default (by decide) i2 hb40
      obtain ⟨A47, n48, c49, A52, n53, c54, rfl, h50, h55, hs57⟩ := kCommit.op hR44
      refine Q_pu (P_ia Try.underlying43 se43 A1 ad41 n2 c3 h30.len i2 rfl hA43 rfl hb40) ?_
      refine Q_pu (P_lda ag93 sz93 cQ (ad41.add (i2.toNat * 3)) [.slice A47 n48 c49, .slice A52 n53 c54, vs ((nth a i2).Note)] rfl rfl hcl45) ?_
      refine Q_pu (P_move (.slice A6 n7 c8) rfl) ?_
      refine Q_pu (P_move (vi i2) rfl) ?_
      obtain ⟨hb58, H⟩ := H
      obtain ⟨ad59, cs60, hA61, hS64, hR62, hcl63⟩ := h31.get default (by decide) i2 hb58
      obtain ⟨A65, n66, c67, A70, n71, c72, rfl, h68, h73, hs75⟩ := kCommit.op hR62
      refine Q_pu (P_ia Try.underlying43 se43 A6 ad59 n7 c8 h31.len i2 rfl hA61 rfl hb58) ?_
      refine Q_pu (P_lda ag93 sz93 cQ (ad59.add (i2.toNat * 3)) [.slice A65 n66 c67, .slice A70 n71 c72, vs ((nth b i2).Note)] rfl rfl hcl63) ?_
      refine Q_call go90 [.agg #[.slice A47 n48 c49, .slice A52 n53 c54, vs ((nth a i2).Note)], .agg #[.slice A65 n66 c67, .slice A70 n71 c72, vs ((nth b i2).Note)]] rfl (vb (decide ((nth a i2) = (nth b i2)))) (fun w g => (laws_eqCommit.calls w (hc29.k0 g).ok (nth a i2) A47 n48 c49 A52 n53 c54 (h50.st (.new _ g)) (h55.st (.new _ g)) hs57 (nth b i2) A65 n66 c67 A70 n71 c72 (h68.st (.new _ g)) (h73.st (.new _ g)) hs75 _ (laws_eqCommit.is (nth a i2) (nth b i2))).mono ?_) ?_
      · rintro _ w ⟨r, rfl, rfl, g2⟩
        exact ⟨rfl, Gr.t0 g g2⟩
      refine Q_pu (P_not (decide ((nth a i2) = (nth b i2))) rfl) ?_
      refine Q_nil fun w81 g82 => ?_
      have hc84 := hc29.k0 g82
      refine W_cond (!(decide ((nth a i2) = (nth b i2)))) rfl (fun hq85 => ?_) (fun hq85 => ?_)
      · have H := ite_t H hq85
        refine W_seq ?_
        refine W_reg ?_
        refine L_pu (P_assign (vb false) rfl) ?_
        refine L_nil ?_
        refine W_ret ?_
        exact ⟨[vb false], ⟨_, rfl, rfl⟩, false, rfl, H, hc84.gr⟩
      · have H := ite_f H hq85
        refine W_skip ?_
        refine W_reg ?_
        refine L_pu (P_move (vi i2) rfl) ?_
        obtain ⟨hb87, H⟩ := H
        have hi86 : I64 (i2 + 1) := i64_succ (of_decide_eq_true hq39) hl38 hb87
        refine L_pu (P_add i2 1 rfl rfl hi86) ?_
        refine L_pu (P_assign (vi (i2 + 1)) rfl) ?_
        refine L_nil ?_
        obtain ⟨hI88, hm89⟩ := H
        exact ⟨i2 + 1, hm89, hI88, ⟨rfl, rfl, rfl, trivial⟩, hc84, (h30.st (.new _ g82)), (h31.st (.new _ g82))⟩
    · have H := ite_f H hq39
      refine W_exit (xin_hit ?_)
      refine W_seq ?_
      refine W_reg ?_
      refine L_pu (P_assign (vb true) rfl) ?_
      refine L_nil ?_
      refine W_ret ?_
      exact ⟨[vb true], ⟨_, rfl, rfl⟩, true, rfl, H, hc29.gr⟩
end Go.Proofs.Ythkeboifjlnjjaa
