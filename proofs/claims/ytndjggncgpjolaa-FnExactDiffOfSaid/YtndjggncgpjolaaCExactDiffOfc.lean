/- It is proved here that the law FnExactDiffOf of the given program holds whatever it is handed: the walks through the code, the plain laws and the row, in this order.
   Conditions: none. -/
import Derived.Below
import Derived.ChangeArms
import Derived.ChangeOld
import Derived.ChangeSlices
import Derived.DataReads
import Derived.Deep.Quiet
import Derived.KernelRfl
import Derived.Laws.Build
import Derived.Laws.IdiomStrings
import Derived.Laws.OwnMore
import Derived.Laws.Slices
import Derived.Laws.StructEq
import Derived.OpenShut
import Derived.ProofKit
import Derived.Shelf.Slices.Cells
import Derived.Shelf.Slices.CompactS
import Derived.Shelf.Slices.In.SortNone
import Derived.Shelf.Small.Bits
import Derived.Shelf.Sort.Plain
import Derived.Shelf.Strconv.Itoa0
import Derived.ShutString
import Derived.SizedLaws
import Derived.StillTail
import Derived.Test.YtndjggncgpjolaaProg
import Derived.Test.YtndjggncgpjolaaRows
import Derived.WalkKit
import Derived.Test.YtndjggncgpjolaaCExactDiffOfa
import Derived.Test.YtndjggncgpjolaaCExactDiffOfb
namespace Go.Proofs.Ytndjggncgpjolaa
open Go.RowKit
set_option linter.unusedVariables false
def spec_l2Tags.E (t_ : List Tag) (Q : Bool → Prop) : Prop :=
  (∃ (I18 : Int → Prop) (mu19 : Int → Nat), I18 0 ∧ ∀ (i2 : Int), I18 i2 → (if decide (i2 < (t_.length : Int)) then ((0 : Int) ≤ i2 ∧ i2 < (t_.length : Int)) ∧ (∃ q : Bool, spec_WordOk.E ((nth t_ i2).Key) (fun x => x = q) ∧ (if !q then Q false else ((0 : Int) ≤ i2 ∧ i2 < (t_.length : Int)) ∧ (∃ q2 : Bool, spec_WordOk.E ((nth t_ i2).Val) (fun x => x = q2) ∧ (if !q2 then Q false else (if decide (i2 > 0) then ((0 : Int) ≤ i2 ∧ i2 < (t_.length : Int)) ∧ ((t_.length : Int) ≤ 9223372036854775807 → I64 (i2 - 1)) ∧ ((0 : Int) ≤ i2 - 1 ∧ i2 - 1 < (t_.length : Int)) ∧ (if Op.bytesLess ((nth t_ i2).Key) ((nth t_ (i2 - 1)).Key) || ((nth t_ i2).Key) == ((nth t_ (i2 - 1)).Key) then Q false else (-9223372036854775808 ≤ i2) ∧ I18 (i2 + 1) ∧ mu19 (i2 + 1) < mu19 i2) else (-9223372036854775808 ≤ i2) ∧ I18 (i2 + 1) ∧ mu19 (i2 + 1) < mu19 i2))))) else Q (decide ((t_.length : Int) ≤ 4))))
set_option maxHeartbeats 8000000 in
set_option maxRecDepth 100000 in
theorem spec_l2Tags.calls {O : Ob} (w0 : World) (hO : Ok w0 O) (t_ : List Tag) (A1 : Option Addr) (n2 c3 : Nat) (hp4 : Sl kTag w0 (Fr O) (.slice A1 n2 c3) t_) (Q : Bool → Prop) (h : spec_l2Tags.E t_ Q) :
    Ret Try.prog 135 [.slice A1 n2 c3] w0 (fun v w' => ∃ (r0 : Bool), v = vb r0 ∧ Q r0 ∧ Gr w0 w' none) := by
  have H : (∃ (I18 : Int → Prop) (mu19 : Int → Nat), I18 0 ∧ ∀ (i2 : Int), I18 i2 → (if decide (i2 < (t_.length : Int)) then ((0 : Int) ≤ i2 ∧ i2 < (t_.length : Int)) ∧ (∃ q : Bool, spec_WordOk.E ((nth t_ i2).Key) (fun x => x = q) ∧ (if !q then Q false else ((0 : Int) ≤ i2 ∧ i2 < (t_.length : Int)) ∧ (∃ q2 : Bool, spec_WordOk.E ((nth t_ i2).Val) (fun x => x = q2) ∧ (if !q2 then Q false else (if decide (i2 > 0) then ((0 : Int) ≤ i2 ∧ i2 < (t_.length : Int)) ∧ ((t_.length : Int) ≤ 9223372036854775807 → I64 (i2 - 1)) ∧ ((0 : Int) ≤ i2 - 1 ∧ i2 - 1 < (t_.length : Int)) ∧ (if Op.bytesLess ((nth t_ i2).Key) ((nth t_ (i2 - 1)).Key) || ((nth t_ i2).Key) == ((nth t_ (i2 - 1)).Key) then Q false else (-9223372036854775808 ≤ i2) ∧ I18 (i2 + 1) ∧ mu19 (i2 + 1) < mu19 i2) else (-9223372036854775808 ≤ i2) ∧ I18 (i2 + 1) ∧ mu19 (i2 + 1) < mu19 i2))))) else Q (decide ((t_.length : Int) ≤ 4)))) := h
  clear h
  have hc0 := Ct.init hO
  refine Ret_enter Try.func135 rfl 47 rfl [.tmp 2] rfl rfl ?_
  refine W_seq ?_
  refine W_reg ?_
  refine L_pu (P_assign (vb false) rfl) ?_
  refine L_nil ?_
  refine W_seq ?_
  refine W_seq ?_
  refine W_reg ?_
  refine L_pu (P_assign (vi 0) rfl) ?_
  refine L_nil ?_
  refine W_block ?_
  obtain ⟨I18, mu19, hI20, H⟩ := H
  refine W_loop (α := Int) (fun (sv__ : Int) t w14 => match sv__ with | i2 => I18 i2 ∧ Has t [(0, .slice A1 n2 c3), (3, vi i2)] ∧ Ct [] w0 w14 [] O ∧ Sl kTag w14 (Fr ([] ++ O)) (.slice A1 n2 c3) t_) (fun (sv__ : Int) => match sv__ with | i2 => mu19 i2) 0 ⟨hI20, ⟨rfl, rfl, trivial⟩, hc0, hp4⟩ ?_
  rintro i2 _ w14 ⟨hI20, hh22, hc16, h17⟩
  obtain ⟨u23, rfl⟩ := Has.ins hh22
  have H := H i2 hI20
  refine W_seq ?_
  refine W_seq ?_
  refine W_reg ?_
  refine L_pu (P_move (vi i2) rfl) ?_
  refine L_pu (P_move (.slice A1 n2 c3) rfl) ?_
  have hl24 := h17.le
  refine L_pu (P_len Try.underlying69 A1 n2 c3 h17.len rfl) ?_
  refine L_pu (P_cmp i2 (t_.length : Int) (decide (i2 < (t_.length : Int))) rfl rfl rfl) ?_
  refine L_nil ?_
  refine W_cond (decide (i2 < (t_.length : Int))) rfl (fun hq25 => ?_) (fun hq25 => ?_)
  · have H := ite_t H hq25
    refine W_skip ?_
    refine W_seq ?_
    refine W_block ?_
    refine W_seq ?_
    refine W_draw (fun x => Gr w14 x none) (by kernel_rfl) (by kernel_rfl) (Gr.drew _) ?_
    refine Q_pu (P_move (.slice A1 n2 c3) rfl) ?_
    refine Q_pu (P_move (vi i2) rfl) ?_
    obtain ⟨hb26, H⟩ := H
    obtain ⟨ad27, cs28, hA29, hS32, hR30, hcl31⟩ := h17.get default (by decide) i2 hb26
    obtain ⟨rfl, hs33, hs34⟩ := kTag.op hR30
    refine Q_pu (P_ia Try.underlying69 se69 A1 ad27 n2 c3 h17.len i2 rfl hA29 rfl hb26) ?_
    refine Q_pu (P_fa fa133_0 (ad27.add (i2.toNat * 2)) ((ad27.add (i2.toNat * 2)).add 0) rfl rfl) ?_
    refine Q_pu (P_ld ag9 cQ ((ad27.add (i2.toNat * 2)).add 0) (vs ((nth t_ i2).Key)) rfl (hcl31 0 _ rfl)) ?_
    obtain ⟨q, hE40, H⟩ := H
    refine Q_call go52 [vs ((nth t_ i2).Key)] rfl (vb q) (fun w g => (spec_WordOk.calls w (hc16.k0 g).ok ((nth t_ i2).Key) hs33 _ hE40).mono ?_) ?_
    · rintro _ w ⟨r, rfl, rfl, g2⟩
      exact ⟨rfl, Gr.t0 g g2⟩
    refine Q_pu (P_not q rfl) ?_
    refine Q_pu (P_move (vb (!q)) rfl) ?_
    rcases bool_or (!q) with hq42 | hq42
    · have H := ite_t H hq42
      refine Q_pass (dj := 17) rfl rfl (.inl (by exact congrArg Value.bool hq42)) ?_
      refine Q_pass (dj := 17) rfl rfl (.inl (by exact congrArg Value.bool hq42)) ?_
      refine Q_pass (dj := 17) rfl rfl (.inl (by exact congrArg Value.bool hq42)) ?_
      refine Q_pass (dj := 17) rfl rfl (.inl (by exact congrArg Value.bool hq42)) ?_
      refine Q_pass (dj := 17) rfl rfl (.inl (by exact congrArg Value.bool hq42)) ?_
      refine Q_pass (dj := 17) rfl rfl (.inl (by exact congrArg Value.bool hq42)) ?_
      refine Q_pass (dj := 17) rfl rfl (.inl (by exact congrArg Value.bool hq42)) ?_
      refine Q_pu (P_pick true (vb true) (by exact congrArg Value.bool hq42) rfl) ?_
      refine Q_pu (P_move (vb true) rfl) ?_
      refine Q_pass (dj := 26) rfl rfl (.inl rfl) ?_
      refine Q_pass (dj := 26) rfl rfl (.inl rfl) ?_
      refine Q_pass (dj := 26) rfl rfl (.inl rfl) ?_
      refine Q_pass (dj := 29) rfl rfl (.inr rfl) ?_
      refine Q_pass (dj := 29) rfl rfl (.inr rfl) ?_
      refine Q_pass (dj := 29) rfl rfl (.inr rfl) ?_
      refine Q_pass (dj := 29) rfl rfl (.inr rfl) ?_
      refine Q_pass (dj := 29) rfl rfl (.inr rfl) ?_
      refine Q_pass (dj := 29) rfl rfl (.inr rfl) ?_
      refine Q_pass (dj := 29) rfl rfl (.inr rfl) ?_
      refine Q_pass (dj := 29) rfl rfl (.inr rfl) ?_
      refine Q_pass (dj := 29) rfl rfl (.inr rfl) ?_
      refine Q_pass (dj := 29) rfl rfl (.inr rfl) ?_
      refine Q_pass (dj := 29) rfl rfl (.inr rfl) ?_
      refine Q_pass (dj := 29) rfl rfl (.inr rfl) ?_
      refine Q_pass (dj := 26) rfl rfl (.inl rfl) ?_
      refine Q_pu (P_pick true (vb true) (by exact congrArg Value.bool rfl) rfl) ?_
      refine Q_nil fun w43 g44 => ?_
      have hc46 := hc16.k0 g44
      refine W_ct (b := true) rfl rfl ?_
      refine W_seq ?_
      refine W_reg ?_
      refine L_pu (P_assign (vb false) rfl) ?_
      refine L_nil ?_
      refine W_ret ?_
      exact ⟨[vb false], ⟨_, rfl, rfl⟩, false, rfl, H, hc46.gr.g0⟩
    · have H := ite_f H hq42
      refine Q_run (dj := 17) rfl rfl (by exact congrArg Value.bool hq42) ?_
      refine Q_pu (P_move (.slice A1 n2 c3) rfl) ?_
      refine Q_run (dj := 17) rfl rfl (by exact congrArg Value.bool hq42) ?_
      refine Q_pu (P_move (vi i2) rfl) ?_
      refine Q_run (dj := 17) rfl rfl (by exact congrArg Value.bool hq42) ?_
      obtain ⟨hb47, H⟩ := H
      obtain ⟨ad48, cs49, hA50, hS53, hR51, hcl52⟩ := h17.get default (by decide) i2 hb47
      obtain ⟨rfl, hs54, hs55⟩ := kTag.op hR51
      refine Q_pu (P_ia Try.underlying69 se69 A1 ad48 n2 c3 h17.len i2 rfl hA50 rfl hb47) ?_
      refine Q_run (dj := 17) rfl rfl (by exact congrArg Value.bool hq42) ?_
      refine Q_pu (P_fa fa133_1 (ad48.add (i2.toNat * 2)) ((ad48.add (i2.toNat * 2)).add 1) rfl rfl) ?_
      refine Q_run (dj := 17) rfl rfl (by exact congrArg Value.bool hq42) ?_
      refine Q_pu (P_ld ag9 cQ ((ad48.add (i2.toNat * 2)).add 1) (vs ((nth t_ i2).Val)) rfl (hcl52 1 _ rfl)) ?_
      refine Q_run (dj := 17) rfl rfl (by exact congrArg Value.bool hq42) ?_
      obtain ⟨q2, hE61, H⟩ := H
      refine Q_call go52 [vs ((nth t_ i2).Val)] rfl (vb q2) (fun w g => (spec_WordOk.calls w (hc16.k0 g).ok ((nth t_ i2).Val) hs55 _ hE61).mono ?_) ?_
      · rintro _ w ⟨r, rfl, rfl, g2⟩
        exact ⟨rfl, Gr.t0 g g2⟩
      refine Q_run (dj := 17) rfl rfl (by exact congrArg Value.bool hq42) ?_
      refine Q_pu (P_not q2 rfl) ?_
      refine Q_pu (P_pick false (vb (!q2)) (by exact congrArg Value.bool hq42) rfl) ?_
      refine Q_pu (P_move (vb (!q2)) rfl) ?_
      rcases bool_or (!q2) with hq63 | hq63
      · have H := ite_t H hq63
        refine Q_pass (dj := 26) rfl rfl (.inl (by exact congrArg Value.bool hq63)) ?_
        refine Q_pass (dj := 26) rfl rfl (.inl (by exact congrArg Value.bool hq63)) ?_
        refine Q_pass (dj := 26) rfl rfl (.inl (by exact congrArg Value.bool hq63)) ?_
        refine Q_pass (dj := 29) rfl rfl (.inr rfl) ?_
        refine Q_pass (dj := 29) rfl rfl (.inr rfl) ?_
        refine Q_pass (dj := 29) rfl rfl (.inr rfl) ?_
        refine Q_pass (dj := 29) rfl rfl (.inr rfl) ?_
        refine Q_pass (dj := 29) rfl rfl (.inr rfl) ?_
        refine Q_pass (dj := 29) rfl rfl (.inr rfl) ?_
        refine Q_pass (dj := 29) rfl rfl (.inr rfl) ?_
        refine Q_pass (dj := 29) rfl rfl (.inr rfl) ?_
        refine Q_pass (dj := 29) rfl rfl (.inr rfl) ?_
        refine Q_pass (dj := 29) rfl rfl (.inr rfl) ?_
        refine Q_pass (dj := 29) rfl rfl (.inr rfl) ?_
        refine Q_pass (dj := 29) rfl rfl (.inr rfl) ?_
        refine Q_pass (dj := 26) rfl rfl (.inl (by exact congrArg Value.bool hq63)) ?_
        refine Q_pu (P_pick true (vb true) (by exact congrArg Value.bool hq63) rfl) ?_
        refine Q_nil fun w64 g65 => ?_
        have hc67 := hc16.k0 g65
        refine W_ct (b := true) rfl rfl ?_
        refine W_seq ?_
        refine W_reg ?_
        refine L_pu (P_assign (vb false) rfl) ?_
        refine L_nil ?_
        refine W_ret ?_
        exact ⟨[vb false], ⟨_, rfl, rfl⟩, false, rfl, H, hc67.gr.g0⟩
      · have H := ite_f H hq63
        refine Q_run (dj := 26) rfl rfl (by exact congrArg Value.bool hq63) ?_
        refine Q_pu (P_move (vi i2) rfl) ?_
        refine Q_run (dj := 26) rfl rfl (by exact congrArg Value.bool hq63) ?_
        refine Q_pu (P_cmp i2 0 (decide (i2 > 0)) rfl rfl rfl) ?_
        refine Q_run (dj := 26) rfl rfl (by exact congrArg Value.bool hq63) ?_
        refine Q_pu (P_move (vb (decide (i2 > 0))) rfl) ?_
        rcases bool_or (decide (i2 > 0)) with hq68 | hq68
        · have H := ite_t H hq68
          refine Q_run (dj := 29) rfl rfl (by exact congrArg Value.bool hq68) ?_
          refine Q_pu (P_move (.slice A1 n2 c3) rfl) ?_
          refine Q_run (dj := 29) rfl rfl (by exact congrArg Value.bool hq68) ?_
          refine Q_pu (P_move (vi i2) rfl) ?_
          refine Q_run (dj := 29) rfl rfl (by exact congrArg Value.bool hq68) ?_
          obtain ⟨hb69, H⟩ := H
          obtain ⟨ad70, cs71, hA72, hS75, hR73, hcl74⟩ := h17.get default (by decide) i2 hb69
          obtain ⟨rfl, hs76, hs77⟩ := kTag.op hR73
          refine Q_pu (P_ia Try.underlying69 se69 A1 ad70 n2 c3 h17.len i2 rfl hA72 rfl hb69) ?_
          refine Q_run (dj := 29) rfl rfl (by exact congrArg Value.bool hq68) ?_
          refine Q_pu (P_fa fa133_0 (ad70.add (i2.toNat * 2)) ((ad70.add (i2.toNat * 2)).add 0) rfl rfl) ?_
          refine Q_run (dj := 29) rfl rfl (by exact congrArg Value.bool hq68) ?_
          refine Q_pu (P_ld ag9 cQ ((ad70.add (i2.toNat * 2)).add 0) (vs ((nth t_ i2).Key)) rfl (hcl74 0 _ rfl)) ?_
          refine Q_run (dj := 29) rfl rfl (by exact congrArg Value.bool hq68) ?_
          refine Q_pu (P_move (.slice A1 n2 c3) rfl) ?_
          refine Q_run (dj := 29) rfl rfl (by exact congrArg Value.bool hq68) ?_
          refine Q_pu (P_move (vi i2) rfl) ?_
          refine Q_run (dj := 29) rfl rfl (by exact congrArg Value.bool hq68) ?_
          obtain ⟨hb78, H⟩ := H
          have hi79 := hb78 (len_le hl24)
          refine Q_pu (P_sub i2 1 rfl rfl hi79) ?_
          refine Q_run (dj := 29) rfl rfl (by exact congrArg Value.bool hq68) ?_
          obtain ⟨hb80, H⟩ := H
          obtain ⟨ad81, cs82, hA83, hS86, hR84, hcl85⟩ := h17.get default (by decide) (i2 - 1) hb80
          obtain ⟨rfl, hs87, hs88⟩ := kTag.op hR84
          refine Q_pu (P_ia Try.underlying69 se69 A1 ad81 n2 c3 h17.len (i2 - 1) rfl hA83 rfl hb80) ?_
          refine Q_run (dj := 29) rfl rfl (by exact congrArg Value.bool hq68) ?_
          refine Q_pu (P_fa fa133_0 (ad81.add ((i2 - 1).toNat * 2)) ((ad81.add ((i2 - 1).toNat * 2)).add 0) rfl rfl) ?_
          refine Q_run (dj := 29) rfl rfl (by exact congrArg Value.bool hq68) ?_
          refine Q_pu (P_ld ag9 cQ ((ad81.add ((i2 - 1).toNat * 2)).add 0) (vs ((nth t_ (i2 - 1)).Key)) rfl (hcl85 0 _ rfl)) ?_
          refine Q_run (dj := 29) rfl rfl (by exact congrArg Value.bool hq68) ?_
          refine Q_pu (P_scmp ((nth t_ i2).Key) ((nth t_ (i2 - 1)).Key) (Op.bytesLess ((nth t_ i2).Key) ((nth t_ (i2 - 1)).Key) || ((nth t_ i2).Key) == ((nth t_ (i2 - 1)).Key)) rfl rfl rfl) ?_
          refine Q_run (dj := 26) rfl rfl (by exact congrArg Value.bool hq63) ?_
          refine Q_pu (P_pick true (vb (Op.bytesLess ((nth t_ i2).Key) ((nth t_ (i2 - 1)).Key) || ((nth t_ i2).Key) == ((nth t_ (i2 - 1)).Key))) (by exact congrArg Value.bool hq68) rfl) ?_
          refine Q_pu (P_pick false (vb (Op.bytesLess ((nth t_ i2).Key) ((nth t_ (i2 - 1)).Key) || ((nth t_ i2).Key) == ((nth t_ (i2 - 1)).Key))) (by exact congrArg Value.bool hq63) rfl) ?_
          refine Q_nil fun w89 g90 => ?_
          have hc92 := hc16.k0 g90
          refine W_cond (Op.bytesLess ((nth t_ i2).Key) ((nth t_ (i2 - 1)).Key) || ((nth t_ i2).Key) == ((nth t_ (i2 - 1)).Key)) rfl (fun hq93 => ?_) (fun hq93 => ?_)
          · have H := ite_t H hq93
            refine W_seq ?_
            refine W_reg ?_
            refine L_pu (P_assign (vb false) rfl) ?_
            refine L_nil ?_
            refine W_ret ?_
            exact ⟨[vb false], ⟨_, rfl, rfl⟩, false, rfl, H, hc92.gr.g0⟩
          · have H := ite_f H hq93
            refine W_skip ?_
            refine W_reg ?_
            refine L_pu (P_move (vi i2) rfl) ?_
            obtain ⟨hb95, H⟩ := H
            have hi94 : I64 (i2 + 1) := i64_succ (of_decide_eq_true hq25) hl24 hb95
            refine L_pu (P_add i2 1 rfl rfl hi94) ?_
            refine L_pu (P_assign (vi (i2 + 1)) rfl) ?_
            refine L_nil ?_
            obtain ⟨hI96, hm97⟩ := H
            exact ⟨i2 + 1, hm97, hI96, ⟨rfl, rfl, trivial⟩, hc92, (h17.st (.new _ g90))⟩
        · have H := ite_f H hq68
          refine Q_pass (dj := 29) rfl rfl (.inl (by exact congrArg Value.bool hq68)) ?_
          refine Q_pass (dj := 29) rfl rfl (.inl (by exact congrArg Value.bool hq68)) ?_
          refine Q_pass (dj := 29) rfl rfl (.inl (by exact congrArg Value.bool hq68)) ?_
          refine Q_pass (dj := 29) rfl rfl (.inl (by exact congrArg Value.bool hq68)) ?_
          refine Q_pass (dj := 29) rfl rfl (.inl (by exact congrArg Value.bool hq68)) ?_
          refine Q_pass (dj := 29) rfl rfl (.inl (by exact congrArg Value.bool hq68)) ?_
          refine Q_pass (dj := 29) rfl rfl (.inl (by exact congrArg Value.bool hq68)) ?_
          refine Q_pass (dj := 29) rfl rfl (.inl (by exact congrArg Value.bool hq68)) ?_
          refine Q_pass (dj := 29) rfl rfl (.inl (by exact congrArg Value.bool hq68)) ?_
          refine Q_pass (dj := 29) rfl rfl (.inl (by exact congrArg Value.bool hq68)) ?_
          refine Q_pass (dj := 29) rfl rfl (.inl (by exact congrArg Value.bool hq68)) ?_
          refine Q_pass (dj := 29) rfl rfl (.inl (by exact congrArg Value.bool hq68)) ?_
          refine Q_run (dj := 26) rfl rfl (by exact congrArg Value.bool hq63) ?_
          refine Q_pu (P_pick false (vb false) (by exact congrArg Value.bool hq68) rfl) ?_
          refine Q_pu (P_pick false (vb false) (by exact congrArg Value.bool hq63) rfl) ?_
          refine Q_nil fun w98 g99 => ?_
          have hc101 := hc16.k0 g99
          refine W_cf (b := false) rfl rfl ?_
          refine W_skip ?_
          refine W_reg ?_
          refine L_pu (P_move (vi i2) rfl) ?_
          obtain ⟨hb103, H⟩ := H
          have hi102 : I64 (i2 + 1) := i64_succ (of_decide_eq_true hq25) hl24 hb103
          refine L_pu (P_add i2 1 rfl rfl hi102) ?_
          refine L_pu (P_assign (vi (i2 + 1)) rfl) ?_
          refine L_nil ?_
          obtain ⟨hI104, hm105⟩ := H
          exact ⟨i2 + 1, hm105, hI104, ⟨rfl, rfl, trivial⟩, hc101, (h17.st (.new _ g99))⟩
  · have H := ite_f H hq25
    refine W_exit (xin_hit ?_)
    refine W_seq ?_
    refine W_reg ?_
    refine L_pu (P_move (.slice A1 n2 c3) rfl) ?_
    refine L_pu (P_len Try.underlying69 A1 n2 c3 h17.len rfl) ?_
    refine L_pu (P_cmp (t_.length : Int) 4 (decide ((t_.length : Int) ≤ 4)) rfl rfl rfl) ?_
    refine L_pu (P_assign (vb (decide ((t_.length : Int) ≤ 4))) rfl) ?_
    refine L_nil ?_
    refine W_ret ?_
    exact ⟨[vb (decide ((t_.length : Int) ≤ 4))], ⟨_, rfl, rfl⟩, decide ((t_.length : Int) ≤ 4), rfl, H, hc16.gr.g0⟩
end Go.Proofs.Ytndjggncgpjolaa

namespace Go.Proofs.Ytndjggncgpjolaa
set_option linter.unusedVariables false
set_option linter.unusedSimpArgs false
set_option linter.unusedSectionVars false
theorem spec_l2Tags.law (t : List Tag) (Q : Bool → Prop) (hq : Q (tagsOk t && decide (t.length ≤ 4))) : spec_l2Tags.E t Q := by
  unfold spec_l2Tags.E
  unfold tagsOk at hq
  refine loop_all t.length (fun k => wordOk (nth t (k : Int)).Key && wordOk (nth t (k : Int)).Val && (decide (k = 0) || Op.bytesLess (nth t ((k : Int) - 1)).Key (nth t (k : Int)).Key)) (fun I mu k hk hp hn => ?_) (fun ha => ?_)
  · have bad : (wordOk (nth t (k : Int)).Key && wordOk (nth t (k : Int)).Val && (decide (k = 0) || Op.bytesLess (nth t ((k : Int) - 1)).Key (nth t (k : Int)).Key)) = false → Q false := fun h => by
      rw [allN_false hk h, Bool.false_and] at hq; exact hq
    refine ⟨by omega, _, spec_WordOk.law _ _ rfl, ?_⟩
    cases h1 : wordOk (nth t (k : Int)).Key with
    | false => rw [if_pos (by decide)]; exact bad (by rw [h1]; rfl)
    | true =>
      rw [if_neg (by decide)]
      refine ⟨by omega, _, spec_WordOk.law _ _ rfl, ?_⟩
      cases h2 : wordOk (nth t (k : Int)).Val with
      | false => rw [if_pos (by decide)]; exact bad (by rw [h2, Bool.and_false]; rfl)
      | true =>
        rw [if_neg (by decide)]
        by_cases hk0 : k = 0
        · rw [if_neg (by rw [decide_eq_true_eq]; omega)]
          obtain ⟨i1, i2⟩ := hn (by rw [h1, h2, decide_eq_true hk0]; rfl)
          exact ⟨by omega, i1, i2⟩
        · rw [if_pos (by rw [decide_eq_true_eq]; omega)]
          refine ⟨by omega, fun _ => by unfold I64; omega, by omega, ?_⟩
          rw [← less_tri]
          cases h3 : Op.bytesLess (nth t ((k : Int) - 1)).Key (nth t (k : Int)).Key with
          | false => rw [if_pos (by decide)]; exact bad (by rw [h3, h1, h2, decide_eq_false hk0]; rfl)
          | true =>
            rw [if_neg (by decide)]
            obtain ⟨i1, i2⟩ := hn (by rw [h3, h1, h2, decide_eq_false hk0]; rfl)
            exact ⟨by omega, i1, i2⟩
  · rw [allN_true ha, Bool.true_and] at hq
    have e2 : decide ((t.length : Int) ≤ 4) = decide (t.length ≤ 4) := decide_eq_decide.2 (by omega)
    rw [e2]; exact hq
end Go.Proofs.Ytndjggncgpjolaa

namespace Go.Proofs.Ytndjggncgpjolaa
open Go.RowKit
set_option linter.unusedVariables false
def spec_FeatOk.E (f : Feat) (Q : Bool → Prop) : Prop :=
  spec_WordOk.E f.Id (fun r => (if r then spec_ShapeOk.E f.Shape (fun r2 => (if r2 then spec_l2Tags.E f.Tags (fun r3 => Q r3) else Q false)) else Q false))
set_option maxHeartbeats 8000000 in
set_option maxRecDepth 100000 in
theorem spec_FeatOk.calls {O : Ob} (w0 : World) (hO : Ok w0 O) (f : Feat) (A2 : Option Addr) (n3 c4 : Nat) (A7 : Option Addr) (n8 c9 : Nat) (hs1 : Lim f.Id) (hp5 : Sl kPt w0 (Fr O) (.slice A2 n3 c4) f.Shape.Pts) (hp10 : Sl kTag w0 (Fr O) (.slice A7 n8 c9) f.Tags) (Q : Bool → Prop) (h : spec_FeatOk.E f Q) :
    Ret Try.prog 89 [.agg #[vs f.Id, vi f.Shape.Kind, .slice A2 n3 c4, .slice A7 n8 c9]] w0 (fun v w' => ∃ (r0 : Bool), v = vb r0 ∧ Q r0 ∧ Gr w0 w' none) := by
  have H : spec_WordOk.E f.Id (fun r => (if r then spec_ShapeOk.E f.Shape (fun r2 => (if r2 then spec_l2Tags.E f.Tags (fun r3 => Q r3) else Q false)) else Q false)) := h
  clear h
  have hc0 := Ct.init hO
  refine Ret_enter Try.func89 rfl 16 rfl [.tmp 2] rfl rfl ?_
  refine W_seq ?_
  refine W_reg ?_
  refine L_box [vs f.Id, vi f.Shape.Kind, .slice A2 n3 c4, .slice A7 n8 c9] rfl fun w12 b13 hl15 hu16 g14 hx17 => ?_
  have h19 := Fb.mk hc0.ok hl15 hx17
  have hc20 := hc0.k0 g14
  refine L_pu (P_assign (vb false) rfl) ?_
  refine L_nil ?_
  refine W_seq ?_
  refine W_reg ?_
  refine L_pu (P_fa fa71_0 ⟨b13, 0, none⟩ ⟨b13, 0, none⟩ rfl rfl) ?_
  refine L_pu (P_ld ag9 cL ⟨b13, 0, none⟩ (vs f.Id) rfl (h19.cell rfl)) ?_
  refine L_call go52 [vs f.Id] rfl ((spec_WordOk.calls w12 hc20.ok f.Id hs1 _ H).mono ?_)
  rintro _ w21 ⟨r, rfl, H, g22⟩
  have hc26 := hc20.k0 g22
  refine L_pu (P_move (vb r) rfl) ?_
  rcases bool_or r with hq27 | hq27
  · have H := ite_t H hq27
    refine L_run (dj := 6) rfl rfl (by exact congrArg Value.bool hq27) ?_
    refine L_pu (P_fa fa71_1 ⟨b13, 0, none⟩ ⟨b13, 1, none⟩ rfl rfl) ?_
    refine L_run (dj := 6) rfl rfl (by exact congrArg Value.bool hq27) ?_
    have h28 := (h19.st (.new _ g22))
    refine L_pu (P_lda ag68 sz68 cL ⟨b13, 1, none⟩ [vi f.Shape.Kind, .slice A2 n3 c4] rfl rfl (h28.cells (off := 1) rfl)) ?_
    refine L_run (dj := 6) rfl rfl (by exact congrArg Value.bool hq27) ?_
    refine L_call go134 [.agg #[vi f.Shape.Kind, .slice A2 n3 c4]] rfl ((spec_ShapeOk.calls w21 hc26.ok f.Shape A2 n3 c4 (hp5.st hc26.st) _ H).mono ?_)
    rintro _ w29 ⟨r2, rfl, H, g30⟩
    have hc34 := hc26.k0 g30
    refine L_pu (P_pick true (vb r2) (by exact congrArg Value.bool hq27) rfl) ?_
    refine L_pu (P_move (vb r2) rfl) ?_
    rcases bool_or r2 with hq35 | hq35
    · have H := ite_t H hq35
      refine L_run (dj := 11) rfl rfl (by exact congrArg Value.bool hq35) ?_
      refine L_pu (P_fa fa71_2 ⟨b13, 0, none⟩ ⟨b13, 3, none⟩ rfl rfl) ?_
      refine L_run (dj := 11) rfl rfl (by exact congrArg Value.bool hq35) ?_
      have h36 := (h28.st (.new _ g30))
      refine L_pu (P_ld ag69 cL ⟨b13, 3, none⟩ (.slice A7 n8 c9) rfl (h36.cell rfl)) ?_
      refine L_run (dj := 11) rfl rfl (by exact congrArg Value.bool hq35) ?_
      refine L_call go135 [.slice A7 n8 c9] rfl ((spec_l2Tags.calls w29 hc34.ok f.Tags A7 n8 c9 (hp10.st hc34.st) _ H).mono ?_)
      rintro _ w37 ⟨r3, rfl, H, g38⟩
      have hc42 := hc34.k0 g38
      refine L_pu (P_pick true (vb r3) (by exact congrArg Value.bool hq35) rfl) ?_
      refine L_pu (P_assign (vb r3) rfl) ?_
      refine L_nil ?_
      refine W_ret ?_
      exact ⟨[vb r3], ⟨_, rfl, rfl⟩, r3, rfl, H, hc42.gr.g0⟩
    · have H := ite_f H hq35
      refine L_pass (dj := 11) rfl rfl (.inl (by exact congrArg Value.bool hq35)) ?_
      refine L_pass (dj := 11) rfl rfl (.inl (by exact congrArg Value.bool hq35)) ?_
      refine L_pass (dj := 11) rfl rfl (.inl (by exact congrArg Value.bool hq35)) ?_
      refine L_pu (P_pick false (vb false) (by exact congrArg Value.bool hq35) rfl) ?_
      refine L_pu (P_assign (vb false) rfl) ?_
      refine L_nil ?_
      refine W_ret ?_
      exact ⟨[vb false], ⟨_, rfl, rfl⟩, false, rfl, H, hc34.gr.g0⟩
  · have H := ite_f H hq27
    refine L_pass (dj := 6) rfl rfl (.inl (by exact congrArg Value.bool hq27)) ?_
    refine L_pass (dj := 6) rfl rfl (.inl (by exact congrArg Value.bool hq27)) ?_
    refine L_pass (dj := 6) rfl rfl (.inl (by exact congrArg Value.bool hq27)) ?_
    refine L_pu (P_pick false (vb false) (by exact congrArg Value.bool hq27) rfl) ?_
    refine L_pu (P_move (vb false) rfl) ?_
    refine L_pass (dj := 11) rfl rfl (.inl rfl) ?_
    refine L_pass (dj := 11) rfl rfl (.inl rfl) ?_
    refine L_pass (dj := 11) rfl rfl (.inl rfl) ?_
    refine L_pu (P_pick false (vb false) (by exact congrArg Value.bool rfl) rfl) ?_
    refine L_pu (P_assign (vb false) rfl) ?_
    refine L_nil ?_
    refine W_ret ?_
    exact ⟨[vb false], ⟨_, rfl, rfl⟩, false, rfl, H, hc26.gr.g0⟩
end Go.Proofs.Ytndjggncgpjolaa

namespace Go.Proofs.Ytndjggncgpjolaa
set_option linter.unusedVariables false
set_option linter.unusedSimpArgs false
set_option linter.unusedSectionVars false
theorem spec_FeatOk.law (f : Feat) (Q : Bool → Prop) (hq : Q (featOk f)) : spec_FeatOk.E f Q := by
  unfold spec_FeatOk.E
  unfold featOk at hq
  refine spec_WordOk.law _ _ ?_
  cases h1 : wordOk f.Id with
  | false => rw [h1, Bool.and_false, Bool.false_and] at hq; rw [if_neg (by decide)]; exact hq
  | true =>
    rw [h1, Bool.and_true] at hq
    rw [if_pos rfl]
    refine spec_ShapeOk.law _ _ ?_
    cases h2 : shapeOk f.Shape with
    | false => rw [h2, Bool.and_false] at hq; rw [if_neg (by decide)]; exact hq
    | true => rw [h2, Bool.and_true] at hq; rw [if_pos rfl]; exact spec_l2Tags.law _ _ hq
end Go.Proofs.Ytndjggncgpjolaa

namespace Go.Proofs.Ytndjggncgpjolaa
open Go.RowKit
set_option linter.unusedVariables false
def spec_SheetOk.E (s : List Feat) (Q : Bool → Prop) : Prop :=
  (∃ (I18 : Int → Prop) (mu19 : Int → Nat), I18 0 ∧ ∀ (i2 : Int), I18 i2 → (if decide (i2 < (s.length : Int)) then ((0 : Int) ≤ i2 ∧ i2 < (s.length : Int)) ∧ (∃ q : Bool, spec_FeatOk.E (nth s i2) (fun x => x = q) ∧ (if !q then Q false else (if decide (i2 > 0) then ((0 : Int) ≤ i2 ∧ i2 < (s.length : Int)) ∧ ((s.length : Int) ≤ 9223372036854775807 → I64 (i2 - 1)) ∧ ((0 : Int) ≤ i2 - 1 ∧ i2 - 1 < (s.length : Int)) ∧ (if Op.bytesLess ((nth s i2).Id) ((nth s (i2 - 1)).Id) || ((nth s i2).Id) == ((nth s (i2 - 1)).Id) then Q false else (-9223372036854775808 ≤ i2) ∧ I18 (i2 + 1) ∧ mu19 (i2 + 1) < mu19 i2) else (-9223372036854775808 ≤ i2) ∧ I18 (i2 + 1) ∧ mu19 (i2 + 1) < mu19 i2))) else Q (decide ((s.length : Int) ≤ 8))))
set_option maxHeartbeats 8000000 in
set_option maxRecDepth 100000 in
theorem spec_SheetOk.calls {O : Ob} (w0 : World) (hO : Ok w0 O) (s : List Feat) (A1 : Option Addr) (n2 c3 : Nat) (hp4 : Sl kFeat w0 (Fr O) (.slice A1 n2 c3) s) (Q : Bool → Prop) (h : spec_SheetOk.E s Q) :
    Ret Try.prog 72 [.slice A1 n2 c3] w0 (fun v w' => ∃ (r0 : Bool), v = vb r0 ∧ Q r0 ∧ Gr w0 w' none) := by
  have H : (∃ (I18 : Int → Prop) (mu19 : Int → Nat), I18 0 ∧ ∀ (i2 : Int), I18 i2 → (if decide (i2 < (s.length : Int)) then ((0 : Int) ≤ i2 ∧ i2 < (s.length : Int)) ∧ (∃ q : Bool, spec_FeatOk.E (nth s i2) (fun x => x = q) ∧ (if !q then Q false else (if decide (i2 > 0) then ((0 : Int) ≤ i2 ∧ i2 < (s.length : Int)) ∧ ((s.length : Int) ≤ 9223372036854775807 → I64 (i2 - 1)) ∧ ((0 : Int) ≤ i2 - 1 ∧ i2 - 1 < (s.length : Int)) ∧ (if Op.bytesLess ((nth s i2).Id) ((nth s (i2 - 1)).Id) || ((nth s i2).Id) == ((nth s (i2 - 1)).Id) then Q false else (-9223372036854775808 ≤ i2) ∧ I18 (i2 + 1) ∧ mu19 (i2 + 1) < mu19 i2) else (-9223372036854775808 ≤ i2) ∧ I18 (i2 + 1) ∧ mu19 (i2 + 1) < mu19 i2))) else Q (decide ((s.length : Int) ≤ 8)))) := h
  clear h
  have hc0 := Ct.init hO
  refine Ret_enter Try.func72 rfl 37 rfl [.tmp 2] rfl rfl ?_
  refine W_seq ?_
  refine W_reg ?_
  refine L_pu (P_assign (vb false) rfl) ?_
  refine L_nil ?_
  refine W_seq ?_
  refine W_seq ?_
  refine W_reg ?_
  refine L_pu (P_assign (vi 0) rfl) ?_
  refine L_nil ?_
  refine W_block ?_
  obtain ⟨I18, mu19, hI20, H⟩ := H
  refine W_loop (α := Int) (fun (sv__ : Int) t w14 => match sv__ with | i2 => I18 i2 ∧ Has t [(0, .slice A1 n2 c3), (3, vi i2)] ∧ Ct [] w0 w14 [] O ∧ Sl kFeat w14 (Fr ([] ++ O)) (.slice A1 n2 c3) s) (fun (sv__ : Int) => match sv__ with | i2 => mu19 i2) 0 ⟨hI20, ⟨rfl, rfl, trivial⟩, hc0, hp4⟩ ?_
  rintro i2 _ w14 ⟨hI20, hh22, hc16, h17⟩
  obtain ⟨u23, rfl⟩ := Has.ins hh22
  have H := H i2 hI20
  refine W_seq ?_
  refine W_seq ?_
  refine W_reg ?_
  refine L_pu (P_move (vi i2) rfl) ?_
  refine L_pu (P_move (.slice A1 n2 c3) rfl) ?_
  have hl24 := h17.le
  refine L_pu (P_len Try.underlying52 A1 n2 c3 h17.len rfl) ?_
  refine L_pu (P_cmp i2 (s.length : Int) (decide (i2 < (s.length : Int))) rfl rfl rfl) ?_
  refine L_nil ?_
  refine W_cond (decide (i2 < (s.length : Int))) rfl (fun hq25 => ?_) (fun hq25 => ?_)
  · have H := ite_t H hq25
    refine W_skip ?_
    refine W_seq ?_
    refine W_block ?_
    refine W_seq ?_
    refine W_draw (fun x => Gr w14 x none) (by kernel_rfl) (by kernel_rfl) (Gr.drew _) ?_
    refine Q_pu (P_move (.slice A1 n2 c3) rfl) ?_
    refine Q_pu (P_move (vi i2) rfl) ?_
    obtain ⟨hb26, H⟩ := H
    obtain ⟨ad27, cs28, hA29, hS32, hR30, hcl31⟩ := h17.get default (by decide) i2 hb26
    obtain ⟨A34, n35, c36, A39, n40, c41, rfl, hs33, h37, h42⟩ := kFeat.op hR30
    refine Q_pu (P_ia Try.underlying52 se52 A1 ad27 n2 c3 h17.len i2 rfl hA29 rfl hb26) ?_
    refine Q_pu (P_lda ag71 sz71 cQ (ad27.add (i2.toNat * 4)) [vs ((nth s i2).Id), vi ((nth s i2).Shape.Kind), .slice A34 n35 c36, .slice A39 n40 c41] rfl rfl hcl31) ?_
    obtain ⟨q, hE49, H⟩ := H
    refine Q_call go89 [.agg #[vs ((nth s i2).Id), vi ((nth s i2).Shape.Kind), .slice A34 n35 c36, .slice A39 n40 c41]] rfl (vb q) (fun w g => (spec_FeatOk.calls w (hc16.k0 g).ok (nth s i2) A34 n35 c36 A39 n40 c41 hs33 (h37.st (.new _ g)) (h42.st (.new _ g)) _ hE49).mono ?_) ?_
    · rintro _ w ⟨r, rfl, rfl, g2⟩
      exact ⟨rfl, Gr.t0 g g2⟩
    refine Q_pu (P_not q rfl) ?_
    refine Q_pu (P_move (vb (!q)) rfl) ?_
    rcases bool_or (!q) with hq51 | hq51
    · have H := ite_t H hq51
      refine Q_pass (dj := 16) rfl rfl (.inl (by exact congrArg Value.bool hq51)) ?_
      refine Q_pass (dj := 16) rfl rfl (.inl (by exact congrArg Value.bool hq51)) ?_
      refine Q_pass (dj := 16) rfl rfl (.inl (by exact congrArg Value.bool hq51)) ?_
      refine Q_pass (dj := 19) rfl rfl (.inr rfl) ?_
      refine Q_pass (dj := 19) rfl rfl (.inr rfl) ?_
      refine Q_pass (dj := 19) rfl rfl (.inr rfl) ?_
      refine Q_pass (dj := 19) rfl rfl (.inr rfl) ?_
      refine Q_pass (dj := 19) rfl rfl (.inr rfl) ?_
      refine Q_pass (dj := 19) rfl rfl (.inr rfl) ?_
      refine Q_pass (dj := 19) rfl rfl (.inr rfl) ?_
      refine Q_pass (dj := 19) rfl rfl (.inr rfl) ?_
      refine Q_pass (dj := 19) rfl rfl (.inr rfl) ?_
      refine Q_pass (dj := 19) rfl rfl (.inr rfl) ?_
      refine Q_pass (dj := 19) rfl rfl (.inr rfl) ?_
      refine Q_pass (dj := 19) rfl rfl (.inr rfl) ?_
      refine Q_pass (dj := 16) rfl rfl (.inl (by exact congrArg Value.bool hq51)) ?_
      refine Q_pu (P_pick true (vb true) (by exact congrArg Value.bool hq51) rfl) ?_
      refine Q_nil fun w52 g53 => ?_
      have hc55 := hc16.k0 g53
      refine W_ct (b := true) rfl rfl ?_
      refine W_seq ?_
      refine W_reg ?_
      refine L_pu (P_assign (vb false) rfl) ?_
      refine L_nil ?_
      refine W_ret ?_
      exact ⟨[vb false], ⟨_, rfl, rfl⟩, false, rfl, H, hc55.gr.g0⟩
    · have H := ite_f H hq51
      refine Q_run (dj := 16) rfl rfl (by exact congrArg Value.bool hq51) ?_
      refine Q_pu (P_move (vi i2) rfl) ?_
      refine Q_run (dj := 16) rfl rfl (by exact congrArg Value.bool hq51) ?_
      refine Q_pu (P_cmp i2 0 (decide (i2 > 0)) rfl rfl rfl) ?_
      refine Q_run (dj := 16) rfl rfl (by exact congrArg Value.bool hq51) ?_
      refine Q_pu (P_move (vb (decide (i2 > 0))) rfl) ?_
      rcases bool_or (decide (i2 > 0)) with hq56 | hq56
      · have H := ite_t H hq56
        refine Q_run (dj := 19) rfl rfl (by exact congrArg Value.bool hq56) ?_
        refine Q_pu (P_move (.slice A1 n2 c3) rfl) ?_
        refine Q_run (dj := 19) rfl rfl (by exact congrArg Value.bool hq56) ?_
        refine Q_pu (P_move (vi i2) rfl) ?_
        refine Q_run (dj := 19) rfl rfl (by exact congrArg Value.bool hq56) ?_
        obtain ⟨hb57, H⟩ := H
        obtain ⟨ad58, cs59, hA60, hS63, hR61, hcl62⟩ := h17.get default (by decide) i2 hb57
        obtain ⟨A65, n66, c67, A70, n71, c72, rfl, hs64, h68, h73⟩ := kFeat.op hR61
        refine Q_pu (P_ia Try.underlying52 se52 A1 ad58 n2 c3 h17.len i2 rfl hA60 rfl hb57) ?_
        refine Q_run (dj := 19) rfl rfl (by exact congrArg Value.bool hq56) ?_
        refine Q_pu (P_fa fa71_0 (ad58.add (i2.toNat * 4)) ((ad58.add (i2.toNat * 4)).add 0) rfl rfl) ?_
        refine Q_run (dj := 19) rfl rfl (by exact congrArg Value.bool hq56) ?_
        refine Q_pu (P_ld ag9 cQ ((ad58.add (i2.toNat * 4)).add 0) (vs ((nth s i2).Id)) rfl (hcl62 0 _ rfl)) ?_
        refine Q_run (dj := 19) rfl rfl (by exact congrArg Value.bool hq56) ?_
        refine Q_pu (P_move (.slice A1 n2 c3) rfl) ?_
        refine Q_run (dj := 19) rfl rfl (by exact congrArg Value.bool hq56) ?_
        refine Q_pu (P_move (vi i2) rfl) ?_
        refine Q_run (dj := 19) rfl rfl (by exact congrArg Value.bool hq56) ?_
        obtain ⟨hb75, H⟩ := H
        have hi76 := hb75 (len_le hl24)
        refine Q_pu (P_sub i2 1 rfl rfl hi76) ?_
        refine Q_run (dj := 19) rfl rfl (by exact congrArg Value.bool hq56) ?_
        obtain ⟨hb77, H⟩ := H
        obtain ⟨ad78, cs79, hA80, hS83, hR81, hcl82⟩ := h17.get default (by decide) (i2 - 1) hb77
        obtain ⟨A85, n86, c87, A90, n91, c92, rfl, hs84, h88, h93⟩ := kFeat.op hR81
        refine Q_pu (P_ia Try.underlying52 se52 A1 ad78 n2 c3 h17.len (i2 - 1) rfl hA80 rfl hb77) ?_
        refine Q_run (dj := 19) rfl rfl (by exact congrArg Value.bool hq56) ?_
        refine Q_pu (P_fa fa71_0 (ad78.add ((i2 - 1).toNat * 4)) ((ad78.add ((i2 - 1).toNat * 4)).add 0) rfl rfl) ?_
        refine Q_run (dj := 19) rfl rfl (by exact congrArg Value.bool hq56) ?_
        refine Q_pu (P_ld ag9 cQ ((ad78.add ((i2 - 1).toNat * 4)).add 0) (vs ((nth s (i2 - 1)).Id)) rfl (hcl82 0 _ rfl)) ?_
        refine Q_run (dj := 19) rfl rfl (by exact congrArg Value.bool hq56) ?_
        refine Q_pu (P_scmp ((nth s i2).Id) ((nth s (i2 - 1)).Id) (Op.bytesLess ((nth s i2).Id) ((nth s (i2 - 1)).Id) || ((nth s i2).Id) == ((nth s (i2 - 1)).Id)) rfl rfl rfl) ?_
        refine Q_run (dj := 16) rfl rfl (by exact congrArg Value.bool hq51) ?_
        refine Q_pu (P_pick true (vb (Op.bytesLess ((nth s i2).Id) ((nth s (i2 - 1)).Id) || ((nth s i2).Id) == ((nth s (i2 - 1)).Id))) (by exact congrArg Value.bool hq56) rfl) ?_
        refine Q_pu (P_pick false (vb (Op.bytesLess ((nth s i2).Id) ((nth s (i2 - 1)).Id) || ((nth s i2).Id) == ((nth s (i2 - 1)).Id))) (by exact congrArg Value.bool hq51) rfl) ?_
        refine Q_nil fun w95 g96 => ?_
        have hc98 := hc16.k0 g96
        refine W_cond (Op.bytesLess ((nth s i2).Id) ((nth s (i2 - 1)).Id) || ((nth s i2).Id) == ((nth s (i2 - 1)).Id)) rfl (fun hq99 => ?_) (fun hq99 => ?_)
        · have H := ite_t H hq99
          refine W_seq ?_
          refine W_reg ?_
          refine L_pu (P_assign (vb false) rfl) ?_
          refine L_nil ?_
          refine W_ret ?_
          exact ⟨[vb false], ⟨_, rfl, rfl⟩, false, rfl, H, hc98.gr.g0⟩
        · have H := ite_f H hq99
          refine W_skip ?_
          refine W_reg ?_
          refine L_pu (P_move (vi i2) rfl) ?_
          obtain ⟨hb101, H⟩ := H
          have hi100 : I64 (i2 + 1) := i64_succ (of_decide_eq_true hq25) hl24 hb101
          refine L_pu (P_add i2 1 rfl rfl hi100) ?_
          refine L_pu (P_assign (vi (i2 + 1)) rfl) ?_
          refine L_nil ?_
          obtain ⟨hI102, hm103⟩ := H
          exact ⟨i2 + 1, hm103, hI102, ⟨rfl, rfl, trivial⟩, hc98, (h17.st (.new _ g96))⟩
      · have H := ite_f H hq56
        refine Q_pass (dj := 19) rfl rfl (.inl (by exact congrArg Value.bool hq56)) ?_
        refine Q_pass (dj := 19) rfl rfl (.inl (by exact congrArg Value.bool hq56)) ?_
        refine Q_pass (dj := 19) rfl rfl (.inl (by exact congrArg Value.bool hq56)) ?_
        refine Q_pass (dj := 19) rfl rfl (.inl (by exact congrArg Value.bool hq56)) ?_
        refine Q_pass (dj := 19) rfl rfl (.inl (by exact congrArg Value.bool hq56)) ?_
        refine Q_pass (dj := 19) rfl rfl (.inl (by exact congrArg Value.bool hq56)) ?_
        refine Q_pass (dj := 19) rfl rfl (.inl (by exact congrArg Value.bool hq56)) ?_
        refine Q_pass (dj := 19) rfl rfl (.inl (by exact congrArg Value.bool hq56)) ?_
        refine Q_pass (dj := 19) rfl rfl (.inl (by exact congrArg Value.bool hq56)) ?_
        refine Q_pass (dj := 19) rfl rfl (.inl (by exact congrArg Value.bool hq56)) ?_
        refine Q_pass (dj := 19) rfl rfl (.inl (by exact congrArg Value.bool hq56)) ?_
        refine Q_pass (dj := 19) rfl rfl (.inl (by exact congrArg Value.bool hq56)) ?_
        refine Q_run (dj := 16) rfl rfl (by exact congrArg Value.bool hq51) ?_
        refine Q_pu (P_pick false (vb false) (by exact congrArg Value.bool hq56) rfl) ?_
        refine Q_pu (P_pick false (vb false) (by exact congrArg Value.bool hq51) rfl) ?_
        refine Q_nil fun w104 g105 => ?_
        have hc107 := hc16.k0 g105
        refine W_cf (b := false) rfl rfl ?_
        refine W_skip ?_
        refine W_reg ?_
        refine L_pu (P_move (vi i2) rfl) ?_
        obtain ⟨hb109, H⟩ := H
        have hi108 : I64 (i2 + 1) := i64_succ (of_decide_eq_true hq25) hl24 hb109
        refine L_pu (P_add i2 1 rfl rfl hi108) ?_
        refine L_pu (P_assign (vi (i2 + 1)) rfl) ?_
        refine L_nil ?_
        obtain ⟨hI110, hm111⟩ := H
        exact ⟨i2 + 1, hm111, hI110, ⟨rfl, rfl, trivial⟩, hc107, (h17.st (.new _ g105))⟩
  · have H := ite_f H hq25
    refine W_exit (xin_hit ?_)
    refine W_seq ?_
    refine W_reg ?_
    refine L_pu (P_move (.slice A1 n2 c3) rfl) ?_
    refine L_pu (P_len Try.underlying52 A1 n2 c3 h17.len rfl) ?_
    refine L_pu (P_cmp (s.length : Int) 8 (decide ((s.length : Int) ≤ 8)) rfl rfl rfl) ?_
    refine L_pu (P_assign (vb (decide ((s.length : Int) ≤ 8))) rfl) ?_
    refine L_nil ?_
    refine W_ret ?_
    exact ⟨[vb (decide ((s.length : Int) ≤ 8))], ⟨_, rfl, rfl⟩, decide ((s.length : Int) ≤ 8), rfl, H, hc16.gr.g0⟩
end Go.Proofs.Ytndjggncgpjolaa

namespace Go.Proofs.Ytndjggncgpjolaa
set_option linter.unusedVariables false
set_option linter.unusedSimpArgs false
set_option linter.unusedSectionVars false
theorem spec_SheetOk.law (d : List Feat) (Q : Bool → Prop) (hq : Q (sheetOk d)) : spec_SheetOk.E d Q := by
  unfold spec_SheetOk.E
  unfold sheetOk at hq
  refine loop_all d.length (fun k => featOk (nth d (k : Int)) && (decide (k = 0) || Op.bytesLess (nth d ((k : Int) - 1)).Id (nth d (k : Int)).Id)) (fun I mu k hk hp hn => ?_) (fun ha => ?_)
  · have bad : (featOk (nth d (k : Int)) && (decide (k = 0) || Op.bytesLess (nth d ((k : Int) - 1)).Id (nth d (k : Int)).Id)) = false → Q false := fun h => by
      rw [allN_false hk h, Bool.false_and] at hq; exact hq
    refine ⟨by omega, _, spec_FeatOk.law _ _ rfl, ?_⟩
    cases h1 : featOk (nth d (k : Int)) with
    | false => rw [if_pos (by decide)]; exact bad (by rw [h1]; rfl)
    | true =>
      rw [if_neg (by decide)]
      by_cases hk0 : k = 0
      · rw [if_neg (by rw [decide_eq_true_eq]; omega)]
        obtain ⟨i1, i2⟩ := hn (by rw [h1, decide_eq_true hk0]; rfl)
        exact ⟨by omega, i1, i2⟩
      · rw [if_pos (by rw [decide_eq_true_eq]; omega)]
        refine ⟨by omega, fun _ => by unfold I64; omega, by omega, ?_⟩
        rw [← less_tri]
        cases h3 : Op.bytesLess (nth d ((k : Int) - 1)).Id (nth d (k : Int)).Id with
        | false => rw [if_pos (by decide)]; exact bad (by rw [h3, h1, decide_eq_false hk0]; rfl)
        | true =>
          rw [if_neg (by decide)]
          obtain ⟨i1, i2⟩ := hn (by rw [h3, h1, decide_eq_false hk0]; rfl)
          exact ⟨by omega, i1, i2⟩
  · rw [allN_true ha, Bool.true_and] at hq
    have e2 : decide ((d.length : Int) ≤ 8) = decide (d.length ≤ 8) := decide_eq_decide.2 (by omega)
    rw [e2]; exact hq
end Go.Proofs.Ytndjggncgpjolaa

namespace Go.Proofs.Ytndjggncgpjolaa
open Go.RowKit
set_option linter.unusedVariables false
def spec_l3Put.E (s : List Feat) (f : Feat) (Q : List Feat → Prop) : Prop :=
  (∃ (I74 : (List Feat) → Bool → Int → Prop) (mu75 : (List Feat) → Bool → Int → Nat), I74 ([] : List Feat) false 0 ∧ ∀ (xs2 : List Feat) (done2 : Bool) (i2 : Int), I74 xs2 done2 i2 → (if decide (i2 < (s.length : Int)) then (if !done2 then ((0 : Int) ≤ i2 ∧ i2 < (s.length : Int)) ∧ (if !(Op.bytesLess ((nth s i2).Id) f.Id) then (xs2.length + ([f] : List Feat).length ≤ 268435456) ∧ ((0 : Int) ≤ i2 ∧ i2 < (s.length : Int)) ∧ (if ((nth s i2).Id) != f.Id then ((0 : Int) ≤ i2 ∧ i2 < (s.length : Int)) ∧ ((xs2 ++ ([f] : List Feat)).length + ([(nth s i2)] : List Feat).length ≤ 268435456) ∧ (-9223372036854775808 ≤ i2) ∧ I74 ((xs2 ++ ([f] : List Feat)) ++ ([(nth s i2)] : List Feat)) true (i2 + 1) ∧ mu75 ((xs2 ++ ([f] : List Feat)) ++ ([(nth s i2)] : List Feat)) true (i2 + 1) < mu75 xs2 done2 i2 else (-9223372036854775808 ≤ i2) ∧ I74 (xs2 ++ ([f] : List Feat)) true (i2 + 1) ∧ mu75 (xs2 ++ ([f] : List Feat)) true (i2 + 1) < mu75 xs2 done2 i2) else ((0 : Int) ≤ i2 ∧ i2 < (s.length : Int)) ∧ (if ((nth s i2).Id) != f.Id then ((0 : Int) ≤ i2 ∧ i2 < (s.length : Int)) ∧ (xs2.length + ([(nth s i2)] : List Feat).length ≤ 268435456) ∧ (-9223372036854775808 ≤ i2) ∧ I74 (xs2 ++ ([(nth s i2)] : List Feat)) done2 (i2 + 1) ∧ mu75 (xs2 ++ ([(nth s i2)] : List Feat)) done2 (i2 + 1) < mu75 xs2 done2 i2 else (-9223372036854775808 ≤ i2) ∧ I74 xs2 done2 (i2 + 1) ∧ mu75 xs2 done2 (i2 + 1) < mu75 xs2 done2 i2)) else ((0 : Int) ≤ i2 ∧ i2 < (s.length : Int)) ∧ (if ((nth s i2).Id) != f.Id then ((0 : Int) ≤ i2 ∧ i2 < (s.length : Int)) ∧ (xs2.length + ([(nth s i2)] : List Feat).length ≤ 268435456) ∧ (-9223372036854775808 ≤ i2) ∧ I74 (xs2 ++ ([(nth s i2)] : List Feat)) done2 (i2 + 1) ∧ mu75 (xs2 ++ ([(nth s i2)] : List Feat)) done2 (i2 + 1) < mu75 xs2 done2 i2 else (-9223372036854775808 ≤ i2) ∧ I74 xs2 done2 (i2 + 1) ∧ mu75 xs2 done2 (i2 + 1) < mu75 xs2 done2 i2)) else (if !done2 then (xs2.length + ([f] : List Feat).length ≤ 268435456) ∧ Q (xs2 ++ ([f] : List Feat)) else Q xs2)))
set_option maxHeartbeats 8000000 in
set_option maxRecDepth 100000 in
theorem spec_l3Put.calls {O : Ob} (w0 : World) (hO : Ok w0 O) (s : List Feat) (A1 : Option Addr) (n2 c3 : Nat) (hp4 : Sl kFeat w0 (Fr O) (.slice A1 n2 c3) s) (f : Feat) (A7 : Option Addr) (n8 c9 : Nat) (A12 : Option Addr) (n13 c14 : Nat) (hs6 : Lim f.Id) (hp10 : Sl kPt w0 (Fr O) (.slice A7 n8 c9) f.Shape.Pts) (hp15 : Sl kTag w0 (Fr O) (.slice A12 n13 c14) f.Tags) (Q : List Feat → Prop) (h : spec_l3Put.E s f Q) :
    Ret Try.prog 150 [.slice A1 n2 c3, .agg #[vs f.Id, vi f.Shape.Kind, .slice A7 n8 c9, .slice A12 n13 c14]] w0 (fun v w' => ∃ (r0 : List Feat) (A0 : Option Addr) (n0 c0 : Nat), v = .slice A0 n0 c0 ∧ Q r0 ∧ Gr w0 w' none ∧ Ok w' ([blk (.slice A0 n0 c0)] ++ O) ∧ (∀ b, some b ∈ [blk (.slice A0 n0 c0)] → w0.heap.size ≤ b) ∧ Ow kFeat 71 w' ([blk (.slice A0 n0 c0)] ++ O) (.slice A0 n0 c0) r0) := by
  have H : (∃ (I74 : (List Feat) → Bool → Int → Prop) (mu75 : (List Feat) → Bool → Int → Nat), I74 ([] : List Feat) false 0 ∧ ∀ (xs2 : List Feat) (done2 : Bool) (i2 : Int), I74 xs2 done2 i2 → (if decide (i2 < (s.length : Int)) then (if !done2 then ((0 : Int) ≤ i2 ∧ i2 < (s.length : Int)) ∧ (if !(Op.bytesLess ((nth s i2).Id) f.Id) then (xs2.length + ([f] : List Feat).length ≤ 268435456) ∧ ((0 : Int) ≤ i2 ∧ i2 < (s.length : Int)) ∧ (if ((nth s i2).Id) != f.Id then ((0 : Int) ≤ i2 ∧ i2 < (s.length : Int)) ∧ ((xs2 ++ ([f] : List Feat)).length + ([(nth s i2)] : List Feat).length ≤ 268435456) ∧ (-9223372036854775808 ≤ i2) ∧ I74 ((xs2 ++ ([f] : List Feat)) ++ ([(nth s i2)] : List Feat)) true (i2 + 1) ∧ mu75 ((xs2 ++ ([f] : List Feat)) ++ ([(nth s i2)] : List Feat)) true (i2 + 1) < mu75 xs2 done2 i2 else (-9223372036854775808 ≤ i2) ∧ I74 (xs2 ++ ([f] : List Feat)) true (i2 + 1) ∧ mu75 (xs2 ++ ([f] : List Feat)) true (i2 + 1) < mu75 xs2 done2 i2) else ((0 : Int) ≤ i2 ∧ i2 < (s.length : Int)) ∧ (if ((nth s i2).Id) != f.Id then ((0 : Int) ≤ i2 ∧ i2 < (s.length : Int)) ∧ (xs2.length + ([(nth s i2)] : List Feat).length ≤ 268435456) ∧ (-9223372036854775808 ≤ i2) ∧ I74 (xs2 ++ ([(nth s i2)] : List Feat)) done2 (i2 + 1) ∧ mu75 (xs2 ++ ([(nth s i2)] : List Feat)) done2 (i2 + 1) < mu75 xs2 done2 i2 else (-9223372036854775808 ≤ i2) ∧ I74 xs2 done2 (i2 + 1) ∧ mu75 xs2 done2 (i2 + 1) < mu75 xs2 done2 i2)) else ((0 : Int) ≤ i2 ∧ i2 < (s.length : Int)) ∧ (if ((nth s i2).Id) != f.Id then ((0 : Int) ≤ i2 ∧ i2 < (s.length : Int)) ∧ (xs2.length + ([(nth s i2)] : List Feat).length ≤ 268435456) ∧ (-9223372036854775808 ≤ i2) ∧ I74 (xs2 ++ ([(nth s i2)] : List Feat)) done2 (i2 + 1) ∧ mu75 (xs2 ++ ([(nth s i2)] : List Feat)) done2 (i2 + 1) < mu75 xs2 done2 i2 else (-9223372036854775808 ≤ i2) ∧ I74 xs2 done2 (i2 + 1) ∧ mu75 xs2 done2 (i2 + 1) < mu75 xs2 done2 i2)) else (if !done2 then (xs2.length + ([f] : List Feat).length ≤ 268435456) ∧ Q (xs2 ++ ([f] : List Feat)) else Q xs2))) := h
  clear h
  have hc0 := Ct.init hO
  refine Ret_enter Try.func150 rfl 53 rfl [.tmp 4] rfl rfl ?_
  refine W_seq ?_
  refine W_reg ?_
  refine L_box [vs f.Id, vi f.Shape.Kind, .slice A7 n8 c9, .slice A12 n13 c14] rfl fun w17 b18 hl20 hu21 g19 hx22 => ?_
  have h24 := Fb.mk hc0.ok hl20 hx22
  have hc25 := hc0.k0 g19
  refine L_pu (P_assign (.slice none 0 0) rfl) ?_
  refine L_nil ?_
  refine W_seq ?_
  refine W_reg ?_
  refine L_lit (kd := kFeat) ei52 hc25 ([] : List Feat) (cells := []) rfl (fun _ => by kernel_rfl) fun w26 A27 n28 c29 g30 hr31 hc32 h33 => ?_
  refine L_pu (P_assign (.slice A27 n28 c29) rfl) ?_
  refine L_nil ?_
  refine W_seq ?_
  refine W_reg ?_
  refine L_pu (P_assign (vb false) rfl) ?_
  refine L_nil ?_
  refine W_seq ?_
  refine W_seq ?_
  refine W_reg ?_
  refine L_pu (P_assign (vi 0) rfl) ?_
  refine L_nil ?_
  refine W_block ?_
  obtain ⟨I74, mu75, hI76, H⟩ := H
  have h78 := (h24.st (.own _ _ g30 hr31))
  refine W_loop (α := (List Feat) × (Option Addr) × Nat × Nat × Bool × Int) (fun (sv__ : (List Feat) × (Option Addr) × Nat × Nat × Bool × Int) t w60 => match sv__ with | (xs2, A62, n63, c64, done2, i2) => I74 xs2 done2 i2 ∧ Has t [(0, .slice A1 n2 c3), (3, .pointer (some ⟨b18, 0, none⟩)), (5, .slice A62 n63 c64), (6, vb done2), (7, vi i2)] ∧ Ct [] w0 w60 [blk (.slice A62 n63 c64)] O ∧ Sl kFeat w60 (Fr ([blk (.slice A62 n63 c64)] ++ O)) (.slice A1 n2 c3) s ∧ Sl kPt w60 (Fr ([blk (.slice A62 n63 c64)] ++ O)) (.slice A7 n8 c9) f.Shape.Pts ∧ Sl kTag w60 (Fr ([blk (.slice A62 n63 c64)] ++ O)) (.slice A12 n13 c14) f.Tags ∧ Ow kFeat 71 w60 ([blk (.slice A62 n63 c64)] ++ O) (.slice A62 n63 c64) xs2 ∧ Fb w60 ([blk (.slice A62 n63 c64)] ++ O) b18 [vs f.Id, vi f.Shape.Kind, .slice A7 n8 c9, .slice A12 n13 c14]) (fun (sv__ : (List Feat) × (Option Addr) × Nat × Nat × Bool × Int) => match sv__ with | (xs2, _, _, _, done2, i2) => mu75 xs2 done2 i2) (([] : List Feat), A27, n28, c29, false, 0) ⟨hI76, ⟨rfl, rfl, rfl, rfl, rfl, trivial⟩, hc32, (hp4.st hc32.st), (hp10.st hc32.st), (hp15.st hc32.st), h33, h78⟩ ?_
  rintro ⟨xs2, A62, n63, c64, done2, i2⟩ _ w60 ⟨hI76, hh79, hc68, h69, h70, h71, h72, h73⟩
  obtain ⟨u80, rfl⟩ := Has.ins hh79
  have H := H xs2 done2 i2 hI76
  refine W_seq ?_
  refine W_seq ?_
  refine W_reg ?_
  refine L_pu (P_move (vi i2) rfl) ?_
  refine L_pu (P_move (.slice A1 n2 c3) rfl) ?_
  have hl81 := h69.le
  refine L_pu (P_len Try.underlying52 A1 n2 c3 h69.len rfl) ?_
  refine L_pu (P_cmp i2 (s.length : Int) (decide (i2 < (s.length : Int))) rfl rfl rfl) ?_
  refine L_nil ?_
  refine W_cond (decide (i2 < (s.length : Int))) rfl (fun hq82 => ?_) (fun hq82 => ?_)
  · have H := ite_t H hq82
    refine W_skip ?_
    refine W_seq ?_
    refine W_block ?_
    refine W_seq ?_
    refine W_seq ?_
    refine W_draw (fun x => Gr w60 x none) (by kernel_rfl) (by kernel_rfl) (Gr.drew _) ?_
    refine Q_pu (P_move (vb done2) rfl) ?_
    refine Q_pu (P_not done2 rfl) ?_
    refine Q_pu (P_move (vb (!done2)) rfl) ?_
    rcases bool_or (!done2) with hq83 | hq83
    · have H := ite_t H hq83
      refine Q_run (dj := 17) rfl rfl (by exact congrArg Value.bool hq83) ?_
      refine Q_pu (P_move (.slice A1 n2 c3) rfl) ?_
      refine Q_run (dj := 17) rfl rfl (by exact congrArg Value.bool hq83) ?_
      refine Q_pu (P_move (vi i2) rfl) ?_
      refine Q_run (dj := 17) rfl rfl (by exact congrArg Value.bool hq83) ?_
      obtain ⟨hb84, H⟩ := H
      obtain ⟨ad85, cs86, hA87, hS90, hR88, hcl89⟩ := h69.get default (by decide) i2 hb84
      obtain ⟨A92, n93, c94, A97, n98, c99, rfl, hs91, h95, h100⟩ := kFeat.op hR88
      refine Q_pu (P_ia Try.underlying52 se52 A1 ad85 n2 c3 h69.len i2 rfl hA87 rfl hb84) ?_
      refine Q_run (dj := 17) rfl rfl (by exact congrArg Value.bool hq83) ?_
      refine Q_pu (P_fa fa71_0 (ad85.add (i2.toNat * 4)) ((ad85.add (i2.toNat * 4)).add 0) rfl rfl) ?_
      refine Q_run (dj := 17) rfl rfl (by exact congrArg Value.bool hq83) ?_
      refine Q_pu (P_ld ag9 cQ ((ad85.add (i2.toNat * 4)).add 0) (vs ((nth s i2).Id)) rfl (hcl89 0 _ rfl)) ?_
      refine Q_run (dj := 17) rfl rfl (by exact congrArg Value.bool hq83) ?_
      refine Q_pu (P_fa fa71_0 ⟨b18, 0, none⟩ ⟨b18, 0, none⟩ rfl rfl) ?_
      refine Q_run (dj := 17) rfl rfl (by exact congrArg Value.bool hq83) ?_
      refine Q_pu (P_ld ag9 cQ ⟨b18, 0, none⟩ (vs f.Id) rfl (h73.cell rfl)) ?_
      refine Q_run (dj := 17) rfl rfl (by exact congrArg Value.bool hq83) ?_
      refine Q_pu (P_scmp ((nth s i2).Id) f.Id (!(Op.bytesLess ((nth s i2).Id) f.Id)) rfl rfl rfl) ?_
      refine Q_pu (P_pick true (vb (!(Op.bytesLess ((nth s i2).Id) f.Id))) (by exact congrArg Value.bool hq83) rfl) ?_
      refine Q_nil fun w102 g103 => ?_
      have hc105 := hc68.k0 g103
      refine W_cond (!(Op.bytesLess ((nth s i2).Id) f.Id)) rfl (fun hq106 => ?_) (fun hq106 => ?_)
      · have H := ite_t H hq106
        refine W_seq ?_
        refine W_reg ?_
        refine L_pu (P_move (.slice A62 n63 c64) rfl) ?_
        have h107 := (h73.st (.new _ g103))
        refine L_pu (P_lda ag71 sz71 cL ⟨b18, 0, none⟩ [vs f.Id, vi f.Shape.Kind, .slice A7 n8 c9, .slice A12 n13 c14] rfl rfl (h107.cells (off := 0) rfl)) ?_
        refine L_lit (kd := kFeat) ei52 hc105 ([f] : List Feat) (cells := [vs f.Id, vi f.Shape.Kind, .slice A7 n8 c9, .slice A12 n13 c14]) ⟨[vs f.Id, vi f.Shape.Kind, .slice A7 n8 c9, .slice A12 n13 c14], _, rfl, (kFeat.mk _ _ f hs6 (h70.st (.new _ g103)) (h71.st (.new _ g103))), rfl⟩ (fun _ => by kernel_rfl) fun w108 A109 n110 c111 g112 hr113 hc114 h115 => ?_
        obtain ⟨hb117, H⟩ := H
        have h118 := ((h72.sn g103).so _ g112 hr113)
        refine L_app ei52 hc114 (.slice A62 n63 c64) xs2 ([f] : List Feat) rfl h118 (.slice A109 n110 c111) rfl h115.sx 1 rfl hb117 fun w119 A120 n121 c122 g123 s124 hc125 h126 => ?_
        refine L_pu (P_assign (.slice A120 n121 c122) rfl) ?_
        refine L_nil ?_
        refine W_reg ?_
        refine L_pu (P_assign (vb true) rfl) ?_
        refine L_nil ?_
        refine W_seq ?_
        refine W_draw (fun x => Gr w119 x none) (by kernel_rfl) (by kernel_rfl) (Gr.drew _) ?_
        refine Q_pu (P_move (.slice A1 n2 c3) rfl) ?_
        refine Q_pu (P_move (vi i2) rfl) ?_
        obtain ⟨hb128, H⟩ := H
        have h135 := (((h69.st (.new _ g103)).st (.own _ _ g112 hr113)).st s124)
        obtain ⟨ad129, cs130, hA131, hS134, hR132, hcl133⟩ := h135.get default (by decide) i2 hb128
        obtain ⟨A137, n138, c139, A142, n143, c144, rfl, hs136, h140, h145⟩ := kFeat.op hR132
        refine Q_pu (P_ia Try.underlying52 se52 A1 ad129 n2 c3 h135.len i2 rfl hA131 rfl hb128) ?_
        refine Q_pu (P_fa fa71_0 (ad129.add (i2.toNat * 4)) ((ad129.add (i2.toNat * 4)).add 0) rfl rfl) ?_
        refine Q_pu (P_ld ag9 cQ ((ad129.add (i2.toNat * 4)).add 0) (vs ((nth s i2).Id)) rfl (hcl133 0 _ rfl)) ?_
        refine Q_pu (P_fa fa71_0 ⟨b18, 0, none⟩ ⟨b18, 0, none⟩ rfl rfl) ?_
        have h147 := ((h107.st (.own _ _ g112 hr113)).st s124)
        refine Q_pu (P_ld ag9 cQ ⟨b18, 0, none⟩ (vs f.Id) rfl (h147.cell rfl)) ?_
        refine Q_pu (P_scmp ((nth s i2).Id) f.Id (((nth s i2).Id) != f.Id) rfl rfl rfl) ?_
        refine Q_nil fun w148 g149 => ?_
        have hc151 := hc125.k0 g149
        refine W_cond (((nth s i2).Id) != f.Id) rfl (fun hq152 => ?_) (fun hq152 => ?_)
        · have H := ite_t H hq152
          refine W_reg ?_
          refine L_pu (P_move (.slice A120 n121 c122) rfl) ?_
          refine L_pu (P_move (.slice A1 n2 c3) rfl) ?_
          refine L_pu (P_move (vi i2) rfl) ?_
          obtain ⟨hb153, H⟩ := H
          obtain ⟨ad154, cs155, hA156, hS159, hR157, hcl158⟩ := (h135.st (.new _ g149)).get default (by decide) i2 hb153
          obtain ⟨A161, n162, c163, A166, n167, c168, rfl, hs160, h164, h169⟩ := kFeat.op hR157
          refine L_pu (P_ia Try.underlying52 se52 A1 ad154 n2 c3 (h135.st (.new _ g149)).len i2 rfl hA156 rfl hb153) ?_
          refine L_pu (P_lda ag71 sz71 cL (ad154.add (i2.toNat * 4)) [vs ((nth s i2).Id), vi ((nth s i2).Shape.Kind), .slice A161 n162 c163, .slice A166 n167 c168] rfl rfl hcl158) ?_
          refine L_lit (kd := kFeat) ei52 hc151 ([(nth s i2)] : List Feat) (cells := [vs ((nth s i2).Id), vi ((nth s i2).Shape.Kind), .slice A161 n162 c163, .slice A166 n167 c168]) ⟨[vs ((nth s i2).Id), vi ((nth s i2).Shape.Kind), .slice A161 n162 c163, .slice A166 n167 c168], _, rfl, (kFeat.mk _ _ (nth s i2) hs160 h164 h169), rfl⟩ (fun _ => by kernel_rfl) fun w171 A172 n173 c174 g175 hr176 hc177 h178 => ?_
          obtain ⟨hb180, H⟩ := H
          have h181 := ((h126.sn g149).so _ g175 hr176)
          refine L_app ei52 hc177 (.slice A120 n121 c122) (xs2 ++ ([f] : List Feat)) ([(nth s i2)] : List Feat) rfl h181 (.slice A172 n173 c174) rfl h178.sx 2 rfl hb180 fun w182 A183 n184 c185 g186 s187 hc188 h189 => ?_
          refine L_pu (P_assign (.slice A183 n184 c185) rfl) ?_
          refine L_nil ?_
          refine W_reg ?_
          refine L_pu (P_move (vi i2) rfl) ?_
          obtain ⟨hb192, H⟩ := H
          have hi191 : I64 (i2 + 1) := i64_succ (of_decide_eq_true hq82) hl81 hb192
          refine L_pu (P_add i2 1 rfl rfl hi191) ?_
          refine L_pu (P_assign (vi (i2 + 1)) rfl) ?_
          refine L_nil ?_
          have hc193 := hc188.drop 0 rfl
          have hc194 := hc193.drop 0 rfl
          obtain ⟨hI195, hm196⟩ := H
          have h197 := (((((h135.st (.new _ g149)).st (.own _ _ g175 hr176)).st s187).st (.dr _ (L := [blk (.slice A172 n173 c174), blk (.slice A109 n110 c111), blk (.slice A183 n184 c185)]) (O := O) (j := 0) rfl)).st (.dr _ (L := [blk (.slice A109 n110 c111), blk (.slice A183 n184 c185)]) (O := O) (j := 0) rfl))
          have h198 := ((((((((h70.st (.new _ g103)).st (.own _ _ g112 hr113)).st s124).st (.new _ g149)).st (.own _ _ g175 hr176)).st s187).st (.dr _ (L := [blk (.slice A172 n173 c174), blk (.slice A109 n110 c111), blk (.slice A183 n184 c185)]) (O := O) (j := 0) rfl)).st (.dr _ (L := [blk (.slice A109 n110 c111), blk (.slice A183 n184 c185)]) (O := O) (j := 0) rfl))
          have h199 := ((((((((h71.st (.new _ g103)).st (.own _ _ g112 hr113)).st s124).st (.new _ g149)).st (.own _ _ g175 hr176)).st s187).st (.dr _ (L := [blk (.slice A172 n173 c174), blk (.slice A109 n110 c111), blk (.slice A183 n184 c185)]) (O := O) (j := 0) rfl)).st (.dr _ (L := [blk (.slice A109 n110 c111), blk (.slice A183 n184 c185)]) (O := O) (j := 0) rfl))
          have h200 := (Ow.sd (L := [blk (.slice A109 n110 c111), blk (.slice A183 n184 c185)]) (O := O) (Ow.sd (L := [blk (.slice A172 n173 c174), blk (.slice A109 n110 c111), blk (.slice A183 n184 c185)]) (O := O) h189 (i := 2) rfl (j := 0) rfl (by decide)) (i := 1) rfl (j := 0) rfl (by decide))
          have h201 := (((((h147.st (.new _ g149)).st (.own _ _ g175 hr176)).st s187).st (.dr _ (L := [blk (.slice A172 n173 c174), blk (.slice A109 n110 c111), blk (.slice A183 n184 c185)]) (O := O) (j := 0) rfl)).st (.dr _ (L := [blk (.slice A109 n110 c111), blk (.slice A183 n184 c185)]) (O := O) (j := 0) rfl))
          exact ⟨(((xs2 ++ ([f] : List Feat)) ++ ([(nth s i2)] : List Feat)), A183, n184, c185, true, i2 + 1), hm196, hI195, ⟨rfl, rfl, rfl, rfl, rfl, trivial⟩, hc194, h197, h198, h199, h200, h201⟩
        · have H := ite_f H hq152
          refine W_skip ?_
          refine W_reg ?_
          refine L_pu (P_move (vi i2) rfl) ?_
          obtain ⟨hb203, H⟩ := H
          have hi202 : I64 (i2 + 1) := i64_succ (of_decide_eq_true hq82) hl81 hb203
          refine L_pu (P_add i2 1 rfl rfl hi202) ?_
          refine L_pu (P_assign (vi (i2 + 1)) rfl) ?_
          refine L_nil ?_
          have hc204 := hc151.drop 0 rfl
          obtain ⟨hI205, hm206⟩ := H
          have h207 := ((h135.st (.new _ g149)).st (.dr _ (L := [blk (.slice A109 n110 c111), blk (.slice A120 n121 c122)]) (O := O) (j := 0) rfl))
          have h208 := (((((h70.st (.new _ g103)).st (.own _ _ g112 hr113)).st s124).st (.new _ g149)).st (.dr _ (L := [blk (.slice A109 n110 c111), blk (.slice A120 n121 c122)]) (O := O) (j := 0) rfl))
          have h209 := (((((h71.st (.new _ g103)).st (.own _ _ g112 hr113)).st s124).st (.new _ g149)).st (.dr _ (L := [blk (.slice A109 n110 c111), blk (.slice A120 n121 c122)]) (O := O) (j := 0) rfl))
          have h210 := (Ow.sd (L := [blk (.slice A109 n110 c111), blk (.slice A120 n121 c122)]) (O := O) (h126.sn g149) (i := 1) rfl (j := 0) rfl (by decide))
          have h211 := ((h147.st (.new _ g149)).st (.dr _ (L := [blk (.slice A109 n110 c111), blk (.slice A120 n121 c122)]) (O := O) (j := 0) rfl))
          exact ⟨((xs2 ++ ([f] : List Feat)), A120, n121, c122, true, i2 + 1), hm206, hI205, ⟨rfl, rfl, rfl, rfl, rfl, trivial⟩, hc204, h207, h208, h209, h210, h211⟩
      · have H := ite_f H hq106
        refine W_skip ?_
        refine W_seq ?_
        refine W_draw (fun x => Gr w102 x none) (by kernel_rfl) (by kernel_rfl) (Gr.drew _) ?_
        refine Q_pu (P_move (.slice A1 n2 c3) rfl) ?_
        refine Q_pu (P_move (vi i2) rfl) ?_
        obtain ⟨hb212, H⟩ := H
        obtain ⟨ad213, cs214, hA215, hS218, hR216, hcl217⟩ := (h69.st (.new _ g103)).get default (by decide) i2 hb212
        obtain ⟨A220, n221, c222, A225, n226, c227, rfl, hs219, h223, h228⟩ := kFeat.op hR216
        refine Q_pu (P_ia Try.underlying52 se52 A1 ad213 n2 c3 (h69.st (.new _ g103)).len i2 rfl hA215 rfl hb212) ?_
        refine Q_pu (P_fa fa71_0 (ad213.add (i2.toNat * 4)) ((ad213.add (i2.toNat * 4)).add 0) rfl rfl) ?_
        refine Q_pu (P_ld ag9 cQ ((ad213.add (i2.toNat * 4)).add 0) (vs ((nth s i2).Id)) rfl (hcl217 0 _ rfl)) ?_
        refine Q_pu (P_fa fa71_0 ⟨b18, 0, none⟩ ⟨b18, 0, none⟩ rfl rfl) ?_
        have h230 := (h73.st (.new _ g103))
        refine Q_pu (P_ld ag9 cQ ⟨b18, 0, none⟩ (vs f.Id) rfl (h230.cell rfl)) ?_
        refine Q_pu (P_scmp ((nth s i2).Id) f.Id (((nth s i2).Id) != f.Id) rfl rfl rfl) ?_
        refine Q_nil fun w231 g232 => ?_
        have hc234 := hc105.k0 g232
        refine W_cond (((nth s i2).Id) != f.Id) rfl (fun hq235 => ?_) (fun hq235 => ?_)
        · have H := ite_t H hq235
          refine W_reg ?_
          refine L_pu (P_move (.slice A62 n63 c64) rfl) ?_
          refine L_pu (P_move (.slice A1 n2 c3) rfl) ?_
          refine L_pu (P_move (vi i2) rfl) ?_
          obtain ⟨hb236, H⟩ := H
          have h243 := ((h69.st (.new _ g103)).st (.new _ g232))
          obtain ⟨ad237, cs238, hA239, hS242, hR240, hcl241⟩ := h243.get default (by decide) i2 hb236
          obtain ⟨A245, n246, c247, A250, n251, c252, rfl, hs244, h248, h253⟩ := kFeat.op hR240
          refine L_pu (P_ia Try.underlying52 se52 A1 ad237 n2 c3 h243.len i2 rfl hA239 rfl hb236) ?_
          refine L_pu (P_lda ag71 sz71 cL (ad237.add (i2.toNat * 4)) [vs ((nth s i2).Id), vi ((nth s i2).Shape.Kind), .slice A245 n246 c247, .slice A250 n251 c252] rfl rfl hcl241) ?_
          refine L_lit (kd := kFeat) ei52 hc234 ([(nth s i2)] : List Feat) (cells := [vs ((nth s i2).Id), vi ((nth s i2).Shape.Kind), .slice A245 n246 c247, .slice A250 n251 c252]) ⟨[vs ((nth s i2).Id), vi ((nth s i2).Shape.Kind), .slice A245 n246 c247, .slice A250 n251 c252], _, rfl, (kFeat.mk _ _ (nth s i2) hs244 h248 h253), rfl⟩ (fun _ => by kernel_rfl) fun w255 A256 n257 c258 g259 hr260 hc261 h262 => ?_
          obtain ⟨hb264, H⟩ := H
          have h265 := (((h72.sn g103).sn g232).so _ g259 hr260)
          refine L_app ei52 hc261 (.slice A62 n63 c64) xs2 ([(nth s i2)] : List Feat) rfl h265 (.slice A256 n257 c258) rfl h262.sx 1 rfl hb264 fun w266 A267 n268 c269 g270 s271 hc272 h273 => ?_
          refine L_pu (P_assign (.slice A267 n268 c269) rfl) ?_
          refine L_nil ?_
          refine W_reg ?_
          refine L_pu (P_move (vi i2) rfl) ?_
          obtain ⟨hb276, H⟩ := H
          have hi275 : I64 (i2 + 1) := i64_succ (of_decide_eq_true hq82) hl81 hb276
          refine L_pu (P_add i2 1 rfl rfl hi275) ?_
          refine L_pu (P_assign (vi (i2 + 1)) rfl) ?_
          refine L_nil ?_
          have hc277 := hc272.drop 0 rfl
          obtain ⟨hI278, hm279⟩ := H
          have h280 := (((h243.st (.own _ _ g259 hr260)).st s271).st (.dr _ (L := [blk (.slice A256 n257 c258), blk (.slice A267 n268 c269)]) (O := O) (j := 0) rfl))
          have h281 := (((((h70.st (.new _ g103)).st (.new _ g232)).st (.own _ _ g259 hr260)).st s271).st (.dr _ (L := [blk (.slice A256 n257 c258), blk (.slice A267 n268 c269)]) (O := O) (j := 0) rfl))
          have h282 := (((((h71.st (.new _ g103)).st (.new _ g232)).st (.own _ _ g259 hr260)).st s271).st (.dr _ (L := [blk (.slice A256 n257 c258), blk (.slice A267 n268 c269)]) (O := O) (j := 0) rfl))
          have h283 := (Ow.sd (L := [blk (.slice A256 n257 c258), blk (.slice A267 n268 c269)]) (O := O) h273 (i := 1) rfl (j := 0) rfl (by decide))
          have h284 := ((((h230.st (.new _ g232)).st (.own _ _ g259 hr260)).st s271).st (.dr _ (L := [blk (.slice A256 n257 c258), blk (.slice A267 n268 c269)]) (O := O) (j := 0) rfl))
          exact ⟨((xs2 ++ ([(nth s i2)] : List Feat)), A267, n268, c269, done2, i2 + 1), hm279, hI278, ⟨rfl, rfl, rfl, rfl, rfl, trivial⟩, hc277, h280, h281, h282, h283, h284⟩
        · have H := ite_f H hq235
          refine W_skip ?_
          refine W_reg ?_
          refine L_pu (P_move (vi i2) rfl) ?_
          obtain ⟨hb286, H⟩ := H
          have hi285 : I64 (i2 + 1) := i64_succ (of_decide_eq_true hq82) hl81 hb286
          refine L_pu (P_add i2 1 rfl rfl hi285) ?_
          refine L_pu (P_assign (vi (i2 + 1)) rfl) ?_
          refine L_nil ?_
          obtain ⟨hI287, hm288⟩ := H
          have h289 := ((h69.st (.new _ g103)).st (.new _ g232))
          have h290 := ((h70.st (.new _ g103)).st (.new _ g232))
          have h291 := ((h71.st (.new _ g103)).st (.new _ g232))
          have h292 := ((h72.sn g103).sn g232)
          have h293 := (h230.st (.new _ g232))
          exact ⟨(xs2, A62, n63, c64, done2, i2 + 1), hm288, hI287, ⟨rfl, rfl, rfl, rfl, rfl, trivial⟩, hc234, h289, h290, h291, h292, h293⟩
    · have H := ite_f H hq83
      refine Q_pass (dj := 17) rfl rfl (.inl (by exact congrArg Value.bool hq83)) ?_
      refine Q_pass (dj := 17) rfl rfl (.inl (by exact congrArg Value.bool hq83)) ?_
      refine Q_pass (dj := 17) rfl rfl (.inl (by exact congrArg Value.bool hq83)) ?_
      refine Q_pass (dj := 17) rfl rfl (.inl (by exact congrArg Value.bool hq83)) ?_
      refine Q_pass (dj := 17) rfl rfl (.inl (by exact congrArg Value.bool hq83)) ?_
      refine Q_pass (dj := 17) rfl rfl (.inl (by exact congrArg Value.bool hq83)) ?_
      refine Q_pass (dj := 17) rfl rfl (.inl (by exact congrArg Value.bool hq83)) ?_
      refine Q_pass (dj := 17) rfl rfl (.inl (by exact congrArg Value.bool hq83)) ?_
      refine Q_pu (P_pick false (vb false) (by exact congrArg Value.bool hq83) rfl) ?_
      refine Q_nil fun w294 g295 => ?_
      have hc297 := hc68.k0 g295
      refine W_cf (b := false) rfl rfl ?_
      refine W_skip ?_
      refine W_seq ?_
      refine W_draw (fun x => Gr w294 x none) (by kernel_rfl) (by kernel_rfl) (Gr.drew _) ?_
      refine Q_pu (P_move (.slice A1 n2 c3) rfl) ?_
      refine Q_pu (P_move (vi i2) rfl) ?_
      obtain ⟨hb298, H⟩ := H
      obtain ⟨ad299, cs300, hA301, hS304, hR302, hcl303⟩ := (h69.st (.new _ g295)).get default (by decide) i2 hb298
      obtain ⟨A306, n307, c308, A311, n312, c313, rfl, hs305, h309, h314⟩ := kFeat.op hR302
      refine Q_pu (P_ia Try.underlying52 se52 A1 ad299 n2 c3 (h69.st (.new _ g295)).len i2 rfl hA301 rfl hb298) ?_
      refine Q_pu (P_fa fa71_0 (ad299.add (i2.toNat * 4)) ((ad299.add (i2.toNat * 4)).add 0) rfl rfl) ?_
      refine Q_pu (P_ld ag9 cQ ((ad299.add (i2.toNat * 4)).add 0) (vs ((nth s i2).Id)) rfl (hcl303 0 _ rfl)) ?_
      refine Q_pu (P_fa fa71_0 ⟨b18, 0, none⟩ ⟨b18, 0, none⟩ rfl rfl) ?_
      have h316 := (h73.st (.new _ g295))
      refine Q_pu (P_ld ag9 cQ ⟨b18, 0, none⟩ (vs f.Id) rfl (h316.cell rfl)) ?_
      refine Q_pu (P_scmp ((nth s i2).Id) f.Id (((nth s i2).Id) != f.Id) rfl rfl rfl) ?_
      refine Q_nil fun w317 g318 => ?_
      have hc320 := hc297.k0 g318
      refine W_cond (((nth s i2).Id) != f.Id) rfl (fun hq321 => ?_) (fun hq321 => ?_)
      · have H := ite_t H hq321
        refine W_reg ?_
        refine L_pu (P_move (.slice A62 n63 c64) rfl) ?_
        refine L_pu (P_move (.slice A1 n2 c3) rfl) ?_
        refine L_pu (P_move (vi i2) rfl) ?_
        obtain ⟨hb322, H⟩ := H
        have h329 := ((h69.st (.new _ g295)).st (.new _ g318))
        obtain ⟨ad323, cs324, hA325, hS328, hR326, hcl327⟩ := h329.get default (by decide) i2 hb322
        obtain ⟨A331, n332, c333, A336, n337, c338, rfl, hs330, h334, h339⟩ := kFeat.op hR326
        refine L_pu (P_ia Try.underlying52 se52 A1 ad323 n2 c3 h329.len i2 rfl hA325 rfl hb322) ?_
        refine L_pu (P_lda ag71 sz71 cL (ad323.add (i2.toNat * 4)) [vs ((nth s i2).Id), vi ((nth s i2).Shape.Kind), .slice A331 n332 c333, .slice A336 n337 c338] rfl rfl hcl327) ?_
        refine L_lit (kd := kFeat) ei52 hc320 ([(nth s i2)] : List Feat) (cells := [vs ((nth s i2).Id), vi ((nth s i2).Shape.Kind), .slice A331 n332 c333, .slice A336 n337 c338]) ⟨[vs ((nth s i2).Id), vi ((nth s i2).Shape.Kind), .slice A331 n332 c333, .slice A336 n337 c338], _, rfl, (kFeat.mk _ _ (nth s i2) hs330 h334 h339), rfl⟩ (fun _ => by kernel_rfl) fun w341 A342 n343 c344 g345 hr346 hc347 h348 => ?_
        obtain ⟨hb350, H⟩ := H
        have h351 := (((h72.sn g295).sn g318).so _ g345 hr346)
        refine L_app ei52 hc347 (.slice A62 n63 c64) xs2 ([(nth s i2)] : List Feat) rfl h351 (.slice A342 n343 c344) rfl h348.sx 1 rfl hb350 fun w352 A353 n354 c355 g356 s357 hc358 h359 => ?_
        refine L_pu (P_assign (.slice A353 n354 c355) rfl) ?_
        refine L_nil ?_
        refine W_reg ?_
        refine L_pu (P_move (vi i2) rfl) ?_
        obtain ⟨hb362, H⟩ := H
        have hi361 : I64 (i2 + 1) := i64_succ (of_decide_eq_true hq82) hl81 hb362
        refine L_pu (P_add i2 1 rfl rfl hi361) ?_
        refine L_pu (P_assign (vi (i2 + 1)) rfl) ?_
        refine L_nil ?_
        have hc363 := hc358.drop 0 rfl
        obtain ⟨hI364, hm365⟩ := H
        have h366 := (((h329.st (.own _ _ g345 hr346)).st s357).st (.dr _ (L := [blk (.slice A342 n343 c344), blk (.slice A353 n354 c355)]) (O := O) (j := 0) rfl))
        have h367 := (((((h70.st (.new _ g295)).st (.new _ g318)).st (.own _ _ g345 hr346)).st s357).st (.dr _ (L := [blk (.slice A342 n343 c344), blk (.slice A353 n354 c355)]) (O := O) (j := 0) rfl))
        have h368 := (((((h71.st (.new _ g295)).st (.new _ g318)).st (.own _ _ g345 hr346)).st s357).st (.dr _ (L := [blk (.slice A342 n343 c344), blk (.slice A353 n354 c355)]) (O := O) (j := 0) rfl))
        have h369 := (Ow.sd (L := [blk (.slice A342 n343 c344), blk (.slice A353 n354 c355)]) (O := O) h359 (i := 1) rfl (j := 0) rfl (by decide))
        have h370 := ((((h316.st (.new _ g318)).st (.own _ _ g345 hr346)).st s357).st (.dr _ (L := [blk (.slice A342 n343 c344), blk (.slice A353 n354 c355)]) (O := O) (j := 0) rfl))
        exact ⟨((xs2 ++ ([(nth s i2)] : List Feat)), A353, n354, c355, done2, i2 + 1), hm365, hI364, ⟨rfl, rfl, rfl, rfl, rfl, trivial⟩, hc363, h366, h367, h368, h369, h370⟩
      · have H := ite_f H hq321
        refine W_skip ?_
        refine W_reg ?_
        refine L_pu (P_move (vi i2) rfl) ?_
        obtain ⟨hb372, H⟩ := H
        have hi371 : I64 (i2 + 1) := i64_succ (of_decide_eq_true hq82) hl81 hb372
        refine L_pu (P_add i2 1 rfl rfl hi371) ?_
        refine L_pu (P_assign (vi (i2 + 1)) rfl) ?_
        refine L_nil ?_
        obtain ⟨hI373, hm374⟩ := H
        have h375 := ((h69.st (.new _ g295)).st (.new _ g318))
        have h376 := ((h70.st (.new _ g295)).st (.new _ g318))
        have h377 := ((h71.st (.new _ g295)).st (.new _ g318))
        have h378 := ((h72.sn g295).sn g318)
        have h379 := (h316.st (.new _ g318))
        exact ⟨(xs2, A62, n63, c64, done2, i2 + 1), hm374, hI373, ⟨rfl, rfl, rfl, rfl, rfl, trivial⟩, hc320, h375, h376, h377, h378, h379⟩
  · have H := ite_f H hq82
    refine W_exit (xin_hit ?_)
    refine W_seq ?_
    refine W_seq ?_
    refine W_reg ?_
    refine L_pu (P_move (vb done2) rfl) ?_
    refine L_pu (P_not done2 rfl) ?_
    refine L_nil ?_
    refine W_cond (!done2) rfl (fun hq380 => ?_) (fun hq380 => ?_)
    · have H := ite_t H hq380
      refine W_reg ?_
      refine L_pu (P_move (.slice A62 n63 c64) rfl) ?_
      refine L_pu (P_lda ag71 sz71 cL ⟨b18, 0, none⟩ [vs f.Id, vi f.Shape.Kind, .slice A7 n8 c9, .slice A12 n13 c14] rfl rfl (h73.cells (off := 0) rfl)) ?_
      refine L_lit (kd := kFeat) ei52 hc68 ([f] : List Feat) (cells := [vs f.Id, vi f.Shape.Kind, .slice A7 n8 c9, .slice A12 n13 c14]) ⟨[vs f.Id, vi f.Shape.Kind, .slice A7 n8 c9, .slice A12 n13 c14], _, rfl, (kFeat.mk _ _ f hs6 h70 h71), rfl⟩ (fun _ => by kernel_rfl) fun w381 A382 n383 c384 g385 hr386 hc387 h388 => ?_
      obtain ⟨hb390, H⟩ := H
      have h391 := (h72.so _ g385 hr386)
      refine L_app ei52 hc387 (.slice A62 n63 c64) xs2 ([f] : List Feat) rfl h391 (.slice A382 n383 c384) rfl h388.sx 1 rfl hb390 fun w392 A393 n394 c395 g396 s397 hc398 h399 => ?_
      refine L_pu (P_assign (.slice A393 n394 c395) rfl) ?_
      refine L_nil ?_
      refine W_seq ?_
      refine W_reg ?_
      refine L_pu (P_move (.slice A393 n394 c395) rfl) ?_
      refine L_pu (P_assign (.slice A393 n394 c395) rfl) ?_
      refine L_nil ?_
      refine W_ret ?_
      have hc401 := hc398.drop 0 rfl
      have h402 := (Ow.sd (L := [blk (.slice A382 n383 c384), blk (.slice A393 n394 c395)]) (O := O) h399 (i := 1) rfl (j := 0) rfl (by decide))
      exact ⟨[.slice A393 n394 c395], ⟨_, rfl, rfl⟩, (xs2 ++ ([f] : List Feat)), A393, n394, c395, rfl, H, hc401.gr.g0, hc401.ok, hc401.ge, h402⟩
    · have H := ite_f H hq380
      refine W_skip ?_
      refine W_seq ?_
      refine W_reg ?_
      refine L_pu (P_move (.slice A62 n63 c64) rfl) ?_
      refine L_pu (P_assign (.slice A62 n63 c64) rfl) ?_
      refine L_nil ?_
      refine W_ret ?_
      exact ⟨[.slice A62 n63 c64], ⟨_, rfl, rfl⟩, xs2, A62, n63, c64, rfl, H, hc68.gr.g0, hc68.ok, hc68.ge, h72⟩
end Go.Proofs.Ytndjggncgpjolaa

namespace Go.Proofs.Ytndjggncgpjolaa
set_option linter.unusedVariables false
set_option linter.unusedSimpArgs false
set_option linter.unusedSectionVars false
/-- the first place that meets a test, or -1 -/
def findN (n : Nat) (c : Nat → Bool) : Int := match (List.range n).find? c with | some k => (k : Int) | none => -1
theorem findN_hit {n k : Nat} {c : Nat → Bool} (hk : k < n) (h : c k = true) (hp : ∀ j, j < k → c j = false) : findN n c = (k : Int) := by
  unfold findN
  have : (List.range n).find? c = some k := by
    rw [List.find?_range_eq_some]
    exact ⟨h, List.mem_range.2 hk, fun j hj => by rw [hp j hj]; rfl⟩
  rw [this]
theorem findN_none {n : Nat} {c : Nat → Bool} (h : ∀ j, j < n → c j = false) : findN n c = -1 := by
  unfold findN
  have : (List.range n).find? c = none := by
    rw [List.find?_eq_none]; intro j hj; rw [h j (List.mem_range.1 hj)]; exact Bool.false_ne_true
  rw [this]
theorem findN_le (n : Nat) (c : Nat → Bool) : -1 ≤ findN n c ∧ findN n c < n := by
  unfold findN
  cases h : (List.range n).find? c with
  | none => exact ⟨Int.le_refl _, by dsimp only; omega⟩
  | some k => have := List.mem_range.1 (List.mem_of_find?_eq_some h); exact ⟨by dsimp only; omega, by dsimp only; omega⟩
theorem loop_find (n : Nat) (c : Nat → Bool) {B : (Int → Prop) → (Int → Nat) → Int → Prop} {Q : Int → Prop} (hq : Q (findN n c))
    (hs : ∀ (I : Int → Prop) (mu : Int → Nat) (k : Nat), k < n → (c k = true → Q (k : Int)) → (c k = false → I ((k : Int) + 1) ∧ mu ((k : Int) + 1) < mu (k : Int)) → B I mu (k : Int)) :
    ∃ (I : Int → Prop) (mu : Int → Nat), I 0 ∧ ∀ (i : Int), I i → (if decide (i < (n : Int)) then B I mu i else Q (-1)) := by
  refine loop_all n (fun k => !(c k)) (fun I mu k hk hp hn => hs I mu k hk (fun h => ?_) (fun h => hn (by rw [h]; rfl))) (fun ha => ?_)
  · rw [findN_hit hk h (fun j hj => by have := hp j hj; rwa [Bool.not_eq_true'] at this)] at hq; exact hq
  · rw [findN_none (fun j hj => by have := ha j hj; rwa [Bool.not_eq_true'] at this)] at hq; exact hq
section
variable {α : Type} [Inhabited α] [DecidableEq α]
theorem list_eq_iff (a b : List α) (h : a.length = b.length) : a = b ↔ ∀ k, k < a.length → nth a (k : Int) = nth b (k : Int) := ⟨fun e k _ => by rw [e], ext_nth h⟩
/-- two rows, compared by a function that comes in -/
theorem eqF_shape (a b : List α) (el : α → α → Bool) (ok : α → α → Prop) (hok : ∀ x y, x ∈ a → ok x y) (hel : ∀ x y, x ∈ a → el x y = decide (x = y)) (hb : a.length ≤ 1048576) (Q : Bool → Prop) (hq : Q (decide (a = b))) :
    (if (a.length : Int) != (b.length : Int) then Q false else (∃ (I36 : Int → Prop) (mu37 : Int → Nat), I36 0 ∧ ∀ (v2 : Int), I36 v2 → (if decide (v2 < (a.length : Int)) then ((0 : Int) ≤ v2 ∧ v2 < (a.length : Int)) ∧ ((0 : Int) ≤ v2 ∧ v2 < (b.length : Int)) ∧ (ok (nth a v2) (nth b v2)) ∧ (if !(el (nth a v2) (nth b v2)) then Q false else (I64 (v2 + 1)) ∧ I36 (v2 + 1) ∧ mu37 (v2 + 1) < mu37 v2) else Q true))) := by
  by_cases hl : a.length = b.length
  · rw [if_neg (by simp [hl])]
    refine loop_all a.length (fun k => decide (nth a (k : Int) = nth b (k : Int))) (fun I mu k hk hp hn => ?_) (fun ha => ?_)
    · refine ⟨by omega, by omega, hok _ _ (nth_mem a hk), ?_⟩
      rw [hel _ _ (nth_mem a hk)]
      by_cases h : nth a (k : Int) = nth b (k : Int)
      · rw [decide_eq_true h, if_neg (by decide)]
        obtain ⟨i1, i2⟩ := hn (decide_eq_true h)
        exact ⟨by unfold I64; omega, i1, i2⟩
      · rw [decide_eq_false h, if_pos (by decide)]
        rw [decide_eq_false (by rw [list_eq_iff a b hl]; exact fun g => h (g k hk))] at hq; exact hq
    · rw [decide_eq_true ((list_eq_iff a b hl).2 fun k hk => of_decide_eq_true (ha k hk))] at hq; exact hq
  · rw [if_pos (by rw [bne_iff_ne]; omega)]
    rw [decide_eq_false (fun e => hl (by rw [e]))] at hq; exact hq
theorem eqQ_shape (a b : List α) (el : α → α → (Bool → Prop) → Prop) (hel : ∀ x y, x ∈ a → el x y (fun r => r = decide (x = y))) (Q : Prop) (Q' : Prop) (hl : a.length = b.length) (hn : a ≠ b → Q) (hy : a = b → Q') :
    (∃ (I32 : Int → Prop) (mu33 : Int → Nat), I32 0 ∧ ∀ (i2 : Int), I32 i2 → (if decide (i2 < (a.length : Int)) then ((0 : Int) ≤ i2 ∧ i2 < (a.length : Int)) ∧ ((0 : Int) ≤ i2 ∧ i2 < (b.length : Int)) ∧ (∃ q : Bool, el (nth a i2) (nth b i2) (fun x => x = q) ∧ (if !q then Q else (-9223372036854775808 ≤ i2) ∧ I32 (i2 + 1) ∧ mu33 (i2 + 1) < mu33 i2)) else Q')) := by
  refine loop_all a.length (fun k => decide (nth a (k : Int) = nth b (k : Int))) (fun I mu k hk hp hn' => ?_) (fun ha => ?_)
  · refine ⟨by omega, by omega, _, hel _ _ (nth_mem a hk), ?_⟩
    by_cases h : nth a (k : Int) = nth b (k : Int)
    · rw [decide_eq_true h, if_neg (by decide)]
      obtain ⟨i1, i2⟩ := hn' (decide_eq_true h)
      exact ⟨by omega, i1, i2⟩
    · rw [decide_eq_false h, if_pos (by decide)]
      exact hn (by rw [Ne, list_eq_iff a b hl]; exact fun g => h (g k hk))
  · exact hy ((list_eq_iff a b hl).2 fun k hk => of_decide_eq_true (ha k hk))
end
end Go.Proofs.Ytndjggncgpjolaa

/- Words: rows of texts that the library sorts in place. -/
namespace Go.Proofs.Ytndjggncgpjolaa
open Go.RowKit Go.Shelf Go.Sort Go.Lib
set_option linter.unusedSimpArgs false
set_option linter.unusedVariables false
theorem strs_arr {w : World} {S : Sp} : ∀ {xs : List Str} {cs : List Value}, Arr Kd.str w S xs cs → cs = xs.map vs ∧ ∀ x ∈ xs, Lim x
  | [], _, h => ⟨h, fun x hx => by cases hx⟩
  | x :: xs, _, ⟨c1, c2, e, h1, h2⟩ => by
    obtain ⟨e2, h3⟩ := strs_arr h2
    refine ⟨by rw [e, h1.1, e2]; rfl, fun y hy => ?_⟩
    rcases List.mem_cons.1 hy with rfl | hy
    · exact h1.2
    · exact h3 y hy
theorem arr_strs {w : World} {S : Sp} : ∀ {xs : List Str}, (∀ x ∈ xs, Lim x) → Arr Kd.str w S xs (xs.map vs)
  | [], _ => rfl
  | x :: xs, h => ⟨[vs x], xs.map vs, rfl, ⟨rfl, h x List.mem_cons_self⟩, arr_strs fun y hy => h y (List.mem_cons_of_mem _ hy)⟩
theorem heap_put (w : World) (q g : Nat) (ys : List Str) (os : Array Obj) (b : Nat) (hb : b < w.heap.size) (hne : b ≠ g) : (grow (putRow encStr (Sort.ahead w q) g 0 ys.toArray) os).heap[b]? = w.heap[b]? := by
  have h1 : (w.heap.modify g (onCells (putCells encStr 0 ys.toArray))).size = w.heap.size := Array.size_modify
  simp only [grow, putRow, mapBlock, Sort.ahead]
  rw [Array.getElem?_append_left (by rw [h1]; exact hb), Array.getElem?_modify, if_neg (fun e => hne e.symm)]
theorem Ow.putS {e : TypeId} {w : World} {O : Ob} {g n c : Nat} {xs : List Str} (h : Ow Kd.str e w O (.slice (some ⟨g, 0, none⟩) n c) xs) (ys : List Str) (hl : ys.length = xs.length) (hy : ∀ y ∈ ys, Lim y) (q : Nat) (os : Array Obj) (hx : 0 < xs.length) :
    Gr w (grow (putRow encStr (Sort.ahead w q) g 0 ys.toArray) os) (some g) ∧ Ow Kd.str e (grow (putRow encStr (Sort.ahead w q) g 0 ys.toArray) os) O (.slice (some ⟨g, 0, none⟩) n c) ys := by
  have hgl := h.ltb g rfl
  have h1 : (w.heap.modify g (onCells (putCells encStr 0 ys.toArray))).size = w.heap.size := Array.size_modify
  refine ⟨⟨rfl, rfl, rfl, ?_, fun b hb hn => heap_put w q g ys os b hb fun e => hn (by rw [e])⟩, ?_⟩
  · simp only [grow, putRow, mapBlock, Sort.ahead, Array.size_append, h1]; omega
  obtain ⟨cells, o1, o2, o3⟩ := h
  rcases o1.2 with ⟨_, e'⟩ | ⟨g', cap, cur, ev, h0, hg, hle, hmx, hcur, htake⟩
  · omega
  · cases ev
    have hk : Kd.str.sz = 1 := rfl
    refine ⟨ys.map vs, ⟨by rw [List.length_map, hk, Nat.mul_one], .inr ⟨g, c, putCells encStr 0 ys.toArray cur, by rw [hl], h0, ?_, by rw [hl]; exact hle, hmx, ?_, ?_⟩⟩, arr_strs hy, o3⟩
    · simp only [grow, putRow, mapBlock, Sort.ahead]
      rw [Array.getElem?_append_left (by rw [h1]; exact hgl), Array.getElem?_modify, if_pos rfl, hg]; rfl
    · rw [putCells, Array.size_mapIdx]; exact hcur
    · rw [hk, Nat.mul_one]
      have hc1 : xs.length ≤ cur.size := by rw [hcur, hk, Nat.mul_one]; exact hle
      apply List.ext_getElem?
      intro j
      rw [List.getElem?_take, List.getElem?_map]
      by_cases hj : j < ys.length
      · rw [if_pos hj, putCells, Array.getElem?_toList, Array.getElem?_mapIdx, Array.getElem?_eq_getElem (by omega), List.getElem?_eq_getElem hj]
        simp only [Option.map_some, Nat.zero_le, true_and, Nat.zero_add, List.size_toArray, hj, if_true, Nat.sub_zero]
        simp [hj]
      · rw [if_neg hj, List.getElem?_eq_none (by omega)]; rfl
theorem Ow.holds {e : TypeId} {w : World} {O : Ob} {g n c : Nat} {xs : List Str} (h : Ow Kd.str e w O (.slice (some ⟨g, 0, none⟩) n c) xs) : Holds encStr w g 0 xs.toArray := by
  obtain ⟨cells, o1, o2, o3⟩ := h
  obtain ⟨e2, _⟩ := strs_arr o2
  intro j hj
  simp only [List.size_toArray] at hj
  rcases o1.2 with ⟨_, e'⟩ | ⟨g', cap, cur, ev, h0, hg, hle, hmx, hcur, htake⟩
  · omega
  · cases ev
    have hc := World.ownsRow.cells o1 (g := g) rfl j (vs xs[j]) (by rw [e2]; simp [hj])
    have ha : (⟨g, 0, none⟩ : Addr).add j = ⟨g, 0 + j, none⟩ := by unfold Addr.add; split <;> simp_all
    rw [ha] at hc
    refine ⟨by rw [hc]; simp [hj], ?_⟩
    simp [World.frozen?, hg]
def sortS (xs : List Str) : List Str := xs.mergeSort fun x y => decide (x ≤ y)
theorem Ow.form {e : TypeId} {w : World} {O : Ob} {A : Option Addr} {n c : Nat} {xs : List Str} (h : Ow Kd.str e w O (.slice A n c) xs) (hx : 0 < xs.length) : ∃ g, A = some ⟨g, 0, none⟩ ∧ n = xs.length ∧ xs.length ≤ c ∧ g < w.heap.size := by
  obtain ⟨cells, o1, o2, o3⟩ := h
  rcases o1.2 with ⟨_, e'⟩ | ⟨g', cap, cur, ev, h0, hg, hle, hmx, hcur, htake⟩
  · omega
  · cases ev; exact ⟨g', rfl, rfl, hle, (Array.getElem?_eq_some_iff.1 hg).1⟩
theorem Ow.lims {e : TypeId} {w : World} {O : Ob} {v : Value} {xs : List Str} (h : Ow Kd.str e w O v xs) : ∀ x ∈ xs, Lim x := by
  obtain ⟨cells, o1, o2, o3⟩ := h
  exact (strs_arr o2).2
end Go.Proofs.Ytndjggncgpjolaa

namespace Go.Proofs
open Go.Shelf
def Try.lays128_ren : Go.Shelf.Ren := ⟨fun | 128 => 163 | n => n, fun | 51 => 193 | 3 => 3 | 4 => 4 | 46 => 162 | 5 => 5 | 9 => 9 | n => n, fun | n => n⟩
theorem Try.lays128 : Go.Proofs.Lays.n128 Try.prog Try.lays128_ren := {
  mixed := by kernel_rfl
  f128 := Try.func163.trans (congrArg some (by kernel_rfl))
  t3 := Try.underlying3
  a3 := Try.isAgg3
  z3 := Try.sizeOf3
  v3 := Try.zeroValue3
  t4 := Try.underlying4
  a4 := Try.isAgg4
  z4 := Try.sizeOf4
  v4 := Try.zeroValue4
  t5 := Try.underlying5
  a5 := Try.isAgg5
  z5 := Try.sizeOf5
  v5 := Try.zeroValue5
  t9 := Try.underlying9
  a9 := Try.isAgg9
  z9 := Try.sizeOf9
  v9 := Try.zeroValue9
  t46 := Try.underlying162
  a46 := Try.isAgg162
  z46 := Try.sizeOf162
  v46 := Try.zeroValue162
  t51 := Try.underlying193
  a51 := Try.isAgg193
  z51 := Try.sizeOf193
  v51 := Try.zeroValue193 }
theorem Try.bits_Len32 (x : Int) (w : World) (h0 : 0 ≤ x) (h1 : x ≤ 4294967295) :
    Calls Try.prog 163 #[.int .u32 x] w fun e w' => e = .returned (.int .i64 (Lib.bitLen x.toNat)) ∧ w' = w := Any.bits_Len32 Try.lays128 x w h0 h1
def Try.lays125_ren : Go.Shelf.Ren := ⟨fun | 125 => 128 | 128 => 163 | 129 => 164 | n => n, fun | 46 => 162 | 3 => 3 | 51 => 193 | 53 => 195 | 4 => 4 | 5 => 5 | 9 => 9 | n => n, fun | n => n⟩
theorem Try.lays125 : Go.Proofs.Lays.n125 Try.prog Try.lays125_ren := {
  mixed := by kernel_rfl
  f125 := Try.func128.trans (congrArg some (by kernel_rfl))
  f128 := Try.func163.trans (congrArg some (by kernel_rfl))
  f129 := Try.func164.trans (congrArg some (by kernel_rfl))
  t3 := Try.underlying3
  a3 := Try.isAgg3
  z3 := Try.sizeOf3
  v3 := Try.zeroValue3
  t4 := Try.underlying4
  a4 := Try.isAgg4
  z4 := Try.sizeOf4
  v4 := Try.zeroValue4
  t5 := Try.underlying5
  a5 := Try.isAgg5
  z5 := Try.sizeOf5
  v5 := Try.zeroValue5
  t9 := Try.underlying9
  a9 := Try.isAgg9
  z9 := Try.sizeOf9
  v9 := Try.zeroValue9
  t46 := Try.underlying162
  a46 := Try.isAgg162
  z46 := Try.sizeOf162
  v46 := Try.zeroValue162
  t51 := Try.underlying193
  a51 := Try.isAgg193
  z51 := Try.sizeOf193
  v51 := Try.zeroValue193
  t53 := Try.underlying195
  a53 := Try.isAgg195
  z53 := Try.sizeOf195
  v53 := Try.zeroValue195 }
theorem Try.bits_Len (x : Int) (w : World) (h0 : 0 ≤ x) (h1 : x ≤ 18446744073709551615) :
    Calls Try.prog 128 #[.int .u64 x] w fun e w' => e = .returned (.int .i64 (Lib.bitLen x.toNat)) ∧ w' = w := Any.bits_Len Try.lays125 x w h0 h1
def Try.lays129_ren : Go.Shelf.Ren := ⟨fun | 129 => 164 | n => n, fun | 53 => 195 | 3 => 3 | 4 => 4 | 46 => 162 | 5 => 5 | 9 => 9 | n => n, fun | n => n⟩
theorem Try.lays129 : Go.Proofs.Lays.n129 Try.prog Try.lays129_ren := {
  mixed := by kernel_rfl
  f129 := Try.func164.trans (congrArg some (by kernel_rfl))
  t3 := Try.underlying3
  a3 := Try.isAgg3
  z3 := Try.sizeOf3
  v3 := Try.zeroValue3
  t4 := Try.underlying4
  a4 := Try.isAgg4
  z4 := Try.sizeOf4
  v4 := Try.zeroValue4
  t5 := Try.underlying5
  a5 := Try.isAgg5
  z5 := Try.sizeOf5
  v5 := Try.zeroValue5
  t9 := Try.underlying9
  a9 := Try.isAgg9
  z9 := Try.sizeOf9
  v9 := Try.zeroValue9
  t46 := Try.underlying162
  a46 := Try.isAgg162
  z46 := Try.sizeOf162
  v46 := Try.zeroValue162
  t53 := Try.underlying195
  a53 := Try.isAgg195
  z53 := Try.sizeOf195
  v53 := Try.zeroValue195 }
theorem Try.bits_Len64 (x : Int) (w : World) (h0 : 0 ≤ x) (h1 : x ≤ 18446744073709551615) :
    Calls Try.prog 164 #[.int .u64 x] w fun e w' => e = .returned (.int .i64 (Lib.bitLen x.toNat)) ∧ w' = w := Any.bits_Len64 Try.lays129 x w h0 h1
def Try.lays190_ren : Go.Shelf.Ren := ⟨fun | 190 => 83 | 125 => 128 | 258 => 127 | 128 => 163 | 129 => 164 | 302 => 154 | 303 => 155 | 304 => 156 | 305 => 157 | 306 => 158 | 307 => 159 | 308 => 160 | 309 => 161 | 310 => 162 | 333 => 173 | 329 => 174 | 330 => 175 | 334 => 176 | 335 => 177 | 336 => 178 | 344 => 180 | n => n, fun | 31 => 72 | 9 => 9 | 3 => 3 | 46 => 162 | 0 => 0 | 51 => 193 | 53 => 195 | 4 => 4 | 183 => 185 | 182 => 184 | 131 => 190 | 5 => 5 | 218 => 205 | 222 => 209 | 228 => 212 | 229 => 213 | n => n, fun | n => n⟩
theorem Try.lays190 : Go.Proofs.Lays.n190 Try.prog Try.lays190_ren := {
  mixed := by kernel_rfl
  f125 := Try.func128.trans (congrArg some (by kernel_rfl))
  f128 := Try.func163.trans (congrArg some (by kernel_rfl))
  f129 := Try.func164.trans (congrArg some (by kernel_rfl))
  f190 := Try.func83.trans (congrArg some (by kernel_rfl))
  f258 := Try.func127.trans (congrArg some (by kernel_rfl))
  f302 := Try.func154.trans (congrArg some (by kernel_rfl))
  f303 := Try.func155.trans (congrArg some (by kernel_rfl))
  f304 := Try.func156.trans (congrArg some (by kernel_rfl))
  f305 := Try.func157.trans (congrArg some (by kernel_rfl))
  f306 := Try.func158.trans (congrArg some (by kernel_rfl))
  f307 := Try.func159.trans (congrArg some (by kernel_rfl))
  f308 := Try.func160.trans (congrArg some (by kernel_rfl))
  f309 := Try.func161.trans (congrArg some (by kernel_rfl))
  f310 := Try.func162.trans (congrArg some (by kernel_rfl))
  f329 := Try.func174.trans (congrArg some (by kernel_rfl))
  f330 := Try.func175.trans (congrArg some (by kernel_rfl))
  f333 := Try.func173.trans (congrArg some (by kernel_rfl))
  f334 := Try.func176.trans (congrArg some (by kernel_rfl))
  f335 := Try.func177.trans (congrArg some (by kernel_rfl))
  f336 := Try.func178.trans (congrArg some (by kernel_rfl))
  f344 := Try.func180.trans (congrArg some (by kernel_rfl))
  t0 := Try.underlying0
  a0 := Try.isAgg0
  z0 := Try.sizeOf0
  v0 := Try.zeroValue0
  t3 := Try.underlying3
  a3 := Try.isAgg3
  z3 := Try.sizeOf3
  v3 := Try.zeroValue3
  t4 := Try.underlying4
  a4 := Try.isAgg4
  z4 := Try.sizeOf4
  v4 := Try.zeroValue4
  t5 := Try.underlying5
  a5 := Try.isAgg5
  z5 := Try.sizeOf5
  v5 := Try.zeroValue5
  t9 := Try.underlying9
  a9 := Try.isAgg9
  z9 := Try.sizeOf9
  v9 := Try.zeroValue9
  t31 := Try.underlying72
  a31 := Try.isAgg72
  z31 := Try.sizeOf72
  v31 := Try.zeroValue72
  t46 := Try.underlying162
  a46 := Try.isAgg162
  z46 := Try.sizeOf162
  v46 := Try.zeroValue162
  t51 := Try.underlying193
  a51 := Try.isAgg193
  z51 := Try.sizeOf193
  v51 := Try.zeroValue193
  t53 := Try.underlying195
  a53 := Try.isAgg195
  z53 := Try.sizeOf195
  v53 := Try.zeroValue195
  t131 := Try.underlying190
  a131 := Try.isAgg190
  z131 := Try.sizeOf190
  v131 := Try.zeroValue190
  t182 := Try.underlying184
  a182 := Try.isAgg184
  z182 := Try.sizeOf184
  v182 := Try.zeroValue184
  t183 := Try.underlying185
  a183 := Try.isAgg185
  z183 := Try.sizeOf185
  v183 := Try.zeroValue185
  t218 := Try.underlying205
  a218 := Try.isAgg205
  z218 := Try.sizeOf205
  v218 := Try.zeroValue205
  t222 := Try.underlying209
  a222 := Try.isAgg209
  z222 := Try.sizeOf209
  v222 := Try.zeroValue209
  t228 := Try.underlying212
  a228 := Try.isAgg212
  z228 := Try.sizeOf212
  v228 := Try.zeroValue212
  t229 := Try.underlying213
  a229 := Try.isAgg213
  z229 := Try.sizeOf213
  v229 := Try.zeroValue213 }
open Go.Sort Go.RowKit in
theorem Try.slices_Sort_string (blk off cap : Nat) (ss : List (List UInt8)) (w : World) (hH : Holds encStr w blk off ss.toArray) (hblk : blk < w.heap.size) (hsz : ss.length < 4611686018427387904) :
    Calls Try.prog 83 #[.slice (some ⟨blk, off, none⟩) ss.length cap] w fun e w' =>
      e = .returned (.tuple #[]) ∧ ∃ n os, w' = grow (putRow encStr (Sort.ahead w n) blk off (ss.mergeSort fun x y => decide (x ≤ y)).toArray) os := Any.slices_Sort_string Try.lays190 blk off cap ss w hH hblk hsz
def Try.lays194_ren : Go.Shelf.Ren := ⟨fun | 194 => 84 | n => n, fun | 31 => 72 | 9 => 9 | 3 => 3 | 4 => 4 | 0 => 0 | n => n, fun | n => n⟩
theorem Try.lays194 : Go.Proofs.Lays.n194 Try.prog Try.lays194_ren := {
  mixed := by kernel_rfl
  f194 := Try.func84.trans (congrArg some (by kernel_rfl))
  t0 := Try.underlying0
  a0 := Try.isAgg0
  z0 := Try.sizeOf0
  v0 := Try.zeroValue0
  t3 := Try.underlying3
  a3 := Try.isAgg3
  z3 := Try.sizeOf3
  v3 := Try.zeroValue3
  t4 := Try.underlying4
  a4 := Try.isAgg4
  z4 := Try.sizeOf4
  v4 := Try.zeroValue4
  t9 := Try.underlying9
  a9 := Try.isAgg9
  z9 := Try.sizeOf9
  v9 := Try.zeroValue9
  t31 := Try.underlying72
  a31 := Try.isAgg72
  z31 := Try.sizeOf72
  v31 := Try.zeroValue72 }
open Go.RowKit Go.Lib Go.Sort in
theorem Try.slices_Compact_string_arr (blk off cap : Nat) (d : Array (List UInt8)) (w : World) (hH : Holds encStr w blk off d) (hsz : d.size ≤ 9223372036854775807) (hcap : d.size ≤ cap) :
    Calls Try.prog 84 #[.slice (some ⟨blk, off, none⟩) d.size cap] w fun e w' => e = .returned (.slice (some ⟨blk, off, none⟩) (compactUpTo d d.size).length cap) ∧ ∃ q, w' = putRow encStr (Sort.ahead w q) blk off (compactUpTo d d.size ++ List.replicate (d.size - (compactUpTo d d.size).length) []).toArray := Any.slices_Compact_string_arr Try.lays194 blk off cap d w hH hsz hcap
open Go.RowKit Go.Lib Go.Sort in
theorem Try.slices_Compact_string (blk off cap : Nat) (zs : List (List UInt8)) (w : World) (hH : Holds encStr w blk off zs.toArray) (hsz : zs.length ≤ 9223372036854775807) (hcap : zs.length ≤ cap) :
    Calls Try.prog 84 #[.slice (some ⟨blk, off, none⟩) zs.length cap] w fun e w' => e = .returned (.slice (some ⟨blk, off, none⟩) (Lib.compact zs).length cap) ∧ ∃ q, w' = putRow encStr (Sort.ahead w q) blk off (Lib.compact zs ++ List.replicate (zs.length - (Lib.compact zs).length) []).toArray := Any.slices_Compact_string Try.lays194 blk off cap zs w hH hsz hcap
open Go.RowKit Go.Lib Go.Sort in
theorem Try.slices_Compact_string_empty (a : Option Addr) (cap : Nat) (w : World) :
    Calls Try.prog 84 #[.slice a 0 cap] w fun e w' => e = .returned (.slice a 0 cap) ∧ w' = w := Any.slices_Compact_string_empty Try.lays194 a cap w
open Go.RowKit Go.Lib Go.Sort in
theorem Try.slices_Compact_string_cells (b off n c : Nat) (Sx : Nat → ByteArray) (w : World) (hbig : n ≤ 9223372036854775807) (hcap : n ≤ c) (hc : ∀ i, i < n → w.cell? ⟨b, off + i, none⟩ = some (.string (Sx i))) (hf : ∀ j, j < n → w.frozen? ⟨b, off + j, none⟩ = false) :
    Calls Try.prog 84 #[.slice (some ⟨b, off, none⟩) n c] w fun e w' => e = .returned (.slice (some ⟨b, off, none⟩) (Lib.compact (Lib.strsOf Sx n)).length c) ∧ ∃ q, w' = (w.drewN q).setCells b off ((Lib.compact (Lib.strsOf Sx n) ++ List.replicate (n - (Lib.compact (Lib.strsOf Sx n)).length) []).map encStr) := Any.slices_Compact_string_cells Try.lays194 b off n c Sx w hbig hcap hc hf
open Go.RowKit Go.Sort in
theorem Try.slices_Sort_string_none (p : Option Addr) (cap : Nat) (w : World) :
    Calls Try.prog 83 #[.slice p 0 cap] w fun e w' => e = .returned (.tuple #[]) ∧ w' = w := Any.slices_Sort_string_none Try.lays190 p cap w
end Go.Proofs

namespace Go.Proofs.Ytndjggncgpjolaa
open Go.RowKit
set_option linter.unusedVariables false
open Go.Shelf Go.Sort Go.Lib
def slices_Compact_string.E (x : List Str) (Q : List Str → Prop) : Prop := x.length ≤ 268435456 ∧ Q (Lib.compact x)
theorem compact_le (x : List Str) : (Lib.compact x).length ≤ x.length := by
  unfold Lib.compact Lib.compactUpTo
  rw [List.length_map]
  exact Nat.le_trans (List.length_filter_le _ _) (by rw [List.length_range]; exact Nat.le_refl _)
theorem compact_mem {x : List Str} {y : Str} (h : y ∈ Lib.compact x) : y ∈ x := by
  unfold Lib.compact Lib.compactUpTo at h
  obtain ⟨j, hj, rfl⟩ := List.mem_map.1 h
  have hl : j < x.length := List.mem_range.1 (List.mem_filter.1 hj).1
  simp [hl]
theorem slices_Compact_string.calls {O : Ob} (w0 : World) (hO : Ok w0 O) (A : Option Addr) (n c : Nat) (x : List Str) (hp : Ow Kd.str 9 w0 O (.slice A n c) x) (Q : List Str → Prop) (h : slices_Compact_string.E x Q) :
    Ret Try.prog 84 [.slice A n c] w0 (fun v w' => ∃ (m0 : List Str) (l : Nat), v = .slice A l c ∧ Q m0 ∧ Gr w0 w' (blk (.slice A n c)) ∧ Ow Kd.str 9 w' O (.slice A l c) m0) := by
  obtain ⟨hl, hq⟩ := h
  by_cases hx : 0 < x.length
  · obtain ⟨g, rfl, rfl, hc, hg⟩ := hp.form hx
    refine Calls.mono (Try.slices_Compact_string g 0 c x w0 hp.holds (by omega) hc) fun e w' ⟨he, q, hw⟩ => ?_
    have hcl := compact_le x
    rw [← grow_empty (putRow encStr (Sort.ahead w0 q) g 0 _)] at hw
    subst he; subst hw
    obtain ⟨h1, h2⟩ := hp.putS (Lib.compact x ++ List.replicate (x.length - (Lib.compact x).length) []) (by rw [List.length_append, List.length_replicate]; omega) (fun y hy => by
      rcases List.mem_append.1 hy with hy | hy
      · exact hp.lims y (compact_mem hy)
      · rw [List.eq_of_mem_replicate hy]; decide) q #[] hx
    have h3 := h2.cut (Lib.compact x).length (by rw [List.length_append]; omega)
    rw [List.take_left'] at h3
    · exact ⟨_, rfl, Lib.compact x, _, rfl, hq, h1, h3⟩
    · rfl
  · have e0 : x = [] := List.length_eq_zero_iff.1 (by omega)
    subst e0
    obtain rfl : n = 0 := hp.len
    refine Calls.mono (Try.slices_Compact_string_empty A c w0) fun e w' ⟨he, hw⟩ => ?_
    subst he; subst hw
    exact ⟨_, rfl, [], _, rfl, hq, Gr.refl _ _, hp⟩
end Go.Proofs.Ytndjggncgpjolaa

namespace Go.Proofs.Ytndjggncgpjolaa
set_option linter.unusedVariables false
set_option linter.unusedSimpArgs false
set_option linter.unusedSectionVars false
/-! names in order, each once -/
theorem less_trans : ∀ {a b c : Str}, Op.bytesLess a b = true → Op.bytesLess b c = true → Op.bytesLess a c = true
  | _, _, [], _, h => by rename_i b _; cases b <;> simp [Op.bytesLess] at h
  | _, [], _ :: _, h, _ => by rename_i a _ _ _; cases a <;> simp [Op.bytesLess] at h
  | [], _ :: _, _ :: _, _, _ => by simp [Op.bytesLess]
  | x :: a, y :: b, z :: c, h1, h2 => by
    rw [Op.bytesLess] at h1 h2 ⊢
    simp only [Bool.or_eq_true, Bool.and_eq_true, decide_eq_true_eq, beq_iff_eq] at h1 h2 ⊢
    rcases h1 with h1 | ⟨rfl, h1⟩
    · rcases h2 with h2 | ⟨rfl, h2⟩
      · exact .inl (UInt8.lt_trans h1 h2)
      · exact .inl h1
    · rcases h2 with h2 | ⟨rfl, h2⟩
      · exact .inl h2
      · exact .inr ⟨rfl, less_trans h1 h2⟩
theorem less_asym {a b : Str} (h : Op.bytesLess a b = true) : Op.bytesLess b a = false := by
  cases e : Op.bytesLess b a with
  | false => rfl
  | true => have := less_trans h e; rw [less_irr] at this; cases this
theorem less_or {a b : Str} (h : Op.bytesLess a b = false) : Op.bytesLess b a = true ∨ b = a := by
  have := less_tri a b
  rw [h] at this
  simpa using this.symm
/-- in order, each once -/
def SS (l : List Str) : Prop := l.Pairwise fun x y => Op.bytesLess x y = true
theorem SS.ext : ∀ {l m : List Str}, SS l → SS m → (∀ x, x ∈ l ↔ x ∈ m) → l = m
  | [], [], _, _, _ => rfl
  | [], y :: m, _, _, h => by have := (h y).2 List.mem_cons_self; cases this
  | x :: l, [], _, _, h => by have := (h x).1 List.mem_cons_self; cases this
  | x :: l, y :: m, hl, hm, h => by
    obtain ⟨l1, l2⟩ := List.pairwise_cons.1 hl
    obtain ⟨m1, m2⟩ := List.pairwise_cons.1 hm
    have e : x = y := by
      rcases List.mem_cons.1 ((h x).1 List.mem_cons_self) with e | e
      · exact e
      · rcases List.mem_cons.1 ((h y).2 List.mem_cons_self) with e' | e'
        · exact e'.symm
        · have := less_trans (m1 x e) (l1 y e'); rw [less_irr] at this; cases this
    subst e
    rw [SS.ext l2 m2 fun z => ⟨fun hz => ?_, fun hz => ?_⟩]
    · rcases List.mem_cons.1 ((h z).1 (List.mem_cons_of_mem _ hz)) with e | e
      · subst e; have := l1 z hz; rw [less_irr] at this; cases this
      · exact e
    · rcases List.mem_cons.1 ((h z).2 (List.mem_cons_of_mem _ hz)) with e | e
      · subst e; have := m1 z hz; rw [less_irr] at this; cases this
      · exact e
theorem le_less (x y : Str) : decide (x ≤ y) = !(Op.bytesLess y x) := by
  rw [bytesLess_eq]
  by_cases h : y < x
  · rw [decide_eq_true h, decide_eq_false (by rw [List.not_le]; exact h)]; rfl
  · rw [decide_eq_false h, decide_eq_true (List.not_lt.1 h)]; rfl
theorem sortS_le (l : List Str) : (sortS l).Pairwise fun x y => Op.bytesLess y x = false := by
  have h := List.pairwise_mergeSort (le := fun x y : Str => decide (x ≤ y)) (fun a b c h1 h2 => by
    rw [le_less, Bool.not_eq_true'] at h1 h2 ⊢
    cases e : Op.bytesLess c a with
    | false => rfl
    | true =>
      rcases less_or h1 with h3 | h3
      · have := less_trans e h3; rw [h2] at this; cases this
      · subst h3; rw [h2] at e; cases e) (fun a b => by
    rw [le_less, le_less]
    cases e : Op.bytesLess b a with
    | false => rfl
    | true => rw [less_asym e]; rfl) l
  exact h.imp fun {x y} h => by rw [le_less, Bool.not_eq_true'] at h; exact h
theorem sortS_mem {l : List Str} {x : Str} : x ∈ sortS l ↔ x ∈ l := List.mem_mergeSort
section
open Go.Lib
theorem compact_of (l : List Str) (h : l.Pairwise fun x y => Op.bytesLess y x = false) : SS (compact l) ∧ ∀ x, x ∈ compact l ↔ x ∈ l := by
  have hle : ∀ i j, i ≤ j → j < l.length → Op.bytesLess (l.toArray[j]!) (l.toArray[i]!) = false := fun i j hij hj => by
    have hi : i < l.length := by omega
    simp only [List.getElem!_toArray, getElem!_pos l i hi, getElem!_pos l j hj]
    rcases Nat.lt_or_eq_of_le hij with hlt | rfl
    · exact List.pairwise_iff_getElem.1 h i j hi hj hlt
    · exact less_irr _
  constructor
  · unfold compact compactUpTo SS
    rw [List.pairwise_map, List.pairwise_filter]
    refine List.pairwise_iff_getElem.2 fun i j hi hj hij => ?_
    simp only [List.length_range] at hi hj
    simp only [List.getElem_range]
    intro _ hk
    have hj0 : 0 < j := by omega
    have hne : l.toArray[j]! ≠ l.toArray[j - 1]! := fun e => by rw [keeps_neg hj0 e] at hk; cases hk
    have h1 : Op.bytesLess (l.toArray[j - 1]!) (l.toArray[j]!) = true := by
      rcases less_or (hle (j - 1) j (by omega) hj) with h2 | h2
      · exact h2
      · exact absurd h2.symm hne
    rcases less_or (hle i (j - 1) (by omega) (by omega)) with h3 | h3
    · exact less_trans h3 h1
    · rw [h3]; exact h1
  · intro x
    constructor
    · exact compact_mem
    · intro hx
      obtain ⟨k, hk, rfl⟩ := List.getElem_of_mem hx
      have key : ∀ k, k < l.length → l.toArray[k]! ∈ compact l := by
        intro k
        induction k using Nat.strongRecOn with
        | _ k ih =>
          intro hk
          cases e : keeps l.toArray k with
          | true =>
            unfold compact compactUpTo
            exact List.mem_map.2 ⟨k, List.mem_filter.2 ⟨List.mem_range.2 hk, e⟩, rfl⟩
          | false =>
            have hk0 : 0 < k := by
              rcases Nat.eq_zero_or_pos k with h0 | h0
              · subst h0; rw [keeps_lt_one _ 0 (by omega)] at e; cases e
              · exact h0
            have he : l.toArray[k]! = l.toArray[k - 1]! := Classical.byContradiction fun hne => by rw [keeps_pos hne] at e; cases e
            rw [he]; exact ih (k - 1) (by omega) (by omega)
      have := key k hk
      simpa [getElem!_pos l k hk] using this
end
def uniq (l : List Str) : List Str := Lib.compact (sortS l)
theorem uniq_ss (l : List Str) : SS (uniq l) := (compact_of _ (sortS_le l)).1
theorem uniq_mem {l : List Str} {x : Str} : x ∈ uniq l ↔ x ∈ l := ((compact_of _ (sortS_le l)).2 x).trans sortS_mem
def ids (s : List Feat) : List Str := s.map (·.Id)
theorem ids_app (s t : List Feat) : ids (s ++ t) = ids s ++ ids t := List.map_append
theorem sheet_ss {s : List Feat} (h : sheetOk s = true) : SS (ids s) ∧ s.length ≤ 8 ∧ ∀ f ∈ s, featOk f = true := by
  unfold sheetOk at h
  simp only [Bool.and_eq_true, decide_eq_true_eq] at h
  obtain ⟨h1, h2⟩ := h
  have h1 := allN_iff.1 h1
  have hadj : ∀ k, 0 < k → k < s.length → Op.bytesLess (nth s ((k : Int) - 1)).Id (nth s (k : Int)).Id = true := fun k h0 hk => by
    have := h1 k hk
    simp only [Bool.and_eq_true, Bool.or_eq_true, decide_eq_true_eq] at this
    rcases this.2 with h | h
    · omega
    · exact h
  refine ⟨?_, h2, fun f hf => ?_⟩
  · unfold SS ids
    rw [List.pairwise_map]
    refine List.pairwise_iff_getElem.2 fun i j hi hj hij => ?_
    have key : ∀ d, i + d + 1 < s.length → Op.bytesLess s[i].Id (nth s ((i + d + 1 : Nat) : Int)).Id = true := by
      intro d
      induction d with
      | zero =>
        intro hd
        have := hadj (i + 0 + 1) (by omega) hd
        rw [show (((i + 0 + 1 : Nat) : Int) - 1) = (i : Int) by omega, nth_nat s hi] at this
        exact this
      | succ d ih =>
        intro hd
        have := hadj (i + (d + 1) + 1) (by omega) hd
        rw [show (((i + (d + 1) + 1 : Nat) : Int) - 1) = ((i + d + 1 : Nat) : Int) by omega] at this
        exact less_trans (ih (by omega)) this
    have := key (j - i - 1) (by omega)
    rw [show i + (j - i - 1) + 1 = j by omega, nth_nat s hj] at this
    exact this
  · obtain ⟨k, hk, rfl⟩ := List.getElem_of_mem hf
    have := h1 k hk
    rw [nth_nat s hk] at this
    simp only [Bool.and_eq_true] at this
    exact this.1
theorem word_len {s : Str} (h : wordOk s = true) : s.length ≤ 6 := by
  unfold wordOk at h
  simp only [Bool.and_eq_true, decide_eq_true_eq] at h
  exact h.2.2
theorem bulk_small {α : Type} [Bulk α] (l : List α) (m : Nat) (h : ∀ x ∈ l, bulk x ≤ m) : bulk l ≤ l.length * (m + 1) := by
  induction l with
  | nil => exact Nat.zero_le _
  | cons x l ih =>
    have h1 := h x List.mem_cons_self
    have h2 := ih fun y hy => h y (List.mem_cons_of_mem _ hy)
    rw [bulk_cons, List.length_cons, Nat.add_mul]
    omega
theorem feat_small {f : Feat} (h : featOk f = true) : bulk f ≤ 100 ∧ f.Id.length ≤ 6 := by
  unfold featOk at h
  simp only [Bool.and_eq_true, decide_eq_true_eq] at h
  obtain ⟨⟨⟨h1, h2⟩, h3⟩, h4⟩ := h
  have hi := word_len h3
  have e1 : bulk f = bulk f.Id + (bulk f.Shape.Kind + bulk f.Shape.Pts) + bulk f.Tags := rfl
  have e2 : bulk f.Id = f.Id.length := bulk_str _
  have e3 : bulk f.Shape.Kind = 0 := rfl
  have e4 : bulk f.Shape.Pts = f.Shape.Pts.length := bulk_flat (fun _ => rfl) _
  have ht : bulk f.Tags ≤ f.Tags.length * (12 + 1) := bulk_small _ 12 fun t hm => by
    unfold tagsOk at h1
    obtain ⟨k, hk, rfl⟩ := List.getElem_of_mem hm
    have := allN_iff.1 h1 k hk
    rw [nth_nat _ hk] at this
    simp only [Bool.and_eq_true] at this
    have a1 := word_len this.1.1
    have a2 := word_len this.1.2
    have b0 : bulk f.Tags[k] = bulk f.Tags[k].Key + bulk f.Tags[k].Val := rfl
    have b1 : bulk f.Tags[k].Key = f.Tags[k].Key.length := bulk_str _
    have b2 : bulk f.Tags[k].Val = f.Tags[k].Val.length := bulk_str _
    omega
  have hp : f.Shape.Pts.length ≤ 6 := by
    unfold shapeOk kindOk at h4
    simp only [Bool.and_eq_true] at h4
    have := h4.2
    split at this
    · simp only [decide_eq_true_eq] at this; omega
    · split at this
      · simp only [Bool.and_eq_true, decide_eq_true_eq] at this; omega
      · split at this
        · simp only [Bool.and_eq_true, decide_eq_true_eq] at this; omega
        · cases this
  have : f.Tags.length * (12 + 1) ≤ 52 := by omega
  omega
def zeroF : Feat := ⟨[], ⟨0, []⟩, []⟩
def sideOf (s : List Feat) (id : Str) : Feat × Bool :=
  if findN s.length (fun j => (nth s (j : Int)).Id == id) < 0 then (zeroF, false) else (nth s (findN s.length fun j => (nth s (j : Int)).Id == id), true)
theorem sideOf_small {s : List Feat} (h : sheetOk s = true) (id : Str) : bulk (sideOf s id).1 ≤ 100 := by
  unfold sideOf
  split
  · exact (by decide : bulk zeroF ≤ 100)
  · have h1 := findN_le s.length fun j => (nth s (j : Int)).Id == id
    exact (feat_small ((sheet_ss h).2.2 _ (nth_memi s (by omega) h1.2))).1
def diffC (a b : List Feat) (id : Str) : Change := ⟨id, (sideOf a id).2, (sideOf a id).1, (sideOf b id).2, (sideOf b id).1⟩
def diffL (a b : List Feat) (l : List Str) : List Change := (l.map (diffC a b)).filter fun c => !(sameC c)
def diffOf (a b : List Feat) : List Change := if sheetOk a && sheetOk b then diffL a b (uniq (ids a ++ ids b)) else []
theorem diffL_snoc (a b : List Feat) (l : List Str) (x : Str) : diffL a b (l ++ [x]) = diffL a b l ++ (if sameC (diffC a b x) then [] else [diffC a b x]) := by
  unfold diffL
  rw [List.map_append, List.filter_append]
  congr 1
  cases h : sameC (diffC a b x) <;> simp [h]
theorem uniq_len (l : List Str) : (uniq l).length ≤ l.length := by
  unfold uniq
  have := compact_le (sortS l)
  have h2 : (sortS l).length = l.length := List.length_mergeSort _
  omega
theorem diffL_len (a b : List Feat) (l : List Str) : (diffL a b l).length ≤ l.length := by
  unfold diffL
  exact Nat.le_trans (List.length_filter_le _ _) (by rw [List.length_map]; exact Nat.le_refl _)
theorem diffC_small {a b : List Feat} (ha : sheetOk a = true) (hb : sheetOk b = true) {x : Str} (hx : x ∈ ids a ∨ x ∈ ids b) : bulk (diffC a b x) ≤ 206 := by
  have h1 := sideOf_small ha x
  have h2 := sideOf_small hb x
  have h3 : x.length ≤ 6 := by
    rcases hx with hx | hx
    all_goals
      obtain ⟨f, hf, rfl⟩ := List.mem_map.1 hx
    · exact (feat_small ((sheet_ss ha).2.2 f hf)).2
    · exact (feat_small ((sheet_ss hb).2.2 f hf)).2
  have e : bulk (diffC a b x) = bulk x + 0 + bulk (sideOf a x).1 + 0 + bulk (sideOf b x).1 := rfl
  have e2 : bulk x = x.length := bulk_str _
  omega
theorem diffOf_small (a b : List Feat) : bulk (diffOf a b) ≤ 10000 := by
  unfold diffOf
  cases h : sheetOk a && sheetOk b with
  | false => rw [if_neg (by decide)]; exact Nat.zero_le _
  | true =>
    rw [if_pos rfl]
    simp only [Bool.and_eq_true] at h
    have la := (sheet_ss h.1).2.1
    have lb := (sheet_ss h.2).2.1
    have l1 := diffL_len a b (uniq (ids a ++ ids b))
    have l2 := uniq_len (ids a ++ ids b)
    have l3 : (ids a ++ ids b).length = a.length + b.length := by unfold ids; simp
    have hs := bulk_small (diffL a b (uniq (ids a ++ ids b))) 206 fun c hc => by
      unfold diffL at hc
      obtain ⟨hc, _⟩ := List.mem_filter.1 hc
      obtain ⟨x, hx, rfl⟩ := List.mem_map.1 hc
      exact diffC_small h.1 h.2 (List.mem_append.1 (uniq_mem.1 hx))
    have : (diffL a b (uniq (ids a ++ ids b))).length * (206 + 1) ≤ 16 * 207 := Nat.mul_le_mul (by omega) (Nat.le_refl _)
    omega
end Go.Proofs.Ytndjggncgpjolaa

namespace Go.Proofs.Ytndjggncgpjolaa
set_option linter.unusedVariables false
set_option linter.unusedSimpArgs false
set_option linter.unusedSectionVars false
/-- what stands of a map with one more name, up to u -/
def PutS (s : List Feat) (f : Feat) (u : Nat) (xs : List Feat) (done : Bool) : Prop :=
  u ≤ s.length ∧ SS (ids xs) ∧ (∀ x, x ∈ ids xs ↔ x ∈ ids (s.take u) ∨ (done = true ∧ x = f.Id)) ∧ (done = false → (∀ x ∈ ids (s.take u), Op.bytesLess x f.Id = true) ∧ xs = s.take u) ∧
    (done = true → ∀ y ∈ ids (s.drop u), Op.bytesLess f.Id y = true) ∧ xs.length ≤ u + 1 ∧ (∀ z ∈ xs, z ∈ s ∨ z = f)
theorem ss_snoc {l : List Str} {x : Str} (h : SS l) (hx : ∀ y ∈ l, Op.bytesLess y x = true) : SS (l ++ [x]) := by
  unfold SS
  rw [List.pairwise_append]
  exact ⟨h, List.pairwise_singleton _ _, fun a ha b hb => by rw [List.mem_singleton.1 hb]; exact hx a ha⟩
theorem ids_take {s : List Feat} {u : Nat} (hu : u < s.length) : ids (s.take (u + 1)) = ids (s.take u) ++ [(nth s (u : Int)).Id] := by rw [take_nth s hu, ids_app]; rfl
theorem ids_cut (s : List Feat) (u : Nat) : ids s = ids (s.take u) ++ ids (s.drop u) := by rw [← ids_app, List.take_append_drop]
theorem dropNth {s : List Feat} {u : Nat} (hu : u < s.length) : s.drop u = nth s (u : Int) :: s.drop (u + 1) := by rw [nth_nat s hu]; exact List.drop_eq_getElem_cons hu
theorem ss_lt {s : List Feat} (h : SS (ids s)) {u : Nat} (hu : u < s.length) : (∀ x ∈ ids (s.take u), Op.bytesLess x (nth s (u : Int)).Id = true) ∧ ∀ y ∈ ids (s.drop (u + 1)), Op.bytesLess (nth s (u : Int)).Id y = true := by
  have e := ids_cut s u
  rw [dropNth hu] at e
  have e2 : ids (nth s (u : Int) :: s.drop (u + 1)) = (nth s (u : Int)).Id :: ids (s.drop (u + 1)) := rfl
  rw [e2] at e
  rw [e] at h
  obtain ⟨h1, h2, h3⟩ := List.pairwise_append.1 h
  exact ⟨fun x hx => h3 x hx _ List.mem_cons_self, (List.pairwise_cons.1 h2).1⟩
theorem spec_l3Put.law (s : List Feat) (f : Feat) (Q : List Feat → Prop) (hl : s.length ≤ 1048576) (hs : SS (ids s)) (hq : ∀ r, SS (ids r) → (∀ x, x ∈ ids r ↔ x ∈ ids s ∨ x = f.Id) → r.length ≤ s.length + 1 → (∀ z ∈ r, z ∈ s ∨ z = f) → Q r) : spec_l3Put.E s f Q := by
  unfold spec_l3Put.E
  refine ⟨fun xs done i => ∃ u : Nat, i = u ∧ PutS s f u xs done, fun _ _ i => (s.length - i).toNat, ⟨0, rfl, Nat.zero_le _, by simp [ids, SS], by simp [ids], fun _ => ⟨by simp [ids], by simp⟩, (fun h => by cases h), by simp, by simp⟩, ?_⟩
  rintro xs done _ ⟨u, rfl, hu, h1, h2, h3, h4, h5, h6⟩
  by_cases h : u < s.length
  · rw [if_pos (by simpa using h)]
    obtain ⟨b1, b2⟩ := ss_lt hs h
    have hin : nth s (u : Int) ∈ s := nth_mem s h
    have hdr : ∀ y ∈ ids (s.drop u), y = (nth s (u : Int)).Id ∨ y ∈ ids (s.drop (u + 1)) := fun y hy => by rw [dropNth h] at hy; exact List.mem_cons.1 hy
    have hcur : (nth s (u : Int)).Id ∈ ids (s.drop u) := by rw [dropNth h]; exact List.mem_cons_self
    have hdr' : ∀ y ∈ ids (s.drop (u + 1)), y ∈ ids (s.drop u) := fun y hy => by rw [dropNth h]; exact List.mem_cons_of_mem _ hy
    have stay : ∀ d, d = done → Op.bytesLess (nth s (u : Int)).Id f.Id = true ∨ d = true → xs.length + 1 ≤ u + 1 + 1 → PutS s f (u + 1) (xs ++ [nth s (u : Int)]) d := fun d hd hor hlen => by
      subst hd
      refine ⟨h, ?_, fun x => ?_, fun hdn => ⟨fun x hx => ?_, ?_⟩, fun hdn y hy => h4 hdn y (hdr' y hy), by simp only [List.length_append, List.length_singleton]; omega, fun z hz => ?_⟩
      · rw [ids_app]
        refine ss_snoc h1 fun y hy => ?_
        rcases (h2 y).1 hy with hy | ⟨hd, rfl⟩
        · exact b1 y hy
        · exact h4 hd _ hcur
      · rw [ids_app, List.mem_append, h2, ids_take h, List.mem_append]
        constructor
        · rintro ((hx | hx) | hx)
          · exact .inl (.inl hx)
          · exact .inr hx
          · exact .inl (.inr hx)
        · rintro ((hx | hx) | hx)
          · exact .inl (.inl hx)
          · exact .inr hx
          · exact .inl (.inr hx)
      · rw [ids_take h] at hx
        rcases List.mem_append.1 hx with hx | hx
        · exact (h3 hdn).1 x hx
        · rw [List.mem_singleton.1 hx]
          rcases hor with hor | hor
          · exact hor
          · rw [hdn] at hor; cases hor
      · rw [(h3 hdn).2, ← take_nth s h]
      · rcases List.mem_append.1 hz with hz | hz
        · exact h6 z hz
        · rw [List.mem_singleton.1 hz]; exact .inl hin
    cases done with
    | true =>
      rw [if_neg (by decide)]
      have hlt := h4 rfl _ hcur
      have hne : (nth s (u : Int)).Id ≠ f.Id := fun e => by rw [e, less_irr] at hlt; cases hlt
      refine ⟨by omega, ?_⟩
      rw [if_pos (by rw [bne_iff_ne]; exact hne)]
      exact ⟨by omega, by simp only [List.length_cons, List.length_nil]; omega, by omega, ⟨u + 1, by omega, stay true rfl (.inr rfl) (by omega)⟩, by dsimp only; omega⟩
    | false =>
      rw [if_pos (by decide)]
      obtain ⟨c1, c2⟩ := h3 rfl
      have hxl : xs.length = u := by rw [c2, List.length_take]; omega
      refine ⟨by omega, ?_⟩
      cases k : Op.bytesLess (nth s (u : Int)).Id f.Id with
      | true =>
        rw [if_neg (by decide)]
        have hne : (nth s (u : Int)).Id ≠ f.Id := fun e => by rw [e, less_irr] at k; cases k
        refine ⟨by omega, ?_⟩
        rw [if_pos (by rw [bne_iff_ne]; exact hne)]
        exact ⟨by omega, by simp only [List.length_cons, List.length_nil]; omega, by omega, ⟨u + 1, by omega, stay false rfl (.inl k) (by omega)⟩, by dsimp only; omega⟩
      | false =>
        rw [if_pos (by decide)]
        have g1 : SS (ids (xs ++ [f])) := by
          rw [ids_app]
          refine ss_snoc h1 fun y hy => ?_
          rcases (h2 y).1 hy with hy | ⟨hd, _⟩
          · exact c1 y hy
          · cases hd
        refine ⟨by simp only [List.length_cons, List.length_nil]; omega, by omega, ?_⟩
        by_cases hne : (nth s (u : Int)).Id = f.Id
        · rw [if_neg (by rw [hne]; simp)]
          refine ⟨by omega, ⟨u + 1, by omega, h, g1, fun x => ?_, (fun hd => by cases hd), fun _ y hy => by rw [← hne]; exact b2 y hy, by simp only [List.length_append, List.length_singleton]; omega, fun z hz => ?_⟩, by dsimp only; omega⟩
          · rw [ids_app, List.mem_append, h2, ids_take h, List.mem_append, hne]
            show _ ∨ x ∈ [f.Id] ↔ _
            rw [List.mem_singleton]
            constructor
            · rintro ((hx | ⟨hd, _⟩) | hx)
              · exact .inl (.inl hx)
              · cases hd
              · exact .inr ⟨rfl, hx⟩
            · rintro ((hx | hx) | ⟨_, hx⟩)
              · exact .inl (.inl hx)
              · exact .inr hx
              · exact .inr hx
          · rcases List.mem_append.1 hz with hz | hz
            · exact h6 z hz
            · exact .inr (List.mem_singleton.1 hz)
        · rw [if_pos (by rw [bne_iff_ne]; exact hne)]
          have hlt : Op.bytesLess f.Id (nth s (u : Int)).Id = true := by
            rcases less_or k with g | g
            · exact g
            · exact absurd g.symm hne
          refine ⟨by omega, by simp only [List.length_append, List.length_cons, List.length_nil]; omega, by omega, ⟨u + 1, by omega, h, ?_, fun x => ?_, (fun hd => by cases hd), fun _ y hy => less_trans hlt (b2 y hy), by simp only [List.length_append, List.length_singleton]; omega, fun z hz => ?_⟩, by dsimp only; omega⟩
          · rw [ids_app]
            refine ss_snoc g1 fun y hy => ?_
            rw [ids_app] at hy
            rcases List.mem_append.1 hy with hy | hy
            · rcases (h2 y).1 hy with hy | ⟨hd, _⟩
              · exact b1 y hy
              · cases hd
            · have hy : y = f.Id := List.mem_singleton.1 hy
              rw [hy]; exact hlt
          · rw [ids_app, ids_app, List.mem_append, List.mem_append, h2, ids_take h, List.mem_append]
            show (_ ∨ x ∈ [f.Id]) ∨ x ∈ [(nth s (u : Int)).Id] ↔ _
            rw [List.mem_singleton, List.mem_singleton]
            constructor
            · rintro (((hx | ⟨hd, _⟩) | hx) | hx)
              · exact .inl (.inl hx)
              · cases hd
              · exact .inr ⟨rfl, hx⟩
              · exact .inl (.inr hx)
            · rintro ((hx | hx) | ⟨_, hx⟩)
              · exact .inl (.inl (.inl hx))
              · exact .inr hx
              · exact .inl (.inr hx)
          · rcases List.mem_append.1 hz with hz | hz
            · rcases List.mem_append.1 hz with hz | hz
              · exact h6 z hz
              · exact .inr (List.mem_singleton.1 hz)
            · rw [List.mem_singleton.1 hz]; exact .inl hin
  · rw [if_neg (by simpa using h)]
    have : u = s.length := by omega
    subst this
    rw [List.take_length] at h2 h3
    cases done with
    | true =>
      rw [if_neg (by decide)]
      exact hq xs h1 (fun x => by rw [h2]; simp) h5 h6
    | false =>
      rw [if_pos (by decide)]
      obtain ⟨c1, c2⟩ := h3 rfl
      refine ⟨by simp only [List.length_cons, List.length_nil]; omega, hq _ ?_ (fun x => ?_) (by rw [c2]; simp) fun z hz => ?_⟩
      · rw [ids_app]
        refine ss_snoc h1 fun y hy => ?_
        rcases (h2 y).1 hy with hy | ⟨hd, _⟩
        · exact c1 y hy
        · cases hd
      · rw [ids_app, List.mem_append, h2]
        show _ ∨ x ∈ [f.Id] ↔ _
        rw [List.mem_singleton]; simp
      · rcases List.mem_append.1 hz with hz | hz
        · exact h6 z hz
        · exact .inr (List.mem_singleton.1 hz)
end Go.Proofs.Ytndjggncgpjolaa

namespace Go.Proofs.Ytndjggncgpjolaa
open Go.RowKit
set_option linter.unusedVariables false
def spec_l4Ids.E (a : List Feat) (b : List Feat) (Q : List Str → Prop) : Prop :=
  (∃ (I35 : (List Feat) → Int → Prop) (mu36 : (List Feat) → Int → Nat), I35 a 0 ∧ ∀ (s2 : List Feat) (i2 : Int), I35 s2 i2 → (if decide (i2 < (b.length : Int)) then ((0 : Int) ≤ i2 ∧ i2 < (b.length : Int)) ∧ spec_l3Put.E s2 (nth b i2) (fun r => (-9223372036854775808 ≤ i2) ∧ I35 r (i2 + 1) ∧ mu36 r (i2 + 1) < mu36 s2 i2) else (∃ (I113 : (List Str) → Int → Prop) (mu114 : (List Str) → Int → Nat), I113 ([] : List Str) 0 ∧ ∀ (xs2 : List Str) (i4 : Int), I113 xs2 i4 → (if decide (i4 < (s2.length : Int)) then ((0 : Int) ≤ i4 ∧ i4 < (s2.length : Int)) ∧ (xs2.length + ([(nth s2 i4).Id] : List Str).length ≤ 268435456) ∧ (-9223372036854775808 ≤ i4) ∧ I113 (xs2 ++ ([(nth s2 i4).Id] : List Str)) (i4 + 1) ∧ mu114 (xs2 ++ ([(nth s2 i4).Id] : List Str)) (i4 + 1) < mu114 xs2 i4 else Q xs2))))
set_option maxHeartbeats 8000000 in
set_option maxRecDepth 100000 in
theorem spec_l4Ids.calls {O : Ob} (w0 : World) (hO : Ok w0 O) (a : List Feat) (A1 : Option Addr) (n2 c3 : Nat) (hp4 : Sl kFeat w0 (Fr O) (.slice A1 n2 c3) a) (b : List Feat) (A6 : Option Addr) (n7 c8 : Nat) (hp9 : Sl kFeat w0 (Fr O) (.slice A6 n7 c8) b) (Q : List Str → Prop) (h : spec_l4Ids.E a b Q) :
    Ret Try.prog 120 [.slice A1 n2 c3, .slice A6 n7 c8] w0 (fun v w' => ∃ (r0 : List Str) (A0 : Option Addr) (n0 c0 : Nat), v = .slice A0 n0 c0 ∧ Q r0 ∧ Gr w0 w' none ∧ Ok w' ([blk (.slice A0 n0 c0)] ++ O) ∧ (∀ b, some b ∈ [blk (.slice A0 n0 c0)] → w0.heap.size ≤ b) ∧ Ow Kd.str 9 w' ([blk (.slice A0 n0 c0)] ++ O) (.slice A0 n0 c0) r0) := by
  have H : (∃ (I35 : (List Feat) → Int → Prop) (mu36 : (List Feat) → Int → Nat), I35 a 0 ∧ ∀ (s2 : List Feat) (i2 : Int), I35 s2 i2 → (if decide (i2 < (b.length : Int)) then ((0 : Int) ≤ i2 ∧ i2 < (b.length : Int)) ∧ spec_l3Put.E s2 (nth b i2) (fun r => (-9223372036854775808 ≤ i2) ∧ I35 r (i2 + 1) ∧ mu36 r (i2 + 1) < mu36 s2 i2) else (∃ (I113 : (List Str) → Int → Prop) (mu114 : (List Str) → Int → Nat), I113 ([] : List Str) 0 ∧ ∀ (xs2 : List Str) (i4 : Int), I113 xs2 i4 → (if decide (i4 < (s2.length : Int)) then ((0 : Int) ≤ i4 ∧ i4 < (s2.length : Int)) ∧ (xs2.length + ([(nth s2 i4).Id] : List Str).length ≤ 268435456) ∧ (-9223372036854775808 ≤ i4) ∧ I113 (xs2 ++ ([(nth s2 i4).Id] : List Str)) (i4 + 1) ∧ mu114 (xs2 ++ ([(nth s2 i4).Id] : List Str)) (i4 + 1) < mu114 xs2 i4 else Q xs2)))) := h
  clear h
  have hc0 := Ct.init hO
  refine Ret_enter Try.func120 rfl 38 rfl [.tmp 4] rfl rfl ?_
  refine W_seq ?_
  refine W_reg ?_
  refine L_pu (P_assign (.slice none 0 0) rfl) ?_
  refine L_nil ?_
  refine W_seq ?_
  refine W_reg ?_
  refine L_pu (P_move (.slice A1 n2 c3) rfl) ?_
  refine L_pu (P_assign (.slice A1 n2 c3) rfl) ?_
  refine L_nil ?_
  refine W_seq ?_
  refine W_seq ?_
  refine W_reg ?_
  refine L_pu (P_assign (vi 0) rfl) ?_
  refine L_nil ?_
  refine W_block ?_
  obtain ⟨I35, mu36, hI37, H⟩ := H
  refine W_loop (α := (List Feat) × (Option Addr) × Nat × Nat × Int) (fun (sv__ : (List Feat) × (Option Addr) × Nat × Nat × Int) t w26 => match sv__ with | (s2, A28, n29, c30, i2) => I35 s2 i2 ∧ Has t [(1, .slice A6 n7 c8), (5, .slice A28 n29 c30), (6, vi i2)] ∧ Ct [] w0 w26 [] O ∧ Sl kFeat w26 (Fr ([] ++ O)) (.slice A6 n7 c8) b ∧ Sl kFeat w26 (Fr ([] ++ O)) (.slice A28 n29 c30) s2) (fun (sv__ : (List Feat) × (Option Addr) × Nat × Nat × Int) => match sv__ with | (s2, _, _, _, i2) => mu36 s2 i2) (a, A1, n2, c3, 0) ⟨hI37, ⟨rfl, rfl, rfl, trivial⟩, hc0, hp9, hp4⟩ ?_
  rintro ⟨s2, A28, n29, c30, i2⟩ _ w26 ⟨hI37, hh39, hc32, h33, h34⟩
  obtain ⟨u40, rfl⟩ := Has.ins hh39
  have H := H s2 i2 hI37
  refine W_seq ?_
  refine W_seq ?_
  refine W_reg ?_
  refine L_pu (P_move (vi i2) rfl) ?_
  refine L_pu (P_move (.slice A6 n7 c8) rfl) ?_
  have hl41 := h33.le
  refine L_pu (P_len Try.underlying52 A6 n7 c8 h33.len rfl) ?_
  refine L_pu (P_cmp i2 (b.length : Int) (decide (i2 < (b.length : Int))) rfl rfl rfl) ?_
  refine L_nil ?_
  refine W_cond (decide (i2 < (b.length : Int))) rfl (fun hq42 => ?_) (fun hq42 => ?_)
  · have H := ite_t H hq42
    refine W_skip ?_
    refine W_seq ?_
    refine W_block ?_
    refine W_reg ?_
    refine L_pu (P_move (.slice A28 n29 c30) rfl) ?_
    refine L_pu (P_move (.slice A6 n7 c8) rfl) ?_
    refine L_pu (P_move (vi i2) rfl) ?_
    obtain ⟨hb43, H⟩ := H
    obtain ⟨ad44, cs45, hA46, hS49, hR47, hcl48⟩ := h33.get default (by decide) i2 hb43
    obtain ⟨A51, n52, c53, A56, n57, c58, rfl, hs50, h54, h59⟩ := kFeat.op hR47
    refine L_pu (P_ia Try.underlying52 se52 A6 ad44 n7 c8 h33.len i2 rfl hA46 rfl hb43) ?_
    refine L_pu (P_lda ag71 sz71 cL (ad44.add (i2.toNat * 4)) [vs ((nth b i2).Id), vi ((nth b i2).Shape.Kind), .slice A51 n52 c53, .slice A56 n57 c58] rfl rfl hcl48) ?_
    refine L_call go150 [.slice A28 n29 c30, .agg #[vs ((nth b i2).Id), vi ((nth b i2).Shape.Kind), .slice A51 n52 c53, .slice A56 n57 c58]] rfl ((spec_l3Put.calls w26 hc32.ok s2 A28 n29 c30 h34 (nth b i2) A51 n52 c53 A56 n57 c58 hs50 h54 h59 _ H).mono ?_)
    rintro _ w61 ⟨r, A63, n64, c65, rfl, H, g62, hk69, hk70, h66⟩
    have hc71 := hc32.owns g62 hk69 hk70
    refine L_pu (P_assign (.slice A63 n64 c65) rfl) ?_
    refine L_nil ?_
    refine W_reg ?_
    refine L_pu (P_move (vi i2) rfl) ?_
    obtain ⟨hb73, H⟩ := H
    have hi72 : I64 (i2 + 1) := i64_succ (of_decide_eq_true hq42) hl41 hb73
    refine L_pu (P_add i2 1 rfl rfl hi72) ?_
    refine L_pu (P_assign (vi (i2 + 1)) rfl) ?_
    refine L_nil ?_
    have h74 := Ow.gv (L := [blk (.slice A63 n64 c65)]) (O := O) h66 hc71 (i := 0) rfl
    have hc75 := hc71.drop 0 rfl
    obtain ⟨hI77, hm78⟩ := H
    have h79 := ((h33.st (.owns _ g62 hk70)).st (.dr _ (L := [blk (.slice A63 n64 c65)]) (O := O) (j := 0) rfl))
    exact ⟨(r, A63, n64, c65, i2 + 1), hm78, hI77, ⟨rfl, rfl, rfl, trivial⟩, hc75, h79, h74⟩
  · have H := ite_f H hq42
    refine W_exit (xin_hit ?_)
    refine W_seq ?_
    refine W_reg ?_
    refine L_lit (kd := Kd.str) ei72 hc32 ([] : List Str) (cells := []) rfl (fun _ => by kernel_rfl) fun w80 A81 n82 c83 g84 hr85 hc86 h87 => ?_
    refine L_pu (P_assign (.slice A81 n82 c83) rfl) ?_
    refine L_nil ?_
    refine W_seq ?_
    refine W_seq ?_
    refine W_reg ?_
    refine L_pu (P_assign (vi 0) rfl) ?_
    refine L_nil ?_
    refine W_block ?_
    obtain ⟨I113, mu114, hI115, H⟩ := H
    refine W_loop (α := (List Str) × (Option Addr) × Nat × Nat × Int) (fun (sv__ : (List Str) × (Option Addr) × Nat × Nat × Int) t w104 => match sv__ with | (xs2, A106, n107, c108, i4) => I113 xs2 i4 ∧ Has t [(5, .slice A28 n29 c30), (7, .slice A106 n107 c108), (8, vi i4)] ∧ Ct [] w0 w104 [blk (.slice A106 n107 c108)] O ∧ Sl kFeat w104 (Fr ([blk (.slice A106 n107 c108)] ++ O)) (.slice A28 n29 c30) s2 ∧ Ow Kd.str 9 w104 ([blk (.slice A106 n107 c108)] ++ O) (.slice A106 n107 c108) xs2) (fun (sv__ : (List Str) × (Option Addr) × Nat × Nat × Int) => match sv__ with | (xs2, _, _, _, i4) => mu114 xs2 i4) (([] : List Str), A81, n82, c83, 0) ⟨hI115, ⟨rfl, rfl, rfl, trivial⟩, hc86, (h34.st (.own _ _ g84 hr85)), h87⟩ ?_
    rintro ⟨xs2, A106, n107, c108, i4⟩ _ w104 ⟨hI115, hh117, hc110, h111, h112⟩
    obtain ⟨u118, rfl⟩ := Has.ins hh117
    have H := H xs2 i4 hI115
    refine W_seq ?_
    refine W_seq ?_
    refine W_reg ?_
    refine L_pu (P_move (vi i4) rfl) ?_
    refine L_pu (P_move (.slice A28 n29 c30) rfl) ?_
    have hl119 := h111.le
    refine L_pu (P_len Try.underlying52 A28 n29 c30 h111.len rfl) ?_
    refine L_pu (P_cmp i4 (s2.length : Int) (decide (i4 < (s2.length : Int))) rfl rfl rfl) ?_
    refine L_nil ?_
    refine W_cond (decide (i4 < (s2.length : Int))) rfl (fun hq120 => ?_) (fun hq120 => ?_)
    · have H := ite_t H hq120
      refine W_skip ?_
      refine W_seq ?_
      refine W_block ?_
      refine W_reg ?_
      refine L_pu (P_move (.slice A106 n107 c108) rfl) ?_
      refine L_pu (P_move (.slice A28 n29 c30) rfl) ?_
      refine L_pu (P_move (vi i4) rfl) ?_
      obtain ⟨hb121, H⟩ := H
      obtain ⟨ad122, cs123, hA124, hS127, hR125, hcl126⟩ := h111.get default (by decide) i4 hb121
      obtain ⟨A129, n130, c131, A134, n135, c136, rfl, hs128, h132, h137⟩ := kFeat.op hR125
      refine L_pu (P_ia Try.underlying52 se52 A28 ad122 n29 c30 h111.len i4 rfl hA124 rfl hb121) ?_
      refine L_pu (P_fa fa71_0 (ad122.add (i4.toNat * 4)) ((ad122.add (i4.toNat * 4)).add 0) rfl rfl) ?_
      refine L_pu (P_ld ag9 cL ((ad122.add (i4.toNat * 4)).add 0) (vs ((nth s2 i4).Id)) rfl (hcl126 0 _ rfl)) ?_
      refine L_lit (kd := Kd.str) ei72 hc110 ([(nth s2 i4).Id] : List Str) (cells := [vs ((nth s2 i4).Id)]) ⟨[vs ((nth s2 i4).Id)], _, rfl, ⟨rfl, hs128⟩, rfl⟩ (fun _ => by kernel_rfl) fun w139 A140 n141 c142 g143 hr144 hc145 h146 => ?_
      obtain ⟨hb148, H⟩ := H
      have h149 := (h112.so _ g143 hr144)
      refine L_app ei72 hc145 (.slice A106 n107 c108) xs2 ([(nth s2 i4).Id] : List Str) rfl h149 (.slice A140 n141 c142) rfl h146.sx 1 rfl hb148 fun w150 A151 n152 c153 g154 s155 hc156 h157 => ?_
      refine L_pu (P_assign (.slice A151 n152 c153) rfl) ?_
      refine L_nil ?_
      refine W_reg ?_
      refine L_pu (P_move (vi i4) rfl) ?_
      obtain ⟨hb160, H⟩ := H
      have hi159 : I64 (i4 + 1) := i64_succ (of_decide_eq_true hq120) hl119 hb160
      refine L_pu (P_add i4 1 rfl rfl hi159) ?_
      refine L_pu (P_assign (vi (i4 + 1)) rfl) ?_
      refine L_nil ?_
      have hc161 := hc156.drop 0 rfl
      obtain ⟨hI162, hm163⟩ := H
      have h164 := (((h111.st (.own _ _ g143 hr144)).st s155).st (.dr _ (L := [blk (.slice A140 n141 c142), blk (.slice A151 n152 c153)]) (O := O) (j := 0) rfl))
      have h165 := (Ow.sd (L := [blk (.slice A140 n141 c142), blk (.slice A151 n152 c153)]) (O := O) h157 (i := 1) rfl (j := 0) rfl (by decide))
      exact ⟨((xs2 ++ ([(nth s2 i4).Id] : List Str)), A151, n152, c153, i4 + 1), hm163, hI162, ⟨rfl, rfl, rfl, trivial⟩, hc161, h164, h165⟩
    · have H := ite_f H hq120
      refine W_exit (xin_hit ?_)
      refine W_seq ?_
      refine W_reg ?_
      refine L_pu (P_move (.slice A106 n107 c108) rfl) ?_
      refine L_pu (P_assign (.slice A106 n107 c108) rfl) ?_
      refine L_nil ?_
      refine W_ret ?_
      exact ⟨[.slice A106 n107 c108], ⟨_, rfl, rfl⟩, xs2, A106, n107, c108, rfl, H, hc110.gr.g0, hc110.ok, hc110.ge, h112⟩
end Go.Proofs.Ytndjggncgpjolaa

namespace Go.Proofs.Ytndjggncgpjolaa
set_option linter.unusedVariables false
set_option linter.unusedSimpArgs false
set_option linter.unusedSectionVars false
theorem spec_l4Ids.law (a b : List Feat) (Q : List Str → Prop) (ha : a.length ≤ 1000) (hb : b.length ≤ 1000) (hs : SS (ids a)) (hq : Q (uniq (ids a ++ ids b))) : spec_l4Ids.E a b Q := by
  unfold spec_l4Ids.E
  refine ⟨fun s i => ∃ u : Nat, i = u ∧ u ≤ b.length ∧ SS (ids s) ∧ (∀ x, x ∈ ids s ↔ x ∈ ids a ∨ x ∈ ids (b.take u)) ∧ s.length ≤ a.length + u, fun _ i => (b.length - i).toNat, ⟨0, rfl, Nat.zero_le _, hs, by simp [ids], by omega⟩, ?_⟩
  rintro s _ ⟨u, rfl, hu, h1, h2, h3⟩
  by_cases h : u < b.length
  · rw [if_pos (by simpa using h)]
    refine ⟨by omega, spec_l3Put.law _ _ _ (by omega) h1 fun r r1 r2 r3 _ => ⟨by omega, ⟨u + 1, by omega, by omega, r1, fun x => ?_, by omega⟩, by dsimp only; omega⟩⟩
    rw [r2, h2, ids_take h, List.mem_append, List.mem_singleton]
    constructor
    · rintro ((hx | hx) | hx)
      · exact .inl hx
      · exact .inr (.inl hx)
      · exact .inr (.inr hx)
    · rintro (hx | hx | hx)
      · exact .inl (.inl hx)
      · exact .inl (.inr hx)
      · exact .inr hx
  · rw [if_neg (by simpa using h)]
    have : u = b.length := by omega
    subst this
    rw [List.take_length] at h2
    have e : ids s = uniq (ids a ++ ids b) := SS.ext h1 (uniq_ss _) fun x => by rw [h2, uniq_mem, List.mem_append]
    rw [← e] at hq
    refine ⟨fun xs i => ∃ v : Nat, i = v ∧ v ≤ s.length ∧ xs = ids (s.take v), fun _ i => (s.length - i).toNat, ⟨0, rfl, Nat.zero_le _, rfl⟩, ?_⟩
    rintro _ _ ⟨v, rfl, hv, rfl⟩
    have hil : (ids (s.take v)).length ≤ v := by unfold ids; simp; omega
    by_cases g : v < s.length
    · rw [if_pos (by simpa using g)]
      refine ⟨by omega, by simp only [List.length_cons, List.length_nil]; omega, by omega, ⟨v + 1, by omega, by omega, ?_⟩, by dsimp only; omega⟩
      rw [ids_take g]
    · rw [if_neg (by simpa using g)]
      have : v = s.length := by omega
      subst this
      rw [List.take_length]; exact hq
end Go.Proofs.Ytndjggncgpjolaa

namespace Go.Proofs.Ytndjggncgpjolaa
open Go.RowKit
set_option linter.unusedVariables false
def spec_l3Find.E (s : List Feat) (id : Str) (Q : Int → Prop) : Prop :=
  (∃ (I19 : Int → Prop) (mu20 : Int → Nat), I19 0 ∧ ∀ (i2 : Int), I19 i2 → (if decide (i2 < (s.length : Int)) then ((0 : Int) ≤ i2 ∧ i2 < (s.length : Int)) ∧ (if ((nth s i2).Id) == id then Q i2 else (-9223372036854775808 ≤ i2) ∧ I19 (i2 + 1) ∧ mu20 (i2 + 1) < mu20 i2) else Q (-1)))
set_option maxHeartbeats 8000000 in
set_option maxRecDepth 100000 in
theorem spec_l3Find.calls {O : Ob} (w0 : World) (hO : Ok w0 O) (s : List Feat) (A1 : Option Addr) (n2 c3 : Nat) (hp4 : Sl kFeat w0 (Fr O) (.slice A1 n2 c3) s) (id : Str) (hs6 : Lim id) (Q : Int → Prop) (h : spec_l3Find.E s id Q) :
    Ret Try.prog 151 [.slice A1 n2 c3, vs id] w0 (fun v w' => ∃ (r0 : Int), v = vi r0 ∧ Q r0 ∧ Gr w0 w' none) := by
  have H : (∃ (I19 : Int → Prop) (mu20 : Int → Nat), I19 0 ∧ ∀ (i2 : Int), I19 i2 → (if decide (i2 < (s.length : Int)) then ((0 : Int) ≤ i2 ∧ i2 < (s.length : Int)) ∧ (if ((nth s i2).Id) == id then Q i2 else (-9223372036854775808 ≤ i2) ∧ I19 (i2 + 1) ∧ mu20 (i2 + 1) < mu20 i2) else Q (-1))) := h
  clear h
  have hc0 := Ct.init hO
  refine Ret_enter Try.func151 rfl 20 rfl [.tmp 4] rfl rfl ?_
  refine W_seq ?_
  refine W_reg ?_
  refine L_pu (P_assign (vi 0) rfl) ?_
  refine L_nil ?_
  refine W_seq ?_
  refine W_seq ?_
  refine W_reg ?_
  refine L_pu (P_assign (vi 0) rfl) ?_
  refine L_nil ?_
  refine W_block ?_
  obtain ⟨I19, mu20, hI21, H⟩ := H
  refine W_loop (α := Int) (fun (sv__ : Int) t w15 => match sv__ with | i2 => I19 i2 ∧ Has t [(0, .slice A1 n2 c3), (1, vs id), (5, vi i2)] ∧ Ct [] w0 w15 [] O ∧ Sl kFeat w15 (Fr ([] ++ O)) (.slice A1 n2 c3) s) (fun (sv__ : Int) => match sv__ with | i2 => mu20 i2) 0 ⟨hI21, ⟨rfl, rfl, rfl, trivial⟩, hc0, hp4⟩ ?_
  rintro i2 _ w15 ⟨hI21, hh23, hc17, h18⟩
  obtain ⟨u24, rfl⟩ := Has.ins hh23
  have H := H i2 hI21
  refine W_seq ?_
  refine W_seq ?_
  refine W_reg ?_
  refine L_pu (P_move (vi i2) rfl) ?_
  refine L_pu (P_move (.slice A1 n2 c3) rfl) ?_
  have hl25 := h18.le
  refine L_pu (P_len Try.underlying52 A1 n2 c3 h18.len rfl) ?_
  refine L_pu (P_cmp i2 (s.length : Int) (decide (i2 < (s.length : Int))) rfl rfl rfl) ?_
  refine L_nil ?_
  refine W_cond (decide (i2 < (s.length : Int))) rfl (fun hq26 => ?_) (fun hq26 => ?_)
  · have H := ite_t H hq26
    refine W_skip ?_
    refine W_seq ?_
    refine W_block ?_
    refine W_seq ?_
    refine W_reg ?_
    refine L_pu (P_move (.slice A1 n2 c3) rfl) ?_
    refine L_pu (P_move (vi i2) rfl) ?_
    obtain ⟨hb27, H⟩ := H
    obtain ⟨ad28, cs29, hA30, hS33, hR31, hcl32⟩ := h18.get default (by decide) i2 hb27
    obtain ⟨A35, n36, c37, A40, n41, c42, rfl, hs34, h38, h43⟩ := kFeat.op hR31
    refine L_pu (P_ia Try.underlying52 se52 A1 ad28 n2 c3 h18.len i2 rfl hA30 rfl hb27) ?_
    refine L_pu (P_fa fa71_0 (ad28.add (i2.toNat * 4)) ((ad28.add (i2.toNat * 4)).add 0) rfl rfl) ?_
    refine L_pu (P_ld ag9 cL ((ad28.add (i2.toNat * 4)).add 0) (vs ((nth s i2).Id)) rfl (hcl32 0 _ rfl)) ?_
    refine L_pu (P_move (vs id) rfl) ?_
    refine L_pu (P_scmp ((nth s i2).Id) id (((nth s i2).Id) == id) rfl rfl rfl) ?_
    refine L_nil ?_
    refine W_cond (((nth s i2).Id) == id) rfl (fun hq45 => ?_) (fun hq45 => ?_)
    · have H := ite_t H hq45
      refine W_seq ?_
      refine W_reg ?_
      refine L_pu (P_move (vi i2) rfl) ?_
      refine L_pu (P_assign (vi i2) rfl) ?_
      refine L_nil ?_
      refine W_ret ?_
      exact ⟨[vi i2], ⟨_, rfl, rfl⟩, i2, rfl, H, hc17.gr.g0⟩
    · have H := ite_f H hq45
      refine W_skip ?_
      refine W_reg ?_
      refine L_pu (P_move (vi i2) rfl) ?_
      obtain ⟨hb47, H⟩ := H
      have hi46 : I64 (i2 + 1) := i64_succ (of_decide_eq_true hq26) hl25 hb47
      refine L_pu (P_add i2 1 rfl rfl hi46) ?_
      refine L_pu (P_assign (vi (i2 + 1)) rfl) ?_
      refine L_nil ?_
      obtain ⟨hI48, hm49⟩ := H
      exact ⟨i2 + 1, hm49, hI48, ⟨rfl, rfl, rfl, trivial⟩, hc17, h18⟩
  · have H := ite_f H hq26
    refine W_exit (xin_hit ?_)
    refine W_seq ?_
    refine W_reg ?_
    refine L_pu (P_assign (vi (-1)) rfl) ?_
    refine L_nil ?_
    refine W_ret ?_
    exact ⟨[vi (-1)], ⟨_, rfl, rfl⟩, (-1), rfl, H, hc17.gr.g0⟩
end Go.Proofs.Ytndjggncgpjolaa

namespace Go.Proofs.Ytndjggncgpjolaa
set_option linter.unusedVariables false
set_option linter.unusedSimpArgs false
set_option linter.unusedSectionVars false
theorem spec_l3Find.law (s : List Feat) (id : Str) (Q : Int → Prop) (hq : Q (findN s.length fun j => (nth s (j : Int)).Id == id)) : spec_l3Find.E s id Q := by
  unfold spec_l3Find.E
  refine loop_find s.length (fun j => (nth s (j : Int)).Id == id) hq (fun I mu k hk h1 h2 => ⟨by omega, ?_⟩)
  cases h : (nth s (k : Int)).Id == id with
  | true => rw [if_pos rfl]; exact h1 h
  | false => rw [if_neg (by decide)]; obtain ⟨i1, i2⟩ := h2 h; exact ⟨by omega, i1, i2⟩
end Go.Proofs.Ytndjggncgpjolaa

namespace Go.Proofs.Ytndjggncgpjolaa
open Go.RowKit
set_option linter.unusedVariables false
def spec_l1Copy.E (s : Shape) (Q : Shape → Prop) : Prop :=
  (([] : List Pt).length + s.Pts.length ≤ 268435456) ∧ Q (⟨s.Kind, (([] : List Pt) ++ s.Pts)⟩ : Shape)
set_option maxHeartbeats 8000000 in
set_option maxRecDepth 100000 in
theorem spec_l1Copy.calls {O : Ob} (w0 : World) (hO : Ok w0 O) (s : Shape) (A1 : Option Addr) (n2 c3 : Nat) (hp4 : Sl kPt w0 (Fr O) (.slice A1 n2 c3) s.Pts) (Q : Shape → Prop) (h : spec_l1Copy.E s Q) :
    Ret Try.prog 125 [.agg #[vi s.Kind, .slice A1 n2 c3]] w0 (fun v w' => ∃ (r0 : Shape) (A0 : Option Addr) (n0 c0 : Nat), v = .agg #[vi r0.Kind, .slice A0 n0 c0] ∧ Q r0 ∧ Gr w0 w' none ∧ Ok w' ([blk (.slice A0 n0 c0)] ++ O) ∧ (∀ b, some b ∈ [blk (.slice A0 n0 c0)] → w0.heap.size ≤ b) ∧ Ow kPt 29 w' ([blk (.slice A0 n0 c0)] ++ O) (.slice A0 n0 c0) r0.Pts) := by
  have H : (([] : List Pt).length + s.Pts.length ≤ 268435456) ∧ Q (⟨s.Kind, (([] : List Pt) ++ s.Pts)⟩ : Shape) := h
  clear h
  have hc0 := Ct.init hO
  refine Ret_enter Try.func125 rfl 10 rfl [.cell 2 68] rfl rfl ?_
  refine W_seq ?_
  refine W_reg ?_
  refine L_box [vi s.Kind, .slice A1 n2 c3] rfl fun w6 b7 hl9 hu10 g8 hx11 => ?_
  have h13 := Fb.mk hc0.ok hl9 hx11
  have hc14 := hc0.k0 g8
  refine L_alloc [.int .i64 0, .slice none 0 0] ze68 fun w15 b16 hl18 hu19 g17 hx20 => ?_
  have hc22 := hc14.own g17 (some b16) (oglt hl18 hu19)
  refine L_nil ?_
  refine W_seq ?_
  refine W_mixr 8 [some b16] (by kernel_rfl) rfl fun w23 g24 hM25 => ?_
  have hc26 := hc22.k0 g24
  refine M_pu 0 rfl (by kernel_rfl) hM25 (P_fa fa68_0 ⟨b7, 0, none⟩ ⟨b7, 0, none⟩ rfl rfl) ?_
  have h27 := ((h13.st (.own _ _ g17 (oge hl18))).st (.new _ g24))
  refine M_pu 1 rfl (by kernel_rfl) hM25 (P_ldr ag3 cR ⟨b7, 0, none⟩ (vi s.Kind) rfl (h27.cell rfl) (nm_cons (fr_ne (L := [some b16]) (O := O) (i := 0) h27.2 rfl) nm_nil)) ?_
  refine M_pu 3 rfl (by kernel_rfl) hM25 (P_fa fa68_1 ⟨b7, 0, none⟩ ⟨b7, 1, none⟩ rfl rfl) ?_
  refine M_pu 4 rfl (by kernel_rfl) hM25 (P_ldr ag23 cR ⟨b7, 1, none⟩ (.slice A1 n2 c3) rfl (h27.cell rfl) (nm_cons (fr_ne (L := [some b16]) (O := O) (i := 0) h27.2 rfl) nm_nil)) ?_
  refine M_any1 2 (by kernel_rfl) rfl ?_
  refine L_lit (kd := kPt) ei23 hc26 ([] : List Pt) (cells := []) rfl (fun _ => by kernel_rfl) fun w28 A29 n30 c31 g32 hr33 hc34 h35 => ?_
  have hM37 := Gm.tm hM25 g32
  refine L_nil ⟨hM37, ?_⟩
  refine M_any1 5 (by kernel_rfl) rfl ?_
  obtain ⟨hb38, H⟩ := H
  refine L_app ei23 hc34 (.slice A29 n30 c31) ([] : List Pt) s.Pts rfl h35 (.slice A1 n2 c3) rfl (hp4.st hc34.st).sx 0 rfl hb38 fun w39 A40 n41 c42 g43 s44 hc45 h46 => ?_
  have hM47 := Gm.tq hM37 g43 (hv_new hM25 hr33)
  have hv48 := hv_app (L := [blk (.slice A29 n30 c31), some b16]) (O := O) (i := 0) hM37 rfl (hv_new hM25 hr33) s44 hc45
  refine L_nil ⟨hM47, ?_⟩
  refine M_pu 6 rfl (by kernel_rfl) hM47 (P_build (.agg #[vi s.Kind, .slice A40 n41 c42]) (fun _ => by kernel_rfl)) ?_
  refine M_any1 7 (by kernel_rfl) rfl ?_
  have h53 := (Bx.sm (L := [blk (.slice A29 n30 c31), some b16]) (O := O) ((hx20.k0 g24).k0 g32) hc34 (i := 1) rfl (j := 0) rfl (by decide) g43)
  refine L_stb b16 0 [vi 0, .slice none 0 0] [vi s.Kind, .slice A40 n41 c42] [vi s.Kind, .slice A40 n41 c42] rfl h53 rfl sz68 rfl rfl rfl fun w50 g51 hx52 => ?_
  have hc54 := hc45.wr 1 rfl g51
  have hM55 := Gm.tq hM47 g51 (hv_mem 0 rfl)
  refine L_nil ⟨hM55, ?_⟩
  refine M_nil (by kernel_rfl) ?_
  refine W_ret ?_
  have h56 := Bx.gv (L := [blk (.slice A40 n41 c42), some b16]) (O := O) hx52 hc54 (i := 1) rfl
  have hc57 := hc54.drop 1 rfl
  have h58 := (Ow.sd (L := [blk (.slice A40 n41 c42), some b16]) (O := O) (Ow.sw (L := [blk (.slice A40 n41 c42), some b16]) (O := O) h46 hc45 (i := 0) rfl (j := 1) rfl (by decide) g51) (i := 0) rfl (j := 1) rfl (by decide))
  exact ⟨[.agg #[vi s.Kind, .slice A40 n41 c42]], ⟨_, _, rfl, h56.1.res rfl ag68 sz68, rfl⟩, (⟨s.Kind, (([] : List Pt) ++ s.Pts)⟩ : Shape), A40, n41, c42, rfl, H, hc57.gr.g0, hc57.ok, hc57.ge, h58⟩
end Go.Proofs.Ytndjggncgpjolaa

namespace Go.Proofs.Ytndjggncgpjolaa
open Go.RowKit
set_option linter.unusedVariables false
def spec_l2Copy.E (f : Feat) (Q : Feat → Prop) : Prop :=
  (([] : List Tag).length + f.Tags.length ≤ 268435456) ∧ spec_l1Copy.E f.Shape (fun r => Q (⟨f.Id, r, (([] : List Tag) ++ f.Tags)⟩ : Feat))
set_option maxHeartbeats 8000000 in
set_option maxRecDepth 100000 in
theorem spec_l2Copy.calls {O : Ob} (w0 : World) (hO : Ok w0 O) (f : Feat) (A2 : Option Addr) (n3 c4 : Nat) (A7 : Option Addr) (n8 c9 : Nat) (hs1 : Lim f.Id) (hp5 : Sl kPt w0 (Fr O) (.slice A2 n3 c4) f.Shape.Pts) (hp10 : Sl kTag w0 (Fr O) (.slice A7 n8 c9) f.Tags) (Q : Feat → Prop) (h : spec_l2Copy.E f Q) :
    Ret Try.prog 80 [.agg #[vs f.Id, vi f.Shape.Kind, .slice A2 n3 c4, .slice A7 n8 c9]] w0 (fun v w' => ∃ (r0 : Feat) (A0 : Option Addr) (n0 c0 : Nat) (A2 : Option Addr) (n2 c2 : Nat), v = .agg #[vs r0.Id, vi r0.Shape.Kind, .slice A0 n0 c0, .slice A2 n2 c2] ∧ Q r0 ∧ Gr w0 w' none ∧ Ok w' ([blk (.slice A0 n0 c0), blk (.slice A2 n2 c2)] ++ O) ∧ (∀ b, some b ∈ [blk (.slice A0 n0 c0), blk (.slice A2 n2 c2)] → w0.heap.size ≤ b) ∧ Lim r0.Id ∧ Ow kPt 29 w' ([blk (.slice A0 n0 c0), blk (.slice A2 n2 c2)] ++ O) (.slice A0 n0 c0) r0.Shape.Pts ∧ Ow kTag 133 w' ([blk (.slice A0 n0 c0), blk (.slice A2 n2 c2)] ++ O) (.slice A2 n2 c2) r0.Tags) := by
  have H : (([] : List Tag).length + f.Tags.length ≤ 268435456) ∧ spec_l1Copy.E f.Shape (fun r => Q (⟨f.Id, r, (([] : List Tag) ++ f.Tags)⟩ : Feat)) := h
  clear h
  have hc0 := Ct.init hO
  refine Ret_enter Try.func80 rfl 13 rfl [.cell 2 71] rfl rfl ?_
  refine W_seq ?_
  refine W_reg ?_
  refine L_box [vs f.Id, vi f.Shape.Kind, .slice A2 n3 c4, .slice A7 n8 c9] rfl fun w12 b13 hl15 hu16 g14 hx17 => ?_
  have h19 := Fb.mk hc0.ok hl15 hx17
  have hc20 := hc0.k0 g14
  refine L_alloc [vs [], .int .i64 0, .slice none 0 0, .slice none 0 0] ze71 fun w21 b22 hl24 hu25 g23 hx26 => ?_
  have hc28 := hc20.own g23 (some b22) (oglt hl24 hu25)
  refine L_nil ?_
  refine W_seq ?_
  refine W_mixr 11 [some b22] (by kernel_rfl) rfl fun w29 g30 hM31 => ?_
  have hc32 := hc28.k0 g30
  obtain ⟨hb33, H⟩ := H
  refine M_pu 0 rfl (by kernel_rfl) hM31 (P_fa fa71_0 ⟨b13, 0, none⟩ ⟨b13, 0, none⟩ rfl rfl) ?_
  have h34 := ((h19.st (.own _ _ g23 (oge hl24))).st (.new _ g30))
  refine M_pu 1 rfl (by kernel_rfl) hM31 (P_ldr ag9 cR ⟨b13, 0, none⟩ (vs f.Id) rfl (h34.cell rfl) (nm_cons (fr_ne (L := [some b22]) (O := O) (i := 0) h34.2 rfl) nm_nil)) ?_
  refine M_pu 2 rfl (by kernel_rfl) hM31 (P_fa fa71_1 ⟨b13, 0, none⟩ ⟨b13, 1, none⟩ rfl rfl) ?_
  refine M_pu 3 rfl (by kernel_rfl) hM31 (P_ldar ag68 sz68 cR ⟨b13, 1, none⟩ [vi f.Shape.Kind, .slice A2 n3 c4] rfl rfl (h34.cells (off := 1) rfl) (nm_cons (fr_ne (L := [some b22]) (O := O) (i := 0) h34.2 rfl) nm_nil)) ?_
  refine M_pu 6 rfl (by kernel_rfl) hM31 (P_fa fa71_2 ⟨b13, 0, none⟩ ⟨b13, 3, none⟩ rfl rfl) ?_
  refine M_pu 7 rfl (by kernel_rfl) hM31 (P_ldr ag69 cR ⟨b13, 3, none⟩ (.slice A7 n8 c9) rfl (h34.cell rfl) (nm_cons (fr_ne (L := [some b22]) (O := O) (i := 0) h34.2 rfl) nm_nil)) ?_
  refine M_any2 4 5 (by kernel_rfl) rfl rfl ?_ ?_
  · refine L_call go125 [.agg #[vi f.Shape.Kind, .slice A2 n3 c4]] rfl ((spec_l1Copy.calls w29 hc32.ok f.Shape A2 n3 c4 (hp5.st hc32.st) _ H).mono ?_)
    rintro _ w35 ⟨r, A37, n38, c39, rfl, H, g36, hk43, hk44, h40⟩
    have hc45 := hc32.owns g36 hk43 hk44
    have hM46 := Gm.tm hM31 g36
    refine L_nil ⟨hM46, ?_⟩
    refine M_any1 5 (by kernel_rfl) rfl ?_
    refine L_lit (kd := kTag) ei69 hc45 ([] : List Tag) (cells := []) rfl (fun _ => by kernel_rfl) fun w47 A48 n49 c50 g51 hr52 hc53 h54 => ?_
    have hM56 := Gm.tm hM46 g51
    refine L_nil ⟨hM56, ?_⟩
    refine M_any1 8 (by kernel_rfl) rfl ?_
    refine L_app ei69 hc53 (.slice A48 n49 c50) ([] : List Tag) f.Tags rfl h54 (.slice A7 n8 c9) rfl (hp10.st hc53.st).sx 0 rfl hb33 fun w57 A58 n59 c60 g61 s62 hc63 h64 => ?_
    have hM65 := Gm.tq hM56 g61 (hv_new hM46 hr52)
    have hv66 := hv_app (L := [blk (.slice A48 n49 c50), blk (.slice A37 n38 c39), some b22]) (O := O) (i := 0) hM56 rfl (hv_new hM46 hr52) s62 hc63
    refine L_nil ⟨hM65, ?_⟩
    refine M_pu 9 rfl (by kernel_rfl) hM65 (P_build (.agg #[vs f.Id, vi r.Kind, .slice A37 n38 c39, .slice A58 n59 c60]) (fun _ => by kernel_rfl)) ?_
    refine M_any1 10 (by kernel_rfl) rfl ?_
    have h71 := (Bx.sm (L := [blk (.slice A48 n49 c50), blk (.slice A37 n38 c39), some b22]) (O := O) (((hx26.k0 g30).k0 g36).k0 g51) hc53 (i := 2) rfl (j := 0) rfl (by decide) g61)
    refine L_stb b22 0 [vs ([] : Str), vi 0, .slice none 0 0, .slice none 0 0] [vs f.Id, vi r.Kind, .slice A37 n38 c39, .slice A58 n59 c60] [vs f.Id, vi r.Kind, .slice A37 n38 c39, .slice A58 n59 c60] rfl h71 rfl sz71 rfl rfl rfl fun w68 g69 hx70 => ?_
    have hc72 := hc63.wr 2 rfl g69
    have hM73 := Gm.tq hM65 g69 (hv_mem 0 rfl)
    refine L_nil ⟨hM73, ?_⟩
    refine M_nil (by kernel_rfl) ?_
    refine W_ret ?_
    have h74 := Bx.gv (L := [blk (.slice A58 n59 c60), blk (.slice A37 n38 c39), some b22]) (O := O) hx70 hc72 (i := 2) rfl
    have hc75 := hc72.drop 2 rfl
    have hc76 := hc75.perm (.swap _ _ _)
    have h77 := (h74.st (.perm (L := [blk (.slice A58 n59 c60), blk (.slice A37 n38 c39)]) (O := O) (.swap _ _ _)))
    have h78 := (Ow.sp (L := [blk (.slice A58 n59 c60), blk (.slice A37 n38 c39)]) (O := O) (Ow.sd (L := [blk (.slice A58 n59 c60), blk (.slice A37 n38 c39), some b22]) (O := O) (Ow.sw (L := [blk (.slice A58 n59 c60), blk (.slice A37 n38 c39), some b22]) (O := O) (Ow.sm (L := [blk (.slice A48 n49 c50), blk (.slice A37 n38 c39), some b22]) (O := O) (h40.so _ g51 hr52) hc53 (i := 1) rfl (j := 0) rfl (by decide) g61 s62) hc63 (i := 1) rfl (j := 2) rfl (by decide) g69) (i := 1) rfl (j := 2) rfl (by decide)) (.swap _ _ _))
    have h79 := (Ow.sp (L := [blk (.slice A58 n59 c60), blk (.slice A37 n38 c39)]) (O := O) (Ow.sd (L := [blk (.slice A58 n59 c60), blk (.slice A37 n38 c39), some b22]) (O := O) (Ow.sw (L := [blk (.slice A58 n59 c60), blk (.slice A37 n38 c39), some b22]) (O := O) h64 hc63 (i := 0) rfl (j := 2) rfl (by decide) g69) (i := 0) rfl (j := 2) rfl (by decide)) (.swap _ _ _))
    exact ⟨[.agg #[vs f.Id, vi r.Kind, .slice A37 n38 c39, .slice A58 n59 c60]], ⟨_, _, rfl, h77.1.res rfl ag71 sz71, rfl⟩, (⟨f.Id, r, (([] : List Tag) ++ f.Tags)⟩ : Feat), A37, n38, c39, A58, n59, c60, rfl, H, hc76.gr.g0, hc76.ok, hc76.ge, hs1, h78, h79⟩
  · refine L_lit (kd := kTag) ei69 hc32 ([] : List Tag) (cells := []) rfl (fun _ => by kernel_rfl) fun w35 A36 n37 c38 g39 hr40 hc41 h42 => ?_
    have hM44 := Gm.tm hM31 g39
    refine L_nil ⟨hM44, ?_⟩
    refine M_any1 4 (by kernel_rfl) rfl ?_
    refine L_call go125 [.agg #[vi f.Shape.Kind, .slice A2 n3 c4]] rfl ((spec_l1Copy.calls w35 hc41.ok f.Shape A2 n3 c4 (hp5.st hc41.st) _ H).mono ?_)
    rintro _ w45 ⟨r, A47, n48, c49, rfl, H, g46, hk53, hk54, h50⟩
    have hc55 := hc41.owns g46 hk53 hk54
    have hM56 := Gm.tm hM44 g46
    refine L_nil ⟨hM56, ?_⟩
    refine M_any1 8 (by kernel_rfl) rfl ?_
    have h57 := (h42.sos g46 hk54)
    refine L_app ei69 hc55 (.slice A36 n37 c38) ([] : List Tag) f.Tags rfl h57 (.slice A7 n8 c9) rfl (hp10.st hc55.st).sx 1 rfl hb33 fun w58 A59 n60 c61 g62 s63 hc64 h65 => ?_
    have hM66 := Gm.tq hM56 g62 (hv_new hM31 hr40)
    have hv67 := hv_app (L := [blk (.slice A47 n48 c49), blk (.slice A36 n37 c38), some b22]) (O := O) (i := 1) hM56 rfl (hv_new hM31 hr40) s63 hc64
    refine L_nil ⟨hM66, ?_⟩
    refine M_pu 9 rfl (by kernel_rfl) hM66 (P_build (.agg #[vs f.Id, vi r.Kind, .slice A47 n48 c49, .slice A59 n60 c61]) (fun _ => by kernel_rfl)) ?_
    refine M_any1 10 (by kernel_rfl) rfl ?_
    have h72 := (Bx.sm (L := [blk (.slice A47 n48 c49), blk (.slice A36 n37 c38), some b22]) (O := O) (((hx26.k0 g30).k0 g39).k0 g46) hc55 (i := 2) rfl (j := 1) rfl (by decide) g62)
    refine L_stb b22 0 [vs ([] : Str), vi 0, .slice none 0 0, .slice none 0 0] [vs f.Id, vi r.Kind, .slice A47 n48 c49, .slice A59 n60 c61] [vs f.Id, vi r.Kind, .slice A47 n48 c49, .slice A59 n60 c61] rfl h72 rfl sz71 rfl rfl rfl fun w69 g70 hx71 => ?_
    have hc73 := hc64.wr 2 rfl g70
    have hM74 := Gm.tq hM66 g70 (hv_mem 0 rfl)
    refine L_nil ⟨hM74, ?_⟩
    refine M_nil (by kernel_rfl) ?_
    refine W_ret ?_
    have h75 := Bx.gv (L := [blk (.slice A47 n48 c49), blk (.slice A59 n60 c61), some b22]) (O := O) hx71 hc73 (i := 2) rfl
    have hc76 := hc73.drop 2 rfl
    have h77 := (Ow.sd (L := [blk (.slice A47 n48 c49), blk (.slice A59 n60 c61), some b22]) (O := O) (Ow.sw (L := [blk (.slice A47 n48 c49), blk (.slice A59 n60 c61), some b22]) (O := O) (Ow.sm (L := [blk (.slice A47 n48 c49), blk (.slice A36 n37 c38), some b22]) (O := O) h50 hc55 (i := 0) rfl (j := 1) rfl (by decide) g62 s63) hc64 (i := 0) rfl (j := 2) rfl (by decide) g70) (i := 0) rfl (j := 2) rfl (by decide))
    have h78 := (Ow.sd (L := [blk (.slice A47 n48 c49), blk (.slice A59 n60 c61), some b22]) (O := O) (Ow.sw (L := [blk (.slice A47 n48 c49), blk (.slice A59 n60 c61), some b22]) (O := O) h65 hc64 (i := 1) rfl (j := 2) rfl (by decide) g70) (i := 1) rfl (j := 2) rfl (by decide))
    exact ⟨[.agg #[vs f.Id, vi r.Kind, .slice A47 n48 c49, .slice A59 n60 c61]], ⟨_, _, rfl, h75.1.res rfl ag71 sz71, rfl⟩, (⟨f.Id, r, (([] : List Tag) ++ f.Tags)⟩ : Feat), A47, n48, c49, A59, n60, c61, rfl, H, hc76.gr.g0, hc76.ok, hc76.ge, hs1, h77, h78⟩
end Go.Proofs.Ytndjggncgpjolaa

namespace Go.Proofs.Ytndjggncgpjolaa
set_option linter.unusedVariables false
set_option linter.unusedSimpArgs false
set_option linter.unusedSectionVars false
/-! what marks are put, and where -/
def decA : Nat → Int → Str → Str
  | 0, _, out => out
  | f + 1, k, out => if 0 < k then decA f (k / 10) (UInt8.ofNat (48 + k % 10).toNat :: out) else out
theorem decA_stop (f : Nat) {k : Int} (h : ¬ 0 < k) (out : Str) : decA f k out = out := by
  cases f with
  | zero => rfl
  | succ f => unfold decA; rw [if_neg h]
/-- the text of a mark -/
def tx (k : Int) : Str := if k ≤ 0 then [109, 48] else [109] ++ decA k.toNat k []
def mkL {α : Type} (g : α → Int → α × Int) : List α → Int → List α × Int
  | [], k => ([], k)
  | x :: l, k => ((g x k).1 :: (mkL g l (g x k).2).1, (mkL g l (g x k).2).2)
section
variable {α : Type} {g : α → Int → α × Int}
theorem mkL_snoc (x : α) : ∀ (l : List α) (k : Int), mkL g (l ++ [x]) k = ((mkL g l k).1 ++ [(g x (mkL g l k).2).1], (g x (mkL g l k).2).2)
  | [], k => rfl
  | y :: l, k => by
    rw [List.cons_append, mkL, mkL_snoc x l]; rfl
theorem mkL_len : ∀ (l : List α) (k : Int), (mkL g l k).1.length = l.length
  | [], k => rfl
  | y :: l, k => by rw [mkL, List.length_cons, List.length_cons, mkL_len l]
theorem mkL_bd [Bulk α] (hb : ∀ x k, k ≤ (g x k).2 ∧ (g x k).2 ≤ k + 8 * (1 + (bulk x : Nat))) : ∀ (l : List α) (k : Int), k ≤ (mkL g l k).2 ∧ (mkL g l k).2 ≤ k + 8 * (bulk l : Nat)
  | [], k => ⟨Int.le_refl _, by simp [mkL, bulk_nil]⟩
  | y :: l, k => by
    have h1 := hb y k
    have h2 := mkL_bd hb l (g y k).2
    rw [bulk_cons, mkL]
    exact ⟨by dsimp only; omega, by dsimp only; omega⟩
theorem mkL_app : ∀ (l m : List α) (k : Int), mkL g (l ++ m) k = ((mkL g l k).1 ++ (mkL g m (mkL g l k).2).1, (mkL g m (mkL g l k).2).2)
  | [], m, k => rfl
  | y :: l, m, k => by rw [List.cons_append, mkL, mkL_app l]; rfl
variable [Inhabited α]
def Mk (g : α → Int → α × Int) (a : List α) (k : Int) (u : Nat) (xs : List α) (k' : Int) : Prop := u ≤ a.length ∧ xs = (mkL g (a.take u) k).1 ++ a.drop u ∧ k' = (mkL g (a.take u) k).2
variable {a xs : List α} {k k' : Int} {u : Nat}
theorem Mk.zero (a : List α) (k : Int) : Mk g a k 0 a k := ⟨Nat.zero_le _, by simp [mkL], by simp [mkL]⟩
theorem Mk.len (h : Mk g a k u xs k') : xs.length = a.length := by
  rw [h.2.1, List.length_append, mkL_len, List.length_take, List.length_drop]; have := h.1; omega
theorem Mk.nth (h : Mk g a k u xs k') (hu : u < a.length) : nth xs (u : Int) = Go.Proofs.Ytndjggncgpjolaa.nth a (u : Int) := by
  rw [nth_nat xs (by rw [h.len]; exact hu), nth_nat a hu]
  have hl : (mkL g (a.take u) k).1.length = u := by rw [mkL_len, List.length_take]; omega
  have := h.2.1
  subst this
  rw [List.getElem_append_right (by omega)]
  simp [hl]
theorem Mk.next (h : Mk g a k u xs k') (hu : u < a.length) {y : α} {k'' : Int} (e : g (Go.Proofs.Ytndjggncgpjolaa.nth a (u : Int)) k' = (y, k'')) : Mk g a k (u + 1) (xs.set u y) k'' := by
  have hl : (mkL g (a.take u) k).1.length = u := by rw [mkL_len, List.length_take]; omega
  have h1 : mkL g (a.take (u + 1)) k = ((mkL g (a.take u) k).1 ++ [y], k'') := by
    rw [take_nth a hu, mkL_snoc, ← h.2.2, e]
  refine ⟨hu, ?_, by rw [h1]⟩
  rw [h1, h.2.1, List.set_append_right _ _ (by omega), hl, Nat.sub_self, List.drop_eq_getElem_cons hu, List.set_cons_zero]
  dsimp only
  rw [List.append_assoc]; rfl
theorem Mk.bd [Bulk α] (h : Mk g a k u xs k') (hb : ∀ x k, k ≤ (g x k).2 ∧ (g x k).2 ≤ k + 8 * (1 + (bulk x : Nat))) : k ≤ k' ∧ k' ≤ k + 8 * (bulk a : Nat) := by
  have h1 := mkL_bd hb (a.take u) k
  have h2 := bulk_take a u
  rw [h.2.2]
  exact ⟨h1.1, by omega⟩
theorem Mk.full (h : Mk g a k u xs k') (hu : ¬ u < a.length) : xs = (mkL g a k).1 ∧ k' = (mkL g a k).2 := by
  have : u = a.length := by have := h.1; omega
  subst this
  obtain ⟨_, h1, h2⟩ := h
  simpa using And.intro h1 h2
/-- the marks found again -/
def Hd (g : α → Int → α × Int) (a : List α) (k : Int) (u : Nat) (k' : Int) : Prop := u ≤ a.length ∧ k' = (mkL g (a.take u) k).2
theorem Hd.zero (a : List α) (k : Int) : Hd g a k 0 k := ⟨Nat.zero_le _, by simp [mkL]⟩
theorem Hd.nth (h : Hd g a k u k') (hu : u < a.length) : nth (mkL g a k).1 (u : Int) = (g (Go.Proofs.Ytndjggncgpjolaa.nth a (u : Int)) k').1 := by
  have e : a = (a.take u ++ [Go.Proofs.Ytndjggncgpjolaa.nth a (u : Int)]) ++ a.drop (u + 1) := by rw [← take_nth a hu, List.take_append_drop]
  have hl : (mkL g (a.take u) k).1.length = u := by rw [mkL_len, List.length_take]; omega
  rw [nth_nat _ (by rw [mkL_len]; exact hu)]
  have h1 : (mkL g a k).1[u]? = some (g (Go.Proofs.Ytndjggncgpjolaa.nth a (u : Int)) k').1 := by
    conv => lhs; rw [e]
    rw [mkL_app, mkL_snoc]
    dsimp only
    rw [List.append_assoc, List.getElem?_append_right (by omega), hl, Nat.sub_self, h.2]; rfl
  rw [List.getElem?_eq_getElem (by rw [mkL_len]; exact hu)] at h1
  exact Option.some.inj h1
theorem Hd.next (h : Hd g a k u k') (hu : u < a.length) : Hd g a k (u + 1) (g (Go.Proofs.Ytndjggncgpjolaa.nth a (u : Int)) k').2 := ⟨hu, by rw [take_nth a hu, mkL_snoc, h.2]⟩
theorem Hd.bd [Bulk α] (h : Hd g a k u k') (hb : ∀ x k, k ≤ (g x k).2 ∧ (g x k).2 ≤ k + 8 * (1 + (bulk x : Nat))) : k ≤ k' ∧ k' ≤ k + 8 * (bulk a : Nat) := by
  have h1 := mkL_bd hb (a.take u) k
  have h2 := bulk_take a u
  rw [h.2]
  exact ⟨h1.1, by omega⟩
theorem Hd.full (h : Hd g a k u k') (hu : ¬ u < a.length) : k' = (mkL g a k).2 := by
  have : u = a.length := by have := h.1; omega
  subst this
  simpa using h.2
end
theorem set_facts {α : Type} [Inhabited α] {xs ys : List α} {u : Nat} {y : α} (hu : u < xs.length) (e : ys = xs.set (Int.toNat (u : Int)) y) : nth ys (u : Int) = y ∧ ys.length = xs.length ∧ (∀ z, ys.set (Int.toNat (u : Int)) z = xs.set (Int.toNat (u : Int)) z) := by
  subst e
  rw [Int.toNat_natCast]
  exact ⟨by rw [nth_set _ hu, if_pos rfl], List.length_set, fun z => List.set_set ..⟩
def gInt (_ : Int) (k : Int) : Int × Int := (k, k + 1)
def gPt (_ : Pt) (k : Int) : Pt × Int := (⟨k, k + 1⟩, k + 2)
def gTag (_ : Tag) (k : Int) : Tag × Int := (⟨tx k, tx (k + 1)⟩, k + 2)
theorem gInt_bd (x : Int) (k : Int) : k ≤ (gInt x k).2 ∧ (gInt x k).2 ≤ k + 8 * (1 + (bulk x : Nat)) := by unfold gInt; exact ⟨by dsimp only; omega, by dsimp only; omega⟩
theorem gPt_bd (x : Pt) (k : Int) : k ≤ (gPt x k).2 ∧ (gPt x k).2 ≤ k + 8 * (1 + (bulk x : Nat)) := by unfold gPt; exact ⟨by dsimp only; omega, by dsimp only; omega⟩
theorem gTag_bd (x : Tag) (k : Int) : k ≤ (gTag x k).2 ∧ (gTag x k).2 ≤ k + 8 * (1 + (bulk x : Nat)) := by unfold gTag; exact ⟨by dsimp only; omega, by dsimp only; omega⟩
def gFeat (x : Feat) (k : Int) : Feat × Int :=
  (⟨tx k, ⟨k + 1, (mkL gPt x.Shape.Pts (k + 2)).1⟩, (mkL gTag x.Tags (mkL gPt x.Shape.Pts (k + 2)).2).1⟩, (mkL gTag x.Tags (mkL gPt x.Shape.Pts (k + 2)).2).2)
theorem gFeat_bd (x : Feat) (k : Int) : k ≤ (gFeat x k).2 ∧ (gFeat x k).2 ≤ k + 8 * (1 + (bulk x : Nat)) := by
  have hb : bulk x = bulk x.Id + bulk x.Shape + bulk x.Tags := rfl
  have hs : bulk x.Shape = bulk x.Shape.Kind + bulk x.Shape.Pts := rfl
  have h1 := mkL_bd gPt_bd x.Shape.Pts (k + 2)
  have h2 := mkL_bd gTag_bd x.Tags (mkL gPt x.Shape.Pts (k + 2)).2
  unfold gFeat
  exact ⟨by dsimp only; omega, by dsimp only; omega⟩
def gHead (_ : Head) (k : Int) : Head × Int := (⟨tx k, k + 1⟩, k + 2)
theorem gHead_bd (x : Head) (k : Int) : k ≤ (gHead x k).2 ∧ (gHead x k).2 ≤ k + 8 * (1 + (bulk x : Nat)) := by unfold gHead; exact ⟨by dsimp only; omega, by dsimp only; omega⟩
def gCommit (x : Commit) (k : Int) : Commit × Int :=
  (⟨(mkL gInt x.Up k).1, (mkL gFeat x.Sheet (mkL gInt x.Up k).2).1, tx (mkL gFeat x.Sheet (mkL gInt x.Up k).2).2⟩, (mkL gFeat x.Sheet (mkL gInt x.Up k).2).2 + 1)
theorem gCommit_bd (x : Commit) (k : Int) : k ≤ (gCommit x k).2 ∧ (gCommit x k).2 ≤ k + 8 * (1 + (bulk x : Nat)) := by
  have hb : bulk x = bulk x.Up + bulk x.Sheet + bulk x.Note := rfl
  have h1 := mkL_bd gInt_bd x.Up k
  have h2 := mkL_bd gFeat_bd x.Sheet (mkL gInt x.Up k).2
  unfold gCommit
  exact ⟨by dsimp only; omega, by dsimp only; omega⟩
def gChange (x : Change) (k : Int) : Change × Int :=
  (⟨tx k, (k + 1) % 3 == 0, ⟨tx (k + 2), ⟨k + 3, (mkL gPt x.Was.Shape.Pts (k + 4)).1⟩, (mkL gTag x.Was.Tags (mkL gPt x.Was.Shape.Pts (k + 4)).2).1⟩,
    (mkL gTag x.Was.Tags (mkL gPt x.Was.Shape.Pts (k + 4)).2).2 % 3 == 0,
    ⟨tx ((mkL gTag x.Was.Tags (mkL gPt x.Was.Shape.Pts (k + 4)).2).2 + 1), ⟨(mkL gTag x.Was.Tags (mkL gPt x.Was.Shape.Pts (k + 4)).2).2 + 2, (mkL gPt x.Now.Shape.Pts ((mkL gTag x.Was.Tags (mkL gPt x.Was.Shape.Pts (k + 4)).2).2 + 3)).1⟩,
      (mkL gTag x.Now.Tags (mkL gPt x.Now.Shape.Pts ((mkL gTag x.Was.Tags (mkL gPt x.Was.Shape.Pts (k + 4)).2).2 + 3)).2).1⟩⟩,
    (mkL gTag x.Now.Tags (mkL gPt x.Now.Shape.Pts ((mkL gTag x.Was.Tags (mkL gPt x.Was.Shape.Pts (k + 4)).2).2 + 3)).2).2)
theorem bulk_feat (x : Feat) : bulk x = bulk x.Id + (bulk x.Shape.Kind + bulk x.Shape.Pts) + bulk x.Tags := rfl
theorem bulk_change (x : Change) : bulk x = bulk x.Id + bulk x.Had + bulk x.Was + bulk x.Has + bulk x.Now := rfl
theorem gChange_bd (x : Change) (k : Int) : k ≤ (gChange x k).2 ∧ (gChange x k).2 ≤ k + 8 * (1 + (bulk x : Nat)) := by
  have hb := bulk_change x
  have hb1 := bulk_feat x.Was
  have hb2 := bulk_feat x.Now
  have h1 := mkL_bd gPt_bd x.Was.Shape.Pts (k + 4)
  have h2 := mkL_bd gTag_bd x.Was.Tags (mkL gPt x.Was.Shape.Pts (k + 4)).2
  have h3 := mkL_bd gPt_bd x.Now.Shape.Pts ((mkL gTag x.Was.Tags (mkL gPt x.Was.Shape.Pts (k + 4)).2).2 + 3)
  have h4 := mkL_bd gTag_bd x.Now.Tags (mkL gPt x.Now.Shape.Pts ((mkL gTag x.Was.Tags (mkL gPt x.Was.Shape.Pts (k + 4)).2).2 + 3)).2
  unfold gChange
  exact ⟨by dsimp only; omega, by dsimp only; omega⟩
end Go.Proofs.Ytndjggncgpjolaa

namespace Go.Proofs.Ytndjggncgpjolaa
set_option linter.unusedVariables false
set_option linter.unusedSimpArgs false
set_option linter.unusedSectionVars false
theorem spec_l2Copy.law (f : Feat) (Q : Feat → Prop) (hb : bulk f ≤ 1048576) (hq : Q f) : spec_l2Copy.E f Q := by
  unfold spec_l2Copy.E spec_l1Copy.E
  have h := bulk_feat f
  have h1 := bulk_len f.Tags
  have h2 := bulk_len f.Shape.Pts
  exact ⟨by simp only [List.length_nil]; omega, by simp only [List.length_nil]; omega, hq⟩
end Go.Proofs.Ytndjggncgpjolaa

namespace Go.Proofs.Ytndjggncgpjolaa
open Go.RowKit
set_option linter.unusedVariables false
def spec_l4Side.E (s : List Feat) (id : Str) (Q : Feat → Bool → Prop) : Prop :=
  spec_l3Find.E s id (fun r => (if decide (r < 0) then Q (⟨([] : Str), (⟨0, ([] : List Pt)⟩ : Shape), ([] : List Tag)⟩ : Feat) false else ((0 : Int) ≤ r ∧ r < (s.length : Int)) ∧ spec_l2Copy.E (nth s r) (fun r2 => Q r2 true)))
set_option maxHeartbeats 8000000 in
set_option maxRecDepth 100000 in
theorem spec_l4Side.calls {O : Ob} (w0 : World) (hO : Ok w0 O) (s : List Feat) (A1 : Option Addr) (n2 c3 : Nat) (hp4 : Sl kFeat w0 (Fr O) (.slice A1 n2 c3) s) (id : Str) (hs6 : Lim id) (Q : Feat → Bool → Prop) (h : spec_l4Side.E s id Q) :
    Ret Try.prog 121 [.slice A1 n2 c3, vs id] w0 (fun v w' => ∃ (r0 : Feat) (r1 : Bool) (A0 : Option Addr) (n0 c0 : Nat) (A2 : Option Addr) (n2 c2 : Nat), v = .tuple #[.agg #[vs r0.Id, vi r0.Shape.Kind, .slice A0 n0 c0, .slice A2 n2 c2], vb r1] ∧ Q r0 r1 ∧ Gr w0 w' none ∧ Ok w' ([blk (.slice A0 n0 c0), blk (.slice A2 n2 c2)] ++ O) ∧ (∀ b, some b ∈ [blk (.slice A0 n0 c0), blk (.slice A2 n2 c2)] → w0.heap.size ≤ b) ∧ Lim r0.Id ∧ Ow kPt 29 w' ([blk (.slice A0 n0 c0), blk (.slice A2 n2 c2)] ++ O) (.slice A0 n0 c0) r0.Shape.Pts ∧ Ow kTag 133 w' ([blk (.slice A0 n0 c0), blk (.slice A2 n2 c2)] ++ O) (.slice A2 n2 c2) r0.Tags) := by
  have H : spec_l3Find.E s id (fun r => (if decide (r < 0) then Q (⟨([] : Str), (⟨0, ([] : List Pt)⟩ : Shape), ([] : List Tag)⟩ : Feat) false else ((0 : Int) ≤ r ∧ r < (s.length : Int)) ∧ spec_l2Copy.E (nth s r) (fun r2 => Q r2 true))) := h
  clear h
  have hc0 := Ct.init hO
  refine Ret_enter Try.func121 rfl 18 rfl [.cell 4 71, .tmp 5] rfl rfl ?_
  refine W_seq ?_
  refine W_reg ?_
  refine L_alloc [vs [], .int .i64 0, .slice none 0 0, .slice none 0 0] ze71 fun w7 b8 hl10 hu11 g9 hx12 => ?_
  have hc14 := hc0.own g9 (some b8) (oglt hl10 hu11)
  refine L_pu (P_assign (vb false) rfl) ?_
  refine L_nil ?_
  refine W_seq ?_
  refine W_reg ?_
  refine L_pu (P_move (.slice A1 n2 c3) rfl) ?_
  refine L_pu (P_move (vs id) rfl) ?_
  refine L_call go151 [.slice A1 n2 c3, vs id] rfl ((spec_l3Find.calls w7 hc14.ok s A1 n2 c3 (hp4.st hc14.st) id hs6 _ H).mono ?_)
  rintro _ w15 ⟨r, rfl, H, g16⟩
  have hc20 := hc14.k0 g16
  refine L_pu (P_assign (vi r) rfl) ?_
  refine L_nil ?_
  refine W_seq ?_
  refine W_seq ?_
  refine W_reg ?_
  refine L_pu (P_move (vi r) rfl) ?_
  refine L_pu (P_cmp r 0 (decide (r < 0)) rfl rfl rfl) ?_
  refine L_nil ?_
  refine W_cond (decide (r < 0)) rfl (fun hq21 => ?_) (fun hq21 => ?_)
  · have H := ite_t H hq21
    refine W_seq ?_
    refine W_reg ?_
    refine L_pu (P_build (.agg #[vs ([] : Str), vi 0, .slice none 0 0, .slice none 0 0]) (fun _ => by kernel_rfl)) ?_
    have h25 := (hx12.k0 g16)
    refine L_stb b8 0 [vs ([] : Str), vi 0, .slice none 0 0, .slice none 0 0] [vs ([] : Str), vi 0, .slice none 0 0, .slice none 0 0] [vs ([] : Str), vi 0, .slice none 0 0, .slice none 0 0] rfl h25 rfl sz71 rfl rfl rfl fun w22 g23 hx24 => ?_
    have hc26 := hc20.wr 0 rfl g23
    refine L_pu (P_assign (vb false) rfl) ?_
    refine L_nil ?_
    refine W_ret ?_
    have hc28 := hc26.own (Gr.refl _ none) none (by simp)
    have h29 : Ow kPt 29 w22 ([blk (.slice none 0 0), some b8] ++ O) (.slice none 0 0) [] := Ow.nil _ _ _ _
    have hc31 := hc28.own (Gr.refl _ none) none (by simp)
    have h32 : Ow kTag 133 w22 ([blk (.slice none 0 0), blk (.slice none 0 0), some b8] ++ O) (.slice none 0 0) [] := Ow.nil _ _ _ _
    have h33 := hx24
    have h34 := Bx.gv (L := [blk (.slice none 0 0), blk (.slice none 0 0), some b8]) (O := O) h33 hc31 (i := 2) rfl
    have hc35 := hc31.drop 2 rfl
    have hc36 := hc35.perm (.swap _ _ _)
    have h37 := (h34.st (.perm (L := [blk (.slice none 0 0), blk (.slice none 0 0)]) (O := O) (.swap _ _ _)))
    have h38 := (Ow.sp (L := [blk (.slice none 0 0), blk (.slice none 0 0)]) (O := O) (Ow.sd (L := [blk (.slice none 0 0), blk (.slice none 0 0), some b8]) (O := O) (h29.so none (Gr.refl _ none) (by simp)) (i := 1) rfl (j := 2) rfl (by decide)) (.swap _ _ _))
    have h39 := (Ow.sp (L := [blk (.slice none 0 0), blk (.slice none 0 0)]) (O := O) (Ow.sd (L := [blk (.slice none 0 0), blk (.slice none 0 0), some b8]) (O := O) h32 (i := 0) rfl (j := 2) rfl (by decide)) (.swap _ _ _))
    exact ⟨[.agg #[vs ([] : Str), vi 0, .slice none 0 0, .slice none 0 0], vb false], ⟨_, _, rfl, h37.1.res rfl ag71 sz71, ⟨_, rfl, rfl⟩⟩, (⟨([] : Str), (⟨0, ([] : List Pt)⟩ : Shape), ([] : List Tag)⟩ : Feat), false, none, 0, 0, none, 0, 0, rfl, H, hc36.gr.g0, hc36.ok, hc36.ge, (by decide), h38, h39⟩
  · have H := ite_f H hq21
    refine W_skip ?_
    refine W_seq ?_
    refine W_reg ?_
    refine L_pu (P_move (.slice A1 n2 c3) rfl) ?_
    refine L_pu (P_move (vi r) rfl) ?_
    obtain ⟨hb40, H⟩ := H
    obtain ⟨ad41, cs42, hA43, hS46, hR44, hcl45⟩ := (hp4.st hc20.st).get default (by decide) r hb40
    obtain ⟨A48, n49, c50, A53, n54, c55, rfl, hs47, h51, h56⟩ := kFeat.op hR44
    refine L_pu (P_ia Try.underlying52 se52 A1 ad41 n2 c3 (hp4.st hc20.st).len r rfl hA43 rfl hb40) ?_
    refine L_pu (P_lda ag71 sz71 cL (ad41.add (r.toNat * 4)) [vs ((nth s r).Id), vi ((nth s r).Shape.Kind), .slice A48 n49 c50, .slice A53 n54 c55] rfl rfl hcl45) ?_
    refine L_call go80 [.agg #[vs ((nth s r).Id), vi ((nth s r).Shape.Kind), .slice A48 n49 c50, .slice A53 n54 c55]] rfl ((spec_l2Copy.calls w15 hc20.ok (nth s r) A48 n49 c50 A53 n54 c55 hs47 h51 h56 _ H).mono ?_)
    rintro _ w58 ⟨r2, A61, n62, c63, A66, n67, c68, rfl, H, g59, hk72, hk73, hs60, h64, h69⟩
    have hc74 := hc20.owns g59 hk72 hk73
    have h78 := ((hx12.k0 g16).k0 g59)
    refine L_stb b8 0 [vs ([] : Str), vi 0, .slice none 0 0, .slice none 0 0] [vs r2.Id, vi r2.Shape.Kind, .slice A61 n62 c63, .slice A66 n67 c68] [vs r2.Id, vi r2.Shape.Kind, .slice A61 n62 c63, .slice A66 n67 c68] rfl h78 rfl sz71 rfl rfl rfl fun w75 g76 hx77 => ?_
    have hc79 := hc74.wr 2 rfl g76
    refine L_pu (P_assign (vb true) rfl) ?_
    refine L_nil ?_
    refine W_ret ?_
    have h80 := Bx.gv (L := [blk (.slice A61 n62 c63), blk (.slice A66 n67 c68), some b8]) (O := O) hx77 hc79 (i := 2) rfl
    have hc81 := hc79.drop 2 rfl
    have h82 := (Ow.sd (L := [blk (.slice A61 n62 c63), blk (.slice A66 n67 c68), some b8]) (O := O) (Ow.sw (L := [blk (.slice A61 n62 c63), blk (.slice A66 n67 c68), some b8]) (O := O) h64 hc74 (i := 0) rfl (j := 2) rfl (by decide) g76) (i := 0) rfl (j := 2) rfl (by decide))
    have h83 := (Ow.sd (L := [blk (.slice A61 n62 c63), blk (.slice A66 n67 c68), some b8]) (O := O) (Ow.sw (L := [blk (.slice A61 n62 c63), blk (.slice A66 n67 c68), some b8]) (O := O) h69 hc74 (i := 1) rfl (j := 2) rfl (by decide) g76) (i := 1) rfl (j := 2) rfl (by decide))
    exact ⟨[.agg #[vs r2.Id, vi r2.Shape.Kind, .slice A61 n62 c63, .slice A66 n67 c68], vb true], ⟨_, _, rfl, h80.1.res rfl ag71 sz71, ⟨_, rfl, rfl⟩⟩, r2, true, A61, n62, c63, A66, n67, c68, rfl, H, hc81.gr.g0, hc81.ok, hc81.ge, hs60, h82, h83⟩
end Go.Proofs.Ytndjggncgpjolaa

namespace Go.Proofs.Ytndjggncgpjolaa
set_option linter.unusedVariables false
set_option linter.unusedSimpArgs false
set_option linter.unusedSectionVars false
theorem spec_l4Side.law (s : List Feat) (id : Str) (Q : Feat → Bool → Prop) (hb : bulk s ≤ 1048576) (hq : Q (sideOf s id).1 (sideOf s id).2) : spec_l4Side.E s id Q := by
  unfold spec_l4Side.E
  have hl := bulk_len s
  refine spec_l3Find.law _ _ _ ?_
  have h1 := findN_le s.length fun j => (nth s (j : Int)).Id == id
  unfold sideOf at hq
  by_cases h : findN s.length (fun j => (nth s (j : Int)).Id == id) < 0
  · rw [if_pos h] at hq; rw [if_pos (by simpa using h)]; exact hq
  · rw [if_neg h] at hq; rw [if_neg (by simpa using h)]
    exact ⟨by omega, spec_l2Copy.law _ _ (by have := bulk_mem (nth_memi s (by omega) h1.2); omega) hq⟩
end Go.Proofs.Ytndjggncgpjolaa

namespace Go.Proofs.Ytndjggncgpjolaa
open Go.RowKit
set_option linter.unusedVariables false
def spec_l1Same.E (a : List Pt) (b : List Pt) (Q : Bool → Prop) : Prop :=
  (if (a.length : Int) != (b.length : Int) then Q false else (∃ (I32 : Int → Prop) (mu33 : Int → Nat), I32 0 ∧ ∀ (i2 : Int), I32 i2 → (if decide (i2 < (a.length : Int)) then ((0 : Int) ≤ i2 ∧ i2 < (a.length : Int)) ∧ ((0 : Int) ≤ i2 ∧ i2 < (b.length : Int)) ∧ (if !(eqPt (nth a i2) (nth b i2)) then Q false else (-9223372036854775808 ≤ i2) ∧ I32 (i2 + 1) ∧ mu33 (i2 + 1) < mu33 i2) else Q true)))
set_option maxHeartbeats 8000000 in
set_option maxRecDepth 100000 in
theorem spec_l1Same.calls {O : Ob} (w0 : World) (hO : Ok w0 O) (a : List Pt) (A1 : Option Addr) (n2 c3 : Nat) (hp4 : Sl kPt w0 (Fr O) (.slice A1 n2 c3) a) (b : List Pt) (A6 : Option Addr) (n7 c8 : Nat) (hp9 : Sl kPt w0 (Fr O) (.slice A6 n7 c8) b) (Q : Bool → Prop) (h : spec_l1Same.E a b Q) :
    Ret Try.prog 147 [.slice A1 n2 c3, .slice A6 n7 c8] w0 (fun v w' => ∃ (r0 : Bool), v = vb r0 ∧ Q r0 ∧ Gr w0 w' none) := by
  have H : (if (a.length : Int) != (b.length : Int) then Q false else (∃ (I32 : Int → Prop) (mu33 : Int → Nat), I32 0 ∧ ∀ (i2 : Int), I32 i2 → (if decide (i2 < (a.length : Int)) then ((0 : Int) ≤ i2 ∧ i2 < (a.length : Int)) ∧ ((0 : Int) ≤ i2 ∧ i2 < (b.length : Int)) ∧ (if !(eqPt (nth a i2) (nth b i2)) then Q false else (-9223372036854775808 ≤ i2) ∧ I32 (i2 + 1) ∧ mu33 (i2 + 1) < mu33 i2) else Q true))) := h
  clear h
  have hc0 := Ct.init hO
  refine Ret_enter Try.func147 rfl 26 rfl [.tmp 4] rfl rfl ?_
  refine W_seq ?_
  refine W_reg ?_
  refine L_pu (P_assign (vb false) rfl) ?_
  refine L_nil ?_
  refine W_seq ?_
  refine W_seq ?_
  refine W_reg ?_
  refine L_pu (P_move (.slice A1 n2 c3) rfl) ?_
  have hl11 := hp4.le
  refine L_pu (P_len Try.underlying23 A1 n2 c3 hp4.len rfl) ?_
  refine L_pu (P_move (.slice A6 n7 c8) rfl) ?_
  have hl12 := hp9.le
  refine L_pu (P_len Try.underlying23 A6 n7 c8 hp9.len rfl) ?_
  refine L_pu (P_cmp (a.length : Int) (b.length : Int) ((a.length : Int) != (b.length : Int)) rfl rfl rfl) ?_
  refine L_nil ?_
  refine W_cond ((a.length : Int) != (b.length : Int)) rfl (fun hq13 => ?_) (fun hq13 => ?_)
  · have H := ite_t H hq13
    refine W_seq ?_
    refine W_reg ?_
    refine L_pu (P_assign (vb false) rfl) ?_
    refine L_nil ?_
    refine W_ret ?_
    exact ⟨[vb false], ⟨_, rfl, rfl⟩, false, rfl, H, hc0.gr.g0⟩
  · have H := ite_f H hq13
    refine W_skip ?_
    refine W_seq ?_
    refine W_seq ?_
    refine W_reg ?_
    refine L_pu (P_assign (vi 0) rfl) ?_
    refine L_nil ?_
    refine W_block ?_
    obtain ⟨I32, mu33, hI34, H⟩ := H
    refine W_loop (α := Int) (fun (sv__ : Int) t w26 => match sv__ with | i2 => I32 i2 ∧ Has t [(0, .slice A1 n2 c3), (1, .slice A6 n7 c8), (5, vi i2)] ∧ Ct [] w0 w26 [] O ∧ Sl kPt w26 (Fr ([] ++ O)) (.slice A1 n2 c3) a ∧ Sl kPt w26 (Fr ([] ++ O)) (.slice A6 n7 c8) b) (fun (sv__ : Int) => match sv__ with | i2 => mu33 i2) 0 ⟨hI34, ⟨rfl, rfl, rfl, trivial⟩, hc0, hp4, hp9⟩ ?_
    rintro i2 _ w26 ⟨hI34, hh36, hc29, h30, h31⟩
    obtain ⟨u37, rfl⟩ := Has.ins hh36
    have H := H i2 hI34
    refine W_seq ?_
    refine W_seq ?_
    refine W_reg ?_
    refine L_pu (P_move (vi i2) rfl) ?_
    refine L_pu (P_move (.slice A1 n2 c3) rfl) ?_
    have hl38 := h30.le
    refine L_pu (P_len Try.underlying23 A1 n2 c3 h30.len rfl) ?_
    refine L_pu (P_cmp i2 (a.length : Int) (decide (i2 < (a.length : Int))) rfl rfl rfl) ?_
    refine L_nil ?_
    refine W_cond (decide (i2 < (a.length : Int))) rfl (fun hq39 => ?_) (fun hq39 => ?_)
    · have H := ite_t H hq39
      refine W_skip ?_
      refine W_seq ?_
      refine W_block ?_
      refine W_seq ?_
      refine W_draw (fun x => Gr w26 x none) (by kernel_rfl) (by kernel_rfl) (Gr.drew _) ?_
      refine Q_pu (P_move (.slice A1 n2 c3) rfl) ?_
      refine Q_pu (P_move (vi i2) rfl) ?_
      obtain ⟨hb40, H⟩ := H
      obtain ⟨ad41, cs42, hA43, hS46, hR44, hcl45⟩ := h30.get default (by decide) i2 hb40
      obtain rfl := kPt.op hR44
      refine Q_pu (P_ia Try.underlying23 se23 A1 ad41 n2 c3 h30.len i2 rfl hA43 rfl hb40) ?_
      refine Q_pu (P_lda ag29 sz29 cQ (ad41.add (i2.toNat * 2)) [vi ((nth a i2).X), vi ((nth a i2).Y)] rfl rfl hcl45) ?_
      refine Q_pu (P_move (.slice A6 n7 c8) rfl) ?_
      refine Q_pu (P_move (vi i2) rfl) ?_
      obtain ⟨hb47, H⟩ := H
      obtain ⟨ad48, cs49, hA50, hS53, hR51, hcl52⟩ := h31.get default (by decide) i2 hb47
      obtain rfl := kPt.op hR51
      refine Q_pu (P_ia Try.underlying23 se23 A6 ad48 n7 c8 h31.len i2 rfl hA50 rfl hb47) ?_
      refine Q_pu (P_lda ag29 sz29 cQ (ad48.add (i2.toNat * 2)) [vi ((nth b i2).X), vi ((nth b i2).Y)] rfl rfl hcl52) ?_
      refine Q_pu (P_ne _ _ (eqPt (nth a i2) (nth b i2)) (qt29 (nth a i2) (nth b i2)) rfl rfl) ?_
      refine Q_nil fun w54 g55 => ?_
      have hc57 := hc29.k0 g55
      refine W_cond (!(eqPt (nth a i2) (nth b i2))) rfl (fun hq58 => ?_) (fun hq58 => ?_)
      · have H := ite_t H hq58
        refine W_seq ?_
        refine W_reg ?_
        refine L_pu (P_assign (vb false) rfl) ?_
        refine L_nil ?_
        refine W_ret ?_
        exact ⟨[vb false], ⟨_, rfl, rfl⟩, false, rfl, H, hc57.gr.g0⟩
      · have H := ite_f H hq58
        refine W_skip ?_
        refine W_reg ?_
        refine L_pu (P_move (vi i2) rfl) ?_
        obtain ⟨hb60, H⟩ := H
        have hi59 : I64 (i2 + 1) := i64_succ (of_decide_eq_true hq39) hl38 hb60
        refine L_pu (P_add i2 1 rfl rfl hi59) ?_
        refine L_pu (P_assign (vi (i2 + 1)) rfl) ?_
        refine L_nil ?_
        obtain ⟨hI61, hm62⟩ := H
        exact ⟨i2 + 1, hm62, hI61, ⟨rfl, rfl, rfl, trivial⟩, hc57, (h30.st (.new _ g55)), (h31.st (.new _ g55))⟩
    · have H := ite_f H hq39
      refine W_exit (xin_hit ?_)
      refine W_seq ?_
      refine W_reg ?_
      refine L_pu (P_assign (vb true) rfl) ?_
      refine L_nil ?_
      refine W_ret ?_
      exact ⟨[vb true], ⟨_, rfl, rfl⟩, true, rfl, H, hc29.gr.g0⟩
end Go.Proofs.Ytndjggncgpjolaa

namespace Go.Proofs.Ytndjggncgpjolaa
set_option linter.unusedVariables false
set_option linter.unusedSimpArgs false
set_option linter.unusedSectionVars false
theorem spec_l1Same.law (a b : List Pt) (Q : Bool → Prop) (hq : Q (decide (a = b))) : spec_l1Same.E a b Q := by
  unfold spec_l1Same.E
  exact eqS_shape eqPt eqPt_is a b Q hq
end Go.Proofs.Ytndjggncgpjolaa

namespace Go.Proofs.Ytndjggncgpjolaa
open Go.RowKit
set_option linter.unusedVariables false
def spec_ShapeSame.E (a : Shape) (b : Shape) (Q : Bool → Prop) : Prop :=
  (if a.Kind == b.Kind then spec_l1Same.E a.Pts b.Pts (fun r => Q r) else Q false)
set_option maxHeartbeats 8000000 in
set_option maxRecDepth 100000 in
theorem spec_ShapeSame.calls {O : Ob} (w0 : World) (hO : Ok w0 O) (a : Shape) (A1 : Option Addr) (n2 c3 : Nat) (hp4 : Sl kPt w0 (Fr O) (.slice A1 n2 c3) a.Pts) (b : Shape) (A6 : Option Addr) (n7 c8 : Nat) (hp9 : Sl kPt w0 (Fr O) (.slice A6 n7 c8) b.Pts) (Q : Bool → Prop) (h : spec_ShapeSame.E a b Q) :
    Ret Try.prog 123 [.agg #[vi a.Kind, .slice A1 n2 c3], .agg #[vi b.Kind, .slice A6 n7 c8]] w0 (fun v w' => ∃ (r0 : Bool), v = vb r0 ∧ Q r0 ∧ Gr w0 w' none) := by
  have H : (if a.Kind == b.Kind then spec_l1Same.E a.Pts b.Pts (fun r => Q r) else Q false) := h
  clear h
  have hc0 := Ct.init hO
  refine Ret_enter Try.func123 rfl 17 rfl [.tmp 4] rfl rfl ?_
  refine W_seq ?_
  refine W_reg ?_
  refine L_box [vi a.Kind, .slice A1 n2 c3] rfl fun w11 b12 hl14 hu15 g13 hx16 => ?_
  have h18 := Fb.mk hc0.ok hl14 hx16
  have hc19 := hc0.k0 g13
  refine L_box [vi b.Kind, .slice A6 n7 c8] rfl fun w20 b21 hl23 hu24 g22 hx25 => ?_
  have h27 := Fb.mk hc19.ok hl23 hx25
  have hc28 := hc19.k0 g22
  refine L_pu (P_assign (vb false) rfl) ?_
  refine L_nil ?_
  refine W_seq ?_
  refine W_reg ?_
  refine L_pu (P_fa fa68_0 ⟨b12, 0, none⟩ ⟨b12, 0, none⟩ rfl rfl) ?_
  have h29 := (h18.st (.new _ g22))
  refine L_pu (P_ld ag3 cL ⟨b12, 0, none⟩ (vi a.Kind) rfl (h29.cell rfl)) ?_
  refine L_pu (P_fa fa68_0 ⟨b21, 0, none⟩ ⟨b21, 0, none⟩ rfl rfl) ?_
  refine L_pu (P_ld ag3 cL ⟨b21, 0, none⟩ (vi b.Kind) rfl (h27.cell rfl)) ?_
  refine L_pu (P_cmp a.Kind b.Kind (a.Kind == b.Kind) rfl rfl rfl) ?_
  refine L_pu (P_move (vb (a.Kind == b.Kind)) rfl) ?_
  rcases bool_or (a.Kind == b.Kind) with hq30 | hq30
  · have H := ite_t H hq30
    refine L_run (dj := 10) rfl rfl (by exact congrArg Value.bool hq30) ?_
    refine L_pu (P_fa fa68_1 ⟨b12, 0, none⟩ ⟨b12, 1, none⟩ rfl rfl) ?_
    refine L_run (dj := 10) rfl rfl (by exact congrArg Value.bool hq30) ?_
    refine L_pu (P_ld ag23 cL ⟨b12, 1, none⟩ (.slice A1 n2 c3) rfl (h29.cell rfl)) ?_
    refine L_run (dj := 10) rfl rfl (by exact congrArg Value.bool hq30) ?_
    refine L_pu (P_fa fa68_1 ⟨b21, 0, none⟩ ⟨b21, 1, none⟩ rfl rfl) ?_
    refine L_run (dj := 10) rfl rfl (by exact congrArg Value.bool hq30) ?_
    refine L_pu (P_ld ag23 cL ⟨b21, 1, none⟩ (.slice A6 n7 c8) rfl (h27.cell rfl)) ?_
    refine L_run (dj := 10) rfl rfl (by exact congrArg Value.bool hq30) ?_
    refine L_call go147 [.slice A1 n2 c3, .slice A6 n7 c8] rfl ((spec_l1Same.calls w20 hc28.ok a.Pts A1 n2 c3 (hp4.st hc28.st) b.Pts A6 n7 c8 (hp9.st hc28.st) _ H).mono ?_)
    rintro _ w31 ⟨r, rfl, H, g32⟩
    have hc36 := hc28.k0 g32
    refine L_pu (P_pick true (vb r) (by exact congrArg Value.bool hq30) rfl) ?_
    refine L_pu (P_assign (vb r) rfl) ?_
    refine L_nil ?_
    refine W_ret ?_
    exact ⟨[vb r], ⟨_, rfl, rfl⟩, r, rfl, H, hc36.gr.g0⟩
  · have H := ite_f H hq30
    refine L_pass (dj := 10) rfl rfl (.inl (by exact congrArg Value.bool hq30)) ?_
    refine L_pass (dj := 10) rfl rfl (.inl (by exact congrArg Value.bool hq30)) ?_
    refine L_pass (dj := 10) rfl rfl (.inl (by exact congrArg Value.bool hq30)) ?_
    refine L_pass (dj := 10) rfl rfl (.inl (by exact congrArg Value.bool hq30)) ?_
    refine L_pass (dj := 10) rfl rfl (.inl (by exact congrArg Value.bool hq30)) ?_
    refine L_pu (P_pick false (vb false) (by exact congrArg Value.bool hq30) rfl) ?_
    refine L_pu (P_assign (vb false) rfl) ?_
    refine L_nil ?_
    refine W_ret ?_
    exact ⟨[vb false], ⟨_, rfl, rfl⟩, false, rfl, H, hc28.gr.g0⟩
end Go.Proofs.Ytndjggncgpjolaa

namespace Go.Proofs.Ytndjggncgpjolaa
set_option linter.unusedVariables false
set_option linter.unusedSimpArgs false
set_option linter.unusedSectionVars false
theorem spec_ShapeSame.law (a b : Shape) (Q : Bool → Prop) (hq : Q (decide (a = b))) : spec_ShapeSame.E a b Q := by
  unfold spec_ShapeSame.E
  by_cases h : a.Kind = b.Kind
  · rw [if_pos (by rw [beq_iff_eq]; exact h)]
    refine spec_l1Same.law _ _ _ ?_
    have : decide (a.Pts = b.Pts) = decide (a = b) := decide_eq_decide.2 (by rw [Shape.ext_iff']; exact ⟨fun e => ⟨h, e⟩, fun e => e.2⟩)
    rw [this]; exact hq
  · rw [if_neg (by rw [beq_iff_eq]; exact h)]
    rw [decide_eq_false (by rw [Shape.ext_iff']; exact fun e => h e.1)] at hq; exact hq
end Go.Proofs.Ytndjggncgpjolaa

namespace Go.Proofs.Ytndjggncgpjolaa
open Go.RowKit
set_option linter.unusedVariables false
def spec_l2Same.E (a : List Tag) (b : List Tag) (Q : Bool → Prop) : Prop :=
  (if (a.length : Int) != (b.length : Int) then Q false else (∃ (I32 : Int → Prop) (mu33 : Int → Nat), I32 0 ∧ ∀ (i2 : Int), I32 i2 → (if decide (i2 < (a.length : Int)) then ((0 : Int) ≤ i2 ∧ i2 < (a.length : Int)) ∧ ((0 : Int) ≤ i2 ∧ i2 < (b.length : Int)) ∧ (if !(eqTag (nth a i2) (nth b i2)) then Q false else (-9223372036854775808 ≤ i2) ∧ I32 (i2 + 1) ∧ mu33 (i2 + 1) < mu33 i2) else Q true)))
set_option maxHeartbeats 8000000 in
set_option maxRecDepth 100000 in
theorem spec_l2Same.calls {O : Ob} (w0 : World) (hO : Ok w0 O) (a : List Tag) (A1 : Option Addr) (n2 c3 : Nat) (hp4 : Sl kTag w0 (Fr O) (.slice A1 n2 c3) a) (b : List Tag) (A6 : Option Addr) (n7 c8 : Nat) (hp9 : Sl kTag w0 (Fr O) (.slice A6 n7 c8) b) (Q : Bool → Prop) (h : spec_l2Same.E a b Q) :
    Ret Try.prog 124 [.slice A1 n2 c3, .slice A6 n7 c8] w0 (fun v w' => ∃ (r0 : Bool), v = vb r0 ∧ Q r0 ∧ Gr w0 w' none) := by
  have H : (if (a.length : Int) != (b.length : Int) then Q false else (∃ (I32 : Int → Prop) (mu33 : Int → Nat), I32 0 ∧ ∀ (i2 : Int), I32 i2 → (if decide (i2 < (a.length : Int)) then ((0 : Int) ≤ i2 ∧ i2 < (a.length : Int)) ∧ ((0 : Int) ≤ i2 ∧ i2 < (b.length : Int)) ∧ (if !(eqTag (nth a i2) (nth b i2)) then Q false else (-9223372036854775808 ≤ i2) ∧ I32 (i2 + 1) ∧ mu33 (i2 + 1) < mu33 i2) else Q true))) := h
  clear h
  have hc0 := Ct.init hO
  refine Ret_enter Try.func124 rfl 26 rfl [.tmp 4] rfl rfl ?_
  refine W_seq ?_
  refine W_reg ?_
  refine L_pu (P_assign (vb false) rfl) ?_
  refine L_nil ?_
  refine W_seq ?_
  refine W_seq ?_
  refine W_reg ?_
  refine L_pu (P_move (.slice A1 n2 c3) rfl) ?_
  have hl11 := hp4.le
  refine L_pu (P_len Try.underlying69 A1 n2 c3 hp4.len rfl) ?_
  refine L_pu (P_move (.slice A6 n7 c8) rfl) ?_
  have hl12 := hp9.le
  refine L_pu (P_len Try.underlying69 A6 n7 c8 hp9.len rfl) ?_
  refine L_pu (P_cmp (a.length : Int) (b.length : Int) ((a.length : Int) != (b.length : Int)) rfl rfl rfl) ?_
  refine L_nil ?_
  refine W_cond ((a.length : Int) != (b.length : Int)) rfl (fun hq13 => ?_) (fun hq13 => ?_)
  · have H := ite_t H hq13
    refine W_seq ?_
    refine W_reg ?_
    refine L_pu (P_assign (vb false) rfl) ?_
    refine L_nil ?_
    refine W_ret ?_
    exact ⟨[vb false], ⟨_, rfl, rfl⟩, false, rfl, H, hc0.gr.g0⟩
  · have H := ite_f H hq13
    refine W_skip ?_
    refine W_seq ?_
    refine W_seq ?_
    refine W_reg ?_
    refine L_pu (P_assign (vi 0) rfl) ?_
    refine L_nil ?_
    refine W_block ?_
    obtain ⟨I32, mu33, hI34, H⟩ := H
    refine W_loop (α := Int) (fun (sv__ : Int) t w26 => match sv__ with | i2 => I32 i2 ∧ Has t [(0, .slice A1 n2 c3), (1, .slice A6 n7 c8), (5, vi i2)] ∧ Ct [] w0 w26 [] O ∧ Sl kTag w26 (Fr ([] ++ O)) (.slice A1 n2 c3) a ∧ Sl kTag w26 (Fr ([] ++ O)) (.slice A6 n7 c8) b) (fun (sv__ : Int) => match sv__ with | i2 => mu33 i2) 0 ⟨hI34, ⟨rfl, rfl, rfl, trivial⟩, hc0, hp4, hp9⟩ ?_
    rintro i2 _ w26 ⟨hI34, hh36, hc29, h30, h31⟩
    obtain ⟨u37, rfl⟩ := Has.ins hh36
    have H := H i2 hI34
    refine W_seq ?_
    refine W_seq ?_
    refine W_reg ?_
    refine L_pu (P_move (vi i2) rfl) ?_
    refine L_pu (P_move (.slice A1 n2 c3) rfl) ?_
    have hl38 := h30.le
    refine L_pu (P_len Try.underlying69 A1 n2 c3 h30.len rfl) ?_
    refine L_pu (P_cmp i2 (a.length : Int) (decide (i2 < (a.length : Int))) rfl rfl rfl) ?_
    refine L_nil ?_
    refine W_cond (decide (i2 < (a.length : Int))) rfl (fun hq39 => ?_) (fun hq39 => ?_)
    · have H := ite_t H hq39
      refine W_skip ?_
      refine W_seq ?_
      refine W_block ?_
      refine W_seq ?_
      refine W_draw (fun x => Gr w26 x none) (by kernel_rfl) (by kernel_rfl) (Gr.drew _) ?_
      refine Q_pu (P_move (.slice A1 n2 c3) rfl) ?_
      refine Q_pu (P_move (vi i2) rfl) ?_
      obtain ⟨hb40, H⟩ := H
      obtain ⟨ad41, cs42, hA43, hS46, hR44, hcl45⟩ := h30.get default (by decide) i2 hb40
      obtain ⟨rfl, hs47, hs48⟩ := kTag.op hR44
      refine Q_pu (P_ia Try.underlying69 se69 A1 ad41 n2 c3 h30.len i2 rfl hA43 rfl hb40) ?_
      refine Q_pu (P_lda ag133 sz133 cQ (ad41.add (i2.toNat * 2)) [vs ((nth a i2).Key), vs ((nth a i2).Val)] rfl rfl hcl45) ?_
      refine Q_pu (P_move (.slice A6 n7 c8) rfl) ?_
      refine Q_pu (P_move (vi i2) rfl) ?_
      obtain ⟨hb49, H⟩ := H
      obtain ⟨ad50, cs51, hA52, hS55, hR53, hcl54⟩ := h31.get default (by decide) i2 hb49
      obtain ⟨rfl, hs56, hs57⟩ := kTag.op hR53
      refine Q_pu (P_ia Try.underlying69 se69 A6 ad50 n7 c8 h31.len i2 rfl hA52 rfl hb49) ?_
      refine Q_pu (P_lda ag133 sz133 cQ (ad50.add (i2.toNat * 2)) [vs ((nth b i2).Key), vs ((nth b i2).Val)] rfl rfl hcl54) ?_
      refine Q_pu (P_ne _ _ (eqTag (nth a i2) (nth b i2)) (qt133 (nth a i2) (nth b i2)) rfl rfl) ?_
      refine Q_nil fun w58 g59 => ?_
      have hc61 := hc29.k0 g59
      refine W_cond (!(eqTag (nth a i2) (nth b i2))) rfl (fun hq62 => ?_) (fun hq62 => ?_)
      · have H := ite_t H hq62
        refine W_seq ?_
        refine W_reg ?_
        refine L_pu (P_assign (vb false) rfl) ?_
        refine L_nil ?_
        refine W_ret ?_
        exact ⟨[vb false], ⟨_, rfl, rfl⟩, false, rfl, H, hc61.gr.g0⟩
      · have H := ite_f H hq62
        refine W_skip ?_
        refine W_reg ?_
        refine L_pu (P_move (vi i2) rfl) ?_
        obtain ⟨hb64, H⟩ := H
        have hi63 : I64 (i2 + 1) := i64_succ (of_decide_eq_true hq39) hl38 hb64
        refine L_pu (P_add i2 1 rfl rfl hi63) ?_
        refine L_pu (P_assign (vi (i2 + 1)) rfl) ?_
        refine L_nil ?_
        obtain ⟨hI65, hm66⟩ := H
        exact ⟨i2 + 1, hm66, hI65, ⟨rfl, rfl, rfl, trivial⟩, hc61, (h30.st (.new _ g59)), (h31.st (.new _ g59))⟩
    · have H := ite_f H hq39
      refine W_exit (xin_hit ?_)
      refine W_seq ?_
      refine W_reg ?_
      refine L_pu (P_assign (vb true) rfl) ?_
      refine L_nil ?_
      refine W_ret ?_
      exact ⟨[vb true], ⟨_, rfl, rfl⟩, true, rfl, H, hc29.gr.g0⟩
end Go.Proofs.Ytndjggncgpjolaa

namespace Go.Proofs.Ytndjggncgpjolaa
set_option linter.unusedVariables false
set_option linter.unusedSimpArgs false
set_option linter.unusedSectionVars false
theorem spec_l2Same.law (a b : List Tag) (Q : Bool → Prop) (hq : Q (decide (a = b))) : spec_l2Same.E a b Q := by
  unfold spec_l2Same.E
  exact eqS_shape eqTag eqTag_is a b Q hq
end Go.Proofs.Ytndjggncgpjolaa

namespace Go.Proofs.Ytndjggncgpjolaa
open Go.RowKit
set_option linter.unusedVariables false
def spec_FeatSame.E (a : Feat) (b : Feat) (Q : Bool → Prop) : Prop :=
  (if a.Id == b.Id then spec_ShapeSame.E a.Shape b.Shape (fun r => (if r then spec_l2Same.E a.Tags b.Tags (fun r2 => Q r2) else Q false)) else Q false)
set_option maxHeartbeats 8000000 in
set_option maxRecDepth 100000 in
theorem spec_FeatSame.calls {O : Ob} (w0 : World) (hO : Ok w0 O) (a : Feat) (A2 : Option Addr) (n3 c4 : Nat) (A7 : Option Addr) (n8 c9 : Nat) (hs1 : Lim a.Id) (hp5 : Sl kPt w0 (Fr O) (.slice A2 n3 c4) a.Shape.Pts) (hp10 : Sl kTag w0 (Fr O) (.slice A7 n8 c9) a.Tags) (b : Feat) (A13 : Option Addr) (n14 c15 : Nat) (A18 : Option Addr) (n19 c20 : Nat) (hs12 : Lim b.Id) (hp16 : Sl kPt w0 (Fr O) (.slice A13 n14 c15) b.Shape.Pts) (hp21 : Sl kTag w0 (Fr O) (.slice A18 n19 c20) b.Tags) (Q : Bool → Prop) (h : spec_FeatSame.E a b Q) :
    Ret Try.prog 79 [.agg #[vs a.Id, vi a.Shape.Kind, .slice A2 n3 c4, .slice A7 n8 c9], .agg #[vs b.Id, vi b.Shape.Kind, .slice A13 n14 c15, .slice A18 n19 c20]] w0 (fun v w' => ∃ (r0 : Bool), v = vb r0 ∧ Q r0 ∧ Gr w0 w' none) := by
  have H : (if a.Id == b.Id then spec_ShapeSame.E a.Shape b.Shape (fun r => (if r then spec_l2Same.E a.Tags b.Tags (fun r2 => Q r2) else Q false)) else Q false) := h
  clear h
  have hc0 := Ct.init hO
  refine Ret_enter Try.func79 rfl 24 rfl [.tmp 4] rfl rfl ?_
  refine W_seq ?_
  refine W_reg ?_
  refine L_box [vs a.Id, vi a.Shape.Kind, .slice A2 n3 c4, .slice A7 n8 c9] rfl fun w23 b24 hl26 hu27 g25 hx28 => ?_
  have h30 := Fb.mk hc0.ok hl26 hx28
  have hc31 := hc0.k0 g25
  refine L_box [vs b.Id, vi b.Shape.Kind, .slice A13 n14 c15, .slice A18 n19 c20] rfl fun w32 b33 hl35 hu36 g34 hx37 => ?_
  have h39 := Fb.mk hc31.ok hl35 hx37
  have hc40 := hc31.k0 g34
  refine L_pu (P_assign (vb false) rfl) ?_
  refine L_nil ?_
  refine W_seq ?_
  refine W_reg ?_
  refine L_pu (P_fa fa71_0 ⟨b24, 0, none⟩ ⟨b24, 0, none⟩ rfl rfl) ?_
  have h41 := (h30.st (.new _ g34))
  refine L_pu (P_ld ag9 cL ⟨b24, 0, none⟩ (vs a.Id) rfl (h41.cell rfl)) ?_
  refine L_pu (P_fa fa71_0 ⟨b33, 0, none⟩ ⟨b33, 0, none⟩ rfl rfl) ?_
  refine L_pu (P_ld ag9 cL ⟨b33, 0, none⟩ (vs b.Id) rfl (h39.cell rfl)) ?_
  refine L_pu (P_scmp a.Id b.Id (a.Id == b.Id) rfl rfl rfl) ?_
  refine L_pu (P_move (vb (a.Id == b.Id)) rfl) ?_
  rcases bool_or (a.Id == b.Id) with hq42 | hq42
  · have H := ite_t H hq42
    refine L_run (dj := 10) rfl rfl (by exact congrArg Value.bool hq42) ?_
    refine L_pu (P_fa fa71_1 ⟨b24, 0, none⟩ ⟨b24, 1, none⟩ rfl rfl) ?_
    refine L_run (dj := 10) rfl rfl (by exact congrArg Value.bool hq42) ?_
    refine L_pu (P_lda ag68 sz68 cL ⟨b24, 1, none⟩ [vi a.Shape.Kind, .slice A2 n3 c4] rfl rfl (h41.cells (off := 1) rfl)) ?_
    refine L_run (dj := 10) rfl rfl (by exact congrArg Value.bool hq42) ?_
    refine L_pu (P_fa fa71_1 ⟨b33, 0, none⟩ ⟨b33, 1, none⟩ rfl rfl) ?_
    refine L_run (dj := 10) rfl rfl (by exact congrArg Value.bool hq42) ?_
    refine L_pu (P_lda ag68 sz68 cL ⟨b33, 1, none⟩ [vi b.Shape.Kind, .slice A13 n14 c15] rfl rfl (h39.cells (off := 1) rfl)) ?_
    refine L_run (dj := 10) rfl rfl (by exact congrArg Value.bool hq42) ?_
    refine L_call go123 [.agg #[vi a.Shape.Kind, .slice A2 n3 c4], .agg #[vi b.Shape.Kind, .slice A13 n14 c15]] rfl ((spec_ShapeSame.calls w32 hc40.ok a.Shape A2 n3 c4 (hp5.st hc40.st) b.Shape A13 n14 c15 (hp16.st hc40.st) _ H).mono ?_)
    rintro _ w43 ⟨r, rfl, H, g44⟩
    have hc48 := hc40.k0 g44
    refine L_pu (P_pick true (vb r) (by exact congrArg Value.bool hq42) rfl) ?_
    refine L_pu (P_move (vb r) rfl) ?_
    rcases bool_or r with hq49 | hq49
    · have H := ite_t H hq49
      refine L_run (dj := 17) rfl rfl (by exact congrArg Value.bool hq49) ?_
      refine L_pu (P_fa fa71_2 ⟨b24, 0, none⟩ ⟨b24, 3, none⟩ rfl rfl) ?_
      refine L_run (dj := 17) rfl rfl (by exact congrArg Value.bool hq49) ?_
      have h50 := (h41.st (.new _ g44))
      refine L_pu (P_ld ag69 cL ⟨b24, 3, none⟩ (.slice A7 n8 c9) rfl (h50.cell rfl)) ?_
      refine L_run (dj := 17) rfl rfl (by exact congrArg Value.bool hq49) ?_
      refine L_pu (P_fa fa71_2 ⟨b33, 0, none⟩ ⟨b33, 3, none⟩ rfl rfl) ?_
      refine L_run (dj := 17) rfl rfl (by exact congrArg Value.bool hq49) ?_
      have h51 := (h39.st (.new _ g44))
      refine L_pu (P_ld ag69 cL ⟨b33, 3, none⟩ (.slice A18 n19 c20) rfl (h51.cell rfl)) ?_
      refine L_run (dj := 17) rfl rfl (by exact congrArg Value.bool hq49) ?_
      refine L_call go124 [.slice A7 n8 c9, .slice A18 n19 c20] rfl ((spec_l2Same.calls w43 hc48.ok a.Tags A7 n8 c9 (hp10.st hc48.st) b.Tags A18 n19 c20 (hp21.st hc48.st) _ H).mono ?_)
      rintro _ w52 ⟨r2, rfl, H, g53⟩
      have hc57 := hc48.k0 g53
      refine L_pu (P_pick true (vb r2) (by exact congrArg Value.bool hq49) rfl) ?_
      refine L_pu (P_assign (vb r2) rfl) ?_
      refine L_nil ?_
      refine W_ret ?_
      exact ⟨[vb r2], ⟨_, rfl, rfl⟩, r2, rfl, H, hc57.gr.g0⟩
    · have H := ite_f H hq49
      refine L_pass (dj := 17) rfl rfl (.inl (by exact congrArg Value.bool hq49)) ?_
      refine L_pass (dj := 17) rfl rfl (.inl (by exact congrArg Value.bool hq49)) ?_
      refine L_pass (dj := 17) rfl rfl (.inl (by exact congrArg Value.bool hq49)) ?_
      refine L_pass (dj := 17) rfl rfl (.inl (by exact congrArg Value.bool hq49)) ?_
      refine L_pass (dj := 17) rfl rfl (.inl (by exact congrArg Value.bool hq49)) ?_
      refine L_pu (P_pick false (vb false) (by exact congrArg Value.bool hq49) rfl) ?_
      refine L_pu (P_assign (vb false) rfl) ?_
      refine L_nil ?_
      refine W_ret ?_
      exact ⟨[vb false], ⟨_, rfl, rfl⟩, false, rfl, H, hc48.gr.g0⟩
  · have H := ite_f H hq42
    refine L_pass (dj := 10) rfl rfl (.inl (by exact congrArg Value.bool hq42)) ?_
    refine L_pass (dj := 10) rfl rfl (.inl (by exact congrArg Value.bool hq42)) ?_
    refine L_pass (dj := 10) rfl rfl (.inl (by exact congrArg Value.bool hq42)) ?_
    refine L_pass (dj := 10) rfl rfl (.inl (by exact congrArg Value.bool hq42)) ?_
    refine L_pass (dj := 10) rfl rfl (.inl (by exact congrArg Value.bool hq42)) ?_
    refine L_pu (P_pick false (vb false) (by exact congrArg Value.bool hq42) rfl) ?_
    refine L_pu (P_move (vb false) rfl) ?_
    refine L_pass (dj := 17) rfl rfl (.inl rfl) ?_
    refine L_pass (dj := 17) rfl rfl (.inl rfl) ?_
    refine L_pass (dj := 17) rfl rfl (.inl rfl) ?_
    refine L_pass (dj := 17) rfl rfl (.inl rfl) ?_
    refine L_pass (dj := 17) rfl rfl (.inl rfl) ?_
    refine L_pu (P_pick false (vb false) (by exact congrArg Value.bool rfl) rfl) ?_
    refine L_pu (P_assign (vb false) rfl) ?_
    refine L_nil ?_
    refine W_ret ?_
    exact ⟨[vb false], ⟨_, rfl, rfl⟩, false, rfl, H, hc40.gr.g0⟩
end Go.Proofs.Ytndjggncgpjolaa

namespace Go.Proofs.Ytndjggncgpjolaa
set_option linter.unusedVariables false
set_option linter.unusedSimpArgs false
set_option linter.unusedSectionVars false
theorem spec_FeatSame.law (a b : Feat) (Q : Bool → Prop) (hq : Q (decide (a = b))) : spec_FeatSame.E a b Q := by
  unfold spec_FeatSame.E
  by_cases h : a.Id = b.Id
  · rw [if_pos (by rw [beq_iff_eq]; exact h)]
    refine spec_ShapeSame.law _ _ _ ?_
    by_cases h2 : a.Shape = b.Shape
    · rw [decide_eq_true h2, if_pos rfl]
      refine spec_l2Same.law _ _ _ ?_
      have : decide (a.Tags = b.Tags) = decide (a = b) := decide_eq_decide.2 (by rw [Feat.ext_iff']; exact ⟨fun e => ⟨h, h2, e⟩, fun e => e.2.2⟩)
      rw [this]; exact hq
    · rw [decide_eq_false h2, if_neg (by decide)]
      rw [decide_eq_false (by rw [Feat.ext_iff']; exact fun e => h2 e.2.1)] at hq; exact hq
  · rw [if_neg (by rw [beq_iff_eq]; exact h)]
    rw [decide_eq_false (by rw [Feat.ext_iff']; exact fun e => h e.1)] at hq; exact hq
end Go.Proofs.Ytndjggncgpjolaa
