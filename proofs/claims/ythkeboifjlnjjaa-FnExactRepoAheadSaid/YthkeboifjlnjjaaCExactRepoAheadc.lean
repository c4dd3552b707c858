/- It is proved here that the law FnExactRepoAhead of the given program holds whatever it is handed: the walks through the code, the plain laws and the row, in this order.
   Conditions: none. -/
import Derived.Below
import Derived.ChangeArms
import Derived.ChangeOld
import Derived.ChangeSlices
import Derived.DataReads
import Derived.Deep.Quiet
import Derived.KernelRfl
import Derived.Laws.Build
import Derived.Laws.OwnMore
import Derived.Laws.Slices
import Derived.Laws.StructEq
import Derived.OpenShut
import Derived.ProofKit
import Derived.ShutString
import Derived.SizedLaws
import Derived.StillTail
import Derived.Test.YthkeboifjlnjjaaProg
import Derived.Test.YthkeboifjlnjjaaRows
import Derived.WalkKit
import Derived.Test.YthkeboifjlnjjaaCExactRepoAheada
import Derived.Test.YthkeboifjlnjjaaCExactRepoAheadb
namespace Go.Proofs.Ythkeboifjlnjjaa
open Go.RowKit
set_option linter.unusedVariables false
def spec_l2Tags.E (t_ : List Tag) (Q : Bool → Prop) : Prop :=
  (∃ (I18 : Int → Prop) (mu19 : Int → Nat), I18 0 ∧ ∀ (i2 : Int), I18 i2 → (if decide (i2 < (t_.length : Int)) then ((0 : Int) ≤ i2 ∧ i2 < (t_.length : Int)) ∧ (∃ q : Bool, spec_WordOk.E ((nth t_ i2).Key) (fun x => x = q) ∧ (if !q then Q false else ((0 : Int) ≤ i2 ∧ i2 < (t_.length : Int)) ∧ (∃ q2 : Bool, spec_WordOk.E ((nth t_ i2).Val) (fun x => x = q2) ∧ (if !q2 then Q false else (if decide (i2 > 0) then ((0 : Int) ≤ i2 ∧ i2 < (t_.length : Int)) ∧ ((t_.length : Int) ≤ 9223372036854775807 → I64 (i2 - 1)) ∧ ((0 : Int) ≤ i2 - 1 ∧ i2 - 1 < (t_.length : Int)) ∧ (if Op.bytesLess ((nth t_ i2).Key) ((nth t_ (i2 - 1)).Key) || ((nth t_ i2).Key) == ((nth t_ (i2 - 1)).Key) then Q false else (-9223372036854775808 ≤ i2) ∧ I18 (i2 + 1) ∧ mu19 (i2 + 1) < mu19 i2) else (-9223372036854775808 ≤ i2) ∧ I18 (i2 + 1) ∧ mu19 (i2 + 1) < mu19 i2))))) else Q (decide ((t_.length : Int) ≤ 4))))
set_option maxHeartbeats 8000000 in
set_option maxRecDepth 100000 in
theorem spec_l2Tags.calls {O : Ob} (w0 : World) (hO : Ok w0 O) (t_ : List Tag) (A1 : Option Addr) (n2 c3 : Nat) (hp4 : Sl kTag w0 (Fr O) (.slice A1 n2 c3) t_) (Q : Bool → Prop) (h : spec_l2Tags.E t_ Q) :
    Ret Try.prog 104 [.slice A1 n2 c3] w0 (fun v w' => ∃ (r0 : Bool), v = vb r0 ∧ Q r0 ∧ Gr w0 w' none) := by
  have H : (∃ (I18 : Int → Prop) (mu19 : Int → Nat), I18 0 ∧ ∀ (i2 : Int), I18 i2 → (if decide (i2 < (t_.length : Int)) then ((0 : Int) ≤ i2 ∧ i2 < (t_.length : Int)) ∧ (∃ q : Bool, spec_WordOk.E ((nth t_ i2).Key) (fun x => x = q) ∧ (if !q then Q false else ((0 : Int) ≤ i2 ∧ i2 < (t_.length : Int)) ∧ (∃ q2 : Bool, spec_WordOk.E ((nth t_ i2).Val) (fun x => x = q2) ∧ (if !q2 then Q false else (if decide (i2 > 0) then ((0 : Int) ≤ i2 ∧ i2 < (t_.length : Int)) ∧ ((t_.length : Int) ≤ 9223372036854775807 → I64 (i2 - 1)) ∧ ((0 : Int) ≤ i2 - 1 ∧ i2 - 1 < (t_.length : Int)) ∧ (if Op.bytesLess ((nth t_ i2).Key) ((nth t_ (i2 - 1)).Key) || ((nth t_ i2).Key) == ((nth t_ (i2 - 1)).Key) then Q false else (-9223372036854775808 ≤ i2) ∧ I18 (i2 + 1) ∧ mu19 (i2 + 1) < mu19 i2) else (-9223372036854775808 ≤ i2) ∧ I18 (i2 + 1) ∧ mu19 (i2 + 1) < mu19 i2))))) else Q (decide ((t_.length : Int) ≤ 4)))) := h
  clear h
  have hc0 := Ct.init hO
  refine Ret_enter Try.func104 rfl 47 rfl [.tmp 2] rfl rfl ?_
  refine W_seq ?_
  refine W_reg ?_
  refine L_pu (P_assign (vb false) rfl) ?_
  refine L_nil ?_
  refine W_seq ?_
  refine W_seq ?_
  refine W_reg ?_
  refine L_pu (P_assign (vi 0) rfl) ?_
  refine L_nil ?_
  refine W_block ?_
  obtain ⟨I18, mu19, hI20, H⟩ := H
  refine W_loop (α := Int) (fun (sv__ : Int) t w14 => match sv__ with | i2 => I18 i2 ∧ Has t [(0, .slice A1 n2 c3), (3, vi i2)] ∧ Ct none w0 w14 [] O ∧ Sl kTag w14 (Fr ([] ++ O)) (.slice A1 n2 c3) t_) (fun (sv__ : Int) => match sv__ with | i2 => mu19 i2) 0 ⟨hI20, ⟨rfl, rfl, trivial⟩, hc0, hp4⟩ ?_
  rintro i2 _ w14 ⟨hI20, hh22, hc16, h17⟩
  obtain ⟨u23, rfl⟩ := Has.ins hh22
  have H := H i2 hI20
  refine W_seq ?_
  refine W_seq ?_
  refine W_reg ?_
  refine L_pu (P_move (vi i2) rfl) ?_
  refine L_pu (P_move (.slice A1 n2 c3) rfl) ?_
  have hl24 := h17.le
  refine L_pu (P_len Try.underlying77 A1 n2 c3 h17.len rfl) ?_
  refine L_pu (P_cmp i2 (t_.length : Int) (decide (i2 < (t_.length : Int))) rfl rfl rfl) ?_
  refine L_nil ?_
  refine W_cond (decide (i2 < (t_.length : Int))) rfl (fun hq25 => ?_) (fun hq25 => ?_)
  · have H := ite_t H hq25
    refine W_skip ?_
    refine W_seq ?_
    refine W_block ?_
    refine W_seq ?_
    refine W_draw (fun x => Gr w14 x none) (by kernel_rfl) (by kernel_rfl) (Gr.drew _) ?_
    refine Q_pu (P_move (.slice A1 n2 c3) rfl) ?_
    refine Q_pu (P_move (vi i2) rfl) ?_
    obtain ⟨hb26, H⟩ := H
    obtain ⟨ad27, cs28, hA29, hS32, hR30, hcl31⟩ := h17.get default (by decide) i2 hb26
    obtain ⟨rfl, hs33, hs34⟩ := kTag.op hR30
    refine Q_pu (P_ia Try.underlying77 se77 A1 ad27 n2 c3 h17.len i2 rfl hA29 rfl hb26) ?_
    refine Q_pu (P_fa fa149_0 (ad27.add (i2.toNat * 2)) ((ad27.add (i2.toNat * 2)).add 0) rfl rfl) ?_
    refine Q_pu (P_ld ag9 cQ ((ad27.add (i2.toNat * 2)).add 0) (vs ((nth t_ i2).Key)) rfl (hcl31 0 _ rfl)) ?_
    obtain ⟨q, hE40, H⟩ := H
    refine Q_call go57 [vs ((nth t_ i2).Key)] rfl (vb q) (fun w g => (spec_WordOk.calls w (hc16.k0 g).ok ((nth t_ i2).Key) hs33 _ hE40).mono ?_) ?_
    · rintro _ w ⟨r, rfl, rfl, g2⟩
      exact ⟨rfl, Gr.t0 g g2⟩
    refine Q_pu (P_not q rfl) ?_
    refine Q_pu (P_move (vb (!q)) rfl) ?_
    rcases bool_or (!q) with hq42 | hq42
    · have H := ite_t H hq42
      refine Q_pass (dj := 17) rfl rfl (.inl (by exact congrArg Value.bool hq42)) ?_
      refine Q_pass (dj := 17) rfl rfl (.inl (by exact congrArg Value.bool hq42)) ?_
      refine Q_pass (dj := 17) rfl rfl (.inl (by exact congrArg Value.bool hq42)) ?_
      refine Q_pass (dj := 17) rfl rfl (.inl (by exact congrArg Value.bool hq42)) ?_
      refine Q_pass (dj := 17) rfl rfl (.inl (by exact congrArg Value.bool hq42)) ?_
      refine Q_pass (dj := 17) rfl rfl (.inl (by exact congrArg Value.bool hq42)) ?_
      refine Q_pass (dj := 17) rfl rfl (.inl (by exact congrArg Value.bool hq42)) ?_
      refine Q_pu (P_pick true (vb true) (by exact congrArg Value.bool hq42) rfl) ?_
      refine Q_pu (P_move (vb true) rfl) ?_
      refine Q_pass (dj := 26) rfl rfl (.inl rfl) ?_
      refine Q_pass (dj := 26) rfl rfl (.inl rfl) ?_
      refine Q_pass (dj := 26) rfl rfl (.inl rfl) ?_
      refine Q_pass (dj := 29) rfl rfl (.inr rfl) ?_
      refine Q_pass (dj := 29) rfl rfl (.inr rfl) ?_
      refine Q_pass (dj := 29) rfl rfl (.inr rfl) ?_
      refine Q_pass (dj := 29) rfl rfl (.inr rfl) ?_
      refine Q_pass (dj := 29) rfl rfl (.inr rfl) ?_
      refine Q_pass (dj := 29) rfl rfl (.inr rfl) ?_
      refine Q_pass (dj := 29) rfl rfl (.inr rfl) ?_
      refine Q_pass (dj := 29) rfl rfl (.inr rfl) ?_
      refine Q_pass (dj := 29) rfl rfl (.inr rfl) ?_
      refine Q_pass (dj := 29) rfl rfl (.inr rfl) ?_
      refine Q_pass (dj := 29) rfl rfl (.inr rfl) ?_
      refine Q_pass (dj := 29) rfl rfl (.inr rfl) ?_
      refine Q_pass (dj := 26) rfl rfl (.inl rfl) ?_
      refine Q_pu (P_pick true (vb true) (by exact congrArg Value.bool rfl) rfl) ?_
      refine Q_nil fun w43 g44 => ?_
      have hc46 := hc16.k0 g44
      refine W_ct (b := true) rfl rfl ?_
      refine W_seq ?_
      refine W_reg ?_
      refine L_pu (P_assign (vb false) rfl) ?_
      refine L_nil ?_
      refine W_ret ?_
      exact ⟨[vb false], ⟨_, rfl, rfl⟩, false, rfl, H, hc46.gr⟩
    · have H := ite_f H hq42
      refine Q_run (dj := 17) rfl rfl (by exact congrArg Value.bool hq42) ?_
      refine Q_pu (P_move (.slice A1 n2 c3) rfl) ?_
      refine Q_run (dj := 17) rfl rfl (by exact congrArg Value.bool hq42) ?_
      refine Q_pu (P_move (vi i2) rfl) ?_
      refine Q_run (dj := 17) rfl rfl (by exact congrArg Value.bool hq42) ?_
      obtain ⟨hb47, H⟩ := H
      obtain ⟨ad48, cs49, hA50, hS53, hR51, hcl52⟩ := h17.get default (by decide) i2 hb47
      obtain ⟨rfl, hs54, hs55⟩ := kTag.op hR51
      refine Q_pu (P_ia Try.underlying77 se77 A1 ad48 n2 c3 h17.len i2 rfl hA50 rfl hb47) ?_
      refine Q_run (dj := 17) rfl rfl (by exact congrArg Value.bool hq42) ?_
      refine Q_pu (P_fa fa149_1 (ad48.add (i2.toNat * 2)) ((ad48.add (i2.toNat * 2)).add 1) rfl rfl) ?_
      refine Q_run (dj := 17) rfl rfl (by exact congrArg Value.bool hq42) ?_
      refine Q_pu (P_ld ag9 cQ ((ad48.add (i2.toNat * 2)).add 1) (vs ((nth t_ i2).Val)) rfl (hcl52 1 _ rfl)) ?_
      refine Q_run (dj := 17) rfl rfl (by exact congrArg Value.bool hq42) ?_
      obtain ⟨q2, hE61, H⟩ := H
      refine Q_call go57 [vs ((nth t_ i2).Val)] rfl (vb q2) (fun w g => (spec_WordOk.calls w (hc16.k0 g).ok ((nth t_ i2).Val) hs55 _ hE61).mono ?_) ?_
      · rintro _ w ⟨r, rfl, rfl, g2⟩
        exact ⟨rfl, Gr.t0 g g2⟩
      refine Q_run (dj := 17) rfl rfl (by exact congrArg Value.bool hq42) ?_
      refine Q_pu (P_not q2 rfl) ?_
      refine Q_pu (P_pick false (vb (!q2)) (by exact congrArg Value.bool hq42) rfl) ?_
      refine Q_pu (P_move (vb (!q2)) rfl) ?_
      rcases bool_or (!q2) with hq63 | hq63
      · have H := ite_t H hq63
        refine Q_pass (dj := 26) rfl rfl (.inl (by exact congrArg Value.bool hq63)) ?_
        refine Q_pass (dj := 26) rfl rfl (.inl (by exact congrArg Value.bool hq63)) ?_
        refine Q_pass (dj := 26) rfl rfl (.inl (by exact congrArg Value.bool hq63)) ?_
        refine Q_pass (dj := 29) rfl rfl (.inr rfl) ?_
        refine Q_pass (dj := 29) rfl rfl (.inr rfl) ?_
        refine Q_pass (dj := 29) rfl rfl (.inr rfl) ?_
        refine Q_pass (dj := 29) rfl rfl (.inr rfl) ?_
        refine Q_pass (dj := 29) rfl rfl (.inr rfl) ?_
        refine Q_pass (dj := 29) rfl rfl (.inr rfl) ?_
        refine Q_pass (dj := 29) rfl rfl (.inr rfl) ?_
        refine Q_pass (dj := 29) rfl rfl (.inr rfl) ?_
        refine Q_pass (dj := 29) rfl rfl (.inr rfl) ?_
        refine Q_pass (dj := 29) rfl rfl (.inr rfl) ?_
        refine Q_pass (dj := 29) rfl rfl (.inr rfl) ?_
        refine Q_pass (dj := 29) rfl rfl (.inr rfl) ?_
        refine Q_pass (dj := 26) rfl rfl (.inl (by exact congrArg Value.bool hq63)) ?_
        refine Q_pu (P_pick true (vb true) (by exact congrArg Value.bool hq63) rfl) ?_
        refine Q_nil fun w64 g65 => ?_
        have hc67 := hc16.k0 g65
        refine W_ct (b := true) rfl rfl ?_
        refine W_seq ?_
        refine W_reg ?_
        refine L_pu (P_assign (vb false) rfl) ?_
        refine L_nil ?_
        refine W_ret ?_
        exact ⟨[vb false], ⟨_, rfl, rfl⟩, false, rfl, H, hc67.gr⟩
      · have H := ite_f H hq63
        refine Q_run (dj := 26) rfl rfl (by exact congrArg Value.bool hq63) ?_
        refine Q_pu (P_move (vi i2) rfl) ?_
        refine Q_run (dj := 26) rfl rfl (by exact congrArg Value.bool hq63) ?_
        refine Q_pu (P_cmp i2 0 (decide (i2 > 0)) rfl rfl rfl) ?_
        refine Q_run (dj := 26) rfl rfl (by exact congrArg Value.bool hq63) ?_
        refine Q_pu (P_move (vb (decide (i2 > 0))) rfl) ?_
        rcases bool_or (decide (i2 > 0)) with hq68 | hq68
        · have H := ite_t H hq68
          refine Q_run (dj := 29) rfl rfl (by exact congrArg Value.bool hq68) ?_
          refine Q_pu (P_move (.slice A1 n2 c3) rfl) ?_
          refine Q_run (dj := 29) rfl rfl (by exact congrArg Value.bool hq68) ?_
          refine Q_pu (P_move (vi i2) rfl) ?_
          refine Q_run (dj := 29) rfl rfl (by exact congrArg Value.bool hq68) ?_
          obtain ⟨hb69, H⟩ := H
          obtain ⟨ad70, cs71, hA72, hS75, hR73, hcl74⟩ := h17.get default (by decide) i2 hb69
          obtain ⟨rfl, hs76, hs77⟩ := kTag.op hR73
          refine Q_pu (P_ia Try.underlying77 se77 A1 ad70 n2 c3 h17.len i2 rfl hA72 rfl hb69) ?_
          refine Q_run (dj := 29) rfl rfl (by exact congrArg Value.bool hq68) ?_
          refine Q_pu (P_fa fa149_0 (ad70.add (i2.toNat * 2)) ((ad70.add (i2.toNat * 2)).add 0) rfl rfl) ?_
          refine Q_run (dj := 29) rfl rfl (by exact congrArg Value.bool hq68) ?_
          refine Q_pu (P_ld ag9 cQ ((ad70.add (i2.toNat * 2)).add 0) (vs ((nth t_ i2).Key)) rfl (hcl74 0 _ rfl)) ?_
          refine Q_run (dj := 29) rfl rfl (by exact congrArg Value.bool hq68) ?_
          refine Q_pu (P_move (.slice A1 n2 c3) rfl) ?_
          refine Q_run (dj := 29) rfl rfl (by exact congrArg Value.bool hq68) ?_
          refine Q_pu (P_move (vi i2) rfl) ?_
          refine Q_run (dj := 29) rfl rfl (by exact congrArg Value.bool hq68) ?_
          obtain ⟨hb78, H⟩ := H
          have hi79 := hb78 (len_le hl24)
          refine Q_pu (P_sub i2 1 rfl rfl hi79) ?_
          refine Q_run (dj := 29) rfl rfl (by exact congrArg Value.bool hq68) ?_
          obtain ⟨hb80, H⟩ := H
          obtain ⟨ad81, cs82, hA83, hS86, hR84, hcl85⟩ := h17.get default (by decide) (i2 - 1) hb80
          obtain ⟨rfl, hs87, hs88⟩ := kTag.op hR84
          refine Q_pu (P_ia Try.underlying77 se77 A1 ad81 n2 c3 h17.len (i2 - 1) rfl hA83 rfl hb80) ?_
          refine Q_run (dj := 29) rfl rfl (by exact congrArg Value.bool hq68) ?_
          refine Q_pu (P_fa fa149_0 (ad81.add ((i2 - 1).toNat * 2)) ((ad81.add ((i2 - 1).toNat * 2)).add 0) rfl rfl) ?_
          refine Q_run (dj := 29) rfl rfl (by exact congrArg Value.bool hq68) ?_
          refine Q_pu (P_ld ag9 cQ ((ad81.add ((i2 - 1).toNat * 2)).add 0) (vs ((nth t_ (i2 - 1)).Key)) rfl (hcl85 0 _ rfl)) ?_
          refine Q_run (dj := 29) rfl rfl (by exact congrArg Value.bool hq68) ?_
          refine Q_pu (P_scmp ((nth t_ i2).Key) ((nth t_ (i2 - 1)).Key) (Op.bytesLess ((nth t_ i2).Key) ((nth t_ (i2 - 1)).Key) || ((nth t_ i2).Key) == ((nth t_ (i2 - 1)).Key)) rfl rfl rfl) ?_
          refine Q_run (dj := 26) rfl rfl (by exact congrArg Value.bool hq63) ?_
          refine Q_pu (P_pick true (vb (Op.bytesLess ((nth t_ i2).Key) ((nth t_ (i2 - 1)).Key) || ((nth t_ i2).Key) == ((nth t_ (i2 - 1)).Key))) (by exact congrArg Value.bool hq68) rfl) ?_
          refine Q_pu (P_pick false (vb (Op.bytesLess ((nth t_ i2).Key) ((nth t_ (i2 - 1)).Key) || ((nth t_ i2).Key) == ((nth t_ (i2 - 1)).Key))) (by exact congrArg Value.bool hq63) rfl) ?_
          refine Q_nil fun w89 g90 => ?_
          have hc92 := hc16.k0 g90
          refine W_cond (Op.bytesLess ((nth t_ i2).Key) ((nth t_ (i2 - 1)).Key) || ((nth t_ i2).Key) == ((nth t_ (i2 - 1)).Key)) rfl (fun hq93 => ?_) (fun hq93 => ?_)
          · have H := ite_t H hq93
            refine W_seq ?_
            refine W_reg ?_
            refine L_pu (P_assign (vb false) rfl) ?_
            refine L_nil ?_
            refine W_ret ?_
            exact ⟨[vb false], ⟨_, rfl, rfl⟩, false, rfl, H, hc92.gr⟩
          · have H := ite_f H hq93
            refine W_skip ?_
            refine W_reg ?_
            refine L_pu (P_move (vi i2) rfl) ?_
            obtain ⟨hb95, H⟩ := H
            have hi94 : I64 (i2 + 1) := i64_succ (of_decide_eq_true hq25) hl24 hb95
            refine L_pu (P_add i2 1 rfl rfl hi94) ?_
            refine L_pu (P_assign (vi (i2 + 1)) rfl) ?_
            refine L_nil ?_
            obtain ⟨hI96, hm97⟩ := H
            exact ⟨i2 + 1, hm97, hI96, ⟨rfl, rfl, trivial⟩, hc92, (h17.st (.new _ g90))⟩
        · have H := ite_f H hq68
          refine Q_pass (dj := 29) rfl rfl (.inl (by exact congrArg Value.bool hq68)) ?_
          refine Q_pass (dj := 29) rfl rfl (.inl (by exact congrArg Value.bool hq68)) ?_
          refine Q_pass (dj := 29) rfl rfl (.inl (by exact congrArg Value.bool hq68)) ?_
          refine Q_pass (dj := 29) rfl rfl (.inl (by exact congrArg Value.bool hq68)) ?_
          refine Q_pass (dj := 29) rfl rfl (.inl (by exact congrArg Value.bool hq68)) ?_
          refine Q_pass (dj := 29) rfl rfl (.inl (by exact congrArg Value.bool hq68)) ?_
          refine Q_pass (dj := 29) rfl rfl (.inl (by exact congrArg Value.bool hq68)) ?_
          refine Q_pass (dj := 29) rfl rfl (.inl (by exact congrArg Value.bool hq68)) ?_
          refine Q_pass (dj := 29) rfl rfl (.inl (by exact congrArg Value.bool hq68)) ?_
          refine Q_pass (dj := 29) rfl rfl (.inl (by exact congrArg Value.bool hq68)) ?_
          refine Q_pass (dj := 29) rfl rfl (.inl (by exact congrArg Value.bool hq68)) ?_
          refine Q_pass (dj := 29) rfl rfl (.inl (by exact congrArg Value.bool hq68)) ?_
          refine Q_run (dj := 26) rfl rfl (by exact congrArg Value.bool hq63) ?_
          refine Q_pu (P_pick false (vb false) (by exact congrArg Value.bool hq68) rfl) ?_
          refine Q_pu (P_pick false (vb false) (by exact congrArg Value.bool hq63) rfl) ?_
          refine Q_nil fun w98 g99 => ?_
          have hc101 := hc16.k0 g99
          refine W_cf (b := false) rfl rfl ?_
          refine W_skip ?_
          refine W_reg ?_
          refine L_pu (P_move (vi i2) rfl) ?_
          obtain ⟨hb103, H⟩ := H
          have hi102 : I64 (i2 + 1) := i64_succ (of_decide_eq_true hq25) hl24 hb103
          refine L_pu (P_add i2 1 rfl rfl hi102) ?_
          refine L_pu (P_assign (vi (i2 + 1)) rfl) ?_
          refine L_nil ?_
          obtain ⟨hI104, hm105⟩ := H
          exact ⟨i2 + 1, hm105, hI104, ⟨rfl, rfl, trivial⟩, hc101, (h17.st (.new _ g99))⟩
  · have H := ite_f H hq25
    refine W_exit (xin_hit ?_)
    refine W_seq ?_
    refine W_reg ?_
    refine L_pu (P_move (.slice A1 n2 c3) rfl) ?_
    refine L_pu (P_len Try.underlying77 A1 n2 c3 h17.len rfl) ?_
    refine L_pu (P_cmp (t_.length : Int) 4 (decide ((t_.length : Int) ≤ 4)) rfl rfl rfl) ?_
    refine L_pu (P_assign (vb (decide ((t_.length : Int) ≤ 4))) rfl) ?_
    refine L_nil ?_
    refine W_ret ?_
    exact ⟨[vb (decide ((t_.length : Int) ≤ 4))], ⟨_, rfl, rfl⟩, decide ((t_.length : Int) ≤ 4), rfl, H, hc16.gr⟩
end Go.Proofs.Ythkeboifjlnjjaa

namespace Go.Proofs.Ythkeboifjlnjjaa
set_option linter.unusedVariables false
set_option linter.unusedSimpArgs false
set_option linter.unusedSectionVars false
theorem spec_l2Tags.law (t : List Tag) (Q : Bool → Prop) (hq : Q (tagsOk t && decide (t.length ≤ 4))) : spec_l2Tags.E t Q := by
  unfold spec_l2Tags.E
  unfold tagsOk at hq
  refine loop_all t.length (fun k => wordOk (nth t (k : Int)).Key && wordOk (nth t (k : Int)).Val && (decide (k = 0) || Op.bytesLess (nth t ((k : Int) - 1)).Key (nth t (k : Int)).Key)) (fun I mu k hk hp hn => ?_) (fun ha => ?_)
  · have bad : (wordOk (nth t (k : Int)).Key && wordOk (nth t (k : Int)).Val && (decide (k = 0) || Op.bytesLess (nth t ((k : Int) - 1)).Key (nth t (k : Int)).Key)) = false → Q false := fun h => by
      rw [allN_false hk h, Bool.false_and] at hq; exact hq
    refine ⟨by omega, _, spec_WordOk.law _ _ rfl, ?_⟩
    cases h1 : wordOk (nth t (k : Int)).Key with
    | false => rw [if_pos (by decide)]; exact bad (by rw [h1]; rfl)
    | true =>
      rw [if_neg (by decide)]
      refine ⟨by omega, _, spec_WordOk.law _ _ rfl, ?_⟩
      cases h2 : wordOk (nth t (k : Int)).Val with
      | false => rw [if_pos (by decide)]; exact bad (by rw [h2, Bool.and_false]; rfl)
      | true =>
        rw [if_neg (by decide)]
        by_cases hk0 : k = 0
        · rw [if_neg (by rw [decide_eq_true_eq]; omega)]
          obtain ⟨i1, i2⟩ := hn (by rw [h1, h2, decide_eq_true hk0]; rfl)
          exact ⟨by omega, i1, i2⟩
        · rw [if_pos (by rw [decide_eq_true_eq]; omega)]
          refine ⟨by omega, fun _ => by unfold I64; omega, by omega, ?_⟩
          rw [← less_tri]
          cases h3 : Op.bytesLess (nth t ((k : Int) - 1)).Key (nth t (k : Int)).Key with
          | false => rw [if_pos (by decide)]; exact bad (by rw [h3, h1, h2, decide_eq_false hk0]; rfl)
          | true =>
            rw [if_neg (by decide)]
            obtain ⟨i1, i2⟩ := hn (by rw [h3, h1, h2, decide_eq_false hk0]; rfl)
            exact ⟨by omega, i1, i2⟩
  · rw [allN_true ha, Bool.true_and] at hq
    have e2 : decide ((t.length : Int) ≤ 4) = decide (t.length ≤ 4) := decide_eq_decide.2 (by omega)
    rw [e2]; exact hq
end Go.Proofs.Ythkeboifjlnjjaa

namespace Go.Proofs.Ythkeboifjlnjjaa
open Go.RowKit
set_option linter.unusedVariables false
def spec_FeatOk.E (f : Feat) (Q : Bool → Prop) : Prop :=
  spec_WordOk.E f.Id (fun r => (if r then spec_ShapeOk.E f.Shape (fun r2 => (if r2 then spec_l2Tags.E f.Tags (fun r3 => Q r3) else Q false)) else Q false))
set_option maxHeartbeats 8000000 in
set_option maxRecDepth 100000 in
theorem spec_FeatOk.calls {O : Ob} (w0 : World) (hO : Ok w0 O) (f : Feat) (A2 : Option Addr) (n3 c4 : Nat) (A7 : Option Addr) (n8 c9 : Nat) (hs1 : Lim f.Id) (hp5 : Sl kPt w0 (Fr O) (.slice A2 n3 c4) f.Shape.Pts) (hp10 : Sl kTag w0 (Fr O) (.slice A7 n8 c9) f.Tags) (Q : Bool → Prop) (h : spec_FeatOk.E f Q) :
    Ret Try.prog 76 [.agg #[vs f.Id, vi f.Shape.Kind, .slice A2 n3 c4, .slice A7 n8 c9]] w0 (fun v w' => ∃ (r0 : Bool), v = vb r0 ∧ Q r0 ∧ Gr w0 w' none) := by
  have H : spec_WordOk.E f.Id (fun r => (if r then spec_ShapeOk.E f.Shape (fun r2 => (if r2 then spec_l2Tags.E f.Tags (fun r3 => Q r3) else Q false)) else Q false)) := h
  clear h
  have hc0 := Ct.init hO
  refine Ret_enter Try.func76 rfl 16 rfl [.tmp 2] rfl rfl ?_
  refine W_seq ?_
  refine W_reg ?_
  refine L_box [vs f.Id, vi f.Shape.Kind, .slice A2 n3 c4, .slice A7 n8 c9] rfl fun w12 b13 hl15 hu16 g14 hx17 => ?_
  have h19 := Fb.mk hc0.ok hl15 hx17
  have hc20 := hc0.k0 g14
  refine L_pu (P_assign (vb false) rfl) ?_
  refine L_nil ?_
  refine W_seq ?_
  refine W_reg ?_
  refine L_pu (P_fa fa79_0 ⟨b13, 0, none⟩ ⟨b13, 0, none⟩ rfl rfl) ?_
  refine L_pu (P_ld ag9 cL ⟨b13, 0, none⟩ (vs f.Id) rfl (h19.cell rfl)) ?_
  refine L_call go57 [vs f.Id] rfl ((spec_WordOk.calls w12 hc20.ok f.Id hs1 _ H).mono ?_)
  rintro _ w21 ⟨r, rfl, H, g22⟩
  have hc26 := hc20.k0 g22
  refine L_pu (P_move (vb r) rfl) ?_
  rcases bool_or r with hq27 | hq27
  · have H := ite_t H hq27
    refine L_run (dj := 6) rfl rfl (by exact congrArg Value.bool hq27) ?_
    refine L_pu (P_fa fa79_1 ⟨b13, 0, none⟩ ⟨b13, 1, none⟩ rfl rfl) ?_
    refine L_run (dj := 6) rfl rfl (by exact congrArg Value.bool hq27) ?_
    have h28 := (h19.st (.new _ g22))
    refine L_pu (P_lda ag76 sz76 cL ⟨b13, 1, none⟩ [vi f.Shape.Kind, .slice A2 n3 c4] rfl rfl (h28.cells (off := 1) rfl)) ?_
    refine L_run (dj := 6) rfl rfl (by exact congrArg Value.bool hq27) ?_
    refine L_call go103 [.agg #[vi f.Shape.Kind, .slice A2 n3 c4]] rfl ((spec_ShapeOk.calls w21 hc26.ok f.Shape A2 n3 c4 (hp5.st hc26.st) _ H).mono ?_)
    rintro _ w29 ⟨r2, rfl, H, g30⟩
    have hc34 := hc26.k0 g30
    refine L_pu (P_pick true (vb r2) (by exact congrArg Value.bool hq27) rfl) ?_
    refine L_pu (P_move (vb r2) rfl) ?_
    rcases bool_or r2 with hq35 | hq35
    · have H := ite_t H hq35
      refine L_run (dj := 11) rfl rfl (by exact congrArg Value.bool hq35) ?_
      refine L_pu (P_fa fa79_2 ⟨b13, 0, none⟩ ⟨b13, 3, none⟩ rfl rfl) ?_
      refine L_run (dj := 11) rfl rfl (by exact congrArg Value.bool hq35) ?_
      have h36 := (h28.st (.new _ g30))
      refine L_pu (P_ld ag77 cL ⟨b13, 3, none⟩ (.slice A7 n8 c9) rfl (h36.cell rfl)) ?_
      refine L_run (dj := 11) rfl rfl (by exact congrArg Value.bool hq35) ?_
      refine L_call go104 [.slice A7 n8 c9] rfl ((spec_l2Tags.calls w29 hc34.ok f.Tags A7 n8 c9 (hp10.st hc34.st) _ H).mono ?_)
      rintro _ w37 ⟨r3, rfl, H, g38⟩
      have hc42 := hc34.k0 g38
      refine L_pu (P_pick true (vb r3) (by exact congrArg Value.bool hq35) rfl) ?_
      refine L_pu (P_assign (vb r3) rfl) ?_
      refine L_nil ?_
      refine W_ret ?_
      exact ⟨[vb r3], ⟨_, rfl, rfl⟩, r3, rfl, H, hc42.gr⟩
    · have H := ite_f H hq35
      refine L_pass (dj := 11) rfl rfl (.inl (by exact congrArg Value.bool hq35)) ?_
      refine L_pass (dj := 11) rfl rfl (.inl (by exact congrArg Value.bool hq35)) ?_
      refine L_pass (dj := 11) rfl rfl (.inl (by exact congrArg Value.bool hq35)) ?_
      refine L_pu (P_pick false (vb false) (by exact congrArg Value.bool hq35) rfl) ?_
      refine L_pu (P_assign (vb false) rfl) ?_
      refine L_nil ?_
      refine W_ret ?_
      exact ⟨[vb false], ⟨_, rfl, rfl⟩, false, rfl, H, hc34.gr⟩
  · have H := ite_f H hq27
    refine L_pass (dj := 6) rfl rfl (.inl (by exact congrArg Value.bool hq27)) ?_
    refine L_pass (dj := 6) rfl rfl (.inl (by exact congrArg Value.bool hq27)) ?_
    refine L_pass (dj := 6) rfl rfl (.inl (by exact congrArg Value.bool hq27)) ?_
    refine L_pu (P_pick false (vb false) (by exact congrArg Value.bool hq27) rfl) ?_
    refine L_pu (P_move (vb false) rfl) ?_
    refine L_pass (dj := 11) rfl rfl (.inl rfl) ?_
    refine L_pass (dj := 11) rfl rfl (.inl rfl) ?_
    refine L_pass (dj := 11) rfl rfl (.inl rfl) ?_
    refine L_pu (P_pick false (vb false) (by exact congrArg Value.bool rfl) rfl) ?_
    refine L_pu (P_assign (vb false) rfl) ?_
    refine L_nil ?_
    refine W_ret ?_
    exact ⟨[vb false], ⟨_, rfl, rfl⟩, false, rfl, H, hc26.gr⟩
end Go.Proofs.Ythkeboifjlnjjaa

namespace Go.Proofs.Ythkeboifjlnjjaa
set_option linter.unusedVariables false
set_option linter.unusedSimpArgs false
set_option linter.unusedSectionVars false
theorem spec_FeatOk.law (f : Feat) (Q : Bool → Prop) (hq : Q (featOk f)) : spec_FeatOk.E f Q := by
  unfold spec_FeatOk.E
  unfold featOk at hq
  refine spec_WordOk.law _ _ ?_
  cases h1 : wordOk f.Id with
  | false => rw [h1, Bool.and_false, Bool.false_and] at hq; rw [if_neg (by decide)]; exact hq
  | true =>
    rw [h1, Bool.and_true] at hq
    rw [if_pos rfl]
    refine spec_ShapeOk.law _ _ ?_
    cases h2 : shapeOk f.Shape with
    | false => rw [h2, Bool.and_false] at hq; rw [if_neg (by decide)]; exact hq
    | true => rw [h2, Bool.and_true] at hq; rw [if_pos rfl]; exact spec_l2Tags.law _ _ hq
end Go.Proofs.Ythkeboifjlnjjaa

namespace Go.Proofs.Ythkeboifjlnjjaa
open Go.RowKit
set_option linter.unusedVariables false
def spec_SheetOk.E (s : List Feat) (Q : Bool → Prop) : Prop :=
  (∃ (I18 : Int → Prop) (mu19 : Int → Nat), I18 0 ∧ ∀ (i2 : Int), I18 i2 → (if decide (i2 < (s.length : Int)) then ((0 : Int) ≤ i2 ∧ i2 < (s.length : Int)) ∧ (∃ q : Bool, spec_FeatOk.E (nth s i2) (fun x => x = q) ∧ (if !q then Q false else (if decide (i2 > 0) then ((0 : Int) ≤ i2 ∧ i2 < (s.length : Int)) ∧ ((s.length : Int) ≤ 9223372036854775807 → I64 (i2 - 1)) ∧ ((0 : Int) ≤ i2 - 1 ∧ i2 - 1 < (s.length : Int)) ∧ (if Op.bytesLess ((nth s i2).Id) ((nth s (i2 - 1)).Id) || ((nth s i2).Id) == ((nth s (i2 - 1)).Id) then Q false else (-9223372036854775808 ≤ i2) ∧ I18 (i2 + 1) ∧ mu19 (i2 + 1) < mu19 i2) else (-9223372036854775808 ≤ i2) ∧ I18 (i2 + 1) ∧ mu19 (i2 + 1) < mu19 i2))) else Q (decide ((s.length : Int) ≤ 8))))
set_option maxHeartbeats 8000000 in
set_option maxRecDepth 100000 in
theorem spec_SheetOk.calls {O : Ob} (w0 : World) (hO : Ok w0 O) (s : List Feat) (A1 : Option Addr) (n2 c3 : Nat) (hp4 : Sl kFeat w0 (Fr O) (.slice A1 n2 c3) s) (Q : Bool → Prop) (h : spec_SheetOk.E s Q) :
    Ret Try.prog 56 [.slice A1 n2 c3] w0 (fun v w' => ∃ (r0 : Bool), v = vb r0 ∧ Q r0 ∧ Gr w0 w' none) := by
  have H : (∃ (I18 : Int → Prop) (mu19 : Int → Nat), I18 0 ∧ ∀ (i2 : Int), I18 i2 → (if decide (i2 < (s.length : Int)) then ((0 : Int) ≤ i2 ∧ i2 < (s.length : Int)) ∧ (∃ q : Bool, spec_FeatOk.E (nth s i2) (fun x => x = q) ∧ (if !q then Q false else (if decide (i2 > 0) then ((0 : Int) ≤ i2 ∧ i2 < (s.length : Int)) ∧ ((s.length : Int) ≤ 9223372036854775807 → I64 (i2 - 1)) ∧ ((0 : Int) ≤ i2 - 1 ∧ i2 - 1 < (s.length : Int)) ∧ (if Op.bytesLess ((nth s i2).Id) ((nth s (i2 - 1)).Id) || ((nth s i2).Id) == ((nth s (i2 - 1)).Id) then Q false else (-9223372036854775808 ≤ i2) ∧ I18 (i2 + 1) ∧ mu19 (i2 + 1) < mu19 i2) else (-9223372036854775808 ≤ i2) ∧ I18 (i2 + 1) ∧ mu19 (i2 + 1) < mu19 i2))) else Q (decide ((s.length : Int) ≤ 8)))) := h
  clear h
  have hc0 := Ct.init hO
  refine Ret_enter Try.func56 rfl 37 rfl [.tmp 2] rfl rfl ?_
  refine W_seq ?_
  refine W_reg ?_
  refine L_pu (P_assign (vb false) rfl) ?_
  refine L_nil ?_
  refine W_seq ?_
  refine W_seq ?_
  refine W_reg ?_
  refine L_pu (P_assign (vi 0) rfl) ?_
  refine L_nil ?_
  refine W_block ?_
  obtain ⟨I18, mu19, hI20, H⟩ := H
  refine W_loop (α := Int) (fun (sv__ : Int) t w14 => match sv__ with | i2 => I18 i2 ∧ Has t [(0, .slice A1 n2 c3), (3, vi i2)] ∧ Ct none w0 w14 [] O ∧ Sl kFeat w14 (Fr ([] ++ O)) (.slice A1 n2 c3) s) (fun (sv__ : Int) => match sv__ with | i2 => mu19 i2) 0 ⟨hI20, ⟨rfl, rfl, trivial⟩, hc0, hp4⟩ ?_
  rintro i2 _ w14 ⟨hI20, hh22, hc16, h17⟩
  obtain ⟨u23, rfl⟩ := Has.ins hh22
  have H := H i2 hI20
  refine W_seq ?_
  refine W_seq ?_
  refine W_reg ?_
  refine L_pu (P_move (vi i2) rfl) ?_
  refine L_pu (P_move (.slice A1 n2 c3) rfl) ?_
  have hl24 := h17.le
  refine L_pu (P_len Try.underlying91 A1 n2 c3 h17.len rfl) ?_
  refine L_pu (P_cmp i2 (s.length : Int) (decide (i2 < (s.length : Int))) rfl rfl rfl) ?_
  refine L_nil ?_
  refine W_cond (decide (i2 < (s.length : Int))) rfl (fun hq25 => ?_) (fun hq25 => ?_)
  · have H := ite_t H hq25
    refine W_skip ?_
    refine W_seq ?_
    refine W_block ?_
    refine W_seq ?_
    refine W_draw (fun x => Gr w14 x none) (by kernel_rfl) (by kernel_rfl) (Gr.drew _) ?_
    refine Q_pu (P_move (.slice A1 n2 c3) rfl) ?_
    refine Q_pu (P_move (vi i2) rfl) ?_
    obtain ⟨hb26, H⟩ := H
    obtain ⟨ad27, cs28, hA29, hS32, hR30, hcl31⟩ := h17.get default (by decide) i2 hb26
    obtain ⟨A34, n35, c36, A39, n40, c41, rfl, hs33, h37, h42⟩ := kFeat.op hR30
    refine Q_pu (P_ia Try.underlying91 se91 A1 ad27 n2 c3 h17.len i2 rfl hA29 rfl hb26) ?_
    refine Q_pu (P_lda ag79 sz79 cQ (ad27.add (i2.toNat * 4)) [vs ((nth s i2).Id), vi ((nth s i2).Shape.Kind), .slice A34 n35 c36, .slice A39 n40 c41] rfl rfl hcl31) ?_
    obtain ⟨q, hE49, H⟩ := H
    refine Q_call go76 [.agg #[vs ((nth s i2).Id), vi ((nth s i2).Shape.Kind), .slice A34 n35 c36, .slice A39 n40 c41]] rfl (vb q) (fun w g => (spec_FeatOk.calls w (hc16.k0 g).ok (nth s i2) A34 n35 c36 A39 n40 c41 hs33 (h37.st (.new _ g)) (h42.st (.new _ g)) _ hE49).mono ?_) ?_
    · rintro _ w ⟨r, rfl, rfl, g2⟩
      exact ⟨rfl, Gr.t0 g g2⟩
    refine Q_pu (P_not q rfl) ?_
    refine Q_pu (P_move (vb (!q)) rfl) ?_
    rcases bool_or (!q) with hq51 | hq51
    · have H := ite_t H hq51
      refine Q_pass (dj := 16) rfl rfl (.inl (by exact congrArg Value.bool hq51)) ?_
      refine Q_pass (dj := 16) rfl rfl (.inl (by exact congrArg Value.bool hq51)) ?_
      refine Q_pass (dj := 16) rfl rfl (.inl (by exact congrArg Value.bool hq51)) ?_
      refine Q_pass (dj := 19) rfl rfl (.inr rfl) ?_
      refine Q_pass (dj := 19) rfl rfl (.inr rfl) ?_
      refine Q_pass (dj := 19) rfl rfl (.inr rfl) ?_
      refine Q_pass (dj := 19) rfl rfl (.inr rfl) ?_
      refine Q_pass (dj := 19) rfl rfl (.inr rfl) ?_
      refine Q_pass (dj := 19) rfl rfl (.inr rfl) ?_
      refine Q_pass (dj := 19) rfl rfl (.inr rfl) ?_
      refine Q_pass (dj := 19) rfl rfl (.inr rfl) ?_
      refine Q_pass (dj := 19) rfl rfl (.inr rfl) ?_
      refine Q_pass (dj := 19) rfl rfl (.inr rfl) ?_
      refine Q_pass (dj := 19) rfl rfl (.inr rfl) ?_
      refine Q_pass (dj := 19) rfl rfl (.inr rfl) ?_
      refine Q_pass (dj := 16) rfl rfl (.inl (by exact congrArg Value.bool hq51)) ?_
      refine Q_pu (P_pick true (vb true) (by exact congrArg Value.bool hq51) rfl) ?_
      refine Q_nil fun w52 g53 => ?_
      have hc55 := hc16.k0 g53
      refine W_ct (b := true) rfl rfl ?_
      refine W_seq ?_
      refine W_reg ?_
      refine L_pu (P_assign (vb false) rfl) ?_
      refine L_nil ?_
      refine W_ret ?_
      exact ⟨[vb false], ⟨_, rfl, rfl⟩, false, rfl, H, hc55.gr⟩
    · have H := ite_f H hq51
      refine Q_run (dj := 16) rfl rfl (by exact congrArg Value.bool hq51) ?_
      refine Q_pu (P_move (vi i2) rfl) ?_
      refine Q_run (dj := 16) rfl rfl (by exact congrArg Value.bool hq51) ?_
      refine Q_pu (P_cmp i2 0 (decide (i2 > 0)) rfl rfl rfl) ?_
      refine Q_run (dj := 16) rfl rfl (by exact congrArg Value.bool hq51) ?_
      refine Q_pu (P_move (vb (decide (i2 > 0))) rfl) ?_
      rcases bool_or (decide (i2 > 0)) with hq56 | hq56
      · have H := ite_t H hq56
        refine Q_run (dj := 19) rfl rfl (by exact congrArg Value.bool hq56) ?_
        refine Q_pu (P_move (.slice A1 n2 c3) rfl) ?_
        refine Q_run (dj := 19) rfl rfl (by exact congrArg Value.bool hq56) ?_
        refine Q_pu (P_move (vi i2) rfl) ?_
        refine Q_run (dj := 19) rfl rfl (by exact congrArg Value.bool hq56) ?_
        obtain ⟨hb57, H⟩ := H
        obtain ⟨ad58, cs59, hA60, hS63, hR61, hcl62⟩ := h17.get default (by decide) i2 hb57
        obtain ⟨A65, n66, c67, A70, n71, c72, rfl, hs64, h68, h73⟩ := kFeat.op hR61
        refine Q_pu (P_ia Try.underlying91 se91 A1 ad58 n2 c3 h17.len i2 rfl hA60 rfl hb57) ?_
        refine Q_run (dj := 19) rfl rfl (by exact congrArg Value.bool hq56) ?_
        refine Q_pu (P_fa fa79_0 (ad58.add (i2.toNat * 4)) ((ad58.add (i2.toNat * 4)).add 0) rfl rfl) ?_
        refine Q_run (dj := 19) rfl rfl (by exact congrArg Value.bool hq56) ?_
        refine Q_pu (P_ld ag9 cQ ((ad58.add (i2.toNat * 4)).add 0) (vs ((nth s i2).Id)) rfl (hcl62 0 _ rfl)) ?_
        refine Q_run (dj := 19) rfl rfl (by exact congrArg Value.bool hq56) ?_
        refine Q_pu (P_move (.slice A1 n2 c3) rfl) ?_
        refine Q_run (dj := 19) rfl rfl (by exact congrArg Value.bool hq56) ?_
        refine Q_pu (P_move (vi i2) rfl) ?_
        refine Q_run (dj := 19) rfl rfl (by exact congrArg Value.bool hq56) ?_
        obtain ⟨hb75, H⟩ := H
        have hi76 := hb75 (len_le hl24)
        refine Q_pu (P_sub i2 1 rfl rfl hi76) ?_
        refine Q_run (dj := 19) rfl rfl (by exact congrArg Value.bool hq56) ?_
        obtain ⟨hb77, H⟩ := H
        obtain ⟨ad78, cs79, hA80, hS83, hR81, hcl82⟩ := h17.get default (by decide) (i2 - 1) hb77
        obtain ⟨A85, n86, c87, A90, n91, c92, rfl, hs84, h88, h93⟩ := kFeat.op hR81
        refine Q_pu (P_ia Try.underlying91 se91 A1 ad78 n2 c3 h17.len (i2 - 1) rfl hA80 rfl hb77) ?_
        refine Q_run (dj := 19) rfl rfl (by exact congrArg Value.bool hq56) ?_
        refine Q_pu (P_fa fa79_0 (ad78.add ((i2 - 1).toNat * 4)) ((ad78.add ((i2 - 1).toNat * 4)).add 0) rfl rfl) ?_
        refine Q_run (dj := 19) rfl rfl (by exact congrArg Value.bool hq56) ?_
        refine Q_pu (P_ld ag9 cQ ((ad78.add ((i2 - 1).toNat * 4)).add 0) (vs ((nth s (i2 - 1)).Id)) rfl (hcl82 0 _ rfl)) ?_
        refine Q_run (dj := 19) rfl rfl (by exact congrArg Value.bool hq56) ?_
        refine Q_pu (P_scmp ((nth s i2).Id) ((nth s (i2 - 1)).Id) (Op.bytesLess ((nth s i2).Id) ((nth s (i2 - 1)).Id) || ((nth s i2).Id) == ((nth s (i2 - 1)).Id)) rfl rfl rfl) ?_
        refine Q_run (dj := 16) rfl rfl (by exact congrArg Value.bool hq51) ?_
        refine Q_pu (P_pick true (vb (Op.bytesLess ((nth s i2).Id) ((nth s (i2 - 1)).Id) || ((nth s i2).Id) == ((nth s (i2 - 1)).Id))) (by exact congrArg Value.bool hq56) rfl) ?_
        refine Q_pu (P_pick false (vb (Op.bytesLess ((nth s i2).Id) ((nth s (i2 - 1)).Id) || ((nth s i2).Id) == ((nth s (i2 - 1)).Id))) (by exact congrArg Value.bool hq51) rfl) ?_
        refine Q_nil fun w95 g96 => ?_
        have hc98 := hc16.k0 g96
        refine W_cond (Op.bytesLess ((nth s i2).Id) ((nth s (i2 - 1)).Id) || ((nth s i2).Id) == ((nth s (i2 - 1)).Id)) rfl (fun hq99 => ?_) (fun hq99 => ?_)
        · have H := ite_t H hq99
          refine W_seq ?_
          refine W_reg ?_
          refine L_pu (P_assign (vb false) rfl) ?_
          refine L_nil ?_
          refine W_ret ?_
          exact ⟨[vb false], ⟨_, rfl, rfl⟩, false, rfl, H, hc98.gr⟩
        · have H := ite_f H hq99
          refine W_skip ?_
          refine W_reg ?_
          refine L_pu (P_move (vi i2) rfl) ?_
          obtain ⟨hb101, H⟩ := H
          have hi100 : I64 (i2 + 1) := i64_succ (of_decide_eq_true hq25) hl24 hb101
          refine L_pu (P_add i2 1 rfl rfl hi100) ?_
          refine L_pu (P_assign (vi (i2 + 1)) rfl) ?_
          refine L_nil ?_
          obtain ⟨hI102, hm103⟩ := H
          exact ⟨i2 + 1, hm103, hI102, ⟨rfl, rfl, trivial⟩, hc98, (h17.st (.new _ g96))⟩
      · have H := ite_f H hq56
        refine Q_pass (dj := 19) rfl rfl (.inl (by exact congrArg Value.bool hq56)) ?_
        refine Q_pass (dj := 19) rfl rfl (.inl (by exact congrArg Value.bool hq56)) ?_
        refine Q_pass (dj := 19) rfl rfl (.inl (by exact congrArg Value.bool hq56)) ?_
        refine Q_pass (dj := 19) rfl rfl (.inl (by exact congrArg Value.bool hq56)) ?_
        refine Q_pass (dj := 19) rfl rfl (.inl (by exact congrArg Value.bool hq56)) ?_
        refine Q_pass (dj := 19) rfl rfl (.inl (by exact congrArg Value.bool hq56)) ?_
        refine Q_pass (dj := 19) rfl rfl (.inl (by exact congrArg Value.bool hq56)) ?_
        refine Q_pass (dj := 19) rfl rfl (.inl (by exact congrArg Value.bool hq56)) ?_
        refine Q_pass (dj := 19) rfl rfl (.inl (by exact congrArg Value.bool hq56)) ?_
        refine Q_pass (dj := 19) rfl rfl (.inl (by exact congrArg Value.bool hq56)) ?_
        refine Q_pass (dj := 19) rfl rfl (.inl (by exact congrArg Value.bool hq56)) ?_
        refine Q_pass (dj := 19) rfl rfl (.inl (by exact congrArg Value.bool hq56)) ?_
        refine Q_run (dj := 16) rfl rfl (by exact congrArg Value.bool hq51) ?_
        refine Q_pu (P_pick false (vb false) (by exact congrArg Value.bool hq56) rfl) ?_
        refine Q_pu (P_pick false (vb false) (by exact congrArg Value.bool hq51) rfl) ?_
        refine Q_nil fun w104 g105 => ?_
        have hc107 := hc16.k0 g105
        refine W_cf (b := false) rfl rfl ?_
        refine W_skip ?_
        refine W_reg ?_
        refine L_pu (P_move (vi i2) rfl) ?_
        obtain ⟨hb109, H⟩ := H
        have hi108 : I64 (i2 + 1) := i64_succ (of_decide_eq_true hq25) hl24 hb109
        refine L_pu (P_add i2 1 rfl rfl hi108) ?_
        refine L_pu (P_assign (vi (i2 + 1)) rfl) ?_
        refine L_nil ?_
        obtain ⟨hI110, hm111⟩ := H
        exact ⟨i2 + 1, hm111, hI110, ⟨rfl, rfl, trivial⟩, hc107, (h17.st (.new _ g105))⟩
  · have H := ite_f H hq25
    refine W_exit (xin_hit ?_)
    refine W_seq ?_
    refine W_reg ?_
    refine L_pu (P_move (.slice A1 n2 c3) rfl) ?_
    refine L_pu (P_len Try.underlying91 A1 n2 c3 h17.len rfl) ?_
    refine L_pu (P_cmp (s.length : Int) 8 (decide ((s.length : Int) ≤ 8)) rfl rfl rfl) ?_
    refine L_pu (P_assign (vb (decide ((s.length : Int) ≤ 8))) rfl) ?_
    refine L_nil ?_
    refine W_ret ?_
    exact ⟨[vb (decide ((s.length : Int) ≤ 8))], ⟨_, rfl, rfl⟩, decide ((s.length : Int) ≤ 8), rfl, H, hc16.gr⟩
end Go.Proofs.Ythkeboifjlnjjaa

namespace Go.Proofs.Ythkeboifjlnjjaa
set_option linter.unusedVariables false
set_option linter.unusedSimpArgs false
set_option linter.unusedSectionVars false
theorem spec_SheetOk.law (d : List Feat) (Q : Bool → Prop) (hq : Q (sheetOk d)) : spec_SheetOk.E d Q := by
  unfold spec_SheetOk.E
  unfold sheetOk at hq
  refine loop_all d.length (fun k => featOk (nth d (k : Int)) && (decide (k = 0) || Op.bytesLess (nth d ((k : Int) - 1)).Id (nth d (k : Int)).Id)) (fun I mu k hk hp hn => ?_) (fun ha => ?_)
  · have bad : (featOk (nth d (k : Int)) && (decide (k = 0) || Op.bytesLess (nth d ((k : Int) - 1)).Id (nth d (k : Int)).Id)) = false → Q false := fun h => by
      rw [allN_false hk h, Bool.false_and] at hq; exact hq
    refine ⟨by omega, _, spec_FeatOk.law _ _ rfl, ?_⟩
    cases h1 : featOk (nth d (k : Int)) with
    | false => rw [if_pos (by decide)]; exact bad (by rw [h1]; rfl)
    | true =>
      rw [if_neg (by decide)]
      by_cases hk0 : k = 0
      · rw [if_neg (by rw [decide_eq_true_eq]; omega)]
        obtain ⟨i1, i2⟩ := hn (by rw [h1, decide_eq_true hk0]; rfl)
        exact ⟨by omega, i1, i2⟩
      · rw [if_pos (by rw [decide_eq_true_eq]; omega)]
        refine ⟨by omega, fun _ => by unfold I64; omega, by omega, ?_⟩
        rw [← less_tri]
        cases h3 : Op.bytesLess (nth d ((k : Int) - 1)).Id (nth d (k : Int)).Id with
        | false => rw [if_pos (by decide)]; exact bad (by rw [h3, h1, decide_eq_false hk0]; rfl)
        | true =>
          rw [if_neg (by decide)]
          obtain ⟨i1, i2⟩ := hn (by rw [h3, h1, decide_eq_false hk0]; rfl)
          exact ⟨by omega, i1, i2⟩
  · rw [allN_true ha, Bool.true_and] at hq
    have e2 : decide ((d.length : Int) ≤ 8) = decide (d.length ≤ 8) := decide_eq_decide.2 (by omega)
    rw [e2]; exact hq
end Go.Proofs.Ythkeboifjlnjjaa

namespace Go.Proofs.Ythkeboifjlnjjaa
open Go.RowKit
set_option linter.unusedVariables false
def spec_l7Ints.E (a : List Int) (b : List Int) (Q : Bool → Prop) : Prop :=
  (if (a.length : Int) != (b.length : Int) then Q false else (∃ (I32 : Int → Prop) (mu33 : Int → Nat), I32 0 ∧ ∀ (i2 : Int), I32 i2 → (if decide (i2 < (a.length : Int)) then ((0 : Int) ≤ i2 ∧ i2 < (a.length : Int)) ∧ ((0 : Int) ≤ i2 ∧ i2 < (b.length : Int)) ∧ (if (nth a i2) != (nth b i2) then Q false else (-9223372036854775808 ≤ i2) ∧ I32 (i2 + 1) ∧ mu33 (i2 + 1) < mu33 i2) else Q true)))
set_option maxHeartbeats 8000000 in
set_option maxRecDepth 100000 in
theorem spec_l7Ints.calls {O : Ob} (w0 : World) (hO : Ok w0 O) (a : List Int) (A1 : Option Addr) (n2 c3 : Nat) (hp4 : Sl (Kd.int .i64) w0 (Fr O) (.slice A1 n2 c3) a) (b : List Int) (A6 : Option Addr) (n7 c8 : Nat) (hp9 : Sl (Kd.int .i64) w0 (Fr O) (.slice A6 n7 c8) b) (Q : Bool → Prop) (h : spec_l7Ints.E a b Q) :
    Ret Try.prog 84 [.slice A1 n2 c3, .slice A6 n7 c8] w0 (fun v w' => ∃ (r0 : Bool), v = vb r0 ∧ Q r0 ∧ Gr w0 w' none) := by
  have H : (if (a.length : Int) != (b.length : Int) then Q false else (∃ (I32 : Int → Prop) (mu33 : Int → Nat), I32 0 ∧ ∀ (i2 : Int), I32 i2 → (if decide (i2 < (a.length : Int)) then ((0 : Int) ≤ i2 ∧ i2 < (a.length : Int)) ∧ ((0 : Int) ≤ i2 ∧ i2 < (b.length : Int)) ∧ (if (nth a i2) != (nth b i2) then Q false else (-9223372036854775808 ≤ i2) ∧ I32 (i2 + 1) ∧ mu33 (i2 + 1) < mu33 i2) else Q true))) := h
  clear h
  have hc0 := Ct.init hO
  refine Ret_enter Try.func84 rfl 26 rfl [.tmp 4] rfl rfl ?_
  refine W_seq ?_
  refine W_reg ?_
  refine L_pu (P_assign (vb false) rfl) ?_
  refine L_nil ?_
  refine W_seq ?_
  refine W_seq ?_
  refine W_reg ?_
  refine L_pu (P_move (.slice A1 n2 c3) rfl) ?_
  have hl11 := hp4.le
  refine L_pu (P_len Try.underlying90 A1 n2 c3 hp4.len rfl) ?_
  refine L_pu (P_move (.slice A6 n7 c8) rfl) ?_
  have hl12 := hp9.le
  refine L_pu (P_len Try.underlying90 A6 n7 c8 hp9.len rfl) ?_
  refine L_pu (P_cmp (a.length : Int) (b.length : Int) ((a.length : Int) != (b.length : Int)) rfl rfl rfl) ?_
  refine L_nil ?_
  refine W_cond ((a.length : Int) != (b.length : Int)) rfl (fun hq13 => ?_) (fun hq13 => ?_)
  · have H := ite_t H hq13
    refine W_seq ?_
    refine W_reg ?_
    refine L_pu (P_assign (vb false) rfl) ?_
    refine L_nil ?_
    refine W_ret ?_
    exact ⟨[vb false], ⟨_, rfl, rfl⟩, false, rfl, H, hc0.gr⟩
  · have H := ite_f H hq13
    refine W_skip ?_
    refine W_seq ?_
    refine W_seq ?_
    refine W_reg ?_
    refine L_pu (P_assign (vi 0) rfl) ?_
    refine L_nil ?_
    refine W_block ?_
    obtain ⟨I32, mu33, hI34, H⟩ := H
    refine W_loop (α := Int) (fun (sv__ : Int) t w26 => match sv__ with | i2 => I32 i2 ∧ Has t [(0, .slice A1 n2 c3), (1, .slice A6 n7 c8), (5, vi i2)] ∧ Ct none w0 w26 [] O ∧ Sl (Kd.int .i64) w26 (Fr ([] ++ O)) (.slice A1 n2 c3) a ∧ Sl (Kd.int .i64) w26 (Fr ([] ++ O)) (.slice A6 n7 c8) b) (fun (sv__ : Int) => match sv__ with | i2 => mu33 i2) 0 ⟨hI34, ⟨rfl, rfl, rfl, trivial⟩, hc0, hp4, hp9⟩ ?_
    rintro i2 _ w26 ⟨hI34, hh36, hc29, h30, h31⟩
    obtain ⟨u37, rfl⟩ := Has.ins hh36
    have H := H i2 hI34
    refine W_seq ?_
    refine W_seq ?_
    refine W_reg ?_
    refine L_pu (P_move (vi i2) rfl) ?_
    refine L_pu (P_move (.slice A1 n2 c3) rfl) ?_
    have hl38 := h30.le
    refine L_pu (P_len Try.underlying90 A1 n2 c3 h30.len rfl) ?_
    refine L_pu (P_cmp i2 (a.length : Int) (decide (i2 < (a.length : Int))) rfl rfl rfl) ?_
    refine L_nil ?_
    refine W_cond (decide (i2 < (a.length : Int))) rfl (fun hq39 => ?_) (fun hq39 => ?_)
    · have H := ite_t H hq39
      refine W_skip ?_
      refine W_seq ?_
      refine W_block ?_
      refine W_seq ?_
      refine W_draw (fun x => Gr w26 x none) (by kernel_rfl) (by kernel_rfl) (Gr.drew _) ?_
      refine Q_pu (P_move (.slice A1 n2 c3) rfl) ?_
      refine Q_pu (P_move (vi i2) rfl) ?_
      obtain ⟨hb40, H⟩ := H
      obtain ⟨ad41, cs42, hA43, hS46, hR44, hcl45⟩ := h30.get default (by decide) i2 hb40
      obtain rfl := Kd.int.op hR44
      refine Q_pu (P_ia Try.underlying90 se90 A1 ad41 n2 c3 h30.len i2 rfl hA43 rfl hb40) ?_
      refine Q_pu (P_ld ag3 cQ (ad41.add (i2.toNat * 1)) (vi (nth a i2)) rfl (hcl45 0 _ rfl)) ?_
      refine Q_pu (P_move (.slice A6 n7 c8) rfl) ?_
      refine Q_pu (P_move (vi i2) rfl) ?_
      obtain ⟨hb47, H⟩ := H
      obtain ⟨ad48, cs49, hA50, hS53, hR51, hcl52⟩ := h31.get default (by decide) i2 hb47
      obtain rfl := Kd.int.op hR51
      refine Q_pu (P_ia Try.underlying90 se90 A6 ad48 n7 c8 h31.len i2 rfl hA50 rfl hb47) ?_
      refine Q_pu (P_ld ag3 cQ (ad48.add (i2.toNat * 1)) (vi (nth b i2)) rfl (hcl52 0 _ rfl)) ?_
      refine Q_pu (P_cmp (nth a i2) (nth b i2) ((nth a i2) != (nth b i2)) rfl rfl rfl) ?_
      refine Q_nil fun w54 g55 => ?_
      have hc57 := hc29.k0 g55
      refine W_cond ((nth a i2) != (nth b i2)) rfl (fun hq58 => ?_) (fun hq58 => ?_)
      · have H := ite_t H hq58
        refine W_seq ?_
        refine W_reg ?_
        refine L_pu (P_assign (vb false) rfl) ?_
        refine L_nil ?_
        refine W_ret ?_
        exact ⟨[vb false], ⟨_, rfl, rfl⟩, false, rfl, H, hc57.gr⟩
      · have H := ite_f H hq58
        refine W_skip ?_
        refine W_reg ?_
        refine L_pu (P_move (vi i2) rfl) ?_
        obtain ⟨hb60, H⟩ := H
        have hi59 : I64 (i2 + 1) := i64_succ (of_decide_eq_true hq39) hl38 hb60
        refine L_pu (P_add i2 1 rfl rfl hi59) ?_
        refine L_pu (P_assign (vi (i2 + 1)) rfl) ?_
        refine L_nil ?_
        obtain ⟨hI61, hm62⟩ := H
        exact ⟨i2 + 1, hm62, hI61, ⟨rfl, rfl, rfl, trivial⟩, hc57, (h30.st (.new _ g55)), (h31.st (.new _ g55))⟩
    · have H := ite_f H hq39
      refine W_exit (xin_hit ?_)
      refine W_seq ?_
      refine W_reg ?_
      refine L_pu (P_assign (vb true) rfl) ?_
      refine L_nil ?_
      refine W_ret ?_
      exact ⟨[vb true], ⟨_, rfl, rfl⟩, true, rfl, H, hc29.gr⟩
end Go.Proofs.Ythkeboifjlnjjaa

namespace Go.Proofs.Ythkeboifjlnjjaa
set_option linter.unusedVariables false
set_option linter.unusedSimpArgs false
set_option linter.unusedSectionVars false
theorem spec_l7Ints.law (a b : List Int) (Q : Bool → Prop) (hq : Q (decide (a = b))) : spec_l7Ints.E a b Q := by
  unfold spec_l7Ints.E
  exact eqN_shape a b Q hq
end Go.Proofs.Ythkeboifjlnjjaa

namespace Go.Proofs.Ythkeboifjlnjjaa
open Go.RowKit
set_option linter.unusedVariables false
def spec_l1Same.E (a : List Pt) (b : List Pt) (Q : Bool → Prop) : Prop :=
  (if (a.length : Int) != (b.length : Int) then Q false else (∃ (I32 : Int → Prop) (mu33 : Int → Nat), I32 0 ∧ ∀ (i2 : Int), I32 i2 → (if decide (i2 < (a.length : Int)) then ((0 : Int) ≤ i2 ∧ i2 < (a.length : Int)) ∧ ((0 : Int) ≤ i2 ∧ i2 < (b.length : Int)) ∧ (if !(eqPt (nth a i2) (nth b i2)) then Q false else (-9223372036854775808 ≤ i2) ∧ I32 (i2 + 1) ∧ mu33 (i2 + 1) < mu33 i2) else Q true)))
set_option maxHeartbeats 8000000 in
set_option maxRecDepth 100000 in
theorem spec_l1Same.calls {O : Ob} (w0 : World) (hO : Ok w0 O) (a : List Pt) (A1 : Option Addr) (n2 c3 : Nat) (hp4 : Sl kPt w0 (Fr O) (.slice A1 n2 c3) a) (b : List Pt) (A6 : Option Addr) (n7 c8 : Nat) (hp9 : Sl kPt w0 (Fr O) (.slice A6 n7 c8) b) (Q : Bool → Prop) (h : spec_l1Same.E a b Q) :
    Ret Try.prog 98 [.slice A1 n2 c3, .slice A6 n7 c8] w0 (fun v w' => ∃ (r0 : Bool), v = vb r0 ∧ Q r0 ∧ Gr w0 w' none) := by
  have H : (if (a.length : Int) != (b.length : Int) then Q false else (∃ (I32 : Int → Prop) (mu33 : Int → Nat), I32 0 ∧ ∀ (i2 : Int), I32 i2 → (if decide (i2 < (a.length : Int)) then ((0 : Int) ≤ i2 ∧ i2 < (a.length : Int)) ∧ ((0 : Int) ≤ i2 ∧ i2 < (b.length : Int)) ∧ (if !(eqPt (nth a i2) (nth b i2)) then Q false else (-9223372036854775808 ≤ i2) ∧ I32 (i2 + 1) ∧ mu33 (i2 + 1) < mu33 i2) else Q true))) := h
  clear h
  have hc0 := Ct.init hO
  refine Ret_enter Try.func98 rfl 26 rfl [.tmp 4] rfl rfl ?_
  refine W_seq ?_
  refine W_reg ?_
  refine L_pu (P_assign (vb false) rfl) ?_
  refine L_nil ?_
  refine W_seq ?_
  refine W_seq ?_
  refine W_reg ?_
  refine L_pu (P_move (.slice A1 n2 c3) rfl) ?_
  have hl11 := hp4.le
  refine L_pu (P_len Try.underlying23 A1 n2 c3 hp4.len rfl) ?_
  refine L_pu (P_move (.slice A6 n7 c8) rfl) ?_
  have hl12 := hp9.le
  refine L_pu (P_len Try.underlying23 A6 n7 c8 hp9.len rfl) ?_
  refine L_pu (P_cmp (a.length : Int) (b.length : Int) ((a.length : Int) != (b.length : Int)) rfl rfl rfl) ?_
  refine L_nil ?_
  refine W_cond ((a.length : Int) != (b.length : Int)) rfl (fun hq13 => ?_) (fun hq13 => ?_)
  · have H := ite_t H hq13
    refine W_seq ?_
    refine W_reg ?_
    refine L_pu (P_assign (vb false) rfl) ?_
    refine L_nil ?_
    refine W_ret ?_
    exact ⟨[vb false], ⟨_, rfl, rfl⟩, false, rfl, H, hc0.gr⟩
  · have H := ite_f H hq13
    refine W_skip ?_
    refine W_seq ?_
    refine W_seq ?_
    refine W_reg ?_
    refine L_pu (P_assign (vi 0) rfl) ?_
    refine L_nil ?_
    refine W_block ?_
    obtain ⟨I32, mu33, hI34, H⟩ := H
    refine W_loop (α := Int) (fun (sv__ : Int) t w26 => match sv__ with | i2 => I32 i2 ∧ Has t [(0, .slice A1 n2 c3), (1, .slice A6 n7 c8), (5, vi i2)] ∧ Ct none w0 w26 [] O ∧ Sl kPt w26 (Fr ([] ++ O)) (.slice A1 n2 c3) a ∧ Sl kPt w26 (Fr ([] ++ O)) (.slice A6 n7 c8) b) (fun (sv__ : Int) => match sv__ with | i2 => mu33 i2) 0 ⟨hI34, ⟨rfl, rfl, rfl, trivial⟩, hc0, hp4, hp9⟩ ?_
    rintro i2 _ w26 ⟨hI34, hh36, hc29, h30, h31⟩
    obtain ⟨u37, rfl⟩ := Has.ins hh36
    have H := H i2 hI34
    refine W_seq ?_
    refine W_seq ?_
    refine W_reg ?_
    refine L_pu (P_move (vi i2) rfl) ?_
    refine L_pu (P_move (.slice A1 n2 c3) rfl) ?_
    have hl38 := h30.le
    refine L_pu (P_len Try.underlying23 A1 n2 c3 h30.len rfl) ?_
    refine L_pu (P_cmp i2 (a.length : Int) (decide (i2 < (a.length : Int))) rfl rfl rfl) ?_
    refine L_nil ?_
    refine W_cond (decide (i2 < (a.length : Int))) rfl (fun hq39 => ?_) (fun hq39 => ?_)
    · have H := ite_t H hq39
      refine W_skip ?_
      refine W_seq ?_
      refine W_block ?_
      refine W_seq ?_
      refine W_draw (fun x => Gr w26 x none) (by kernel_rfl) (by kernel_rfl) (Gr.drew _) ?_
      refine Q_pu (P_move (.slice A1 n2 c3) rfl) ?_
      refine Q_pu (P_move (vi i2) rfl) ?_
      obtain ⟨hb40, H⟩ := H
      obtain ⟨ad41, cs42, hA43, hS46, hR44, hcl45⟩ := h30.get default (by decide) i2 hb40
      obtain rfl := kPt.op hR44
      refine Q_pu (P_ia Try.underlying23 se23 A1 ad41 n2 c3 h30.len i2 rfl hA43 rfl hb40) ?_
      refine Q_pu (P_lda ag64 sz64 cQ (ad41.add (i2.toNat * 2)) [vi ((nth a i2).X), vi ((nth a i2).Y)] rfl rfl hcl45) ?_
      refine Q_pu (P_move (.slice A6 n7 c8) rfl) ?_
      refine Q_pu (P_move (vi i2) rfl) ?_
      obtain ⟨hb47, H⟩ := H
      obtain ⟨ad48, cs49, hA50, hS53, hR51, hcl52⟩ := h31.get default (by decide) i2 hb47
      obtain rfl := kPt.op hR51
      refine Q_pu (P_ia Try.underlying23 se23 A6 ad48 n7 c8 h31.len i2 rfl hA50 rfl hb47) ?_
      refine Q_pu (P_lda ag64 sz64 cQ (ad48.add (i2.toNat * 2)) [vi ((nth b i2).X), vi ((nth b i2).Y)] rfl rfl hcl52) ?_
      refine Q_pu (P_ne _ _ (eqPt (nth a i2) (nth b i2)) (qt64 (nth a i2) (nth b i2)) rfl rfl) ?_
      refine Q_nil fun w54 g55 => ?_
      have hc57 := hc29.k0 g55
      refine W_cond (!(eqPt (nth a i2) (nth b i2))) rfl (fun hq58 => ?_) (fun hq58 => ?_)
      · have H := ite_t H hq58
        refine W_seq ?_
        refine W_reg ?_
        refine L_pu (P_assign (vb false) rfl) ?_
        refine L_nil ?_
        refine W_ret ?_
        exact ⟨[vb false], ⟨_, rfl, rfl⟩, false, rfl, H, hc57.gr⟩
      · have H := ite_f H hq58
        refine W_skip ?_
        refine W_reg ?_
        refine L_pu (P_move (vi i2) rfl) ?_
        obtain ⟨hb60, H⟩ := H
        have hi59 : I64 (i2 + 1) := i64_succ (of_decide_eq_true hq39) hl38 hb60
        refine L_pu (P_add i2 1 rfl rfl hi59) ?_
        refine L_pu (P_assign (vi (i2 + 1)) rfl) ?_
        refine L_nil ?_
        obtain ⟨hI61, hm62⟩ := H
        exact ⟨i2 + 1, hm62, hI61, ⟨rfl, rfl, rfl, trivial⟩, hc57, (h30.st (.new _ g55)), (h31.st (.new _ g55))⟩
    · have H := ite_f H hq39
      refine W_exit (xin_hit ?_)
      refine W_seq ?_
      refine W_reg ?_
      refine L_pu (P_assign (vb true) rfl) ?_
      refine L_nil ?_
      refine W_ret ?_
      exact ⟨[vb true], ⟨_, rfl, rfl⟩, true, rfl, H, hc29.gr⟩
end Go.Proofs.Ythkeboifjlnjjaa

namespace Go.Proofs.Ythkeboifjlnjjaa
set_option linter.unusedVariables false
set_option linter.unusedSimpArgs false
set_option linter.unusedSectionVars false
theorem spec_l1Same.law (a b : List Pt) (Q : Bool → Prop) (hq : Q (decide (a = b))) : spec_l1Same.E a b Q := by
  unfold spec_l1Same.E
  exact eqS_shape eqPt eqPt_is a b Q hq
end Go.Proofs.Ythkeboifjlnjjaa

namespace Go.Proofs.Ythkeboifjlnjjaa
open Go.RowKit
set_option linter.unusedVariables false
def spec_ShapeSame.E (a : Shape) (b : Shape) (Q : Bool → Prop) : Prop :=
  (if a.Kind == b.Kind then spec_l1Same.E a.Pts b.Pts (fun r => Q r) else Q false)
set_option maxHeartbeats 8000000 in
set_option maxRecDepth 100000 in
theorem spec_ShapeSame.calls {O : Ob} (w0 : World) (hO : Ok w0 O) (a : Shape) (A1 : Option Addr) (n2 c3 : Nat) (hp4 : Sl kPt w0 (Fr O) (.slice A1 n2 c3) a.Pts) (b : Shape) (A6 : Option Addr) (n7 c8 : Nat) (hp9 : Sl kPt w0 (Fr O) (.slice A6 n7 c8) b.Pts) (Q : Bool → Prop) (h : spec_ShapeSame.E a b Q) :
    Ret Try.prog 101 [.agg #[vi a.Kind, .slice A1 n2 c3], .agg #[vi b.Kind, .slice A6 n7 c8]] w0 (fun v w' => ∃ (r0 : Bool), v = vb r0 ∧ Q r0 ∧ Gr w0 w' none) := by
  have H : (if a.Kind == b.Kind then spec_l1Same.E a.Pts b.Pts (fun r => Q r) else Q false) := h
  clear h
  have hc0 := Ct.init hO
  refine Ret_enter Try.func101 rfl 17 rfl [.tmp 4] rfl rfl ?_
  refine W_seq ?_
  refine W_reg ?_
  refine L_box [vi a.Kind, .slice A1 n2 c3] rfl fun w11 b12 hl14 hu15 g13 hx16 => ?_
  have h18 := Fb.mk hc0.ok hl14 hx16
  have hc19 := hc0.k0 g13
  refine L_box [vi b.Kind, .slice A6 n7 c8] rfl fun w20 b21 hl23 hu24 g22 hx25 => ?_
  have h27 := Fb.mk hc19.ok hl23 hx25
  have hc28 := hc19.k0 g22
  refine L_pu (P_assign (vb false) rfl) ?_
  refine L_nil ?_
  refine W_seq ?_
  refine W_reg ?_
  refine L_pu (P_fa fa76_0 ⟨b12, 0, none⟩ ⟨b12, 0, none⟩ rfl rfl) ?_
  have h29 := (h18.st (.new _ g22))
  refine L_pu (P_ld ag3 cL ⟨b12, 0, none⟩ (vi a.Kind) rfl (h29.cell rfl)) ?_
  refine L_pu (P_fa fa76_0 ⟨b21, 0, none⟩ ⟨b21, 0, none⟩ rfl rfl) ?_
  refine L_pu (P_ld ag3 cL ⟨b21, 0, none⟩ (vi b.Kind) rfl (h27.cell rfl)) ?_
  refine L_pu (P_cmp a.Kind b.Kind (a.Kind == b.Kind) rfl rfl rfl) ?_
  refine L_pu (P_move (vb (a.Kind == b.Kind)) rfl) ?_
  rcases bool_or (a.Kind == b.Kind) with hq30 | hq30
  · have H := ite_t H hq30
    refine L_run (dj := 10) rfl rfl (by exact congrArg Value.bool hq30) ?_
    refine L_pu (P_fa fa76_1 ⟨b12, 0, none⟩ ⟨b12, 1, none⟩ rfl rfl) ?_
    refine L_run (dj := 10) rfl rfl (by exact congrArg Value.bool hq30) ?_
    refine L_pu (P_ld ag23 cL ⟨b12, 1, none⟩ (.slice A1 n2 c3) rfl (h29.cell rfl)) ?_
    refine L_run (dj := 10) rfl rfl (by exact congrArg Value.bool hq30) ?_
    refine L_pu (P_fa fa76_1 ⟨b21, 0, none⟩ ⟨b21, 1, none⟩ rfl rfl) ?_
    refine L_run (dj := 10) rfl rfl (by exact congrArg Value.bool hq30) ?_
    refine L_pu (P_ld ag23 cL ⟨b21, 1, none⟩ (.slice A6 n7 c8) rfl (h27.cell rfl)) ?_
    refine L_run (dj := 10) rfl rfl (by exact congrArg Value.bool hq30) ?_
    refine L_call go98 [.slice A1 n2 c3, .slice A6 n7 c8] rfl ((spec_l1Same.calls w20 hc28.ok a.Pts A1 n2 c3 (hp4.st hc28.st) b.Pts A6 n7 c8 (hp9.st hc28.st) _ H).mono ?_)
    rintro _ w31 ⟨r, rfl, H, g32⟩
    have hc36 := hc28.k0 g32
    refine L_pu (P_pick true (vb r) (by exact congrArg Value.bool hq30) rfl) ?_
    refine L_pu (P_assign (vb r) rfl) ?_
    refine L_nil ?_
    refine W_ret ?_
    exact ⟨[vb r], ⟨_, rfl, rfl⟩, r, rfl, H, hc36.gr⟩
  · have H := ite_f H hq30
    refine L_pass (dj := 10) rfl rfl (.inl (by exact congrArg Value.bool hq30)) ?_
    refine L_pass (dj := 10) rfl rfl (.inl (by exact congrArg Value.bool hq30)) ?_
    refine L_pass (dj := 10) rfl rfl (.inl (by exact congrArg Value.bool hq30)) ?_
    refine L_pass (dj := 10) rfl rfl (.inl (by exact congrArg Value.bool hq30)) ?_
    refine L_pass (dj := 10) rfl rfl (.inl (by exact congrArg Value.bool hq30)) ?_
    refine L_pu (P_pick false (vb false) (by exact congrArg Value.bool hq30) rfl) ?_
    refine L_pu (P_assign (vb false) rfl) ?_
    refine L_nil ?_
    refine W_ret ?_
    exact ⟨[vb false], ⟨_, rfl, rfl⟩, false, rfl, H, hc28.gr⟩
end Go.Proofs.Ythkeboifjlnjjaa

namespace Go.Proofs.Ythkeboifjlnjjaa
set_option linter.unusedVariables false
set_option linter.unusedSimpArgs false
set_option linter.unusedSectionVars false
theorem spec_ShapeSame.law (a b : Shape) (Q : Bool → Prop) (hq : Q (decide (a = b))) : spec_ShapeSame.E a b Q := by
  unfold spec_ShapeSame.E
  by_cases h : a.Kind = b.Kind
  · rw [if_pos (by rw [beq_iff_eq]; exact h)]
    refine spec_l1Same.law _ _ _ ?_
    have : decide (a.Pts = b.Pts) = decide (a = b) := decide_eq_decide.2 (by rw [Shape.ext_iff']; exact ⟨fun e => ⟨h, e⟩, fun e => e.2⟩)
    rw [this]; exact hq
  · rw [if_neg (by rw [beq_iff_eq]; exact h)]
    rw [decide_eq_false (by rw [Shape.ext_iff']; exact fun e => h e.1)] at hq; exact hq
end Go.Proofs.Ythkeboifjlnjjaa

namespace Go.Proofs.Ythkeboifjlnjjaa
open Go.RowKit
set_option linter.unusedVariables false
def spec_l2Same.E (a : List Tag) (b : List Tag) (Q : Bool → Prop) : Prop :=
  (if (a.length : Int) != (b.length : Int) then Q false else (∃ (I32 : Int → Prop) (mu33 : Int → Nat), I32 0 ∧ ∀ (i2 : Int), I32 i2 → (if decide (i2 < (a.length : Int)) then ((0 : Int) ≤ i2 ∧ i2 < (a.length : Int)) ∧ ((0 : Int) ≤ i2 ∧ i2 < (b.length : Int)) ∧ (if !(eqTag (nth a i2) (nth b i2)) then Q false else (-9223372036854775808 ≤ i2) ∧ I32 (i2 + 1) ∧ mu33 (i2 + 1) < mu33 i2) else Q true)))
set_option maxHeartbeats 8000000 in
set_option maxRecDepth 100000 in
theorem spec_l2Same.calls {O : Ob} (w0 : World) (hO : Ok w0 O) (a : List Tag) (A1 : Option Addr) (n2 c3 : Nat) (hp4 : Sl kTag w0 (Fr O) (.slice A1 n2 c3) a) (b : List Tag) (A6 : Option Addr) (n7 c8 : Nat) (hp9 : Sl kTag w0 (Fr O) (.slice A6 n7 c8) b) (Q : Bool → Prop) (h : spec_l2Same.E a b Q) :
    Ret Try.prog 102 [.slice A1 n2 c3, .slice A6 n7 c8] w0 (fun v w' => ∃ (r0 : Bool), v = vb r0 ∧ Q r0 ∧ Gr w0 w' none) := by
  have H : (if (a.length : Int) != (b.length : Int) then Q false else (∃ (I32 : Int → Prop) (mu33 : Int → Nat), I32 0 ∧ ∀ (i2 : Int), I32 i2 → (if decide (i2 < (a.length : Int)) then ((0 : Int) ≤ i2 ∧ i2 < (a.length : Int)) ∧ ((0 : Int) ≤ i2 ∧ i2 < (b.length : Int)) ∧ (if !(eqTag (nth a i2) (nth b i2)) then Q false else (-9223372036854775808 ≤ i2) ∧ I32 (i2 + 1) ∧ mu33 (i2 + 1) < mu33 i2) else Q true))) := h
  clear h
  have hc0 := Ct.init hO
  refine Ret_enter Try.func102 rfl 26 rfl [.tmp 4] rfl rfl ?_
  refine W_seq ?_
  refine W_reg ?_
  refine L_pu (P_assign (vb false) rfl) ?_
  refine L_nil ?_
  refine W_seq ?_
  refine W_seq ?_
  refine W_reg ?_
  refine L_pu (P_move (.slice A1 n2 c3) rfl) ?_
  have hl11 := hp4.le
  refine L_pu (P_len Try.underlying77 A1 n2 c3 hp4.len rfl) ?_
  refine L_pu (P_move (.slice A6 n7 c8) rfl) ?_
  have hl12 := hp9.le
  refine L_pu (P_len Try.underlying77 A6 n7 c8 hp9.len rfl) ?_
  refine L_pu (P_cmp (a.length : Int) (b.length : Int) ((a.length : Int) != (b.length : Int)) rfl rfl rfl) ?_
  refine L_nil ?_
  refine W_cond ((a.length : Int) != (b.length : Int)) rfl (fun hq13 => ?_) (fun hq13 => ?_)
  · have H := ite_t H hq13
    refine W_seq ?_
    refine W_reg ?_
    refine L_pu (P_assign (vb false) rfl) ?_
    refine L_nil ?_
    refine W_ret ?_
    exact ⟨[vb false], ⟨_, rfl, rfl⟩, false, rfl, H, hc0.gr⟩
  · have H := ite_f H hq13
    refine W_skip ?_
    refine W_seq ?_
    refine W_seq ?_
    refine W_reg ?_
    refine L_pu (P_assign (vi 0) rfl) ?_
    refine L_nil ?_
    refine W_block ?_
    obtain ⟨I32, mu33, hI34, H⟩ := H
    refine W_loop (α := Int) (fun (sv__ : Int) t w26 => match sv__ with | i2 => I32 i2 ∧ Has t [(0, .slice A1 n2 c3), (1, .slice A6 n7 c8), (5, vi i2)] ∧ Ct none w0 w26 [] O ∧ Sl kTag w26 (Fr ([] ++ O)) (.slice A1 n2 c3) a ∧ Sl kTag w26 (Fr ([] ++ O)) (.slice A6 n7 c8) b) (fun (sv__ : Int) => match sv__ with | i2 => mu33 i2) 0 ⟨hI34, ⟨rfl, rfl, rfl, trivial⟩, hc0, hp4, hp9⟩ ?_
    rintro i2 _ w26 ⟨hI34, hh36, hc29, h30, h31⟩
    obtain ⟨u37, rfl⟩ := Has.ins hh36
    have H := H i2 hI34
    refine W_seq ?_
    refine W_seq ?_
    refine W_reg ?_
    refine L_pu (P_move (vi i2) rfl) ?_
    refine L_pu (P_move (.slice A1 n2 c3) rfl) ?_
    have hl38 := h30.le
    refine L_pu (P_len Try.underlying77 A1 n2 c3 h30.len rfl) ?_
    refine L_pu (P_cmp i2 (a.length : Int) (decide (i2 < (a.length : Int))) rfl rfl rfl) ?_
    refine L_nil ?_
    refine W_cond (decide (i2 < (a.length : Int))) rfl (fun hq39 => ?_) (fun hq39 => ?_)
    · have H := ite_t H hq39
      refine W_skip ?_
      refine W_seq ?_
      refine W_block ?_
      refine W_seq ?_
      refine W_draw (fun x => Gr w26 x none) (by kernel_rfl) (by kernel_rfl) (Gr.drew _) ?_
      refine Q_pu (P_move (.slice A1 n2 c3) rfl) ?_
      refine Q_pu (P_move (vi i2) rfl) ?_
      obtain ⟨hb40, H⟩ := H
      obtain ⟨ad41, cs42, hA43, hS46, hR44, hcl45⟩ := h30.get default (by decide) i2 hb40
      obtain ⟨rfl, hs47, hs48⟩ := kTag.op hR44
      refine Q_pu (P_ia Try.underlying77 se77 A1 ad41 n2 c3 h30.len i2 rfl hA43 rfl hb40) ?_
      refine Q_pu (P_lda ag149 sz149 cQ (ad41.add (i2.toNat * 2)) [vs ((nth a i2).Key), vs ((nth a i2).Val)] rfl rfl hcl45) ?_
      refine Q_pu (P_move (.slice A6 n7 c8) rfl) ?_
      refine Q_pu (P_move (vi i2) rfl) ?_
      obtain ⟨hb49, H⟩ := H
      obtain ⟨ad50, cs51, hA52, hS55, hR53, hcl54⟩ := h31.get default (by decide) i2 hb49
      obtain ⟨rfl, hs56, hs57⟩ := kTag.op hR53
      refine Q_pu (P_ia Try.underlying77 se77 A6 ad50 n7 c8 h31.len i2 rfl hA52 rfl hb49) ?_
      refine Q_pu (P_lda ag149 sz149 cQ (ad50.add (i2.toNat * 2)) [vs ((nth b i2).Key), vs ((nth b i2).Val)] rfl rfl hcl54) ?_
      refine Q_pu (P_ne _ _ (eqTag (nth a i2) (nth b i2)) (qt149 (nth a i2) (nth b i2)) rfl rfl) ?_
      refine Q_nil fun w58 g59 => ?_
      have hc61 := hc29.k0 g59
      refine W_cond (!(eqTag (nth a i2) (nth b i2))) rfl (fun hq62 => ?_) (fun hq62 => ?_)
      · have H := ite_t H hq62
        refine W_seq ?_
        refine W_reg ?_
        refine L_pu (P_assign (vb false) rfl) ?_
        refine L_nil ?_
        refine W_ret ?_
        exact ⟨[vb false], ⟨_, rfl, rfl⟩, false, rfl, H, hc61.gr⟩
      · have H := ite_f H hq62
        refine W_skip ?_
        refine W_reg ?_
        refine L_pu (P_move (vi i2) rfl) ?_
        obtain ⟨hb64, H⟩ := H
        have hi63 : I64 (i2 + 1) := i64_succ (of_decide_eq_true hq39) hl38 hb64
        refine L_pu (P_add i2 1 rfl rfl hi63) ?_
        refine L_pu (P_assign (vi (i2 + 1)) rfl) ?_
        refine L_nil ?_
        obtain ⟨hI65, hm66⟩ := H
        exact ⟨i2 + 1, hm66, hI65, ⟨rfl, rfl, rfl, trivial⟩, hc61, (h30.st (.new _ g59)), (h31.st (.new _ g59))⟩
    · have H := ite_f H hq39
      refine W_exit (xin_hit ?_)
      refine W_seq ?_
      refine W_reg ?_
      refine L_pu (P_assign (vb true) rfl) ?_
      refine L_nil ?_
      refine W_ret ?_
      exact ⟨[vb true], ⟨_, rfl, rfl⟩, true, rfl, H, hc29.gr⟩
end Go.Proofs.Ythkeboifjlnjjaa

namespace Go.Proofs.Ythkeboifjlnjjaa
set_option linter.unusedVariables false
set_option linter.unusedSimpArgs false
set_option linter.unusedSectionVars false
theorem spec_l2Same.law (a b : List Tag) (Q : Bool → Prop) (hq : Q (decide (a = b))) : spec_l2Same.E a b Q := by
  unfold spec_l2Same.E
  exact eqS_shape eqTag eqTag_is a b Q hq
end Go.Proofs.Ythkeboifjlnjjaa

namespace Go.Proofs.Ythkeboifjlnjjaa
open Go.RowKit
set_option linter.unusedVariables false
def spec_FeatSame.E (a : Feat) (b : Feat) (Q : Bool → Prop) : Prop :=
  (if a.Id == b.Id then spec_ShapeSame.E a.Shape b.Shape (fun r => (if r then spec_l2Same.E a.Tags b.Tags (fun r2 => Q r2) else Q false)) else Q false)
set_option maxHeartbeats 8000000 in
set_option maxRecDepth 100000 in
theorem spec_FeatSame.calls {O : Ob} (w0 : World) (hO : Ok w0 O) (a : Feat) (A2 : Option Addr) (n3 c4 : Nat) (A7 : Option Addr) (n8 c9 : Nat) (hs1 : Lim a.Id) (hp5 : Sl kPt w0 (Fr O) (.slice A2 n3 c4) a.Shape.Pts) (hp10 : Sl kTag w0 (Fr O) (.slice A7 n8 c9) a.Tags) (b : Feat) (A13 : Option Addr) (n14 c15 : Nat) (A18 : Option Addr) (n19 c20 : Nat) (hs12 : Lim b.Id) (hp16 : Sl kPt w0 (Fr O) (.slice A13 n14 c15) b.Shape.Pts) (hp21 : Sl kTag w0 (Fr O) (.slice A18 n19 c20) b.Tags) (Q : Bool → Prop) (h : spec_FeatSame.E a b Q) :
    Ret Try.prog 75 [.agg #[vs a.Id, vi a.Shape.Kind, .slice A2 n3 c4, .slice A7 n8 c9], .agg #[vs b.Id, vi b.Shape.Kind, .slice A13 n14 c15, .slice A18 n19 c20]] w0 (fun v w' => ∃ (r0 : Bool), v = vb r0 ∧ Q r0 ∧ Gr w0 w' none) := by
  have H : (if a.Id == b.Id then spec_ShapeSame.E a.Shape b.Shape (fun r => (if r then spec_l2Same.E a.Tags b.Tags (fun r2 => Q r2) else Q false)) else Q false) := h
  clear h
  have hc0 := Ct.init hO
  refine Ret_enter Try.func75 rfl 24 rfl [.tmp 4] rfl rfl ?_
  refine W_seq ?_
  refine W_reg ?_
  refine L_box [vs a.Id, vi a.Shape.Kind, .slice A2 n3 c4, .slice A7 n8 c9] rfl fun w23 b24 hl26 hu27 g25 hx28 => ?_
  have h30 := Fb.mk hc0.ok hl26 hx28
  have hc31 := hc0.k0 g25
  refine L_box [vs b.Id, vi b.Shape.Kind, .slice A13 n14 c15, .slice A18 n19 c20] rfl fun w32 b33 hl35 hu36 g34 hx37 => ?_
  have h39 := Fb.mk hc31.ok hl35 hx37
  have hc40 := hc31.k0 g34
  refine L_pu (P_assign (vb false) rfl) ?_
  refine L_nil ?_
  refine W_seq ?_
  refine W_reg ?_
  refine L_pu (P_fa fa79_0 ⟨b24, 0, none⟩ ⟨b24, 0, none⟩ rfl rfl) ?_
  have h41 := (h30.st (.new _ g34))
  refine L_pu (P_ld ag9 cL ⟨b24, 0, none⟩ (vs a.Id) rfl (h41.cell rfl)) ?_
  refine L_pu (P_fa fa79_0 ⟨b33, 0, none⟩ ⟨b33, 0, none⟩ rfl rfl) ?_
  refine L_pu (P_ld ag9 cL ⟨b33, 0, none⟩ (vs b.Id) rfl (h39.cell rfl)) ?_
  refine L_pu (P_scmp a.Id b.Id (a.Id == b.Id) rfl rfl rfl) ?_
  refine L_pu (P_move (vb (a.Id == b.Id)) rfl) ?_
  rcases bool_or (a.Id == b.Id) with hq42 | hq42
  · have H := ite_t H hq42
    refine L_run (dj := 10) rfl rfl (by exact congrArg Value.bool hq42) ?_
    refine L_pu (P_fa fa79_1 ⟨b24, 0, none⟩ ⟨b24, 1, none⟩ rfl rfl) ?_
    refine L_run (dj := 10) rfl rfl (by exact congrArg Value.bool hq42) ?_
    refine L_pu (P_lda ag76 sz76 cL ⟨b24, 1, none⟩ [vi a.Shape.Kind, .slice A2 n3 c4] rfl rfl (h41.cells (off := 1) rfl)) ?_
    refine L_run (dj := 10) rfl rfl (by exact congrArg Value.bool hq42) ?_
    refine L_pu (P_fa fa79_1 ⟨b33, 0, none⟩ ⟨b33, 1, none⟩ rfl rfl) ?_
    refine L_run (dj := 10) rfl rfl (by exact congrArg Value.bool hq42) ?_
    refine L_pu (P_lda ag76 sz76 cL ⟨b33, 1, none⟩ [vi b.Shape.Kind, .slice A13 n14 c15] rfl rfl (h39.cells (off := 1) rfl)) ?_
    refine L_run (dj := 10) rfl rfl (by exact congrArg Value.bool hq42) ?_
    refine L_call go101 [.agg #[vi a.Shape.Kind, .slice A2 n3 c4], .agg #[vi b.Shape.Kind, .slice A13 n14 c15]] rfl ((spec_ShapeSame.calls w32 hc40.ok a.Shape A2 n3 c4 (hp5.st hc40.st) b.Shape A13 n14 c15 (hp16.st hc40.st) _ H).mono ?_)
    rintro _ w43 ⟨r, rfl, H, g44⟩
    have hc48 := hc40.k0 g44
    refine L_pu (P_pick true (vb r) (by exact congrArg Value.bool hq42) rfl) ?_
    refine L_pu (P_move (vb r) rfl) ?_
    rcases bool_or r with hq49 | hq49
    · have H := ite_t H hq49
      refine L_run (dj := 17) rfl rfl (by exact congrArg Value.bool hq49) ?_
      refine L_pu (P_fa fa79_2 ⟨b24, 0, none⟩ ⟨b24, 3, none⟩ rfl rfl) ?_
      refine L_run (dj := 17) rfl rfl (by exact congrArg Value.bool hq49) ?_
      have h50 := (h41.st (.new _ g44))
      refine L_pu (P_ld ag77 cL ⟨b24, 3, none⟩ (.slice A7 n8 c9) rfl (h50.cell rfl)) ?_
      refine L_run (dj := 17) rfl rfl (by exact congrArg Value.bool hq49) ?_
      refine L_pu (P_fa fa79_2 ⟨b33, 0, none⟩ ⟨b33, 3, none⟩ rfl rfl) ?_
      refine L_run (dj := 17) rfl rfl (by exact congrArg Value.bool hq49) ?_
      have h51 := (h39.st (.new _ g44))
      refine L_pu (P_ld ag77 cL ⟨b33, 3, none⟩ (.slice A18 n19 c20) rfl (h51.cell rfl)) ?_
      refine L_run (dj := 17) rfl rfl (by exact congrArg Value.bool hq49) ?_
      refine L_call go102 [.slice A7 n8 c9, .slice A18 n19 c20] rfl ((spec_l2Same.calls w43 hc48.ok a.Tags A7 n8 c9 (hp10.st hc48.st) b.Tags A18 n19 c20 (hp21.st hc48.st) _ H).mono ?_)
      rintro _ w52 ⟨r2, rfl, H, g53⟩
      have hc57 := hc48.k0 g53
      refine L_pu (P_pick true (vb r2) (by exact congrArg Value.bool hq49) rfl) ?_
      refine L_pu (P_assign (vb r2) rfl) ?_
      refine L_nil ?_
      refine W_ret ?_
      exact ⟨[vb r2], ⟨_, rfl, rfl⟩, r2, rfl, H, hc57.gr⟩
    · have H := ite_f H hq49
      refine L_pass (dj := 17) rfl rfl (.inl (by exact congrArg Value.bool hq49)) ?_
      refine L_pass (dj := 17) rfl rfl (.inl (by exact congrArg Value.bool hq49)) ?_
      refine L_pass (dj := 17) rfl rfl (.inl (by exact congrArg Value.bool hq49)) ?_
      refine L_pass (dj := 17) rfl rfl (.inl (by exact congrArg Value.bool hq49)) ?_
      refine L_pass (dj := 17) rfl rfl (.inl (by exact congrArg Value.bool hq49)) ?_
      refine L_pu (P_pick false (vb false) (by exact congrArg Value.bool hq49) rfl) ?_
      refine L_pu (P_assign (vb false) rfl) ?_
      refine L_nil ?_
      refine W_ret ?_
      exact ⟨[vb false], ⟨_, rfl, rfl⟩, false, rfl, H, hc48.gr⟩
  · have H := ite_f H hq42
    refine L_pass (dj := 10) rfl rfl (.inl (by exact congrArg Value.bool hq42)) ?_
    refine L_pass (dj := 10) rfl rfl (.inl (by exact congrArg Value.bool hq42)) ?_
    refine L_pass (dj := 10) rfl rfl (.inl (by exact congrArg Value.bool hq42)) ?_
    refine L_pass (dj := 10) rfl rfl (.inl (by exact congrArg Value.bool hq42)) ?_
    refine L_pass (dj := 10) rfl rfl (.inl (by exact congrArg Value.bool hq42)) ?_
    refine L_pu (P_pick false (vb false) (by exact congrArg Value.bool hq42) rfl) ?_
    refine L_pu (P_move (vb false) rfl) ?_
    refine L_pass (dj := 17) rfl rfl (.inl rfl) ?_
    refine L_pass (dj := 17) rfl rfl (.inl rfl) ?_
    refine L_pass (dj := 17) rfl rfl (.inl rfl) ?_
    refine L_pass (dj := 17) rfl rfl (.inl rfl) ?_
    refine L_pass (dj := 17) rfl rfl (.inl rfl) ?_
    refine L_pu (P_pick false (vb false) (by exact congrArg Value.bool rfl) rfl) ?_
    refine L_pu (P_assign (vb false) rfl) ?_
    refine L_nil ?_
    refine W_ret ?_
    exact ⟨[vb false], ⟨_, rfl, rfl⟩, false, rfl, H, hc40.gr⟩
end Go.Proofs.Ythkeboifjlnjjaa

namespace Go.Proofs.Ythkeboifjlnjjaa
set_option linter.unusedVariables false
set_option linter.unusedSimpArgs false
set_option linter.unusedSectionVars false
theorem spec_FeatSame.law (a b : Feat) (Q : Bool → Prop) (hq : Q (decide (a = b))) : spec_FeatSame.E a b Q := by
  unfold spec_FeatSame.E
  by_cases h : a.Id = b.Id
  · rw [if_pos (by rw [beq_iff_eq]; exact h)]
    refine spec_ShapeSame.law _ _ _ ?_
    by_cases h2 : a.Shape = b.Shape
    · rw [decide_eq_true h2, if_pos rfl]
      refine spec_l2Same.law _ _ _ ?_
      have : decide (a.Tags = b.Tags) = decide (a = b) := decide_eq_decide.2 (by rw [Feat.ext_iff']; exact ⟨fun e => ⟨h, h2, e⟩, fun e => e.2.2⟩)
      rw [this]; exact hq
    · rw [decide_eq_false h2, if_neg (by decide)]
      rw [decide_eq_false (by rw [Feat.ext_iff']; exact fun e => h2 e.2.1)] at hq; exact hq
  · rw [if_neg (by rw [beq_iff_eq]; exact h)]
    rw [decide_eq_false (by rw [Feat.ext_iff']; exact fun e => h e.1)] at hq; exact hq
end Go.Proofs.Ythkeboifjlnjjaa

namespace Go.Proofs.Ythkeboifjlnjjaa
open Go.RowKit
set_option linter.unusedVariables false
def spec_SheetSame.E (a : List Feat) (b : List Feat) (Q : Bool → Prop) : Prop :=
  (if (a.length : Int) != (b.length : Int) then Q false else (∃ (I32 : Int → Prop) (mu33 : Int → Nat), I32 0 ∧ ∀ (i2 : Int), I32 i2 → (if decide (i2 < (a.length : Int)) then ((0 : Int) ≤ i2 ∧ i2 < (a.length : Int)) ∧ ((0 : Int) ≤ i2 ∧ i2 < (b.length : Int)) ∧ (∃ q : Bool, spec_FeatSame.E (nth a i2) (nth b i2) (fun x => x = q) ∧ (if !q then Q false else (-9223372036854775808 ≤ i2) ∧ I32 (i2 + 1) ∧ mu33 (i2 + 1) < mu33 i2)) else Q true)))
set_option maxHeartbeats 8000000 in
set_option maxRecDepth 100000 in
theorem spec_SheetSame.calls {O : Ob} (w0 : World) (hO : Ok w0 O) (a : List Feat) (A1 : Option Addr) (n2 c3 : Nat) (hp4 : Sl kFeat w0 (Fr O) (.slice A1 n2 c3) a) (b : List Feat) (A6 : Option Addr) (n7 c8 : Nat) (hp9 : Sl kFeat w0 (Fr O) (.slice A6 n7 c8) b) (Q : Bool → Prop) (h : spec_SheetSame.E a b Q) :
    Ret Try.prog 85 [.slice A1 n2 c3, .slice A6 n7 c8] w0 (fun v w' => ∃ (r0 : Bool), v = vb r0 ∧ Q r0 ∧ Gr w0 w' none) := by
  have H : (if (a.length : Int) != (b.length : Int) then Q false else (∃ (I32 : Int → Prop) (mu33 : Int → Nat), I32 0 ∧ ∀ (i2 : Int), I32 i2 → (if decide (i2 < (a.length : Int)) then ((0 : Int) ≤ i2 ∧ i2 < (a.length : Int)) ∧ ((0 : Int) ≤ i2 ∧ i2 < (b.length : Int)) ∧ (∃ q : Bool, spec_FeatSame.E (nth a i2) (nth b i2) (fun x => x = q) ∧ (if !q then Q false else (-9223372036854775808 ≤ i2) ∧ I32 (i2 + 1) ∧ mu33 (i2 + 1) < mu33 i2)) else Q true))) := h
  clear h
  have hc0 := Ct.init hO
  refine Ret_enter Try.func85 rfl 27 rfl [.tmp 4] rfl rfl ?_
  refine W_seq ?_
  refine W_reg ?_
  refine L_pu (P_assign (vb false) rfl) ?_
  refine L_nil ?_
  refine W_seq ?_
  refine W_seq ?_
  refine W_reg ?_
  refine L_pu (P_move (.slice A1 n2 c3) rfl) ?_
  have hl11 := hp4.le
  refine L_pu (P_len Try.underlying91 A1 n2 c3 hp4.len rfl) ?_
  refine L_pu (P_move (.slice A6 n7 c8) rfl) ?_
  have hl12 := hp9.le
  refine L_pu (P_len Try.underlying91 A6 n7 c8 hp9.len rfl) ?_
  refine L_pu (P_cmp (a.length : Int) (b.length : Int) ((a.length : Int) != (b.length : Int)) rfl rfl rfl) ?_
  refine L_nil ?_
  refine W_cond ((a.length : Int) != (b.length : Int)) rfl (fun hq13 => ?_) (fun hq13 => ?_)
  · have H := ite_t H hq13
    refine W_seq ?_
    refine W_reg ?_
    refine L_pu (P_assign (vb false) rfl) ?_
    refine L_nil ?_
    refine W_ret ?_
    exact ⟨[vb false], ⟨_, rfl, rfl⟩, false, rfl, H, hc0.gr⟩
  · have H := ite_f H hq13
    refine W_skip ?_
    refine W_seq ?_
    refine W_seq ?_
    refine W_reg ?_
    refine L_pu (P_assign (vi 0) rfl) ?_
    refine L_nil ?_
    refine W_block ?_
    obtain ⟨I32, mu33, hI34, H⟩ := H
    refine W_loop (α := Int) (fun (sv__ : Int) t w26 => match sv__ with | i2 => I32 i2 ∧ Has t [(0, .slice A1 n2 c3), (1, .slice A6 n7 c8), (5, vi i2)] ∧ Ct none w0 w26 [] O ∧ Sl kFeat w26 (Fr ([] ++ O)) (.slice A1 n2 c3) a ∧ Sl kFeat w26 (Fr ([] ++ O)) (.slice A6 n7 c8) b) (fun (sv__ : Int) => match sv__ with | i2 => mu33 i2) 0 ⟨hI34, ⟨rfl, rfl, rfl, trivial⟩, hc0, hp4, hp9⟩ ?_
    rintro i2 _ w26 ⟨hI34, hh36, hc29, h30, h31⟩
    obtain ⟨u37, rfl⟩ := Has.ins hh36
    have H := H i2 hI34
    refine W_seq ?_
    refine W_seq ?_
    refine W_reg ?_
    refine L_pu (P_move (vi i2) rfl) ?_
    refine L_pu (P_move (.slice A1 n2 c3) rfl) ?_
    have hl38 := h30.le
    refine L_pu (P_len Try.underlying91 A1 n2 c3 h30.len rfl) ?_
    refine L_pu (P_cmp i2 (a.length : Int) (decide (i2 < (a.length : Int))) rfl rfl rfl) ?_
    refine L_nil ?_
    refine W_cond (decide (i2 < (a.length : Int))) rfl (fun hq39 => ?_) (fun hq39 => ?_)
    · have H := ite_t H hq39
      refine W_skip ?_
      refine W_seq ?_
      refine W_block ?_
      refine W_seq ?_
      refine W_draw (fun x => Gr w26 x none) (by kernel_rfl) (by kernel_rfl) (Gr.drew _) ?_
      refine Q_pu (P_move (.slice A1 n2 c3) rfl) ?_
      refine Q_pu (P_move (vi i2) rfl) ?_
      obtain ⟨hb40, H⟩ := H
      obtain ⟨ad41, cs42, hA43, hS46, hR44, hcl45⟩ := h30.get default (by decide) i2 hb40
      obtain ⟨A48, n49, c50, A53, n54, c55, rfl, hs47, h51, h56⟩ := kFeat.op hR44
      refine Q_pu (P_ia Try.underlying91 se91 A1 ad41 n2 c3 h30.len i2 rfl hA43 rfl hb40) ?_
      refine Q_pu (P_lda ag79 sz79 cQ (ad41.add (i2.toNat * 4)) [vs ((nth a i2).Id), vi ((nth a i2).Shape.Kind), .slice A48 n49 c50, .slice A53 n54 c55] rfl rfl hcl45) ?_
      refine Q_pu (P_move (.slice A6 n7 c8) rfl) ?_
      refine Q_pu (P_move (vi i2) rfl) ?_
      obtain ⟨hb58, H⟩ := H
      obtain ⟨ad59, cs60, hA61, hS64, hR62, hcl63⟩ := h31.get default (by decide) i2 hb58
      obtain ⟨A66, n67, c68, A71, n72, c73, rfl, hs65, h69, h74⟩ := kFeat.op hR62
      refine Q_pu (P_ia Try.underlying91 se91 A6 ad59 n7 c8 h31.len i2 rfl hA61 rfl hb58) ?_
      refine Q_pu (P_lda ag79 sz79 cQ (ad59.add (i2.toNat * 4)) [vs ((nth b i2).Id), vi ((nth b i2).Shape.Kind), .slice A66 n67 c68, .slice A71 n72 c73] rfl rfl hcl63) ?_
      obtain ⟨q, hE81, H⟩ := H
      refine Q_call go75 [.agg #[vs ((nth a i2).Id), vi ((nth a i2).Shape.Kind), .slice A48 n49 c50, .slice A53 n54 c55], .agg #[vs ((nth b i2).Id), vi ((nth b i2).Shape.Kind), .slice A66 n67 c68, .slice A71 n72 c73]] rfl (vb q) (fun w g => (spec_FeatSame.calls w (hc29.k0 g).ok (nth a i2) A48 n49 c50 A53 n54 c55 hs47 (h51.st (.new _ g)) (h56.st (.new _ g)) (nth b i2) A66 n67 c68 A71 n72 c73 hs65 (h69.st (.new _ g)) (h74.st (.new _ g)) _ hE81).mono ?_) ?_
      · rintro _ w ⟨r, rfl, rfl, g2⟩
        exact ⟨rfl, Gr.t0 g g2⟩
      refine Q_pu (P_not q rfl) ?_
      refine Q_nil fun w83 g84 => ?_
      have hc86 := hc29.k0 g84
      refine W_cond (!q) rfl (fun hq87 => ?_) (fun hq87 => ?_)
      · have H := ite_t H hq87
        refine W_seq ?_
        refine W_reg ?_
        refine L_pu (P_assign (vb false) rfl) ?_
        refine L_nil ?_
        refine W_ret ?_
        exact ⟨[vb false], ⟨_, rfl, rfl⟩, false, rfl, H, hc86.gr⟩
      · have H := ite_f H hq87
        refine W_skip ?_
        refine W_reg ?_
        refine L_pu (P_move (vi i2) rfl) ?_
        obtain ⟨hb89, H⟩ := H
        have hi88 : I64 (i2 + 1) := i64_succ (of_decide_eq_true hq39) hl38 hb89
        refine L_pu (P_add i2 1 rfl rfl hi88) ?_
        refine L_pu (P_assign (vi (i2 + 1)) rfl) ?_
        refine L_nil ?_
        obtain ⟨hI90, hm91⟩ := H
        exact ⟨i2 + 1, hm91, hI90, ⟨rfl, rfl, rfl, trivial⟩, hc86, (h30.st (.new _ g84)), (h31.st (.new _ g84))⟩
    · have H := ite_f H hq39
      refine W_exit (xin_hit ?_)
      refine W_seq ?_
      refine W_reg ?_
      refine L_pu (P_assign (vb true) rfl) ?_
      refine L_nil ?_
      refine W_ret ?_
      exact ⟨[vb true], ⟨_, rfl, rfl⟩, true, rfl, H, hc29.gr⟩
end Go.Proofs.Ythkeboifjlnjjaa

namespace Go.Proofs.Ythkeboifjlnjjaa
set_option linter.unusedVariables false
set_option linter.unusedSimpArgs false
set_option linter.unusedSectionVars false
theorem spec_SheetSame.law (a b : List Feat) (Q : Bool → Prop) (hq : Q (decide (a = b))) : spec_SheetSame.E a b Q := by
  unfold spec_SheetSame.E
  by_cases hl : a.length = b.length
  · rw [if_neg (by simp [hl])]
    exact eqQ_shape a b spec_FeatSame.E (fun x y _ => spec_FeatSame.law x y _ rfl) _ _ hl (fun h => by rw [decide_eq_false h] at hq; exact hq) (fun h => by rw [decide_eq_true h] at hq; exact hq)
  · rw [if_pos (by rw [bne_iff_ne]; omega)]
    rw [decide_eq_false (fun e => hl (by rw [e]))] at hq; exact hq
end Go.Proofs.Ythkeboifjlnjjaa

namespace Go.Proofs.Ythkeboifjlnjjaa
open Go.RowKit
set_option linter.unusedVariables false
def spec_l7Same.E (a : Commit) (b : Commit) (Q : Bool → Prop) : Prop :=
  spec_l7Ints.E a.Up b.Up (fun r => (if r then spec_SheetSame.E a.Sheet b.Sheet (fun r2 => (if r2 then Q (a.Note == b.Note) else Q false)) else Q false))
set_option maxHeartbeats 8000000 in
set_option maxRecDepth 100000 in
theorem spec_l7Same.calls {O : Ob} (w0 : World) (hO : Ok w0 O) (a : Commit) (A1 : Option Addr) (n2 c3 : Nat) (A6 : Option Addr) (n7 c8 : Nat) (hp4 : Sl (Kd.int .i64) w0 (Fr O) (.slice A1 n2 c3) a.Up) (hp9 : Sl kFeat w0 (Fr O) (.slice A6 n7 c8) a.Sheet) (hs11 : Lim a.Note) (b : Commit) (A12 : Option Addr) (n13 c14 : Nat) (A17 : Option Addr) (n18 c19 : Nat) (hp15 : Sl (Kd.int .i64) w0 (Fr O) (.slice A12 n13 c14) b.Up) (hp20 : Sl kFeat w0 (Fr O) (.slice A17 n18 c19) b.Sheet) (hs22 : Lim b.Note) (Q : Bool → Prop) (h : spec_l7Same.E a b Q) :
    Ret Try.prog 47 [.agg #[.slice A1 n2 c3, .slice A6 n7 c8, vs a.Note], .agg #[.slice A12 n13 c14, .slice A17 n18 c19, vs b.Note]] w0 (fun v w' => ∃ (r0 : Bool), v = vb r0 ∧ Q r0 ∧ Gr w0 w' none) := by
  have H : spec_l7Ints.E a.Up b.Up (fun r => (if r then spec_SheetSame.E a.Sheet b.Sheet (fun r2 => (if r2 then Q (a.Note == b.Note) else Q false)) else Q false)) := h
  clear h
  have hc0 := Ct.init hO
  refine Ret_enter Try.func47 rfl 24 rfl [.tmp 4] rfl rfl ?_
  refine W_seq ?_
  refine W_reg ?_
  refine L_box [.slice A1 n2 c3, .slice A6 n7 c8, vs a.Note] rfl fun w23 b24 hl26 hu27 g25 hx28 => ?_
  have h30 := Fb.mk hc0.ok hl26 hx28
  have hc31 := hc0.k0 g25
  refine L_box [.slice A12 n13 c14, .slice A17 n18 c19, vs b.Note] rfl fun w32 b33 hl35 hu36 g34 hx37 => ?_
  have h39 := Fb.mk hc31.ok hl35 hx37
  have hc40 := hc31.k0 g34
  refine L_pu (P_assign (vb false) rfl) ?_
  refine L_nil ?_
  refine W_seq ?_
  refine W_reg ?_
  refine L_pu (P_fa fa93_0 ⟨b24, 0, none⟩ ⟨b24, 0, none⟩ rfl rfl) ?_
  have h41 := (h30.st (.new _ g34))
  refine L_pu (P_ld ag90 cL ⟨b24, 0, none⟩ (.slice A1 n2 c3) rfl (h41.cell rfl)) ?_
  refine L_pu (P_fa fa93_0 ⟨b33, 0, none⟩ ⟨b33, 0, none⟩ rfl rfl) ?_
  refine L_pu (P_ld ag90 cL ⟨b33, 0, none⟩ (.slice A12 n13 c14) rfl (h39.cell rfl)) ?_
  refine L_call go84 [.slice A1 n2 c3, .slice A12 n13 c14] rfl ((spec_l7Ints.calls w32 hc40.ok a.Up A1 n2 c3 (hp4.st hc40.st) b.Up A12 n13 c14 (hp15.st hc40.st) _ H).mono ?_)
  rintro _ w42 ⟨r, rfl, H, g43⟩
  have hc47 := hc40.k0 g43
  refine L_pu (P_move (vb r) rfl) ?_
  rcases bool_or r with hq48 | hq48
  · have H := ite_t H hq48
    refine L_run (dj := 10) rfl rfl (by exact congrArg Value.bool hq48) ?_
    refine L_pu (P_fa fa93_1 ⟨b24, 0, none⟩ ⟨b24, 1, none⟩ rfl rfl) ?_
    refine L_run (dj := 10) rfl rfl (by exact congrArg Value.bool hq48) ?_
    have h49 := (h41.st (.new _ g43))
    refine L_pu (P_ld ag91 cL ⟨b24, 1, none⟩ (.slice A6 n7 c8) rfl (h49.cell rfl)) ?_
    refine L_run (dj := 10) rfl rfl (by exact congrArg Value.bool hq48) ?_
    refine L_pu (P_fa fa93_1 ⟨b33, 0, none⟩ ⟨b33, 1, none⟩ rfl rfl) ?_
    refine L_run (dj := 10) rfl rfl (by exact congrArg Value.bool hq48) ?_
    have h50 := (h39.st (.new _ g43))
    refine L_pu (P_ld ag91 cL ⟨b33, 1, none⟩ (.slice A17 n18 c19) rfl (h50.cell rfl)) ?_
    refine L_run (dj := 10) rfl rfl (by exact congrArg Value.bool hq48) ?_
    refine L_call go85 [.slice A6 n7 c8, .slice A17 n18 c19] rfl ((spec_SheetSame.calls w42 hc47.ok a.Sheet A6 n7 c8 (hp9.st hc47.st) b.Sheet A17 n18 c19 (hp20.st hc47.st) _ H).mono ?_)
    rintro _ w51 ⟨r2, rfl, H, g52⟩
    have hc56 := hc47.k0 g52
    refine L_pu (P_pick true (vb r2) (by exact congrArg Value.bool hq48) rfl) ?_
    refine L_pu (P_move (vb r2) rfl) ?_
    rcases bool_or r2 with hq57 | hq57
    · have H := ite_t H hq57
      refine L_run (dj := 17) rfl rfl (by exact congrArg Value.bool hq57) ?_
      refine L_pu (P_fa fa93_2 ⟨b24, 0, none⟩ ⟨b24, 2, none⟩ rfl rfl) ?_
      refine L_run (dj := 17) rfl rfl (by exact congrArg Value.bool hq57) ?_
      have h58 := (h49.st (.new _ g52))
      refine L_pu (P_ld ag9 cL ⟨b24, 2, none⟩ (vs a.Note) rfl (h58.cell rfl)) ?_
      refine L_run (dj := 17) rfl rfl (by exact congrArg Value.bool hq57) ?_
      refine L_pu (P_fa fa93_2 ⟨b33, 0, none⟩ ⟨b33, 2, none⟩ rfl rfl) ?_
      refine L_run (dj := 17) rfl rfl (by exact congrArg Value.bool hq57) ?_
      have h59 := (h50.st (.new _ g52))
      refine L_pu (P_ld ag9 cL ⟨b33, 2, none⟩ (vs b.Note) rfl (h59.cell rfl)) ?_
      refine L_run (dj := 17) rfl rfl (by exact congrArg Value.bool hq57) ?_
      refine L_pu (P_scmp a.Note b.Note (a.Note == b.Note) rfl rfl rfl) ?_
      refine L_pu (P_pick true (vb (a.Note == b.Note)) (by exact congrArg Value.bool hq57) rfl) ?_
      refine L_pu (P_assign (vb (a.Note == b.Note)) rfl) ?_
      refine L_nil ?_
      refine W_ret ?_
      exact ⟨[vb (a.Note == b.Note)], ⟨_, rfl, rfl⟩, a.Note == b.Note, rfl, H, hc56.gr⟩
    · have H := ite_f H hq57
      refine L_pass (dj := 17) rfl rfl (.inl (by exact congrArg Value.bool hq57)) ?_
      refine L_pass (dj := 17) rfl rfl (.inl (by exact congrArg Value.bool hq57)) ?_
      refine L_pass (dj := 17) rfl rfl (.inl (by exact congrArg Value.bool hq57)) ?_
      refine L_pass (dj := 17) rfl rfl (.inl (by exact congrArg Value.bool hq57)) ?_
      refine L_pass (dj := 17) rfl rfl (.inl (by exact congrArg Value.bool hq57)) ?_
      refine L_pu (P_pick false (vb false) (by exact congrArg Value.bool hq57) rfl) ?_
      refine L_pu (P_assign (vb false) rfl) ?_
      refine L_nil ?_
      refine W_ret ?_
      exact ⟨[vb false], ⟨_, rfl, rfl⟩, false, rfl, H, hc56.gr⟩
  · have H := ite_f H hq48
    refine L_pass (dj := 10) rfl rfl (.inl (by exact congrArg Value.bool hq48)) ?_
    refine L_pass (dj := 10) rfl rfl (.inl (by exact congrArg Value.bool hq48)) ?_
    refine L_pass (dj := 10) rfl rfl (.inl (by exact congrArg Value.bool hq48)) ?_
    refine L_pass (dj := 10) rfl rfl (.inl (by exact congrArg Value.bool hq48)) ?_
    refine L_pass (dj := 10) rfl rfl (.inl (by exact congrArg Value.bool hq48)) ?_
    refine L_pu (P_pick false (vb false) (by exact congrArg Value.bool hq48) rfl) ?_
    refine L_pu (P_move (vb false) rfl) ?_
    refine L_pass (dj := 17) rfl rfl (.inl rfl) ?_
    refine L_pass (dj := 17) rfl rfl (.inl rfl) ?_
    refine L_pass (dj := 17) rfl rfl (.inl rfl) ?_
    refine L_pass (dj := 17) rfl rfl (.inl rfl) ?_
    refine L_pass (dj := 17) rfl rfl (.inl rfl) ?_
    refine L_pu (P_pick false (vb false) (by exact congrArg Value.bool rfl) rfl) ?_
    refine L_pu (P_assign (vb false) rfl) ?_
    refine L_nil ?_
    refine W_ret ?_
    exact ⟨[vb false], ⟨_, rfl, rfl⟩, false, rfl, H, hc47.gr⟩
end Go.Proofs.Ythkeboifjlnjjaa

namespace Go.Proofs.Ythkeboifjlnjjaa
set_option linter.unusedVariables false
set_option linter.unusedSimpArgs false
set_option linter.unusedSectionVars false
theorem Commit.ext_iff2 (a b : Commit) : a = b ↔ a.Up = b.Up ∧ a.Sheet = b.Sheet ∧ a.Note = b.Note := by cases a; cases b; simp
theorem spec_l7Same.law (a b : Commit) (Q : Bool → Prop) (hq : Q (decide (a = b))) : spec_l7Same.E a b Q := by
  unfold spec_l7Same.E
  have e : decide (a = b) = (decide (a.Up = b.Up) && (decide (a.Sheet = b.Sheet) && decide (a.Note = b.Note))) := by
    rw [Bool.eq_iff_iff]; simp only [Bool.and_eq_true, decide_eq_true_eq]; exact Commit.ext_iff2 a b
  rw [e] at hq
  refine spec_l7Ints.law _ _ _ ?_
  cases h1 : decide (a.Up = b.Up) with
  | false => rw [h1] at hq; rw [if_neg (by decide)]; exact hq
  | true =>
    rw [h1, Bool.true_and] at hq
    rw [if_pos rfl]
    refine spec_SheetSame.law _ _ _ ?_
    cases h2 : decide (a.Sheet = b.Sheet) with
    | false => rw [h2] at hq; rw [if_neg (by decide)]; exact hq
    | true =>
      rw [h2, Bool.true_and] at hq
      rw [if_pos rfl]
      have : (a.Note == b.Note) = decide (a.Note = b.Note) := by rw [Bool.eq_iff_iff, beq_iff_eq, decide_eq_true_eq]
      rw [this]; exact hq
end Go.Proofs.Ythkeboifjlnjjaa

namespace Go.Proofs.Ythkeboifjlnjjaa
open Go.RowKit
set_option linter.unusedVariables false
def spec_l7Find.E (r : Repo) (c_ : Commit) (Q : Int → Prop) : Prop :=
  (∃ (I76 : Int → Prop) (mu77 : Int → Nat), I76 0 ∧ ∀ (i2 : Int), I76 i2 → (if decide (i2 < (r.Commits.length : Int)) then ((0 : Int) ≤ i2 ∧ i2 < (r.Commits.length : Int)) ∧ (∃ q : Bool, spec_l7Same.E (nth r.Commits i2) c_ (fun x => x = q) ∧ (if q then Q i2 else (-9223372036854775808 ≤ i2) ∧ I76 (i2 + 1) ∧ mu77 (i2 + 1) < mu77 i2)) else Q (-1)))
set_option maxHeartbeats 8000000 in
set_option maxRecDepth 100000 in
theorem spec_l7Find.calls {O : Ob} (w0 : World) (hO : Ok w0 O) (r : Repo) (A1 : Option Addr) (n2 c3 : Nat) (A6 : Option Addr) (n7 c8 : Nat) (hp4 : Sl kCommit w0 (Fr O) (.slice A1 n2 c3) r.Commits) (hp9 : Sl kHead w0 (Fr O) (.slice A6 n7 c8) r.Heads) (c_ : Commit) (A11 : Option Addr) (n12 c13 : Nat) (A16 : Option Addr) (n17 c18 : Nat) (hp14 : Sl (Kd.int .i64) w0 (Fr O) (.slice A11 n12 c13) c_.Up) (hp19 : Sl kFeat w0 (Fr O) (.slice A16 n17 c18) c_.Sheet) (hs21 : Lim c_.Note) (Q : Int → Prop) (h : spec_l7Find.E r c_ Q) :
    Ret Try.prog 58 [.agg #[.slice A1 n2 c3, .slice A6 n7 c8], .agg #[.slice A11 n12 c13, .slice A16 n17 c18, vs c_.Note]] w0 (fun v w' => ∃ (r0 : Int), v = vi r0 ∧ Q r0 ∧ Gr w0 w' none) := by
  have H : (∃ (I76 : Int → Prop) (mu77 : Int → Nat), I76 0 ∧ ∀ (i2 : Int), I76 i2 → (if decide (i2 < (r.Commits.length : Int)) then ((0 : Int) ≤ i2 ∧ i2 < (r.Commits.length : Int)) ∧ (∃ q : Bool, spec_l7Same.E (nth r.Commits i2) c_ (fun x => x = q) ∧ (if q then Q i2 else (-9223372036854775808 ≤ i2) ∧ I76 (i2 + 1) ∧ mu77 (i2 + 1) < mu77 i2)) else Q (-1))) := h
  clear h
  have hc0 := Ct.init hO
  refine Ret_enter Try.func58 rfl 21 rfl [.tmp 4] rfl rfl ?_
  refine W_seq ?_
  refine W_reg ?_
  refine L_box [.slice A1 n2 c3, .slice A6 n7 c8] rfl fun w22 b23 hl25 hu26 g24 hx27 => ?_
  have h29 := Fb.mk hc0.ok hl25 hx27
  have hc30 := hc0.k0 g24
  refine L_box [.slice A11 n12 c13, .slice A16 n17 c18, vs c_.Note] rfl fun w31 b32 hl34 hu35 g33 hx36 => ?_
  have h38 := Fb.mk hc30.ok hl34 hx36
  have hc39 := hc30.k0 g33
  refine L_pu (P_assign (vi 0) rfl) ?_
  refine L_nil ?_
  refine W_seq ?_
  refine W_seq ?_
  refine W_reg ?_
  refine L_pu (P_assign (vi 0) rfl) ?_
  refine L_nil ?_
  refine W_block ?_
  obtain ⟨I76, mu77, hI78, H⟩ := H
  have h80 := (h29.st (.new _ g33))
  refine W_loop (α := Int) (fun (sv__ : Int) t w64 => match sv__ with | i2 => I76 i2 ∧ Has t [(2, .pointer (some ⟨b23, 0, none⟩)), (3, .pointer (some ⟨b32, 0, none⟩)), (5, vi i2)] ∧ Ct none w0 w64 [] O ∧ Sl (Kd.int .i64) w64 (Fr ([] ++ O)) (.slice A11 n12 c13) c_.Up ∧ Sl kFeat w64 (Fr ([] ++ O)) (.slice A16 n17 c18) c_.Sheet ∧ Sl kCommit w64 (Fr ([] ++ O)) (.slice A1 n2 c3) r.Commits ∧ Sl kHead w64 (Fr ([] ++ O)) (.slice A6 n7 c8) r.Heads ∧ Fb w64 ([] ++ O) b23 [.slice A1 n2 c3, .slice A6 n7 c8] ∧ Fb w64 ([] ++ O) b32 [.slice A11 n12 c13, .slice A16 n17 c18, vs c_.Note]) (fun (sv__ : Int) => match sv__ with | i2 => mu77 i2) 0 ⟨hI78, ⟨rfl, rfl, rfl, trivial⟩, hc39, (hp14.st hc39.st), (hp19.st hc39.st), (hp4.st hc39.st), (hp9.st hc39.st), h80, h38⟩ ?_
  rintro i2 _ w64 ⟨hI78, hh81, hc69, h70, h71, h72, h73, h74, h75⟩
  obtain ⟨u82, rfl⟩ := Has.ins hh81
  have H := H i2 hI78
  refine W_seq ?_
  refine W_seq ?_
  refine W_reg ?_
  refine L_pu (P_move (vi i2) rfl) ?_
  refine L_pu (P_fa fa46_0 ⟨b23, 0, none⟩ ⟨b23, 0, none⟩ rfl rfl) ?_
  refine L_pu (P_ld ag43 cL ⟨b23, 0, none⟩ (.slice A1 n2 c3) rfl (h74.cell rfl)) ?_
  have hl83 := h72.le
  refine L_pu (P_len Try.underlying43 A1 n2 c3 h72.len rfl) ?_
  refine L_pu (P_cmp i2 (r.Commits.length : Int) (decide (i2 < (r.Commits.length : Int))) rfl rfl rfl) ?_
  refine L_nil ?_
  refine W_cond (decide (i2 < (r.Commits.length : Int))) rfl (fun hq84 => ?_) (fun hq84 => ?_)
  · have H := ite_t H hq84
    refine W_skip ?_
    refine W_seq ?_
    refine W_block ?_
    refine W_seq ?_
    refine W_draw (fun x => Gr w64 x none) (by kernel_rfl) (by kernel_rfl) (Gr.drew _) ?_
    refine Q_pu (P_fa fa46_0 ⟨b23, 0, none⟩ ⟨b23, 0, none⟩ rfl rfl) ?_
    refine Q_pu (P_ld ag43 cQ ⟨b23, 0, none⟩ (.slice A1 n2 c3) rfl (h74.cell rfl)) ?_
    refine Q_pu (P_move (vi i2) rfl) ?_
    obtain ⟨hb85, H⟩ := H
    obtain ⟨ad86, cs87, hA88, hS91, hR89, hcl90⟩ := h72.get default (by decide) i2 hb85
    obtain ⟨A92, n93, c94, A97, n98, c99, rfl, h95, h100, hs102⟩ := kCommit.op hR89
    refine Q_pu (P_ia Try.underlying43 se43 A1 ad86 n2 c3 h72.len i2 rfl hA88 rfl hb85) ?_
    refine Q_pu (P_lda ag93 sz93 cQ (ad86.add (i2.toNat * 3)) [.slice A92 n93 c94, .slice A97 n98 c99, vs ((nth r.Commits i2).Note)] rfl rfl hcl90) ?_
    refine Q_pu (P_lda ag93 sz93 cQ ⟨b32, 0, none⟩ [.slice A11 n12 c13, .slice A16 n17 c18, vs c_.Note] rfl rfl (h75.cells (off := 0) rfl)) ?_
    obtain ⟨q, hE108, H⟩ := H
    refine Q_call go47 [.agg #[.slice A92 n93 c94, .slice A97 n98 c99, vs ((nth r.Commits i2).Note)], .agg #[.slice A11 n12 c13, .slice A16 n17 c18, vs c_.Note]] rfl (vb q) (fun w g => (spec_l7Same.calls w (hc69.k0 g).ok (nth r.Commits i2) A92 n93 c94 A97 n98 c99 (h95.st (.new _ g)) (h100.st (.new _ g)) hs102 c_ A11 n12 c13 A16 n17 c18 (h70.st (.new _ g)) (h71.st (.new _ g)) hs21 _ hE108).mono ?_) ?_
    · rintro _ w ⟨r, rfl, rfl, g2⟩
      exact ⟨rfl, Gr.t0 g g2⟩
    refine Q_nil fun w110 g111 => ?_
    have hc113 := hc69.k0 g111
    refine W_cond q rfl (fun hq114 => ?_) (fun hq114 => ?_)
    · have H := ite_t H hq114
      refine W_seq ?_
      refine W_reg ?_
      refine L_pu (P_move (vi i2) rfl) ?_
      refine L_pu (P_assign (vi i2) rfl) ?_
      refine L_nil ?_
      refine W_ret ?_
      exact ⟨[vi i2], ⟨_, rfl, rfl⟩, i2, rfl, H, hc113.gr⟩
    · have H := ite_f H hq114
      refine W_skip ?_
      refine W_reg ?_
      refine L_pu (P_move (vi i2) rfl) ?_
      obtain ⟨hb116, H⟩ := H
      have hi115 : I64 (i2 + 1) := i64_succ (of_decide_eq_true hq84) hl83 hb116
      refine L_pu (P_add i2 1 rfl rfl hi115) ?_
      refine L_pu (P_assign (vi (i2 + 1)) rfl) ?_
      refine L_nil ?_
      obtain ⟨hI117, hm118⟩ := H
      have h119 := (h74.st (.new _ g111))
      have h120 := (h75.st (.new _ g111))
      exact ⟨i2 + 1, hm118, hI117, ⟨rfl, rfl, rfl, trivial⟩, hc113, (h70.st (.new _ g111)), (h71.st (.new _ g111)), (h72.st (.new _ g111)), (h73.st (.new _ g111)), h119, h120⟩
  · have H := ite_f H hq84
    refine W_exit (xin_hit ?_)
    refine W_seq ?_
    refine W_reg ?_
    refine L_pu (P_assign (vi (-1)) rfl) ?_
    refine L_nil ?_
    refine W_ret ?_
    exact ⟨[vi (-1)], ⟨_, rfl, rfl⟩, (-1), rfl, H, hc69.gr⟩
end Go.Proofs.Ythkeboifjlnjjaa

namespace Go.Proofs.Ythkeboifjlnjjaa
set_option linter.unusedVariables false
set_option linter.unusedSimpArgs false
set_option linter.unusedSectionVars false
theorem spec_l7Find.law (r : Repo) (c : Commit) (Q : Int → Prop) (hq : Q (findCommit r c)) : spec_l7Find.E r c Q := by
  unfold spec_l7Find.E
  refine loop_find r.Commits.length (fun j => decide (nth r.Commits (j : Int) = c)) hq (fun I mu k hk h1 h2 => ⟨by omega, _, spec_l7Same.law _ _ _ rfl, ?_⟩)
  cases h : decide (nth r.Commits (k : Int) = c) with
  | true => rw [if_pos rfl]; exact h1 h
  | false => rw [if_neg (by decide)]; obtain ⟨i1, i2⟩ := h2 h; exact ⟨by omega, i1, i2⟩
end Go.Proofs.Ythkeboifjlnjjaa

namespace Go.Proofs.Ythkeboifjlnjjaa
open Go.RowKit
set_option linter.unusedVariables false
def spec_l7Head.E (r : Repo) (name : Str) (Q : Int → Prop) : Prop :=
  (∃ (I42 : Int → Prop) (mu43 : Int → Nat), I42 0 ∧ ∀ (i2 : Int), I42 i2 → (if decide (i2 < (r.Heads.length : Int)) then ((0 : Int) ≤ i2 ∧ i2 < (r.Heads.length : Int)) ∧ (if ((nth r.Heads i2).Name) == name then Q i2 else (-9223372036854775808 ≤ i2) ∧ I42 (i2 + 1) ∧ mu43 (i2 + 1) < mu43 i2) else Q (-1)))
set_option maxHeartbeats 8000000 in
set_option maxRecDepth 100000 in
theorem spec_l7Head.calls {O : Ob} (w0 : World) (hO : Ok w0 O) (r : Repo) (A1 : Option Addr) (n2 c3 : Nat) (A6 : Option Addr) (n7 c8 : Nat) (hp4 : Sl kCommit w0 (Fr O) (.slice A1 n2 c3) r.Commits) (hp9 : Sl kHead w0 (Fr O) (.slice A6 n7 c8) r.Heads) (name : Str) (hs11 : Lim name) (Q : Int → Prop) (h : spec_l7Head.E r name Q) :
    Ret Try.prog 59 [.agg #[.slice A1 n2 c3, .slice A6 n7 c8], vs name] w0 (fun v w' => ∃ (r0 : Int), v = vi r0 ∧ Q r0 ∧ Gr w0 w' none) := by
  have H : (∃ (I42 : Int → Prop) (mu43 : Int → Nat), I42 0 ∧ ∀ (i2 : Int), I42 i2 → (if decide (i2 < (r.Heads.length : Int)) then ((0 : Int) ≤ i2 ∧ i2 < (r.Heads.length : Int)) ∧ (if ((nth r.Heads i2).Name) == name then Q i2 else (-9223372036854775808 ≤ i2) ∧ I42 (i2 + 1) ∧ mu43 (i2 + 1) < mu43 i2) else Q (-1))) := h
  clear h
  have hc0 := Ct.init hO
  refine Ret_enter Try.func59 rfl 22 rfl [.tmp 4] rfl rfl ?_
  refine W_seq ?_
  refine W_reg ?_
  refine L_box [.slice A1 n2 c3, .slice A6 n7 c8] rfl fun w12 b13 hl15 hu16 g14 hx17 => ?_
  have h19 := Fb.mk hc0.ok hl15 hx17
  have hc20 := hc0.k0 g14
  refine L_pu (P_assign (vi 0) rfl) ?_
  refine L_nil ?_
  refine W_seq ?_
  refine W_seq ?_
  refine W_reg ?_
  refine L_pu (P_assign (vi 0) rfl) ?_
  refine L_nil ?_
  refine W_block ?_
  obtain ⟨I42, mu43, hI44, H⟩ := H
  refine W_loop (α := Int) (fun (sv__ : Int) t w35 => match sv__ with | i2 => I42 i2 ∧ Has t [(1, vs name), (2, .pointer (some ⟨b13, 0, none⟩)), (5, vi i2)] ∧ Ct none w0 w35 [] O ∧ Sl kCommit w35 (Fr ([] ++ O)) (.slice A1 n2 c3) r.Commits ∧ Sl kHead w35 (Fr ([] ++ O)) (.slice A6 n7 c8) r.Heads ∧ Fb w35 ([] ++ O) b13 [.slice A1 n2 c3, .slice A6 n7 c8]) (fun (sv__ : Int) => match sv__ with | i2 => mu43 i2) 0 ⟨hI44, ⟨rfl, rfl, rfl, trivial⟩, hc20, (hp4.st hc20.st), (hp9.st hc20.st), h19⟩ ?_
  rintro i2 _ w35 ⟨hI44, hh46, hc38, h39, h40, h41⟩
  obtain ⟨u47, rfl⟩ := Has.ins hh46
  have H := H i2 hI44
  refine W_seq ?_
  refine W_seq ?_
  refine W_reg ?_
  refine L_pu (P_move (vi i2) rfl) ?_
  refine L_pu (P_fa fa46_1 ⟨b13, 0, none⟩ ⟨b13, 1, none⟩ rfl rfl) ?_
  refine L_pu (P_ld ag44 cL ⟨b13, 1, none⟩ (.slice A6 n7 c8) rfl (h41.cell rfl)) ?_
  have hl48 := h40.le
  refine L_pu (P_len Try.underlying44 A6 n7 c8 h40.len rfl) ?_
  refine L_pu (P_cmp i2 (r.Heads.length : Int) (decide (i2 < (r.Heads.length : Int))) rfl rfl rfl) ?_
  refine L_nil ?_
  refine W_cond (decide (i2 < (r.Heads.length : Int))) rfl (fun hq49 => ?_) (fun hq49 => ?_)
  · have H := ite_t H hq49
    refine W_skip ?_
    refine W_seq ?_
    refine W_block ?_
    refine W_seq ?_
    refine W_reg ?_
    refine L_pu (P_fa fa46_1 ⟨b13, 0, none⟩ ⟨b13, 1, none⟩ rfl rfl) ?_
    refine L_pu (P_ld ag44 cL ⟨b13, 1, none⟩ (.slice A6 n7 c8) rfl (h41.cell rfl)) ?_
    refine L_pu (P_move (vi i2) rfl) ?_
    obtain ⟨hb50, H⟩ := H
    obtain ⟨ad51, cs52, hA53, hS56, hR54, hcl55⟩ := h40.get default (by decide) i2 hb50
    obtain ⟨rfl, hs57⟩ := kHead.op hR54
    refine L_pu (P_ia Try.underlying44 se44 A6 ad51 n7 c8 h40.len i2 rfl hA53 rfl hb50) ?_
    refine L_pu (P_fa fa95_0 (ad51.add (i2.toNat * 2)) ((ad51.add (i2.toNat * 2)).add 0) rfl rfl) ?_
    refine L_pu (P_ld ag9 cL ((ad51.add (i2.toNat * 2)).add 0) (vs ((nth r.Heads i2).Name)) rfl (hcl55 0 _ rfl)) ?_
    refine L_pu (P_move (vs name) rfl) ?_
    refine L_pu (P_scmp ((nth r.Heads i2).Name) name (((nth r.Heads i2).Name) == name) rfl rfl rfl) ?_
    refine L_nil ?_
    refine W_cond (((nth r.Heads i2).Name) == name) rfl (fun hq58 => ?_) (fun hq58 => ?_)
    · have H := ite_t H hq58
      refine W_seq ?_
      refine W_reg ?_
      refine L_pu (P_move (vi i2) rfl) ?_
      refine L_pu (P_assign (vi i2) rfl) ?_
      refine L_nil ?_
      refine W_ret ?_
      exact ⟨[vi i2], ⟨_, rfl, rfl⟩, i2, rfl, H, hc38.gr⟩
    · have H := ite_f H hq58
      refine W_skip ?_
      refine W_reg ?_
      refine L_pu (P_move (vi i2) rfl) ?_
      obtain ⟨hb60, H⟩ := H
      have hi59 : I64 (i2 + 1) := i64_succ (of_decide_eq_true hq49) hl48 hb60
      refine L_pu (P_add i2 1 rfl rfl hi59) ?_
      refine L_pu (P_assign (vi (i2 + 1)) rfl) ?_
      refine L_nil ?_
      obtain ⟨hI61, hm62⟩ := H
      exact ⟨i2 + 1, hm62, hI61, ⟨rfl, rfl, rfl, trivial⟩, hc38, h39, h40, h41⟩
  · have H := ite_f H hq49
    refine W_exit (xin_hit ?_)
    refine W_seq ?_
    refine W_reg ?_
    refine L_pu (P_assign (vi (-1)) rfl) ?_
    refine L_nil ?_
    refine W_ret ?_
    exact ⟨[vi (-1)], ⟨_, rfl, rfl⟩, (-1), rfl, H, hc38.gr⟩
end Go.Proofs.Ythkeboifjlnjjaa

namespace Go.Proofs.Ythkeboifjlnjjaa
set_option linter.unusedVariables false
set_option linter.unusedSimpArgs false
set_option linter.unusedSectionVars false
theorem spec_l7Head.law (r : Repo) (name : Str) (Q : Int → Prop) (hq : Q (findHead r name)) : spec_l7Head.E r name Q := by
  unfold spec_l7Head.E
  refine loop_find r.Heads.length (fun j => decide ((nth r.Heads (j : Int)).Name = name)) hq (fun I mu k hk h1 h2 => ⟨by omega, ?_⟩)
  have e : ((nth r.Heads (k : Int)).Name == name) = decide ((nth r.Heads (k : Int)).Name = name) := by rw [Bool.eq_iff_iff, beq_iff_eq, decide_eq_true_eq]
  rw [e]
  cases h : decide ((nth r.Heads (k : Int)).Name = name) with
  | true => rw [if_pos rfl]; exact h1 h
  | false => rw [if_neg (by decide)]; obtain ⟨i1, i2⟩ := h2 h; exact ⟨by omega, i1, i2⟩
end Go.Proofs.Ythkeboifjlnjjaa

namespace Go.Proofs.Ythkeboifjlnjjaa
open Go.RowKit
set_option linter.unusedVariables false
def spec_RepoOk.E (r : Repo) (Q : Bool → Prop) : Prop :=
  (if decide ((r.Commits.length : Int) < 1) then Q false else (if decide ((r.Commits.length : Int) > 14) then Q false else (if decide ((r.Heads.length : Int) < 1) then Q false else (if decide ((r.Heads.length : Int) > 4) then Q false else (∃ (I47 : Int → Prop) (mu48 : Int → Nat), I47 0 ∧ ∀ (i2 : Int), I47 i2 → (if decide (i2 < (r.Commits.length : Int)) then ((0 : Int) ≤ i2 ∧ i2 < (r.Commits.length : Int)) ∧ spec_l7Up.E ((nth r.Commits i2).Up) i2 (fun r2 => (if !r2 then Q false else spec_SheetOk.E ((nth r.Commits i2).Sheet) (fun r3 => (if !r3 then Q false else spec_WordOk.E ((nth r.Commits i2).Note) (fun r4 => (if !r4 then Q false else spec_l7Find.E r (nth r.Commits i2) (fun r5 => (if r5 != i2 then Q false else (-9223372036854775808 ≤ i2) ∧ I47 (i2 + 1) ∧ mu48 (i2 + 1) < mu48 i2)))))))) else (∃ (I156 : Int → Prop) (mu157 : Int → Nat), I156 0 ∧ ∀ (i4 : Int), I156 i4 → (if decide (i4 < (r.Heads.length : Int)) then ((0 : Int) ≤ i4 ∧ i4 < (r.Heads.length : Int)) ∧ spec_WordOk.E ((nth r.Heads i4).Name) (fun r6 => (if !r6 then Q false else spec_l7Head.E r ((nth r.Heads i4).Name) (fun r7 => (if r7 != i4 then Q false else (if decide ((nth r.Heads i4).At < 0) then Q false else (if decide ((nth r.Heads i4).At ≥ (r.Commits.length : Int)) then Q false else (-9223372036854775808 ≤ i4) ∧ I156 (i4 + 1) ∧ mu157 (i4 + 1) < mu157 i4)))))) else Q true))))))))
set_option maxHeartbeats 8000000 in
set_option maxRecDepth 100000 in
theorem spec_RepoOk.calls {O : Ob} (w0 : World) (hO : Ok w0 O) (r : Repo) (A1 : Option Addr) (n2 c3 : Nat) (A6 : Option Addr) (n7 c8 : Nat) (hp4 : Sl kCommit w0 (Fr O) (.slice A1 n2 c3) r.Commits) (hp9 : Sl kHead w0 (Fr O) (.slice A6 n7 c8) r.Heads) (Q : Bool → Prop) (h : spec_RepoOk.E r Q) :
    Ret Try.prog 23 [.agg #[.slice A1 n2 c3, .slice A6 n7 c8]] w0 (fun v w' => ∃ (r0 : Bool), v = vb r0 ∧ Q r0 ∧ Gr w0 w' none) := by
  have H : (if decide ((r.Commits.length : Int) < 1) then Q false else (if decide ((r.Commits.length : Int) > 14) then Q false else (if decide ((r.Heads.length : Int) < 1) then Q false else (if decide ((r.Heads.length : Int) > 4) then Q false else (∃ (I47 : Int → Prop) (mu48 : Int → Nat), I47 0 ∧ ∀ (i2 : Int), I47 i2 → (if decide (i2 < (r.Commits.length : Int)) then ((0 : Int) ≤ i2 ∧ i2 < (r.Commits.length : Int)) ∧ spec_l7Up.E ((nth r.Commits i2).Up) i2 (fun r2 => (if !r2 then Q false else spec_SheetOk.E ((nth r.Commits i2).Sheet) (fun r3 => (if !r3 then Q false else spec_WordOk.E ((nth r.Commits i2).Note) (fun r4 => (if !r4 then Q false else spec_l7Find.E r (nth r.Commits i2) (fun r5 => (if r5 != i2 then Q false else (-9223372036854775808 ≤ i2) ∧ I47 (i2 + 1) ∧ mu48 (i2 + 1) < mu48 i2)))))))) else (∃ (I156 : Int → Prop) (mu157 : Int → Nat), I156 0 ∧ ∀ (i4 : Int), I156 i4 → (if decide (i4 < (r.Heads.length : Int)) then ((0 : Int) ≤ i4 ∧ i4 < (r.Heads.length : Int)) ∧ spec_WordOk.E ((nth r.Heads i4).Name) (fun r6 => (if !r6 then Q false else spec_l7Head.E r ((nth r.Heads i4).Name) (fun r7 => (if r7 != i4 then Q false else (if decide ((nth r.Heads i4).At < 0) then Q false else (if decide ((nth r.Heads i4).At ≥ (r.Commits.length : Int)) then Q false else (-9223372036854775808 ≤ i4) ∧ I156 (i4 + 1) ∧ mu157 (i4 + 1) < mu157 i4)))))) else Q true)))))))) := h
  clear h
  have hc0 := Ct.init hO
  refine Ret_enter Try.func23 rfl 102 rfl [.tmp 2] rfl rfl ?_
  refine W_seq ?_
  refine W_reg ?_
  refine L_box [.slice A1 n2 c3, .slice A6 n7 c8] rfl fun w11 b12 hl14 hu15 g13 hx16 => ?_
  have h18 := Fb.mk hc0.ok hl14 hx16
  have hc19 := hc0.k0 g13
  refine L_pu (P_assign (vb false) rfl) ?_
  refine L_nil ?_
  refine W_seq ?_
  refine W_seq ?_
  refine W_reg ?_
  refine L_pu (P_fa fa46_0 ⟨b12, 0, none⟩ ⟨b12, 0, none⟩ rfl rfl) ?_
  refine L_pu (P_ld ag43 cL ⟨b12, 0, none⟩ (.slice A1 n2 c3) rfl (h18.cell rfl)) ?_
  have hl20 := (hp4.st hc19.st).le
  refine L_pu (P_len Try.underlying43 A1 n2 c3 (hp4.st hc19.st).len rfl) ?_
  refine L_pu (P_cmp (r.Commits.length : Int) 1 (decide ((r.Commits.length : Int) < 1)) rfl rfl rfl) ?_
  refine L_pu (P_move (vb (decide ((r.Commits.length : Int) < 1))) rfl) ?_
  rcases bool_or (decide ((r.Commits.length : Int) < 1)) with hq21 | hq21
  · have H := ite_t H hq21
    refine L_pass (dj := 11) rfl rfl (.inl (by exact congrArg Value.bool hq21)) ?_
    refine L_pass (dj := 11) rfl rfl (.inl (by exact congrArg Value.bool hq21)) ?_
    refine L_pass (dj := 11) rfl rfl (.inl (by exact congrArg Value.bool hq21)) ?_
    refine L_pass (dj := 11) rfl rfl (.inl (by exact congrArg Value.bool hq21)) ?_
    refine L_pu (P_pick true (vb true) (by exact congrArg Value.bool hq21) rfl) ?_
    refine L_pu (P_move (vb true) rfl) ?_
    refine L_pass (dj := 17) rfl rfl (.inl rfl) ?_
    refine L_pass (dj := 17) rfl rfl (.inl rfl) ?_
    refine L_pass (dj := 17) rfl rfl (.inl rfl) ?_
    refine L_pass (dj := 17) rfl rfl (.inl rfl) ?_
    refine L_pu (P_pick true (vb true) (by exact congrArg Value.bool rfl) rfl) ?_
    refine L_pu (P_move (vb true) rfl) ?_
    refine L_pass (dj := 23) rfl rfl (.inl rfl) ?_
    refine L_pass (dj := 23) rfl rfl (.inl rfl) ?_
    refine L_pass (dj := 23) rfl rfl (.inl rfl) ?_
    refine L_pass (dj := 23) rfl rfl (.inl rfl) ?_
    refine L_pu (P_pick true (vb true) (by exact congrArg Value.bool rfl) rfl) ?_
    refine L_nil ?_
    refine W_ct (b := true) rfl rfl ?_
    refine W_seq ?_
    refine W_reg ?_
    refine L_pu (P_assign (vb false) rfl) ?_
    refine L_nil ?_
    refine W_ret ?_
    exact ⟨[vb false], ⟨_, rfl, rfl⟩, false, rfl, H, hc19.gr⟩
  · have H := ite_f H hq21
    refine L_run (dj := 11) rfl rfl (by exact congrArg Value.bool hq21) ?_
    refine L_pu (P_fa fa46_0 ⟨b12, 0, none⟩ ⟨b12, 0, none⟩ rfl rfl) ?_
    refine L_run (dj := 11) rfl rfl (by exact congrArg Value.bool hq21) ?_
    refine L_pu (P_ld ag43 cL ⟨b12, 0, none⟩ (.slice A1 n2 c3) rfl (h18.cell rfl)) ?_
    refine L_run (dj := 11) rfl rfl (by exact congrArg Value.bool hq21) ?_
    refine L_pu (P_len Try.underlying43 A1 n2 c3 (hp4.st hc19.st).len rfl) ?_
    refine L_run (dj := 11) rfl rfl (by exact congrArg Value.bool hq21) ?_
    refine L_pu (P_cmp (r.Commits.length : Int) 14 (decide ((r.Commits.length : Int) > 14)) rfl rfl rfl) ?_
    refine L_pu (P_pick false (vb (decide ((r.Commits.length : Int) > 14))) (by exact congrArg Value.bool hq21) rfl) ?_
    refine L_pu (P_move (vb (decide ((r.Commits.length : Int) > 14))) rfl) ?_
    rcases bool_or (decide ((r.Commits.length : Int) > 14)) with hq22 | hq22
    · have H := ite_t H hq22
      refine L_pass (dj := 17) rfl rfl (.inl (by exact congrArg Value.bool hq22)) ?_
      refine L_pass (dj := 17) rfl rfl (.inl (by exact congrArg Value.bool hq22)) ?_
      refine L_pass (dj := 17) rfl rfl (.inl (by exact congrArg Value.bool hq22)) ?_
      refine L_pass (dj := 17) rfl rfl (.inl (by exact congrArg Value.bool hq22)) ?_
      refine L_pu (P_pick true (vb true) (by exact congrArg Value.bool hq22) rfl) ?_
      refine L_pu (P_move (vb true) rfl) ?_
      refine L_pass (dj := 23) rfl rfl (.inl rfl) ?_
      refine L_pass (dj := 23) rfl rfl (.inl rfl) ?_
      refine L_pass (dj := 23) rfl rfl (.inl rfl) ?_
      refine L_pass (dj := 23) rfl rfl (.inl rfl) ?_
      refine L_pu (P_pick true (vb true) (by exact congrArg Value.bool rfl) rfl) ?_
      refine L_nil ?_
      refine W_ct (b := true) rfl rfl ?_
      refine W_seq ?_
      refine W_reg ?_
      refine L_pu (P_assign (vb false) rfl) ?_
      refine L_nil ?_
      refine W_ret ?_
      exact ⟨[vb false], ⟨_, rfl, rfl⟩, false, rfl, H, hc19.gr⟩
    · have H := ite_f H hq22
      refine L_run (dj := 17) rfl rfl (by exact congrArg Value.bool hq22) ?_
      refine L_pu (P_fa fa46_1 ⟨b12, 0, none⟩ ⟨b12, 1, none⟩ rfl rfl) ?_
      refine L_run (dj := 17) rfl rfl (by exact congrArg Value.bool hq22) ?_
      refine L_pu (P_ld ag44 cL ⟨b12, 1, none⟩ (.slice A6 n7 c8) rfl (h18.cell rfl)) ?_
      refine L_run (dj := 17) rfl rfl (by exact congrArg Value.bool hq22) ?_
      have hl23 := (hp9.st hc19.st).le
      refine L_pu (P_len Try.underlying44 A6 n7 c8 (hp9.st hc19.st).len rfl) ?_
      refine L_run (dj := 17) rfl rfl (by exact congrArg Value.bool hq22) ?_
      refine L_pu (P_cmp (r.Heads.length : Int) 1 (decide ((r.Heads.length : Int) < 1)) rfl rfl rfl) ?_
      refine L_pu (P_pick false (vb (decide ((r.Heads.length : Int) < 1))) (by exact congrArg Value.bool hq22) rfl) ?_
      refine L_pu (P_move (vb (decide ((r.Heads.length : Int) < 1))) rfl) ?_
      rcases bool_or (decide ((r.Heads.length : Int) < 1)) with hq24 | hq24
      · have H := ite_t H hq24
        refine L_pass (dj := 23) rfl rfl (.inl (by exact congrArg Value.bool hq24)) ?_
        refine L_pass (dj := 23) rfl rfl (.inl (by exact congrArg Value.bool hq24)) ?_
        refine L_pass (dj := 23) rfl rfl (.inl (by exact congrArg Value.bool hq24)) ?_
        refine L_pass (dj := 23) rfl rfl (.inl (by exact congrArg Value.bool hq24)) ?_
        refine L_pu (P_pick true (vb true) (by exact congrArg Value.bool hq24) rfl) ?_
        refine L_nil ?_
        refine W_ct (b := true) rfl rfl ?_
        refine W_seq ?_
        refine W_reg ?_
        refine L_pu (P_assign (vb false) rfl) ?_
        refine L_nil ?_
        refine W_ret ?_
        exact ⟨[vb false], ⟨_, rfl, rfl⟩, false, rfl, H, hc19.gr⟩
      · have H := ite_f H hq24
        refine L_run (dj := 23) rfl rfl (by exact congrArg Value.bool hq24) ?_
        refine L_pu (P_fa fa46_1 ⟨b12, 0, none⟩ ⟨b12, 1, none⟩ rfl rfl) ?_
        refine L_run (dj := 23) rfl rfl (by exact congrArg Value.bool hq24) ?_
        refine L_pu (P_ld ag44 cL ⟨b12, 1, none⟩ (.slice A6 n7 c8) rfl (h18.cell rfl)) ?_
        refine L_run (dj := 23) rfl rfl (by exact congrArg Value.bool hq24) ?_
        refine L_pu (P_len Try.underlying44 A6 n7 c8 (hp9.st hc19.st).len rfl) ?_
        refine L_run (dj := 23) rfl rfl (by exact congrArg Value.bool hq24) ?_
        refine L_pu (P_cmp (r.Heads.length : Int) 4 (decide ((r.Heads.length : Int) > 4)) rfl rfl rfl) ?_
        refine L_pu (P_pick false (vb (decide ((r.Heads.length : Int) > 4))) (by exact congrArg Value.bool hq24) rfl) ?_
        refine L_nil ?_
        refine W_cond (decide ((r.Heads.length : Int) > 4)) rfl (fun hq25 => ?_) (fun hq25 => ?_)
        · have H := ite_t H hq25
          refine W_seq ?_
          refine W_reg ?_
          refine L_pu (P_assign (vb false) rfl) ?_
          refine L_nil ?_
          refine W_ret ?_
          exact ⟨[vb false], ⟨_, rfl, rfl⟩, false, rfl, H, hc19.gr⟩
        · have H := ite_f H hq25
          refine W_skip ?_
          refine W_seq ?_
          refine W_seq ?_
          refine W_reg ?_
          refine L_pu (P_assign (vi 0) rfl) ?_
          refine L_nil ?_
          refine W_block ?_
          obtain ⟨I47, mu48, hI49, H⟩ := H
          refine W_loop (α := Int) (fun (sv__ : Int) t w40 => match sv__ with | i2 => I47 i2 ∧ Has t [(1, .pointer (some ⟨b12, 0, none⟩)), (3, vi i2)] ∧ Ct none w0 w40 [] O ∧ Sl kCommit w40 (Fr ([] ++ O)) (.slice A1 n2 c3) r.Commits ∧ Sl kHead w40 (Fr ([] ++ O)) (.slice A6 n7 c8) r.Heads ∧ Fb w40 ([] ++ O) b12 [.slice A1 n2 c3, .slice A6 n7 c8]) (fun (sv__ : Int) => match sv__ with | i2 => mu48 i2) 0 ⟨hI49, ⟨rfl, rfl, trivial⟩, hc19, (hp4.st hc19.st), (hp9.st hc19.st), h18⟩ ?_
          rintro i2 _ w40 ⟨hI49, hh51, hc43, h44, h45, h46⟩
          obtain ⟨u52, rfl⟩ := Has.ins hh51
          have H := H i2 hI49
          refine W_seq ?_
          refine W_seq ?_
          refine W_reg ?_
          refine L_pu (P_move (vi i2) rfl) ?_
          refine L_pu (P_fa fa46_0 ⟨b12, 0, none⟩ ⟨b12, 0, none⟩ rfl rfl) ?_
          refine L_pu (P_ld ag43 cL ⟨b12, 0, none⟩ (.slice A1 n2 c3) rfl (h46.cell rfl)) ?_
          have hl53 := h44.le
          refine L_pu (P_len Try.underlying43 A1 n2 c3 h44.len rfl) ?_
          refine L_pu (P_cmp i2 (r.Commits.length : Int) (decide (i2 < (r.Commits.length : Int))) rfl rfl rfl) ?_
          refine L_nil ?_
          refine W_cond (decide (i2 < (r.Commits.length : Int))) rfl (fun hq54 => ?_) (fun hq54 => ?_)
          · have H := ite_t H hq54
            refine W_skip ?_
            refine W_seq ?_
            refine W_block ?_
            refine W_seq ?_
            refine W_reg ?_
            refine L_pu (P_fa fa46_0 ⟨b12, 0, none⟩ ⟨b12, 0, none⟩ rfl rfl) ?_
            refine L_pu (P_ld ag43 cL ⟨b12, 0, none⟩ (.slice A1 n2 c3) rfl (h46.cell rfl)) ?_
            refine L_pu (P_move (vi i2) rfl) ?_
            obtain ⟨hb55, H⟩ := H
            obtain ⟨ad56, cs57, hA58, hS61, hR59, hcl60⟩ := h44.get default (by decide) i2 hb55
            obtain ⟨A62, n63, c64, A67, n68, c69, rfl, h65, h70, hs72⟩ := kCommit.op hR59
            refine L_pu (P_ia Try.underlying43 se43 A1 ad56 n2 c3 h44.len i2 rfl hA58 rfl hb55) ?_
            refine L_pu (P_lda ag93 sz93 cL (ad56.add (i2.toNat * 3)) [.slice A62 n63 c64, .slice A67 n68 c69, vs ((nth r.Commits i2).Note)] rfl rfl hcl60) ?_
            refine L_alloc [.slice none 0 0, .slice none 0 0, vs []] ze93 fun w73 b74 hl76 hu77 g75 hx78 => ?_
            have hc80 := hc43.own g75 (some b74) (oglt hl76 hu77)
            refine L_stb b74 0 [.slice none 0 0, .slice none 0 0, vs ([] : Str)] [.slice A62 n63 c64, .slice A67 n68 c69, vs ((nth r.Commits i2).Note)] [.slice A62 n63 c64, .slice A67 n68 c69, vs ((nth r.Commits i2).Note)] rfl hx78 rfl sz93 rfl rfl rfl fun w81 g82 hx83 => ?_
            have hc84 := hc80.wr 0 rfl g82
            refine L_nil ?_
            refine W_seq ?_
            refine W_reg ?_
            refine L_pu (P_fa fa93_0 ⟨b74, 0, none⟩ ⟨b74, 0, none⟩ rfl rfl) ?_
            refine L_pu (P_ld ag90 cL ⟨b74, 0, none⟩ (.slice A62 n63 c64) rfl (hx83.cell rfl)) ?_
            refine L_pu (P_move (vi i2) rfl) ?_
            have h85 := ((h65.st (.own _ _ g75 (oge hl76))).st (.wl (L := [some b74]) (O := O) (j := 0) rfl g82))
            refine L_call go55 [.slice A62 n63 c64, vi i2] rfl ((spec_l7Up.calls w81 hc84.ok ((nth r.Commits i2).Up) A62 n63 c64 h85 i2 _ H).mono ?_)
            rintro _ w86 ⟨r2, rfl, H, g87⟩
            have hc91 := hc84.k0 g87
            refine L_pu (P_not r2 rfl) ?_
            refine L_pu (P_move (vb (!r2)) rfl) ?_
            rcases bool_or (!r2) with hq92 | hq92
            · have H := ite_t H hq92
              refine L_pass (dj := 46) rfl rfl (.inl (by exact congrArg Value.bool hq92)) ?_
              refine L_pass (dj := 46) rfl rfl (.inl (by exact congrArg Value.bool hq92)) ?_
              refine L_pass (dj := 46) rfl rfl (.inl (by exact congrArg Value.bool hq92)) ?_
              refine L_pass (dj := 46) rfl rfl (.inl (by exact congrArg Value.bool hq92)) ?_
              refine L_pu (P_pick true (vb true) (by exact congrArg Value.bool hq92) rfl) ?_
              refine L_pu (P_move (vb true) rfl) ?_
              refine L_pass (dj := 52) rfl rfl (.inl rfl) ?_
              refine L_pass (dj := 52) rfl rfl (.inl rfl) ?_
              refine L_pass (dj := 52) rfl rfl (.inl rfl) ?_
              refine L_pass (dj := 52) rfl rfl (.inl rfl) ?_
              refine L_pu (P_pick true (vb true) (by exact congrArg Value.bool rfl) rfl) ?_
              refine L_pu (P_move (vb true) rfl) ?_
              refine L_pass (dj := 58) rfl rfl (.inl rfl) ?_
              refine L_pass (dj := 58) rfl rfl (.inl rfl) ?_
              refine L_pass (dj := 58) rfl rfl (.inl rfl) ?_
              refine L_pass (dj := 58) rfl rfl (.inl rfl) ?_
              refine L_pass (dj := 58) rfl rfl (.inl rfl) ?_
              refine L_pu (P_pick true (vb true) (by exact congrArg Value.bool rfl) rfl) ?_
              refine L_nil ?_
              refine W_ct (b := true) rfl rfl ?_
              refine W_seq ?_
              refine W_reg ?_
              refine L_pu (P_assign (vb false) rfl) ?_
              refine L_nil ?_
              refine W_ret ?_
              have hc93 := hc91.drop 0 rfl
              exact ⟨[vb false], ⟨_, rfl, rfl⟩, false, rfl, H, hc93.gr⟩
            · have H := ite_f H hq92
              refine L_run (dj := 46) rfl rfl (by exact congrArg Value.bool hq92) ?_
              refine L_pu (P_fa fa93_1 ⟨b74, 0, none⟩ ⟨b74, 1, none⟩ rfl rfl) ?_
              refine L_run (dj := 46) rfl rfl (by exact congrArg Value.bool hq92) ?_
              have h94 := (hx83.k0 g87)
              refine L_pu (P_ld ag91 cL ⟨b74, 1, none⟩ (.slice A67 n68 c69) rfl (h94.cell rfl)) ?_
              refine L_run (dj := 46) rfl rfl (by exact congrArg Value.bool hq92) ?_
              have h95 := (((h70.st (.own _ _ g75 (oge hl76))).st (.wl (L := [some b74]) (O := O) (j := 0) rfl g82)).st (.new _ g87))
              refine L_call go56 [.slice A67 n68 c69] rfl ((spec_SheetOk.calls w86 hc91.ok ((nth r.Commits i2).Sheet) A67 n68 c69 h95 _ H).mono ?_)
              rintro _ w96 ⟨r3, rfl, H, g97⟩
              have hc101 := hc91.k0 g97
              refine L_run (dj := 46) rfl rfl (by exact congrArg Value.bool hq92) ?_
              refine L_pu (P_not r3 rfl) ?_
              refine L_pu (P_pick false (vb (!r3)) (by exact congrArg Value.bool hq92) rfl) ?_
              refine L_pu (P_move (vb (!r3)) rfl) ?_
              rcases bool_or (!r3) with hq102 | hq102
              · have H := ite_t H hq102
                refine L_pass (dj := 52) rfl rfl (.inl (by exact congrArg Value.bool hq102)) ?_
                refine L_pass (dj := 52) rfl rfl (.inl (by exact congrArg Value.bool hq102)) ?_
                refine L_pass (dj := 52) rfl rfl (.inl (by exact congrArg Value.bool hq102)) ?_
                refine L_pass (dj := 52) rfl rfl (.inl (by exact congrArg Value.bool hq102)) ?_
                refine L_pu (P_pick true (vb true) (by exact congrArg Value.bool hq102) rfl) ?_
                refine L_pu (P_move (vb true) rfl) ?_
                refine L_pass (dj := 58) rfl rfl (.inl rfl) ?_
                refine L_pass (dj := 58) rfl rfl (.inl rfl) ?_
                refine L_pass (dj := 58) rfl rfl (.inl rfl) ?_
                refine L_pass (dj := 58) rfl rfl (.inl rfl) ?_
                refine L_pass (dj := 58) rfl rfl (.inl rfl) ?_
                refine L_pu (P_pick true (vb true) (by exact congrArg Value.bool rfl) rfl) ?_
                refine L_nil ?_
                refine W_ct (b := true) rfl rfl ?_
                refine W_seq ?_
                refine W_reg ?_
                refine L_pu (P_assign (vb false) rfl) ?_
                refine L_nil ?_
                refine W_ret ?_
                have hc103 := hc101.drop 0 rfl
                exact ⟨[vb false], ⟨_, rfl, rfl⟩, false, rfl, H, hc103.gr⟩
              · have H := ite_f H hq102
                refine L_run (dj := 52) rfl rfl (by exact congrArg Value.bool hq102) ?_
                refine L_pu (P_fa fa93_2 ⟨b74, 0, none⟩ ⟨b74, 2, none⟩ rfl rfl) ?_
                refine L_run (dj := 52) rfl rfl (by exact congrArg Value.bool hq102) ?_
                have h104 := (h94.k0 g97)
                refine L_pu (P_ld ag9 cL ⟨b74, 2, none⟩ (vs ((nth r.Commits i2).Note)) rfl (h104.cell rfl)) ?_
                refine L_run (dj := 52) rfl rfl (by exact congrArg Value.bool hq102) ?_
                refine L_call go57 [vs ((nth r.Commits i2).Note)] rfl ((spec_WordOk.calls w96 hc101.ok ((nth r.Commits i2).Note) hs72 _ H).mono ?_)
                rintro _ w105 ⟨r4, rfl, H, g106⟩
                have hc110 := hc101.k0 g106
                refine L_run (dj := 52) rfl rfl (by exact congrArg Value.bool hq102) ?_
                refine L_pu (P_not r4 rfl) ?_
                refine L_pu (P_pick false (vb (!r4)) (by exact congrArg Value.bool hq102) rfl) ?_
                refine L_pu (P_move (vb (!r4)) rfl) ?_
                rcases bool_or (!r4) with hq111 | hq111
                · have H := ite_t H hq111
                  refine L_pass (dj := 58) rfl rfl (.inl (by exact congrArg Value.bool hq111)) ?_
                  refine L_pass (dj := 58) rfl rfl (.inl (by exact congrArg Value.bool hq111)) ?_
                  refine L_pass (dj := 58) rfl rfl (.inl (by exact congrArg Value.bool hq111)) ?_
                  refine L_pass (dj := 58) rfl rfl (.inl (by exact congrArg Value.bool hq111)) ?_
                  refine L_pass (dj := 58) rfl rfl (.inl (by exact congrArg Value.bool hq111)) ?_
                  refine L_pu (P_pick true (vb true) (by exact congrArg Value.bool hq111) rfl) ?_
                  refine L_nil ?_
                  refine W_ct (b := true) rfl rfl ?_
                  refine W_seq ?_
                  refine W_reg ?_
                  refine L_pu (P_assign (vb false) rfl) ?_
                  refine L_nil ?_
                  refine W_ret ?_
                  have hc112 := hc110.drop 0 rfl
                  exact ⟨[vb false], ⟨_, rfl, rfl⟩, false, rfl, H, hc112.gr⟩
                · have H := ite_f H hq111
                  refine L_run (dj := 58) rfl rfl (by exact congrArg Value.bool hq111) ?_
                  have h113 := (((((h46.st (.own _ _ g75 (oge hl76))).st (.wl (L := [some b74]) (O := O) (j := 0) rfl g82)).st (.new _ g87)).st (.new _ g97)).st (.new _ g106))
                  refine L_pu (P_lda ag46 sz46 cL ⟨b12, 0, none⟩ [.slice A1 n2 c3, .slice A6 n7 c8] rfl rfl (h113.cells (off := 0) rfl)) ?_
                  refine L_run (dj := 58) rfl rfl (by exact congrArg Value.bool hq111) ?_
                  have h114 := (h104.k0 g106)
                  refine L_pu (P_lda ag93 sz93 cL ⟨b74, 0, none⟩ [.slice A62 n63 c64, .slice A67 n68 c69, vs ((nth r.Commits i2).Note)] rfl rfl (h114.cells (off := 0) rfl)) ?_
                  refine L_run (dj := 58) rfl rfl (by exact congrArg Value.bool hq111) ?_
                  have h115 := (((((h44.st (.own _ _ g75 (oge hl76))).st (.wl (L := [some b74]) (O := O) (j := 0) rfl g82)).st (.new _ g87)).st (.new _ g97)).st (.new _ g106))
                  have h116 := (((((h45.st (.own _ _ g75 (oge hl76))).st (.wl (L := [some b74]) (O := O) (j := 0) rfl g82)).st (.new _ g87)).st (.new _ g97)).st (.new _ g106))
                  have h117 := (((h85.st (.new _ g87)).st (.new _ g97)).st (.new _ g106))
                  have h118 := ((h95.st (.new _ g97)).st (.new _ g106))
                  refine L_call go58 [.agg #[.slice A1 n2 c3, .slice A6 n7 c8], .agg #[.slice A62 n63 c64, .slice A67 n68 c69, vs ((nth r.Commits i2).Note)]] rfl ((spec_l7Find.calls w105 hc110.ok r A1 n2 c3 A6 n7 c8 h115 h116 (nth r.Commits i2) A62 n63 c64 A67 n68 c69 h117 h118 hs72 _ H).mono ?_)
                  rintro _ w119 ⟨r5, rfl, H, g120⟩
                  have hc124 := hc110.k0 g120
                  refine L_run (dj := 58) rfl rfl (by exact congrArg Value.bool hq111) ?_
                  refine L_pu (P_move (vi i2) rfl) ?_
                  refine L_run (dj := 58) rfl rfl (by exact congrArg Value.bool hq111) ?_
                  refine L_pu (P_cmp r5 i2 (r5 != i2) rfl rfl rfl) ?_
                  refine L_pu (P_pick false (vb (r5 != i2)) (by exact congrArg Value.bool hq111) rfl) ?_
                  refine L_nil ?_
                  refine W_cond (r5 != i2) rfl (fun hq125 => ?_) (fun hq125 => ?_)
                  · have H := ite_t H hq125
                    refine W_seq ?_
                    refine W_reg ?_
                    refine L_pu (P_assign (vb false) rfl) ?_
                    refine L_nil ?_
                    refine W_ret ?_
                    have hc126 := hc124.drop 0 rfl
                    exact ⟨[vb false], ⟨_, rfl, rfl⟩, false, rfl, H, hc126.gr⟩
                  · have H := ite_f H hq125
                    refine W_skip ?_
                    refine W_reg ?_
                    refine L_pu (P_move (vi i2) rfl) ?_
                    obtain ⟨hb128, H⟩ := H
                    have hi127 : I64 (i2 + 1) := i64_succ (of_decide_eq_true hq54) hl53 hb128
                    refine L_pu (P_add i2 1 rfl rfl hi127) ?_
                    refine L_pu (P_assign (vi (i2 + 1)) rfl) ?_
                    refine L_nil ?_
                    have hc129 := hc124.drop 0 rfl
                    obtain ⟨hI130, hm131⟩ := H
                    have h132 := ((h115.st (.new _ g120)).st (.dr _ (L := [some b74]) (O := O) (j := 0) rfl))
                    have h133 := ((h116.st (.new _ g120)).st (.dr _ (L := [some b74]) (O := O) (j := 0) rfl))
                    have h134 := ((h113.st (.new _ g120)).st (.dr _ (L := [some b74]) (O := O) (j := 0) rfl))
                    exact ⟨i2 + 1, hm131, hI130, ⟨rfl, rfl, trivial⟩, hc129, h132, h133, h134⟩
          · have H := ite_f H hq54
            refine W_exit (xin_hit ?_)
            refine W_seq ?_
            refine W_seq ?_
            refine W_reg ?_
            refine L_pu (P_assign (vi 0) rfl) ?_
            refine L_nil ?_
            refine W_block ?_
            obtain ⟨I156, mu157, hI158, H⟩ := H
            refine W_loop (α := Int) (fun (sv__ : Int) t w149 => match sv__ with | i4 => I156 i4 ∧ Has t [(1, .pointer (some ⟨b12, 0, none⟩)), (5, vi i4)] ∧ Ct none w0 w149 [] O ∧ Sl kCommit w149 (Fr ([] ++ O)) (.slice A1 n2 c3) r.Commits ∧ Sl kHead w149 (Fr ([] ++ O)) (.slice A6 n7 c8) r.Heads ∧ Fb w149 ([] ++ O) b12 [.slice A1 n2 c3, .slice A6 n7 c8]) (fun (sv__ : Int) => match sv__ with | i4 => mu157 i4) 0 ⟨hI158, ⟨rfl, rfl, trivial⟩, hc43, h44, h45, h46⟩ ?_
            rintro i4 _ w149 ⟨hI158, hh160, hc152, h153, h154, h155⟩
            obtain ⟨u161, rfl⟩ := Has.ins hh160
            have H := H i4 hI158
            refine W_seq ?_
            refine W_seq ?_
            refine W_reg ?_
            refine L_pu (P_move (vi i4) rfl) ?_
            refine L_pu (P_fa fa46_1 ⟨b12, 0, none⟩ ⟨b12, 1, none⟩ rfl rfl) ?_
            refine L_pu (P_ld ag44 cL ⟨b12, 1, none⟩ (.slice A6 n7 c8) rfl (h155.cell rfl)) ?_
            have hl162 := h154.le
            refine L_pu (P_len Try.underlying44 A6 n7 c8 h154.len rfl) ?_
            refine L_pu (P_cmp i4 (r.Heads.length : Int) (decide (i4 < (r.Heads.length : Int))) rfl rfl rfl) ?_
            refine L_nil ?_
            refine W_cond (decide (i4 < (r.Heads.length : Int))) rfl (fun hq163 => ?_) (fun hq163 => ?_)
            · have H := ite_t H hq163
              refine W_skip ?_
              refine W_seq ?_
              refine W_block ?_
              refine W_seq ?_
              refine W_reg ?_
              refine L_pu (P_fa fa46_1 ⟨b12, 0, none⟩ ⟨b12, 1, none⟩ rfl rfl) ?_
              refine L_pu (P_ld ag44 cL ⟨b12, 1, none⟩ (.slice A6 n7 c8) rfl (h155.cell rfl)) ?_
              refine L_pu (P_move (vi i4) rfl) ?_
              obtain ⟨hb164, H⟩ := H
              obtain ⟨ad165, cs166, hA167, hS170, hR168, hcl169⟩ := h154.get default (by decide) i4 hb164
              obtain ⟨rfl, hs171⟩ := kHead.op hR168
              refine L_pu (P_ia Try.underlying44 se44 A6 ad165 n7 c8 h154.len i4 rfl hA167 rfl hb164) ?_
              refine L_pu (P_lda ag95 sz95 cL (ad165.add (i4.toNat * 2)) [vs ((nth r.Heads i4).Name), vi ((nth r.Heads i4).At)] rfl rfl hcl169) ?_
              refine L_alloc [vs [], .int .i64 0] ze95 fun w172 b173 hl175 hu176 g174 hx177 => ?_
              have hc179 := hc152.own g174 (some b173) (oglt hl175 hu176)
              refine L_stb b173 0 [vs ([] : Str), vi 0] [vs ((nth r.Heads i4).Name), vi ((nth r.Heads i4).At)] [vs ((nth r.Heads i4).Name), vi ((nth r.Heads i4).At)] rfl hx177 rfl sz95 rfl rfl rfl fun w180 g181 hx182 => ?_
              have hc183 := hc179.wr 0 rfl g181
              refine L_nil ?_
              refine W_seq ?_
              refine W_reg ?_
              refine L_pu (P_fa fa95_0 ⟨b173, 0, none⟩ ⟨b173, 0, none⟩ rfl rfl) ?_
              refine L_pu (P_ld ag9 cL ⟨b173, 0, none⟩ (vs ((nth r.Heads i4).Name)) rfl (hx182.cell rfl)) ?_
              refine L_call go57 [vs ((nth r.Heads i4).Name)] rfl ((spec_WordOk.calls w180 hc183.ok ((nth r.Heads i4).Name) hs171 _ H).mono ?_)
              rintro _ w184 ⟨r6, rfl, H, g185⟩
              have hc189 := hc183.k0 g185
              refine L_pu (P_not r6 rfl) ?_
              refine L_pu (P_move (vb (!r6)) rfl) ?_
              rcases bool_or (!r6) with hq190 | hq190
              · have H := ite_t H hq190
                refine L_pass (dj := 81) rfl rfl (.inl (by exact congrArg Value.bool hq190)) ?_
                refine L_pass (dj := 81) rfl rfl (.inl (by exact congrArg Value.bool hq190)) ?_
                refine L_pass (dj := 81) rfl rfl (.inl (by exact congrArg Value.bool hq190)) ?_
                refine L_pass (dj := 81) rfl rfl (.inl (by exact congrArg Value.bool hq190)) ?_
                refine L_pass (dj := 81) rfl rfl (.inl (by exact congrArg Value.bool hq190)) ?_
                refine L_pass (dj := 81) rfl rfl (.inl (by exact congrArg Value.bool hq190)) ?_
                refine L_pu (P_pick true (vb true) (by exact congrArg Value.bool hq190) rfl) ?_
                refine L_pu (P_move (vb true) rfl) ?_
                refine L_pass (dj := 89) rfl rfl (.inl rfl) ?_
                refine L_pass (dj := 89) rfl rfl (.inl rfl) ?_
                refine L_pass (dj := 89) rfl rfl (.inl rfl) ?_
                refine L_pu (P_pick true (vb true) (by exact congrArg Value.bool rfl) rfl) ?_
                refine L_pu (P_move (vb true) rfl) ?_
                refine L_pass (dj := 94) rfl rfl (.inl rfl) ?_
                refine L_pass (dj := 94) rfl rfl (.inl rfl) ?_
                refine L_pass (dj := 94) rfl rfl (.inl rfl) ?_
                refine L_pass (dj := 94) rfl rfl (.inl rfl) ?_
                refine L_pass (dj := 94) rfl rfl (.inl rfl) ?_
                refine L_pass (dj := 94) rfl rfl (.inl rfl) ?_
                refine L_pu (P_pick true (vb true) (by exact congrArg Value.bool rfl) rfl) ?_
                refine L_nil ?_
                refine W_ct (b := true) rfl rfl ?_
                refine W_seq ?_
                refine W_reg ?_
                refine L_pu (P_assign (vb false) rfl) ?_
                refine L_nil ?_
                refine W_ret ?_
                have hc191 := hc189.drop 0 rfl
                exact ⟨[vb false], ⟨_, rfl, rfl⟩, false, rfl, H, hc191.gr⟩
              · have H := ite_f H hq190
                refine L_run (dj := 81) rfl rfl (by exact congrArg Value.bool hq190) ?_
                have h192 := (((h155.st (.own _ _ g174 (oge hl175))).st (.wl (L := [some b173]) (O := O) (j := 0) rfl g181)).st (.new _ g185))
                refine L_pu (P_lda ag46 sz46 cL ⟨b12, 0, none⟩ [.slice A1 n2 c3, .slice A6 n7 c8] rfl rfl (h192.cells (off := 0) rfl)) ?_
                refine L_run (dj := 81) rfl rfl (by exact congrArg Value.bool hq190) ?_
                refine L_pu (P_fa fa95_0 ⟨b173, 0, none⟩ ⟨b173, 0, none⟩ rfl rfl) ?_
                refine L_run (dj := 81) rfl rfl (by exact congrArg Value.bool hq190) ?_
                have h193 := (hx182.k0 g185)
                refine L_pu (P_ld ag9 cL ⟨b173, 0, none⟩ (vs ((nth r.Heads i4).Name)) rfl (h193.cell rfl)) ?_
                refine L_run (dj := 81) rfl rfl (by exact congrArg Value.bool hq190) ?_
                have h194 := (((h153.st (.own _ _ g174 (oge hl175))).st (.wl (L := [some b173]) (O := O) (j := 0) rfl g181)).st (.new _ g185))
                have h195 := (((h154.st (.own _ _ g174 (oge hl175))).st (.wl (L := [some b173]) (O := O) (j := 0) rfl g181)).st (.new _ g185))
                refine L_call go59 [.agg #[.slice A1 n2 c3, .slice A6 n7 c8], vs ((nth r.Heads i4).Name)] rfl ((spec_l7Head.calls w184 hc189.ok r A1 n2 c3 A6 n7 c8 h194 h195 ((nth r.Heads i4).Name) hs171 _ H).mono ?_)
                rintro _ w196 ⟨r7, rfl, H, g197⟩
                have hc201 := hc189.k0 g197
                refine L_run (dj := 81) rfl rfl (by exact congrArg Value.bool hq190) ?_
                refine L_pu (P_move (vi i4) rfl) ?_
                refine L_run (dj := 81) rfl rfl (by exact congrArg Value.bool hq190) ?_
                refine L_pu (P_cmp r7 i4 (r7 != i4) rfl rfl rfl) ?_
                refine L_pu (P_pick false (vb (r7 != i4)) (by exact congrArg Value.bool hq190) rfl) ?_
                refine L_pu (P_move (vb (r7 != i4)) rfl) ?_
                rcases bool_or (r7 != i4) with hq202 | hq202
                · have H := ite_t H hq202
                  refine L_pass (dj := 89) rfl rfl (.inl (by exact congrArg Value.bool hq202)) ?_
                  refine L_pass (dj := 89) rfl rfl (.inl (by exact congrArg Value.bool hq202)) ?_
                  refine L_pass (dj := 89) rfl rfl (.inl (by exact congrArg Value.bool hq202)) ?_
                  refine L_pu (P_pick true (vb true) (by exact congrArg Value.bool hq202) rfl) ?_
                  refine L_pu (P_move (vb true) rfl) ?_
                  refine L_pass (dj := 94) rfl rfl (.inl rfl) ?_
                  refine L_pass (dj := 94) rfl rfl (.inl rfl) ?_
                  refine L_pass (dj := 94) rfl rfl (.inl rfl) ?_
                  refine L_pass (dj := 94) rfl rfl (.inl rfl) ?_
                  refine L_pass (dj := 94) rfl rfl (.inl rfl) ?_
                  refine L_pass (dj := 94) rfl rfl (.inl rfl) ?_
                  refine L_pu (P_pick true (vb true) (by exact congrArg Value.bool rfl) rfl) ?_
                  refine L_nil ?_
                  refine W_ct (b := true) rfl rfl ?_
                  refine W_seq ?_
                  refine W_reg ?_
                  refine L_pu (P_assign (vb false) rfl) ?_
                  refine L_nil ?_
                  refine W_ret ?_
                  have hc203 := hc201.drop 0 rfl
                  exact ⟨[vb false], ⟨_, rfl, rfl⟩, false, rfl, H, hc203.gr⟩
                · have H := ite_f H hq202
                  refine L_run (dj := 89) rfl rfl (by exact congrArg Value.bool hq202) ?_
                  refine L_pu (P_fa fa95_1 ⟨b173, 0, none⟩ ⟨b173, 1, none⟩ rfl rfl) ?_
                  refine L_run (dj := 89) rfl rfl (by exact congrArg Value.bool hq202) ?_
                  have h204 := (h193.k0 g197)
                  refine L_pu (P_ld ag3 cL ⟨b173, 1, none⟩ (vi ((nth r.Heads i4).At)) rfl (h204.cell rfl)) ?_
                  refine L_run (dj := 89) rfl rfl (by exact congrArg Value.bool hq202) ?_
                  refine L_pu (P_cmp ((nth r.Heads i4).At) 0 (decide ((nth r.Heads i4).At < 0)) rfl rfl rfl) ?_
                  refine L_pu (P_pick false (vb (decide ((nth r.Heads i4).At < 0))) (by exact congrArg Value.bool hq202) rfl) ?_
                  refine L_pu (P_move (vb (decide ((nth r.Heads i4).At < 0))) rfl) ?_
                  rcases bool_or (decide ((nth r.Heads i4).At < 0)) with hq205 | hq205
                  · have H := ite_t H hq205
                    refine L_pass (dj := 94) rfl rfl (.inl (by exact congrArg Value.bool hq205)) ?_
                    refine L_pass (dj := 94) rfl rfl (.inl (by exact congrArg Value.bool hq205)) ?_
                    refine L_pass (dj := 94) rfl rfl (.inl (by exact congrArg Value.bool hq205)) ?_
                    refine L_pass (dj := 94) rfl rfl (.inl (by exact congrArg Value.bool hq205)) ?_
                    refine L_pass (dj := 94) rfl rfl (.inl (by exact congrArg Value.bool hq205)) ?_
                    refine L_pass (dj := 94) rfl rfl (.inl (by exact congrArg Value.bool hq205)) ?_
                    refine L_pu (P_pick true (vb true) (by exact congrArg Value.bool hq205) rfl) ?_
                    refine L_nil ?_
                    refine W_ct (b := true) rfl rfl ?_
                    refine W_seq ?_
                    refine W_reg ?_
                    refine L_pu (P_assign (vb false) rfl) ?_
                    refine L_nil ?_
                    refine W_ret ?_
                    have hc206 := hc201.drop 0 rfl
                    exact ⟨[vb false], ⟨_, rfl, rfl⟩, false, rfl, H, hc206.gr⟩
                  · have H := ite_f H hq205
                    refine L_run (dj := 94) rfl rfl (by exact congrArg Value.bool hq205) ?_
                    refine L_pu (P_fa fa95_1 ⟨b173, 0, none⟩ ⟨b173, 1, none⟩ rfl rfl) ?_
                    refine L_run (dj := 94) rfl rfl (by exact congrArg Value.bool hq205) ?_
                    refine L_pu (P_ld ag3 cL ⟨b173, 1, none⟩ (vi ((nth r.Heads i4).At)) rfl (h204.cell rfl)) ?_
                    refine L_run (dj := 94) rfl rfl (by exact congrArg Value.bool hq205) ?_
                    refine L_pu (P_fa fa46_0 ⟨b12, 0, none⟩ ⟨b12, 0, none⟩ rfl rfl) ?_
                    refine L_run (dj := 94) rfl rfl (by exact congrArg Value.bool hq205) ?_
                    have h207 := (h192.st (.new _ g197))
                    refine L_pu (P_ld ag43 cL ⟨b12, 0, none⟩ (.slice A1 n2 c3) rfl (h207.cell rfl)) ?_
                    refine L_run (dj := 94) rfl rfl (by exact congrArg Value.bool hq205) ?_
                    have hl208 := (h194.st (.new _ g197)).le
                    refine L_pu (P_len Try.underlying43 A1 n2 c3 (h194.st (.new _ g197)).len rfl) ?_
                    refine L_run (dj := 94) rfl rfl (by exact congrArg Value.bool hq205) ?_
                    refine L_pu (P_cmp ((nth r.Heads i4).At) (r.Commits.length : Int) (decide ((nth r.Heads i4).At ≥ (r.Commits.length : Int))) rfl rfl rfl) ?_
                    refine L_pu (P_pick false (vb (decide ((nth r.Heads i4).At ≥ (r.Commits.length : Int)))) (by exact congrArg Value.bool hq205) rfl) ?_
                    refine L_nil ?_
                    refine W_cond (decide ((nth r.Heads i4).At ≥ (r.Commits.length : Int))) rfl (fun hq209 => ?_) (fun hq209 => ?_)
                    · have H := ite_t H hq209
                      refine W_seq ?_
                      refine W_reg ?_
                      refine L_pu (P_assign (vb false) rfl) ?_
                      refine L_nil ?_
                      refine W_ret ?_
                      have hc210 := hc201.drop 0 rfl
                      exact ⟨[vb false], ⟨_, rfl, rfl⟩, false, rfl, H, hc210.gr⟩
                    · have H := ite_f H hq209
                      refine W_skip ?_
                      refine W_reg ?_
                      refine L_pu (P_move (vi i4) rfl) ?_
                      obtain ⟨hb212, H⟩ := H
                      have hi211 : I64 (i4 + 1) := i64_succ (of_decide_eq_true hq163) hl162 hb212
                      refine L_pu (P_add i4 1 rfl rfl hi211) ?_
                      refine L_pu (P_assign (vi (i4 + 1)) rfl) ?_
                      refine L_nil ?_
                      have hc213 := hc201.drop 0 rfl
                      obtain ⟨hI214, hm215⟩ := H
                      have h216 := ((h194.st (.new _ g197)).st (.dr _ (L := [some b173]) (O := O) (j := 0) rfl))
                      have h217 := ((h195.st (.new _ g197)).st (.dr _ (L := [some b173]) (O := O) (j := 0) rfl))
                      have h218 := (h207.st (.dr _ (L := [some b173]) (O := O) (j := 0) rfl))
                      exact ⟨i4 + 1, hm215, hI214, ⟨rfl, rfl, trivial⟩, hc213, h216, h217, h218⟩
            · have H := ite_f H hq163
              refine W_exit (xin_hit ?_)
              refine W_seq ?_
              refine W_reg ?_
              refine L_pu (P_assign (vb true) rfl) ?_
              refine L_nil ?_
              refine W_ret ?_
              exact ⟨[vb true], ⟨_, rfl, rfl⟩, true, rfl, H, hc152.gr⟩
end Go.Proofs.Ythkeboifjlnjjaa

namespace Go.Proofs.Ythkeboifjlnjjaa
set_option linter.unusedVariables false
set_option linter.unusedSimpArgs false
set_option linter.unusedSectionVars false
theorem spec_RepoOk.law (r : Repo) (Q : Bool → Prop) (hq : Q (repoOk r)) : spec_RepoOk.E r Q := by
  unfold spec_RepoOk.E
  unfold repoOk at hq
  by_cases h1 : 1 ≤ r.Commits.length
  case neg => rw [if_pos (by rw [decide_eq_true_eq]; omega)]; rw [decide_eq_false h1] at hq; exact hq
  rw [if_neg (by rw [decide_eq_true_eq]; omega)]
  by_cases h2 : r.Commits.length ≤ 14
  case neg => rw [if_pos (by rw [decide_eq_true_eq]; omega)]; rw [decide_eq_false h2, Bool.and_false] at hq; exact hq
  rw [if_neg (by rw [decide_eq_true_eq]; omega)]
  by_cases h3 : 1 ≤ r.Heads.length
  case neg => rw [if_pos (by rw [decide_eq_true_eq]; omega)]; rw [decide_eq_false h3, Bool.false_and, Bool.and_false] at hq; exact hq
  rw [if_neg (by rw [decide_eq_true_eq]; omega)]
  by_cases h4 : r.Heads.length ≤ 4
  case neg => rw [if_pos (by rw [decide_eq_true_eq]; omega)]; rw [decide_eq_false h4, Bool.and_false, Bool.and_false] at hq; exact hq
  rw [if_neg (by rw [decide_eq_true_eq]; omega)]
  rw [decide_eq_true h1, decide_eq_true h2, decide_eq_true h3, decide_eq_true h4, Bool.and_self, Bool.and_self, Bool.true_and] at hq
  refine loop_all r.Commits.length (fun k => sheetOk (nth r.Commits (k : Int)).Sheet && wordOk (nth r.Commits (k : Int)).Note && decide (findCommit r (nth r.Commits (k : Int)) = (k : Int)) && upOk (nth r.Commits (k : Int)).Up k) (fun I mu k hk hp hn => ?_) (fun ha => ?_)
  · have bad : (sheetOk (nth r.Commits (k : Int)).Sheet && wordOk (nth r.Commits (k : Int)).Note && decide (findCommit r (nth r.Commits (k : Int)) = (k : Int)) && upOk (nth r.Commits (k : Int)).Up k) = false → Q false := fun h => by
      rw [allN_false hk h, Bool.false_and] at hq; exact hq
    refine ⟨by omega, spec_l7Up.law _ _ _ ?_⟩
    cases a1 : upOk (nth r.Commits (k : Int)).Up k with
    | false => rw [if_pos (by decide)]; exact bad (by rw [a1, Bool.and_false])
    | true =>
      rw [if_neg (by decide)]
      refine spec_SheetOk.law _ _ ?_
      cases a2 : sheetOk (nth r.Commits (k : Int)).Sheet with
      | false => rw [if_pos (by decide)]; exact bad (by rw [a2]; rfl)
      | true =>
        rw [if_neg (by decide)]
        refine spec_WordOk.law _ _ ?_
        cases a3 : wordOk (nth r.Commits (k : Int)).Note with
        | false => rw [if_pos (by decide)]; exact bad (by rw [a3, Bool.and_false]; rfl)
        | true =>
          rw [if_neg (by decide)]
          refine spec_l7Find.law _ _ _ ?_
          by_cases a4 : findCommit r (nth r.Commits (k : Int)) = (k : Int)
          · rw [if_neg (by rw [bne_iff_ne]; exact fun h => h a4)]
            obtain ⟨i1, i2⟩ := hn (by rw [a1, a2, a3, decide_eq_true a4]; rfl)
            exact ⟨by omega, i1, i2⟩
          · rw [if_pos (by rw [bne_iff_ne]; exact a4)]
            exact bad (by rw [decide_eq_false a4, Bool.and_false]; rfl)
  · rw [allN_true ha, Bool.true_and] at hq
    refine loop_all r.Heads.length (fun k => wordOk (nth r.Heads (k : Int)).Name && decide (findHead r (nth r.Heads (k : Int)).Name = (k : Int)) && (decide (0 ≤ (nth r.Heads (k : Int)).At) && decide ((nth r.Heads (k : Int)).At < (r.Commits.length : Int)))) (fun I mu k hk hp hn => ?_) (fun ha => ?_)
    · have bad : (wordOk (nth r.Heads (k : Int)).Name && decide (findHead r (nth r.Heads (k : Int)).Name = (k : Int)) && (decide (0 ≤ (nth r.Heads (k : Int)).At) && decide ((nth r.Heads (k : Int)).At < (r.Commits.length : Int)))) = false → Q false := fun h => by
        rw [allN_false hk h] at hq; exact hq
      refine ⟨by omega, spec_WordOk.law _ _ ?_⟩
      cases a1 : wordOk (nth r.Heads (k : Int)).Name with
      | false => rw [if_pos (by decide)]; exact bad (by rw [a1]; rfl)
      | true =>
        rw [if_neg (by decide)]
        refine spec_l7Head.law _ _ _ ?_
        by_cases a2 : findHead r (nth r.Heads (k : Int)).Name = (k : Int)
        · rw [if_neg (by rw [bne_iff_ne]; exact fun h => h a2)]
          by_cases a3 : 0 ≤ (nth r.Heads (k : Int)).At
          · rw [if_neg (by rw [decide_eq_true_eq]; omega)]
            by_cases a4 : (nth r.Heads (k : Int)).At < (r.Commits.length : Int)
            · rw [if_neg (by rw [decide_eq_true_eq]; omega)]
              obtain ⟨i1, i2⟩ := hn (by rw [a1, decide_eq_true a2, decide_eq_true a3, decide_eq_true a4]; rfl)
              exact ⟨by omega, i1, i2⟩
            · rw [if_pos (by rw [decide_eq_true_eq]; omega)]
              exact bad (by rw [decide_eq_false a4, Bool.and_false, Bool.and_false])
          · rw [if_pos (by rw [decide_eq_true_eq]; omega)]
            exact bad (by rw [decide_eq_false a3, Bool.false_and, Bool.and_false])
        · rw [if_pos (by rw [bne_iff_ne]; exact a2)]
          exact bad (by rw [decide_eq_false a2, Bool.and_false]; rfl)
    · rw [allN_true ha] at hq; exact hq
end Go.Proofs.Ythkeboifjlnjjaa

namespace Go.Proofs.Ythkeboifjlnjjaa
open Go.RowKit
set_option linter.unusedVariables false
def spec_l7In.E (r : Repo) (at_ : Int) (Q : Bool → Prop) : Prop :=
  spec_RepoOk.E r (fun r2 => (if r2 then (if decide (at_ ≥ 0) then Q (decide (at_ < (r.Commits.length : Int))) else Q false) else Q false))
set_option maxHeartbeats 8000000 in
set_option maxRecDepth 100000 in
theorem spec_l7In.calls {O : Ob} (w0 : World) (hO : Ok w0 O) (r : Repo) (A1 : Option Addr) (n2 c3 : Nat) (A6 : Option Addr) (n7 c8 : Nat) (hp4 : Sl kCommit w0 (Fr O) (.slice A1 n2 c3) r.Commits) (hp9 : Sl kHead w0 (Fr O) (.slice A6 n7 c8) r.Heads) (at_ : Int) (Q : Bool → Prop) (h : spec_l7In.E r at_ Q) :
    Ret Try.prog 66 [.agg #[.slice A1 n2 c3, .slice A6 n7 c8], vi at_] w0 (fun v w' => ∃ (r0 : Bool), v = vb r0 ∧ Q r0 ∧ Gr w0 w' none) := by
  have H : spec_RepoOk.E r (fun r2 => (if r2 then (if decide (at_ ≥ 0) then Q (decide (at_ < (r.Commits.length : Int))) else Q false) else Q false)) := h
  clear h
  have hc0 := Ct.init hO
  refine Ret_enter Try.func66 rfl 18 rfl [.tmp 4] rfl rfl ?_
  refine W_seq ?_
  refine W_reg ?_
  refine L_box [.slice A1 n2 c3, .slice A6 n7 c8] rfl fun w11 b12 hl14 hu15 g13 hx16 => ?_
  have h18 := Fb.mk hc0.ok hl14 hx16
  have hc19 := hc0.k0 g13
  refine L_pu (P_assign (vb false) rfl) ?_
  refine L_nil ?_
  refine W_seq ?_
  refine W_reg ?_
  refine L_pu (P_lda ag46 sz46 cL ⟨b12, 0, none⟩ [.slice A1 n2 c3, .slice A6 n7 c8] rfl rfl (h18.cells (off := 0) rfl)) ?_
  refine L_call go23 [.agg #[.slice A1 n2 c3, .slice A6 n7 c8]] rfl ((spec_RepoOk.calls w11 hc19.ok r A1 n2 c3 A6 n7 c8 (hp4.st hc19.st) (hp9.st hc19.st) _ H).mono ?_)
  rintro _ w20 ⟨r2, rfl, H, g21⟩
  have hc25 := hc19.k0 g21
  refine L_pu (P_move (vb r2) rfl) ?_
  rcases bool_or r2 with hq26 | hq26
  · have H := ite_t H hq26
    refine L_run (dj := 7) rfl rfl (by exact congrArg Value.bool hq26) ?_
    refine L_pu (P_move (vi at_) rfl) ?_
    refine L_run (dj := 7) rfl rfl (by exact congrArg Value.bool hq26) ?_
    refine L_pu (P_cmp at_ 0 (decide (at_ ≥ 0)) rfl rfl rfl) ?_
    refine L_pu (P_pick true (vb (decide (at_ ≥ 0))) (by exact congrArg Value.bool hq26) rfl) ?_
    refine L_pu (P_move (vb (decide (at_ ≥ 0))) rfl) ?_
    rcases bool_or (decide (at_ ≥ 0)) with hq27 | hq27
    · have H := ite_t H hq27
      refine L_run (dj := 11) rfl rfl (by exact congrArg Value.bool hq27) ?_
      refine L_pu (P_move (vi at_) rfl) ?_
      refine L_run (dj := 11) rfl rfl (by exact congrArg Value.bool hq27) ?_
      refine L_pu (P_fa fa46_0 ⟨b12, 0, none⟩ ⟨b12, 0, none⟩ rfl rfl) ?_
      refine L_run (dj := 11) rfl rfl (by exact congrArg Value.bool hq27) ?_
      have h28 := (h18.st (.new _ g21))
      refine L_pu (P_ld ag43 cL ⟨b12, 0, none⟩ (.slice A1 n2 c3) rfl (h28.cell rfl)) ?_
      refine L_run (dj := 11) rfl rfl (by exact congrArg Value.bool hq27) ?_
      have hl29 := (hp4.st hc25.st).le
      refine L_pu (P_len Try.underlying43 A1 n2 c3 (hp4.st hc25.st).len rfl) ?_
      refine L_run (dj := 11) rfl rfl (by exact congrArg Value.bool hq27) ?_
      refine L_pu (P_cmp at_ (r.Commits.length : Int) (decide (at_ < (r.Commits.length : Int))) rfl rfl rfl) ?_
      refine L_pu (P_pick true (vb (decide (at_ < (r.Commits.length : Int)))) (by exact congrArg Value.bool hq27) rfl) ?_
      refine L_pu (P_assign (vb (decide (at_ < (r.Commits.length : Int)))) rfl) ?_
      refine L_nil ?_
      refine W_ret ?_
      exact ⟨[vb (decide (at_ < (r.Commits.length : Int)))], ⟨_, rfl, rfl⟩, decide (at_ < (r.Commits.length : Int)), rfl, H, hc25.gr⟩
    · have H := ite_f H hq27
      refine L_pass (dj := 11) rfl rfl (.inl (by exact congrArg Value.bool hq27)) ?_
      refine L_pass (dj := 11) rfl rfl (.inl (by exact congrArg Value.bool hq27)) ?_
      refine L_pass (dj := 11) rfl rfl (.inl (by exact congrArg Value.bool hq27)) ?_
      refine L_pass (dj := 11) rfl rfl (.inl (by exact congrArg Value.bool hq27)) ?_
      refine L_pass (dj := 11) rfl rfl (.inl (by exact congrArg Value.bool hq27)) ?_
      refine L_pu (P_pick false (vb false) (by exact congrArg Value.bool hq27) rfl) ?_
      refine L_pu (P_assign (vb false) rfl) ?_
      refine L_nil ?_
      refine W_ret ?_
      exact ⟨[vb false], ⟨_, rfl, rfl⟩, false, rfl, H, hc25.gr⟩
  · have H := ite_f H hq26
    refine L_pass (dj := 7) rfl rfl (.inl (by exact congrArg Value.bool hq26)) ?_
    refine L_pass (dj := 7) rfl rfl (.inl (by exact congrArg Value.bool hq26)) ?_
    refine L_pu (P_pick false (vb false) (by exact congrArg Value.bool hq26) rfl) ?_
    refine L_pu (P_move (vb false) rfl) ?_
    refine L_pass (dj := 11) rfl rfl (.inl rfl) ?_
    refine L_pass (dj := 11) rfl rfl (.inl rfl) ?_
    refine L_pass (dj := 11) rfl rfl (.inl rfl) ?_
    refine L_pass (dj := 11) rfl rfl (.inl rfl) ?_
    refine L_pass (dj := 11) rfl rfl (.inl rfl) ?_
    refine L_pu (P_pick false (vb false) (by exact congrArg Value.bool rfl) rfl) ?_
    refine L_pu (P_assign (vb false) rfl) ?_
    refine L_nil ?_
    refine W_ret ?_
    exact ⟨[vb false], ⟨_, rfl, rfl⟩, false, rfl, H, hc25.gr⟩
end Go.Proofs.Ythkeboifjlnjjaa

namespace Go.Proofs.Ythkeboifjlnjjaa
set_option linter.unusedVariables false
set_option linter.unusedSimpArgs false
set_option linter.unusedSectionVars false
def stepUp (up : List Int) (m : List Bool) : List Bool := up.foldl (fun m u => m.set u.toNat true) m
theorem stepUp_len (up : List Int) (m : List Bool) : (stepUp up m).length = m.length := by
  unfold stepUp
  induction up generalizing m with
  | nil => rfl
  | cons u up ih => rw [List.foldl_cons, ih, List.length_set]
theorem stepUp_take (up : List Int) (m : List Bool) {k : Nat} (h : k < up.length) : stepUp (up.take (k + 1)) m = (stepUp (up.take k) m).set (nth up (k : Int)).toNat true := by
  unfold stepUp; rw [take_nth up h, List.foldl_append]; rfl
theorem stepUp_nth (up : List Int) (m : List Bool) (i : Nat) (h : ∀ u ∈ up, u.toNat < i) : nth (stepUp up m) (i : Int) = nth m (i : Int) := by
  unfold stepUp
  induction up generalizing m with
  | nil => rfl
  | cons u up ih =>
    rw [List.foldl_cons, ih _ (fun x hx => h x (List.mem_cons_of_mem _ hx))]
    by_cases hl : u.toNat < m.length
    · rw [nth_set _ hl, if_neg (by have := h u List.mem_cons_self; omega)]
    · rw [List.set_eq_of_length_le (by omega)]
/-- what is ahead, from a place back to the first -/
def back (r : Repo) : Nat → List Bool → List Bool
  | 0, m => m
  | k + 1, m => back r k (if nth m (k : Int) then stepUp (nth r.Commits (k : Int)).Up m else m)
theorem back_len (r : Repo) (k : Nat) (m : List Bool) : (back r k m).length = m.length := by
  induction k generalizing m with
  | zero => rfl
  | succ k ih => rw [back, ih]; split <;> simp [stepUp_len]
theorem back_skip (r : Repo) (m : List Bool) (a : Nat) (n : Nat) (h : ∀ i : Nat, a ≤ i → i < a + n → nth m (i : Int) = false) : back r (a + n) m = back r a m := by
  induction n with
  | zero => rfl
  | succ n ih =>
    rw [show a + (n + 1) = (a + n) + 1 by omega, back, h (a + n) (by omega) (by omega), if_neg (by decide)]
    exact ih fun i hi hj => h i hi (by omega)
def pastOf (r : Repo) (b : Nat) : List Bool := back r (b + 1) ((List.replicate r.Commits.length false).set b true)
theorem pastOf_len (r : Repo) (b : Nat) : (pastOf r b).length = r.Commits.length := by unfold pastOf; rw [back_len]; simp
theorem pastOf_all (r : Repo) {b : Nat} (h : b < r.Commits.length) : back r r.Commits.length ((List.replicate r.Commits.length false).set b true) = pastOf r b := by
  unfold pastOf
  have := back_skip r ((List.replicate r.Commits.length false).set b true) (b + 1) (r.Commits.length - (b + 1)) fun i hi hj => by
    rw [nth_set _ (by simpa using h), if_neg (by omega), nth_rep _ _ _ (by omega)]
  rw [← this]; congr 1; omega
/-- what is ahead of a version stands ahead of it -/
theorem repoOk_up {r : Repo} (h : repoOk r = true) {k : Nat} (hk : k < r.Commits.length) : ∀ u ∈ (nth r.Commits (k : Int)).Up, 0 ≤ u ∧ u < (k : Int) := by
  unfold repoOk at h
  simp only [Bool.and_eq_true] at h
  have h1 := allN_iff.1 h.1.2 k hk
  simp only [Bool.and_eq_true] at h1
  have h2 := h1.2
  unfold upOk at h2
  rw [Bool.and_eq_true] at h2
  intro u hu
  obtain ⟨j, hj, e⟩ := mem_nth hu
  have h3 := allN_iff.1 h2.2 j hj
  unfold inUp at h3
  simp only [Bool.and_eq_true, decide_eq_true_eq] at h3
  rw [← e]; exact h3.1
theorem repoOk_len {r : Repo} (h : repoOk r = true) : r.Commits.length ≤ 14 := by
  unfold repoOk at h
  simp only [Bool.and_eq_true, decide_eq_true_eq] at h
  exact h.1.1.1.2
end Go.Proofs.Ythkeboifjlnjjaa

namespace Go.Proofs.Ythkeboifjlnjjaa
set_option linter.unusedVariables false
set_option linter.unusedSimpArgs false
set_option linter.unusedSectionVars false
def verIn (r : Repo) (k : Int) : Bool := repoOk r && (decide (0 ≤ k) && decide (k < (r.Commits.length : Int)))
def ahead (r : Repo) (a b : Int) : Bool := verIn r a && verIn r b && nth (pastOf r b.toNat) a
end Go.Proofs.Ythkeboifjlnjjaa

namespace Go.Proofs.Ythkeboifjlnjjaa
set_option linter.unusedVariables false
set_option linter.unusedSimpArgs false
set_option linter.unusedSectionVars false
theorem spec_l7In.law (r : Repo) (k : Int) (Q : Bool → Prop) (hq : Q (verIn r k)) : spec_l7In.E r k Q := by
  unfold spec_l7In.E
  unfold verIn at hq
  refine spec_RepoOk.law _ _ ?_
  cases h : repoOk r with
  | false => rw [h] at hq; rw [if_neg (by decide)]; exact hq
  | true =>
    rw [h, Bool.true_and] at hq; rw [if_pos rfl]
    by_cases h1 : 0 ≤ k
    · rw [decide_eq_true h1, Bool.true_and] at hq; rw [if_pos (by rw [decide_eq_true_eq]; exact h1)]; exact hq
    · rw [decide_eq_false h1, Bool.false_and] at hq; rw [if_neg (by rw [decide_eq_true_eq]; exact h1)]; exact hq
end Go.Proofs.Ythkeboifjlnjjaa

namespace Go.Proofs.Ythkeboifjlnjjaa
open Go.RowKit
set_option linter.unusedVariables false
def spec_l7Marks.E (r : Repo) (from_ : List Int) (Q : List Bool → Prop) : Prop :=
  ((0 : Int) ≤ (r.Commits.length : Int) ∧ (r.Commits.length : Int) ≤ (268435456 : Int)) ∧ (∃ (I75 : (List Bool) → Int → Prop) (mu76 : (List Bool) → Int → Nat), I75 (List.replicate (r.Commits.length : Int).toNat (false : Bool)) 0 ∧ ∀ (xs2 : List Bool) (i2 : Int), I75 xs2 i2 → (if decide (i2 < (from_.length : Int)) then ((0 : Int) ≤ i2 ∧ i2 < (from_.length : Int)) ∧ ((0 : Int) ≤ (nth from_ i2) ∧ (nth from_ i2) < (xs2.length : Int)) ∧ (-9223372036854775808 ≤ i2) ∧ I75 (xs2.set (nth from_ i2).toNat true) (i2 + 1) ∧ mu76 (xs2.set (nth from_ i2).toNat true) (i2 + 1) < mu76 xs2 i2 else ((from_.length : Int) ≤ 9223372036854775807 → (r.Commits.length : Int) ≤ 9223372036854775807 → I64 ((r.Commits.length : Int) - 1)) ∧ (∃ (I146 : (List Bool) → Int → Prop) (mu147 : (List Bool) → Int → Nat), I146 xs2 ((r.Commits.length : Int) - 1) ∧ ∀ (xs4 : List Bool) (i4 : Int), I146 xs4 i4 → (if decide (i4 ≥ 0) then (∃ (I186 : (List Bool) → Int → Prop) (mu187 : (List Bool) → Int → Nat), I186 xs4 0 ∧ ∀ (xs6 : List Bool) (k2 : Int), I186 xs6 k2 → ((0 : Int) ≤ i4 ∧ i4 < (r.Commits.length : Int)) ∧ (if decide (k2 < (((nth r.Commits i4).Up).length : Int)) then ((0 : Int) ≤ i4 ∧ i4 < (xs6.length : Int)) ∧ (if (nth xs6 i4) then ((0 : Int) ≤ i4 ∧ i4 < (r.Commits.length : Int)) ∧ ((0 : Int) ≤ k2 ∧ k2 < (((nth r.Commits i4).Up).length : Int)) ∧ ((0 : Int) ≤ (nth ((nth r.Commits i4).Up) k2) ∧ (nth ((nth r.Commits i4).Up) k2) < (xs6.length : Int)) ∧ (-9223372036854775808 ≤ k2) ∧ I186 (xs6.set (nth ((nth r.Commits i4).Up) k2).toNat true) (k2 + 1) ∧ mu187 (xs6.set (nth ((nth r.Commits i4).Up) k2).toNat true) (k2 + 1) < mu187 xs6 k2 else ((((nth r.Commits i4).Up).length : Int) ≤ 9223372036854775807 → I64 (i4 - 1)) ∧ I146 xs6 (i4 - 1) ∧ mu147 xs6 (i4 - 1) < mu147 xs4 i4) else ((((nth r.Commits i4).Up).length : Int) ≤ 9223372036854775807 → I64 (i4 - 1)) ∧ I146 xs6 (i4 - 1) ∧ mu147 xs6 (i4 - 1) < mu147 xs4 i4)) else Q xs4))))
set_option maxHeartbeats 8000000 in
set_option maxRecDepth 100000 in
theorem spec_l7Marks.calls {O : Ob} (w0 : World) (hO : Ok w0 O) (r : Repo) (A1 : Option Addr) (n2 c3 : Nat) (A6 : Option Addr) (n7 c8 : Nat) (hp4 : Sl kCommit w0 (Fr O) (.slice A1 n2 c3) r.Commits) (hp9 : Sl kHead w0 (Fr O) (.slice A6 n7 c8) r.Heads) (from_ : List Int) (A11 : Option Addr) (n12 c13 : Nat) (hp14 : Sl (Kd.int .i64) w0 (Fr O) (.slice A11 n12 c13) from_) (Q : List Bool → Prop) (h : spec_l7Marks.E r from_ Q) :
    Ret Try.prog 67 [.agg #[.slice A1 n2 c3, .slice A6 n7 c8], .slice A11 n12 c13] w0 (fun v w' => ∃ (r0 : List Bool) (A0 : Option Addr) (n0 c0 : Nat), v = .slice A0 n0 c0 ∧ Q r0 ∧ Gr w0 w' none ∧ Ok w' ([blk (.slice A0 n0 c0)] ++ O) ∧ (∀ b, some b ∈ [blk (.slice A0 n0 c0)] → w0.heap.size ≤ b) ∧ Ow Kd.bool 4 w' ([blk (.slice A0 n0 c0)] ++ O) (.slice A0 n0 c0) r0) := by
  have H : ((0 : Int) ≤ (r.Commits.length : Int) ∧ (r.Commits.length : Int) ≤ (268435456 : Int)) ∧ (∃ (I75 : (List Bool) → Int → Prop) (mu76 : (List Bool) → Int → Nat), I75 (List.replicate (r.Commits.length : Int).toNat (false : Bool)) 0 ∧ ∀ (xs2 : List Bool) (i2 : Int), I75 xs2 i2 → (if decide (i2 < (from_.length : Int)) then ((0 : Int) ≤ i2 ∧ i2 < (from_.length : Int)) ∧ ((0 : Int) ≤ (nth from_ i2) ∧ (nth from_ i2) < (xs2.length : Int)) ∧ (-9223372036854775808 ≤ i2) ∧ I75 (xs2.set (nth from_ i2).toNat true) (i2 + 1) ∧ mu76 (xs2.set (nth from_ i2).toNat true) (i2 + 1) < mu76 xs2 i2 else ((from_.length : Int) ≤ 9223372036854775807 → (r.Commits.length : Int) ≤ 9223372036854775807 → I64 ((r.Commits.length : Int) - 1)) ∧ (∃ (I146 : (List Bool) → Int → Prop) (mu147 : (List Bool) → Int → Nat), I146 xs2 ((r.Commits.length : Int) - 1) ∧ ∀ (xs4 : List Bool) (i4 : Int), I146 xs4 i4 → (if decide (i4 ≥ 0) then (∃ (I186 : (List Bool) → Int → Prop) (mu187 : (List Bool) → Int → Nat), I186 xs4 0 ∧ ∀ (xs6 : List Bool) (k2 : Int), I186 xs6 k2 → ((0 : Int) ≤ i4 ∧ i4 < (r.Commits.length : Int)) ∧ (if decide (k2 < (((nth r.Commits i4).Up).length : Int)) then ((0 : Int) ≤ i4 ∧ i4 < (xs6.length : Int)) ∧ (if (nth xs6 i4) then ((0 : Int) ≤ i4 ∧ i4 < (r.Commits.length : Int)) ∧ ((0 : Int) ≤ k2 ∧ k2 < (((nth r.Commits i4).Up).length : Int)) ∧ ((0 : Int) ≤ (nth ((nth r.Commits i4).Up) k2) ∧ (nth ((nth r.Commits i4).Up) k2) < (xs6.length : Int)) ∧ (-9223372036854775808 ≤ k2) ∧ I186 (xs6.set (nth ((nth r.Commits i4).Up) k2).toNat true) (k2 + 1) ∧ mu187 (xs6.set (nth ((nth r.Commits i4).Up) k2).toNat true) (k2 + 1) < mu187 xs6 k2 else ((((nth r.Commits i4).Up).length : Int) ≤ 9223372036854775807 → I64 (i4 - 1)) ∧ I146 xs6 (i4 - 1) ∧ mu147 xs6 (i4 - 1) < mu147 xs4 i4) else ((((nth r.Commits i4).Up).length : Int) ≤ 9223372036854775807 → I64 (i4 - 1)) ∧ I146 xs6 (i4 - 1) ∧ mu147 xs6 (i4 - 1) < mu147 xs4 i4)) else Q xs4)))) := h
  clear h
  have hc0 := Ct.init hO
  refine Ret_enter Try.func67 rfl 62 rfl [.tmp 4] rfl rfl ?_
  refine W_seq ?_
  refine W_reg ?_
  refine L_box [.slice A1 n2 c3, .slice A6 n7 c8] rfl fun w16 b17 hl19 hu20 g18 hx21 => ?_
  have h23 := Fb.mk hc0.ok hl19 hx21
  have hc24 := hc0.k0 g18
  refine L_pu (P_assign (.slice none 0 0) rfl) ?_
  refine L_nil ?_
  refine W_seq ?_
  refine W_reg ?_
  refine L_pu (P_fa fa46_0 ⟨b17, 0, none⟩ ⟨b17, 0, none⟩ rfl rfl) ?_
  refine L_pu (P_ld ag43 cL ⟨b17, 0, none⟩ (.slice A1 n2 c3) rfl (h23.cell rfl)) ?_
  have hl25 := (hp4.st hc24.st).le
  refine L_pu (P_len Try.underlying43 A1 n2 c3 (hp4.st hc24.st).len rfl) ?_
  obtain ⟨hb26, H⟩ := H
  refine L_make (kd := Kd.bool) ei109 hc24 (false : Bool) (rfl) (r.Commits.length : Int) rfl rfl hb26 fun w27 A28 n29 c30 g31 hr32 hc33 h34 => ?_
  refine L_pu (P_assign (.slice A28 n29 c30) rfl) ?_
  refine L_nil ?_
  refine W_seq ?_
  refine W_seq ?_
  refine W_reg ?_
  refine L_pu (P_assign (vi 0) rfl) ?_
  refine L_nil ?_
  refine W_block ?_
  obtain ⟨I75, mu76, hI77, H⟩ := H
  have h79 := (h23.st (.own _ _ g31 hr32))
  refine W_loop (α := (List Bool) × Int) (fun (sv__ : (List Bool) × Int) t w61 => match sv__ with | (xs2, i2) => I75 xs2 i2 ∧ Has t [(1, .slice A11 n12 c13), (2, .pointer (some ⟨b17, 0, none⟩)), (5, .slice A28 n29 c30), (6, vi i2)] ∧ Ct none w0 w61 [blk (.slice A28 n29 c30)] O ∧ Sl (Kd.int .i64) w61 (Fr ([blk (.slice A28 n29 c30)] ++ O)) (.slice A11 n12 c13) from_ ∧ Sl kCommit w61 (Fr ([blk (.slice A28 n29 c30)] ++ O)) (.slice A1 n2 c3) r.Commits ∧ Sl kHead w61 (Fr ([blk (.slice A28 n29 c30)] ++ O)) (.slice A6 n7 c8) r.Heads ∧ Ow Kd.bool 4 w61 ([blk (.slice A28 n29 c30)] ++ O) (.slice A28 n29 c30) xs2 ∧ Fb w61 ([blk (.slice A28 n29 c30)] ++ O) b17 [.slice A1 n2 c3, .slice A6 n7 c8]) (fun (sv__ : (List Bool) × Int) => match sv__ with | (xs2, i2) => mu76 xs2 i2) ((List.replicate (r.Commits.length : Int).toNat (false : Bool)), 0) ⟨hI77, ⟨rfl, rfl, rfl, rfl, trivial⟩, hc33, (hp14.st hc33.st), (hp4.st hc33.st), (hp9.st hc33.st), h34, h79⟩ ?_
  rintro ⟨xs2, i2⟩ _ w61 ⟨hI77, hh80, hc69, h70, h71, h72, h73, h74⟩
  obtain ⟨u81, rfl⟩ := Has.ins hh80
  have H := H xs2 i2 hI77
  refine W_seq ?_
  refine W_seq ?_
  refine W_reg ?_
  refine L_pu (P_move (vi i2) rfl) ?_
  refine L_pu (P_move (.slice A11 n12 c13) rfl) ?_
  have hl82 := h70.le
  refine L_pu (P_len Try.underlying90 A11 n12 c13 h70.len rfl) ?_
  refine L_pu (P_cmp i2 (from_.length : Int) (decide (i2 < (from_.length : Int))) rfl rfl rfl) ?_
  refine L_nil ?_
  refine W_cond (decide (i2 < (from_.length : Int))) rfl (fun hq83 => ?_) (fun hq83 => ?_)
  · have H := ite_t H hq83
    refine W_skip ?_
    refine W_seq ?_
    refine W_block ?_
    refine W_reg ?_
    refine L_pu (P_move (.slice A28 n29 c30) rfl) ?_
    refine L_pu (P_move (.slice A11 n12 c13) rfl) ?_
    refine L_pu (P_move (vi i2) rfl) ?_
    obtain ⟨hb84, H⟩ := H
    obtain ⟨ad85, cs86, hA87, hS90, hR88, hcl89⟩ := h70.get default (by decide) i2 hb84
    obtain rfl := Kd.int.op hR88
    refine L_pu (P_ia Try.underlying90 se90 A11 ad85 n12 c13 h70.len i2 rfl hA87 rfl hb84) ?_
    refine L_pu (P_ld ag3 cL (ad85.add (i2.toNat * 1)) (vi (nth from_ i2)) rfl (hcl89 0 _ rfl)) ?_
    obtain ⟨hb91, H⟩ := H
    obtain ⟨ad92, cs93, hA94, hR95, hcl96⟩ := h73.get default (by decide) (nth from_ i2) hb91
    obtain rfl := Kd.bool.op hR95
    refine L_pu (P_ia Try.underlying109 se109 A28 ad92 n29 c30 h73.len (nth from_ i2) rfl hA94 rfl hb91) ?_
    refine L_ste0 A28 n29 c30 xs2 h73 (nth from_ i2) hb91 ad92 hA94 0 rfl [vb true] rfl sz4 rfl true [vb (nth xs2 (nth from_ i2))] [vb true] hcl96 rfl rfl rfl fun w98 g99 h100 => ?_
    have hc101 := hc69.wr 0 rfl g99
    refine L_nil ?_
    refine W_reg ?_
    refine L_pu (P_move (vi i2) rfl) ?_
    obtain ⟨hb103, H⟩ := H
    have hi102 : I64 (i2 + 1) := i64_succ (of_decide_eq_true hq83) hl82 hb103
    refine L_pu (P_add i2 1 rfl rfl hi102) ?_
    refine L_pu (P_assign (vi (i2 + 1)) rfl) ?_
    refine L_nil ?_
    obtain ⟨hI104, hm105⟩ := H
    have h106 := (h70.st (.wl (L := [blk (.slice A28 n29 c30)]) (O := O) (j := 0) rfl g99))
    have h107 := (h71.st (.wl (L := [blk (.slice A28 n29 c30)]) (O := O) (j := 0) rfl g99))
    have h108 := (h72.st (.wl (L := [blk (.slice A28 n29 c30)]) (O := O) (j := 0) rfl g99))
    have h109 := (h74.st (.wl (L := [blk (.slice A28 n29 c30)]) (O := O) (j := 0) rfl g99))
    exact ⟨((xs2.set (nth from_ i2).toNat true), i2 + 1), hm105, hI104, ⟨rfl, rfl, rfl, rfl, trivial⟩, hc101, h106, h107, h108, h100, h109⟩
  · have H := ite_f H hq83
    refine W_exit (xin_hit ?_)
    refine W_seq ?_
    refine W_seq ?_
    refine W_reg ?_
    refine L_pu (P_fa fa46_0 ⟨b17, 0, none⟩ ⟨b17, 0, none⟩ rfl rfl) ?_
    refine L_pu (P_ld ag43 cL ⟨b17, 0, none⟩ (.slice A1 n2 c3) rfl (h74.cell rfl)) ?_
    have hl110 := h71.le
    refine L_pu (P_len Try.underlying43 A1 n2 c3 h71.len rfl) ?_
    obtain ⟨hb111, H⟩ := H
    have hi112 := hb111 (len_le hl82) (len_le hl110)
    refine L_pu (P_sub (r.Commits.length : Int) 1 rfl rfl hi112) ?_
    refine L_pu (P_assign (vi ((r.Commits.length : Int) - 1)) rfl) ?_
    refine L_nil ?_
    refine W_block ?_
    obtain ⟨I146, mu147, hI148, H⟩ := H
    refine W_loop (α := (List Bool) × (Option Addr) × Nat × Nat × Int) (fun (sv__ : (List Bool) × (Option Addr) × Nat × Nat × Int) t w134 => match sv__ with | (xs4, A135, n136, c137, i4) => I146 xs4 i4 ∧ Has t [(2, .pointer (some ⟨b17, 0, none⟩)), (5, .slice A135 n136 c137), (7, vi i4)] ∧ Ct none w0 w134 [blk (.slice A135 n136 c137)] O ∧ Sl kCommit w134 (Fr ([blk (.slice A135 n136 c137)] ++ O)) (.slice A1 n2 c3) r.Commits ∧ Sl kHead w134 (Fr ([blk (.slice A135 n136 c137)] ++ O)) (.slice A6 n7 c8) r.Heads ∧ Ow Kd.bool 4 w134 ([blk (.slice A135 n136 c137)] ++ O) (.slice A135 n136 c137) xs4 ∧ Fb w134 ([blk (.slice A135 n136 c137)] ++ O) b17 [.slice A1 n2 c3, .slice A6 n7 c8]) (fun (sv__ : (List Bool) × (Option Addr) × Nat × Nat × Int) => match sv__ with | (xs4, _, _, _, i4) => mu147 xs4 i4) (xs2, A28, n29, c30, (r.Commits.length : Int) - 1) ⟨hI148, ⟨rfl, rfl, rfl, trivial⟩, hc69, h71, h72, h73, h74⟩ ?_
    rintro ⟨xs4, A135, n136, c137, i4⟩ _ w134 ⟨hI148, hh150, hc141, h142, h143, h144, h145⟩
    obtain ⟨u151, rfl⟩ := Has.ins hh150
    have H := H xs4 i4 hI148
    refine W_seq ?_
    refine W_seq ?_
    refine W_reg ?_
    refine L_pu (P_move (vi i4) rfl) ?_
    refine L_pu (P_cmp i4 0 (decide (i4 ≥ 0)) rfl rfl rfl) ?_
    refine L_nil ?_
    refine W_cond (decide (i4 ≥ 0)) rfl (fun hq152 => ?_) (fun hq152 => ?_)
    · have H := ite_t H hq152
      refine W_skip ?_
      refine W_seq ?_
      refine W_block ?_
      refine W_seq ?_
      refine W_reg ?_
      refine L_pu (P_assign (vi 0) rfl) ?_
      refine L_nil ?_
      refine W_block ?_
      obtain ⟨I186, mu187, hI188, H⟩ := H
      refine W_loop (α := (List Bool) × Int) (fun (sv__ : (List Bool) × Int) t w174 => match sv__ with | (xs6, k2) => I186 xs6 k2 ∧ Has t [(2, .pointer (some ⟨b17, 0, none⟩)), (5, .slice A135 n136 c137), (7, vi i4), (8, vi k2)] ∧ Ct none w0 w174 [blk (.slice A135 n136 c137)] O ∧ Sl kCommit w174 (Fr ([blk (.slice A135 n136 c137)] ++ O)) (.slice A1 n2 c3) r.Commits ∧ Sl kHead w174 (Fr ([blk (.slice A135 n136 c137)] ++ O)) (.slice A6 n7 c8) r.Heads ∧ Ow Kd.bool 4 w174 ([blk (.slice A135 n136 c137)] ++ O) (.slice A135 n136 c137) xs6 ∧ Fb w174 ([blk (.slice A135 n136 c137)] ++ O) b17 [.slice A1 n2 c3, .slice A6 n7 c8]) (fun (sv__ : (List Bool) × Int) => match sv__ with | (xs6, k2) => mu187 xs6 k2) (xs4, 0) ⟨hI188, ⟨rfl, rfl, rfl, rfl, trivial⟩, hc141, h142, h143, h144, h145⟩ ?_
      rintro ⟨xs6, k2⟩ _ w174 ⟨hI188, hh190, hc181, h182, h183, h184, h185⟩
      obtain ⟨u191, rfl⟩ := Has.ins hh190
      have H := H xs6 k2 hI188
      refine W_seq ?_
      refine W_seq ?_
      refine W_reg ?_
      refine L_pu (P_move (vi k2) rfl) ?_
      refine L_pu (P_fa fa46_0 ⟨b17, 0, none⟩ ⟨b17, 0, none⟩ rfl rfl) ?_
      refine L_pu (P_ld ag43 cL ⟨b17, 0, none⟩ (.slice A1 n2 c3) rfl (h185.cell rfl)) ?_
      refine L_pu (P_move (vi i4) rfl) ?_
      obtain ⟨hb192, H⟩ := H
      obtain ⟨ad193, cs194, hA195, hS198, hR196, hcl197⟩ := h182.get default (by decide) i4 hb192
      obtain ⟨A199, n200, c201, A204, n205, c206, rfl, h202, h207, hs209⟩ := kCommit.op hR196
      refine L_pu (P_ia Try.underlying43 se43 A1 ad193 n2 c3 h182.len i4 rfl hA195 rfl hb192) ?_
      refine L_pu (P_fa fa93_0 (ad193.add (i4.toNat * 3)) ((ad193.add (i4.toNat * 3)).add 0) rfl rfl) ?_
      refine L_pu (P_ld ag90 cL ((ad193.add (i4.toNat * 3)).add 0) (.slice A199 n200 c201) rfl (hcl197 0 _ rfl)) ?_
      have hl210 := h202.le
      refine L_pu (P_len Try.underlying90 A199 n200 c201 h202.len rfl) ?_
      refine L_pu (P_cmp k2 (((nth r.Commits i4).Up).length : Int) (decide (k2 < (((nth r.Commits i4).Up).length : Int))) rfl rfl rfl) ?_
      refine L_pu (P_move (vb (decide (k2 < (((nth r.Commits i4).Up).length : Int)))) rfl) ?_
      rcases bool_or (decide (k2 < (((nth r.Commits i4).Up).length : Int))) with hq211 | hq211
      · have H := ite_t H hq211
        refine L_run (dj := 42) rfl rfl (by exact congrArg Value.bool hq211) ?_
        refine L_pu (P_move (.slice A135 n136 c137) rfl) ?_
        refine L_run (dj := 42) rfl rfl (by exact congrArg Value.bool hq211) ?_
        refine L_pu (P_move (vi i4) rfl) ?_
        refine L_run (dj := 42) rfl rfl (by exact congrArg Value.bool hq211) ?_
        obtain ⟨hb212, H⟩ := H
        obtain ⟨ad213, cs214, hA215, hR216, hcl217⟩ := h184.get default (by decide) i4 hb212
        obtain rfl := Kd.bool.op hR216
        refine L_pu (P_ia Try.underlying109 se109 A135 ad213 n136 c137 h184.len i4 rfl hA215 rfl hb212) ?_
        refine L_run (dj := 42) rfl rfl (by exact congrArg Value.bool hq211) ?_
        refine L_pu (P_ld ag4 cL (ad213.add (i4.toNat * 1)) (vb (nth xs6 i4)) rfl (hcl217 0 _ rfl)) ?_
        refine L_pu (P_pick true (vb (nth xs6 i4)) (by exact congrArg Value.bool hq211) rfl) ?_
        refine L_nil ?_
        refine W_cond (nth xs6 i4) rfl (fun hq219 => ?_) (fun hq219 => ?_)
        · have H := ite_t H hq219
          refine W_skip ?_
          refine W_seq ?_
          refine W_block ?_
          refine W_reg ?_
          refine L_pu (P_move (.slice A135 n136 c137) rfl) ?_
          refine L_pu (P_fa fa46_0 ⟨b17, 0, none⟩ ⟨b17, 0, none⟩ rfl rfl) ?_
          refine L_pu (P_ld ag43 cL ⟨b17, 0, none⟩ (.slice A1 n2 c3) rfl (h185.cell rfl)) ?_
          refine L_pu (P_move (vi i4) rfl) ?_
          obtain ⟨hb220, H⟩ := H
          obtain ⟨ad221, cs222, hA223, hS226, hR224, hcl225⟩ := h182.get default (by decide) i4 hb220
          obtain ⟨A227, n228, c229, A232, n233, c234, rfl, h230, h235, hs237⟩ := kCommit.op hR224
          refine L_pu (P_ia Try.underlying43 se43 A1 ad221 n2 c3 h182.len i4 rfl hA223 rfl hb220) ?_
          refine L_pu (P_fa fa93_0 (ad221.add (i4.toNat * 3)) ((ad221.add (i4.toNat * 3)).add 0) rfl rfl) ?_
          refine L_pu (P_ld ag90 cL ((ad221.add (i4.toNat * 3)).add 0) (.slice A227 n228 c229) rfl (hcl225 0 _ rfl)) ?_
          refine L_pu (P_move (vi k2) rfl) ?_
          obtain ⟨hb238, H⟩ := H
          obtain ⟨ad239, cs240, hA241, hS244, hR242, hcl243⟩ := h230.get default (by decide) k2 hb238
          obtain rfl := Kd.int.op hR242
          refine L_pu (P_ia Try.underlying90 se90 A227 ad239 n228 c229 h230.len k2 rfl hA241 rfl hb238) ?_
          refine L_pu (P_ld ag3 cL (ad239.add (k2.toNat * 1)) (vi (nth ((nth r.Commits i4).Up) k2)) rfl (hcl243 0 _ rfl)) ?_
          obtain ⟨hb245, H⟩ := H
          obtain ⟨ad246, cs247, hA248, hR249, hcl250⟩ := h184.get default (by decide) (nth ((nth r.Commits i4).Up) k2) hb245
          obtain rfl := Kd.bool.op hR249
          refine L_pu (P_ia Try.underlying109 se109 A135 ad246 n136 c137 h184.len (nth ((nth r.Commits i4).Up) k2) rfl hA248 rfl hb245) ?_
          refine L_ste0 A135 n136 c137 xs6 h184 (nth ((nth r.Commits i4).Up) k2) hb245 ad246 hA248 0 rfl [vb true] rfl sz4 rfl true [vb (nth xs6 (nth ((nth r.Commits i4).Up) k2))] [vb true] hcl250 rfl rfl rfl fun w252 g253 h254 => ?_
          have hc255 := hc181.wr 0 rfl g253
          refine L_nil ?_
          refine W_reg ?_
          refine L_pu (P_move (vi k2) rfl) ?_
          obtain ⟨hb257, H⟩ := H
          have hi256 : I64 (k2 + 1) := i64_succ (of_decide_eq_true hq211) hl210 hb257
          refine L_pu (P_add k2 1 rfl rfl hi256) ?_
          refine L_pu (P_assign (vi (k2 + 1)) rfl) ?_
          refine L_nil ?_
          obtain ⟨hI258, hm259⟩ := H
          have h260 := (h182.st (.wl (L := [blk (.slice A135 n136 c137)]) (O := O) (j := 0) rfl g253))
          have h261 := (h183.st (.wl (L := [blk (.slice A135 n136 c137)]) (O := O) (j := 0) rfl g253))
          have h262 := (h185.st (.wl (L := [blk (.slice A135 n136 c137)]) (O := O) (j := 0) rfl g253))
          exact ⟨((xs6.set (nth ((nth r.Commits i4).Up) k2).toNat true), k2 + 1), hm259, hI258, ⟨rfl, rfl, rfl, rfl, trivial⟩, hc255, h260, h261, h254, h262⟩
        · have H := ite_f H hq219
          refine W_exit (xin_hit ?_)
          refine W_reg ?_
          refine L_pu (P_move (vi i4) rfl) ?_
          obtain ⟨hb263, H⟩ := H
          have hi264 := hb263 (len_le hl210)
          refine L_pu (P_sub i4 1 rfl rfl hi264) ?_
          refine L_pu (P_assign (vi (i4 - 1)) rfl) ?_
          refine L_nil ?_
          obtain ⟨hI265, hm266⟩ := H
          exact ⟨(xs6, A135, n136, c137, i4 - 1), hm266, hI265, ⟨rfl, rfl, rfl, trivial⟩, hc181, h182, h183, h184, h185⟩
      · have H := ite_f H hq211
        refine L_pass (dj := 42) rfl rfl (.inl (by exact congrArg Value.bool hq211)) ?_
        refine L_pass (dj := 42) rfl rfl (.inl (by exact congrArg Value.bool hq211)) ?_
        refine L_pass (dj := 42) rfl rfl (.inl (by exact congrArg Value.bool hq211)) ?_
        refine L_pass (dj := 42) rfl rfl (.inl (by exact congrArg Value.bool hq211)) ?_
        refine L_pu (P_pick false (vb false) (by exact congrArg Value.bool hq211) rfl) ?_
        refine L_nil ?_
        refine W_cf (b := false) rfl rfl ?_
        refine W_exit (xin_hit ?_)
        refine W_reg ?_
        refine L_pu (P_move (vi i4) rfl) ?_
        obtain ⟨hb267, H⟩ := H
        have hi268 := hb267 (len_le hl210)
        refine L_pu (P_sub i4 1 rfl rfl hi268) ?_
        refine L_pu (P_assign (vi (i4 - 1)) rfl) ?_
        refine L_nil ?_
        obtain ⟨hI269, hm270⟩ := H
        exact ⟨(xs6, A135, n136, c137, i4 - 1), hm270, hI269, ⟨rfl, rfl, rfl, trivial⟩, hc181, h182, h183, h184, h185⟩
    · have H := ite_f H hq152
      refine W_exit (xin_hit ?_)
      refine W_seq ?_
      refine W_reg ?_
      refine L_pu (P_move (.slice A135 n136 c137) rfl) ?_
      refine L_pu (P_assign (.slice A135 n136 c137) rfl) ?_
      refine L_nil ?_
      refine W_ret ?_
      exact ⟨[.slice A135 n136 c137], ⟨_, rfl, rfl⟩, xs4, A135, n136, c137, rfl, H, hc141.gr, hc141.ok, hc141.ge, h144⟩
end Go.Proofs.Ythkeboifjlnjjaa

namespace Go.Proofs.Ythkeboifjlnjjaa
set_option linter.unusedVariables false
set_option linter.unusedSimpArgs false
set_option linter.unusedSectionVars false
theorem spec_l7Marks.law (r : Repo) (b : Nat) (Q : List Bool → Prop) (hr : repoOk r = true) (hb : b < r.Commits.length) (hq : Q (pastOf r b)) : spec_l7Marks.E r [(b : Int)] Q := by
  unfold spec_l7Marks.E
  have hc := repoOk_len hr
  simp only [Int.toNat_natCast]
  refine ⟨by omega, ?_⟩
  refine ⟨fun xs i => (i = 0 ∧ xs = List.replicate r.Commits.length false) ∨ (i = 1 ∧ xs = (List.replicate r.Commits.length false).set b true), fun _ i => (1 - i).toNat, .inl ⟨rfl, rfl⟩, ?_⟩
  rintro xs _ (⟨rfl, rfl⟩ | ⟨rfl, rfl⟩)
  · rw [if_pos (by simp)]
    have e : nth [(b : Int)] 0 = (b : Int) := rfl
    rw [e, Int.toNat_natCast]
    exact ⟨⟨by omega, by simp⟩, ⟨by omega, by simp; omega⟩, by omega, .inr ⟨rfl, rfl⟩, by dsimp only; omega⟩
  rw [if_neg (by simp)]
  refine ⟨fun _ _ => by unfold I64; omega, ?_⟩
  refine ⟨fun xs k => ∃ j : Nat, k = (j : Int) - 1 ∧ j ≤ r.Commits.length ∧ xs.length = r.Commits.length ∧ back r j xs = pastOf r b, fun _ k => (k + 1).toNat, ⟨r.Commits.length, rfl, Nat.le_refl _, by simp, pastOf_all r hb⟩, ?_⟩
  rintro xs _ ⟨j, rfl, hj, hx, hbk⟩
  by_cases h0 : (j : Int) - 1 ≥ 0
  · rw [if_pos (by rw [decide_eq_true_eq]; exact h0)]
    obtain ⟨i, rfl⟩ : ∃ i, j = i + 1 := ⟨j - 1, by omega⟩
    have ei : ((i + 1 : Nat) : Int) - 1 = (i : Int) := by omega
    rw [ei]
    rw [back] at hbk
    have hu := repoOk_up hr (k := i) (by omega)
    generalize (nth r.Commits (i : Int)).Up = up at *
    refine ⟨fun ys v => ∃ u : Nat, v = u ∧ u ≤ up.length ∧ ys = (if nth xs (i : Int) then stepUp (up.take u) xs else xs) ∧ (nth xs (i : Int) = false → u = 0), fun _ v => (up.length - v).toNat, ⟨0, rfl, Nat.zero_le _, by split <;> rfl, fun _ => rfl⟩, ?_⟩
    rintro ys _ ⟨u, rfl, hu', hy, hz⟩
    have hyl : ys.length = r.Commits.length := by rw [hy]; split <;> simp [stepUp_len, hx]
    have hyn : nth ys (i : Int) = nth xs (i : Int) := by
      rw [hy]; split
      · exact stepUp_nth _ _ _ fun x hxm => by have := hu x (List.mem_of_mem_take hxm); omega
      · rfl
    refine ⟨by omega, ?_⟩
    by_cases h1 : (u : Int) < (up.length : Int)
    · rw [if_pos (by rw [decide_eq_true_eq]; exact h1)]
      refine ⟨by omega, ?_⟩
      rw [hyn]
      cases hn : nth xs (i : Int) with
      | true =>
        rw [if_pos rfl]
        rw [hn, if_pos rfl] at hy
        have hm := hu _ (nth_mem up (show u < up.length by omega))
        exact ⟨by omega, by omega, by omega, by omega, ⟨u + 1, by omega, by omega, by rw [if_pos rfl, hy]; exact (stepUp_take up xs (by omega)).symm, fun h => (by cases h)⟩, by dsimp only; omega⟩
      | false =>
        rw [if_neg (by decide)]
        rw [hn, if_neg (by decide)] at hbk hy
        exact ⟨fun _ => by unfold I64; omega, ⟨i, rfl, by omega, hyl, by rw [hy]; exact hbk⟩, by dsimp only; omega⟩
    · rw [if_neg (by rw [decide_eq_true_eq]; exact h1)]
      have hul : u = up.length := by omega
      refine ⟨fun _ => by unfold I64; omega, ⟨i, rfl, by omega, hyl, ?_⟩, by dsimp only; omega⟩
      rw [hy, hul, List.take_length]; exact hbk
  · rw [if_neg (by rw [decide_eq_true_eq]; exact h0)]
    have : j = 0 := by omega
    subst this
    rw [back] at hbk
    rw [hbk]; exact hq
end Go.Proofs.Ythkeboifjlnjjaa

namespace Go.Proofs.Ythkeboifjlnjjaa
open Go.RowKit
set_option linter.unusedVariables false
def spec_RepoAhead.E (r : Repo) (a : Int) (b : Int) (Q : Bool → Prop) : Prop :=
  spec_l7In.E r a (fun r2 => (if r2 then spec_l7In.E r b (fun r3 => (if r3 then spec_l7Marks.E r ([b] : List Int) (fun r4 => ((0 : Int) ≤ a ∧ a < (r4.length : Int)) ∧ Q (nth r4 a)) else Q false)) else Q false))
set_option maxHeartbeats 8000000 in
set_option maxRecDepth 100000 in
theorem spec_RepoAhead.calls {O : Ob} (w0 : World) (hO : Ok w0 O) (r : Repo) (A1 : Option Addr) (n2 c3 : Nat) (A6 : Option Addr) (n7 c8 : Nat) (hp4 : Sl kCommit w0 (Fr O) (.slice A1 n2 c3) r.Commits) (hp9 : Sl kHead w0 (Fr O) (.slice A6 n7 c8) r.Heads) (a : Int) (b : Int) (Q : Bool → Prop) (h : spec_RepoAhead.E r a b Q) :
    Ret Try.prog 27 [.agg #[.slice A1 n2 c3, .slice A6 n7 c8], vi a, vi b] w0 (fun v w' => ∃ (r0 : Bool), v = vb r0 ∧ Q r0 ∧ Gr w0 w' none) := by
  have H : spec_l7In.E r a (fun r2 => (if r2 then spec_l7In.E r b (fun r3 => (if r3 then spec_l7Marks.E r ([b] : List Int) (fun r4 => ((0 : Int) ≤ a ∧ a < (r4.length : Int)) ∧ Q (nth r4 a)) else Q false)) else Q false)) := h
  clear h
  have hc0 := Ct.init hO
  refine Ret_enter Try.func27 rfl 24 rfl [.tmp 6] rfl rfl ?_
  refine W_seq ?_
  refine W_reg ?_
  refine L_box [.slice A1 n2 c3, .slice A6 n7 c8] rfl fun w11 b12 hl14 hu15 g13 hx16 => ?_
  have h18 := Fb.mk hc0.ok hl14 hx16
  have hc19 := hc0.k0 g13
  refine L_pu (P_assign (vb false) rfl) ?_
  refine L_nil ?_
  refine W_seq ?_
  refine W_reg ?_
  refine L_pu (P_lda ag46 sz46 cL ⟨b12, 0, none⟩ [.slice A1 n2 c3, .slice A6 n7 c8] rfl rfl (h18.cells (off := 0) rfl)) ?_
  refine L_pu (P_move (vi a) rfl) ?_
  refine L_call go66 [.agg #[.slice A1 n2 c3, .slice A6 n7 c8], vi a] rfl ((spec_l7In.calls w11 hc19.ok r A1 n2 c3 A6 n7 c8 (hp4.st hc19.st) (hp9.st hc19.st) a _ H).mono ?_)
  rintro _ w20 ⟨r2, rfl, H, g21⟩
  have hc25 := hc19.k0 g21
  refine L_pu (P_move (vb r2) rfl) ?_
  rcases bool_or r2 with hq26 | hq26
  · have H := ite_t H hq26
    refine L_run (dj := 10) rfl rfl (by exact congrArg Value.bool hq26) ?_
    have h27 := (h18.st (.new _ g21))
    refine L_pu (P_lda ag46 sz46 cL ⟨b12, 0, none⟩ [.slice A1 n2 c3, .slice A6 n7 c8] rfl rfl (h27.cells (off := 0) rfl)) ?_
    refine L_run (dj := 10) rfl rfl (by exact congrArg Value.bool hq26) ?_
    refine L_pu (P_move (vi b) rfl) ?_
    refine L_run (dj := 10) rfl rfl (by exact congrArg Value.bool hq26) ?_
    refine L_call go66 [.agg #[.slice A1 n2 c3, .slice A6 n7 c8], vi b] rfl ((spec_l7In.calls w20 hc25.ok r A1 n2 c3 A6 n7 c8 (hp4.st hc25.st) (hp9.st hc25.st) b _ H).mono ?_)
    rintro _ w28 ⟨r3, rfl, H, g29⟩
    have hc33 := hc25.k0 g29
    refine L_pu (P_pick true (vb r3) (by exact congrArg Value.bool hq26) rfl) ?_
    refine L_pu (P_move (vb r3) rfl) ?_
    rcases bool_or r3 with hq34 | hq34
    · have H := ite_t H hq34
      refine L_run (dj := 15) rfl rfl (by exact congrArg Value.bool hq34) ?_
      have h35 := (h27.st (.new _ g29))
      refine L_pu (P_lda ag46 sz46 cL ⟨b12, 0, none⟩ [.slice A1 n2 c3, .slice A6 n7 c8] rfl rfl (h35.cells (off := 0) rfl)) ?_
      refine L_run (dj := 15) rfl rfl (by exact congrArg Value.bool hq34) ?_
      refine L_pu (P_move (vi b) rfl) ?_
      refine L_run (dj := 15) rfl rfl (by exact congrArg Value.bool hq34) ?_
      refine L_lit (kd := (Kd.int .i64)) ei90 hc33 ([b] : List Int) (cells := [vi b]) ⟨[vi b], _, rfl, rfl, rfl⟩ (fun _ => by kernel_rfl) fun w36 A37 n38 c39 g40 hr41 hc42 h43 => ?_
      refine L_run (dj := 15) rfl rfl (by exact congrArg Value.bool hq34) ?_
      have h45 := Ow.gv (L := [blk (.slice A37 n38 c39)]) (O := O) h43 hc42 (i := 0) rfl
      have hc46 := hc42.drop 0 rfl
      refine L_call go67 [.agg #[.slice A1 n2 c3, .slice A6 n7 c8], .slice A37 n38 c39] rfl ((spec_l7Marks.calls w36 hc46.ok r A1 n2 c3 A6 n7 c8 (hp4.st hc46.st) (hp9.st hc46.st) ([b] : List Int) A37 n38 c39 h45 _ H).mono ?_)
      rintro _ w48 ⟨r4, A50, n51, c52, rfl, H, g49, hk56, hk57, h53⟩
      have hk59 := Ok.unl (L := [blk (.slice A37 n38 c39)]) (L' := []) (O := O) hc42 g49 hk56 hk57
      have h60 := Ow.unl (L := [blk (.slice A37 n38 c39)]) (L' := []) (O := O) (fun _ _ _ _ _ _ h => h) (.cons _ (.slnil)) h53
      have hc58 := hc42.owns g49 hk59 hk57
      refine L_run (dj := 15) rfl rfl (by exact congrArg Value.bool hq34) ?_
      refine L_pu (P_move (vi a) rfl) ?_
      refine L_run (dj := 15) rfl rfl (by exact congrArg Value.bool hq34) ?_
      obtain ⟨hb61, H⟩ := H
      obtain ⟨ad62, cs63, hA64, hR65, hcl66⟩ := h60.get default (by decide) a hb61
      obtain rfl := Kd.bool.op hR65
      refine L_pu (P_ia Try.underlying109 se109 A50 ad62 n51 c52 h60.len a rfl hA64 rfl hb61) ?_
      refine L_run (dj := 15) rfl rfl (by exact congrArg Value.bool hq34) ?_
      refine L_pu (P_ld ag4 cL (ad62.add (a.toNat * 1)) (vb (nth r4 a)) rfl (hcl66 0 _ rfl)) ?_
      refine L_pu (P_pick true (vb (nth r4 a)) (by exact congrArg Value.bool hq34) rfl) ?_
      refine L_pu (P_assign (vb (nth r4 a)) rfl) ?_
      refine L_nil ?_
      refine W_ret ?_
      have hc68 := hc58.drop 0 rfl
      have hc69 := hc68.drop 0 rfl
      exact ⟨[vb (nth r4 a)], ⟨_, rfl, rfl⟩, (nth r4 a), rfl, H, hc69.gr⟩
    · have H := ite_f H hq34
      refine L_pass (dj := 15) rfl rfl (.inl (by exact congrArg Value.bool hq34)) ?_
      refine L_pass (dj := 15) rfl rfl (.inl (by exact congrArg Value.bool hq34)) ?_
      refine L_pass (dj := 15) rfl rfl (.inl (by exact congrArg Value.bool hq34)) ?_
      refine L_pass (dj := 15) rfl rfl (.inl (by exact congrArg Value.bool hq34)) ?_
      refine L_pass (dj := 15) rfl rfl (.inl (by exact congrArg Value.bool hq34)) ?_
      refine L_pass (dj := 15) rfl rfl (.inl (by exact congrArg Value.bool hq34)) ?_
      refine L_pass (dj := 15) rfl rfl (.inl (by exact congrArg Value.bool hq34)) ?_
      refine L_pu (P_pick false (vb false) (by exact congrArg Value.bool hq34) rfl) ?_
      refine L_pu (P_assign (vb false) rfl) ?_
      refine L_nil ?_
      refine W_ret ?_
      exact ⟨[vb false], ⟨_, rfl, rfl⟩, false, rfl, H, hc33.gr⟩
  · have H := ite_f H hq26
    refine L_pass (dj := 10) rfl rfl (.inl (by exact congrArg Value.bool hq26)) ?_
    refine L_pass (dj := 10) rfl rfl (.inl (by exact congrArg Value.bool hq26)) ?_
    refine L_pass (dj := 10) rfl rfl (.inl (by exact congrArg Value.bool hq26)) ?_
    refine L_pu (P_pick false (vb false) (by exact congrArg Value.bool hq26) rfl) ?_
    refine L_pu (P_move (vb false) rfl) ?_
    refine L_pass (dj := 15) rfl rfl (.inl rfl) ?_
    refine L_pass (dj := 15) rfl rfl (.inl rfl) ?_
    refine L_pass (dj := 15) rfl rfl (.inl rfl) ?_
    refine L_pass (dj := 15) rfl rfl (.inl rfl) ?_
    refine L_pass (dj := 15) rfl rfl (.inl rfl) ?_
    refine L_pass (dj := 15) rfl rfl (.inl rfl) ?_
    refine L_pass (dj := 15) rfl rfl (.inl rfl) ?_
    refine L_pu (P_pick false (vb false) (by exact congrArg Value.bool rfl) rfl) ?_
    refine L_pu (P_assign (vb false) rfl) ?_
    refine L_nil ?_
    refine W_ret ?_
    exact ⟨[vb false], ⟨_, rfl, rfl⟩, false, rfl, H, hc25.gr⟩
end Go.Proofs.Ythkeboifjlnjjaa

namespace Go.Proofs.Ythkeboifjlnjjaa
set_option linter.unusedVariables false
set_option linter.unusedSimpArgs false
set_option linter.unusedSectionVars false
theorem spec_RepoAhead.law (r : Repo) (a b : Int) (Q : Bool → Prop) (hq : Q (ahead r a b)) : spec_RepoAhead.E r a b Q := by
  unfold spec_RepoAhead.E
  unfold ahead at hq
  refine spec_l7In.law _ _ _ ?_
  cases h1 : verIn r a with
  | false => rw [h1] at hq; rw [if_neg (by decide)]; exact hq
  | true =>
    rw [h1, Bool.true_and] at hq; rw [if_pos rfl]
    refine spec_l7In.law _ _ _ ?_
    cases h2 : verIn r b with
    | false => rw [h2] at hq; rw [if_neg (by decide)]; exact hq
    | true =>
      rw [h2, Bool.true_and] at hq; rw [if_pos rfl]
      simp only [verIn, Bool.and_eq_true, decide_eq_true_eq] at h1 h2
      obtain ⟨hr, hb0, hb1⟩ := h2
      obtain ⟨_, ha0, ha1⟩ := h1
      obtain ⟨n, rfl⟩ := Int.eq_ofNat_of_zero_le hb0
      rw [Int.toNat_natCast] at hq
      refine spec_l7Marks.law r n _ hr (by omega) ?_
      exact ⟨by rw [pastOf_len]; omega, hq⟩
end Go.Proofs.Ythkeboifjlnjjaa

namespace Go.Proofs.Ythkeboifjlnjjaa
open Go.RowKit
set_option linter.unusedVariables false
def impl_within.E (n : Int) (low : Int) (high : Int) (Q : Bool → Prop) : Prop :=
  (if decide (n ≥ low) then Q (decide (n ≤ high)) else Q false)
set_option maxHeartbeats 8000000 in
set_option maxRecDepth 100000 in
theorem impl_within.calls {O : Ob} (w0 : World) (hO : Ok w0 O) (n : Int) (low : Int) (high : Int) (Q : Bool → Prop) (h : impl_within.E n low high Q) :
    Ret Try.prog 60 [vi n, vi low, vi high] w0 (fun v w' => ∃ (r0 : Bool), v = vb r0 ∧ Q r0 ∧ Gr w0 w' none ∧ w' = w0) := by
  have H : (if decide (n ≥ low) then Q (decide (n ≤ high)) else Q false) := h
  clear h
  have hc0 := Ct.init hO
  refine Ret_enter Try.func60 rfl 15 rfl [.tmp 6] rfl rfl ?_
  refine W_seq ?_
  refine W_reg ?_
  refine L_pu (P_assign (vb false) rfl) ?_
  refine L_nil ?_
  refine W_seq ?_
  refine W_reg ?_
  refine L_pu (P_move (vi n) rfl) ?_
  refine L_pu (P_move (vi low) rfl) ?_
  refine L_pu (P_cmp n low (decide (n ≥ low)) rfl rfl rfl) ?_
  refine L_pu (P_move (vb (decide (n ≥ low))) rfl) ?_
  rcases bool_or (decide (n ≥ low)) with hq1 | hq1
  · have H := ite_t H hq1
    refine L_run (dj := 10) rfl rfl (by exact congrArg Value.bool hq1) ?_
    refine L_pu (P_move (vi n) rfl) ?_
    refine L_run (dj := 10) rfl rfl (by exact congrArg Value.bool hq1) ?_
    refine L_pu (P_move (vi high) rfl) ?_
    refine L_run (dj := 10) rfl rfl (by exact congrArg Value.bool hq1) ?_
    refine L_pu (P_cmp n high (decide (n ≤ high)) rfl rfl rfl) ?_
    refine L_pu (P_pick true (vb (decide (n ≤ high))) (by exact congrArg Value.bool hq1) rfl) ?_
    refine L_pu (P_assign (vb (decide (n ≤ high))) rfl) ?_
    refine L_nil ?_
    refine W_ret ?_
    exact ⟨[vb (decide (n ≤ high))], ⟨_, rfl, rfl⟩, decide (n ≤ high), rfl, H, hc0.gr, rfl⟩
  · have H := ite_f H hq1
    refine L_pass (dj := 10) rfl rfl (.inl (by exact congrArg Value.bool hq1)) ?_
    refine L_pass (dj := 10) rfl rfl (.inl (by exact congrArg Value.bool hq1)) ?_
    refine L_pass (dj := 10) rfl rfl (.inl (by exact congrArg Value.bool hq1)) ?_
    refine L_pu (P_pick false (vb false) (by exact congrArg Value.bool hq1) rfl) ?_
    refine L_pu (P_assign (vb false) rfl) ?_
    refine L_nil ?_
    refine W_ret ?_
    exact ⟨[vb false], ⟨_, rfl, rfl⟩, false, rfl, H, hc0.gr, rfl⟩
def impl_within.m (n : Int) (low : Int) (high : Int) : Bool := (if decide (n ≥ low) then (decide (n ≤ high)) else false)
theorem impl_within.fn (n : Int) (low : Int) (high : Int) : impl_within.E n low high (fun r => r = impl_within.m n low high) := by
  unfold impl_within.E impl_within.m
  (repeat' split) <;> simp_all
end Go.Proofs.Ythkeboifjlnjjaa

namespace Go.Proofs.Ythkeboifjlnjjaa
set_option linter.unusedVariables false
set_option linter.unusedSimpArgs false
set_option linter.unusedSectionVars false
theorem impl_within.law (n lo hi : Int) (Q : Bool → Prop) (hq : Q (decide (lo ≤ n) && decide (n ≤ hi))) : impl_within.E n lo hi Q := by
  unfold impl_within.E
  by_cases h : lo ≤ n
  · rw [if_pos (by simpa using h)]; rw [decide_eq_true h, Bool.true_and] at hq; exact hq
  · rw [if_neg (by simpa using h)]; rw [decide_eq_false h, Bool.false_and] at hq; exact hq
theorem impl_within.m_is (n lo hi : Int) : impl_within.m n lo hi = (decide (lo ≤ n) && decide (n ≤ hi)) := by
  unfold impl_within.m
  by_cases h : lo ≤ n
  · rw [if_pos (by simpa using h), decide_eq_true h, Bool.true_and]
  · rw [if_neg (by simpa using h), decide_eq_false h, Bool.false_and]
end Go.Proofs.Ythkeboifjlnjjaa

namespace Go.Proofs.Ythkeboifjlnjjaa
open Go.RowKit
set_option linter.unusedVariables false
def impl_WordOk.E (s : Str) (Q : Bool → Prop) : Prop :=
  (∃ (I9 : Int → Prop) (mu10 : Int → Nat), I9 0 ∧ ∀ (v2 : Int), I9 v2 → (if decide (v2 < (s.length : Int)) then ((0 : Int) ≤ v2 ∧ v2 < (s.length : Int)) ∧ (if decide (((nth s v2).toNat : Int) < 97) then Q false else ((0 : Int) ≤ v2 ∧ v2 < (s.length : Int)) ∧ (if decide (((nth s v2).toNat : Int) > 122) then Q false else (I64 (v2 + 1)) ∧ I9 (v2 + 1) ∧ mu10 (v2 + 1) < mu10 v2)) else impl_within.E (s.length : Int) 1 6 (fun r => Q r)))
set_option maxHeartbeats 8000000 in
set_option maxRecDepth 100000 in
theorem impl_WordOk.calls {O : Ob} (w0 : World) (hO : Ok w0 O) (s : Str) (hs1 : Lim s) (Q : Bool → Prop) (h : impl_WordOk.E s Q) :
    Ret Try.prog 41 [vs s] w0 (fun v w' => ∃ (r0 : Bool), v = vb r0 ∧ Q r0 ∧ Gr w0 w' none) := by
  have H : (∃ (I9 : Int → Prop) (mu10 : Int → Nat), I9 0 ∧ ∀ (v2 : Int), I9 v2 → (if decide (v2 < (s.length : Int)) then ((0 : Int) ≤ v2 ∧ v2 < (s.length : Int)) ∧ (if decide (((nth s v2).toNat : Int) < 97) then Q false else ((0 : Int) ≤ v2 ∧ v2 < (s.length : Int)) ∧ (if decide (((nth s v2).toNat : Int) > 122) then Q false else (I64 (v2 + 1)) ∧ I9 (v2 + 1) ∧ mu10 (v2 + 1) < mu10 v2)) else impl_within.E (s.length : Int) 1 6 (fun r => Q r))) := h
  clear h
  have hc0 := Ct.init hO
  refine Ret_enter Try.func41 rfl 23 rfl [.tmp 2] rfl rfl ?_
  refine W_seq ?_
  refine W_reg ?_
  refine L_pu (P_assign (vb false) rfl) ?_
  refine L_nil ?_
  refine W_seq ?_
  refine W_seq ?_
  refine W_reg ?_
  refine L_pu (P_move (vs s) rfl) ?_
  have hl2 := hs1
  refine L_pu (P_lens Try.underlying9 s rfl) ?_
  refine L_pu (P_move (vi 0) rfl) ?_
  refine L_nil ?_
  refine W_block ?_
  obtain ⟨I9, mu10, hI11, H⟩ := H
  refine W_loop (α := Int) (fun (sv__ : Int) t w7 => match sv__ with | v2 => I9 v2 ∧ Has t [(0, vs s), (5, vi (s.length : Int)), (6, vi v2)] ∧ Ct none w0 w7 [] O) (fun (sv__ : Int) => match sv__ with | v2 => mu10 v2) 0 ⟨hI11, ⟨rfl, rfl, rfl, trivial⟩, hc0⟩ ?_
  rintro v2 _ w7 ⟨hI11, hh13, hc8⟩
  obtain ⟨u14, rfl⟩ := Has.ins hh13
  have H := H v2 hI11
  refine W_seq ?_
  refine W_reg ?_
  refine L_pu (P_cmp v2 (s.length : Int) (decide (v2 < (s.length : Int))) rfl rfl rfl) ?_
  refine L_nil ?_
  refine W_seq ?_
  refine W_cond (decide (v2 < (s.length : Int))) rfl (fun hq15 => ?_) (fun hq15 => ?_)
  · have H := ite_t H hq15
    refine W_skip ?_
    refine W_seq ?_
    refine W_block ?_
    refine W_seq ?_
    refine W_reg ?_
    refine L_pu (P_move (vi v2) rfl) ?_
    refine L_pu (P_assign (vi v2) rfl) ?_
    refine L_nil ?_
    refine W_seq ?_
    refine W_reg ?_
    refine L_pu (P_move (vs s) rfl) ?_
    refine L_pu (P_move (vi v2) rfl) ?_
    obtain ⟨hb16, H⟩ := H
    refine L_pu (P_index Try.underlying9 s v2 rfl rfl hb16) ?_
    refine L_pu (P_cmp ((nth s v2).toNat : Int) 97 (decide (((nth s v2).toNat : Int) < 97)) rfl rfl rfl) ?_
    refine L_pu (P_move (vb (decide (((nth s v2).toNat : Int) < 97))) rfl) ?_
    rcases bool_or (decide (((nth s v2).toNat : Int) < 97)) with hq17 | hq17
    · have H := ite_t H hq17
      refine L_pass (dj := 13) rfl rfl (.inl (by exact congrArg Value.bool hq17)) ?_
      refine L_pass (dj := 13) rfl rfl (.inl (by exact congrArg Value.bool hq17)) ?_
      refine L_pass (dj := 13) rfl rfl (.inl (by exact congrArg Value.bool hq17)) ?_
      refine L_pass (dj := 13) rfl rfl (.inl (by exact congrArg Value.bool hq17)) ?_
      refine L_pu (P_pick true (vb true) (by exact congrArg Value.bool hq17) rfl) ?_
      refine L_nil ?_
      refine W_ct (b := true) rfl rfl ?_
      refine W_seq ?_
      refine W_reg ?_
      refine L_pu (P_assign (vb false) rfl) ?_
      refine L_nil ?_
      refine W_ret ?_
      exact ⟨[vb false], ⟨_, rfl, rfl⟩, false, rfl, H, hc8.gr⟩
    · have H := ite_f H hq17
      refine L_run (dj := 13) rfl rfl (by exact congrArg Value.bool hq17) ?_
      refine L_pu (P_move (vs s) rfl) ?_
      refine L_run (dj := 13) rfl rfl (by exact congrArg Value.bool hq17) ?_
      refine L_pu (P_move (vi v2) rfl) ?_
      refine L_run (dj := 13) rfl rfl (by exact congrArg Value.bool hq17) ?_
      obtain ⟨hb18, H⟩ := H
      refine L_pu (P_index Try.underlying9 s v2 rfl rfl hb18) ?_
      refine L_run (dj := 13) rfl rfl (by exact congrArg Value.bool hq17) ?_
      refine L_pu (P_cmp ((nth s v2).toNat : Int) 122 (decide (((nth s v2).toNat : Int) > 122)) rfl rfl rfl) ?_
      refine L_pu (P_pick false (vb (decide (((nth s v2).toNat : Int) > 122))) (by exact congrArg Value.bool hq17) rfl) ?_
      refine L_nil ?_
      refine W_cond (decide (((nth s v2).toNat : Int) > 122)) rfl (fun hq19 => ?_) (fun hq19 => ?_)
      · have H := ite_t H hq19
        refine W_seq ?_
        refine W_reg ?_
        refine L_pu (P_assign (vb false) rfl) ?_
        refine L_nil ?_
        refine W_ret ?_
        exact ⟨[vb false], ⟨_, rfl, rfl⟩, false, rfl, H, hc8.gr⟩
      · have H := ite_f H hq19
        refine W_skip ?_
        refine W_reg ?_
        obtain ⟨hb20, H⟩ := H
        refine L_pu (P_add v2 1 rfl rfl hb20) ?_
        refine L_pu (P_move (vi (v2 + 1)) rfl) ?_
        refine L_nil ?_
        obtain ⟨hI21, hm22⟩ := H
        exact ⟨v2 + 1, hm22, hI21, ⟨rfl, rfl, rfl, trivial⟩, hc8⟩
  · have H := ite_f H hq15
    refine W_exit (xin_hit ?_)
    refine W_seq ?_
    refine W_reg ?_
    refine L_pu (P_move (vs s) rfl) ?_
    have hl23 := hs1
    refine L_pu (P_lens Try.underlying9 s rfl) ?_
    refine L_call go60 [vi (s.length : Int), vi 1, vi 6] rfl ((impl_within.calls w7 hc8.ok (s.length : Int) 1 6 _ H).mono ?_)
    rintro _ w24 ⟨r, rfl, H, g25, _⟩
    have hc29 := hc8.k0 g25
    refine L_pu (P_assign (vb r) rfl) ?_
    refine L_nil ?_
    refine W_ret ?_
    exact ⟨[vb r], ⟨_, rfl, rfl⟩, r, rfl, H, hc29.gr⟩
end Go.Proofs.Ythkeboifjlnjjaa

namespace Go.Proofs.Ythkeboifjlnjjaa
set_option linter.unusedVariables false
set_option linter.unusedSimpArgs false
set_option linter.unusedSectionVars false
theorem impl_WordOk.law (s : Str) (Q : Bool → Prop) (hl : s.length ≤ 1048576) (hq : Q (wordOk s)) : impl_WordOk.E s Q := by
  unfold impl_WordOk.E
  unfold wordOk at hq
  refine loop_all s.length (fun k => byteOk (nth s (k : Int))) (fun I mu k hk hp hn => ?_) (fun ha => ?_)
  · refine ⟨by omega, ?_⟩
    cases h1 : decide (((nth s (k : Int)).toNat : Int) < 97) with
    | true => rw [if_pos rfl]; rw [allN_false hk (by simp only [byteOk, h1]; rfl), Bool.false_and] at hq; exact hq
    | false =>
      rw [if_neg (by decide)]
      refine ⟨by omega, ?_⟩
      cases h2 : decide (((nth s (k : Int)).toNat : Int) > 122) with
      | true => rw [if_pos rfl]; rw [allN_false hk (by simp only [byteOk, h1, h2]; rfl), Bool.false_and] at hq; exact hq
      | false =>
        rw [if_neg (by decide)]
        obtain ⟨i1, i2⟩ := hn (by simp only [byteOk, h1, h2]; rfl)
        exact ⟨by unfold I64; omega, i1, i2⟩
  · rw [allN_true ha, Bool.true_and] at hq
    refine impl_within.law _ _ _ _ ?_
    have e1 : decide ((1 : Int) ≤ (s.length : Int)) = decide (1 ≤ s.length) := decide_eq_decide.2 (by omega)
    have e2 : decide ((s.length : Int) ≤ 6) = decide (s.length ≤ 6) := decide_eq_decide.2 (by omega)
    rw [e1, e2]; exact hq
end Go.Proofs.Ythkeboifjlnjjaa

namespace Go.Proofs.Ythkeboifjlnjjaa
open Go.RowKit
set_option linter.unusedVariables false
def impl_ptOk.E (p : Pt) (Q : Bool → Prop) : Prop :=
  impl_within.E p.X (-1000) 1000 (fun r => (if r then impl_within.E p.Y (-1000) 1000 (fun r2 => Q r2) else Q false))
set_option maxHeartbeats 8000000 in
set_option maxRecDepth 100000 in
theorem impl_ptOk.calls {O : Ob} (w0 : World) (hO : Ok w0 O) (p : Pt) (Q : Bool → Prop) (h : impl_ptOk.E p Q) :
    Ret Try.prog 125 [.agg #[vi p.X, vi p.Y]] w0 (fun v w' => ∃ (r0 : Bool), v = vb r0 ∧ Q r0 ∧ Gr w0 w' none) := by
  have H : impl_within.E p.X (-1000) 1000 (fun r => (if r then impl_within.E p.Y (-1000) 1000 (fun r2 => Q r2) else Q false)) := h
  clear h
  have hc0 := Ct.init hO
  refine Ret_enter Try.func125 rfl 11 rfl [.tmp 2] rfl rfl ?_
  refine W_seq ?_
  refine W_reg ?_
  refine L_box [vi p.X, vi p.Y] rfl fun w1 b2 hl4 hu5 g3 hx6 => ?_
  have h8 := Fb.mk hc0.ok hl4 hx6
  have hc9 := hc0.k0 g3
  refine L_pu (P_assign (vb false) rfl) ?_
  refine L_nil ?_
  refine W_seq ?_
  refine W_reg ?_
  refine L_pu (P_fa fa64_0 ⟨b2, 0, none⟩ ⟨b2, 0, none⟩ rfl rfl) ?_
  refine L_pu (P_ld ag3 cL ⟨b2, 0, none⟩ (vi p.X) rfl (h8.cell rfl)) ?_
  refine L_call go60 [vi p.X, vi (-1000), vi 1000] rfl ((impl_within.calls w1 hc9.ok p.X (-1000) 1000 _ H).mono ?_)
  rintro _ w10 ⟨r, rfl, H, g11, _⟩
  have hc15 := hc9.k0 g11
  refine L_pu (P_move (vb r) rfl) ?_
  rcases bool_or r with hq16 | hq16
  · have H := ite_t H hq16
    refine L_run (dj := 6) rfl rfl (by exact congrArg Value.bool hq16) ?_
    refine L_pu (P_fa fa64_1 ⟨b2, 0, none⟩ ⟨b2, 1, none⟩ rfl rfl) ?_
    refine L_run (dj := 6) rfl rfl (by exact congrArg Value.bool hq16) ?_
    have h17 := (h8.st (.new _ g11))
    refine L_pu (P_ld ag3 cL ⟨b2, 1, none⟩ (vi p.Y) rfl (h17.cell rfl)) ?_
    refine L_run (dj := 6) rfl rfl (by exact congrArg Value.bool hq16) ?_
    refine L_call go60 [vi p.Y, vi (-1000), vi 1000] rfl ((impl_within.calls w10 hc15.ok p.Y (-1000) 1000 _ H).mono ?_)
    rintro _ w18 ⟨r2, rfl, H, g19, _⟩
    have hc23 := hc15.k0 g19
    refine L_pu (P_pick true (vb r2) (by exact congrArg Value.bool hq16) rfl) ?_
    refine L_pu (P_assign (vb r2) rfl) ?_
    refine L_nil ?_
    refine W_ret ?_
    exact ⟨[vb r2], ⟨_, rfl, rfl⟩, r2, rfl, H, hc23.gr⟩
  · have H := ite_f H hq16
    refine L_pass (dj := 6) rfl rfl (.inl (by exact congrArg Value.bool hq16)) ?_
    refine L_pass (dj := 6) rfl rfl (.inl (by exact congrArg Value.bool hq16)) ?_
    refine L_pass (dj := 6) rfl rfl (.inl (by exact congrArg Value.bool hq16)) ?_
    refine L_pu (P_pick false (vb false) (by exact congrArg Value.bool hq16) rfl) ?_
    refine L_pu (P_assign (vb false) rfl) ?_
    refine L_nil ?_
    refine W_ret ?_
    exact ⟨[vb false], ⟨_, rfl, rfl⟩, false, rfl, H, hc15.gr⟩
end Go.Proofs.Ythkeboifjlnjjaa

namespace Go.Proofs.Ythkeboifjlnjjaa
set_option linter.unusedVariables false
set_option linter.unusedSimpArgs false
set_option linter.unusedSectionVars false
theorem impl_ptOk.law (p : Pt) (Q : Bool → Prop) (hq : Q (ptOk p)) : impl_ptOk.E p Q := by
  unfold impl_ptOk.E
  unfold ptOk at hq
  refine impl_within.law _ _ _ _ ?_
  change if inR p.X = true then _ else _
  cases h : inR p.X with
  | true => rw [if_pos rfl]; rw [h, Bool.true_and] at hq; exact impl_within.law _ _ _ _ hq
  | false => rw [if_neg (by decide)]; rw [h, Bool.false_and] at hq; exact hq
end Go.Proofs.Ythkeboifjlnjjaa

namespace Go.Proofs.Ythkeboifjlnjjaa
open Go.RowKit
set_option linter.unusedVariables false
def impl_ShapeOk.E (s : Shape) (Q : Bool → Prop) : Prop :=
  (∃ (I31 : Int → Prop) (mu32 : Int → Nat), I31 0 ∧ ∀ (v2 : Int), I31 v2 → (if decide (v2 < (s.Pts.length : Int)) then ((0 : Int) ≤ v2 ∧ v2 < (s.Pts.length : Int)) ∧ (∃ q : Bool, impl_ptOk.E (nth s.Pts v2) (fun x => x = q) ∧ (if !q then Q false else (if decide (v2 > 0) then (I64 (v2 - 1)) ∧ ((0 : Int) ≤ v2 - 1 ∧ v2 - 1 < (s.Pts.length : Int)) ∧ (if eqPt (nth s.Pts (v2 - 1)) (nth s.Pts v2) then Q false else (I64 (v2 + 1)) ∧ I31 (v2 + 1) ∧ mu32 (v2 + 1) < mu32 v2) else (I64 (v2 + 1)) ∧ I31 (v2 + 1) ∧ mu32 (v2 + 1) < mu32 v2))) else (if s.Kind == 1 then Q ((s.Pts.length : Int) == 1) else (if s.Kind == 2 then impl_within.E (s.Pts.length : Int) 2 6 (fun r2 => Q r2) else (if s.Kind == 3 then (if (impl_within.m (s.Pts.length : Int) 3 6) then ((0 : Int) ≤ 0 ∧ 0 < (s.Pts.length : Int)) ∧ ((s.Pts.length : Int) ≤ 9223372036854775807 → I64 ((s.Pts.length : Int) - 1)) ∧ ((0 : Int) ≤ (s.Pts.length : Int) - 1 ∧ (s.Pts.length : Int) - 1 < (s.Pts.length : Int)) ∧ Q (!(eqPt (nth s.Pts 0) (nth s.Pts ((s.Pts.length : Int) - 1)))) else Q false) else Q false)))))
set_option maxHeartbeats 8000000 in
set_option maxRecDepth 100000 in
theorem impl_ShapeOk.calls {O : Ob} (w0 : World) (hO : Ok w0 O) (s : Shape) (A1 : Option Addr) (n2 c3 : Nat) (hp4 : Sl kPt w0 (Fr O) (.slice A1 n2 c3) s.Pts) (Q : Bool → Prop) (h : impl_ShapeOk.E s Q) :
    Ret Try.prog 107 [.agg #[vi s.Kind, .slice A1 n2 c3]] w0 (fun v w' => ∃ (r0 : Bool), v = vb r0 ∧ Q r0 ∧ Gr w0 w' none) := by
  have H : (∃ (I31 : Int → Prop) (mu32 : Int → Nat), I31 0 ∧ ∀ (v2 : Int), I31 v2 → (if decide (v2 < (s.Pts.length : Int)) then ((0 : Int) ≤ v2 ∧ v2 < (s.Pts.length : Int)) ∧ (∃ q : Bool, impl_ptOk.E (nth s.Pts v2) (fun x => x = q) ∧ (if !q then Q false else (if decide (v2 > 0) then (I64 (v2 - 1)) ∧ ((0 : Int) ≤ v2 - 1 ∧ v2 - 1 < (s.Pts.length : Int)) ∧ (if eqPt (nth s.Pts (v2 - 1)) (nth s.Pts v2) then Q false else (I64 (v2 + 1)) ∧ I31 (v2 + 1) ∧ mu32 (v2 + 1) < mu32 v2) else (I64 (v2 + 1)) ∧ I31 (v2 + 1) ∧ mu32 (v2 + 1) < mu32 v2))) else (if s.Kind == 1 then Q ((s.Pts.length : Int) == 1) else (if s.Kind == 2 then impl_within.E (s.Pts.length : Int) 2 6 (fun r2 => Q r2) else (if s.Kind == 3 then (if (impl_within.m (s.Pts.length : Int) 3 6) then ((0 : Int) ≤ 0 ∧ 0 < (s.Pts.length : Int)) ∧ ((s.Pts.length : Int) ≤ 9223372036854775807 → I64 ((s.Pts.length : Int) - 1)) ∧ ((0 : Int) ≤ (s.Pts.length : Int) - 1 ∧ (s.Pts.length : Int) - 1 < (s.Pts.length : Int)) ∧ Q (!(eqPt (nth s.Pts 0) (nth s.Pts ((s.Pts.length : Int) - 1)))) else Q false) else Q false))))) := h
  clear h
  have hc0 := Ct.init hO
  refine Ret_enter Try.func107 rfl 62 rfl [.tmp 2] rfl rfl ?_
  refine W_seq ?_
  refine W_reg ?_
  refine L_box [vi s.Kind, .slice A1 n2 c3] rfl fun w6 b7 hl9 hu10 g8 hx11 => ?_
  have h13 := Fb.mk hc0.ok hl9 hx11
  have hc14 := hc0.k0 g8
  refine L_pu (P_assign (vb false) rfl) ?_
  refine L_nil ?_
  refine W_seq ?_
  refine W_seq ?_
  refine W_reg ?_
  refine L_pu (P_fa fa76_1 ⟨b7, 0, none⟩ ⟨b7, 1, none⟩ rfl rfl) ?_
  refine L_pu (P_ld ag23 cL ⟨b7, 1, none⟩ (.slice A1 n2 c3) rfl (h13.cell rfl)) ?_
  have hl15 := (hp4.st hc14.st).le
  refine L_pu (P_len Try.underlying23 A1 n2 c3 (hp4.st hc14.st).len rfl) ?_
  refine L_pu (P_move (vi 0) rfl) ?_
  refine L_nil ?_
  refine W_block ?_
  obtain ⟨I31, mu32, hI33, H⟩ := H
  refine W_loop (α := Int) (fun (sv__ : Int) t w26 => match sv__ with | v2 => I31 v2 ∧ Has t [(1, .pointer (some ⟨b7, 0, none⟩)), (7, .slice A1 n2 c3), (8, vi (s.Pts.length : Int)), (9, vi v2)] ∧ Ct none w0 w26 [] O ∧ Sl kPt w26 (Fr ([] ++ O)) (.slice A1 n2 c3) s.Pts ∧ Fb w26 ([] ++ O) b7 [vi s.Kind, .slice A1 n2 c3]) (fun (sv__ : Int) => match sv__ with | v2 => mu32 v2) 0 ⟨hI33, ⟨rfl, rfl, rfl, rfl, trivial⟩, hc14, (hp4.st hc14.st), h13⟩ ?_
  rintro v2 _ w26 ⟨hI33, hh35, hc28, h29, h30⟩
  obtain ⟨u36, rfl⟩ := Has.ins hh35
  have H := H v2 hI33
  refine W_seq ?_
  refine W_reg ?_
  refine L_pu (P_cmp v2 (s.Pts.length : Int) (decide (v2 < (s.Pts.length : Int))) rfl rfl rfl) ?_
  refine L_nil ?_
  refine W_seq ?_
  refine W_cond (decide (v2 < (s.Pts.length : Int))) rfl (fun hq37 => ?_) (fun hq37 => ?_)
  · have H := ite_t H hq37
    refine W_skip ?_
    refine W_seq ?_
    refine W_block ?_
    refine W_seq ?_
    refine W_reg ?_
    refine L_pu (P_move (vi v2) rfl) ?_
    obtain ⟨hb38, H⟩ := H
    obtain ⟨ad39, cs40, hA41, hS44, hR42, hcl43⟩ := h29.get default (by decide) v2 hb38
    obtain rfl := kPt.op hR42
    refine L_pu (P_ia Try.underlying23 se23 A1 ad39 n2 c3 h29.len v2 rfl hA41 rfl hb38) ?_
    refine L_pu (P_lda ag64 sz64 cL (ad39.add (v2.toNat * 2)) [vi ((nth s.Pts v2).X), vi ((nth s.Pts v2).Y)] rfl rfl hcl43) ?_
    refine L_alloc [.int .i64 0, .int .i64 0] ze64 fun w45 b46 hl48 hu49 g47 hx50 => ?_
    have hc52 := hc28.own g47 (some b46) (oglt hl48 hu49)
    refine L_pu (P_assign (vi v2) rfl) ?_
    refine L_stb b46 0 [vi 0, vi 0] [vi ((nth s.Pts v2).X), vi ((nth s.Pts v2).Y)] [vi ((nth s.Pts v2).X), vi ((nth s.Pts v2).Y)] rfl hx50 rfl sz64 rfl rfl rfl fun w53 g54 hx55 => ?_
    have hc56 := hc52.wr 0 rfl g54
    refine L_nil ?_
    refine W_seq ?_
    refine W_draw (fun x => Gr w53 x none) (by kernel_rfl) (by kernel_rfl) (Gr.drew _) ?_
    refine Q_pu (P_lda ag64 sz64 cQ ⟨b46, 0, none⟩ [vi ((nth s.Pts v2).X), vi ((nth s.Pts v2).Y)] rfl rfl (hx55.cells (off := 0) rfl)) ?_
    obtain ⟨q, hE62, H⟩ := H
    refine Q_call go125 [.agg #[vi ((nth s.Pts v2).X), vi ((nth s.Pts v2).Y)]] rfl (vb q) (fun w g => (impl_ptOk.calls w (hc56.k0 g).ok (nth s.Pts v2) _ hE62).mono ?_) ?_
    · rintro _ w ⟨r, rfl, rfl, g2⟩
      exact ⟨rfl, Gr.t0 g g2⟩
    refine Q_pu (P_not q rfl) ?_
    refine Q_pu (P_move (vb (!q)) rfl) ?_
    rcases bool_or (!q) with hq64 | hq64
    · have H := ite_t H hq64
      refine Q_pass (dj := 17) rfl rfl (.inl (by exact congrArg Value.bool hq64)) ?_
      refine Q_pass (dj := 17) rfl rfl (.inl (by exact congrArg Value.bool hq64)) ?_
      refine Q_pass (dj := 17) rfl rfl (.inl (by exact congrArg Value.bool hq64)) ?_
      refine Q_pass (dj := 20) rfl rfl (.inr rfl) ?_
      refine Q_pass (dj := 20) rfl rfl (.inr rfl) ?_
      refine Q_pass (dj := 20) rfl rfl (.inr rfl) ?_
      refine Q_pass (dj := 20) rfl rfl (.inr rfl) ?_
      refine Q_pass (dj := 20) rfl rfl (.inr rfl) ?_
      refine Q_pass (dj := 20) rfl rfl (.inr rfl) ?_
      refine Q_pass (dj := 20) rfl rfl (.inr rfl) ?_
      refine Q_pass (dj := 20) rfl rfl (.inr rfl) ?_
      refine Q_pass (dj := 17) rfl rfl (.inl (by exact congrArg Value.bool hq64)) ?_
      refine Q_pu (P_pick true (vb true) (by exact congrArg Value.bool hq64) rfl) ?_
      refine Q_nil fun w65 g66 => ?_
      have hc68 := hc56.k0 g66
      refine W_ct (b := true) rfl rfl ?_
      refine W_seq ?_
      refine W_reg ?_
      refine L_pu (P_assign (vb false) rfl) ?_
      refine L_nil ?_
      refine W_ret ?_
      have hc69 := hc68.drop 0 rfl
      exact ⟨[vb false], ⟨_, rfl, rfl⟩, false, rfl, H, hc69.gr⟩
    · have H := ite_f H hq64
      refine Q_run (dj := 17) rfl rfl (by exact congrArg Value.bool hq64) ?_
      refine Q_pu (P_move (vi v2) rfl) ?_
      refine Q_run (dj := 17) rfl rfl (by exact congrArg Value.bool hq64) ?_
      refine Q_pu (P_cmp v2 0 (decide (v2 > 0)) rfl rfl rfl) ?_
      refine Q_run (dj := 17) rfl rfl (by exact congrArg Value.bool hq64) ?_
      refine Q_pu (P_move (vb (decide (v2 > 0))) rfl) ?_
      rcases bool_or (decide (v2 > 0)) with hq70 | hq70
      · have H := ite_t H hq70
        refine Q_run (dj := 20) rfl rfl (by exact congrArg Value.bool hq70) ?_
        refine Q_pu (P_fa fa76_1 ⟨b7, 0, none⟩ ⟨b7, 1, none⟩ rfl rfl) ?_
        refine Q_run (dj := 20) rfl rfl (by exact congrArg Value.bool hq70) ?_
        have h71 := ((h30.st (.own _ _ g47 (oge hl48))).st (.wl (L := [some b46]) (O := O) (j := 0) rfl g54))
        refine Q_pu (P_ld ag23 cQ ⟨b7, 1, none⟩ (.slice A1 n2 c3) rfl (h71.cell rfl)) ?_
        refine Q_run (dj := 20) rfl rfl (by exact congrArg Value.bool hq70) ?_
        refine Q_pu (P_move (vi v2) rfl) ?_
        refine Q_run (dj := 20) rfl rfl (by exact congrArg Value.bool hq70) ?_
        obtain ⟨hb72, H⟩ := H
        refine Q_pu (P_sub v2 1 rfl rfl hb72) ?_
        refine Q_run (dj := 20) rfl rfl (by exact congrArg Value.bool hq70) ?_
        obtain ⟨hb73, H⟩ := H
        have h80 := ((h29.st (.own _ _ g47 (oge hl48))).st (.wl (L := [some b46]) (O := O) (j := 0) rfl g54))
        obtain ⟨ad74, cs75, hA76, hS79, hR77, hcl78⟩ := h80.get default (by decide) (v2 - 1) hb73
        obtain rfl := kPt.op hR77
        refine Q_pu (P_ia Try.underlying23 se23 A1 ad74 n2 c3 h80.len (v2 - 1) rfl hA76 rfl hb73) ?_
        refine Q_run (dj := 20) rfl rfl (by exact congrArg Value.bool hq70) ?_
        refine Q_pu (P_lda ag64 sz64 cQ (ad74.add ((v2 - 1).toNat * 2)) [vi ((nth s.Pts (v2 - 1)).X), vi ((nth s.Pts (v2 - 1)).Y)] rfl rfl hcl78) ?_
        refine Q_run (dj := 20) rfl rfl (by exact congrArg Value.bool hq70) ?_
        refine Q_pu (P_lda ag64 sz64 cQ ⟨b46, 0, none⟩ [vi ((nth s.Pts v2).X), vi ((nth s.Pts v2).Y)] rfl rfl (hx55.cells (off := 0) rfl)) ?_
        refine Q_run (dj := 20) rfl rfl (by exact congrArg Value.bool hq70) ?_
        refine Q_pu (P_eq _ _ (eqPt (nth s.Pts (v2 - 1)) (nth s.Pts v2)) (qt64 (nth s.Pts (v2 - 1)) (nth s.Pts v2)) rfl rfl) ?_
        refine Q_run (dj := 17) rfl rfl (by exact congrArg Value.bool hq64) ?_
        refine Q_pu (P_pick true (vb (eqPt (nth s.Pts (v2 - 1)) (nth s.Pts v2))) (by exact congrArg Value.bool hq70) rfl) ?_
        refine Q_pu (P_pick false (vb (eqPt (nth s.Pts (v2 - 1)) (nth s.Pts v2))) (by exact congrArg Value.bool hq64) rfl) ?_
        refine Q_nil fun w81 g82 => ?_
        have hc84 := hc56.k0 g82
        refine W_cond (eqPt (nth s.Pts (v2 - 1)) (nth s.Pts v2)) rfl (fun hq85 => ?_) (fun hq85 => ?_)
        · have H := ite_t H hq85
          refine W_seq ?_
          refine W_reg ?_
          refine L_pu (P_assign (vb false) rfl) ?_
          refine L_nil ?_
          refine W_ret ?_
          have hc86 := hc84.drop 0 rfl
          exact ⟨[vb false], ⟨_, rfl, rfl⟩, false, rfl, H, hc86.gr⟩
        · have H := ite_f H hq85
          refine W_skip ?_
          refine W_reg ?_
          obtain ⟨hb87, H⟩ := H
          refine L_pu (P_add v2 1 rfl rfl hb87) ?_
          refine L_pu (P_move (vi (v2 + 1)) rfl) ?_
          refine L_nil ?_
          have hc88 := hc84.drop 0 rfl
          obtain ⟨hI89, hm90⟩ := H
          have h91 := ((h80.st (.new _ g82)).st (.dr _ (L := [some b46]) (O := O) (j := 0) rfl))
          have h92 := ((h71.st (.new _ g82)).st (.dr _ (L := [some b46]) (O := O) (j := 0) rfl))
          exact ⟨v2 + 1, hm90, hI89, ⟨rfl, rfl, rfl, rfl, trivial⟩, hc88, h91, h92⟩
      · have H := ite_f H hq70
        refine Q_pass (dj := 20) rfl rfl (.inl (by exact congrArg Value.bool hq70)) ?_
        refine Q_pass (dj := 20) rfl rfl (.inl (by exact congrArg Value.bool hq70)) ?_
        refine Q_pass (dj := 20) rfl rfl (.inl (by exact congrArg Value.bool hq70)) ?_
        refine Q_pass (dj := 20) rfl rfl (.inl (by exact congrArg Value.bool hq70)) ?_
        refine Q_pass (dj := 20) rfl rfl (.inl (by exact congrArg Value.bool hq70)) ?_
        refine Q_pass (dj := 20) rfl rfl (.inl (by exact congrArg Value.bool hq70)) ?_
        refine Q_pass (dj := 20) rfl rfl (.inl (by exact congrArg Value.bool hq70)) ?_
        refine Q_pass (dj := 20) rfl rfl (.inl (by exact congrArg Value.bool hq70)) ?_
        refine Q_run (dj := 17) rfl rfl (by exact congrArg Value.bool hq64) ?_
        refine Q_pu (P_pick false (vb false) (by exact congrArg Value.bool hq70) rfl) ?_
        refine Q_pu (P_pick false (vb false) (by exact congrArg Value.bool hq64) rfl) ?_
        refine Q_nil fun w93 g94 => ?_
        have hc96 := hc56.k0 g94
        refine W_cf (b := false) rfl rfl ?_
        refine W_skip ?_
        refine W_reg ?_
        obtain ⟨hb97, H⟩ := H
        refine L_pu (P_add v2 1 rfl rfl hb97) ?_
        refine L_pu (P_move (vi (v2 + 1)) rfl) ?_
        refine L_nil ?_
        have hc98 := hc96.drop 0 rfl
        obtain ⟨hI99, hm100⟩ := H
        have h101 := ((((h29.st (.own _ _ g47 (oge hl48))).st (.wl (L := [some b46]) (O := O) (j := 0) rfl g54)).st (.new _ g94)).st (.dr _ (L := [some b46]) (O := O) (j := 0) rfl))
        have h102 := ((((h30.st (.own _ _ g47 (oge hl48))).st (.wl (L := [some b46]) (O := O) (j := 0) rfl g54)).st (.new _ g94)).st (.dr _ (L := [some b46]) (O := O) (j := 0) rfl))
        exact ⟨v2 + 1, hm100, hI99, ⟨rfl, rfl, rfl, rfl, trivial⟩, hc98, h101, h102⟩
  · have H := ite_f H hq37
    refine W_exit (xin_hit ?_)
    refine W_seq ?_
    refine W_reg ?_
    refine L_pu (P_fa fa76_1 ⟨b7, 0, none⟩ ⟨b7, 1, none⟩ rfl rfl) ?_
    refine L_pu (P_ld ag23 cL ⟨b7, 1, none⟩ (.slice A1 n2 c3) rfl (h30.cell rfl)) ?_
    have hl103 := h29.le
    refine L_pu (P_len Try.underlying23 A1 n2 c3 h29.len rfl) ?_
    refine L_pu (P_assign (vi (s.Pts.length : Int)) rfl) ?_
    refine L_nil ?_
    refine W_seq ?_
    refine W_seq ?_
    refine W_reg ?_
    refine L_pu (P_fa fa76_0 ⟨b7, 0, none⟩ ⟨b7, 0, none⟩ rfl rfl) ?_
    refine L_pu (P_ld ag3 cL ⟨b7, 0, none⟩ (vi s.Kind) rfl (h30.cell rfl)) ?_
    refine L_nil ?_
    refine W_block ?_
    refine W_seq ?_
    refine W_reg ?_
    refine L_pu (P_cmp s.Kind 1 (s.Kind == 1) rfl rfl rfl) ?_
    refine L_pu (P_assign (vb (s.Kind == 1)) rfl) ?_
    refine L_nil ?_
    refine W_cond (s.Kind == 1) rfl (fun hq104 => ?_) (fun hq104 => ?_)
    · have H := ite_t H hq104
      refine W_seq ?_
      refine W_reg ?_
      refine L_pu (P_move (vi (s.Pts.length : Int)) rfl) ?_
      refine L_pu (P_cmp (s.Pts.length : Int) 1 ((s.Pts.length : Int) == 1) rfl rfl rfl) ?_
      refine L_pu (P_assign (vb ((s.Pts.length : Int) == 1)) rfl) ?_
      refine L_nil ?_
      refine W_ret ?_
      exact ⟨[vb ((s.Pts.length : Int) == 1)], ⟨_, rfl, rfl⟩, (s.Pts.length : Int) == 1, rfl, H, hc28.gr⟩
    · have H := ite_f H hq104
      refine W_seq ?_
      refine W_reg ?_
      refine L_pu (P_cmp s.Kind 2 (s.Kind == 2) rfl rfl rfl) ?_
      refine L_pu (P_assign (vb (s.Kind == 2)) rfl) ?_
      refine L_nil ?_
      refine W_cond (s.Kind == 2) rfl (fun hq105 => ?_) (fun hq105 => ?_)
      · have H := ite_t H hq105
        refine W_seq ?_
        refine W_reg ?_
        refine L_pu (P_move (vi (s.Pts.length : Int)) rfl) ?_
        refine L_call go60 [vi (s.Pts.length : Int), vi 2, vi 6] rfl ((impl_within.calls w26 hc28.ok (s.Pts.length : Int) 2 6 _ H).mono ?_)
        rintro _ w106 ⟨r2, rfl, H, g107, _⟩
        have hc111 := hc28.k0 g107
        refine L_pu (P_assign (vb r2) rfl) ?_
        refine L_nil ?_
        refine W_ret ?_
        exact ⟨[vb r2], ⟨_, rfl, rfl⟩, r2, rfl, H, hc111.gr⟩
      · have H := ite_f H hq105
        refine W_seq ?_
        refine W_reg ?_
        refine L_pu (P_cmp s.Kind 3 (s.Kind == 3) rfl rfl rfl) ?_
        refine L_pu (P_assign (vb (s.Kind == 3)) rfl) ?_
        refine L_nil ?_
        refine W_cond (s.Kind == 3) rfl (fun hq112 => ?_) (fun hq112 => ?_)
        · have H := ite_t H hq112
          refine W_seq ?_
          refine W_draw (fun x => Gr w26 x none) (by kernel_rfl) (by kernel_rfl) (Gr.drew _) ?_
          refine Q_pu (P_move (vi (s.Pts.length : Int)) rfl) ?_
          refine Q_call go60 [vi (s.Pts.length : Int), vi 3, vi 6] rfl (vb (impl_within.m (s.Pts.length : Int) 3 6)) (fun w g => (impl_within.calls w (hc28.k0 g).ok (s.Pts.length : Int) 3 6 _ (impl_within.fn (s.Pts.length : Int) 3 6)).mono ?_) ?_
          · rintro _ w ⟨r, rfl, rfl, g2, _⟩
            exact ⟨rfl, Gr.t0 g g2⟩
          refine Q_pu (P_move (vb (impl_within.m (s.Pts.length : Int) 3 6)) rfl) ?_
          rcases bool_or (impl_within.m (s.Pts.length : Int) 3 6) with hq118 | hq118
          · have H := ite_t H hq118
            refine Q_run (dj := 49) rfl rfl (by exact congrArg Value.bool hq118) ?_
            refine Q_pu (P_fa fa76_1 ⟨b7, 0, none⟩ ⟨b7, 1, none⟩ rfl rfl) ?_
            refine Q_run (dj := 49) rfl rfl (by exact congrArg Value.bool hq118) ?_
            refine Q_pu (P_ld ag23 cQ ⟨b7, 1, none⟩ (.slice A1 n2 c3) rfl (h30.cell rfl)) ?_
            refine Q_run (dj := 49) rfl rfl (by exact congrArg Value.bool hq118) ?_
            obtain ⟨hb119, H⟩ := H
            obtain ⟨ad120, cs121, hA122, hS125, hR123, hcl124⟩ := h29.get default (by decide) 0 hb119
            obtain rfl := kPt.op hR123
            refine Q_pu (P_ia Try.underlying23 se23 A1 ad120 n2 c3 h29.len 0 rfl hA122 rfl hb119) ?_
            refine Q_run (dj := 49) rfl rfl (by exact congrArg Value.bool hq118) ?_
            refine Q_pu (P_lda ag64 sz64 cQ (ad120.add ((0 : Int).toNat * 2)) [vi ((nth s.Pts 0).X), vi ((nth s.Pts 0).Y)] rfl rfl hcl124) ?_
            refine Q_run (dj := 49) rfl rfl (by exact congrArg Value.bool hq118) ?_
            refine Q_pu (P_fa fa76_1 ⟨b7, 0, none⟩ ⟨b7, 1, none⟩ rfl rfl) ?_
            refine Q_run (dj := 49) rfl rfl (by exact congrArg Value.bool hq118) ?_
            refine Q_pu (P_ld ag23 cQ ⟨b7, 1, none⟩ (.slice A1 n2 c3) rfl (h30.cell rfl)) ?_
            refine Q_run (dj := 49) rfl rfl (by exact congrArg Value.bool hq118) ?_
            refine Q_pu (P_move (vi (s.Pts.length : Int)) rfl) ?_
            refine Q_run (dj := 49) rfl rfl (by exact congrArg Value.bool hq118) ?_
            obtain ⟨hb126, H⟩ := H
            have hi127 := hb126 (len_le hl103)
            refine Q_pu (P_sub (s.Pts.length : Int) 1 rfl rfl hi127) ?_
            refine Q_run (dj := 49) rfl rfl (by exact congrArg Value.bool hq118) ?_
            obtain ⟨hb128, H⟩ := H
            obtain ⟨ad129, cs130, hA131, hS134, hR132, hcl133⟩ := h29.get default (by decide) ((s.Pts.length : Int) - 1) hb128
            obtain rfl := kPt.op hR132
            refine Q_pu (P_ia Try.underlying23 se23 A1 ad129 n2 c3 h29.len ((s.Pts.length : Int) - 1) rfl hA131 rfl hb128) ?_
            refine Q_run (dj := 49) rfl rfl (by exact congrArg Value.bool hq118) ?_
            refine Q_pu (P_lda ag64 sz64 cQ (ad129.add (((s.Pts.length : Int) - 1).toNat * 2)) [vi ((nth s.Pts ((s.Pts.length : Int) - 1)).X), vi ((nth s.Pts ((s.Pts.length : Int) - 1)).Y)] rfl rfl hcl133) ?_
            refine Q_run (dj := 49) rfl rfl (by exact congrArg Value.bool hq118) ?_
            refine Q_pu (P_ne _ _ (eqPt (nth s.Pts 0) (nth s.Pts ((s.Pts.length : Int) - 1))) (qt64 (nth s.Pts 0) (nth s.Pts ((s.Pts.length : Int) - 1))) rfl rfl) ?_
            refine Q_pu (P_pick true (vb (!(eqPt (nth s.Pts 0) (nth s.Pts ((s.Pts.length : Int) - 1))))) (by exact congrArg Value.bool hq118) rfl) ?_
            refine Q_pu (P_assign (vb (!(eqPt (nth s.Pts 0) (nth s.Pts ((s.Pts.length : Int) - 1))))) rfl) ?_
            refine Q_nil fun w135 g136 => ?_
            have hc138 := hc28.k0 g136
            refine W_ret ?_
            exact ⟨[vb (!(eqPt (nth s.Pts 0) (nth s.Pts ((s.Pts.length : Int) - 1))))], ⟨_, rfl, rfl⟩, !(eqPt (nth s.Pts 0) (nth s.Pts ((s.Pts.length : Int) - 1))), rfl, H, hc138.gr⟩
          · have H := ite_f H hq118
            refine Q_pass (dj := 49) rfl rfl (.inl (by exact congrArg Value.bool hq118)) ?_
            refine Q_pass (dj := 49) rfl rfl (.inl (by exact congrArg Value.bool hq118)) ?_
            refine Q_pass (dj := 49) rfl rfl (.inl (by exact congrArg Value.bool hq118)) ?_
            refine Q_pass (dj := 49) rfl rfl (.inl (by exact congrArg Value.bool hq118)) ?_
            refine Q_pass (dj := 49) rfl rfl (.inl (by exact congrArg Value.bool hq118)) ?_
            refine Q_pass (dj := 49) rfl rfl (.inl (by exact congrArg Value.bool hq118)) ?_
            refine Q_pass (dj := 49) rfl rfl (.inl (by exact congrArg Value.bool hq118)) ?_
            refine Q_pass (dj := 49) rfl rfl (.inl (by exact congrArg Value.bool hq118)) ?_
            refine Q_pass (dj := 49) rfl rfl (.inl (by exact congrArg Value.bool hq118)) ?_
            refine Q_pass (dj := 49) rfl rfl (.inl (by exact congrArg Value.bool hq118)) ?_
            refine Q_pass (dj := 49) rfl rfl (.inl (by exact congrArg Value.bool hq118)) ?_
            refine Q_pu (P_pick false (vb false) (by exact congrArg Value.bool hq118) rfl) ?_
            refine Q_pu (P_assign (vb false) rfl) ?_
            refine Q_nil fun w139 g140 => ?_
            have hc142 := hc28.k0 g140
            refine W_ret ?_
            exact ⟨[vb false], ⟨_, rfl, rfl⟩, false, rfl, H, hc142.gr⟩
        · have H := ite_f H hq112
          refine W_skip ?_
          refine W_seq ?_
          refine W_reg ?_
          refine L_pu (P_assign (vb false) rfl) ?_
          refine L_nil ?_
          refine W_ret ?_
          exact ⟨[vb false], ⟨_, rfl, rfl⟩, false, rfl, H, hc28.gr⟩
end Go.Proofs.Ythkeboifjlnjjaa

namespace Go.Proofs.Ythkeboifjlnjjaa
set_option linter.unusedVariables false
set_option linter.unusedSimpArgs false
set_option linter.unusedSectionVars false
theorem impl_ShapeOk.law (s : Shape) (Q : Bool → Prop) (hl : s.Pts.length ≤ 1048576) (hq : Q (shapeOk s)) : impl_ShapeOk.E s Q := by
  unfold impl_ShapeOk.E
  unfold shapeOk ptsOk at hq
  refine loop_all s.Pts.length (fun k => ptOk (nth s.Pts (k : Int)) && (decide (k = 0) || !(decide (nth s.Pts ((k : Int) - 1) = nth s.Pts (k : Int))))) (fun I mu k hk hp hn => ?_) (fun ha => ?_)
  · refine ⟨by omega, _, impl_ptOk.law _ _ rfl, ?_⟩
    have bad : (ptOk (nth s.Pts (k : Int)) && (decide (k = 0) || !(decide (nth s.Pts ((k : Int) - 1) = nth s.Pts (k : Int))))) = false → Q false := fun h => by
      rw [allN_false hk h, Bool.false_and] at hq; exact hq
    cases h1 : ptOk (nth s.Pts (k : Int)) with
    | false => rw [if_pos (by decide)]; exact bad (by rw [h1]; rfl)
    | true =>
      rw [if_neg (by decide)]
      by_cases hk0 : k = 0
      · rw [if_neg (by rw [decide_eq_true_eq]; omega)]
        obtain ⟨i1, i2⟩ := hn (by rw [h1, decide_eq_true hk0]; rfl)
        exact ⟨by unfold I64; omega, i1, i2⟩
      · rw [if_pos (by rw [decide_eq_true_eq]; omega)]
        refine ⟨by unfold I64; omega, by omega, ?_⟩
        rw [eqPt_is]
        by_cases he : nth s.Pts ((k : Int) - 1) = nth s.Pts (k : Int)
        · rw [if_pos (by rw [decide_eq_true_eq]; exact he)]
          exact bad (by rw [h1, decide_eq_false hk0, decide_eq_true he]; rfl)
        · rw [if_neg (by rw [decide_eq_true_eq]; exact he)]
          obtain ⟨i1, i2⟩ := hn (by simp only [h1, decide_eq_false hk0, decide_eq_false he]; rfl)
          exact ⟨by unfold I64; omega, i1, i2⟩
  · rw [allN_true ha, Bool.true_and] at hq
    unfold kindOk at hq
    by_cases k1 : s.Kind = 1
    · rw [if_pos k1] at hq
      rw [if_pos (by rw [beq_iff_eq]; exact k1)]
      have : ((s.Pts.length : Int) == 1) = decide (s.Pts.length = 1) := by rw [Bool.eq_iff_iff, beq_iff_eq, decide_eq_true_eq]; omega
      rw [this]; exact hq
    rw [if_neg k1] at hq
    rw [if_neg (by rw [beq_iff_eq]; exact k1)]
    have e2 : decide ((2 : Int) ≤ (s.Pts.length : Int)) = decide (2 ≤ s.Pts.length) := decide_eq_decide.2 (by omega)
    have e3 : decide ((3 : Int) ≤ (s.Pts.length : Int)) = decide (3 ≤ s.Pts.length) := decide_eq_decide.2 (by omega)
    have e6 : decide ((s.Pts.length : Int) ≤ 6) = decide (s.Pts.length ≤ 6) := decide_eq_decide.2 (by omega)
    by_cases k2 : s.Kind = 2
    · rw [if_pos k2] at hq
      rw [if_pos (by rw [beq_iff_eq]; exact k2)]
      refine impl_within.law _ _ _ _ ?_
      rw [e2, e6]; exact hq
    rw [if_neg k2] at hq
    rw [if_neg (by rw [beq_iff_eq]; exact k2)]
    by_cases k3 : s.Kind = 3
    · rw [if_pos k3] at hq
      rw [if_pos (by rw [beq_iff_eq]; exact k3), impl_within.m_is, e3, e6]
      cases hc : decide (3 ≤ s.Pts.length) && decide (s.Pts.length ≤ 6) with
      | true =>
        rw [hc, Bool.true_and] at hq
        rw [Bool.and_eq_true, decide_eq_true_eq, decide_eq_true_eq] at hc
        rw [if_pos rfl, eqPt_is]
        exact ⟨by omega, fun _ => by unfold I64; omega, by omega, hq⟩
      | false =>
        rw [hc, Bool.false_and] at hq
        rw [if_neg (by decide)]; exact hq
    · rw [if_neg k3] at hq
      rw [if_neg (by rw [beq_iff_eq]; exact k3)]; exact hq
end Go.Proofs.Ythkeboifjlnjjaa

namespace Go.Proofs.Ythkeboifjlnjjaa
open Go.RowKit
set_option linter.unusedVariables false
def impl_FeatOk.E (f : Feat) (Q : Bool → Prop) : Prop :=
  (∃ (I43 : Int → Prop) (mu44 : Int → Nat), I43 0 ∧ ∀ (v2 : Int), I43 v2 → (if decide (v2 < (f.Tags.length : Int)) then ((0 : Int) ≤ v2 ∧ v2 < (f.Tags.length : Int)) ∧ (∃ q : Bool, impl_WordOk.E ((nth f.Tags v2).Key) (fun x => x = q) ∧ (if !q then Q false else (∃ q2 : Bool, impl_WordOk.E ((nth f.Tags v2).Val) (fun x => x = q2) ∧ (if !q2 then Q false else (if decide (v2 > 0) then (I64 (v2 - 1)) ∧ ((0 : Int) ≤ v2 - 1 ∧ v2 - 1 < (f.Tags.length : Int)) ∧ (if !(Op.bytesLess ((nth f.Tags (v2 - 1)).Key) ((nth f.Tags v2).Key)) then Q false else (I64 (v2 + 1)) ∧ I43 (v2 + 1) ∧ mu44 (v2 + 1) < mu44 v2) else (I64 (v2 + 1)) ∧ I43 (v2 + 1) ∧ mu44 (v2 + 1) < mu44 v2))))) else impl_WordOk.E f.Id (fun r3 => (if r3 then impl_ShapeOk.E f.Shape (fun r4 => (if r4 then Q (decide ((f.Tags.length : Int) ≤ 4)) else Q false)) else Q false))))
set_option maxHeartbeats 8000000 in
set_option maxRecDepth 100000 in
theorem impl_FeatOk.calls {O : Ob} (w0 : World) (hO : Ok w0 O) (f : Feat) (A2 : Option Addr) (n3 c4 : Nat) (A7 : Option Addr) (n8 c9 : Nat) (hs1 : Lim f.Id) (hp5 : Sl kPt w0 (Fr O) (.slice A2 n3 c4) f.Shape.Pts) (hp10 : Sl kTag w0 (Fr O) (.slice A7 n8 c9) f.Tags) (Q : Bool → Prop) (h : impl_FeatOk.E f Q) :
    Ret Try.prog 79 [.agg #[vs f.Id, vi f.Shape.Kind, .slice A2 n3 c4, .slice A7 n8 c9]] w0 (fun v w' => ∃ (r0 : Bool), v = vb r0 ∧ Q r0 ∧ Gr w0 w' none) := by
  have H : (∃ (I43 : Int → Prop) (mu44 : Int → Nat), I43 0 ∧ ∀ (v2 : Int), I43 v2 → (if decide (v2 < (f.Tags.length : Int)) then ((0 : Int) ≤ v2 ∧ v2 < (f.Tags.length : Int)) ∧ (∃ q : Bool, impl_WordOk.E ((nth f.Tags v2).Key) (fun x => x = q) ∧ (if !q then Q false else (∃ q2 : Bool, impl_WordOk.E ((nth f.Tags v2).Val) (fun x => x = q2) ∧ (if !q2 then Q false else (if decide (v2 > 0) then (I64 (v2 - 1)) ∧ ((0 : Int) ≤ v2 - 1 ∧ v2 - 1 < (f.Tags.length : Int)) ∧ (if !(Op.bytesLess ((nth f.Tags (v2 - 1)).Key) ((nth f.Tags v2).Key)) then Q false else (I64 (v2 + 1)) ∧ I43 (v2 + 1) ∧ mu44 (v2 + 1) < mu44 v2) else (I64 (v2 + 1)) ∧ I43 (v2 + 1) ∧ mu44 (v2 + 1) < mu44 v2))))) else impl_WordOk.E f.Id (fun r3 => (if r3 then impl_ShapeOk.E f.Shape (fun r4 => (if r4 then Q (decide ((f.Tags.length : Int) ≤ 4)) else Q false)) else Q false)))) := h
  clear h
  have hc0 := Ct.init hO
  refine Ret_enter Try.func79 rfl 54 rfl [.tmp 2] rfl rfl ?_
  refine W_seq ?_
  refine W_reg ?_
  refine L_box [vs f.Id, vi f.Shape.Kind, .slice A2 n3 c4, .slice A7 n8 c9] rfl fun w12 b13 hl15 hu16 g14 hx17 => ?_
  have h19 := Fb.mk hc0.ok hl15 hx17
  have hc20 := hc0.k0 g14
  refine L_pu (P_assign (vb false) rfl) ?_
  refine L_nil ?_
  refine W_seq ?_
  refine W_seq ?_
  refine W_reg ?_
  refine L_pu (P_fa fa79_2 ⟨b13, 0, none⟩ ⟨b13, 3, none⟩ rfl rfl) ?_
  refine L_pu (P_ld ag77 cL ⟨b13, 3, none⟩ (.slice A7 n8 c9) rfl (h19.cell rfl)) ?_
  have hl21 := (hp10.st hc20.st).le
  refine L_pu (P_len Try.underlying77 A7 n8 c9 (hp10.st hc20.st).len rfl) ?_
  refine L_pu (P_move (vi 0) rfl) ?_
  refine L_nil ?_
  refine W_block ?_
  obtain ⟨I43, mu44, hI45, H⟩ := H
  refine W_loop (α := Int) (fun (sv__ : Int) t w36 => match sv__ with | v2 => I43 v2 ∧ Has t [(1, .pointer (some ⟨b13, 0, none⟩)), (6, .slice A7 n8 c9), (7, vi (f.Tags.length : Int)), (8, vi v2)] ∧ Ct none w0 w36 [] O ∧ Sl kTag w36 (Fr ([] ++ O)) (.slice A7 n8 c9) f.Tags ∧ Sl kPt w36 (Fr ([] ++ O)) (.slice A2 n3 c4) f.Shape.Pts ∧ Fb w36 ([] ++ O) b13 [vs f.Id, vi f.Shape.Kind, .slice A2 n3 c4, .slice A7 n8 c9]) (fun (sv__ : Int) => match sv__ with | v2 => mu44 v2) 0 ⟨hI45, ⟨rfl, rfl, rfl, rfl, trivial⟩, hc20, (hp10.st hc20.st), (hp5.st hc20.st), h19⟩ ?_
  rintro v2 _ w36 ⟨hI45, hh47, hc39, h40, h41, h42⟩
  obtain ⟨u48, rfl⟩ := Has.ins hh47
  have H := H v2 hI45
  refine W_seq ?_
  refine W_reg ?_
  refine L_pu (P_cmp v2 (f.Tags.length : Int) (decide (v2 < (f.Tags.length : Int))) rfl rfl rfl) ?_
  refine L_nil ?_
  refine W_seq ?_
  refine W_cond (decide (v2 < (f.Tags.length : Int))) rfl (fun hq49 => ?_) (fun hq49 => ?_)
  · have H := ite_t H hq49
    refine W_skip ?_
    refine W_seq ?_
    refine W_block ?_
    refine W_seq ?_
    refine W_reg ?_
    refine L_pu (P_move (vi v2) rfl) ?_
    obtain ⟨hb50, H⟩ := H
    obtain ⟨ad51, cs52, hA53, hS56, hR54, hcl55⟩ := h40.get default (by decide) v2 hb50
    obtain ⟨rfl, hs57, hs58⟩ := kTag.op hR54
    refine L_pu (P_ia Try.underlying77 se77 A7 ad51 n8 c9 h40.len v2 rfl hA53 rfl hb50) ?_
    refine L_pu (P_lda ag149 sz149 cL (ad51.add (v2.toNat * 2)) [vs ((nth f.Tags v2).Key), vs ((nth f.Tags v2).Val)] rfl rfl hcl55) ?_
    refine L_alloc [vs [], vs []] ze149 fun w59 b60 hl62 hu63 g61 hx64 => ?_
    have hc66 := hc39.own g61 (some b60) (oglt hl62 hu63)
    refine L_pu (P_assign (vi v2) rfl) ?_
    refine L_stb b60 0 [vs ([] : Str), vs ([] : Str)] [vs ((nth f.Tags v2).Key), vs ((nth f.Tags v2).Val)] [vs ((nth f.Tags v2).Key), vs ((nth f.Tags v2).Val)] rfl hx64 rfl sz149 rfl rfl rfl fun w67 g68 hx69 => ?_
    have hc70 := hc66.wr 0 rfl g68
    refine L_nil ?_
    refine W_seq ?_
    refine W_draw (fun x => Gr w67 x none) (by kernel_rfl) (by kernel_rfl) (Gr.drew _) ?_
    refine Q_pu (P_fa fa149_0 ⟨b60, 0, none⟩ ⟨b60, 0, none⟩ rfl rfl) ?_
    refine Q_pu (P_ld ag9 cQ ⟨b60, 0, none⟩ (vs ((nth f.Tags v2).Key)) rfl (hx69.cell rfl)) ?_
    obtain ⟨q, hE76, H⟩ := H
    refine Q_call go41 [vs ((nth f.Tags v2).Key)] rfl (vb q) (fun w g => (impl_WordOk.calls w (hc70.k0 g).ok ((nth f.Tags v2).Key) hs57 _ hE76).mono ?_) ?_
    · rintro _ w ⟨r, rfl, rfl, g2⟩
      exact ⟨rfl, Gr.t0 g g2⟩
    refine Q_pu (P_not q rfl) ?_
    refine Q_pu (P_move (vb (!q)) rfl) ?_
    rcases bool_or (!q) with hq78 | hq78
    · have H := ite_t H hq78
      refine Q_pass (dj := 17) rfl rfl (.inl (by exact congrArg Value.bool hq78)) ?_
      refine Q_pass (dj := 17) rfl rfl (.inl (by exact congrArg Value.bool hq78)) ?_
      refine Q_pass (dj := 17) rfl rfl (.inl (by exact congrArg Value.bool hq78)) ?_
      refine Q_pass (dj := 17) rfl rfl (.inl (by exact congrArg Value.bool hq78)) ?_
      refine Q_pu (P_pick true (vb true) (by exact congrArg Value.bool hq78) rfl) ?_
      refine Q_pu (P_move (vb true) rfl) ?_
      refine Q_pass (dj := 23) rfl rfl (.inl rfl) ?_
      refine Q_pass (dj := 23) rfl rfl (.inl rfl) ?_
      refine Q_pass (dj := 23) rfl rfl (.inl rfl) ?_
      refine Q_pass (dj := 26) rfl rfl (.inr rfl) ?_
      refine Q_pass (dj := 26) rfl rfl (.inr rfl) ?_
      refine Q_pass (dj := 26) rfl rfl (.inr rfl) ?_
      refine Q_pass (dj := 26) rfl rfl (.inr rfl) ?_
      refine Q_pass (dj := 26) rfl rfl (.inr rfl) ?_
      refine Q_pass (dj := 26) rfl rfl (.inr rfl) ?_
      refine Q_pass (dj := 26) rfl rfl (.inr rfl) ?_
      refine Q_pass (dj := 26) rfl rfl (.inr rfl) ?_
      refine Q_pass (dj := 26) rfl rfl (.inr rfl) ?_
      refine Q_pass (dj := 26) rfl rfl (.inr rfl) ?_
      refine Q_pass (dj := 23) rfl rfl (.inl rfl) ?_
      refine Q_pu (P_pick true (vb true) (by exact congrArg Value.bool rfl) rfl) ?_
      refine Q_nil fun w79 g80 => ?_
      have hc82 := hc70.k0 g80
      refine W_ct (b := true) rfl rfl ?_
      refine W_seq ?_
      refine W_reg ?_
      refine L_pu (P_assign (vb false) rfl) ?_
      refine L_nil ?_
      refine W_ret ?_
      have hc83 := hc82.drop 0 rfl
      exact ⟨[vb false], ⟨_, rfl, rfl⟩, false, rfl, H, hc83.gr⟩
    · have H := ite_f H hq78
      refine Q_run (dj := 17) rfl rfl (by exact congrArg Value.bool hq78) ?_
      refine Q_pu (P_fa fa149_1 ⟨b60, 0, none⟩ ⟨b60, 1, none⟩ rfl rfl) ?_
      refine Q_run (dj := 17) rfl rfl (by exact congrArg Value.bool hq78) ?_
      refine Q_pu (P_ld ag9 cQ ⟨b60, 1, none⟩ (vs ((nth f.Tags v2).Val)) rfl (hx69.cell rfl)) ?_
      refine Q_run (dj := 17) rfl rfl (by exact congrArg Value.bool hq78) ?_
      obtain ⟨q2, hE89, H⟩ := H
      refine Q_call go41 [vs ((nth f.Tags v2).Val)] rfl (vb q2) (fun w g => (impl_WordOk.calls w (hc70.k0 g).ok ((nth f.Tags v2).Val) hs58 _ hE89).mono ?_) ?_
      · rintro _ w ⟨r, rfl, rfl, g2⟩
        exact ⟨rfl, Gr.t0 g g2⟩
      refine Q_run (dj := 17) rfl rfl (by exact congrArg Value.bool hq78) ?_
      refine Q_pu (P_not q2 rfl) ?_
      refine Q_pu (P_pick false (vb (!q2)) (by exact congrArg Value.bool hq78) rfl) ?_
      refine Q_pu (P_move (vb (!q2)) rfl) ?_
      rcases bool_or (!q2) with hq91 | hq91
      · have H := ite_t H hq91
        refine Q_pass (dj := 23) rfl rfl (.inl (by exact congrArg Value.bool hq91)) ?_
        refine Q_pass (dj := 23) rfl rfl (.inl (by exact congrArg Value.bool hq91)) ?_
        refine Q_pass (dj := 23) rfl rfl (.inl (by exact congrArg Value.bool hq91)) ?_
        refine Q_pass (dj := 26) rfl rfl (.inr rfl) ?_
        refine Q_pass (dj := 26) rfl rfl (.inr rfl) ?_
        refine Q_pass (dj := 26) rfl rfl (.inr rfl) ?_
        refine Q_pass (dj := 26) rfl rfl (.inr rfl) ?_
        refine Q_pass (dj := 26) rfl rfl (.inr rfl) ?_
        refine Q_pass (dj := 26) rfl rfl (.inr rfl) ?_
        refine Q_pass (dj := 26) rfl rfl (.inr rfl) ?_
        refine Q_pass (dj := 26) rfl rfl (.inr rfl) ?_
        refine Q_pass (dj := 26) rfl rfl (.inr rfl) ?_
        refine Q_pass (dj := 26) rfl rfl (.inr rfl) ?_
        refine Q_pass (dj := 23) rfl rfl (.inl (by exact congrArg Value.bool hq91)) ?_
        refine Q_pu (P_pick true (vb true) (by exact congrArg Value.bool hq91) rfl) ?_
        refine Q_nil fun w92 g93 => ?_
        have hc95 := hc70.k0 g93
        refine W_ct (b := true) rfl rfl ?_
        refine W_seq ?_
        refine W_reg ?_
        refine L_pu (P_assign (vb false) rfl) ?_
        refine L_nil ?_
        refine W_ret ?_
        have hc96 := hc95.drop 0 rfl
        exact ⟨[vb false], ⟨_, rfl, rfl⟩, false, rfl, H, hc96.gr⟩
      · have H := ite_f H hq91
        refine Q_run (dj := 23) rfl rfl (by exact congrArg Value.bool hq91) ?_
        refine Q_pu (P_move (vi v2) rfl) ?_
        refine Q_run (dj := 23) rfl rfl (by exact congrArg Value.bool hq91) ?_
        refine Q_pu (P_cmp v2 0 (decide (v2 > 0)) rfl rfl rfl) ?_
        refine Q_run (dj := 23) rfl rfl (by exact congrArg Value.bool hq91) ?_
        refine Q_pu (P_move (vb (decide (v2 > 0))) rfl) ?_
        rcases bool_or (decide (v2 > 0)) with hq97 | hq97
        · have H := ite_t H hq97
          refine Q_run (dj := 26) rfl rfl (by exact congrArg Value.bool hq97) ?_
          refine Q_pu (P_fa fa79_2 ⟨b13, 0, none⟩ ⟨b13, 3, none⟩ rfl rfl) ?_
          refine Q_run (dj := 26) rfl rfl (by exact congrArg Value.bool hq97) ?_
          have h98 := ((h42.st (.own _ _ g61 (oge hl62))).st (.wl (L := [some b60]) (O := O) (j := 0) rfl g68))
          refine Q_pu (P_ld ag77 cQ ⟨b13, 3, none⟩ (.slice A7 n8 c9) rfl (h98.cell rfl)) ?_
          refine Q_run (dj := 26) rfl rfl (by exact congrArg Value.bool hq97) ?_
          refine Q_pu (P_move (vi v2) rfl) ?_
          refine Q_run (dj := 26) rfl rfl (by exact congrArg Value.bool hq97) ?_
          obtain ⟨hb99, H⟩ := H
          refine Q_pu (P_sub v2 1 rfl rfl hb99) ?_
          refine Q_run (dj := 26) rfl rfl (by exact congrArg Value.bool hq97) ?_
          obtain ⟨hb100, H⟩ := H
          have h107 := ((h40.st (.own _ _ g61 (oge hl62))).st (.wl (L := [some b60]) (O := O) (j := 0) rfl g68))
          obtain ⟨ad101, cs102, hA103, hS106, hR104, hcl105⟩ := h107.get default (by decide) (v2 - 1) hb100
          obtain ⟨rfl, hs108, hs109⟩ := kTag.op hR104
          refine Q_pu (P_ia Try.underlying77 se77 A7 ad101 n8 c9 h107.len (v2 - 1) rfl hA103 rfl hb100) ?_
          refine Q_run (dj := 26) rfl rfl (by exact congrArg Value.bool hq97) ?_
          refine Q_pu (P_fa fa149_0 (ad101.add ((v2 - 1).toNat * 2)) ((ad101.add ((v2 - 1).toNat * 2)).add 0) rfl rfl) ?_
          refine Q_run (dj := 26) rfl rfl (by exact congrArg Value.bool hq97) ?_
          refine Q_pu (P_ld ag9 cQ ((ad101.add ((v2 - 1).toNat * 2)).add 0) (vs ((nth f.Tags (v2 - 1)).Key)) rfl (hcl105 0 _ rfl)) ?_
          refine Q_run (dj := 26) rfl rfl (by exact congrArg Value.bool hq97) ?_
          refine Q_pu (P_fa fa149_0 ⟨b60, 0, none⟩ ⟨b60, 0, none⟩ rfl rfl) ?_
          refine Q_run (dj := 26) rfl rfl (by exact congrArg Value.bool hq97) ?_
          refine Q_pu (P_ld ag9 cQ ⟨b60, 0, none⟩ (vs ((nth f.Tags v2).Key)) rfl (hx69.cell rfl)) ?_
          refine Q_run (dj := 26) rfl rfl (by exact congrArg Value.bool hq97) ?_
          refine Q_pu (P_scmp ((nth f.Tags (v2 - 1)).Key) ((nth f.Tags v2).Key) (!(Op.bytesLess ((nth f.Tags (v2 - 1)).Key) ((nth f.Tags v2).Key))) rfl rfl rfl) ?_
          refine Q_run (dj := 23) rfl rfl (by exact congrArg Value.bool hq91) ?_
          refine Q_pu (P_pick true (vb (!(Op.bytesLess ((nth f.Tags (v2 - 1)).Key) ((nth f.Tags v2).Key)))) (by exact congrArg Value.bool hq97) rfl) ?_
          refine Q_pu (P_pick false (vb (!(Op.bytesLess ((nth f.Tags (v2 - 1)).Key) ((nth f.Tags v2).Key)))) (by exact congrArg Value.bool hq91) rfl) ?_
          refine Q_nil fun w110 g111 => ?_
          have hc113 := hc70.k0 g111
          refine W_cond (!(Op.bytesLess ((nth f.Tags (v2 - 1)).Key) ((nth f.Tags v2).Key))) rfl (fun hq114 => ?_) (fun hq114 => ?_)
          · have H := ite_t H hq114
            refine W_seq ?_
            refine W_reg ?_
            refine L_pu (P_assign (vb false) rfl) ?_
            refine L_nil ?_
            refine W_ret ?_
            have hc115 := hc113.drop 0 rfl
            exact ⟨[vb false], ⟨_, rfl, rfl⟩, false, rfl, H, hc115.gr⟩
          · have H := ite_f H hq114
            refine W_skip ?_
            refine W_reg ?_
            obtain ⟨hb116, H⟩ := H
            refine L_pu (P_add v2 1 rfl rfl hb116) ?_
            refine L_pu (P_move (vi (v2 + 1)) rfl) ?_
            refine L_nil ?_
            have hc117 := hc113.drop 0 rfl
            obtain ⟨hI118, hm119⟩ := H
            have h120 := ((h107.st (.new _ g111)).st (.dr _ (L := [some b60]) (O := O) (j := 0) rfl))
            have h121 := ((((h41.st (.own _ _ g61 (oge hl62))).st (.wl (L := [some b60]) (O := O) (j := 0) rfl g68)).st (.new _ g111)).st (.dr _ (L := [some b60]) (O := O) (j := 0) rfl))
            have h122 := ((h98.st (.new _ g111)).st (.dr _ (L := [some b60]) (O := O) (j := 0) rfl))
            exact ⟨v2 + 1, hm119, hI118, ⟨rfl, rfl, rfl, rfl, trivial⟩, hc117, h120, h121, h122⟩
        · have H := ite_f H hq97
          refine Q_pass (dj := 26) rfl rfl (.inl (by exact congrArg Value.bool hq97)) ?_
          refine Q_pass (dj := 26) rfl rfl (.inl (by exact congrArg Value.bool hq97)) ?_
          refine Q_pass (dj := 26) rfl rfl (.inl (by exact congrArg Value.bool hq97)) ?_
          refine Q_pass (dj := 26) rfl rfl (.inl (by exact congrArg Value.bool hq97)) ?_
          refine Q_pass (dj := 26) rfl rfl (.inl (by exact congrArg Value.bool hq97)) ?_
          refine Q_pass (dj := 26) rfl rfl (.inl (by exact congrArg Value.bool hq97)) ?_
          refine Q_pass (dj := 26) rfl rfl (.inl (by exact congrArg Value.bool hq97)) ?_
          refine Q_pass (dj := 26) rfl rfl (.inl (by exact congrArg Value.bool hq97)) ?_
          refine Q_pass (dj := 26) rfl rfl (.inl (by exact congrArg Value.bool hq97)) ?_
          refine Q_pass (dj := 26) rfl rfl (.inl (by exact congrArg Value.bool hq97)) ?_
          refine Q_run (dj := 23) rfl rfl (by exact congrArg Value.bool hq91) ?_
          refine Q_pu (P_pick false (vb false) (by exact congrArg Value.bool hq97) rfl) ?_
          refine Q_pu (P_pick false (vb false) (by exact congrArg Value.bool hq91) rfl) ?_
          refine Q_nil fun w123 g124 => ?_
          have hc126 := hc70.k0 g124
          refine W_cf (b := false) rfl rfl ?_
          refine W_skip ?_
          refine W_reg ?_
          obtain ⟨hb127, H⟩ := H
          refine L_pu (P_add v2 1 rfl rfl hb127) ?_
          refine L_pu (P_move (vi (v2 + 1)) rfl) ?_
          refine L_nil ?_
          have hc128 := hc126.drop 0 rfl
          obtain ⟨hI129, hm130⟩ := H
          have h131 := ((((h40.st (.own _ _ g61 (oge hl62))).st (.wl (L := [some b60]) (O := O) (j := 0) rfl g68)).st (.new _ g124)).st (.dr _ (L := [some b60]) (O := O) (j := 0) rfl))
          have h132 := ((((h41.st (.own _ _ g61 (oge hl62))).st (.wl (L := [some b60]) (O := O) (j := 0) rfl g68)).st (.new _ g124)).st (.dr _ (L := [some b60]) (O := O) (j := 0) rfl))
          have h133 := ((((h42.st (.own _ _ g61 (oge hl62))).st (.wl (L := [some b60]) (O := O) (j := 0) rfl g68)).st (.new _ g124)).st (.dr _ (L := [some b60]) (O := O) (j := 0) rfl))
          exact ⟨v2 + 1, hm130, hI129, ⟨rfl, rfl, rfl, rfl, trivial⟩, hc128, h131, h132, h133⟩
  · have H := ite_f H hq49
    refine W_exit (xin_hit ?_)
    refine W_seq ?_
    refine W_reg ?_
    refine L_pu (P_fa fa79_0 ⟨b13, 0, none⟩ ⟨b13, 0, none⟩ rfl rfl) ?_
    refine L_pu (P_ld ag9 cL ⟨b13, 0, none⟩ (vs f.Id) rfl (h42.cell rfl)) ?_
    refine L_call go41 [vs f.Id] rfl ((impl_WordOk.calls w36 hc39.ok f.Id hs1 _ H).mono ?_)
    rintro _ w134 ⟨r3, rfl, H, g135⟩
    have hc139 := hc39.k0 g135
    refine L_pu (P_move (vb r3) rfl) ?_
    rcases bool_or r3 with hq140 | hq140
    · have H := ite_t H hq140
      refine L_run (dj := 43) rfl rfl (by exact congrArg Value.bool hq140) ?_
      refine L_pu (P_fa fa79_1 ⟨b13, 0, none⟩ ⟨b13, 1, none⟩ rfl rfl) ?_
      refine L_run (dj := 43) rfl rfl (by exact congrArg Value.bool hq140) ?_
      have h141 := (h42.st (.new _ g135))
      refine L_pu (P_lda ag76 sz76 cL ⟨b13, 1, none⟩ [vi f.Shape.Kind, .slice A2 n3 c4] rfl rfl (h141.cells (off := 1) rfl)) ?_
      refine L_run (dj := 43) rfl rfl (by exact congrArg Value.bool hq140) ?_
      refine L_call go107 [.agg #[vi f.Shape.Kind, .slice A2 n3 c4]] rfl ((impl_ShapeOk.calls w134 hc139.ok f.Shape A2 n3 c4 (h41.st (.new _ g135)) _ H).mono ?_)
      rintro _ w142 ⟨r4, rfl, H, g143⟩
      have hc147 := hc139.k0 g143
      refine L_pu (P_pick true (vb r4) (by exact congrArg Value.bool hq140) rfl) ?_
      refine L_pu (P_move (vb r4) rfl) ?_
      rcases bool_or r4 with hq148 | hq148
      · have H := ite_t H hq148
        refine L_run (dj := 48) rfl rfl (by exact congrArg Value.bool hq148) ?_
        refine L_pu (P_fa fa79_2 ⟨b13, 0, none⟩ ⟨b13, 3, none⟩ rfl rfl) ?_
        refine L_run (dj := 48) rfl rfl (by exact congrArg Value.bool hq148) ?_
        have h149 := (h141.st (.new _ g143))
        refine L_pu (P_ld ag77 cL ⟨b13, 3, none⟩ (.slice A7 n8 c9) rfl (h149.cell rfl)) ?_
        refine L_run (dj := 48) rfl rfl (by exact congrArg Value.bool hq148) ?_
        have h150 := ((h40.st (.new _ g135)).st (.new _ g143))
        have hl151 := h150.le
        refine L_pu (P_len Try.underlying77 A7 n8 c9 h150.len rfl) ?_
        refine L_run (dj := 48) rfl rfl (by exact congrArg Value.bool hq148) ?_
        refine L_pu (P_cmp (f.Tags.length : Int) 4 (decide ((f.Tags.length : Int) ≤ 4)) rfl rfl rfl) ?_
        refine L_pu (P_pick true (vb (decide ((f.Tags.length : Int) ≤ 4))) (by exact congrArg Value.bool hq148) rfl) ?_
        refine L_pu (P_assign (vb (decide ((f.Tags.length : Int) ≤ 4))) rfl) ?_
        refine L_nil ?_
        refine W_ret ?_
        exact ⟨[vb (decide ((f.Tags.length : Int) ≤ 4))], ⟨_, rfl, rfl⟩, decide ((f.Tags.length : Int) ≤ 4), rfl, H, hc147.gr⟩
      · have H := ite_f H hq148
        refine L_pass (dj := 48) rfl rfl (.inl (by exact congrArg Value.bool hq148)) ?_
        refine L_pass (dj := 48) rfl rfl (.inl (by exact congrArg Value.bool hq148)) ?_
        refine L_pass (dj := 48) rfl rfl (.inl (by exact congrArg Value.bool hq148)) ?_
        refine L_pass (dj := 48) rfl rfl (.inl (by exact congrArg Value.bool hq148)) ?_
        refine L_pu (P_pick false (vb false) (by exact congrArg Value.bool hq148) rfl) ?_
        refine L_pu (P_assign (vb false) rfl) ?_
        refine L_nil ?_
        refine W_ret ?_
        exact ⟨[vb false], ⟨_, rfl, rfl⟩, false, rfl, H, hc147.gr⟩
    · have H := ite_f H hq140
      refine L_pass (dj := 43) rfl rfl (.inl (by exact congrArg Value.bool hq140)) ?_
      refine L_pass (dj := 43) rfl rfl (.inl (by exact congrArg Value.bool hq140)) ?_
      refine L_pass (dj := 43) rfl rfl (.inl (by exact congrArg Value.bool hq140)) ?_
      refine L_pu (P_pick false (vb false) (by exact congrArg Value.bool hq140) rfl) ?_
      refine L_pu (P_move (vb false) rfl) ?_
      refine L_pass (dj := 48) rfl rfl (.inl rfl) ?_
      refine L_pass (dj := 48) rfl rfl (.inl rfl) ?_
      refine L_pass (dj := 48) rfl rfl (.inl rfl) ?_
      refine L_pass (dj := 48) rfl rfl (.inl rfl) ?_
      refine L_pu (P_pick false (vb false) (by exact congrArg Value.bool rfl) rfl) ?_
      refine L_pu (P_assign (vb false) rfl) ?_
      refine L_nil ?_
      refine W_ret ?_
      exact ⟨[vb false], ⟨_, rfl, rfl⟩, false, rfl, H, hc139.gr⟩
end Go.Proofs.Ythkeboifjlnjjaa
