/- It is proved here that the law FnSeqCut of the given program holds whatever it is handed: the walks through the code, the plain laws and the row, in this order.
   Conditions: none. -/
import Derived.Below
import Derived.ChangeArms
import Derived.ChangeOld
import Derived.ChangeSlices
import Derived.DataReads
import Derived.Deep.Quiet
import Derived.KernelRfl
import Derived.Laws.Build
import Derived.Laws.IdiomStrings
import Derived.Laws.OwnMore
import Derived.Laws.Slices
import Derived.Laws.StructEq
import Derived.OpenShut
import Derived.ProofKit
import Derived.ShutString
import Derived.SizedLaws
import Derived.StillTail
import Derived.Test.YtndjggncgpjolaaProg
import Derived.Test.YtndjggncgpjolaaRows
import Derived.WalkKit
import Derived.Test.YtndjggncgpjolaaCSeqCuta
import Derived.Test.YtndjggncgpjolaaCSeqCutb
namespace Go.Proofs.Ytndjggncgpjolaa
open Go.RowKit
set_option linter.unusedVariables false
def impl_SeqPairs.E (a : List Pt) (b : List Pt) (Q : List Pair → Prop) : Prop :=
  (if decide ((a.length : Int) > 12) then Q ([] : List Pair) else (if decide ((b.length : Int) > 12) then Q ([] : List Pair) else impl_lengths.E a b (fun r => (∃ (I71 : (List Pair) → Int → Int → Prop) (mu72 : (List Pair) → Int → Int → Nat), I71 ([] : List Pair) 0 0 ∧ ∀ (xs2 : List Pair) (i2 : Int) (j2 : Int), I71 xs2 i2 j2 → (if decide (i2 < (a.length : Int)) then (if decide (j2 < (b.length : Int)) then ((0 : Int) ≤ i2 ∧ i2 < (a.length : Int)) ∧ ((0 : Int) ≤ j2 ∧ j2 < (b.length : Int)) ∧ (if eqPt (nth a i2) (nth b j2) then (xs2.length + ([(⟨i2, j2⟩ : Pair)] : List Pair).length ≤ 268435456) ∧ (-9223372036854775808 ≤ i2) ∧ (-9223372036854775808 ≤ j2) ∧ I71 (xs2 ++ ([(⟨i2, j2⟩ : Pair)] : List Pair)) (i2 + 1) (j2 + 1) ∧ mu72 (xs2 ++ ([(⟨i2, j2⟩ : Pair)] : List Pair)) (i2 + 1) (j2 + 1) < mu72 xs2 i2 j2 else (-9223372036854775808 ≤ i2) ∧ ((0 : Int) ≤ i2 + 1 ∧ i2 + 1 < (r.length : Int)) ∧ ((0 : Int) ≤ j2 ∧ j2 < ((nth r (i2 + 1)).length : Int)) ∧ ((0 : Int) ≤ i2 ∧ i2 < (r.length : Int)) ∧ (-9223372036854775808 ≤ j2) ∧ ((0 : Int) ≤ j2 + 1 ∧ j2 + 1 < ((nth r i2).length : Int)) ∧ (if decide ((nth (nth r (i2 + 1)) j2) ≥ (nth (nth r i2) (j2 + 1))) then (-9223372036854775808 ≤ i2) ∧ I71 xs2 (i2 + 1) j2 ∧ mu72 xs2 (i2 + 1) j2 < mu72 xs2 i2 j2 else (-9223372036854775808 ≤ j2) ∧ I71 xs2 i2 (j2 + 1) ∧ mu72 xs2 i2 (j2 + 1) < mu72 xs2 i2 j2)) else Q xs2) else Q xs2)))))
set_option maxHeartbeats 8000000 in
set_option maxRecDepth 100000 in
theorem impl_SeqPairs.calls {O : Ob} (w0 : World) (hO : Ok w0 O) (a : List Pt) (A1 : Option Addr) (n2 c3 : Nat) (hp4 : Sl kPt w0 (Fr O) (.slice A1 n2 c3) a) (b : List Pt) (A6 : Option Addr) (n7 c8 : Nat) (hp9 : Sl kPt w0 (Fr O) (.slice A6 n7 c8) b) (Q : List Pair → Prop) (h : impl_SeqPairs.E a b Q) :
    Ret Try.prog 47 [.slice A1 n2 c3, .slice A6 n7 c8] w0 (fun v w' => ∃ (r0 : List Pair) (A0 : Option Addr) (n0 c0 : Nat), v = .slice A0 n0 c0 ∧ Q r0 ∧ Gr w0 w' none ∧ Ok w' ([blk (.slice A0 n0 c0)] ++ O) ∧ (∀ b, some b ∈ [blk (.slice A0 n0 c0)] → w0.heap.size ≤ b) ∧ Ow kPair 148 w' ([blk (.slice A0 n0 c0)] ++ O) (.slice A0 n0 c0) r0) := by
  have H : (if decide ((a.length : Int) > 12) then Q ([] : List Pair) else (if decide ((b.length : Int) > 12) then Q ([] : List Pair) else impl_lengths.E a b (fun r => (∃ (I71 : (List Pair) → Int → Int → Prop) (mu72 : (List Pair) → Int → Int → Nat), I71 ([] : List Pair) 0 0 ∧ ∀ (xs2 : List Pair) (i2 : Int) (j2 : Int), I71 xs2 i2 j2 → (if decide (i2 < (a.length : Int)) then (if decide (j2 < (b.length : Int)) then ((0 : Int) ≤ i2 ∧ i2 < (a.length : Int)) ∧ ((0 : Int) ≤ j2 ∧ j2 < (b.length : Int)) ∧ (if eqPt (nth a i2) (nth b j2) then (xs2.length + ([(⟨i2, j2⟩ : Pair)] : List Pair).length ≤ 268435456) ∧ (-9223372036854775808 ≤ i2) ∧ (-9223372036854775808 ≤ j2) ∧ I71 (xs2 ++ ([(⟨i2, j2⟩ : Pair)] : List Pair)) (i2 + 1) (j2 + 1) ∧ mu72 (xs2 ++ ([(⟨i2, j2⟩ : Pair)] : List Pair)) (i2 + 1) (j2 + 1) < mu72 xs2 i2 j2 else (-9223372036854775808 ≤ i2) ∧ ((0 : Int) ≤ i2 + 1 ∧ i2 + 1 < (r.length : Int)) ∧ ((0 : Int) ≤ j2 ∧ j2 < ((nth r (i2 + 1)).length : Int)) ∧ ((0 : Int) ≤ i2 ∧ i2 < (r.length : Int)) ∧ (-9223372036854775808 ≤ j2) ∧ ((0 : Int) ≤ j2 + 1 ∧ j2 + 1 < ((nth r i2).length : Int)) ∧ (if decide ((nth (nth r (i2 + 1)) j2) ≥ (nth (nth r i2) (j2 + 1))) then (-9223372036854775808 ≤ i2) ∧ I71 xs2 (i2 + 1) j2 ∧ mu72 xs2 (i2 + 1) j2 < mu72 xs2 i2 j2 else (-9223372036854775808 ≤ j2) ∧ I71 xs2 i2 (j2 + 1) ∧ mu72 xs2 i2 (j2 + 1) < mu72 xs2 i2 j2)) else Q xs2) else Q xs2))))) := h
  clear h
  have hc0 := Ct.init hO
  refine Ret_enter Try.func47 rfl 75 rfl [.tmp 4] rfl rfl ?_
  refine W_seq ?_
  refine W_reg ?_
  refine L_pu (P_assign (.slice none 0 0) rfl) ?_
  refine L_nil ?_
  refine W_seq ?_
  refine W_reg ?_
  refine L_lit (kd := kPair) ei86 hc0 ([] : List Pair) (cells := []) rfl (fun _ => by kernel_rfl) fun w11 A12 n13 c14 g15 hr16 hc17 h18 => ?_
  refine L_pu (P_assign (.slice A12 n13 c14) rfl) ?_
  refine L_nil ?_
  refine W_seq ?_
  refine W_seq ?_
  refine W_reg ?_
  refine L_pu (P_move (.slice A1 n2 c3) rfl) ?_
  have hl20 := (hp4.st hc17.st).le
  refine L_pu (P_len Try.underlying23 A1 n2 c3 (hp4.st hc17.st).len rfl) ?_
  refine L_pu (P_cmp (a.length : Int) 12 (decide ((a.length : Int) > 12)) rfl rfl rfl) ?_
  refine L_pu (P_move (vb (decide ((a.length : Int) > 12))) rfl) ?_
  rcases bool_or (decide ((a.length : Int) > 12)) with hq21 | hq21
  · have H := ite_t H hq21
    refine L_pass (dj := 13) rfl rfl (.inl (by exact congrArg Value.bool hq21)) ?_
    refine L_pass (dj := 13) rfl rfl (.inl (by exact congrArg Value.bool hq21)) ?_
    refine L_pass (dj := 13) rfl rfl (.inl (by exact congrArg Value.bool hq21)) ?_
    refine L_pu (P_pick true (vb true) (by exact congrArg Value.bool hq21) rfl) ?_
    refine L_nil ?_
    refine W_ct (b := true) rfl rfl ?_
    refine W_seq ?_
    refine W_reg ?_
    refine L_pu (P_move (.slice A12 n13 c14) rfl) ?_
    refine L_pu (P_assign (.slice A12 n13 c14) rfl) ?_
    refine L_nil ?_
    refine W_ret ?_
    exact ⟨[.slice A12 n13 c14], ⟨_, rfl, rfl⟩, ([] : List Pair), A12, n13, c14, rfl, H, hc17.gr.g0, hc17.ok, hc17.ge, h18⟩
  · have H := ite_f H hq21
    refine L_run (dj := 13) rfl rfl (by exact congrArg Value.bool hq21) ?_
    refine L_pu (P_move (.slice A6 n7 c8) rfl) ?_
    refine L_run (dj := 13) rfl rfl (by exact congrArg Value.bool hq21) ?_
    have hl22 := (hp9.st hc17.st).le
    refine L_pu (P_len Try.underlying23 A6 n7 c8 (hp9.st hc17.st).len rfl) ?_
    refine L_run (dj := 13) rfl rfl (by exact congrArg Value.bool hq21) ?_
    refine L_pu (P_cmp (b.length : Int) 12 (decide ((b.length : Int) > 12)) rfl rfl rfl) ?_
    refine L_pu (P_pick false (vb (decide ((b.length : Int) > 12))) (by exact congrArg Value.bool hq21) rfl) ?_
    refine L_nil ?_
    refine W_cond (decide ((b.length : Int) > 12)) rfl (fun hq23 => ?_) (fun hq23 => ?_)
    · have H := ite_t H hq23
      refine W_seq ?_
      refine W_reg ?_
      refine L_pu (P_move (.slice A12 n13 c14) rfl) ?_
      refine L_pu (P_assign (.slice A12 n13 c14) rfl) ?_
      refine L_nil ?_
      refine W_ret ?_
      exact ⟨[.slice A12 n13 c14], ⟨_, rfl, rfl⟩, ([] : List Pair), A12, n13, c14, rfl, H, hc17.gr.g0, hc17.ok, hc17.ge, h18⟩
    · have H := ite_f H hq23
      refine W_skip ?_
      refine W_seq ?_
      refine W_reg ?_
      refine L_pu (P_move (.slice A1 n2 c3) rfl) ?_
      refine L_pu (P_move (.slice A6 n7 c8) rfl) ?_
      refine L_call go108 [.slice A1 n2 c3, .slice A6 n7 c8] rfl ((impl_lengths.calls w11 hc17.ok a A1 n2 c3 (hp4.st hc17.st) b A6 n7 c8 (hp9.st hc17.st) _ H).mono ?_)
      rintro _ w24 ⟨r, A26, n27, c28, rfl, H, g25, h29⟩
      have hc33 := hc17.k0 g25
      refine L_pu (P_assign (.slice A26 n27 c28) rfl) ?_
      refine L_nil ?_
      refine W_seq ?_
      refine W_seq ?_
      refine W_reg ?_
      refine L_pu (P_assign (vi 0) rfl) ?_
      refine L_pu (P_assign (vi 0) rfl) ?_
      refine L_nil ?_
      refine W_block ?_
      obtain ⟨I71, mu72, hI73, H⟩ := H
      have h75 := (h18.sn g25)
      refine W_loop (α := (List Pair) × (Option Addr) × Nat × Nat × Int × Int) (fun (sv__ : (List Pair) × (Option Addr) × Nat × Nat × Int × Int) t w58 => match sv__ with | (xs2, A61, n62, c63, i2, j2) => I71 xs2 i2 j2 ∧ Has t [(0, .slice A1 n2 c3), (1, .slice A6 n7 c8), (5, .slice A61 n62 c63), (6, .slice A26 n27 c28), (7, vi i2), (8, vi j2)] ∧ Ct [] w0 w58 [blk (.slice A61 n62 c63)] O ∧ Sl kPt w58 (Fr ([blk (.slice A61 n62 c63)] ++ O)) (.slice A1 n2 c3) a ∧ Sl kPt w58 (Fr ([blk (.slice A61 n62 c63)] ++ O)) (.slice A6 n7 c8) b ∧ Sl (Kd.sl (Kd.int .i64)) w58 (Fr ([blk (.slice A61 n62 c63)] ++ O)) (.slice A26 n27 c28) r ∧ Ow kPair 148 w58 ([blk (.slice A61 n62 c63)] ++ O) (.slice A61 n62 c63) xs2) (fun (sv__ : (List Pair) × (Option Addr) × Nat × Nat × Int × Int) => match sv__ with | (xs2, _, _, _, i2, j2) => mu72 xs2 i2 j2) (([] : List Pair), A12, n13, c14, 0, 0) ⟨hI73, ⟨rfl, rfl, rfl, rfl, rfl, rfl, trivial⟩, hc33, (hp4.st hc33.st), (hp9.st hc33.st), h29, h75⟩ ?_
      rintro ⟨xs2, A61, n62, c63, i2, j2⟩ _ w58 ⟨hI73, hh76, hc66, h67, h68, h69, h70⟩
      obtain ⟨u77, rfl⟩ := Has.ins hh76
      have H := H xs2 i2 j2 hI73
      refine W_seq ?_
      refine W_seq ?_
      refine W_reg ?_
      refine L_pu (P_move (vi i2) rfl) ?_
      refine L_pu (P_move (.slice A1 n2 c3) rfl) ?_
      have hl78 := h67.le
      refine L_pu (P_len Try.underlying23 A1 n2 c3 h67.len rfl) ?_
      refine L_pu (P_cmp i2 (a.length : Int) (decide (i2 < (a.length : Int))) rfl rfl rfl) ?_
      refine L_pu (P_move (vb (decide (i2 < (a.length : Int)))) rfl) ?_
      rcases bool_or (decide (i2 < (a.length : Int))) with hq79 | hq79
      · have H := ite_t H hq79
        refine L_run (dj := 26) rfl rfl (by exact congrArg Value.bool hq79) ?_
        refine L_pu (P_move (vi j2) rfl) ?_
        refine L_run (dj := 26) rfl rfl (by exact congrArg Value.bool hq79) ?_
        refine L_pu (P_move (.slice A6 n7 c8) rfl) ?_
        refine L_run (dj := 26) rfl rfl (by exact congrArg Value.bool hq79) ?_
        have hl80 := h68.le
        refine L_pu (P_len Try.underlying23 A6 n7 c8 h68.len rfl) ?_
        refine L_run (dj := 26) rfl rfl (by exact congrArg Value.bool hq79) ?_
        refine L_pu (P_cmp j2 (b.length : Int) (decide (j2 < (b.length : Int))) rfl rfl rfl) ?_
        refine L_pu (P_pick true (vb (decide (j2 < (b.length : Int)))) (by exact congrArg Value.bool hq79) rfl) ?_
        refine L_nil ?_
        refine W_cond (decide (j2 < (b.length : Int))) rfl (fun hq81 => ?_) (fun hq81 => ?_)
        · have H := ite_t H hq81
          refine W_skip ?_
          refine W_block ?_
          refine W_block ?_
          refine W_seq ?_
          refine W_draw (fun x => Gr w58 x none) (by kernel_rfl) (by kernel_rfl) (Gr.drew _) ?_
          refine Q_pu (P_move (.slice A1 n2 c3) rfl) ?_
          refine Q_pu (P_move (vi i2) rfl) ?_
          obtain ⟨hb82, H⟩ := H
          obtain ⟨ad83, cs84, hA85, hS88, hR86, hcl87⟩ := h67.get default (by decide) i2 hb82
          obtain rfl := kPt.op hR86
          refine Q_pu (P_ia Try.underlying23 se23 A1 ad83 n2 c3 h67.len i2 rfl hA85 rfl hb82) ?_
          refine Q_pu (P_lda ag29 sz29 cQ (ad83.add (i2.toNat * 2)) [vi ((nth a i2).X), vi ((nth a i2).Y)] rfl rfl hcl87) ?_
          refine Q_pu (P_move (.slice A6 n7 c8) rfl) ?_
          refine Q_pu (P_move (vi j2) rfl) ?_
          obtain ⟨hb89, H⟩ := H
          obtain ⟨ad90, cs91, hA92, hS95, hR93, hcl94⟩ := h68.get default (by decide) j2 hb89
          obtain rfl := kPt.op hR93
          refine Q_pu (P_ia Try.underlying23 se23 A6 ad90 n7 c8 h68.len j2 rfl hA92 rfl hb89) ?_
          refine Q_pu (P_lda ag29 sz29 cQ (ad90.add (j2.toNat * 2)) [vi ((nth b j2).X), vi ((nth b j2).Y)] rfl rfl hcl94) ?_
          refine Q_pu (P_eq _ _ (eqPt (nth a i2) (nth b j2)) (qt29 (nth a i2) (nth b j2)) rfl rfl) ?_
          refine Q_pu (P_assign (vb (eqPt (nth a i2) (nth b j2))) rfl) ?_
          refine Q_nil fun w96 g97 => ?_
          have hc99 := hc66.k0 g97
          refine W_cond (eqPt (nth a i2) (nth b j2)) rfl (fun hq100 => ?_) (fun hq100 => ?_)
          · have H := ite_t H hq100
            refine W_seq ?_
            refine W_reg ?_
            refine L_pu (P_move (.slice A61 n62 c63) rfl) ?_
            refine L_pu (P_move (vi i2) rfl) ?_
            refine L_pu (P_move (vi j2) rfl) ?_
            refine L_pu (P_build (.agg #[vi i2, vi j2]) (fun _ => by kernel_rfl)) ?_
            refine L_lit (kd := kPair) ei86 hc99 ([(⟨i2, j2⟩ : Pair)] : List Pair) (cells := [vi i2, vi j2]) ⟨[vi i2, vi j2], _, rfl, (kPair.mk _ _ (⟨i2, j2⟩ : Pair)), rfl⟩ (fun _ => by kernel_rfl) fun w101 A102 n103 c104 g105 hr106 hc107 h108 => ?_
            obtain ⟨hb110, H⟩ := H
            have h111 := ((h70.sn g97).so _ g105 hr106)
            refine L_app ei86 hc107 (.slice A61 n62 c63) xs2 ([(⟨i2, j2⟩ : Pair)] : List Pair) rfl h111 (.slice A102 n103 c104) rfl h108.sx 1 rfl hb110 fun w112 A113 n114 c115 g116 s117 hc118 h119 => ?_
            refine L_pu (P_assign (.slice A113 n114 c115) rfl) ?_
            refine L_nil ?_
            refine W_seq ?_
            refine W_reg ?_
            refine L_pu (P_move (vi i2) rfl) ?_
            obtain ⟨hb122, H⟩ := H
            have hi121 : I64 (i2 + 1) := i64_succ (of_decide_eq_true hq79) hl78 hb122
            refine L_pu (P_add i2 1 rfl rfl hi121) ?_
            refine L_pu (P_assign (vi (i2 + 1)) rfl) ?_
            refine L_nil ?_
            refine W_reg ?_
            refine L_pu (P_move (vi j2) rfl) ?_
            obtain ⟨hb124, H⟩ := H
            have hi123 : I64 (j2 + 1) := i64_succ (of_decide_eq_true hq81) hl80 hb124
            refine L_pu (P_add j2 1 rfl rfl hi123) ?_
            refine L_pu (P_assign (vi (j2 + 1)) rfl) ?_
            refine L_nil ?_
            have hc125 := hc118.drop 0 rfl
            obtain ⟨hI126, hm127⟩ := H
            have h128 := ((((h67.st (.new _ g97)).st (.own _ _ g105 hr106)).st s117).st (.dr _ (L := [blk (.slice A102 n103 c104), blk (.slice A113 n114 c115)]) (O := O) (j := 0) rfl))
            have h129 := ((((h68.st (.new _ g97)).st (.own _ _ g105 hr106)).st s117).st (.dr _ (L := [blk (.slice A102 n103 c104), blk (.slice A113 n114 c115)]) (O := O) (j := 0) rfl))
            have h130 := ((((h69.st (.new _ g97)).st (.own _ _ g105 hr106)).st s117).st (.dr _ (L := [blk (.slice A102 n103 c104), blk (.slice A113 n114 c115)]) (O := O) (j := 0) rfl))
            have h131 := (Ow.sd (L := [blk (.slice A102 n103 c104), blk (.slice A113 n114 c115)]) (O := O) h119 (i := 1) rfl (j := 0) rfl (by decide))
            exact ⟨((xs2 ++ ([(⟨i2, j2⟩ : Pair)] : List Pair)), A113, n114, c115, i2 + 1, j2 + 1), hm127, hI126, ⟨rfl, rfl, rfl, rfl, rfl, rfl, trivial⟩, hc125, h128, h129, h130, h131⟩
          · have H := ite_f H hq100
            refine W_seq ?_
            refine W_draw (fun x => Gr w96 x none) (by kernel_rfl) (by kernel_rfl) (Gr.drew _) ?_
            refine Q_pu (P_move (.slice A26 n27 c28) rfl) ?_
            refine Q_pu (P_move (vi i2) rfl) ?_
            obtain ⟨hb133, H⟩ := H
            have hi132 : I64 (i2 + 1) := i64_succ (of_decide_eq_true hq79) hl78 hb133
            refine Q_pu (P_add i2 1 rfl rfl hi132) ?_
            obtain ⟨hb134, H⟩ := H
            obtain ⟨ad135, cs136, hA137, hS140, hR138, hcl139⟩ := (h69.st (.new _ g97)).get default (by decide) (i2 + 1) hb134
            obtain ⟨A141, n142, c143, rfl, h144⟩ := Kd.sl.op hR138
            refine Q_pu (P_ia Try.underlying145 se145 A26 ad135 n27 c28 (h69.st (.new _ g97)).len (i2 + 1) rfl hA137 rfl hb134) ?_
            refine Q_pu (P_ld ag89 cQ (ad135.add ((i2 + 1).toNat * 1)) (.slice A141 n142 c143) rfl (hcl139 0 _ rfl)) ?_
            refine Q_pu (P_move (vi j2) rfl) ?_
            obtain ⟨hb146, H⟩ := H
            obtain ⟨ad147, cs148, hA149, hS152, hR150, hcl151⟩ := h144.get default (by decide) j2 hb146
            obtain rfl := Kd.int.op hR150
            refine Q_pu (P_ia Try.underlying89 se89 A141 ad147 n142 c143 h144.len j2 rfl hA149 rfl hb146) ?_
            refine Q_pu (P_ld ag3 cQ (ad147.add (j2.toNat * 1)) (vi (nth (nth r (i2 + 1)) j2)) rfl (hcl151 0 _ rfl)) ?_
            refine Q_pu (P_move (.slice A26 n27 c28) rfl) ?_
            refine Q_pu (P_move (vi i2) rfl) ?_
            obtain ⟨hb153, H⟩ := H
            obtain ⟨ad154, cs155, hA156, hS159, hR157, hcl158⟩ := (h69.st (.new _ g97)).get default (by decide) i2 hb153
            obtain ⟨A160, n161, c162, rfl, h163⟩ := Kd.sl.op hR157
            refine Q_pu (P_ia Try.underlying145 se145 A26 ad154 n27 c28 (h69.st (.new _ g97)).len i2 rfl hA156 rfl hb153) ?_
            refine Q_pu (P_ld ag89 cQ (ad154.add (i2.toNat * 1)) (.slice A160 n161 c162) rfl (hcl158 0 _ rfl)) ?_
            refine Q_pu (P_move (vi j2) rfl) ?_
            obtain ⟨hb166, H⟩ := H
            have hi165 : I64 (j2 + 1) := i64_succ (of_decide_eq_true hq81) hl80 hb166
            refine Q_pu (P_add j2 1 rfl rfl hi165) ?_
            obtain ⟨hb167, H⟩ := H
            obtain ⟨ad168, cs169, hA170, hS173, hR171, hcl172⟩ := h163.get default (by decide) (j2 + 1) hb167
            obtain rfl := Kd.int.op hR171
            refine Q_pu (P_ia Try.underlying89 se89 A160 ad168 n161 c162 h163.len (j2 + 1) rfl hA170 rfl hb167) ?_
            refine Q_pu (P_ld ag3 cQ (ad168.add ((j2 + 1).toNat * 1)) (vi (nth (nth r i2) (j2 + 1))) rfl (hcl172 0 _ rfl)) ?_
            refine Q_pu (P_cmp (nth (nth r (i2 + 1)) j2) (nth (nth r i2) (j2 + 1)) (decide ((nth (nth r (i2 + 1)) j2) ≥ (nth (nth r i2) (j2 + 1)))) rfl rfl rfl) ?_
            refine Q_pu (P_assign (vb (decide ((nth (nth r (i2 + 1)) j2) ≥ (nth (nth r i2) (j2 + 1))))) rfl) ?_
            refine Q_nil fun w174 g175 => ?_
            have hc177 := hc99.k0 g175
            refine W_cond (decide ((nth (nth r (i2 + 1)) j2) ≥ (nth (nth r i2) (j2 + 1)))) rfl (fun hq178 => ?_) (fun hq178 => ?_)
            · have H := ite_t H hq178
              refine W_reg ?_
              refine L_pu (P_move (vi i2) rfl) ?_
              obtain ⟨hb180, H⟩ := H
              have hi179 : I64 (i2 + 1) := i64_succ (of_decide_eq_true hq79) hl78 hb180
              refine L_pu (P_add i2 1 rfl rfl hi179) ?_
              refine L_pu (P_assign (vi (i2 + 1)) rfl) ?_
              refine L_nil ?_
              obtain ⟨hI181, hm182⟩ := H
              have h183 := ((h67.st (.new _ g97)).st (.new _ g175))
              have h184 := ((h68.st (.new _ g97)).st (.new _ g175))
              have h185 := ((h69.st (.new _ g97)).st (.new _ g175))
              have h186 := ((h70.sn g97).sn g175)
              exact ⟨(xs2, A61, n62, c63, i2 + 1, j2), hm182, hI181, ⟨rfl, rfl, rfl, rfl, rfl, rfl, trivial⟩, hc177, h183, h184, h185, h186⟩
            · have H := ite_f H hq178
              refine W_reg ?_
              refine L_pu (P_move (vi j2) rfl) ?_
              obtain ⟨hb188, H⟩ := H
              have hi187 : I64 (j2 + 1) := i64_succ (of_decide_eq_true hq81) hl80 hb188
              refine L_pu (P_add j2 1 rfl rfl hi187) ?_
              refine L_pu (P_assign (vi (j2 + 1)) rfl) ?_
              refine L_nil ?_
              obtain ⟨hI189, hm190⟩ := H
              have h191 := ((h67.st (.new _ g97)).st (.new _ g175))
              have h192 := ((h68.st (.new _ g97)).st (.new _ g175))
              have h193 := ((h69.st (.new _ g97)).st (.new _ g175))
              have h194 := ((h70.sn g97).sn g175)
              exact ⟨(xs2, A61, n62, c63, i2, j2 + 1), hm190, hI189, ⟨rfl, rfl, rfl, rfl, rfl, rfl, trivial⟩, hc177, h191, h192, h193, h194⟩
        · have H := ite_f H hq81
          refine W_exit (xin_hit ?_)
          refine W_seq ?_
          refine W_reg ?_
          refine L_pu (P_move (.slice A61 n62 c63) rfl) ?_
          refine L_pu (P_assign (.slice A61 n62 c63) rfl) ?_
          refine L_nil ?_
          refine W_ret ?_
          exact ⟨[.slice A61 n62 c63], ⟨_, rfl, rfl⟩, xs2, A61, n62, c63, rfl, H, hc66.gr.g0, hc66.ok, hc66.ge, h70⟩
      · have H := ite_f H hq79
        refine L_pass (dj := 26) rfl rfl (.inl (by exact congrArg Value.bool hq79)) ?_
        refine L_pass (dj := 26) rfl rfl (.inl (by exact congrArg Value.bool hq79)) ?_
        refine L_pass (dj := 26) rfl rfl (.inl (by exact congrArg Value.bool hq79)) ?_
        refine L_pass (dj := 26) rfl rfl (.inl (by exact congrArg Value.bool hq79)) ?_
        refine L_pu (P_pick false (vb false) (by exact congrArg Value.bool hq79) rfl) ?_
        refine L_nil ?_
        refine W_cf (b := false) rfl rfl ?_
        refine W_exit (xin_hit ?_)
        refine W_seq ?_
        refine W_reg ?_
        refine L_pu (P_move (.slice A61 n62 c63) rfl) ?_
        refine L_pu (P_assign (.slice A61 n62 c63) rfl) ?_
        refine L_nil ?_
        refine W_ret ?_
        exact ⟨[.slice A61 n62 c63], ⟨_, rfl, rfl⟩, xs2, A61, n62, c63, rfl, H, hc66.gr.g0, hc66.ok, hc66.ge, h70⟩
end Go.Proofs.Ytndjggncgpjolaa

namespace Go.Proofs.Ytndjggncgpjolaa
set_option linter.unusedVariables false
set_option linter.unusedSimpArgs false
set_option linter.unusedSectionVars false
theorem impl_SeqPairs.law (a b : List Pt) (Q : List Pair → Prop) (hq : Q (spairs a b)) : impl_SeqPairs.E a b Q := by
  unfold impl_SeqPairs.E
  unfold spairs at hq
  by_cases h1 : (a.length : Int) > 12
  · rw [if_pos (by simpa using h1)]
    rw [if_neg (by rw [few_iff]; omega)] at hq; exact hq
  rw [if_neg (by simpa using h1)]
  by_cases h2 : (b.length : Int) > 12
  · rw [if_pos (by simpa using h2)]
    rw [if_neg (by rw [few_iff]; omega)] at hq; exact hq
  rw [if_neg (by simpa using h2)]
  rw [if_pos (by rw [few_iff]; omega)] at hq
  refine impl_lengths.law _ _ _ (by omega) (by omega) fun t ht => ?_
  refine ⟨fun xs i j => ∃ u v : Nat, i = u ∧ j = v ∧ u ≤ a.length ∧ v ≤ b.length ∧ xs ++ (pairs u v (a.drop u) (b.drop v)).map mkP = (pairs 0 0 a b).map mkP, fun _ i j => ((a.length - i) + (b.length - j)).toNat, ⟨0, 0, rfl, rfl, Nat.zero_le _, Nat.zero_le _, rfl⟩, ?_⟩
  rintro xs _ _ ⟨u, v, rfl, rfl, hu, hv, hx⟩
  by_cases hu0 : (u : Int) < (a.length : Int)
  · rw [if_pos (by simpa using hu0)]
    by_cases hv0 : (v : Int) < (b.length : Int)
    · rw [if_pos (by simpa using hv0)]
      have hu1 : u < a.length := by omega
      have hv1 : v < b.length := by omega
      rw [pairs_drop a b hu1 hv1] at hx
      have eu : (u : Int) + 1 = ((u + 1 : Nat) : Int) := by omega
      have ev : (v : Int) + 1 = ((v + 1 : Nat) : Int) := by omega
      rw [eqPt_is, eu, ev]
      refine ⟨by omega, by omega, ?_⟩
      by_cases he : nth a (u : Int) = nth b (v : Int)
      · rw [if_pos (by simpa using he)]
        rw [if_pos he, List.map_cons] at hx
        have hl := congrArg List.length hx
        rw [List.length_map, pairs_len, List.length_append] at hl
        have := lcs_le1 a b
        exact ⟨by simp only [List.length_singleton]; omega, by omega, by omega, ⟨u + 1, v + 1, rfl, rfl, by omega, by omega, by rw [List.append_assoc]; exact hx⟩, by dsimp only; omega⟩
      · rw [if_neg (by simpa using he)]
        rw [if_neg he] at hx
        have t0 := ht.1
        have t1 := ht.2 u (by omega)
        have t2 := ht.2 (u + 1) (by omega)
        have n1 := t2.2 v (by omega) trivial
        have n2 := t1.2 (v + 1) (by omega) trivial
        have l1 := t1.1
        have l2 := t2.1
        refine ⟨by omega, by omega, by omega, by omega, by omega, by omega, ?_⟩
        rw [n1, n2]
        by_cases hc : lcs (a.drop u) (b.drop (v + 1)) ≤ lcs (a.drop (u + 1)) (b.drop v)
        · rw [if_pos (by simpa using hc)]
          rw [if_pos hc] at hx
          exact ⟨by omega, ⟨u + 1, v, rfl, rfl, by omega, by omega, hx⟩, by dsimp only; omega⟩
        · rw [if_neg (by simpa using hc)]
          rw [if_neg hc] at hx
          exact ⟨by omega, ⟨u, v + 1, rfl, rfl, by omega, by omega, hx⟩, by dsimp only; omega⟩
    · rw [if_neg (by simpa using hv0)]
      rw [List.drop_of_length_le (by omega : b.length ≤ v), pairs_nil2, List.map_nil, List.append_nil] at hx
      rw [hx]; exact hq
  · rw [if_neg (by simpa using hu0)]
    rw [List.drop_of_length_le (by omega : a.length ≤ u), pairs_nil, List.map_nil, List.append_nil] at hx
    rw [hx]; exact hq
end Go.Proofs.Ytndjggncgpjolaa

namespace Go.Proofs.Ytndjggncgpjolaa
open Go.RowKit
set_option linter.unusedVariables false
def impl_partner.E (list : List Pair) (at_ : Int) (Q : Int → Prop) : Prop :=
  (∃ (I19 : Int → Prop) (mu20 : Int → Nat), I19 0 ∧ ∀ (v2 : Int), I19 v2 → (if decide (v2 < (list.length : Int)) then ((0 : Int) ≤ v2 ∧ v2 < (list.length : Int)) ∧ (if ((nth list v2).A) == at_ then Q ((nth list v2).B) else (I64 (v2 + 1)) ∧ I19 (v2 + 1) ∧ mu20 (v2 + 1) < mu20 v2) else Q (-1)))
set_option maxHeartbeats 8000000 in
set_option maxRecDepth 100000 in
theorem impl_partner.calls {O : Ob} (w0 : World) (hO : Ok w0 O) (list : List Pair) (A1 : Option Addr) (n2 c3 : Nat) (hp4 : Sl kPair w0 (Fr O) (.slice A1 n2 c3) list) (at_ : Int) (Q : Int → Prop) (h : impl_partner.E list at_ Q) :
    Ret Try.prog 48 [.slice A1 n2 c3, vi at_] w0 (fun v w' => ∃ (r0 : Int), v = vi r0 ∧ Q r0 ∧ Gr w0 w' none) := by
  have H : (∃ (I19 : Int → Prop) (mu20 : Int → Nat), I19 0 ∧ ∀ (v2 : Int), I19 v2 → (if decide (v2 < (list.length : Int)) then ((0 : Int) ≤ v2 ∧ v2 < (list.length : Int)) ∧ (if ((nth list v2).A) == at_ then Q ((nth list v2).B) else (I64 (v2 + 1)) ∧ I19 (v2 + 1) ∧ mu20 (v2 + 1) < mu20 v2) else Q (-1))) := h
  clear h
  have hc0 := Ct.init hO
  refine Ret_enter Try.func48 rfl 20 rfl [.tmp 4] rfl rfl ?_
  refine W_seq ?_
  refine W_reg ?_
  refine L_pu (P_assign (vi 0) rfl) ?_
  refine L_nil ?_
  refine W_seq ?_
  refine W_seq ?_
  refine W_reg ?_
  refine L_pu (P_move (.slice A1 n2 c3) rfl) ?_
  have hl6 := hp4.le
  refine L_pu (P_len Try.underlying86 A1 n2 c3 hp4.len rfl) ?_
  refine L_pu (P_move (vi 0) rfl) ?_
  refine L_nil ?_
  refine W_block ?_
  obtain ⟨I19, mu20, hI21, H⟩ := H
  refine W_loop (α := Int) (fun (sv__ : Int) t w15 => match sv__ with | v2 => I19 v2 ∧ Has t [(1, vi at_), (7, .slice A1 n2 c3), (8, vi (list.length : Int)), (9, vi v2)] ∧ Ct [] w0 w15 [] O ∧ Sl kPair w15 (Fr ([] ++ O)) (.slice A1 n2 c3) list) (fun (sv__ : Int) => match sv__ with | v2 => mu20 v2) 0 ⟨hI21, ⟨rfl, rfl, rfl, rfl, trivial⟩, hc0, hp4⟩ ?_
  rintro v2 _ w15 ⟨hI21, hh23, hc17, h18⟩
  obtain ⟨u24, rfl⟩ := Has.ins hh23
  have H := H v2 hI21
  refine W_seq ?_
  refine W_reg ?_
  refine L_pu (P_cmp v2 (list.length : Int) (decide (v2 < (list.length : Int))) rfl rfl rfl) ?_
  refine L_nil ?_
  refine W_seq ?_
  refine W_cond (decide (v2 < (list.length : Int))) rfl (fun hq25 => ?_) (fun hq25 => ?_)
  · have H := ite_t H hq25
    refine W_skip ?_
    refine W_seq ?_
    refine W_block ?_
    refine W_seq ?_
    refine W_reg ?_
    obtain ⟨hb26, H⟩ := H
    obtain ⟨ad27, cs28, hA29, hS32, hR30, hcl31⟩ := h18.get default (by decide) v2 hb26
    obtain rfl := kPair.op hR30
    refine L_pu (P_ia Try.underlying86 se86 A1 ad27 n2 c3 h18.len v2 rfl hA29 rfl hb26) ?_
    refine L_pu (P_lda ag148 sz148 cL (ad27.add (v2.toNat * 2)) [vi ((nth list v2).A), vi ((nth list v2).B)] rfl rfl hcl31) ?_
    refine L_alloc [.int .i64 0, .int .i64 0] ze148 fun w33 b34 hl36 hu37 g35 hx38 => ?_
    have hc40 := hc17.own g35 (some b34) (oglt hl36 hu37)
    refine L_stb b34 0 [vi 0, vi 0] [vi ((nth list v2).A), vi ((nth list v2).B)] [vi ((nth list v2).A), vi ((nth list v2).B)] rfl hx38 rfl sz148 rfl rfl rfl fun w41 g42 hx43 => ?_
    have hc44 := hc40.wr 0 rfl g42
    refine L_nil ?_
    refine W_seq ?_
    refine W_reg ?_
    refine L_pu (P_fa fa148_0 ⟨b34, 0, none⟩ ⟨b34, 0, none⟩ rfl rfl) ?_
    refine L_pu (P_ld ag3 cL ⟨b34, 0, none⟩ (vi ((nth list v2).A)) rfl (hx43.cell rfl)) ?_
    refine L_pu (P_move (vi at_) rfl) ?_
    refine L_pu (P_cmp ((nth list v2).A) at_ (((nth list v2).A) == at_) rfl rfl rfl) ?_
    refine L_nil ?_
    refine W_cond (((nth list v2).A) == at_) rfl (fun hq45 => ?_) (fun hq45 => ?_)
    · have H := ite_t H hq45
      refine W_seq ?_
      refine W_reg ?_
      refine L_pu (P_fa fa148_1 ⟨b34, 0, none⟩ ⟨b34, 1, none⟩ rfl rfl) ?_
      refine L_pu (P_ld ag3 cL ⟨b34, 1, none⟩ (vi ((nth list v2).B)) rfl (hx43.cell rfl)) ?_
      refine L_pu (P_assign (vi ((nth list v2).B)) rfl) ?_
      refine L_nil ?_
      refine W_ret ?_
      have hc46 := hc44.drop 0 rfl
      exact ⟨[vi ((nth list v2).B)], ⟨_, rfl, rfl⟩, (nth list v2).B, rfl, H, hc46.gr.g0⟩
    · have H := ite_f H hq45
      refine W_skip ?_
      refine W_reg ?_
      obtain ⟨hb47, H⟩ := H
      refine L_pu (P_add v2 1 rfl rfl hb47) ?_
      refine L_pu (P_move (vi (v2 + 1)) rfl) ?_
      refine L_nil ?_
      have hc48 := hc44.drop 0 rfl
      obtain ⟨hI49, hm50⟩ := H
      have h51 := (((h18.st (.own _ _ g35 (oge hl36))).st (.wl (L := [some b34]) (O := O) (j := 0) rfl g42)).st (.dr _ (L := [some b34]) (O := O) (j := 0) rfl))
      exact ⟨v2 + 1, hm50, hI49, ⟨rfl, rfl, rfl, rfl, trivial⟩, hc48, h51⟩
  · have H := ite_f H hq25
    refine W_exit (xin_hit ?_)
    refine W_seq ?_
    refine W_reg ?_
    refine L_pu (P_assign (vi (-1)) rfl) ?_
    refine L_nil ?_
    refine W_ret ?_
    exact ⟨[vi (-1)], ⟨_, rfl, rfl⟩, (-1), rfl, H, hc17.gr.g0⟩
end Go.Proofs.Ytndjggncgpjolaa

namespace Go.Proofs.Ytndjggncgpjolaa
set_option linter.unusedVariables false
set_option linter.unusedSimpArgs false
set_option linter.unusedSectionVars false
theorem impl_partner.law (l : List Pair) (k : Int) (Q : Int → Prop) (hl : l.length ≤ 1048576) (hq : Q (mateI l k)) : impl_partner.E l k Q := by
  unfold impl_partner.E
  refine ⟨fun i => ∃ u : Nat, i = u ∧ u ≤ l.length ∧ mateI (l.drop u) k = mateI l k, fun i => (l.length - i).toNat, ⟨0, rfl, Nat.zero_le _, rfl⟩, ?_⟩
  rintro _ ⟨u, rfl, hu, he⟩
  by_cases h : (u : Int) < (l.length : Int)
  · rw [if_pos (by simpa using h)]
    rw [drop_nth l (by omega), mateI_cons] at he
    refine ⟨by omega, ?_⟩
    by_cases hc : ((nth l (u : Int)).A == k) = true
    · rw [if_pos hc] at he ⊢
      rw [he]; exact hq
    · rw [if_neg hc] at he ⊢
      exact ⟨by unfold I64; omega, ⟨u + 1, by omega, by omega, he⟩, by dsimp only; omega⟩
  · rw [if_neg (by simpa using h)]
    rw [List.drop_of_length_le (by omega : l.length ≤ u), mateI_nil] at he
    rw [he]; exact hq
end Go.Proofs.Ytndjggncgpjolaa

namespace Go.Proofs.Ytndjggncgpjolaa
open Go.RowKit
set_option linter.unusedVariables false
def slices_Equal_Pt.E (s1 : List Pt) (s2 : List Pt) (Q : Bool → Prop) : Prop :=
  (if (s1.length : Int) != (s2.length : Int) then Q false else (∃ (I32 : Int → Prop) (mu33 : Int → Nat), I32 0 ∧ ∀ (v2 : Int), I32 v2 → (if decide (v2 < (s1.length : Int)) then ((0 : Int) ≤ v2 ∧ v2 < (s1.length : Int)) ∧ ((0 : Int) ≤ v2 ∧ v2 < (s2.length : Int)) ∧ (if !(eqPt (nth s1 v2) (nth s2 v2)) then Q false else (I64 (v2 + 1)) ∧ I32 (v2 + 1) ∧ mu33 (v2 + 1) < mu33 v2) else Q true)))
set_option maxHeartbeats 8000000 in
set_option maxRecDepth 100000 in
theorem slices_Equal_Pt.calls {O : Ob} (w0 : World) (hO : Ok w0 O) (s1 : List Pt) (A1 : Option Addr) (n2 c3 : Nat) (hp4 : Sl kPt w0 (Fr O) (.slice A1 n2 c3) s1) (s2 : List Pt) (A6 : Option Addr) (n7 c8 : Nat) (hp9 : Sl kPt w0 (Fr O) (.slice A6 n7 c8) s2) (Q : Bool → Prop) (h : slices_Equal_Pt.E s1 s2 Q) :
    Ret Try.prog 49 [.slice A1 n2 c3, .slice A6 n7 c8] w0 (fun v w' => ∃ (r0 : Bool), v = vb r0 ∧ Q r0 ∧ Gr w0 w' none) := by
  have H : (if (s1.length : Int) != (s2.length : Int) then Q false else (∃ (I32 : Int → Prop) (mu33 : Int → Nat), I32 0 ∧ ∀ (v2 : Int), I32 v2 → (if decide (v2 < (s1.length : Int)) then ((0 : Int) ≤ v2 ∧ v2 < (s1.length : Int)) ∧ ((0 : Int) ≤ v2 ∧ v2 < (s2.length : Int)) ∧ (if !(eqPt (nth s1 v2) (nth s2 v2)) then Q false else (I64 (v2 + 1)) ∧ I32 (v2 + 1) ∧ mu33 (v2 + 1) < mu33 v2) else Q true))) := h
  clear h
  have hc0 := Ct.init hO
  refine Ret_enter Try.func49 rfl 26 rfl [.tmp 4] rfl rfl ?_
  refine W_seq ?_
  refine W_reg ?_
  refine L_pu (P_assign (vb false) rfl) ?_
  refine L_nil ?_
  refine W_seq ?_
  refine W_seq ?_
  refine W_reg ?_
  refine L_pu (P_move (.slice A1 n2 c3) rfl) ?_
  have hl11 := hp4.le
  refine L_pu (P_len Try.underlying23 A1 n2 c3 hp4.len rfl) ?_
  refine L_pu (P_move (.slice A6 n7 c8) rfl) ?_
  have hl12 := hp9.le
  refine L_pu (P_len Try.underlying23 A6 n7 c8 hp9.len rfl) ?_
  refine L_pu (P_cmp (s1.length : Int) (s2.length : Int) ((s1.length : Int) != (s2.length : Int)) rfl rfl rfl) ?_
  refine L_nil ?_
  refine W_cond ((s1.length : Int) != (s2.length : Int)) rfl (fun hq13 => ?_) (fun hq13 => ?_)
  · have H := ite_t H hq13
    refine W_seq ?_
    refine W_reg ?_
    refine L_pu (P_assign (vb false) rfl) ?_
    refine L_nil ?_
    refine W_ret ?_
    exact ⟨[vb false], ⟨_, rfl, rfl⟩, false, rfl, H, hc0.gr.g0⟩
  · have H := ite_f H hq13
    refine W_skip ?_
    refine W_seq ?_
    refine W_seq ?_
    refine W_reg ?_
    refine L_pu (P_move (.slice A1 n2 c3) rfl) ?_
    refine L_pu (P_len Try.underlying23 A1 n2 c3 hp4.len rfl) ?_
    refine L_pu (P_move (vi 0) rfl) ?_
    refine L_nil ?_
    refine W_block ?_
    obtain ⟨I32, mu33, hI34, H⟩ := H
    refine W_loop (α := Int) (fun (sv__ : Int) t w26 => match sv__ with | v2 => I32 v2 ∧ Has t [(0, .slice A1 n2 c3), (1, .slice A6 n7 c8), (12, vi (s1.length : Int)), (13, vi v2)] ∧ Ct [] w0 w26 [] O ∧ Sl kPt w26 (Fr ([] ++ O)) (.slice A1 n2 c3) s1 ∧ Sl kPt w26 (Fr ([] ++ O)) (.slice A6 n7 c8) s2) (fun (sv__ : Int) => match sv__ with | v2 => mu33 v2) 0 ⟨hI34, ⟨rfl, rfl, rfl, rfl, trivial⟩, hc0, hp4, hp9⟩ ?_
    rintro v2 _ w26 ⟨hI34, hh36, hc29, h30, h31⟩
    obtain ⟨u37, rfl⟩ := Has.ins hh36
    have H := H v2 hI34
    refine W_seq ?_
    refine W_reg ?_
    refine L_pu (P_cmp v2 (s1.length : Int) (decide (v2 < (s1.length : Int))) rfl rfl rfl) ?_
    refine L_nil ?_
    refine W_seq ?_
    refine W_cond (decide (v2 < (s1.length : Int))) rfl (fun hq38 => ?_) (fun hq38 => ?_)
    · have H := ite_t H hq38
      refine W_skip ?_
      refine W_seq ?_
      refine W_block ?_
      refine W_seq ?_
      refine W_reg ?_
      refine L_pu (P_move (vi v2) rfl) ?_
      refine L_pu (P_assign (vi v2) rfl) ?_
      refine L_nil ?_
      refine W_seq ?_
      refine W_draw (fun x => Gr w26 x none) (by kernel_rfl) (by kernel_rfl) (Gr.drew _) ?_
      refine Q_pu (P_move (.slice A1 n2 c3) rfl) ?_
      refine Q_pu (P_move (vi v2) rfl) ?_
      obtain ⟨hb39, H⟩ := H
      obtain ⟨ad40, cs41, hA42, hS45, hR43, hcl44⟩ := h30.get default (by decide) v2 hb39
      obtain rfl := kPt.op hR43
      refine Q_pu (P_ia Try.underlying23 se23 A1 ad40 n2 c3 h30.len v2 rfl hA42 rfl hb39) ?_
      refine Q_pu (P_lda ag29 sz29 cQ (ad40.add (v2.toNat * 2)) [vi ((nth s1 v2).X), vi ((nth s1 v2).Y)] rfl rfl hcl44) ?_
      refine Q_pu (P_move (.slice A6 n7 c8) rfl) ?_
      refine Q_pu (P_move (vi v2) rfl) ?_
      obtain ⟨hb46, H⟩ := H
      obtain ⟨ad47, cs48, hA49, hS52, hR50, hcl51⟩ := h31.get default (by decide) v2 hb46
      obtain rfl := kPt.op hR50
      refine Q_pu (P_ia Try.underlying23 se23 A6 ad47 n7 c8 h31.len v2 rfl hA49 rfl hb46) ?_
      refine Q_pu (P_lda ag29 sz29 cQ (ad47.add (v2.toNat * 2)) [vi ((nth s2 v2).X), vi ((nth s2 v2).Y)] rfl rfl hcl51) ?_
      refine Q_pu (P_ne _ _ (eqPt (nth s1 v2) (nth s2 v2)) (qt29 (nth s1 v2) (nth s2 v2)) rfl rfl) ?_
      refine Q_nil fun w53 g54 => ?_
      have hc56 := hc29.k0 g54
      refine W_cond (!(eqPt (nth s1 v2) (nth s2 v2))) rfl (fun hq57 => ?_) (fun hq57 => ?_)
      · have H := ite_t H hq57
        refine W_seq ?_
        refine W_reg ?_
        refine L_pu (P_assign (vb false) rfl) ?_
        refine L_nil ?_
        refine W_ret ?_
        exact ⟨[vb false], ⟨_, rfl, rfl⟩, false, rfl, H, hc56.gr.g0⟩
      · have H := ite_f H hq57
        refine W_skip ?_
        refine W_reg ?_
        obtain ⟨hb58, H⟩ := H
        refine L_pu (P_add v2 1 rfl rfl hb58) ?_
        refine L_pu (P_move (vi (v2 + 1)) rfl) ?_
        refine L_nil ?_
        obtain ⟨hI59, hm60⟩ := H
        exact ⟨v2 + 1, hm60, hI59, ⟨rfl, rfl, rfl, rfl, trivial⟩, hc56, (h30.st (.new _ g54)), (h31.st (.new _ g54))⟩
    · have H := ite_f H hq38
      refine W_exit (xin_hit ?_)
      refine W_seq ?_
      refine W_reg ?_
      refine L_pu (P_assign (vb true) rfl) ?_
      refine L_nil ?_
      refine W_ret ?_
      exact ⟨[vb true], ⟨_, rfl, rfl⟩, true, rfl, H, hc29.gr.g0⟩
end Go.Proofs.Ytndjggncgpjolaa

namespace Go.Proofs.Ytndjggncgpjolaa
set_option linter.unusedVariables false
set_option linter.unusedSimpArgs false
set_option linter.unusedSectionVars false
theorem slices_Equal_Pt.law (a b : List Pt) (Q : Bool → Prop) (hb : a.length ≤ 1048576) (hq : Q (decide (a = b))) : slices_Equal_Pt.E a b Q := by
  unfold slices_Equal_Pt.E
  exact eqI_shape eqPt eqPt_is a b Q hb hq
end Go.Proofs.Ytndjggncgpjolaa

namespace Go.Proofs.Ytndjggncgpjolaa
open Go.RowKit
set_option linter.unusedVariables false
def impl_SeqMerge.E (base_ : List Pt) (a : List Pt) (b : List Pt) (Q : List Pt → Bool → Prop) : Prop :=
  (if decide ((base_.length : Int) > 12) then Q ([] : List Pt) false else (if decide ((a.length : Int) > 12) then Q ([] : List Pt) false else (if decide ((b.length : Int) > 12) then Q ([] : List Pt) false else impl_SeqPairs.E base_ a (fun r => impl_SeqPairs.E base_ b (fun r2 => (∃ (I128 : (List Pt) → Int → Int → Int → Int → Prop) (mu129 : (List Pt) → Int → Int → Int → Int → Nat), I128 ([] : List Pt) 0 0 0 0 ∧ ∀ (xs2 : List Pt) (i2 : Int) (j2 : Int) (k2 : Int) (at_2 : Int), I128 xs2 i2 j2 k2 at_2 → (if decide (at_2 ≤ (base_.length : Int)) then (if decide (at_2 < (base_.length : Int)) then impl_partner.E r at_2 (fun r3 => impl_partner.E r2 at_2 (fun r4 => (if decide (r3 < 0) then (-9223372036854775808 ≤ at_2) ∧ I128 xs2 i2 j2 k2 (at_2 + 1) ∧ mu129 xs2 i2 j2 k2 (at_2 + 1) < mu129 xs2 i2 j2 k2 at_2 else (if decide (r4 < 0) then (-9223372036854775808 ≤ at_2) ∧ I128 xs2 i2 j2 k2 (at_2 + 1) ∧ mu129 xs2 i2 j2 k2 (at_2 + 1) < mu129 xs2 i2 j2 k2 at_2 else ((0 : Int) ≤ i2 ∧ (i2 : Int) ≤ at_2 ∧ at_2 ≤ (base_.length : Int)) ∧ ((0 : Int) ≤ j2 ∧ (j2 : Int) ≤ r3 ∧ r3 ≤ (a.length : Int)) ∧ ((0 : Int) ≤ k2 ∧ (k2 : Int) ≤ r4 ∧ r4 ≤ (b.length : Int)) ∧ slices_Equal_Pt.E ((a.drop j2.toNat).take (r3.toNat - j2.toNat)) ((base_.drop i2.toNat).take (at_2.toNat - i2.toNat)) (fun r5 => (if r5 then (xs2.length + ((b.drop k2.toNat).take (r4.toNat - k2.toNat)).length ≤ 268435456) ∧ ((0 : Int) ≤ at_2 ∧ at_2 < (base_.length : Int)) ∧ ((xs2 ++ ((b.drop k2.toNat).take (r4.toNat - k2.toNat))).length + ([(nth base_ at_2)] : List Pt).length ≤ 268435456) ∧ (-9223372036854775808 ≤ at_2) ∧ ((base_.length : Int) ≤ 9223372036854775807 → (a.length : Int) ≤ 9223372036854775807 → (b.length : Int) ≤ 9223372036854775807 → I64 (r3 + 1)) ∧ ((base_.length : Int) ≤ 9223372036854775807 → (a.length : Int) ≤ 9223372036854775807 → (b.length : Int) ≤ 9223372036854775807 → I64 (r4 + 1)) ∧ (-9223372036854775808 ≤ at_2) ∧ I128 ((xs2 ++ ((b.drop k2.toNat).take (r4.toNat - k2.toNat))) ++ ([(nth base_ at_2)] : List Pt)) (at_2 + 1) (r3 + 1) (r4 + 1) (at_2 + 1) ∧ mu129 ((xs2 ++ ((b.drop k2.toNat).take (r4.toNat - k2.toNat))) ++ ([(nth base_ at_2)] : List Pt)) (at_2 + 1) (r3 + 1) (r4 + 1) (at_2 + 1) < mu129 xs2 i2 j2 k2 at_2 else slices_Equal_Pt.E ((b.drop k2.toNat).take (r4.toNat - k2.toNat)) ((base_.drop i2.toNat).take (at_2.toNat - i2.toNat)) (fun r6 => (if r6 then (xs2.length + ((a.drop j2.toNat).take (r3.toNat - j2.toNat)).length ≤ 268435456) ∧ ((0 : Int) ≤ at_2 ∧ at_2 < (base_.length : Int)) ∧ ((xs2 ++ ((a.drop j2.toNat).take (r3.toNat - j2.toNat))).length + ([(nth base_ at_2)] : List Pt).length ≤ 268435456) ∧ (-9223372036854775808 ≤ at_2) ∧ ((base_.length : Int) ≤ 9223372036854775807 → (a.length : Int) ≤ 9223372036854775807 → (b.length : Int) ≤ 9223372036854775807 → I64 (r3 + 1)) ∧ ((base_.length : Int) ≤ 9223372036854775807 → (a.length : Int) ≤ 9223372036854775807 → (b.length : Int) ≤ 9223372036854775807 → I64 (r4 + 1)) ∧ (-9223372036854775808 ≤ at_2) ∧ I128 ((xs2 ++ ((a.drop j2.toNat).take (r3.toNat - j2.toNat))) ++ ([(nth base_ at_2)] : List Pt)) (at_2 + 1) (r3 + 1) (r4 + 1) (at_2 + 1) ∧ mu129 ((xs2 ++ ((a.drop j2.toNat).take (r3.toNat - j2.toNat))) ++ ([(nth base_ at_2)] : List Pt)) (at_2 + 1) (r3 + 1) (r4 + 1) (at_2 + 1) < mu129 xs2 i2 j2 k2 at_2 else slices_Equal_Pt.E ((a.drop j2.toNat).take (r3.toNat - j2.toNat)) ((b.drop k2.toNat).take (r4.toNat - k2.toNat)) (fun r7 => (if r7 then (xs2.length + ((a.drop j2.toNat).take (r3.toNat - j2.toNat)).length ≤ 268435456) ∧ ((0 : Int) ≤ at_2 ∧ at_2 < (base_.length : Int)) ∧ ((xs2 ++ ((a.drop j2.toNat).take (r3.toNat - j2.toNat))).length + ([(nth base_ at_2)] : List Pt).length ≤ 268435456) ∧ (-9223372036854775808 ≤ at_2) ∧ ((base_.length : Int) ≤ 9223372036854775807 → (a.length : Int) ≤ 9223372036854775807 → (b.length : Int) ≤ 9223372036854775807 → I64 (r3 + 1)) ∧ ((base_.length : Int) ≤ 9223372036854775807 → (a.length : Int) ≤ 9223372036854775807 → (b.length : Int) ≤ 9223372036854775807 → I64 (r4 + 1)) ∧ (-9223372036854775808 ≤ at_2) ∧ I128 ((xs2 ++ ((a.drop j2.toNat).take (r3.toNat - j2.toNat))) ++ ([(nth base_ at_2)] : List Pt)) (at_2 + 1) (r3 + 1) (r4 + 1) (at_2 + 1) ∧ mu129 ((xs2 ++ ((a.drop j2.toNat).take (r3.toNat - j2.toNat))) ++ ([(nth base_ at_2)] : List Pt)) (at_2 + 1) (r3 + 1) (r4 + 1) (at_2 + 1) < mu129 xs2 i2 j2 k2 at_2 else Q ([] : List Pt) false)))))))))) else ((0 : Int) ≤ i2 ∧ (i2 : Int) ≤ at_2 ∧ at_2 ≤ (base_.length : Int)) ∧ ((0 : Int) ≤ j2 ∧ (j2 : Int) ≤ (a.length : Int) ∧ (a.length : Int) ≤ (a.length : Int)) ∧ ((0 : Int) ≤ k2 ∧ (k2 : Int) ≤ (b.length : Int) ∧ (b.length : Int) ≤ (b.length : Int)) ∧ slices_Equal_Pt.E ((a.drop j2.toNat).take ((a.length : Int).toNat - j2.toNat)) ((base_.drop i2.toNat).take (at_2.toNat - i2.toNat)) (fun r8 => (if r8 then (xs2.length + ((b.drop k2.toNat).take ((b.length : Int).toNat - k2.toNat)).length ≤ 268435456) ∧ ((base_.length : Int) ≤ 9223372036854775807 → (a.length : Int) ≤ 9223372036854775807 → (b.length : Int) ≤ 9223372036854775807 → I64 (at_2 + 1)) ∧ ((base_.length : Int) ≤ 9223372036854775807 → (a.length : Int) ≤ 9223372036854775807 → (b.length : Int) ≤ 9223372036854775807 → I64 ((a.length : Int) + 1)) ∧ ((base_.length : Int) ≤ 9223372036854775807 → (a.length : Int) ≤ 9223372036854775807 → (b.length : Int) ≤ 9223372036854775807 → I64 ((b.length : Int) + 1)) ∧ ((base_.length : Int) ≤ 9223372036854775807 → (a.length : Int) ≤ 9223372036854775807 → (b.length : Int) ≤ 9223372036854775807 → I64 (at_2 + 1)) ∧ I128 (xs2 ++ ((b.drop k2.toNat).take ((b.length : Int).toNat - k2.toNat))) (at_2 + 1) ((a.length : Int) + 1) ((b.length : Int) + 1) (at_2 + 1) ∧ mu129 (xs2 ++ ((b.drop k2.toNat).take ((b.length : Int).toNat - k2.toNat))) (at_2 + 1) ((a.length : Int) + 1) ((b.length : Int) + 1) (at_2 + 1) < mu129 xs2 i2 j2 k2 at_2 else slices_Equal_Pt.E ((b.drop k2.toNat).take ((b.length : Int).toNat - k2.toNat)) ((base_.drop i2.toNat).take (at_2.toNat - i2.toNat)) (fun r9 => (if r9 then (xs2.length + ((a.drop j2.toNat).take ((a.length : Int).toNat - j2.toNat)).length ≤ 268435456) ∧ ((base_.length : Int) ≤ 9223372036854775807 → (a.length : Int) ≤ 9223372036854775807 → (b.length : Int) ≤ 9223372036854775807 → I64 (at_2 + 1)) ∧ ((base_.length : Int) ≤ 9223372036854775807 → (a.length : Int) ≤ 9223372036854775807 → (b.length : Int) ≤ 9223372036854775807 → I64 ((a.length : Int) + 1)) ∧ ((base_.length : Int) ≤ 9223372036854775807 → (a.length : Int) ≤ 9223372036854775807 → (b.length : Int) ≤ 9223372036854775807 → I64 ((b.length : Int) + 1)) ∧ ((base_.length : Int) ≤ 9223372036854775807 → (a.length : Int) ≤ 9223372036854775807 → (b.length : Int) ≤ 9223372036854775807 → I64 (at_2 + 1)) ∧ I128 (xs2 ++ ((a.drop j2.toNat).take ((a.length : Int).toNat - j2.toNat))) (at_2 + 1) ((a.length : Int) + 1) ((b.length : Int) + 1) (at_2 + 1) ∧ mu129 (xs2 ++ ((a.drop j2.toNat).take ((a.length : Int).toNat - j2.toNat))) (at_2 + 1) ((a.length : Int) + 1) ((b.length : Int) + 1) (at_2 + 1) < mu129 xs2 i2 j2 k2 at_2 else slices_Equal_Pt.E ((a.drop j2.toNat).take ((a.length : Int).toNat - j2.toNat)) ((b.drop k2.toNat).take ((b.length : Int).toNat - k2.toNat)) (fun r10 => (if r10 then (xs2.length + ((a.drop j2.toNat).take ((a.length : Int).toNat - j2.toNat)).length ≤ 268435456) ∧ ((base_.length : Int) ≤ 9223372036854775807 → (a.length : Int) ≤ 9223372036854775807 → (b.length : Int) ≤ 9223372036854775807 → I64 (at_2 + 1)) ∧ ((base_.length : Int) ≤ 9223372036854775807 → (a.length : Int) ≤ 9223372036854775807 → (b.length : Int) ≤ 9223372036854775807 → I64 ((a.length : Int) + 1)) ∧ ((base_.length : Int) ≤ 9223372036854775807 → (a.length : Int) ≤ 9223372036854775807 → (b.length : Int) ≤ 9223372036854775807 → I64 ((b.length : Int) + 1)) ∧ ((base_.length : Int) ≤ 9223372036854775807 → (a.length : Int) ≤ 9223372036854775807 → (b.length : Int) ≤ 9223372036854775807 → I64 (at_2 + 1)) ∧ I128 (xs2 ++ ((a.drop j2.toNat).take ((a.length : Int).toNat - j2.toNat))) (at_2 + 1) ((a.length : Int) + 1) ((b.length : Int) + 1) (at_2 + 1) ∧ mu129 (xs2 ++ ((a.drop j2.toNat).take ((a.length : Int).toNat - j2.toNat))) (at_2 + 1) ((a.length : Int) + 1) ((b.length : Int) + 1) (at_2 + 1) < mu129 xs2 i2 j2 k2 at_2 else Q ([] : List Pt) false))))))) else Q xs2 true)))))))
set_option maxHeartbeats 8000000 in
set_option maxRecDepth 100000 in
theorem impl_SeqMerge.calls {O : Ob} (w0 : World) (hO : Ok w0 O) (base_ : List Pt) (A1 : Option Addr) (n2 c3 : Nat) (hp4 : Sl kPt w0 (Fr O) (.slice A1 n2 c3) base_) (a : List Pt) (A6 : Option Addr) (n7 c8 : Nat) (hp9 : Sl kPt w0 (Fr O) (.slice A6 n7 c8) a) (b : List Pt) (A11 : Option Addr) (n12 c13 : Nat) (hp14 : Sl kPt w0 (Fr O) (.slice A11 n12 c13) b) (Q : List Pt → Bool → Prop) (h : impl_SeqMerge.E base_ a b Q) :
    Ret Try.prog 10 [.slice A1 n2 c3, .slice A6 n7 c8, .slice A11 n12 c13] w0 (fun v w' => ∃ (r0 : List Pt) (r1 : Bool) (A0 : Option Addr) (n0 c0 : Nat), v = .tuple #[.slice A0 n0 c0, vb r1] ∧ Q r0 r1 ∧ Gr w0 w' none ∧ Ok w' ([blk (.slice A0 n0 c0)] ++ O) ∧ (∀ b, some b ∈ [blk (.slice A0 n0 c0)] → w0.heap.size ≤ b) ∧ Ow kPt 29 w' ([blk (.slice A0 n0 c0)] ++ O) (.slice A0 n0 c0) r0) := by
  have H : (if decide ((base_.length : Int) > 12) then Q ([] : List Pt) false else (if decide ((a.length : Int) > 12) then Q ([] : List Pt) false else (if decide ((b.length : Int) > 12) then Q ([] : List Pt) false else impl_SeqPairs.E base_ a (fun r => impl_SeqPairs.E base_ b (fun r2 => (∃ (I128 : (List Pt) → Int → Int → Int → Int → Prop) (mu129 : (List Pt) → Int → Int → Int → Int → Nat), I128 ([] : List Pt) 0 0 0 0 ∧ ∀ (xs2 : List Pt) (i2 : Int) (j2 : Int) (k2 : Int) (at_2 : Int), I128 xs2 i2 j2 k2 at_2 → (if decide (at_2 ≤ (base_.length : Int)) then (if decide (at_2 < (base_.length : Int)) then impl_partner.E r at_2 (fun r3 => impl_partner.E r2 at_2 (fun r4 => (if decide (r3 < 0) then (-9223372036854775808 ≤ at_2) ∧ I128 xs2 i2 j2 k2 (at_2 + 1) ∧ mu129 xs2 i2 j2 k2 (at_2 + 1) < mu129 xs2 i2 j2 k2 at_2 else (if decide (r4 < 0) then (-9223372036854775808 ≤ at_2) ∧ I128 xs2 i2 j2 k2 (at_2 + 1) ∧ mu129 xs2 i2 j2 k2 (at_2 + 1) < mu129 xs2 i2 j2 k2 at_2 else ((0 : Int) ≤ i2 ∧ (i2 : Int) ≤ at_2 ∧ at_2 ≤ (base_.length : Int)) ∧ ((0 : Int) ≤ j2 ∧ (j2 : Int) ≤ r3 ∧ r3 ≤ (a.length : Int)) ∧ ((0 : Int) ≤ k2 ∧ (k2 : Int) ≤ r4 ∧ r4 ≤ (b.length : Int)) ∧ slices_Equal_Pt.E ((a.drop j2.toNat).take (r3.toNat - j2.toNat)) ((base_.drop i2.toNat).take (at_2.toNat - i2.toNat)) (fun r5 => (if r5 then (xs2.length + ((b.drop k2.toNat).take (r4.toNat - k2.toNat)).length ≤ 268435456) ∧ ((0 : Int) ≤ at_2 ∧ at_2 < (base_.length : Int)) ∧ ((xs2 ++ ((b.drop k2.toNat).take (r4.toNat - k2.toNat))).length + ([(nth base_ at_2)] : List Pt).length ≤ 268435456) ∧ (-9223372036854775808 ≤ at_2) ∧ ((base_.length : Int) ≤ 9223372036854775807 → (a.length : Int) ≤ 9223372036854775807 → (b.length : Int) ≤ 9223372036854775807 → I64 (r3 + 1)) ∧ ((base_.length : Int) ≤ 9223372036854775807 → (a.length : Int) ≤ 9223372036854775807 → (b.length : Int) ≤ 9223372036854775807 → I64 (r4 + 1)) ∧ (-9223372036854775808 ≤ at_2) ∧ I128 ((xs2 ++ ((b.drop k2.toNat).take (r4.toNat - k2.toNat))) ++ ([(nth base_ at_2)] : List Pt)) (at_2 + 1) (r3 + 1) (r4 + 1) (at_2 + 1) ∧ mu129 ((xs2 ++ ((b.drop k2.toNat).take (r4.toNat - k2.toNat))) ++ ([(nth base_ at_2)] : List Pt)) (at_2 + 1) (r3 + 1) (r4 + 1) (at_2 + 1) < mu129 xs2 i2 j2 k2 at_2 else slices_Equal_Pt.E ((b.drop k2.toNat).take (r4.toNat - k2.toNat)) ((base_.drop i2.toNat).take (at_2.toNat - i2.toNat)) (fun r6 => (if r6 then (xs2.length + ((a.drop j2.toNat).take (r3.toNat - j2.toNat)).length ≤ 268435456) ∧ ((0 : Int) ≤ at_2 ∧ at_2 < (base_.length : Int)) ∧ ((xs2 ++ ((a.drop j2.toNat).take (r3.toNat - j2.toNat))).length + ([(nth base_ at_2)] : List Pt).length ≤ 268435456) ∧ (-9223372036854775808 ≤ at_2) ∧ ((base_.length : Int) ≤ 9223372036854775807 → (a.length : Int) ≤ 9223372036854775807 → (b.length : Int) ≤ 9223372036854775807 → I64 (r3 + 1)) ∧ ((base_.length : Int) ≤ 9223372036854775807 → (a.length : Int) ≤ 9223372036854775807 → (b.length : Int) ≤ 9223372036854775807 → I64 (r4 + 1)) ∧ (-9223372036854775808 ≤ at_2) ∧ I128 ((xs2 ++ ((a.drop j2.toNat).take (r3.toNat - j2.toNat))) ++ ([(nth base_ at_2)] : List Pt)) (at_2 + 1) (r3 + 1) (r4 + 1) (at_2 + 1) ∧ mu129 ((xs2 ++ ((a.drop j2.toNat).take (r3.toNat - j2.toNat))) ++ ([(nth base_ at_2)] : List Pt)) (at_2 + 1) (r3 + 1) (r4 + 1) (at_2 + 1) < mu129 xs2 i2 j2 k2 at_2 else slices_Equal_Pt.E ((a.drop j2.toNat).take (r3.toNat - j2.toNat)) ((b.drop k2.toNat).take (r4.toNat - k2.toNat)) (fun r7 => (if r7 then (xs2.length + ((a.drop j2.toNat).take (r3.toNat - j2.toNat)).length ≤ 268435456) ∧ ((0 : Int) ≤ at_2 ∧ at_2 < (base_.length : Int)) ∧ ((xs2 ++ ((a.drop j2.toNat).take (r3.toNat - j2.toNat))).length + ([(nth base_ at_2)] : List Pt).length ≤ 268435456) ∧ (-9223372036854775808 ≤ at_2) ∧ ((base_.length : Int) ≤ 9223372036854775807 → (a.length : Int) ≤ 9223372036854775807 → (b.length : Int) ≤ 9223372036854775807 → I64 (r3 + 1)) ∧ ((base_.length : Int) ≤ 9223372036854775807 → (a.length : Int) ≤ 9223372036854775807 → (b.length : Int) ≤ 9223372036854775807 → I64 (r4 + 1)) ∧ (-9223372036854775808 ≤ at_2) ∧ I128 ((xs2 ++ ((a.drop j2.toNat).take (r3.toNat - j2.toNat))) ++ ([(nth base_ at_2)] : List Pt)) (at_2 + 1) (r3 + 1) (r4 + 1) (at_2 + 1) ∧ mu129 ((xs2 ++ ((a.drop j2.toNat).take (r3.toNat - j2.toNat))) ++ ([(nth base_ at_2)] : List Pt)) (at_2 + 1) (r3 + 1) (r4 + 1) (at_2 + 1) < mu129 xs2 i2 j2 k2 at_2 else Q ([] : List Pt) false)))))))))) else ((0 : Int) ≤ i2 ∧ (i2 : Int) ≤ at_2 ∧ at_2 ≤ (base_.length : Int)) ∧ ((0 : Int) ≤ j2 ∧ (j2 : Int) ≤ (a.length : Int) ∧ (a.length : Int) ≤ (a.length : Int)) ∧ ((0 : Int) ≤ k2 ∧ (k2 : Int) ≤ (b.length : Int) ∧ (b.length : Int) ≤ (b.length : Int)) ∧ slices_Equal_Pt.E ((a.drop j2.toNat).take ((a.length : Int).toNat - j2.toNat)) ((base_.drop i2.toNat).take (at_2.toNat - i2.toNat)) (fun r8 => (if r8 then (xs2.length + ((b.drop k2.toNat).take ((b.length : Int).toNat - k2.toNat)).length ≤ 268435456) ∧ ((base_.length : Int) ≤ 9223372036854775807 → (a.length : Int) ≤ 9223372036854775807 → (b.length : Int) ≤ 9223372036854775807 → I64 (at_2 + 1)) ∧ ((base_.length : Int) ≤ 9223372036854775807 → (a.length : Int) ≤ 9223372036854775807 → (b.length : Int) ≤ 9223372036854775807 → I64 ((a.length : Int) + 1)) ∧ ((base_.length : Int) ≤ 9223372036854775807 → (a.length : Int) ≤ 9223372036854775807 → (b.length : Int) ≤ 9223372036854775807 → I64 ((b.length : Int) + 1)) ∧ ((base_.length : Int) ≤ 9223372036854775807 → (a.length : Int) ≤ 9223372036854775807 → (b.length : Int) ≤ 9223372036854775807 → I64 (at_2 + 1)) ∧ I128 (xs2 ++ ((b.drop k2.toNat).take ((b.length : Int).toNat - k2.toNat))) (at_2 + 1) ((a.length : Int) + 1) ((b.length : Int) + 1) (at_2 + 1) ∧ mu129 (xs2 ++ ((b.drop k2.toNat).take ((b.length : Int).toNat - k2.toNat))) (at_2 + 1) ((a.length : Int) + 1) ((b.length : Int) + 1) (at_2 + 1) < mu129 xs2 i2 j2 k2 at_2 else slices_Equal_Pt.E ((b.drop k2.toNat).take ((b.length : Int).toNat - k2.toNat)) ((base_.drop i2.toNat).take (at_2.toNat - i2.toNat)) (fun r9 => (if r9 then (xs2.length + ((a.drop j2.toNat).take ((a.length : Int).toNat - j2.toNat)).length ≤ 268435456) ∧ ((base_.length : Int) ≤ 9223372036854775807 → (a.length : Int) ≤ 9223372036854775807 → (b.length : Int) ≤ 9223372036854775807 → I64 (at_2 + 1)) ∧ ((base_.length : Int) ≤ 9223372036854775807 → (a.length : Int) ≤ 9223372036854775807 → (b.length : Int) ≤ 9223372036854775807 → I64 ((a.length : Int) + 1)) ∧ ((base_.length : Int) ≤ 9223372036854775807 → (a.length : Int) ≤ 9223372036854775807 → (b.length : Int) ≤ 9223372036854775807 → I64 ((b.length : Int) + 1)) ∧ ((base_.length : Int) ≤ 9223372036854775807 → (a.length : Int) ≤ 9223372036854775807 → (b.length : Int) ≤ 9223372036854775807 → I64 (at_2 + 1)) ∧ I128 (xs2 ++ ((a.drop j2.toNat).take ((a.length : Int).toNat - j2.toNat))) (at_2 + 1) ((a.length : Int) + 1) ((b.length : Int) + 1) (at_2 + 1) ∧ mu129 (xs2 ++ ((a.drop j2.toNat).take ((a.length : Int).toNat - j2.toNat))) (at_2 + 1) ((a.length : Int) + 1) ((b.length : Int) + 1) (at_2 + 1) < mu129 xs2 i2 j2 k2 at_2 else slices_Equal_Pt.E ((a.drop j2.toNat).take ((a.length : Int).toNat - j2.toNat)) ((b.drop k2.toNat).take ((b.length : Int).toNat - k2.toNat)) (fun r10 => (if r10 then (xs2.length + ((a.drop j2.toNat).take ((a.length : Int).toNat - j2.toNat)).length ≤ 268435456) ∧ ((base_.length : Int) ≤ 9223372036854775807 → (a.length : Int) ≤ 9223372036854775807 → (b.length : Int) ≤ 9223372036854775807 → I64 (at_2 + 1)) ∧ ((base_.length : Int) ≤ 9223372036854775807 → (a.length : Int) ≤ 9223372036854775807 → (b.length : Int) ≤ 9223372036854775807 → I64 ((a.length : Int) + 1)) ∧ ((base_.length : Int) ≤ 9223372036854775807 → (a.length : Int) ≤ 9223372036854775807 → (b.length : Int) ≤ 9223372036854775807 → I64 ((b.length : Int) + 1)) ∧ ((base_.length : Int) ≤ 9223372036854775807 → (a.length : Int) ≤ 9223372036854775807 → (b.length : Int) ≤ 9223372036854775807 → I64 (at_2 + 1)) ∧ I128 (xs2 ++ ((a.drop j2.toNat).take ((a.length : Int).toNat - j2.toNat))) (at_2 + 1) ((a.length : Int) + 1) ((b.length : Int) + 1) (at_2 + 1) ∧ mu129 (xs2 ++ ((a.drop j2.toNat).take ((a.length : Int).toNat - j2.toNat))) (at_2 + 1) ((a.length : Int) + 1) ((b.length : Int) + 1) (at_2 + 1) < mu129 xs2 i2 j2 k2 at_2 else Q ([] : List Pt) false))))))) else Q xs2 true))))))) := h
  clear h
  have hc0 := Ct.init hO
  refine Ret_enter Try.func10 rfl 117 rfl [.tmp 6, .tmp 7] rfl rfl ?_
  refine W_seq ?_
  refine W_reg ?_
  refine L_pu (P_assign (.slice none 0 0) rfl) ?_
  refine L_pu (P_assign (vb false) rfl) ?_
  refine L_nil ?_
  refine W_seq ?_
  refine W_seq ?_
  refine W_reg ?_
  refine L_pu (P_move (.slice A1 n2 c3) rfl) ?_
  have hl16 := hp4.le
  refine L_pu (P_len Try.underlying23 A1 n2 c3 hp4.len rfl) ?_
  refine L_pu (P_cmp (base_.length : Int) 12 (decide ((base_.length : Int) > 12)) rfl rfl rfl) ?_
  refine L_pu (P_move (vb (decide ((base_.length : Int) > 12))) rfl) ?_
  rcases bool_or (decide ((base_.length : Int) > 12)) with hq17 | hq17
  · have H := ite_t H hq17
    refine L_pass (dj := 23) rfl rfl (.inl (by exact congrArg Value.bool hq17)) ?_
    refine L_pass (dj := 23) rfl rfl (.inl (by exact congrArg Value.bool hq17)) ?_
    refine L_pass (dj := 23) rfl rfl (.inl (by exact congrArg Value.bool hq17)) ?_
    refine L_pu (P_pick true (vb true) (by exact congrArg Value.bool hq17) rfl) ?_
    refine L_pu (P_move (vb true) rfl) ?_
    refine L_pass (dj := 28) rfl rfl (.inl rfl) ?_
    refine L_pass (dj := 28) rfl rfl (.inl rfl) ?_
    refine L_pass (dj := 28) rfl rfl (.inl rfl) ?_
    refine L_pu (P_pick true (vb true) (by exact congrArg Value.bool rfl) rfl) ?_
    refine L_nil ?_
    refine W_ct (b := true) rfl rfl ?_
    refine W_seq ?_
    refine W_reg ?_
    refine L_lit (kd := kPt) ei23 hc0 ([] : List Pt) (cells := []) rfl (fun _ => by kernel_rfl) fun w18 A19 n20 c21 g22 hr23 hc24 h25 => ?_
    refine L_pu (P_assign (.slice A19 n20 c21) rfl) ?_
    refine L_pu (P_assign (vb false) rfl) ?_
    refine L_nil ?_
    refine W_ret ?_
    exact ⟨[.slice A19 n20 c21, vb false], ⟨_, rfl, ⟨_, rfl, rfl⟩⟩, ([] : List Pt), false, A19, n20, c21, rfl, H, hc24.gr.g0, hc24.ok, hc24.ge, h25⟩
  · have H := ite_f H hq17
    refine L_run (dj := 23) rfl rfl (by exact congrArg Value.bool hq17) ?_
    refine L_pu (P_move (.slice A6 n7 c8) rfl) ?_
    refine L_run (dj := 23) rfl rfl (by exact congrArg Value.bool hq17) ?_
    have hl27 := hp9.le
    refine L_pu (P_len Try.underlying23 A6 n7 c8 hp9.len rfl) ?_
    refine L_run (dj := 23) rfl rfl (by exact congrArg Value.bool hq17) ?_
    refine L_pu (P_cmp (a.length : Int) 12 (decide ((a.length : Int) > 12)) rfl rfl rfl) ?_
    refine L_pu (P_pick false (vb (decide ((a.length : Int) > 12))) (by exact congrArg Value.bool hq17) rfl) ?_
    refine L_pu (P_move (vb (decide ((a.length : Int) > 12))) rfl) ?_
    rcases bool_or (decide ((a.length : Int) > 12)) with hq28 | hq28
    · have H := ite_t H hq28
      refine L_pass (dj := 28) rfl rfl (.inl (by exact congrArg Value.bool hq28)) ?_
      refine L_pass (dj := 28) rfl rfl (.inl (by exact congrArg Value.bool hq28)) ?_
      refine L_pass (dj := 28) rfl rfl (.inl (by exact congrArg Value.bool hq28)) ?_
      refine L_pu (P_pick true (vb true) (by exact congrArg Value.bool hq28) rfl) ?_
      refine L_nil ?_
      refine W_ct (b := true) rfl rfl ?_
      refine W_seq ?_
      refine W_reg ?_
      refine L_lit (kd := kPt) ei23 hc0 ([] : List Pt) (cells := []) rfl (fun _ => by kernel_rfl) fun w29 A30 n31 c32 g33 hr34 hc35 h36 => ?_
      refine L_pu (P_assign (.slice A30 n31 c32) rfl) ?_
      refine L_pu (P_assign (vb false) rfl) ?_
      refine L_nil ?_
      refine W_ret ?_
      exact ⟨[.slice A30 n31 c32, vb false], ⟨_, rfl, ⟨_, rfl, rfl⟩⟩, ([] : List Pt), false, A30, n31, c32, rfl, H, hc35.gr.g0, hc35.ok, hc35.ge, h36⟩
    · have H := ite_f H hq28
      refine L_run (dj := 28) rfl rfl (by exact congrArg Value.bool hq28) ?_
      refine L_pu (P_move (.slice A11 n12 c13) rfl) ?_
      refine L_run (dj := 28) rfl rfl (by exact congrArg Value.bool hq28) ?_
      have hl38 := hp14.le
      refine L_pu (P_len Try.underlying23 A11 n12 c13 hp14.len rfl) ?_
      refine L_run (dj := 28) rfl rfl (by exact congrArg Value.bool hq28) ?_
      refine L_pu (P_cmp (b.length : Int) 12 (decide ((b.length : Int) > 12)) rfl rfl rfl) ?_
      refine L_pu (P_pick false (vb (decide ((b.length : Int) > 12))) (by exact congrArg Value.bool hq28) rfl) ?_
      refine L_nil ?_
      refine W_cond (decide ((b.length : Int) > 12)) rfl (fun hq39 => ?_) (fun hq39 => ?_)
      · have H := ite_t H hq39
        refine W_seq ?_
        refine W_reg ?_
        refine L_lit (kd := kPt) ei23 hc0 ([] : List Pt) (cells := []) rfl (fun _ => by kernel_rfl) fun w40 A41 n42 c43 g44 hr45 hc46 h47 => ?_
        refine L_pu (P_assign (.slice A41 n42 c43) rfl) ?_
        refine L_pu (P_assign (vb false) rfl) ?_
        refine L_nil ?_
        refine W_ret ?_
        exact ⟨[.slice A41 n42 c43, vb false], ⟨_, rfl, ⟨_, rfl, rfl⟩⟩, ([] : List Pt), false, A41, n42, c43, rfl, H, hc46.gr.g0, hc46.ok, hc46.ge, h47⟩
      · have H := ite_f H hq39
        refine W_skip ?_
        refine W_seq ?_
        refine W_reg ?_
        refine L_pu (P_move (.slice A1 n2 c3) rfl) ?_
        refine L_pu (P_move (.slice A6 n7 c8) rfl) ?_
        refine L_call go47 [.slice A1 n2 c3, .slice A6 n7 c8] rfl ((impl_SeqPairs.calls w0 hc0.ok base_ A1 n2 c3 hp4 a A6 n7 c8 hp9 _ H).mono ?_)
        rintro _ w49 ⟨r, A51, n52, c53, rfl, H, g50, hk57, hk58, h54⟩
        have hc59 := hc0.owns g50 hk57 hk58
        refine L_pu (P_move (.slice A1 n2 c3) rfl) ?_
        refine L_pu (P_move (.slice A11 n12 c13) rfl) ?_
        refine L_call go47 [.slice A1 n2 c3, .slice A11 n12 c13] rfl ((impl_SeqPairs.calls w49 hc59.ok base_ A1 n2 c3 (hp4.st hc59.st) b A11 n12 c13 (hp14.st hc59.st) _ H).mono ?_)
        rintro _ w60 ⟨r2, A62, n63, c64, rfl, H, g61, hk68, hk69, h65⟩
        have hc70 := hc59.owns g61 hk68 hk69
        refine L_pu (P_assign (.slice A51 n52 c53) rfl) ?_
        refine L_pu (P_assign (.slice A62 n63 c64) rfl) ?_
        refine L_nil ?_
        refine W_seq ?_
        refine W_reg ?_
        refine L_lit (kd := kPt) ei23 hc70 ([] : List Pt) (cells := []) rfl (fun _ => by kernel_rfl) fun w71 A72 n73 c74 g75 hr76 hc77 h78 => ?_
        refine L_pu (P_assign (.slice A72 n73 c74) rfl) ?_
        refine L_nil ?_
        refine W_seq ?_
        refine W_reg ?_
        refine L_pu (P_assign (vi 0) rfl) ?_
        refine L_pu (P_assign (vi 0) rfl) ?_
        refine L_pu (P_assign (vi 0) rfl) ?_
        refine L_nil ?_
        refine W_seq ?_
        refine W_seq ?_
        refine W_reg ?_
        refine L_pu (P_assign (vi 0) rfl) ?_
        refine L_nil ?_
        refine W_block ?_
        obtain ⟨I128, mu129, hI130, H⟩ := H
        have h132 := ((h54.sos g61 hk69).so _ g75 hr76)
        have h133 := (h65.so _ g75 hr76)
        refine W_loop (α := (List Pt) × (Option Addr) × Nat × Nat × Int × Int × Int × Int) (fun (sv__ : (List Pt) × (Option Addr) × Nat × Nat × Int × Int × Int × Int) t w111 => match sv__ with | (xs2, A117, n118, c119, i2, j2, k2, at_2) => I128 xs2 i2 j2 k2 at_2 ∧ Has t [(0, .slice A1 n2 c3), (1, .slice A6 n7 c8), (2, .slice A11 n12 c13), (8, .slice A51 n52 c53), (9, .slice A62 n63 c64), (10, .slice A117 n118 c119), (11, vi i2), (12, vi j2), (13, vi k2), (14, vi at_2)] ∧ Ct [] w0 w111 [blk (.slice A117 n118 c119), blk (.slice A62 n63 c64), blk (.slice A51 n52 c53)] O ∧ Sl kPt w111 (Fr ([blk (.slice A117 n118 c119), blk (.slice A62 n63 c64), blk (.slice A51 n52 c53)] ++ O)) (.slice A1 n2 c3) base_ ∧ Sl kPt w111 (Fr ([blk (.slice A117 n118 c119), blk (.slice A62 n63 c64), blk (.slice A51 n52 c53)] ++ O)) (.slice A6 n7 c8) a ∧ Sl kPt w111 (Fr ([blk (.slice A117 n118 c119), blk (.slice A62 n63 c64), blk (.slice A51 n52 c53)] ++ O)) (.slice A11 n12 c13) b ∧ Ow kPair 148 w111 ([blk (.slice A117 n118 c119), blk (.slice A62 n63 c64), blk (.slice A51 n52 c53)] ++ O) (.slice A51 n52 c53) r ∧ Ow kPair 148 w111 ([blk (.slice A117 n118 c119), blk (.slice A62 n63 c64), blk (.slice A51 n52 c53)] ++ O) (.slice A62 n63 c64) r2 ∧ Ow kPt 29 w111 ([blk (.slice A117 n118 c119), blk (.slice A62 n63 c64), blk (.slice A51 n52 c53)] ++ O) (.slice A117 n118 c119) xs2) (fun (sv__ : (List Pt) × (Option Addr) × Nat × Nat × Int × Int × Int × Int) => match sv__ with | (xs2, _, _, _, i2, j2, k2, at_2) => mu129 xs2 i2 j2 k2 at_2) (([] : List Pt), A72, n73, c74, 0, 0, 0, 0) ⟨hI130, ⟨rfl, rfl, rfl, rfl, rfl, rfl, rfl, rfl, rfl, rfl, trivial⟩, hc77, (hp4.st hc77.st), (hp9.st hc77.st), (hp14.st hc77.st), h132, h133, h78⟩ ?_
        rintro ⟨xs2, A117, n118, c119, i2, j2, k2, at_2⟩ _ w111 ⟨hI130, hh134, hc121, h122, h123, h124, h125, h126, h127⟩
        obtain ⟨u135, rfl⟩ := Has.ins hh134
        have H := H xs2 i2 j2 k2 at_2 hI130
        refine W_seq ?_
        refine W_seq ?_
        refine W_reg ?_
        refine L_pu (P_move (vi at_2) rfl) ?_
        refine L_pu (P_move (.slice A1 n2 c3) rfl) ?_
        have hl136 := h122.le
        refine L_pu (P_len Try.underlying23 A1 n2 c3 h122.len rfl) ?_
        refine L_pu (P_cmp at_2 (base_.length : Int) (decide (at_2 ≤ (base_.length : Int))) rfl rfl rfl) ?_
        refine L_nil ?_
        refine W_cond (decide (at_2 ≤ (base_.length : Int))) rfl (fun hq137 => ?_) (fun hq137 => ?_)
        · have H := ite_t H hq137
          refine W_skip ?_
          refine W_seq ?_
          refine W_block ?_
          refine W_seq ?_
          refine W_reg ?_
          refine L_pu (P_move (.slice A6 n7 c8) rfl) ?_
          have hl138 := h123.le
          refine L_pu (P_len Try.underlying23 A6 n7 c8 h123.len rfl) ?_
          refine L_pu (P_move (.slice A11 n12 c13) rfl) ?_
          have hl139 := h124.le
          refine L_pu (P_len Try.underlying23 A11 n12 c13 h124.len rfl) ?_
          refine L_pu (P_assign (vi (a.length : Int)) rfl) ?_
          refine L_pu (P_assign (vi (b.length : Int)) rfl) ?_
          refine L_nil ?_
          refine W_seq ?_
          refine W_seq ?_
          refine W_reg ?_
          refine L_pu (P_move (vi at_2) rfl) ?_
          refine L_pu (P_move (.slice A1 n2 c3) rfl) ?_
          refine L_pu (P_len Try.underlying23 A1 n2 c3 h122.len rfl) ?_
          refine L_pu (P_cmp at_2 (base_.length : Int) (decide (at_2 < (base_.length : Int))) rfl rfl rfl) ?_
          refine L_nil ?_
          refine W_cond (decide (at_2 < (base_.length : Int))) rfl (fun hq140 => ?_) (fun hq140 => ?_)
          · have H := ite_t H hq140
            refine W_seq ?_
            refine W_reg ?_
            refine L_pu (P_move (.slice A51 n52 c53) rfl) ?_
            refine L_pu (P_move (vi at_2) rfl) ?_
            have h141 := Ow.gv (L := [blk (.slice A117 n118 c119), blk (.slice A62 n63 c64), blk (.slice A51 n52 c53)]) (O := O) h125 hc121 (i := 2) rfl
            have hc142 := hc121.drop 2 rfl
            refine L_call go48 [.slice A51 n52 c53, vi at_2] rfl ((impl_partner.calls w111 hc142.ok r A51 n52 c53 h141 at_2 _ H).mono ?_)
            rintro _ w144 ⟨r3, rfl, H, g145⟩
            have hc149 := hc121.k0 g145
            refine L_pu (P_move (.slice A62 n63 c64) rfl) ?_
            refine L_pu (P_move (vi at_2) rfl) ?_
            have h150 := (h126.sn g145)
            have h151 := Ow.gv (L := [blk (.slice A117 n118 c119), blk (.slice A62 n63 c64), blk (.slice A51 n52 c53)]) (O := O) h150 hc149 (i := 1) rfl
            have hc152 := hc149.drop 1 rfl
            refine L_call go48 [.slice A62 n63 c64, vi at_2] rfl ((impl_partner.calls w144 hc152.ok r2 A62 n63 c64 h151 at_2 _ H).mono ?_)
            rintro _ w154 ⟨r4, rfl, H, g155⟩
            have hc159 := hc149.k0 g155
            refine L_pu (P_assign (vi r3) rfl) ?_
            refine L_pu (P_assign (vi r4) rfl) ?_
            refine L_nil ?_
            refine W_seq ?_
            refine W_reg ?_
            refine L_pu (P_move (vi r3) rfl) ?_
            refine L_pu (P_cmp r3 0 (decide (r3 < 0)) rfl rfl rfl) ?_
            refine L_pu (P_move (vb (decide (r3 < 0))) rfl) ?_
            rcases bool_or (decide (r3 < 0)) with hq160 | hq160
            · have H := ite_t H hq160
              refine L_pass (dj := 63) rfl rfl (.inl (by exact congrArg Value.bool hq160)) ?_
              refine L_pass (dj := 63) rfl rfl (.inl (by exact congrArg Value.bool hq160)) ?_
              refine L_pu (P_pick true (vb true) (by exact congrArg Value.bool hq160) rfl) ?_
              refine L_nil ?_
              refine W_ct (b := true) rfl rfl ?_
              refine W_exit (xin_hit ?_)
              refine W_reg ?_
              refine L_pu (P_move (vi at_2) rfl) ?_
              obtain ⟨hb162, H⟩ := H
              have hi161 : I64 (at_2 + 1) := i64_succ (of_decide_eq_true hq140) hl136 hb162
              refine L_pu (P_add at_2 1 rfl rfl hi161) ?_
              refine L_pu (P_assign (vi (at_2 + 1)) rfl) ?_
              refine L_nil ?_
              obtain ⟨hI163, hm164⟩ := H
              have h165 := ((h122.st (.new _ g145)).st (.new _ g155))
              have h166 := ((h123.st (.new _ g145)).st (.new _ g155))
              have h167 := ((h124.st (.new _ g145)).st (.new _ g155))
              have h168 := ((h125.sn g145).sn g155)
              have h169 := ((h126.sn g145).sn g155)
              have h170 := ((h127.sn g145).sn g155)
              exact ⟨(xs2, A117, n118, c119, i2, j2, k2, at_2 + 1), hm164, hI163, ⟨rfl, rfl, rfl, rfl, rfl, rfl, rfl, rfl, rfl, rfl, trivial⟩, hc159, h165, h166, h167, h168, h169, h170⟩
            · have H := ite_f H hq160
              refine L_run (dj := 63) rfl rfl (by exact congrArg Value.bool hq160) ?_
              refine L_pu (P_move (vi r4) rfl) ?_
              refine L_run (dj := 63) rfl rfl (by exact congrArg Value.bool hq160) ?_
              refine L_pu (P_cmp r4 0 (decide (r4 < 0)) rfl rfl rfl) ?_
              refine L_pu (P_pick false (vb (decide (r4 < 0))) (by exact congrArg Value.bool hq160) rfl) ?_
              refine L_nil ?_
              refine W_cond (decide (r4 < 0)) rfl (fun hq171 => ?_) (fun hq171 => ?_)
              · have H := ite_t H hq171
                refine W_exit (xin_hit ?_)
                refine W_reg ?_
                refine L_pu (P_move (vi at_2) rfl) ?_
                obtain ⟨hb173, H⟩ := H
                have hi172 : I64 (at_2 + 1) := i64_succ (of_decide_eq_true hq140) hl136 hb173
                refine L_pu (P_add at_2 1 rfl rfl hi172) ?_
                refine L_pu (P_assign (vi (at_2 + 1)) rfl) ?_
                refine L_nil ?_
                obtain ⟨hI174, hm175⟩ := H
                have h176 := ((h122.st (.new _ g145)).st (.new _ g155))
                have h177 := ((h123.st (.new _ g145)).st (.new _ g155))
                have h178 := ((h124.st (.new _ g145)).st (.new _ g155))
                have h179 := ((h125.sn g145).sn g155)
                have h180 := ((h126.sn g145).sn g155)
                have h181 := ((h127.sn g145).sn g155)
                exact ⟨(xs2, A117, n118, c119, i2, j2, k2, at_2 + 1), hm175, hI174, ⟨rfl, rfl, rfl, rfl, rfl, rfl, rfl, rfl, rfl, rfl, trivial⟩, hc159, h176, h177, h178, h179, h180, h181⟩
              · have H := ite_f H hq171
                refine W_skip ?_
                refine W_seq ?_
                refine W_draw (fun x => Gr w154 x none) (by kernel_rfl) (by kernel_rfl) (Gr.drew _) ?_
                refine Q_pu (P_move (.slice A1 n2 c3) rfl) ?_
                refine Q_pu (P_move (vi i2) rfl) ?_
                refine Q_pu (P_move (vi at_2) rfl) ?_
                obtain ⟨hb182, H⟩ := H
                have h187 := ((h122.st (.new _ g145)).st (.new _ g155))
                refine Q_cuts Try.underlying23 se23 A1 n2 c3 base_ rfl h187 i2 at_2 rfl rfl hb182 fun A183 n184 c185 h186 => ?_
                refine Q_pu (P_move (.slice A6 n7 c8) rfl) ?_
                refine Q_pu (P_move (vi j2) rfl) ?_
                refine Q_pu (P_move (vi r3) rfl) ?_
                obtain ⟨hb189, H⟩ := H
                have h194 := ((h123.st (.new _ g145)).st (.new _ g155))
                refine Q_cuts Try.underlying23 se23 A6 n7 c8 a rfl h194 j2 r3 rfl rfl hb189 fun A190 n191 c192 h193 => ?_
                refine Q_pu (P_move (.slice A11 n12 c13) rfl) ?_
                refine Q_pu (P_move (vi k2) rfl) ?_
                refine Q_pu (P_move (vi r4) rfl) ?_
                obtain ⟨hb196, H⟩ := H
                have h201 := ((h124.st (.new _ g145)).st (.new _ g155))
                refine Q_cuts Try.underlying23 se23 A11 n12 c13 b rfl h201 k2 r4 rfl rfl hb196 fun A197 n198 c199 h200 => ?_
                refine Q_pu (P_assign (.slice A183 n184 c185) rfl) ?_
                refine Q_pu (P_assign (.slice A190 n191 c192) rfl) ?_
                refine Q_pu (P_assign (.slice A197 n198 c199) rfl) ?_
                refine Q_nil fun w203 g204 => ?_
                have hc206 := hc159.k0 g204
                refine W_seq ?_
                refine W_block ?_
                refine W_seq ?_
                refine W_reg ?_
                refine L_pu (P_move (.slice A190 n191 c192) rfl) ?_
                refine L_pu (P_move (.slice A183 n184 c185) rfl) ?_
                refine L_call go49 [.slice A190 n191 c192, .slice A183 n184 c185] rfl ((slices_Equal_Pt.calls w203 hc206.ok ((a.drop j2.toNat).take (r3.toNat - j2.toNat)) A190 n191 c192 (h193.st (.new _ g204)) ((base_.drop i2.toNat).take (at_2.toNat - i2.toNat)) A183 n184 c185 (h186.st (.new _ g204)) _ H).mono ?_)
                rintro _ w207 ⟨r5, rfl, H, g208⟩
                have hc212 := hc206.k0 g208
                refine L_pu (P_assign (vb r5) rfl) ?_
                refine L_nil ?_
                refine W_cond r5 rfl (fun hq213 => ?_) (fun hq213 => ?_)
                · have H := ite_t H hq213
                  refine W_reg ?_
                  refine L_pu (P_move (.slice A117 n118 c119) rfl) ?_
                  refine L_pu (P_move (.slice A197 n198 c199) rfl) ?_
                  have h214 := ((h200.st (.new _ g204)).st (.new _ g208))
                  obtain ⟨hb215, H⟩ := H
                  have h216 := ((((h127.sn g145).sn g155).sn g204).sn g208)
                  refine L_app ei23 hc212 (.slice A117 n118 c119) xs2 ((b.drop k2.toNat).take (r4.toNat - k2.toNat)) rfl h216 (.slice A197 n198 c199) rfl h214.sx 0 rfl hb215 fun w217 A218 n219 c220 g221 s222 hc223 h224 => ?_
                  refine L_pu (P_assign (.slice A218 n219 c220) rfl) ?_
                  refine L_nil ?_
                  refine W_seq ?_
                  refine W_seq ?_
                  refine W_reg ?_
                  refine L_pu (P_move (vi at_2) rfl) ?_
                  refine L_pu (P_move (.slice A1 n2 c3) rfl) ?_
                  have h226 := (((h187.st (.new _ g204)).st (.new _ g208)).st s222)
                  refine L_pu (P_len Try.underlying23 A1 n2 c3 h226.len rfl) ?_
                  refine L_pu (P_cmp at_2 (base_.length : Int) (decide (at_2 < (base_.length : Int))) rfl rfl rfl) ?_
                  refine L_nil ?_
                  refine W_ct (b := decide (at_2 < (base_.length : Int))) rfl hq140 ?_
                  refine W_reg ?_
                  refine L_pu (P_move (.slice A218 n219 c220) rfl) ?_
                  refine L_pu (P_move (.slice A1 n2 c3) rfl) ?_
                  refine L_pu (P_move (vi at_2) rfl) ?_
                  obtain ⟨hb227, H⟩ := H
                  obtain ⟨ad228, cs229, hA230, hS233, hR231, hcl232⟩ := h226.get default (by decide) at_2 hb227
                  obtain rfl := kPt.op hR231
                  refine L_pu (P_ia Try.underlying23 se23 A1 ad228 n2 c3 h226.len at_2 rfl hA230 rfl hb227) ?_
                  refine L_pu (P_lda ag29 sz29 cL (ad228.add (at_2.toNat * 2)) [vi ((nth base_ at_2).X), vi ((nth base_ at_2).Y)] rfl rfl hcl232) ?_
                  refine L_lit (kd := kPt) ei23 hc223 ([(nth base_ at_2)] : List Pt) (cells := [vi ((nth base_ at_2).X), vi ((nth base_ at_2).Y)]) ⟨[vi ((nth base_ at_2).X), vi ((nth base_ at_2).Y)], _, rfl, (kPt.mk _ _ (nth base_ at_2)), rfl⟩ (fun _ => by kernel_rfl) fun w234 A235 n236 c237 g238 hr239 hc240 h241 => ?_
                  obtain ⟨hb243, H⟩ := H
                  have h244 := (h224.so _ g238 hr239)
                  refine L_app ei23 hc240 (.slice A218 n219 c220) (xs2 ++ ((b.drop k2.toNat).take (r4.toNat - k2.toNat))) ([(nth base_ at_2)] : List Pt) rfl h244 (.slice A235 n236 c237) rfl h241.sx 1 rfl hb243 fun w245 A246 n247 c248 g249 s250 hc251 h252 => ?_
                  refine L_pu (P_assign (.slice A246 n247 c248) rfl) ?_
                  refine L_nil ?_
                  refine W_reg ?_
                  refine L_pu (P_move (vi at_2) rfl) ?_
                  obtain ⟨hb255, H⟩ := H
                  have hi254 : I64 (at_2 + 1) := i64_succ (of_decide_eq_true hq140) hl136 hb255
                  refine L_pu (P_add at_2 1 rfl rfl hi254) ?_
                  refine L_pu (P_move (vi r3) rfl) ?_
                  obtain ⟨hb256, H⟩ := H
                  have hi257 := hb256 (len_le hl136) (len_le hl138) (len_le hl139)
                  refine L_pu (P_add r3 1 rfl rfl hi257) ?_
                  refine L_pu (P_move (vi r4) rfl) ?_
                  obtain ⟨hb258, H⟩ := H
                  have hi259 := hb258 (len_le hl136) (len_le hl138) (len_le hl139)
                  refine L_pu (P_add r4 1 rfl rfl hi259) ?_
                  refine L_pu (P_assign (vi (at_2 + 1)) rfl) ?_
                  refine L_pu (P_assign (vi (r3 + 1)) rfl) ?_
                  refine L_pu (P_assign (vi (r4 + 1)) rfl) ?_
                  refine L_nil ?_
                  refine W_reg ?_
                  refine L_pu (P_move (vi at_2) rfl) ?_
                  obtain ⟨hb261, H⟩ := H
                  have hi260 : I64 (at_2 + 1) := i64_succ (of_decide_eq_true hq140) hl136 hb261
                  refine L_pu (P_add at_2 1 rfl rfl hi260) ?_
                  refine L_pu (P_assign (vi (at_2 + 1)) rfl) ?_
                  refine L_nil ?_
                  have hc262 := hc251.drop 0 rfl
                  obtain ⟨hI263, hm264⟩ := H
                  have h265 := (((h226.st (.own _ _ g238 hr239)).st s250).st (.dr _ (L := [blk (.slice A235 n236 c237), blk (.slice A246 n247 c248), blk (.slice A62 n63 c64), blk (.slice A51 n52 c53)]) (O := O) (j := 0) rfl))
                  have h266 := ((((((h194.st (.new _ g204)).st (.new _ g208)).st s222).st (.own _ _ g238 hr239)).st s250).st (.dr _ (L := [blk (.slice A235 n236 c237), blk (.slice A246 n247 c248), blk (.slice A62 n63 c64), blk (.slice A51 n52 c53)]) (O := O) (j := 0) rfl))
                  have h267 := ((((((h201.st (.new _ g204)).st (.new _ g208)).st s222).st (.own _ _ g238 hr239)).st s250).st (.dr _ (L := [blk (.slice A235 n236 c237), blk (.slice A246 n247 c248), blk (.slice A62 n63 c64), blk (.slice A51 n52 c53)]) (O := O) (j := 0) rfl))
                  have h268 := (Ow.sd (L := [blk (.slice A235 n236 c237), blk (.slice A246 n247 c248), blk (.slice A62 n63 c64), blk (.slice A51 n52 c53)]) (O := O) (Ow.sm (L := [blk (.slice A235 n236 c237), blk (.slice A218 n219 c220), blk (.slice A62 n63 c64), blk (.slice A51 n52 c53)]) (O := O) ((Ow.sm (L := [blk (.slice A117 n118 c119), blk (.slice A62 n63 c64), blk (.slice A51 n52 c53)]) (O := O) ((((h125.sn g145).sn g155).sn g204).sn g208) hc212 (i := 2) rfl (j := 0) rfl (by decide) g221 s222).so _ g238 hr239) hc240 (i := 3) rfl (j := 1) rfl (by decide) g249 s250) (i := 3) rfl (j := 0) rfl (by decide))
                  have h269 := (Ow.sd (L := [blk (.slice A235 n236 c237), blk (.slice A246 n247 c248), blk (.slice A62 n63 c64), blk (.slice A51 n52 c53)]) (O := O) (Ow.sm (L := [blk (.slice A235 n236 c237), blk (.slice A218 n219 c220), blk (.slice A62 n63 c64), blk (.slice A51 n52 c53)]) (O := O) ((Ow.sm (L := [blk (.slice A117 n118 c119), blk (.slice A62 n63 c64), blk (.slice A51 n52 c53)]) (O := O) ((((h126.sn g145).sn g155).sn g204).sn g208) hc212 (i := 1) rfl (j := 0) rfl (by decide) g221 s222).so _ g238 hr239) hc240 (i := 2) rfl (j := 1) rfl (by decide) g249 s250) (i := 2) rfl (j := 0) rfl (by decide))
                  have h270 := (Ow.sd (L := [blk (.slice A235 n236 c237), blk (.slice A246 n247 c248), blk (.slice A62 n63 c64), blk (.slice A51 n52 c53)]) (O := O) h252 (i := 1) rfl (j := 0) rfl (by decide))
                  exact ⟨(((xs2 ++ ((b.drop k2.toNat).take (r4.toNat - k2.toNat))) ++ ([(nth base_ at_2)] : List Pt)), A246, n247, c248, at_2 + 1, r3 + 1, r4 + 1, at_2 + 1), hm264, hI263, ⟨rfl, rfl, rfl, rfl, rfl, rfl, rfl, rfl, rfl, rfl, trivial⟩, hc262, h265, h266, h267, h268, h269, h270⟩
                · have H := ite_f H hq213
                  refine W_seq ?_
                  refine W_reg ?_
                  refine L_pu (P_move (.slice A197 n198 c199) rfl) ?_
                  refine L_pu (P_move (.slice A183 n184 c185) rfl) ?_
                  have h271 := ((h200.st (.new _ g204)).st (.new _ g208))
                  have h272 := ((h186.st (.new _ g204)).st (.new _ g208))
                  refine L_call go49 [.slice A197 n198 c199, .slice A183 n184 c185] rfl ((slices_Equal_Pt.calls w207 hc212.ok ((b.drop k2.toNat).take (r4.toNat - k2.toNat)) A197 n198 c199 h271 ((base_.drop i2.toNat).take (at_2.toNat - i2.toNat)) A183 n184 c185 h272 _ H).mono ?_)
                  rintro _ w273 ⟨r6, rfl, H, g274⟩
                  have hc278 := hc212.k0 g274
                  refine L_pu (P_move (vb r6) rfl) ?_
                  rcases bool_or r6 with hq279 | hq279
                  · have H := ite_t H hq279
                    refine L_pass (dj := 91) rfl rfl (.inl (by exact congrArg Value.bool hq279)) ?_
                    refine L_pass (dj := 91) rfl rfl (.inl (by exact congrArg Value.bool hq279)) ?_
                    refine L_pass (dj := 91) rfl rfl (.inl (by exact congrArg Value.bool hq279)) ?_
                    refine L_pu (P_pick true (vb true) (by exact congrArg Value.bool hq279) rfl) ?_
                    refine L_pu (P_assign (vb true) rfl) ?_
                    refine L_nil ?_
                    refine W_ct (b := true) rfl rfl ?_
                    refine W_reg ?_
                    refine L_pu (P_move (.slice A117 n118 c119) rfl) ?_
                    refine L_pu (P_move (.slice A190 n191 c192) rfl) ?_
                    have h280 := (((h193.st (.new _ g204)).st (.new _ g208)).st (.new _ g274))
                    obtain ⟨hb281, H⟩ := H
                    have h282 := (((((h127.sn g145).sn g155).sn g204).sn g208).sn g274)
                    refine L_app ei23 hc278 (.slice A117 n118 c119) xs2 ((a.drop j2.toNat).take (r3.toNat - j2.toNat)) rfl h282 (.slice A190 n191 c192) rfl h280.sx 0 rfl hb281 fun w283 A284 n285 c286 g287 s288 hc289 h290 => ?_
                    refine L_pu (P_assign (.slice A284 n285 c286) rfl) ?_
                    refine L_nil ?_
                    refine W_seq ?_
                    refine W_seq ?_
                    refine W_reg ?_
                    refine L_pu (P_move (vi at_2) rfl) ?_
                    refine L_pu (P_move (.slice A1 n2 c3) rfl) ?_
                    have h292 := ((((h187.st (.new _ g204)).st (.new _ g208)).st (.new _ g274)).st s288)
                    refine L_pu (P_len Try.underlying23 A1 n2 c3 h292.len rfl) ?_
                    refine L_pu (P_cmp at_2 (base_.length : Int) (decide (at_2 < (base_.length : Int))) rfl rfl rfl) ?_
                    refine L_nil ?_
                    refine W_ct (b := decide (at_2 < (base_.length : Int))) rfl hq140 ?_
                    refine W_reg ?_
                    refine L_pu (P_move (.slice A284 n285 c286) rfl) ?_
                    refine L_pu (P_move (.slice A1 n2 c3) rfl) ?_
                    refine L_pu (P_move (vi at_2) rfl) ?_
                    obtain ⟨hb293, H⟩ := H
                    obtain ⟨ad294, cs295, hA296, hS299, hR297, hcl298⟩ := h292.get default (by decide) at_2 hb293
                    obtain rfl := kPt.op hR297
                    refine L_pu (P_ia Try.underlying23 se23 A1 ad294 n2 c3 h292.len at_2 rfl hA296 rfl hb293) ?_
                    refine L_pu (P_lda ag29 sz29 cL (ad294.add (at_2.toNat * 2)) [vi ((nth base_ at_2).X), vi ((nth base_ at_2).Y)] rfl rfl hcl298) ?_
                    refine L_lit (kd := kPt) ei23 hc289 ([(nth base_ at_2)] : List Pt) (cells := [vi ((nth base_ at_2).X), vi ((nth base_ at_2).Y)]) ⟨[vi ((nth base_ at_2).X), vi ((nth base_ at_2).Y)], _, rfl, (kPt.mk _ _ (nth base_ at_2)), rfl⟩ (fun _ => by kernel_rfl) fun w300 A301 n302 c303 g304 hr305 hc306 h307 => ?_
                    obtain ⟨hb309, H⟩ := H
                    have h310 := (h290.so _ g304 hr305)
                    refine L_app ei23 hc306 (.slice A284 n285 c286) (xs2 ++ ((a.drop j2.toNat).take (r3.toNat - j2.toNat))) ([(nth base_ at_2)] : List Pt) rfl h310 (.slice A301 n302 c303) rfl h307.sx 1 rfl hb309 fun w311 A312 n313 c314 g315 s316 hc317 h318 => ?_
                    refine L_pu (P_assign (.slice A312 n313 c314) rfl) ?_
                    refine L_nil ?_
                    refine W_reg ?_
                    refine L_pu (P_move (vi at_2) rfl) ?_
                    obtain ⟨hb321, H⟩ := H
                    have hi320 : I64 (at_2 + 1) := i64_succ (of_decide_eq_true hq140) hl136 hb321
                    refine L_pu (P_add at_2 1 rfl rfl hi320) ?_
                    refine L_pu (P_move (vi r3) rfl) ?_
                    obtain ⟨hb322, H⟩ := H
                    have hi323 := hb322 (len_le hl136) (len_le hl138) (len_le hl139)
                    refine L_pu (P_add r3 1 rfl rfl hi323) ?_
                    refine L_pu (P_move (vi r4) rfl) ?_
                    obtain ⟨hb324, H⟩ := H
                    have hi325 := hb324 (len_le hl136) (len_le hl138) (len_le hl139)
                    refine L_pu (P_add r4 1 rfl rfl hi325) ?_
                    refine L_pu (P_assign (vi (at_2 + 1)) rfl) ?_
                    refine L_pu (P_assign (vi (r3 + 1)) rfl) ?_
                    refine L_pu (P_assign (vi (r4 + 1)) rfl) ?_
                    refine L_nil ?_
                    refine W_reg ?_
                    refine L_pu (P_move (vi at_2) rfl) ?_
                    obtain ⟨hb327, H⟩ := H
                    have hi326 : I64 (at_2 + 1) := i64_succ (of_decide_eq_true hq140) hl136 hb327
                    refine L_pu (P_add at_2 1 rfl rfl hi326) ?_
                    refine L_pu (P_assign (vi (at_2 + 1)) rfl) ?_
                    refine L_nil ?_
                    have hc328 := hc317.drop 0 rfl
                    obtain ⟨hI329, hm330⟩ := H
                    have h331 := (((h292.st (.own _ _ g304 hr305)).st s316).st (.dr _ (L := [blk (.slice A301 n302 c303), blk (.slice A312 n313 c314), blk (.slice A62 n63 c64), blk (.slice A51 n52 c53)]) (O := O) (j := 0) rfl))
                    have h332 := (((((((h194.st (.new _ g204)).st (.new _ g208)).st (.new _ g274)).st s288).st (.own _ _ g304 hr305)).st s316).st (.dr _ (L := [blk (.slice A301 n302 c303), blk (.slice A312 n313 c314), blk (.slice A62 n63 c64), blk (.slice A51 n52 c53)]) (O := O) (j := 0) rfl))
                    have h333 := (((((((h201.st (.new _ g204)).st (.new _ g208)).st (.new _ g274)).st s288).st (.own _ _ g304 hr305)).st s316).st (.dr _ (L := [blk (.slice A301 n302 c303), blk (.slice A312 n313 c314), blk (.slice A62 n63 c64), blk (.slice A51 n52 c53)]) (O := O) (j := 0) rfl))
                    have h334 := (Ow.sd (L := [blk (.slice A301 n302 c303), blk (.slice A312 n313 c314), blk (.slice A62 n63 c64), blk (.slice A51 n52 c53)]) (O := O) (Ow.sm (L := [blk (.slice A301 n302 c303), blk (.slice A284 n285 c286), blk (.slice A62 n63 c64), blk (.slice A51 n52 c53)]) (O := O) ((Ow.sm (L := [blk (.slice A117 n118 c119), blk (.slice A62 n63 c64), blk (.slice A51 n52 c53)]) (O := O) (((((h125.sn g145).sn g155).sn g204).sn g208).sn g274) hc278 (i := 2) rfl (j := 0) rfl (by decide) g287 s288).so _ g304 hr305) hc306 (i := 3) rfl (j := 1) rfl (by decide) g315 s316) (i := 3) rfl (j := 0) rfl (by decide))
                    have h335 := (Ow.sd (L := [blk (.slice A301 n302 c303), blk (.slice A312 n313 c314), blk (.slice A62 n63 c64), blk (.slice A51 n52 c53)]) (O := O) (Ow.sm (L := [blk (.slice A301 n302 c303), blk (.slice A284 n285 c286), blk (.slice A62 n63 c64), blk (.slice A51 n52 c53)]) (O := O) ((Ow.sm (L := [blk (.slice A117 n118 c119), blk (.slice A62 n63 c64), blk (.slice A51 n52 c53)]) (O := O) (((((h126.sn g145).sn g155).sn g204).sn g208).sn g274) hc278 (i := 1) rfl (j := 0) rfl (by decide) g287 s288).so _ g304 hr305) hc306 (i := 2) rfl (j := 1) rfl (by decide) g315 s316) (i := 2) rfl (j := 0) rfl (by decide))
                    have h336 := (Ow.sd (L := [blk (.slice A301 n302 c303), blk (.slice A312 n313 c314), blk (.slice A62 n63 c64), blk (.slice A51 n52 c53)]) (O := O) h318 (i := 1) rfl (j := 0) rfl (by decide))
                    exact ⟨(((xs2 ++ ((a.drop j2.toNat).take (r3.toNat - j2.toNat))) ++ ([(nth base_ at_2)] : List Pt)), A312, n313, c314, at_2 + 1, r3 + 1, r4 + 1, at_2 + 1), hm330, hI329, ⟨rfl, rfl, rfl, rfl, rfl, rfl, rfl, rfl, rfl, rfl, trivial⟩, hc328, h331, h332, h333, h334, h335, h336⟩
                  · have H := ite_f H hq279
                    refine L_run (dj := 91) rfl rfl (by exact congrArg Value.bool hq279) ?_
                    refine L_pu (P_move (.slice A190 n191 c192) rfl) ?_
                    refine L_run (dj := 91) rfl rfl (by exact congrArg Value.bool hq279) ?_
                    refine L_pu (P_move (.slice A197 n198 c199) rfl) ?_
                    refine L_run (dj := 91) rfl rfl (by exact congrArg Value.bool hq279) ?_
                    have h337 := (((h193.st (.new _ g204)).st (.new _ g208)).st (.new _ g274))
                    refine L_call go49 [.slice A190 n191 c192, .slice A197 n198 c199] rfl ((slices_Equal_Pt.calls w273 hc278.ok ((a.drop j2.toNat).take (r3.toNat - j2.toNat)) A190 n191 c192 h337 ((b.drop k2.toNat).take (r4.toNat - k2.toNat)) A197 n198 c199 (h271.st (.new _ g274)) _ H).mono ?_)
                    rintro _ w338 ⟨r7, rfl, H, g339⟩
                    have hc343 := hc278.k0 g339
                    refine L_pu (P_pick false (vb r7) (by exact congrArg Value.bool hq279) rfl) ?_
                    refine L_pu (P_assign (vb r7) rfl) ?_
                    refine L_nil ?_
                    refine W_cond r7 rfl (fun hq344 => ?_) (fun hq344 => ?_)
                    · have H := ite_t H hq344
                      refine W_reg ?_
                      refine L_pu (P_move (.slice A117 n118 c119) rfl) ?_
                      refine L_pu (P_move (.slice A190 n191 c192) rfl) ?_
                      obtain ⟨hb345, H⟩ := H
                      have h346 := ((((((h127.sn g145).sn g155).sn g204).sn g208).sn g274).sn g339)
                      refine L_app ei23 hc343 (.slice A117 n118 c119) xs2 ((a.drop j2.toNat).take (r3.toNat - j2.toNat)) rfl h346 (.slice A190 n191 c192) rfl (h337.st (.new _ g339)).sx 0 rfl hb345 fun w347 A348 n349 c350 g351 s352 hc353 h354 => ?_
                      refine L_pu (P_assign (.slice A348 n349 c350) rfl) ?_
                      refine L_nil ?_
                      refine W_seq ?_
                      refine W_seq ?_
                      refine W_reg ?_
                      refine L_pu (P_move (vi at_2) rfl) ?_
                      refine L_pu (P_move (.slice A1 n2 c3) rfl) ?_
                      have h356 := (((((h187.st (.new _ g204)).st (.new _ g208)).st (.new _ g274)).st (.new _ g339)).st s352)
                      refine L_pu (P_len Try.underlying23 A1 n2 c3 h356.len rfl) ?_
                      refine L_pu (P_cmp at_2 (base_.length : Int) (decide (at_2 < (base_.length : Int))) rfl rfl rfl) ?_
                      refine L_nil ?_
                      refine W_ct (b := decide (at_2 < (base_.length : Int))) rfl hq140 ?_
                      refine W_reg ?_
                      refine L_pu (P_move (.slice A348 n349 c350) rfl) ?_
                      refine L_pu (P_move (.slice A1 n2 c3) rfl) ?_
                      refine L_pu (P_move (vi at_2) rfl) ?_
                      obtain ⟨hb357, H⟩ := H
                      obtain ⟨ad358, cs359, hA360, hS363, hR361, hcl362⟩ := h356.get default (by decide) at_2 hb357
                      obtain rfl := kPt.op hR361
                      refine L_pu (P_ia Try.underlying23 se23 A1 ad358 n2 c3 h356.len at_2 rfl hA360 rfl hb357) ?_
                      refine L_pu (P_lda ag29 sz29 cL (ad358.add (at_2.toNat * 2)) [vi ((nth base_ at_2).X), vi ((nth base_ at_2).Y)] rfl rfl hcl362) ?_
                      refine L_lit (kd := kPt) ei23 hc353 ([(nth base_ at_2)] : List Pt) (cells := [vi ((nth base_ at_2).X), vi ((nth base_ at_2).Y)]) ⟨[vi ((nth base_ at_2).X), vi ((nth base_ at_2).Y)], _, rfl, (kPt.mk _ _ (nth base_ at_2)), rfl⟩ (fun _ => by kernel_rfl) fun w364 A365 n366 c367 g368 hr369 hc370 h371 => ?_
                      obtain ⟨hb373, H⟩ := H
                      have h374 := (h354.so _ g368 hr369)
                      refine L_app ei23 hc370 (.slice A348 n349 c350) (xs2 ++ ((a.drop j2.toNat).take (r3.toNat - j2.toNat))) ([(nth base_ at_2)] : List Pt) rfl h374 (.slice A365 n366 c367) rfl h371.sx 1 rfl hb373 fun w375 A376 n377 c378 g379 s380 hc381 h382 => ?_
                      refine L_pu (P_assign (.slice A376 n377 c378) rfl) ?_
                      refine L_nil ?_
                      refine W_reg ?_
                      refine L_pu (P_move (vi at_2) rfl) ?_
                      obtain ⟨hb385, H⟩ := H
                      have hi384 : I64 (at_2 + 1) := i64_succ (of_decide_eq_true hq140) hl136 hb385
                      refine L_pu (P_add at_2 1 rfl rfl hi384) ?_
                      refine L_pu (P_move (vi r3) rfl) ?_
                      obtain ⟨hb386, H⟩ := H
                      have hi387 := hb386 (len_le hl136) (len_le hl138) (len_le hl139)
                      refine L_pu (P_add r3 1 rfl rfl hi387) ?_
                      refine L_pu (P_move (vi r4) rfl) ?_
                      obtain ⟨hb388, H⟩ := H
                      have hi389 := hb388 (len_le hl136) (len_le hl138) (len_le hl139)
                      refine L_pu (P_add r4 1 rfl rfl hi389) ?_
                      refine L_pu (P_assign (vi (at_2 + 1)) rfl) ?_
                      refine L_pu (P_assign (vi (r3 + 1)) rfl) ?_
                      refine L_pu (P_assign (vi (r4 + 1)) rfl) ?_
                      refine L_nil ?_
                      refine W_reg ?_
                      refine L_pu (P_move (vi at_2) rfl) ?_
                      obtain ⟨hb391, H⟩ := H
                      have hi390 : I64 (at_2 + 1) := i64_succ (of_decide_eq_true hq140) hl136 hb391
                      refine L_pu (P_add at_2 1 rfl rfl hi390) ?_
                      refine L_pu (P_assign (vi (at_2 + 1)) rfl) ?_
                      refine L_nil ?_
                      have hc392 := hc381.drop 0 rfl
                      obtain ⟨hI393, hm394⟩ := H
                      have h395 := (((h356.st (.own _ _ g368 hr369)).st s380).st (.dr _ (L := [blk (.slice A365 n366 c367), blk (.slice A376 n377 c378), blk (.slice A62 n63 c64), blk (.slice A51 n52 c53)]) (O := O) (j := 0) rfl))
                      have h396 := ((((((((h194.st (.new _ g204)).st (.new _ g208)).st (.new _ g274)).st (.new _ g339)).st s352).st (.own _ _ g368 hr369)).st s380).st (.dr _ (L := [blk (.slice A365 n366 c367), blk (.slice A376 n377 c378), blk (.slice A62 n63 c64), blk (.slice A51 n52 c53)]) (O := O) (j := 0) rfl))
                      have h397 := ((((((((h201.st (.new _ g204)).st (.new _ g208)).st (.new _ g274)).st (.new _ g339)).st s352).st (.own _ _ g368 hr369)).st s380).st (.dr _ (L := [blk (.slice A365 n366 c367), blk (.slice A376 n377 c378), blk (.slice A62 n63 c64), blk (.slice A51 n52 c53)]) (O := O) (j := 0) rfl))
                      have h398 := (Ow.sd (L := [blk (.slice A365 n366 c367), blk (.slice A376 n377 c378), blk (.slice A62 n63 c64), blk (.slice A51 n52 c53)]) (O := O) (Ow.sm (L := [blk (.slice A365 n366 c367), blk (.slice A348 n349 c350), blk (.slice A62 n63 c64), blk (.slice A51 n52 c53)]) (O := O) ((Ow.sm (L := [blk (.slice A117 n118 c119), blk (.slice A62 n63 c64), blk (.slice A51 n52 c53)]) (O := O) ((((((h125.sn g145).sn g155).sn g204).sn g208).sn g274).sn g339) hc343 (i := 2) rfl (j := 0) rfl (by decide) g351 s352).so _ g368 hr369) hc370 (i := 3) rfl (j := 1) rfl (by decide) g379 s380) (i := 3) rfl (j := 0) rfl (by decide))
                      have h399 := (Ow.sd (L := [blk (.slice A365 n366 c367), blk (.slice A376 n377 c378), blk (.slice A62 n63 c64), blk (.slice A51 n52 c53)]) (O := O) (Ow.sm (L := [blk (.slice A365 n366 c367), blk (.slice A348 n349 c350), blk (.slice A62 n63 c64), blk (.slice A51 n52 c53)]) (O := O) ((Ow.sm (L := [blk (.slice A117 n118 c119), blk (.slice A62 n63 c64), blk (.slice A51 n52 c53)]) (O := O) ((((((h126.sn g145).sn g155).sn g204).sn g208).sn g274).sn g339) hc343 (i := 1) rfl (j := 0) rfl (by decide) g351 s352).so _ g368 hr369) hc370 (i := 2) rfl (j := 1) rfl (by decide) g379 s380) (i := 2) rfl (j := 0) rfl (by decide))
                      have h400 := (Ow.sd (L := [blk (.slice A365 n366 c367), blk (.slice A376 n377 c378), blk (.slice A62 n63 c64), blk (.slice A51 n52 c53)]) (O := O) h382 (i := 1) rfl (j := 0) rfl (by decide))
                      exact ⟨(((xs2 ++ ((a.drop j2.toNat).take (r3.toNat - j2.toNat))) ++ ([(nth base_ at_2)] : List Pt)), A376, n377, c378, at_2 + 1, r3 + 1, r4 + 1, at_2 + 1), hm394, hI393, ⟨rfl, rfl, rfl, rfl, rfl, rfl, rfl, rfl, rfl, rfl, trivial⟩, hc392, h395, h396, h397, h398, h399, h400⟩
                    · have H := ite_f H hq344
                      refine W_seq ?_
                      refine W_reg ?_
                      refine L_lit (kd := kPt) ei23 hc343 ([] : List Pt) (cells := []) rfl (fun _ => by kernel_rfl) fun w401 A402 n403 c404 g405 hr406 hc407 h408 => ?_
                      refine L_pu (P_assign (.slice A402 n403 c404) rfl) ?_
                      refine L_pu (P_assign (vb false) rfl) ?_
                      refine L_nil ?_
                      refine W_ret ?_
                      have hc410 := hc407.drop 1 rfl
                      have hc411 := hc410.drop 1 rfl
                      have hc412 := hc411.drop 1 rfl
                      have h413 := (Ow.sd (L := [blk (.slice A402 n403 c404), blk (.slice A51 n52 c53)]) (O := O) (Ow.sd (L := [blk (.slice A402 n403 c404), blk (.slice A62 n63 c64), blk (.slice A51 n52 c53)]) (O := O) (Ow.sd (L := [blk (.slice A402 n403 c404), blk (.slice A117 n118 c119), blk (.slice A62 n63 c64), blk (.slice A51 n52 c53)]) (O := O) h408 (i := 0) rfl (j := 1) rfl (by decide)) (i := 0) rfl (j := 1) rfl (by decide)) (i := 0) rfl (j := 1) rfl (by decide))
                      exact ⟨[.slice A402 n403 c404, vb false], ⟨_, rfl, ⟨_, rfl, rfl⟩⟩, ([] : List Pt), false, A402, n403, c404, rfl, H, hc412.gr.g0, hc412.ok, hc412.ge, h413⟩
          · have H := ite_f H hq140
            refine W_skip ?_
            refine W_seq ?_
            refine W_draw (fun x => Gr w111 x none) (by kernel_rfl) (by kernel_rfl) (Gr.drew _) ?_
            refine Q_pu (P_move (.slice A1 n2 c3) rfl) ?_
            refine Q_pu (P_move (vi i2) rfl) ?_
            refine Q_pu (P_move (vi at_2) rfl) ?_
            obtain ⟨hb414, H⟩ := H
            refine Q_cuts Try.underlying23 se23 A1 n2 c3 base_ rfl h122 i2 at_2 rfl rfl hb414 fun A415 n416 c417 h418 => ?_
            refine Q_pu (P_move (.slice A6 n7 c8) rfl) ?_
            refine Q_pu (P_move (vi j2) rfl) ?_
            refine Q_pu (P_move (vi (a.length : Int)) rfl) ?_
            obtain ⟨hb420, H⟩ := H
            refine Q_cuts Try.underlying23 se23 A6 n7 c8 a rfl h123 j2 (a.length : Int) rfl rfl hb420 fun A421 n422 c423 h424 => ?_
            refine Q_pu (P_move (.slice A11 n12 c13) rfl) ?_
            refine Q_pu (P_move (vi k2) rfl) ?_
            refine Q_pu (P_move (vi (b.length : Int)) rfl) ?_
            obtain ⟨hb426, H⟩ := H
            refine Q_cuts Try.underlying23 se23 A11 n12 c13 b rfl h124 k2 (b.length : Int) rfl rfl hb426 fun A427 n428 c429 h430 => ?_
            refine Q_pu (P_assign (.slice A415 n416 c417) rfl) ?_
            refine Q_pu (P_assign (.slice A421 n422 c423) rfl) ?_
            refine Q_pu (P_assign (.slice A427 n428 c429) rfl) ?_
            refine Q_nil fun w432 g433 => ?_
            have hc435 := hc121.k0 g433
            refine W_seq ?_
            refine W_block ?_
            refine W_seq ?_
            refine W_reg ?_
            refine L_pu (P_move (.slice A421 n422 c423) rfl) ?_
            refine L_pu (P_move (.slice A415 n416 c417) rfl) ?_
            refine L_call go49 [.slice A421 n422 c423, .slice A415 n416 c417] rfl ((slices_Equal_Pt.calls w432 hc435.ok ((a.drop j2.toNat).take ((a.length : Int).toNat - j2.toNat)) A421 n422 c423 (h424.st (.new _ g433)) ((base_.drop i2.toNat).take (at_2.toNat - i2.toNat)) A415 n416 c417 (h418.st (.new _ g433)) _ H).mono ?_)
            rintro _ w436 ⟨r8, rfl, H, g437⟩
            have hc441 := hc435.k0 g437
            refine L_pu (P_assign (vb r8) rfl) ?_
            refine L_nil ?_
            refine W_cond r8 rfl (fun hq442 => ?_) (fun hq442 => ?_)
            · have H := ite_t H hq442
              refine W_reg ?_
              refine L_pu (P_move (.slice A117 n118 c119) rfl) ?_
              refine L_pu (P_move (.slice A427 n428 c429) rfl) ?_
              have h443 := ((h430.st (.new _ g433)).st (.new _ g437))
              obtain ⟨hb444, H⟩ := H
              have h445 := ((h127.sn g433).sn g437)
              refine L_app ei23 hc441 (.slice A117 n118 c119) xs2 ((b.drop k2.toNat).take ((b.length : Int).toNat - k2.toNat)) rfl h445 (.slice A427 n428 c429) rfl h443.sx 0 rfl hb444 fun w446 A447 n448 c449 g450 s451 hc452 h453 => ?_
              refine L_pu (P_assign (.slice A447 n448 c449) rfl) ?_
              refine L_nil ?_
              refine W_seq ?_
              refine W_seq ?_
              refine W_reg ?_
              refine L_pu (P_move (vi at_2) rfl) ?_
              refine L_pu (P_move (.slice A1 n2 c3) rfl) ?_
              have h455 := (((h122.st (.new _ g433)).st (.new _ g437)).st s451)
              refine L_pu (P_len Try.underlying23 A1 n2 c3 h455.len rfl) ?_
              refine L_pu (P_cmp at_2 (base_.length : Int) (decide (at_2 < (base_.length : Int))) rfl rfl rfl) ?_
              refine L_nil ?_
              refine W_cf (b := decide (at_2 < (base_.length : Int))) rfl hq140 ?_
              refine W_skip ?_
              refine W_reg ?_
              refine L_pu (P_move (vi at_2) rfl) ?_
              obtain ⟨hb456, H⟩ := H
              have hi457 := hb456 (len_le hl136) (len_le hl138) (len_le hl139)
              refine L_pu (P_add at_2 1 rfl rfl hi457) ?_
              refine L_pu (P_move (vi (a.length : Int)) rfl) ?_
              obtain ⟨hb458, H⟩ := H
              have hi459 := hb458 (len_le hl136) (len_le hl138) (len_le hl139)
              refine L_pu (P_add (a.length : Int) 1 rfl rfl hi459) ?_
              refine L_pu (P_move (vi (b.length : Int)) rfl) ?_
              obtain ⟨hb460, H⟩ := H
              have hi461 := hb460 (len_le hl136) (len_le hl138) (len_le hl139)
              refine L_pu (P_add (b.length : Int) 1 rfl rfl hi461) ?_
              refine L_pu (P_assign (vi (at_2 + 1)) rfl) ?_
              refine L_pu (P_assign (vi ((a.length : Int) + 1)) rfl) ?_
              refine L_pu (P_assign (vi ((b.length : Int) + 1)) rfl) ?_
              refine L_nil ?_
              refine W_reg ?_
              refine L_pu (P_move (vi at_2) rfl) ?_
              obtain ⟨hb462, H⟩ := H
              have hi463 := hb462 (len_le hl136) (len_le hl138) (len_le hl139)
              refine L_pu (P_add at_2 1 rfl rfl hi463) ?_
              refine L_pu (P_assign (vi (at_2 + 1)) rfl) ?_
              refine L_nil ?_
              obtain ⟨hI464, hm465⟩ := H
              have h466 := (((h123.st (.new _ g433)).st (.new _ g437)).st s451)
              have h467 := (((h124.st (.new _ g433)).st (.new _ g437)).st s451)
              have h468 := (Ow.sm (L := [blk (.slice A117 n118 c119), blk (.slice A62 n63 c64), blk (.slice A51 n52 c53)]) (O := O) ((h125.sn g433).sn g437) hc441 (i := 2) rfl (j := 0) rfl (by decide) g450 s451)
              have h469 := (Ow.sm (L := [blk (.slice A117 n118 c119), blk (.slice A62 n63 c64), blk (.slice A51 n52 c53)]) (O := O) ((h126.sn g433).sn g437) hc441 (i := 1) rfl (j := 0) rfl (by decide) g450 s451)
              exact ⟨((xs2 ++ ((b.drop k2.toNat).take ((b.length : Int).toNat - k2.toNat))), A447, n448, c449, at_2 + 1, (a.length : Int) + 1, (b.length : Int) + 1, at_2 + 1), hm465, hI464, ⟨rfl, rfl, rfl, rfl, rfl, rfl, rfl, rfl, rfl, rfl, trivial⟩, hc452, h455, h466, h467, h468, h469, h453⟩
            · have H := ite_f H hq442
              refine W_seq ?_
              refine W_reg ?_
              refine L_pu (P_move (.slice A427 n428 c429) rfl) ?_
              refine L_pu (P_move (.slice A415 n416 c417) rfl) ?_
              have h470 := ((h430.st (.new _ g433)).st (.new _ g437))
              have h471 := ((h418.st (.new _ g433)).st (.new _ g437))
              refine L_call go49 [.slice A427 n428 c429, .slice A415 n416 c417] rfl ((slices_Equal_Pt.calls w436 hc441.ok ((b.drop k2.toNat).take ((b.length : Int).toNat - k2.toNat)) A427 n428 c429 h470 ((base_.drop i2.toNat).take (at_2.toNat - i2.toNat)) A415 n416 c417 h471 _ H).mono ?_)
              rintro _ w472 ⟨r9, rfl, H, g473⟩
              have hc477 := hc441.k0 g473
              refine L_pu (P_move (vb r9) rfl) ?_
              rcases bool_or r9 with hq478 | hq478
              · have H := ite_t H hq478
                refine L_pass (dj := 91) rfl rfl (.inl (by exact congrArg Value.bool hq478)) ?_
                refine L_pass (dj := 91) rfl rfl (.inl (by exact congrArg Value.bool hq478)) ?_
                refine L_pass (dj := 91) rfl rfl (.inl (by exact congrArg Value.bool hq478)) ?_
                refine L_pu (P_pick true (vb true) (by exact congrArg Value.bool hq478) rfl) ?_
                refine L_pu (P_assign (vb true) rfl) ?_
                refine L_nil ?_
                refine W_ct (b := true) rfl rfl ?_
                refine W_reg ?_
                refine L_pu (P_move (.slice A117 n118 c119) rfl) ?_
                refine L_pu (P_move (.slice A421 n422 c423) rfl) ?_
                have h479 := (((h424.st (.new _ g433)).st (.new _ g437)).st (.new _ g473))
                obtain ⟨hb480, H⟩ := H
                have h481 := (((h127.sn g433).sn g437).sn g473)
                refine L_app ei23 hc477 (.slice A117 n118 c119) xs2 ((a.drop j2.toNat).take ((a.length : Int).toNat - j2.toNat)) rfl h481 (.slice A421 n422 c423) rfl h479.sx 0 rfl hb480 fun w482 A483 n484 c485 g486 s487 hc488 h489 => ?_
                refine L_pu (P_assign (.slice A483 n484 c485) rfl) ?_
                refine L_nil ?_
                refine W_seq ?_
                refine W_seq ?_
                refine W_reg ?_
                refine L_pu (P_move (vi at_2) rfl) ?_
                refine L_pu (P_move (.slice A1 n2 c3) rfl) ?_
                have h491 := ((((h122.st (.new _ g433)).st (.new _ g437)).st (.new _ g473)).st s487)
                refine L_pu (P_len Try.underlying23 A1 n2 c3 h491.len rfl) ?_
                refine L_pu (P_cmp at_2 (base_.length : Int) (decide (at_2 < (base_.length : Int))) rfl rfl rfl) ?_
                refine L_nil ?_
                refine W_cf (b := decide (at_2 < (base_.length : Int))) rfl hq140 ?_
                refine W_skip ?_
                refine W_reg ?_
                refine L_pu (P_move (vi at_2) rfl) ?_
                obtain ⟨hb492, H⟩ := H
                have hi493 := hb492 (len_le hl136) (len_le hl138) (len_le hl139)
                refine L_pu (P_add at_2 1 rfl rfl hi493) ?_
                refine L_pu (P_move (vi (a.length : Int)) rfl) ?_
                obtain ⟨hb494, H⟩ := H
                have hi495 := hb494 (len_le hl136) (len_le hl138) (len_le hl139)
                refine L_pu (P_add (a.length : Int) 1 rfl rfl hi495) ?_
                refine L_pu (P_move (vi (b.length : Int)) rfl) ?_
                obtain ⟨hb496, H⟩ := H
                have hi497 := hb496 (len_le hl136) (len_le hl138) (len_le hl139)
                refine L_pu (P_add (b.length : Int) 1 rfl rfl hi497) ?_
                refine L_pu (P_assign (vi (at_2 + 1)) rfl) ?_
                refine L_pu (P_assign (vi ((a.length : Int) + 1)) rfl) ?_
                refine L_pu (P_assign (vi ((b.length : Int) + 1)) rfl) ?_
                refine L_nil ?_
                refine W_reg ?_
                refine L_pu (P_move (vi at_2) rfl) ?_
                obtain ⟨hb498, H⟩ := H
                have hi499 := hb498 (len_le hl136) (len_le hl138) (len_le hl139)
                refine L_pu (P_add at_2 1 rfl rfl hi499) ?_
                refine L_pu (P_assign (vi (at_2 + 1)) rfl) ?_
                refine L_nil ?_
                obtain ⟨hI500, hm501⟩ := H
                have h502 := ((((h123.st (.new _ g433)).st (.new _ g437)).st (.new _ g473)).st s487)
                have h503 := ((((h124.st (.new _ g433)).st (.new _ g437)).st (.new _ g473)).st s487)
                have h504 := (Ow.sm (L := [blk (.slice A117 n118 c119), blk (.slice A62 n63 c64), blk (.slice A51 n52 c53)]) (O := O) (((h125.sn g433).sn g437).sn g473) hc477 (i := 2) rfl (j := 0) rfl (by decide) g486 s487)
                have h505 := (Ow.sm (L := [blk (.slice A117 n118 c119), blk (.slice A62 n63 c64), blk (.slice A51 n52 c53)]) (O := O) (((h126.sn g433).sn g437).sn g473) hc477 (i := 1) rfl (j := 0) rfl (by decide) g486 s487)
                exact ⟨((xs2 ++ ((a.drop j2.toNat).take ((a.length : Int).toNat - j2.toNat))), A483, n484, c485, at_2 + 1, (a.length : Int) + 1, (b.length : Int) + 1, at_2 + 1), hm501, hI500, ⟨rfl, rfl, rfl, rfl, rfl, rfl, rfl, rfl, rfl, rfl, trivial⟩, hc488, h491, h502, h503, h504, h505, h489⟩
              · have H := ite_f H hq478
                refine L_run (dj := 91) rfl rfl (by exact congrArg Value.bool hq478) ?_
                refine L_pu (P_move (.slice A421 n422 c423) rfl) ?_
                refine L_run (dj := 91) rfl rfl (by exact congrArg Value.bool hq478) ?_
                refine L_pu (P_move (.slice A427 n428 c429) rfl) ?_
                refine L_run (dj := 91) rfl rfl (by exact congrArg Value.bool hq478) ?_
                have h506 := (((h424.st (.new _ g433)).st (.new _ g437)).st (.new _ g473))
                refine L_call go49 [.slice A421 n422 c423, .slice A427 n428 c429] rfl ((slices_Equal_Pt.calls w472 hc477.ok ((a.drop j2.toNat).take ((a.length : Int).toNat - j2.toNat)) A421 n422 c423 h506 ((b.drop k2.toNat).take ((b.length : Int).toNat - k2.toNat)) A427 n428 c429 (h470.st (.new _ g473)) _ H).mono ?_)
                rintro _ w507 ⟨r10, rfl, H, g508⟩
                have hc512 := hc477.k0 g508
                refine L_pu (P_pick false (vb r10) (by exact congrArg Value.bool hq478) rfl) ?_
                refine L_pu (P_assign (vb r10) rfl) ?_
                refine L_nil ?_
                refine W_cond r10 rfl (fun hq513 => ?_) (fun hq513 => ?_)
                · have H := ite_t H hq513
                  refine W_reg ?_
                  refine L_pu (P_move (.slice A117 n118 c119) rfl) ?_
                  refine L_pu (P_move (.slice A421 n422 c423) rfl) ?_
                  obtain ⟨hb514, H⟩ := H
                  have h515 := ((((h127.sn g433).sn g437).sn g473).sn g508)
                  refine L_app ei23 hc512 (.slice A117 n118 c119) xs2 ((a.drop j2.toNat).take ((a.length : Int).toNat - j2.toNat)) rfl h515 (.slice A421 n422 c423) rfl (h506.st (.new _ g508)).sx 0 rfl hb514 fun w516 A517 n518 c519 g520 s521 hc522 h523 => ?_
                  refine L_pu (P_assign (.slice A517 n518 c519) rfl) ?_
                  refine L_nil ?_
                  refine W_seq ?_
                  refine W_seq ?_
                  refine W_reg ?_
                  refine L_pu (P_move (vi at_2) rfl) ?_
                  refine L_pu (P_move (.slice A1 n2 c3) rfl) ?_
                  have h525 := (((((h122.st (.new _ g433)).st (.new _ g437)).st (.new _ g473)).st (.new _ g508)).st s521)
                  refine L_pu (P_len Try.underlying23 A1 n2 c3 h525.len rfl) ?_
                  refine L_pu (P_cmp at_2 (base_.length : Int) (decide (at_2 < (base_.length : Int))) rfl rfl rfl) ?_
                  refine L_nil ?_
                  refine W_cf (b := decide (at_2 < (base_.length : Int))) rfl hq140 ?_
                  refine W_skip ?_
                  refine W_reg ?_
                  refine L_pu (P_move (vi at_2) rfl) ?_
                  obtain ⟨hb526, H⟩ := H
                  have hi527 := hb526 (len_le hl136) (len_le hl138) (len_le hl139)
                  refine L_pu (P_add at_2 1 rfl rfl hi527) ?_
                  refine L_pu (P_move (vi (a.length : Int)) rfl) ?_
                  obtain ⟨hb528, H⟩ := H
                  have hi529 := hb528 (len_le hl136) (len_le hl138) (len_le hl139)
                  refine L_pu (P_add (a.length : Int) 1 rfl rfl hi529) ?_
                  refine L_pu (P_move (vi (b.length : Int)) rfl) ?_
                  obtain ⟨hb530, H⟩ := H
                  have hi531 := hb530 (len_le hl136) (len_le hl138) (len_le hl139)
                  refine L_pu (P_add (b.length : Int) 1 rfl rfl hi531) ?_
                  refine L_pu (P_assign (vi (at_2 + 1)) rfl) ?_
                  refine L_pu (P_assign (vi ((a.length : Int) + 1)) rfl) ?_
                  refine L_pu (P_assign (vi ((b.length : Int) + 1)) rfl) ?_
                  refine L_nil ?_
                  refine W_reg ?_
                  refine L_pu (P_move (vi at_2) rfl) ?_
                  obtain ⟨hb532, H⟩ := H
                  have hi533 := hb532 (len_le hl136) (len_le hl138) (len_le hl139)
                  refine L_pu (P_add at_2 1 rfl rfl hi533) ?_
                  refine L_pu (P_assign (vi (at_2 + 1)) rfl) ?_
                  refine L_nil ?_
                  obtain ⟨hI534, hm535⟩ := H
                  have h536 := (((((h123.st (.new _ g433)).st (.new _ g437)).st (.new _ g473)).st (.new _ g508)).st s521)
                  have h537 := (((((h124.st (.new _ g433)).st (.new _ g437)).st (.new _ g473)).st (.new _ g508)).st s521)
                  have h538 := (Ow.sm (L := [blk (.slice A117 n118 c119), blk (.slice A62 n63 c64), blk (.slice A51 n52 c53)]) (O := O) ((((h125.sn g433).sn g437).sn g473).sn g508) hc512 (i := 2) rfl (j := 0) rfl (by decide) g520 s521)
                  have h539 := (Ow.sm (L := [blk (.slice A117 n118 c119), blk (.slice A62 n63 c64), blk (.slice A51 n52 c53)]) (O := O) ((((h126.sn g433).sn g437).sn g473).sn g508) hc512 (i := 1) rfl (j := 0) rfl (by decide) g520 s521)
                  exact ⟨((xs2 ++ ((a.drop j2.toNat).take ((a.length : Int).toNat - j2.toNat))), A517, n518, c519, at_2 + 1, (a.length : Int) + 1, (b.length : Int) + 1, at_2 + 1), hm535, hI534, ⟨rfl, rfl, rfl, rfl, rfl, rfl, rfl, rfl, rfl, rfl, trivial⟩, hc522, h525, h536, h537, h538, h539, h523⟩
                · have H := ite_f H hq513
                  refine W_seq ?_
                  refine W_reg ?_
                  refine L_lit (kd := kPt) ei23 hc512 ([] : List Pt) (cells := []) rfl (fun _ => by kernel_rfl) fun w540 A541 n542 c543 g544 hr545 hc546 h547 => ?_
                  refine L_pu (P_assign (.slice A541 n542 c543) rfl) ?_
                  refine L_pu (P_assign (vb false) rfl) ?_
                  refine L_nil ?_
                  refine W_ret ?_
                  have hc549 := hc546.drop 1 rfl
                  have hc550 := hc549.drop 1 rfl
                  have hc551 := hc550.drop 1 rfl
                  have h552 := (Ow.sd (L := [blk (.slice A541 n542 c543), blk (.slice A51 n52 c53)]) (O := O) (Ow.sd (L := [blk (.slice A541 n542 c543), blk (.slice A62 n63 c64), blk (.slice A51 n52 c53)]) (O := O) (Ow.sd (L := [blk (.slice A541 n542 c543), blk (.slice A117 n118 c119), blk (.slice A62 n63 c64), blk (.slice A51 n52 c53)]) (O := O) h547 (i := 0) rfl (j := 1) rfl (by decide)) (i := 0) rfl (j := 1) rfl (by decide)) (i := 0) rfl (j := 1) rfl (by decide))
                  exact ⟨[.slice A541 n542 c543, vb false], ⟨_, rfl, ⟨_, rfl, rfl⟩⟩, ([] : List Pt), false, A541, n542, c543, rfl, H, hc551.gr.g0, hc551.ok, hc551.ge, h552⟩
        · have H := ite_f H hq137
          refine W_exit (xin_hit ?_)
          refine W_seq ?_
          refine W_reg ?_
          refine L_pu (P_move (.slice A117 n118 c119) rfl) ?_
          refine L_pu (P_assign (.slice A117 n118 c119) rfl) ?_
          refine L_pu (P_assign (vb true) rfl) ?_
          refine L_nil ?_
          refine W_ret ?_
          have hc553 := hc121.drop 1 rfl
          have hc554 := hc553.drop 1 rfl
          have h555 := (Ow.sd (L := [blk (.slice A117 n118 c119), blk (.slice A51 n52 c53)]) (O := O) (Ow.sd (L := [blk (.slice A117 n118 c119), blk (.slice A62 n63 c64), blk (.slice A51 n52 c53)]) (O := O) h127 (i := 0) rfl (j := 1) rfl (by decide)) (i := 0) rfl (j := 1) rfl (by decide))
          exact ⟨[.slice A117 n118 c119, vb true], ⟨_, rfl, ⟨_, rfl, rfl⟩⟩, xs2, true, A117, n118, c119, rfl, H, hc554.gr.g0, hc554.ok, hc554.ge, h555⟩
end Go.Proofs.Ytndjggncgpjolaa

namespace Go.Proofs.Ytndjggncgpjolaa
set_option linter.unusedVariables false
set_option linter.unusedSimpArgs false
set_option linter.unusedSectionVars false
theorem mate_part {o a : List Pt} (h : few o a = true) (t : Nat) : mateI (spairs o a) (t : Int) = match part o a t with | some x => (x : Int) | none => -1 := by
  rw [spairs_few h, mateI_mk]; rfl
structure MInv (o a b : List Pt) (xs : List Pt) (i j k t : Nat) : Prop where
  hi : i ≤ t
  ht : t ≤ o.length
  hj : j ≤ a.length
  hk : k ≤ b.length
  fj : From (part o a) t j
  fk : From (part o b) t k
  len : xs.length ≤ j + k
  eq : (mloop o a b (part o a) (part o b) (o.length - t) t i j k).map (xs ++ ·) = smerge o a b
theorem MInv.zero {o a b : List Pt} (h1 : few o a = true) (h2 : few o b = true) : MInv o a b [] 0 0 0 0 :=
  ⟨Nat.le_refl _, Nat.zero_le _, Nat.zero_le _, Nat.zero_le _, From.zero _ _, From.zero _ _, Nat.le_refl _, by rw [smerge_few h1 h2, Nat.sub_zero]; cases mloop o a b (part o a) (part o b) o.length 0 0 0 0 <;> rfl⟩
theorem MInv.skip {o a b xs : List Pt} {i j k t : Nat} (h : MInv o a b xs i j k t) (ht : t < o.length) (hn : part o a t = none ∨ part o b t = none) : MInv o a b xs i j k (t + 1) :=
  ⟨by have := h.hi; omega, ht, h.hj, h.hk, h.fj.skip, h.fk.skip, h.len, by
    have := h.eq
    rw [show o.length - t = (o.length - (t + 1)) + 1 by omega, mloop_none hn] at this
    exact this⟩
theorem MInv.step {o a b xs : List Pt} {i j k t x y : Nat} (h : MInv o a b xs i j k t) (ht : t < o.length) (hx : part o a t = some x) (hy : part o b t = some y) {p : List Pt} (hp : pickL (seg o i t) (seg a j x) (seg b k y) = some p) : MInv o a b (xs ++ p ++ [nth o (t : Int)]) (t + 1) (x + 1) (y + 1) (t + 1) := by
  have h1 := (part_mates o a).lt hx
  have h2 := (part_mates o b).lt hy
  refine ⟨Nat.le_refl _, ht, h1.2, h2.2, .step (part_mates o a) hx, .step (part_mates o b) hy, ?_, ?_⟩
  · have := (pickL_mem hp).2.2.2
    rw [seg_len a _ _ (by omega), seg_len b _ _ (by omega)] at this
    have h3 := h.fj t x (Nat.le_refl _) hx
    have h4 := h.fk t y (Nat.le_refl _) hy
    have h5 := h.len
    simp only [List.length_append, List.length_singleton]; omega
  · have := h.eq
    rw [show o.length - t = (o.length - (t + 1)) + 1 by omega, mloop_some hx hy, hp, Option.bind_some, Option.map_map] at this
    rw [← this]
    congr 1
    funext r
    simp
theorem MInv.stop {o a b xs : List Pt} {i j k t x y : Nat} (h : MInv o a b xs i j k t) (ht : t < o.length) (hx : part o a t = some x) (hy : part o b t = some y) (hp : pickL (seg o i t) (seg a j x) (seg b k y) = none) : smerge o a b = none := by
  have := h.eq
  rw [show o.length - t = (o.length - (t + 1)) + 1 by omega, mloop_some hx hy, hp] at this
  exact this.symm
theorem MInv.last {o a b xs : List Pt} {i j k : Nat} (h : MInv o a b xs i j k o.length) : (pickL (o.drop i) (a.drop j) (b.drop k)).map (xs ++ ·) = smerge o a b := by
  have := h.eq
  rw [Nat.sub_self, mloop_zero] at this
  exact this
theorem MInv.from {o a b xs : List Pt} {i j k t x y : Nat} (h : MInv o a b xs i j k t) (hx : part o a t = some x) (hy : part o b t = some y) : j ≤ x ∧ x < a.length ∧ k ≤ y ∧ y < b.length :=
  ⟨h.fj t x (Nat.le_refl _) hx, ((part_mates o a).lt hx).2, h.fk t y (Nat.le_refl _) hy, ((part_mates o b).lt hy).2⟩
end Go.Proofs.Ytndjggncgpjolaa

namespace Go.Proofs.Ytndjggncgpjolaa
set_option linter.unusedVariables false
set_option linter.unusedSimpArgs false
set_option linter.unusedSectionVars false
theorem impl_SeqMerge.law (o a b : List Pt) (Q : List Pt → Bool → Prop) (hs : ∀ r, smerge o a b = some r → Q r true) (hn : smerge o a b = none → Q [] false) : impl_SeqMerge.E o a b Q := by
  unfold impl_SeqMerge.E
  by_cases c1 : (o.length : Int) > 12
  · rw [if_pos (by simpa using c1)]
    exact hn (smerge_not (.inl (few_not.2 (by omega))))
  rw [if_neg (by simpa using c1)]
  by_cases c2 : (a.length : Int) > 12
  · rw [if_pos (by simpa using c2)]
    exact hn (smerge_not (.inl (few_not.2 (by omega))))
  rw [if_neg (by simpa using c2)]
  by_cases c3 : (b.length : Int) > 12
  · rw [if_pos (by simpa using c3)]
    exact hn (smerge_not (.inr (few_not.2 (by omega))))
  rw [if_neg (by simpa using c3)]
  have h1 : few o a = true := few_iff.2 (by omega)
  have h2 : few o b = true := few_iff.2 (by omega)
  refine impl_SeqPairs.law _ _ _ (impl_SeqPairs.law _ _ _ ?_)
  have lo := spairs_len o a; have lo2 := spairs_len o b
  have so := slen_le o a; have so2 := slen_le o b
  refine ⟨fun xs i j k t => (∃ i' j' k' t' : Nat, i = i' ∧ j = j' ∧ k = k' ∧ t = t' ∧ MInv o a b xs i' j' k' t') ∨ (t = (o.length : Int) + 1 ∧ smerge o a b = some xs), fun _ _ _ _ t => (o.length + 1 - t).toNat, .inl ⟨0, 0, 0, 0, rfl, rfl, rfl, rfl, MInv.zero h1 h2⟩, ?_⟩
  rintro xs _ _ _ _ (⟨i, j, k, t, rfl, rfl, rfl, rfl, h⟩ | ⟨rfl, h⟩)
  · have ht := h.ht; have hi := h.hi; have hj := h.hj; have hk := h.hk; have hl := h.len
    rw [if_pos (by simp; omega)]
    simp only [Int.toNat_natCast]
    by_cases ht0 : (t : Int) < (o.length : Int)
    · rw [if_pos (by simpa using ht0)]
      refine impl_partner.law _ _ _ (by omega) (impl_partner.law _ _ _ (by omega) ?_)
      rw [mate_part h1, mate_part h2]
      cases hx : part o a t with
      | none =>
        rw [if_pos (by decide)]
        exact ⟨by omega, .inl ⟨i, j, k, t + 1, rfl, rfl, rfl, rfl, h.skip (by omega) (.inl hx)⟩, by omega⟩
      | some x =>
        rw [if_neg (by simp)]
        cases hy : part o b t with
        | none =>
          rw [if_pos (by decide)]
          exact ⟨by omega, .inl ⟨i, j, k, t + 1, rfl, rfl, rfl, rfl, h.skip (by omega) (.inr hy)⟩, by omega⟩
        | some y =>
          rw [if_neg (by simp)]
          dsimp only
          obtain ⟨g1, g2, g3, g4⟩ := h.from hx hy
          refine ⟨by omega, by omega, by omega, ?_⟩
          simp only [Int.toNat_natCast]
          have s1 := seg_len o i t (by omega); have s2 := seg_len a j x (by omega); have s3 := seg_len b k y (by omega)
          have hs1 : ∀ p, pickL (seg o i t) (seg a j x) (seg b k y) = some p → p.length ≤ (x - j) + (y - k) ∧ MInv o a b (xs ++ p ++ [nth o (t : Int)]) (t + 1) (x + 1) (y + 1) (t + 1) := fun p hp =>
            ⟨by have := (pickL_mem hp).2.2.2; omega, h.step (by omega) hx hy hp⟩
          have hn1 : pickL (seg o i t) (seg a j x) (seg b k y) = none → smerge o a b = none := h.stop (by omega) hx hy
          change slices_Equal_Pt.E (seg a j x) (seg o i t) _
          simp only [← seg.eq_1]
          generalize seg o i t = so at *
          generalize seg a j x = sa at *
          generalize seg b k y = sb at *
          refine slices_Equal_Pt.law _ _ _ (by omega) ?_
          by_cases q1 : sa = so
          · rw [if_pos (by simpa using q1)]
            obtain ⟨hm, hi⟩ := hs1 sb (by unfold pickL; rw [if_pos q1])
            exact ⟨by omega, by omega, by simp only [List.length_append, List.length_singleton]; omega, by omega, fun _ _ _ => by unfold I64; omega, fun _ _ _ => by unfold I64; omega, by omega, .inl ⟨t + 1, x + 1, y + 1, t + 1, rfl, rfl, rfl, rfl, hi⟩, by omega⟩
          rw [if_neg (by simpa using q1)]
          refine slices_Equal_Pt.law _ _ _ (by omega) ?_
          by_cases q2 : sb = so
          · rw [if_pos (by simpa using q2)]
            obtain ⟨hm, hi⟩ := hs1 sa (by unfold pickL; rw [if_neg q1, if_pos q2])
            exact ⟨by omega, by omega, by simp only [List.length_append, List.length_singleton]; omega, by omega, fun _ _ _ => by unfold I64; omega, fun _ _ _ => by unfold I64; omega, by omega, .inl ⟨t + 1, x + 1, y + 1, t + 1, rfl, rfl, rfl, rfl, hi⟩, by omega⟩
          rw [if_neg (by simpa using q2)]
          refine slices_Equal_Pt.law _ _ _ (by omega) ?_
          by_cases q3 : sa = sb
          · rw [if_pos (by simpa using q3)]
            obtain ⟨hm, hi⟩ := hs1 sa (by unfold pickL; rw [if_neg q1, if_neg q2, if_pos q3])
            exact ⟨by omega, by omega, by simp only [List.length_append, List.length_singleton]; omega, by omega, fun _ _ _ => by unfold I64; omega, fun _ _ _ => by unfold I64; omega, by omega, .inl ⟨t + 1, x + 1, y + 1, t + 1, rfl, rfl, rfl, rfl, hi⟩, by omega⟩
          rw [if_neg (by simpa using q3)]
          exact hn (hn1 (by unfold pickL; rw [if_neg q1, if_neg q2, if_neg q3]))
    · rw [if_neg (by simpa using ht0)]
      have : t = o.length := by omega
      subst this
      refine ⟨by omega, by omega, by omega, ?_⟩
      have hlast := h.last
      have e1 : (o.drop i).take (o.length - i) = o.drop i := seg_end o i
      have e2 : (a.drop j).take (a.length - j) = a.drop j := seg_end a j
      have e3 : (b.drop k).take (b.length - k) = b.drop k := seg_end b k
      rw [e1, e2, e3]
      have s2 : (a.drop j).length = a.length - j := List.length_drop; have s3 : (b.drop k).length = b.length - k := List.length_drop
      have hs1 : ∀ p, pickL (o.drop i) (a.drop j) (b.drop k) = some p → p.length ≤ (a.length - j) + (b.length - k) ∧ smerge o a b = some (xs ++ p) := fun p hp =>
        ⟨by have := (pickL_mem hp).2.2.2; omega, by rw [hp, Option.map_some] at hlast; exact hlast.symm⟩
      have hn1 : pickL (o.drop i) (a.drop j) (b.drop k) = none → smerge o a b = none := fun hp => by rw [hp] at hlast; exact hlast.symm
      generalize o.drop i = so at *
      generalize a.drop j = sa at *
      generalize b.drop k = sb at *
      refine slices_Equal_Pt.law _ _ _ (by omega) ?_
      by_cases q1 : sa = so
      · rw [if_pos (by simpa using q1)]
        obtain ⟨hm, hi⟩ := hs1 sb (by unfold pickL; rw [if_pos q1])
        exact ⟨by omega, fun _ _ _ => by unfold I64; omega, fun _ _ _ => by unfold I64; omega, fun _ _ _ => by unfold I64; omega, fun _ _ _ => by unfold I64; omega, .inr ⟨rfl, hi⟩, by omega⟩
      rw [if_neg (by simpa using q1)]
      refine slices_Equal_Pt.law _ _ _ (by omega) ?_
      by_cases q2 : sb = so
      · rw [if_pos (by simpa using q2)]
        obtain ⟨hm, hi⟩ := hs1 sa (by unfold pickL; rw [if_neg q1, if_pos q2])
        exact ⟨by omega, fun _ _ _ => by unfold I64; omega, fun _ _ _ => by unfold I64; omega, fun _ _ _ => by unfold I64; omega, fun _ _ _ => by unfold I64; omega, .inr ⟨rfl, hi⟩, by omega⟩
      rw [if_neg (by simpa using q2)]
      refine slices_Equal_Pt.law _ _ _ (by omega) ?_
      by_cases q3 : sa = sb
      · rw [if_pos (by simpa using q3)]
        obtain ⟨hm, hi⟩ := hs1 sa (by unfold pickL; rw [if_neg q1, if_neg q2, if_pos q3])
        exact ⟨by omega, fun _ _ _ => by unfold I64; omega, fun _ _ _ => by unfold I64; omega, fun _ _ _ => by unfold I64; omega, fun _ _ _ => by unfold I64; omega, .inr ⟨rfl, hi⟩, by omega⟩
      rw [if_neg (by simpa using q3)]
      exact hn (hn1 (by unfold pickL; rw [if_neg q1, if_neg q2, if_neg q3]))
  · rw [if_neg (by simp; omega)]
    exact hs _ h
end Go.Proofs.Ytndjggncgpjolaa

namespace Go.Proofs.Ytndjggncgpjolaa
open Go.RowKit
set_option linter.unusedVariables false
def spec_l5Few.E (a : List Pt) (b : List Pt) (Q : Bool → Prop) : Prop :=
  (if decide ((a.length : Int) ≤ 12) then Q (decide ((b.length : Int) ≤ 12)) else Q false)
set_option maxHeartbeats 8000000 in
set_option maxRecDepth 100000 in
theorem spec_l5Few.calls {O : Ob} (w0 : World) (hO : Ok w0 O) (a : List Pt) (A1 : Option Addr) (n2 c3 : Nat) (hp4 : Sl kPt w0 (Fr O) (.slice A1 n2 c3) a) (b : List Pt) (A6 : Option Addr) (n7 c8 : Nat) (hp9 : Sl kPt w0 (Fr O) (.slice A6 n7 c8) b) (Q : Bool → Prop) (h : spec_l5Few.E a b Q) :
    Ret Try.prog 50 [.slice A1 n2 c3, .slice A6 n7 c8] w0 (fun v w' => ∃ (r0 : Bool), v = vb r0 ∧ Q r0 ∧ Gr w0 w' none ∧ w' = w0) := by
  have H : (if decide ((a.length : Int) ≤ 12) then Q (decide ((b.length : Int) ≤ 12)) else Q false) := h
  clear h
  have hc0 := Ct.init hO
  refine Ret_enter Try.func50 rfl 13 rfl [.tmp 4] rfl rfl ?_
  refine W_seq ?_
  refine W_reg ?_
  refine L_pu (P_assign (vb false) rfl) ?_
  refine L_nil ?_
  refine W_seq ?_
  refine W_reg ?_
  refine L_pu (P_move (.slice A1 n2 c3) rfl) ?_
  have hl11 := hp4.le
  refine L_pu (P_len Try.underlying23 A1 n2 c3 hp4.len rfl) ?_
  refine L_pu (P_cmp (a.length : Int) 12 (decide ((a.length : Int) ≤ 12)) rfl rfl rfl) ?_
  refine L_pu (P_move (vb (decide ((a.length : Int) ≤ 12))) rfl) ?_
  rcases bool_or (decide ((a.length : Int) ≤ 12)) with hq12 | hq12
  · have H := ite_t H hq12
    refine L_run (dj := 8) rfl rfl (by exact congrArg Value.bool hq12) ?_
    refine L_pu (P_move (.slice A6 n7 c8) rfl) ?_
    refine L_run (dj := 8) rfl rfl (by exact congrArg Value.bool hq12) ?_
    have hl13 := hp9.le
    refine L_pu (P_len Try.underlying23 A6 n7 c8 hp9.len rfl) ?_
    refine L_run (dj := 8) rfl rfl (by exact congrArg Value.bool hq12) ?_
    refine L_pu (P_cmp (b.length : Int) 12 (decide ((b.length : Int) ≤ 12)) rfl rfl rfl) ?_
    refine L_pu (P_pick true (vb (decide ((b.length : Int) ≤ 12))) (by exact congrArg Value.bool hq12) rfl) ?_
    refine L_pu (P_assign (vb (decide ((b.length : Int) ≤ 12))) rfl) ?_
    refine L_nil ?_
    refine W_ret ?_
    exact ⟨[vb (decide ((b.length : Int) ≤ 12))], ⟨_, rfl, rfl⟩, decide ((b.length : Int) ≤ 12), rfl, H, hc0.gr.g0, rfl⟩
  · have H := ite_f H hq12
    refine L_pass (dj := 8) rfl rfl (.inl (by exact congrArg Value.bool hq12)) ?_
    refine L_pass (dj := 8) rfl rfl (.inl (by exact congrArg Value.bool hq12)) ?_
    refine L_pass (dj := 8) rfl rfl (.inl (by exact congrArg Value.bool hq12)) ?_
    refine L_pu (P_pick false (vb false) (by exact congrArg Value.bool hq12) rfl) ?_
    refine L_pu (P_assign (vb false) rfl) ?_
    refine L_nil ?_
    refine W_ret ?_
    exact ⟨[vb false], ⟨_, rfl, rfl⟩, false, rfl, H, hc0.gr.g0, rfl⟩
def spec_l5Few.m (a : List Pt) (b : List Pt) : Bool := (if decide ((a.length : Int) ≤ 12) then (decide ((b.length : Int) ≤ 12)) else false)
theorem spec_l5Few.fn (a : List Pt) (b : List Pt) : spec_l5Few.E a b (fun r => r = spec_l5Few.m a b) := by
  unfold spec_l5Few.E spec_l5Few.m
  (repeat' split) <;> simp_all
end Go.Proofs.Ytndjggncgpjolaa

namespace Go.Proofs.Ytndjggncgpjolaa
set_option linter.unusedVariables false
set_option linter.unusedSimpArgs false
set_option linter.unusedSectionVars false
theorem spec_l5Few.law (a b : List Pt) (Q : Bool → Prop) (hq : Q (few a b)) : spec_l5Few.E a b Q := by
  unfold spec_l5Few.E
  unfold few at hq
  by_cases h : a.length ≤ 12
  · rw [if_pos (by simp; omega)]
    rw [decide_eq_true h, Bool.true_and] at hq
    have : decide ((b.length : Int) ≤ 12) = decide (b.length ≤ 12) := decide_eq_decide.2 (by omega)
    rw [this]; exact hq
  · rw [if_neg (by simp; omega)]
    rw [decide_eq_false h, Bool.false_and] at hq; exact hq
end Go.Proofs.Ytndjggncgpjolaa

namespace Go.Proofs.Ytndjggncgpjolaa
open Go.RowKit
set_option linter.unusedVariables false
def spec_l1Max.E (a : Int) (b : Int) (Q : Int → Prop) : Prop :=
  (if decide (a > b) then Q a else Q b)
set_option maxHeartbeats 8000000 in
set_option maxRecDepth 100000 in
theorem spec_l1Max.calls {O : Ob} (w0 : World) (hO : Ok w0 O) (a : Int) (b : Int) (Q : Int → Prop) (h : spec_l1Max.E a b Q) :
    Ret Try.prog 172 [vi a, vi b] w0 (fun v w' => ∃ (r0 : Int), v = vi r0 ∧ Q r0 ∧ Gr w0 w' none ∧ w' = w0) := by
  have H : (if decide (a > b) then Q a else Q b) := h
  clear h
  have hc0 := Ct.init hO
  refine Ret_enter Try.func172 rfl 10 rfl [.tmp 4] rfl rfl ?_
  refine W_seq ?_
  refine W_reg ?_
  refine L_pu (P_assign (vi 0) rfl) ?_
  refine L_nil ?_
  refine W_seq ?_
  refine W_seq ?_
  refine W_reg ?_
  refine L_pu (P_move (vi a) rfl) ?_
  refine L_pu (P_move (vi b) rfl) ?_
  refine L_pu (P_cmp a b (decide (a > b)) rfl rfl rfl) ?_
  refine L_nil ?_
  refine W_cond (decide (a > b)) rfl (fun hq1 => ?_) (fun hq1 => ?_)
  · have H := ite_t H hq1
    refine W_seq ?_
    refine W_reg ?_
    refine L_pu (P_move (vi a) rfl) ?_
    refine L_pu (P_assign (vi a) rfl) ?_
    refine L_nil ?_
    refine W_ret ?_
    exact ⟨[vi a], ⟨_, rfl, rfl⟩, a, rfl, H, hc0.gr.g0, rfl⟩
  · have H := ite_f H hq1
    refine W_skip ?_
    refine W_seq ?_
    refine W_reg ?_
    refine L_pu (P_move (vi b) rfl) ?_
    refine L_pu (P_assign (vi b) rfl) ?_
    refine L_nil ?_
    refine W_ret ?_
    exact ⟨[vi b], ⟨_, rfl, rfl⟩, b, rfl, H, hc0.gr.g0, rfl⟩
def spec_l1Max.m (a : Int) (b : Int) : Int := (if decide (a > b) then a else b)
theorem spec_l1Max.fn (a : Int) (b : Int) : spec_l1Max.E a b (fun r => r = spec_l1Max.m a b) := by
  unfold spec_l1Max.E spec_l1Max.m
  (repeat' split) <;> simp_all
end Go.Proofs.Ytndjggncgpjolaa

namespace Go.Proofs.Ytndjggncgpjolaa
set_option linter.unusedVariables false
set_option linter.unusedSimpArgs false
set_option linter.unusedSectionVars false
theorem spec_l1Max.m_is (a b : Int) : spec_l1Max.m a b = max a b := by
  unfold spec_l1Max.m
  by_cases h : a > b
  · simp [h]; omega
  · simp [h]; omega
end Go.Proofs.Ytndjggncgpjolaa

namespace Go.Proofs.Ytndjggncgpjolaa
open Go.RowKit
set_option linter.unusedVariables false
def spec_l5Long.E (a : List Pt) (b : List Pt) (Q : Int → Prop) : Prop :=
  ((b.length : Int) ≤ 9223372036854775807 → I64 ((b.length : Int) + 1)) ∧ ((0 : Int) ≤ (b.length : Int) + 1 ∧ (b.length : Int) + 1 ≤ (268435456 : Int)) ∧ ((b.length : Int) ≤ 9223372036854775807 → (a.length : Int) ≤ 9223372036854775807 → I64 ((a.length : Int) - 1)) ∧ (∃ (I57 : (List Int) → Int → Prop) (mu58 : (List Int) → Int → Nat), I57 (List.replicate ((b.length : Int) + 1).toNat (0 : Int)) ((a.length : Int) - 1) ∧ ∀ (xs2 : List Int) (i2 : Int), I57 xs2 i2 → (if decide (i2 ≥ 0) then ((b.length : Int) ≤ 9223372036854775807 → I64 ((b.length : Int) + 1)) ∧ ((0 : Int) ≤ (b.length : Int) + 1 ∧ (b.length : Int) + 1 ≤ (268435456 : Int)) ∧ ((b.length : Int) ≤ 9223372036854775807 → I64 ((b.length : Int) - 1)) ∧ (∃ (I115 : (List Int) → Int → Prop) (mu116 : (List Int) → Int → Nat), I115 (List.replicate ((b.length : Int) + 1).toNat (0 : Int)) ((b.length : Int) - 1) ∧ ∀ (xs4 : List Int) (k2 : Int), I115 xs4 k2 → (if decide (k2 ≥ 0) then ((0 : Int) ≤ i2 ∧ i2 < (a.length : Int)) ∧ ((0 : Int) ≤ k2 ∧ k2 < (b.length : Int)) ∧ (if eqPt (nth a i2) (nth b k2) then (I64 (k2 + 1)) ∧ ((0 : Int) ≤ k2 + 1 ∧ k2 + 1 < (xs2.length : Int)) ∧ (I64 ((nth xs2 (k2 + 1)) + 1)) ∧ ((0 : Int) ≤ k2 ∧ k2 < (xs4.length : Int)) ∧ (I64 (k2 - 1)) ∧ I115 (xs4.set k2.toNat ((nth xs2 (k2 + 1)) + 1)) (k2 - 1) ∧ mu116 (xs4.set k2.toNat ((nth xs2 (k2 + 1)) + 1)) (k2 - 1) < mu116 xs4 k2 else ((0 : Int) ≤ k2 ∧ k2 < (xs2.length : Int)) ∧ (I64 (k2 + 1)) ∧ ((0 : Int) ≤ k2 + 1 ∧ k2 + 1 < (xs4.length : Int)) ∧ ((0 : Int) ≤ k2 ∧ k2 < (xs4.length : Int)) ∧ (I64 (k2 - 1)) ∧ I115 (xs4.set k2.toNat (spec_l1Max.m (nth xs2 k2) (nth xs4 (k2 + 1)))) (k2 - 1) ∧ mu116 (xs4.set k2.toNat (spec_l1Max.m (nth xs2 k2) (nth xs4 (k2 + 1)))) (k2 - 1) < mu116 xs4 k2) else (I64 (i2 - 1)) ∧ I57 xs4 (i2 - 1) ∧ mu58 xs4 (i2 - 1) < mu58 xs2 i2)) else ((0 : Int) ≤ 0 ∧ 0 < (xs2.length : Int)) ∧ Q (nth xs2 0)))
set_option maxHeartbeats 8000000 in
set_option maxRecDepth 100000 in
theorem spec_l5Long.calls {O : Ob} (w0 : World) (hO : Ok w0 O) (a : List Pt) (A1 : Option Addr) (n2 c3 : Nat) (hp4 : Sl kPt w0 (Fr O) (.slice A1 n2 c3) a) (b : List Pt) (A6 : Option Addr) (n7 c8 : Nat) (hp9 : Sl kPt w0 (Fr O) (.slice A6 n7 c8) b) (Q : Int → Prop) (h : spec_l5Long.E a b Q) :
    Ret Try.prog 146 [.slice A1 n2 c3, .slice A6 n7 c8] w0 (fun v w' => ∃ (r0 : Int), v = vi r0 ∧ Q r0 ∧ Gr w0 w' none) := by
  have H : ((b.length : Int) ≤ 9223372036854775807 → I64 ((b.length : Int) + 1)) ∧ ((0 : Int) ≤ (b.length : Int) + 1 ∧ (b.length : Int) + 1 ≤ (268435456 : Int)) ∧ ((b.length : Int) ≤ 9223372036854775807 → (a.length : Int) ≤ 9223372036854775807 → I64 ((a.length : Int) - 1)) ∧ (∃ (I57 : (List Int) → Int → Prop) (mu58 : (List Int) → Int → Nat), I57 (List.replicate ((b.length : Int) + 1).toNat (0 : Int)) ((a.length : Int) - 1) ∧ ∀ (xs2 : List Int) (i2 : Int), I57 xs2 i2 → (if decide (i2 ≥ 0) then ((b.length : Int) ≤ 9223372036854775807 → I64 ((b.length : Int) + 1)) ∧ ((0 : Int) ≤ (b.length : Int) + 1 ∧ (b.length : Int) + 1 ≤ (268435456 : Int)) ∧ ((b.length : Int) ≤ 9223372036854775807 → I64 ((b.length : Int) - 1)) ∧ (∃ (I115 : (List Int) → Int → Prop) (mu116 : (List Int) → Int → Nat), I115 (List.replicate ((b.length : Int) + 1).toNat (0 : Int)) ((b.length : Int) - 1) ∧ ∀ (xs4 : List Int) (k2 : Int), I115 xs4 k2 → (if decide (k2 ≥ 0) then ((0 : Int) ≤ i2 ∧ i2 < (a.length : Int)) ∧ ((0 : Int) ≤ k2 ∧ k2 < (b.length : Int)) ∧ (if eqPt (nth a i2) (nth b k2) then (I64 (k2 + 1)) ∧ ((0 : Int) ≤ k2 + 1 ∧ k2 + 1 < (xs2.length : Int)) ∧ (I64 ((nth xs2 (k2 + 1)) + 1)) ∧ ((0 : Int) ≤ k2 ∧ k2 < (xs4.length : Int)) ∧ (I64 (k2 - 1)) ∧ I115 (xs4.set k2.toNat ((nth xs2 (k2 + 1)) + 1)) (k2 - 1) ∧ mu116 (xs4.set k2.toNat ((nth xs2 (k2 + 1)) + 1)) (k2 - 1) < mu116 xs4 k2 else ((0 : Int) ≤ k2 ∧ k2 < (xs2.length : Int)) ∧ (I64 (k2 + 1)) ∧ ((0 : Int) ≤ k2 + 1 ∧ k2 + 1 < (xs4.length : Int)) ∧ ((0 : Int) ≤ k2 ∧ k2 < (xs4.length : Int)) ∧ (I64 (k2 - 1)) ∧ I115 (xs4.set k2.toNat (spec_l1Max.m (nth xs2 k2) (nth xs4 (k2 + 1)))) (k2 - 1) ∧ mu116 (xs4.set k2.toNat (spec_l1Max.m (nth xs2 k2) (nth xs4 (k2 + 1)))) (k2 - 1) < mu116 xs4 k2) else (I64 (i2 - 1)) ∧ I57 xs4 (i2 - 1) ∧ mu58 xs4 (i2 - 1) < mu58 xs2 i2)) else ((0 : Int) ≤ 0 ∧ 0 < (xs2.length : Int)) ∧ Q (nth xs2 0))) := h
  clear h
  have hc0 := Ct.init hO
  refine Ret_enter Try.func146 rfl 66 rfl [.tmp 4] rfl rfl ?_
  refine W_seq ?_
  refine W_reg ?_
  refine L_pu (P_assign (vi 0) rfl) ?_
  refine L_nil ?_
  refine W_seq ?_
  refine W_reg ?_
  refine L_pu (P_move (.slice A6 n7 c8) rfl) ?_
  have hl11 := hp9.le
  refine L_pu (P_len Try.underlying23 A6 n7 c8 hp9.len rfl) ?_
  obtain ⟨hb12, H⟩ := H
  have hi13 := hb12 (len_le hl11)
  refine L_pu (P_add (b.length : Int) 1 rfl rfl hi13) ?_
  obtain ⟨hb14, H⟩ := H
  refine L_make (kd := (Kd.int .i64)) ei89 hc0 (0 : Int) (rfl) ((b.length : Int) + 1) rfl rfl hb14 fun w15 A16 n17 c18 g19 hr20 hc21 h22 => ?_
  refine L_pu (P_assign (.slice A16 n17 c18) rfl) ?_
  refine L_nil ?_
  refine W_seq ?_
  refine W_seq ?_
  refine W_reg ?_
  refine L_pu (P_move (.slice A1 n2 c3) rfl) ?_
  have hl24 := (hp4.st hc21.st).le
  refine L_pu (P_len Try.underlying23 A1 n2 c3 (hp4.st hc21.st).len rfl) ?_
  obtain ⟨hb25, H⟩ := H
  have hi26 := hb25 (len_le hl11) (len_le hl24)
  refine L_pu (P_sub (a.length : Int) 1 rfl rfl hi26) ?_
  refine L_pu (P_assign (vi ((a.length : Int) - 1)) rfl) ?_
  refine L_nil ?_
  refine W_block ?_
  obtain ⟨I57, mu58, hI59, H⟩ := H
  refine W_loop (α := (List Int) × (Option Addr) × Nat × Nat × Int) (fun (sv__ : (List Int) × (Option Addr) × Nat × Nat × Int) t w46 => match sv__ with | (xs2, A49, n50, c51, i2) => I57 xs2 i2 ∧ Has t [(0, .slice A1 n2 c3), (1, .slice A6 n7 c8), (5, .slice A49 n50 c51), (6, vi i2)] ∧ Ct [] w0 w46 [blk (.slice A49 n50 c51)] O ∧ Sl kPt w46 (Fr ([blk (.slice A49 n50 c51)] ++ O)) (.slice A1 n2 c3) a ∧ Sl kPt w46 (Fr ([blk (.slice A49 n50 c51)] ++ O)) (.slice A6 n7 c8) b ∧ Ow (Kd.int .i64) 3 w46 ([blk (.slice A49 n50 c51)] ++ O) (.slice A49 n50 c51) xs2) (fun (sv__ : (List Int) × (Option Addr) × Nat × Nat × Int) => match sv__ with | (xs2, _, _, _, i2) => mu58 xs2 i2) ((List.replicate ((b.length : Int) + 1).toNat (0 : Int)), A16, n17, c18, (a.length : Int) - 1) ⟨hI59, ⟨rfl, rfl, rfl, rfl, trivial⟩, hc21, (hp4.st hc21.st), (hp9.st hc21.st), h22⟩ ?_
  rintro ⟨xs2, A49, n50, c51, i2⟩ _ w46 ⟨hI59, hh61, hc53, h54, h55, h56⟩
  obtain ⟨u62, rfl⟩ := Has.ins hh61
  have H := H xs2 i2 hI59
  refine W_seq ?_
  refine W_seq ?_
  refine W_reg ?_
  refine L_pu (P_move (vi i2) rfl) ?_
  refine L_pu (P_cmp i2 0 (decide (i2 ≥ 0)) rfl rfl rfl) ?_
  refine L_nil ?_
  refine W_cond (decide (i2 ≥ 0)) rfl (fun hq63 => ?_) (fun hq63 => ?_)
  · have H := ite_t H hq63
    refine W_skip ?_
    refine W_seq ?_
    refine W_block ?_
    refine W_seq ?_
    refine W_reg ?_
    refine L_pu (P_move (.slice A6 n7 c8) rfl) ?_
    have hl64 := h55.le
    refine L_pu (P_len Try.underlying23 A6 n7 c8 h55.len rfl) ?_
    obtain ⟨hb65, H⟩ := H
    have hi66 := hb65 (len_le hl64)
    refine L_pu (P_add (b.length : Int) 1 rfl rfl hi66) ?_
    obtain ⟨hb67, H⟩ := H
    refine L_make (kd := (Kd.int .i64)) ei89 hc53 (0 : Int) (rfl) ((b.length : Int) + 1) rfl rfl hb67 fun w68 A69 n70 c71 g72 hr73 hc74 h75 => ?_
    refine L_pu (P_assign (.slice A69 n70 c71) rfl) ?_
    refine L_nil ?_
    refine W_seq ?_
    refine W_seq ?_
    refine W_reg ?_
    refine L_pu (P_move (.slice A6 n7 c8) rfl) ?_
    refine L_pu (P_len Try.underlying23 A6 n7 c8 (h55.st (.own _ _ g72 hr73)).len rfl) ?_
    obtain ⟨hb77, H⟩ := H
    have hi78 := hb77 (len_le hl64)
    refine L_pu (P_sub (b.length : Int) 1 rfl rfl hi78) ?_
    refine L_pu (P_assign (vi ((b.length : Int) - 1)) rfl) ?_
    refine L_nil ?_
    refine W_block ?_
    obtain ⟨I115, mu116, hI117, H⟩ := H
    have h119 := (h56.so _ g72 hr73)
    refine W_loop (α := (List Int) × Int) (fun (sv__ : (List Int) × Int) t w102 => match sv__ with | (xs4, k2) => I115 xs4 k2 ∧ Has t [(0, .slice A1 n2 c3), (1, .slice A6 n7 c8), (5, .slice A49 n50 c51), (6, vi i2), (7, .slice A69 n70 c71), (8, vi k2)] ∧ Ct [] w0 w102 [blk (.slice A69 n70 c71), blk (.slice A49 n50 c51)] O ∧ Sl kPt w102 (Fr ([blk (.slice A69 n70 c71), blk (.slice A49 n50 c51)] ++ O)) (.slice A1 n2 c3) a ∧ Sl kPt w102 (Fr ([blk (.slice A69 n70 c71), blk (.slice A49 n50 c51)] ++ O)) (.slice A6 n7 c8) b ∧ Ow (Kd.int .i64) 3 w102 ([blk (.slice A69 n70 c71), blk (.slice A49 n50 c51)] ++ O) (.slice A49 n50 c51) xs2 ∧ Ow (Kd.int .i64) 3 w102 ([blk (.slice A69 n70 c71), blk (.slice A49 n50 c51)] ++ O) (.slice A69 n70 c71) xs4) (fun (sv__ : (List Int) × Int) => match sv__ with | (xs4, k2) => mu116 xs4 k2) ((List.replicate ((b.length : Int) + 1).toNat (0 : Int)), (b.length : Int) - 1) ⟨hI117, ⟨rfl, rfl, rfl, rfl, rfl, rfl, trivial⟩, hc74, (h54.st (.own _ _ g72 hr73)), (h55.st (.own _ _ g72 hr73)), h119, h75⟩ ?_
    rintro ⟨xs4, k2⟩ _ w102 ⟨hI117, hh120, hc110, h111, h112, h113, h114⟩
    obtain ⟨u121, rfl⟩ := Has.ins hh120
    have H := H xs4 k2 hI117
    refine W_seq ?_
    refine W_seq ?_
    refine W_reg ?_
    refine L_pu (P_move (vi k2) rfl) ?_
    refine L_pu (P_cmp k2 0 (decide (k2 ≥ 0)) rfl rfl rfl) ?_
    refine L_nil ?_
    refine W_cond (decide (k2 ≥ 0)) rfl (fun hq122 => ?_) (fun hq122 => ?_)
    · have H := ite_t H hq122
      refine W_skip ?_
      refine W_seq ?_
      refine W_block ?_
      refine W_seq ?_
      refine W_draw (fun x => Gr w102 x none) (by kernel_rfl) (by kernel_rfl) (Gr.drew _) ?_
      refine Q_pu (P_move (.slice A1 n2 c3) rfl) ?_
      refine Q_pu (P_move (vi i2) rfl) ?_
      obtain ⟨hb123, H⟩ := H
      obtain ⟨ad124, cs125, hA126, hS129, hR127, hcl128⟩ := h111.get default (by decide) i2 hb123
      obtain rfl := kPt.op hR127
      refine Q_pu (P_ia Try.underlying23 se23 A1 ad124 n2 c3 h111.len i2 rfl hA126 rfl hb123) ?_
      refine Q_pu (P_lda ag29 sz29 cQ (ad124.add (i2.toNat * 2)) [vi ((nth a i2).X), vi ((nth a i2).Y)] rfl rfl hcl128) ?_
      refine Q_pu (P_move (.slice A6 n7 c8) rfl) ?_
      refine Q_pu (P_move (vi k2) rfl) ?_
      obtain ⟨hb130, H⟩ := H
      obtain ⟨ad131, cs132, hA133, hS136, hR134, hcl135⟩ := h112.get default (by decide) k2 hb130
      obtain rfl := kPt.op hR134
      refine Q_pu (P_ia Try.underlying23 se23 A6 ad131 n7 c8 h112.len k2 rfl hA133 rfl hb130) ?_
      refine Q_pu (P_lda ag29 sz29 cQ (ad131.add (k2.toNat * 2)) [vi ((nth b k2).X), vi ((nth b k2).Y)] rfl rfl hcl135) ?_
      refine Q_pu (P_eq _ _ (eqPt (nth a i2) (nth b k2)) (qt29 (nth a i2) (nth b k2)) rfl rfl) ?_
      refine Q_nil fun w137 g138 => ?_
      have hc140 := hc110.k0 g138
      refine W_cond (eqPt (nth a i2) (nth b k2)) rfl (fun hq141 => ?_) (fun hq141 => ?_)
      · have H := ite_t H hq141
        refine W_reg ?_
        refine L_pu (P_move (.slice A69 n70 c71) rfl) ?_
        refine L_pu (P_move (vi k2) rfl) ?_
        refine L_pu (P_move (.slice A49 n50 c51) rfl) ?_
        refine L_pu (P_move (vi k2) rfl) ?_
        obtain ⟨hb142, H⟩ := H
        refine L_pu (P_add k2 1 rfl rfl hb142) ?_
        obtain ⟨hb143, H⟩ := H
        have h150 := (h113.sn g138)
        obtain ⟨ad144, cs145, hA146, hR147, hcl148⟩ := h150.get default (by decide) (k2 + 1) hb143
        obtain rfl := Kd.int.op hR147
        refine L_pu (P_ia Try.underlying89 se89 A49 ad144 n50 c51 h150.len (k2 + 1) rfl hA146 rfl hb143) ?_
        refine L_pu (P_ld ag3 cL (ad144.add ((k2 + 1).toNat * 1)) (vi (nth xs2 (k2 + 1))) rfl (hcl148 0 _ rfl)) ?_
        obtain ⟨hb151, H⟩ := H
        refine L_pu (P_add (nth xs2 (k2 + 1)) 1 rfl rfl hb151) ?_
        obtain ⟨hb152, H⟩ := H
        have h159 := (h114.sn g138)
        obtain ⟨ad153, cs154, hA155, hR156, hcl157⟩ := h159.get default (by decide) k2 hb152
        obtain rfl := Kd.int.op hR156
        refine L_pu (P_ia Try.underlying89 se89 A69 ad153 n70 c71 h159.len k2 rfl hA155 rfl hb152) ?_
        refine L_ste0 A69 n70 c71 xs4 h159 k2 hb152 ad153 hA155 0 rfl [vi ((nth xs2 (k2 + 1)) + 1)] rfl sz3 rfl ((nth xs2 (k2 + 1)) + 1) [vi (nth xs4 k2)] [vi ((nth xs2 (k2 + 1)) + 1)] hcl157 rfl rfl rfl fun w160 g161 h162 => ?_
        have hc163 := hc140.wr 0 rfl g161
        refine L_nil ?_
        refine W_reg ?_
        refine L_pu (P_move (vi k2) rfl) ?_
        obtain ⟨hb164, H⟩ := H
        refine L_pu (P_sub k2 1 rfl rfl hb164) ?_
        refine L_pu (P_assign (vi (k2 - 1)) rfl) ?_
        refine L_nil ?_
        obtain ⟨hI165, hm166⟩ := H
        have h167 := ((h111.st (.new _ g138)).st (.wl (L := [blk (.slice A69 n70 c71), blk (.slice A49 n50 c51)]) (O := O) (j := 0) rfl g161))
        have h168 := ((h112.st (.new _ g138)).st (.wl (L := [blk (.slice A69 n70 c71), blk (.slice A49 n50 c51)]) (O := O) (j := 0) rfl g161))
        have h169 := (Ow.sw (L := [blk (.slice A69 n70 c71), blk (.slice A49 n50 c51)]) (O := O) h150 hc140 (i := 1) rfl (j := 0) rfl (by decide) g161)
        exact ⟨((xs4.set k2.toNat ((nth xs2 (k2 + 1)) + 1)), k2 - 1), hm166, hI165, ⟨rfl, rfl, rfl, rfl, rfl, rfl, trivial⟩, hc163, h167, h168, h169, h162⟩
      · have H := ite_f H hq141
        refine W_tail 13 (by kernel_rfl) (by kernel_rfl) fun w170 g171 => ?_
        have hc172 := hc140.k0 g171
        refine S_pu (P_move (.slice A69 n70 c71) rfl) ?_
        refine S_pu (P_move (vi k2) rfl) ?_
        refine S_pu (P_move (.slice A49 n50 c51) rfl) ?_
        refine S_pu (P_move (vi k2) rfl) ?_
        obtain ⟨hb173, H⟩ := H
        have h180 := ((h113.sn g138).sn g171)
        obtain ⟨ad174, cs175, hA176, hR177, hcl178⟩ := h180.get default (by decide) k2 hb173
        obtain rfl := Kd.int.op hR177
        refine S_pu (P_ia Try.underlying89 se89 A49 ad174 n50 c51 h180.len k2 rfl hA176 rfl hb173) ?_
        refine S_pu (P_ld ag3 cL (ad174.add (k2.toNat * 1)) (vi (nth xs2 k2)) rfl (hcl178 0 _ rfl)) ?_
        refine S_pu (P_move (.slice A69 n70 c71) rfl) ?_
        refine S_pu (P_move (vi k2) rfl) ?_
        obtain ⟨hb181, H⟩ := H
        refine S_pu (P_add k2 1 rfl rfl hb181) ?_
        obtain ⟨hb182, H⟩ := H
        have h189 := ((h114.sn g138).sn g171)
        obtain ⟨ad183, cs184, hA185, hR186, hcl187⟩ := h189.get default (by decide) (k2 + 1) hb182
        obtain rfl := Kd.int.op hR186
        refine S_pu (P_ia Try.underlying89 se89 A69 ad183 n70 c71 h189.len (k2 + 1) rfl hA185 rfl hb182) ?_
        refine S_pu (P_ld ag3 cL (ad183.add ((k2 + 1).toNat * 1)) (vi (nth xs4 (k2 + 1))) rfl (hcl187 0 _ rfl)) ?_
        refine S_call go172 [vi (nth xs2 k2), vi (nth xs4 (k2 + 1))] rfl (vi (spec_l1Max.m (nth xs2 k2) (nth xs4 (k2 + 1)))) ((spec_l1Max.calls w170 hc172.ok (nth xs2 k2) (nth xs4 (k2 + 1)) _ (spec_l1Max.fn (nth xs2 k2) (nth xs4 (k2 + 1)))).mono ?_) ?_
        · rintro _ w ⟨r, rfl, rfl, _, rfl⟩
          exact ⟨rfl, rfl⟩
        obtain ⟨hb195, H⟩ := H
        obtain ⟨ad196, cs197, hA198, hR199, hcl200⟩ := h189.get default (by decide) k2 hb195
        obtain rfl := Kd.int.op hR199
        refine S_pu (P_ia Try.underlying89 se89 A69 ad196 n70 c71 h189.len k2 rfl hA198 rfl hb195) ?_
        refine S_nil ?_
        refine L_ste0 A69 n70 c71 xs4 h189 k2 hb195 ad196 hA198 0 rfl [vi (spec_l1Max.m (nth xs2 k2) (nth xs4 (k2 + 1)))] rfl sz3 rfl (spec_l1Max.m (nth xs2 k2) (nth xs4 (k2 + 1))) [vi (nth xs4 k2)] [vi (spec_l1Max.m (nth xs2 k2) (nth xs4 (k2 + 1)))] hcl200 rfl rfl rfl fun w202 g203 h204 => ?_
        have hc205 := hc172.wr 0 rfl g203
        refine L_nil ?_
        refine W_reg ?_
        refine L_pu (P_move (vi k2) rfl) ?_
        obtain ⟨hb206, H⟩ := H
        refine L_pu (P_sub k2 1 rfl rfl hb206) ?_
        refine L_pu (P_assign (vi (k2 - 1)) rfl) ?_
        refine L_nil ?_
        obtain ⟨hI207, hm208⟩ := H
        have h209 := (((h111.st (.new _ g138)).st (.new _ g171)).st (.wl (L := [blk (.slice A69 n70 c71), blk (.slice A49 n50 c51)]) (O := O) (j := 0) rfl g203))
        have h210 := (((h112.st (.new _ g138)).st (.new _ g171)).st (.wl (L := [blk (.slice A69 n70 c71), blk (.slice A49 n50 c51)]) (O := O) (j := 0) rfl g203))
        have h211 := (Ow.sw (L := [blk (.slice A69 n70 c71), blk (.slice A49 n50 c51)]) (O := O) h180 hc172 (i := 1) rfl (j := 0) rfl (by decide) g203)
        exact ⟨((xs4.set k2.toNat (spec_l1Max.m (nth xs2 k2) (nth xs4 (k2 + 1)))), k2 - 1), hm208, hI207, ⟨rfl, rfl, rfl, rfl, rfl, rfl, trivial⟩, hc205, h209, h210, h211, h204⟩
    · have H := ite_f H hq122
      refine W_exit (xin_hit ?_)
      refine W_reg ?_
      refine L_pu (P_move (.slice A69 n70 c71) rfl) ?_
      refine L_pu (P_assign (.slice A69 n70 c71) rfl) ?_
      refine L_nil ?_
      refine W_reg ?_
      refine L_pu (P_move (vi i2) rfl) ?_
      obtain ⟨hb212, H⟩ := H
      refine L_pu (P_sub i2 1 rfl rfl hb212) ?_
      refine L_pu (P_assign (vi (i2 - 1)) rfl) ?_
      refine L_nil ?_
      have hc213 := hc110.drop 1 rfl
      obtain ⟨hI214, hm215⟩ := H
      have h216 := (h111.st (.dr _ (L := [blk (.slice A69 n70 c71), blk (.slice A49 n50 c51)]) (O := O) (j := 1) rfl))
      have h217 := (h112.st (.dr _ (L := [blk (.slice A69 n70 c71), blk (.slice A49 n50 c51)]) (O := O) (j := 1) rfl))
      have h218 := (Ow.sd (L := [blk (.slice A69 n70 c71), blk (.slice A49 n50 c51)]) (O := O) h114 (i := 0) rfl (j := 1) rfl (by decide))
      exact ⟨(xs4, A69, n70, c71, i2 - 1), hm215, hI214, ⟨rfl, rfl, rfl, rfl, trivial⟩, hc213, h216, h217, h218⟩
  · have H := ite_f H hq63
    refine W_exit (xin_hit ?_)
    refine W_seq ?_
    refine W_reg ?_
    refine L_pu (P_move (.slice A49 n50 c51) rfl) ?_
    obtain ⟨hb219, H⟩ := H
    obtain ⟨ad220, cs221, hA222, hR223, hcl224⟩ := h56.get default (by decide) 0 hb219
    obtain rfl := Kd.int.op hR223
    refine L_pu (P_ia Try.underlying89 se89 A49 ad220 n50 c51 h56.len 0 rfl hA222 rfl hb219) ?_
    refine L_pu (P_ld ag3 cL (ad220.add ((0 : Int).toNat * 1)) (vi (nth xs2 0)) rfl (hcl224 0 _ rfl)) ?_
    refine L_pu (P_assign (vi (nth xs2 0)) rfl) ?_
    refine L_nil ?_
    refine W_ret ?_
    have hc226 := hc53.drop 0 rfl
    exact ⟨[vi (nth xs2 0)], ⟨_, rfl, rfl⟩, (nth xs2 0), rfl, H, hc226.gr.g0⟩
end Go.Proofs.Ytndjggncgpjolaa

namespace Go.Proofs.Ytndjggncgpjolaa
set_option linter.unusedVariables false
set_option linter.unusedSimpArgs false
set_option linter.unusedSectionVars false
theorem spec_l5Long.law (a b : List Pt) (Q : Int → Prop) (ha : a.length ≤ 1048576) (hb : b.length ≤ 1048576) (hq : Q (lcs a b : Nat)) : spec_l5Long.E a b Q := by
  unfold spec_l5Long.E
  have hn : ((b.length : Int) + 1).toNat = b.length + 1 := by omega
  rw [hn]
  refine ⟨fun _ => by unfold I64; omega, by omega, fun _ _ => by unfold I64; omega,
    fun xs i => ∃ k : Nat, i = (k : Int) - 1 ∧ k ≤ a.length ∧ RowOk a b k 0 xs, fun _ i => (i + 1).toNat, ⟨a.length, rfl, Nat.le_refl _, by simp, fun m _ hm => ?_⟩, ?_⟩
  · rw [nth_rep _ _ _ (by omega), List.drop_length, lcs_nil]; rfl
  rintro xs _ ⟨k, rfl, hk, hr⟩
  by_cases hk0 : (k : Int) - 1 ≥ 0
  · rw [if_pos (by simpa using hk0)]
    obtain ⟨i, rfl⟩ : ∃ i, k = i + 1 := ⟨k - 1, by omega⟩
    have ei : ((i + 1 : Nat) : Int) - 1 = (i : Int) := by omega
    rw [ei]
    refine ⟨fun _ => by unfold I64; omega, by omega, fun _ => by unfold I64; omega,
      fun ys j => ∃ m : Nat, j = (m : Int) - 1 ∧ m ≤ b.length ∧ RowOk a b i m ys, fun _ j => (j + 1).toNat, ⟨b.length, rfl, Nat.le_refl _, by simp, fun m hm1 hm2 => ?_⟩, ?_⟩
    · have : m = b.length := by omega
      subst this
      rw [nth_rep _ _ _ (by omega), List.drop_length, lcs_nil2]; rfl
    rintro ys _ ⟨m, rfl, hm, hs⟩
    by_cases hm0 : (m : Int) - 1 ≥ 0
    · rw [if_pos (by simpa using hm0)]
      obtain ⟨j, rfl⟩ : ∃ j, m = j + 1 := ⟨m - 1, by omega⟩
      have ej : ((j + 1 : Nat) : Int) - 1 = (j : Int) := by omega
      have ej1 : (j : Int) + 1 = ((j + 1 : Nat) : Int) := by omega
      rw [ej, ej1, eqPt_is]
      have hl := lcs_drop a b (i := i) (j := j) (by omega) (by omega)
      have n1 := hr.2 (j + 1) (Nat.zero_le _) (by omega)
      have n2 := hr.2 j (Nat.zero_le _) (by omega)
      have n3 := hs.2 (j + 1) (Nat.le_refl _) (by omega)
      have b1 := lcs_le2 (a.drop (i + 1)) (b.drop (j + 1))
      rw [List.length_drop] at b1
      have hset : ∀ v : Int, v = (lcs (a.drop i) (b.drop j) : Nat) → RowOk a b i j (ys.set (j : Int).toNat v) := fun v hv => by
        refine ⟨by rw [List.length_set]; exact hs.1, fun u hu1 hu2 => ?_⟩
        rw [Int.toNat_natCast, nth_set _ (by have := hs.1; omega)]
        by_cases e : u = j
        · subst e; rw [if_pos rfl, hv]
        · rw [if_neg e]; exact hs.2 u (by omega) hu2
      have l1 := hr.1
      have l2 := hs.1
      refine ⟨by omega, by omega, ?_⟩
      by_cases he : nth a (i : Int) = nth b (j : Int)
      · rw [if_pos (by simpa using he)]
        rw [if_pos he] at hl
        rw [n1]
        exact ⟨by unfold I64; omega, by omega, by unfold I64; omega, by omega, by unfold I64; omega, ⟨j, by omega, by omega, hset _ (by omega)⟩, by dsimp only; omega⟩
      · rw [if_neg (by simpa using he)]
        rw [if_neg he] at hl
        rw [n2, n3, spec_l1Max.m_is]
        exact ⟨by omega, by unfold I64; omega, by omega, by omega, by unfold I64; omega, ⟨j, by omega, by omega, hset _ (by omega)⟩, by dsimp only; omega⟩
    · rw [if_neg (by simpa using hm0)]
      have : m = 0 := by omega
      subst this
      exact ⟨by unfold I64; omega, ⟨i, by omega, by omega, hs⟩, by dsimp only; omega⟩
  · rw [if_neg (by simpa using hk0)]
    have : k = 0 := by omega
    subst this
    have h1 := hr.1
    have h2 := hr.2 0 (Nat.le_refl _) (Nat.zero_le _)
    refine ⟨by omega, ?_⟩
    rw [show nth xs 0 = nth xs ((0 : Nat) : Int) from rfl, h2]
    exact hq
end Go.Proofs.Ytndjggncgpjolaa

namespace Go.Proofs.Ytndjggncgpjolaa
open Go.RowKit
set_option linter.unusedVariables false
def spec_SeqPairs.E (a : List Pt) (b : List Pt) (Q : List Pair → Prop) : Prop :=
  (∃ (I50 : (List Pair) → Int → Int → Prop) (mu51 : (List Pair) → Int → Int → Nat), I50 ([] : List Pair) 0 0 ∧ ∀ (xs2 : List Pair) (i2 : Int) (k2 : Int), I50 xs2 i2 k2 → (if decide (i2 < (a.length : Int)) then (if decide (k2 < (b.length : Int)) then spec_l5Few.E a b (fun r => (if r then ((0 : Int) ≤ i2 ∧ i2 < (a.length : Int)) ∧ ((0 : Int) ≤ k2 ∧ k2 < (b.length : Int)) ∧ (if eqPt (nth a i2) (nth b k2) then (xs2.length + ([(⟨i2, k2⟩ : Pair)] : List Pair).length ≤ 268435456) ∧ (-9223372036854775808 ≤ i2) ∧ (-9223372036854775808 ≤ k2) ∧ I50 (xs2 ++ ([(⟨i2, k2⟩ : Pair)] : List Pair)) (i2 + 1) (k2 + 1) ∧ mu51 (xs2 ++ ([(⟨i2, k2⟩ : Pair)] : List Pair)) (i2 + 1) (k2 + 1) < mu51 xs2 i2 k2 else (-9223372036854775808 ≤ i2) ∧ ((0 : Int) ≤ i2 + 1 ∧ (i2 + 1 : Int) ≤ (a.length : Int) ∧ (a.length : Int) ≤ (a.length : Int)) ∧ ((0 : Int) ≤ k2 ∧ (k2 : Int) ≤ (b.length : Int) ∧ (b.length : Int) ≤ (b.length : Int)) ∧ (∃ q : Int, spec_l5Long.E ((a.drop (i2 + 1).toNat).take ((a.length : Int).toNat - (i2 + 1).toNat)) ((b.drop k2.toNat).take ((b.length : Int).toNat - k2.toNat)) (fun x => x = q) ∧ ((0 : Int) ≤ i2 ∧ (i2 : Int) ≤ (a.length : Int) ∧ (a.length : Int) ≤ (a.length : Int)) ∧ (-9223372036854775808 ≤ k2) ∧ ((0 : Int) ≤ k2 + 1 ∧ (k2 + 1 : Int) ≤ (b.length : Int) ∧ (b.length : Int) ≤ (b.length : Int)) ∧ (∃ q2 : Int, spec_l5Long.E ((a.drop i2.toNat).take ((a.length : Int).toNat - i2.toNat)) ((b.drop (k2 + 1).toNat).take ((b.length : Int).toNat - (k2 + 1).toNat)) (fun x => x = q2) ∧ (if decide (q ≥ q2) then (-9223372036854775808 ≤ i2) ∧ I50 xs2 (i2 + 1) k2 ∧ mu51 xs2 (i2 + 1) k2 < mu51 xs2 i2 k2 else (-9223372036854775808 ≤ k2) ∧ I50 xs2 i2 (k2 + 1) ∧ mu51 xs2 i2 (k2 + 1) < mu51 xs2 i2 k2)))) else Q xs2)) else Q xs2) else Q xs2))
set_option maxHeartbeats 8000000 in
set_option maxRecDepth 100000 in
theorem spec_SeqPairs.calls {O : Ob} (w0 : World) (hO : Ok w0 O) (a : List Pt) (A1 : Option Addr) (n2 c3 : Nat) (hp4 : Sl kPt w0 (Fr O) (.slice A1 n2 c3) a) (b : List Pt) (A6 : Option Addr) (n7 c8 : Nat) (hp9 : Sl kPt w0 (Fr O) (.slice A6 n7 c8) b) (Q : List Pair → Prop) (h : spec_SeqPairs.E a b Q) :
    Ret Try.prog 109 [.slice A1 n2 c3, .slice A6 n7 c8] w0 (fun v w' => ∃ (r0 : List Pair) (A0 : Option Addr) (n0 c0 : Nat), v = .slice A0 n0 c0 ∧ Q r0 ∧ Gr w0 w' none ∧ Ok w' ([blk (.slice A0 n0 c0)] ++ O) ∧ (∀ b, some b ∈ [blk (.slice A0 n0 c0)] → w0.heap.size ≤ b) ∧ Ow kPair 148 w' ([blk (.slice A0 n0 c0)] ++ O) (.slice A0 n0 c0) r0) := by
  have H : (∃ (I50 : (List Pair) → Int → Int → Prop) (mu51 : (List Pair) → Int → Int → Nat), I50 ([] : List Pair) 0 0 ∧ ∀ (xs2 : List Pair) (i2 : Int) (k2 : Int), I50 xs2 i2 k2 → (if decide (i2 < (a.length : Int)) then (if decide (k2 < (b.length : Int)) then spec_l5Few.E a b (fun r => (if r then ((0 : Int) ≤ i2 ∧ i2 < (a.length : Int)) ∧ ((0 : Int) ≤ k2 ∧ k2 < (b.length : Int)) ∧ (if eqPt (nth a i2) (nth b k2) then (xs2.length + ([(⟨i2, k2⟩ : Pair)] : List Pair).length ≤ 268435456) ∧ (-9223372036854775808 ≤ i2) ∧ (-9223372036854775808 ≤ k2) ∧ I50 (xs2 ++ ([(⟨i2, k2⟩ : Pair)] : List Pair)) (i2 + 1) (k2 + 1) ∧ mu51 (xs2 ++ ([(⟨i2, k2⟩ : Pair)] : List Pair)) (i2 + 1) (k2 + 1) < mu51 xs2 i2 k2 else (-9223372036854775808 ≤ i2) ∧ ((0 : Int) ≤ i2 + 1 ∧ (i2 + 1 : Int) ≤ (a.length : Int) ∧ (a.length : Int) ≤ (a.length : Int)) ∧ ((0 : Int) ≤ k2 ∧ (k2 : Int) ≤ (b.length : Int) ∧ (b.length : Int) ≤ (b.length : Int)) ∧ (∃ q : Int, spec_l5Long.E ((a.drop (i2 + 1).toNat).take ((a.length : Int).toNat - (i2 + 1).toNat)) ((b.drop k2.toNat).take ((b.length : Int).toNat - k2.toNat)) (fun x => x = q) ∧ ((0 : Int) ≤ i2 ∧ (i2 : Int) ≤ (a.length : Int) ∧ (a.length : Int) ≤ (a.length : Int)) ∧ (-9223372036854775808 ≤ k2) ∧ ((0 : Int) ≤ k2 + 1 ∧ (k2 + 1 : Int) ≤ (b.length : Int) ∧ (b.length : Int) ≤ (b.length : Int)) ∧ (∃ q2 : Int, spec_l5Long.E ((a.drop i2.toNat).take ((a.length : Int).toNat - i2.toNat)) ((b.drop (k2 + 1).toNat).take ((b.length : Int).toNat - (k2 + 1).toNat)) (fun x => x = q2) ∧ (if decide (q ≥ q2) then (-9223372036854775808 ≤ i2) ∧ I50 xs2 (i2 + 1) k2 ∧ mu51 xs2 (i2 + 1) k2 < mu51 xs2 i2 k2 else (-9223372036854775808 ≤ k2) ∧ I50 xs2 i2 (k2 + 1) ∧ mu51 xs2 i2 (k2 + 1) < mu51 xs2 i2 k2)))) else Q xs2)) else Q xs2) else Q xs2)) := h
  clear h
  have hc0 := Ct.init hO
  refine Ret_enter Try.func109 rfl 67 rfl [.tmp 4] rfl rfl ?_
  refine W_seq ?_
  refine W_reg ?_
  refine L_pu (P_assign (.slice none 0 0) rfl) ?_
  refine L_nil ?_
  refine W_seq ?_
  refine W_reg ?_
  refine L_lit (kd := kPair) ei86 hc0 ([] : List Pair) (cells := []) rfl (fun _ => by kernel_rfl) fun w11 A12 n13 c14 g15 hr16 hc17 h18 => ?_
  refine L_pu (P_assign (.slice A12 n13 c14) rfl) ?_
  refine L_nil ?_
  refine W_seq ?_
  refine W_reg ?_
  refine L_pu (P_assign (vi 0) rfl) ?_
  refine L_nil ?_
  refine W_seq ?_
  refine W_reg ?_
  refine L_pu (P_assign (vi 0) rfl) ?_
  refine L_nil ?_
  refine W_seq ?_
  refine W_block ?_
  obtain ⟨I50, mu51, hI52, H⟩ := H
  refine W_loop (α := (List Pair) × (Option Addr) × Nat × Nat × Int × Int) (fun (sv__ : (List Pair) × (Option Addr) × Nat × Nat × Int × Int) t w39 => match sv__ with | (xs2, A42, n43, c44, i2, k2) => I50 xs2 i2 k2 ∧ Has t [(0, .slice A1 n2 c3), (1, .slice A6 n7 c8), (5, .slice A42 n43 c44), (6, vi i2), (7, vi k2)] ∧ Ct [] w0 w39 [blk (.slice A42 n43 c44)] O ∧ Sl kPt w39 (Fr ([blk (.slice A42 n43 c44)] ++ O)) (.slice A1 n2 c3) a ∧ Sl kPt w39 (Fr ([blk (.slice A42 n43 c44)] ++ O)) (.slice A6 n7 c8) b ∧ Ow kPair 148 w39 ([blk (.slice A42 n43 c44)] ++ O) (.slice A42 n43 c44) xs2) (fun (sv__ : (List Pair) × (Option Addr) × Nat × Nat × Int × Int) => match sv__ with | (xs2, _, _, _, i2, k2) => mu51 xs2 i2 k2) (([] : List Pair), A12, n13, c14, 0, 0) ⟨hI52, ⟨rfl, rfl, rfl, rfl, rfl, trivial⟩, hc17, (hp4.st hc17.st), (hp9.st hc17.st), h18⟩ ?_
  rintro ⟨xs2, A42, n43, c44, i2, k2⟩ _ w39 ⟨hI52, hh54, hc46, h47, h48, h49⟩
  obtain ⟨u55, rfl⟩ := Has.ins hh54
  have H := H xs2 i2 k2 hI52
  refine W_seq ?_
  refine W_seq ?_
  refine W_reg ?_
  refine L_pu (P_move (vi i2) rfl) ?_
  refine L_pu (P_move (.slice A1 n2 c3) rfl) ?_
  have hl56 := h47.le
  refine L_pu (P_len Try.underlying23 A1 n2 c3 h47.len rfl) ?_
  refine L_pu (P_cmp i2 (a.length : Int) (decide (i2 < (a.length : Int))) rfl rfl rfl) ?_
  refine L_pu (P_move (vb (decide (i2 < (a.length : Int)))) rfl) ?_
  rcases bool_or (decide (i2 < (a.length : Int))) with hq57 | hq57
  · have H := ite_t H hq57
    refine L_run (dj := 13) rfl rfl (by exact congrArg Value.bool hq57) ?_
    refine L_pu (P_move (vi k2) rfl) ?_
    refine L_run (dj := 13) rfl rfl (by exact congrArg Value.bool hq57) ?_
    refine L_pu (P_move (.slice A6 n7 c8) rfl) ?_
    refine L_run (dj := 13) rfl rfl (by exact congrArg Value.bool hq57) ?_
    have hl58 := h48.le
    refine L_pu (P_len Try.underlying23 A6 n7 c8 h48.len rfl) ?_
    refine L_run (dj := 13) rfl rfl (by exact congrArg Value.bool hq57) ?_
    refine L_pu (P_cmp k2 (b.length : Int) (decide (k2 < (b.length : Int))) rfl rfl rfl) ?_
    refine L_pu (P_pick true (vb (decide (k2 < (b.length : Int)))) (by exact congrArg Value.bool hq57) rfl) ?_
    refine L_pu (P_move (vb (decide (k2 < (b.length : Int)))) rfl) ?_
    rcases bool_or (decide (k2 < (b.length : Int))) with hq59 | hq59
    · have H := ite_t H hq59
      refine L_run (dj := 19) rfl rfl (by exact congrArg Value.bool hq59) ?_
      refine L_pu (P_move (.slice A1 n2 c3) rfl) ?_
      refine L_run (dj := 19) rfl rfl (by exact congrArg Value.bool hq59) ?_
      refine L_pu (P_move (.slice A6 n7 c8) rfl) ?_
      refine L_run (dj := 19) rfl rfl (by exact congrArg Value.bool hq59) ?_
      refine L_call go50 [.slice A1 n2 c3, .slice A6 n7 c8] rfl ((spec_l5Few.calls w39 hc46.ok a A1 n2 c3 h47 b A6 n7 c8 h48 _ H).mono ?_)
      rintro _ w60 ⟨r, rfl, H, g61, _⟩
      have hc65 := hc46.k0 g61
      refine L_pu (P_pick true (vb r) (by exact congrArg Value.bool hq59) rfl) ?_
      refine L_nil ?_
      refine W_cond r rfl (fun hq66 => ?_) (fun hq66 => ?_)
      · have H := ite_t H hq66
        refine W_skip ?_
        refine W_block ?_
        refine W_block ?_
        refine W_seq ?_
        refine W_draw (fun x => Gr w60 x none) (by kernel_rfl) (by kernel_rfl) (Gr.drew _) ?_
        refine Q_pu (P_move (.slice A1 n2 c3) rfl) ?_
        refine Q_pu (P_move (vi i2) rfl) ?_
        obtain ⟨hb67, H⟩ := H
        obtain ⟨ad68, cs69, hA70, hS73, hR71, hcl72⟩ := (h47.st (.new _ g61)).get default (by decide) i2 hb67
        obtain rfl := kPt.op hR71
        refine Q_pu (P_ia Try.underlying23 se23 A1 ad68 n2 c3 (h47.st (.new _ g61)).len i2 rfl hA70 rfl hb67) ?_
        refine Q_pu (P_lda ag29 sz29 cQ (ad68.add (i2.toNat * 2)) [vi ((nth a i2).X), vi ((nth a i2).Y)] rfl rfl hcl72) ?_
        refine Q_pu (P_move (.slice A6 n7 c8) rfl) ?_
        refine Q_pu (P_move (vi k2) rfl) ?_
        obtain ⟨hb74, H⟩ := H
        obtain ⟨ad75, cs76, hA77, hS80, hR78, hcl79⟩ := (h48.st (.new _ g61)).get default (by decide) k2 hb74
        obtain rfl := kPt.op hR78
        refine Q_pu (P_ia Try.underlying23 se23 A6 ad75 n7 c8 (h48.st (.new _ g61)).len k2 rfl hA77 rfl hb74) ?_
        refine Q_pu (P_lda ag29 sz29 cQ (ad75.add (k2.toNat * 2)) [vi ((nth b k2).X), vi ((nth b k2).Y)] rfl rfl hcl79) ?_
        refine Q_pu (P_eq _ _ (eqPt (nth a i2) (nth b k2)) (qt29 (nth a i2) (nth b k2)) rfl rfl) ?_
        refine Q_pu (P_assign (vb (eqPt (nth a i2) (nth b k2))) rfl) ?_
        refine Q_nil fun w81 g82 => ?_
        have hc84 := hc65.k0 g82
        refine W_cond (eqPt (nth a i2) (nth b k2)) rfl (fun hq85 => ?_) (fun hq85 => ?_)
        · have H := ite_t H hq85
          refine W_seq ?_
          refine W_reg ?_
          refine L_pu (P_move (.slice A42 n43 c44) rfl) ?_
          refine L_pu (P_move (vi i2) rfl) ?_
          refine L_pu (P_move (vi k2) rfl) ?_
          refine L_pu (P_build (.agg #[vi i2, vi k2]) (fun _ => by kernel_rfl)) ?_
          refine L_lit (kd := kPair) ei86 hc84 ([(⟨i2, k2⟩ : Pair)] : List Pair) (cells := [vi i2, vi k2]) ⟨[vi i2, vi k2], _, rfl, (kPair.mk _ _ (⟨i2, k2⟩ : Pair)), rfl⟩ (fun _ => by kernel_rfl) fun w86 A87 n88 c89 g90 hr91 hc92 h93 => ?_
          obtain ⟨hb95, H⟩ := H
          have h96 := (((h49.sn g61).sn g82).so _ g90 hr91)
          refine L_app ei86 hc92 (.slice A42 n43 c44) xs2 ([(⟨i2, k2⟩ : Pair)] : List Pair) rfl h96 (.slice A87 n88 c89) rfl h93.sx 1 rfl hb95 fun w97 A98 n99 c100 g101 s102 hc103 h104 => ?_
          refine L_pu (P_assign (.slice A98 n99 c100) rfl) ?_
          refine L_nil ?_
          refine W_seq ?_
          refine W_reg ?_
          refine L_pu (P_move (vi i2) rfl) ?_
          obtain ⟨hb107, H⟩ := H
          have hi106 : I64 (i2 + 1) := i64_succ (of_decide_eq_true hq57) hl56 hb107
          refine L_pu (P_add i2 1 rfl rfl hi106) ?_
          refine L_pu (P_assign (vi (i2 + 1)) rfl) ?_
          refine L_nil ?_
          refine W_reg ?_
          refine L_pu (P_move (vi k2) rfl) ?_
          obtain ⟨hb109, H⟩ := H
          have hi108 : I64 (k2 + 1) := i64_succ (of_decide_eq_true hq59) hl58 hb109
          refine L_pu (P_add k2 1 rfl rfl hi108) ?_
          refine L_pu (P_assign (vi (k2 + 1)) rfl) ?_
          refine L_nil ?_
          have hc110 := hc103.drop 0 rfl
          obtain ⟨hI111, hm112⟩ := H
          have h113 := (((((h47.st (.new _ g61)).st (.new _ g82)).st (.own _ _ g90 hr91)).st s102).st (.dr _ (L := [blk (.slice A87 n88 c89), blk (.slice A98 n99 c100)]) (O := O) (j := 0) rfl))
          have h114 := (((((h48.st (.new _ g61)).st (.new _ g82)).st (.own _ _ g90 hr91)).st s102).st (.dr _ (L := [blk (.slice A87 n88 c89), blk (.slice A98 n99 c100)]) (O := O) (j := 0) rfl))
          have h115 := (Ow.sd (L := [blk (.slice A87 n88 c89), blk (.slice A98 n99 c100)]) (O := O) h104 (i := 1) rfl (j := 0) rfl (by decide))
          exact ⟨((xs2 ++ ([(⟨i2, k2⟩ : Pair)] : List Pair)), A98, n99, c100, i2 + 1, k2 + 1), hm112, hI111, ⟨rfl, rfl, rfl, rfl, rfl, trivial⟩, hc110, h113, h114, h115⟩
        · have H := ite_f H hq85
          refine W_seq ?_
          refine W_draw (fun x => Gr w81 x none) (by kernel_rfl) (by kernel_rfl) (Gr.drew _) ?_
          refine Q_pu (P_move (.slice A1 n2 c3) rfl) ?_
          refine Q_pu (P_move (vi i2) rfl) ?_
          obtain ⟨hb117, H⟩ := H
          have hi116 : I64 (i2 + 1) := i64_succ (of_decide_eq_true hq57) hl56 hb117
          refine Q_pu (P_add i2 1 rfl rfl hi116) ?_
          obtain ⟨hb118, H⟩ := H
          have h123 := ((h47.st (.new _ g61)).st (.new _ g82))
          refine Q_cuts Try.underlying23 se23 A1 n2 c3 a rfl h123 (i2 + 1) (a.length : Int) rfl (bd_none h123.len) hb118 fun A119 n120 c121 h122 => ?_
          refine Q_pu (P_move (.slice A6 n7 c8) rfl) ?_
          refine Q_pu (P_move (vi k2) rfl) ?_
          obtain ⟨hb125, H⟩ := H
          have h130 := ((h48.st (.new _ g61)).st (.new _ g82))
          refine Q_cuts Try.underlying23 se23 A6 n7 c8 b rfl h130 k2 (b.length : Int) rfl (bd_none h130.len) hb125 fun A126 n127 c128 h129 => ?_
          obtain ⟨q, hE137, H⟩ := H
          refine Q_call go146 [.slice A119 n120 c121, .slice A126 n127 c128] rfl (vi q) (fun w g => (spec_l5Long.calls w (hc84.k0 g).ok ((a.drop (i2 + 1).toNat).take ((a.length : Int).toNat - (i2 + 1).toNat)) A119 n120 c121 (h122.st (.new _ g)) ((b.drop k2.toNat).take ((b.length : Int).toNat - k2.toNat)) A126 n127 c128 (h129.st (.new _ g)) _ hE137).mono ?_) ?_
          · rintro _ w ⟨r, rfl, rfl, g2⟩
            exact ⟨rfl, Gr.t0 g g2⟩
          refine Q_pu (P_move (.slice A1 n2 c3) rfl) ?_
          refine Q_pu (P_move (vi i2) rfl) ?_
          obtain ⟨hb139, H⟩ := H
          refine Q_cuts Try.underlying23 se23 A1 n2 c3 a rfl h123 i2 (a.length : Int) rfl (bd_none h123.len) hb139 fun A140 n141 c142 h143 => ?_
          refine Q_pu (P_move (.slice A6 n7 c8) rfl) ?_
          refine Q_pu (P_move (vi k2) rfl) ?_
          obtain ⟨hb146, H⟩ := H
          have hi145 : I64 (k2 + 1) := i64_succ (of_decide_eq_true hq59) hl58 hb146
          refine Q_pu (P_add k2 1 rfl rfl hi145) ?_
          obtain ⟨hb147, H⟩ := H
          refine Q_cuts Try.underlying23 se23 A6 n7 c8 b rfl h130 (k2 + 1) (b.length : Int) rfl (bd_none h130.len) hb147 fun A148 n149 c150 h151 => ?_
          obtain ⟨q2, hE158, H⟩ := H
          refine Q_call go146 [.slice A140 n141 c142, .slice A148 n149 c150] rfl (vi q2) (fun w g => (spec_l5Long.calls w (hc84.k0 g).ok ((a.drop i2.toNat).take ((a.length : Int).toNat - i2.toNat)) A140 n141 c142 (h143.st (.new _ g)) ((b.drop (k2 + 1).toNat).take ((b.length : Int).toNat - (k2 + 1).toNat)) A148 n149 c150 (h151.st (.new _ g)) _ hE158).mono ?_) ?_
          · rintro _ w ⟨r, rfl, rfl, g2⟩
            exact ⟨rfl, Gr.t0 g g2⟩
          refine Q_pu (P_cmp q q2 (decide (q ≥ q2)) rfl rfl rfl) ?_
          refine Q_pu (P_assign (vb (decide (q ≥ q2))) rfl) ?_
          refine Q_nil fun w160 g161 => ?_
          have hc163 := hc84.k0 g161
          refine W_cond (decide (q ≥ q2)) rfl (fun hq164 => ?_) (fun hq164 => ?_)
          · have H := ite_t H hq164
            refine W_reg ?_
            refine L_pu (P_move (vi i2) rfl) ?_
            obtain ⟨hb166, H⟩ := H
            have hi165 : I64 (i2 + 1) := i64_succ (of_decide_eq_true hq57) hl56 hb166
            refine L_pu (P_add i2 1 rfl rfl hi165) ?_
            refine L_pu (P_assign (vi (i2 + 1)) rfl) ?_
            refine L_nil ?_
            obtain ⟨hI167, hm168⟩ := H
            have h169 := (((h49.sn g61).sn g82).sn g161)
            exact ⟨(xs2, A42, n43, c44, i2 + 1, k2), hm168, hI167, ⟨rfl, rfl, rfl, rfl, rfl, trivial⟩, hc163, (h123.st (.new _ g161)), (h130.st (.new _ g161)), h169⟩
          · have H := ite_f H hq164
            refine W_reg ?_
            refine L_pu (P_move (vi k2) rfl) ?_
            obtain ⟨hb171, H⟩ := H
            have hi170 : I64 (k2 + 1) := i64_succ (of_decide_eq_true hq59) hl58 hb171
            refine L_pu (P_add k2 1 rfl rfl hi170) ?_
            refine L_pu (P_assign (vi (k2 + 1)) rfl) ?_
            refine L_nil ?_
            obtain ⟨hI172, hm173⟩ := H
            have h174 := (((h49.sn g61).sn g82).sn g161)
            exact ⟨(xs2, A42, n43, c44, i2, k2 + 1), hm173, hI172, ⟨rfl, rfl, rfl, rfl, rfl, trivial⟩, hc163, (h123.st (.new _ g161)), (h130.st (.new _ g161)), h174⟩
      · have H := ite_f H hq66
        refine W_exit (xin_hit ?_)
        refine W_seq ?_
        refine W_reg ?_
        refine L_pu (P_move (.slice A42 n43 c44) rfl) ?_
        refine L_pu (P_assign (.slice A42 n43 c44) rfl) ?_
        refine L_nil ?_
        refine W_ret ?_
        have h175 := (h49.sn g61)
        exact ⟨[.slice A42 n43 c44], ⟨_, rfl, rfl⟩, xs2, A42, n43, c44, rfl, H, hc65.gr.g0, hc65.ok, hc65.ge, h175⟩
    · have H := ite_f H hq59
      refine L_pass (dj := 19) rfl rfl (.inl (by exact congrArg Value.bool hq59)) ?_
      refine L_pass (dj := 19) rfl rfl (.inl (by exact congrArg Value.bool hq59)) ?_
      refine L_pass (dj := 19) rfl rfl (.inl (by exact congrArg Value.bool hq59)) ?_
      refine L_pu (P_pick false (vb false) (by exact congrArg Value.bool hq59) rfl) ?_
      refine L_nil ?_
      refine W_cf (b := false) rfl rfl ?_
      refine W_exit (xin_hit ?_)
      refine W_seq ?_
      refine W_reg ?_
      refine L_pu (P_move (.slice A42 n43 c44) rfl) ?_
      refine L_pu (P_assign (.slice A42 n43 c44) rfl) ?_
      refine L_nil ?_
      refine W_ret ?_
      exact ⟨[.slice A42 n43 c44], ⟨_, rfl, rfl⟩, xs2, A42, n43, c44, rfl, H, hc46.gr.g0, hc46.ok, hc46.ge, h49⟩
  · have H := ite_f H hq57
    refine L_pass (dj := 13) rfl rfl (.inl (by exact congrArg Value.bool hq57)) ?_
    refine L_pass (dj := 13) rfl rfl (.inl (by exact congrArg Value.bool hq57)) ?_
    refine L_pass (dj := 13) rfl rfl (.inl (by exact congrArg Value.bool hq57)) ?_
    refine L_pass (dj := 13) rfl rfl (.inl (by exact congrArg Value.bool hq57)) ?_
    refine L_pu (P_pick false (vb false) (by exact congrArg Value.bool hq57) rfl) ?_
    refine L_pu (P_move (vb false) rfl) ?_
    refine L_pass (dj := 19) rfl rfl (.inl rfl) ?_
    refine L_pass (dj := 19) rfl rfl (.inl rfl) ?_
    refine L_pass (dj := 19) rfl rfl (.inl rfl) ?_
    refine L_pu (P_pick false (vb false) (by exact congrArg Value.bool rfl) rfl) ?_
    refine L_nil ?_
    refine W_cf (b := false) rfl rfl ?_
    refine W_exit (xin_hit ?_)
    refine W_seq ?_
    refine W_reg ?_
    refine L_pu (P_move (.slice A42 n43 c44) rfl) ?_
    refine L_pu (P_assign (.slice A42 n43 c44) rfl) ?_
    refine L_nil ?_
    refine W_ret ?_
    exact ⟨[.slice A42 n43 c44], ⟨_, rfl, rfl⟩, xs2, A42, n43, c44, rfl, H, hc46.gr.g0, hc46.ok, hc46.ge, h49⟩
end Go.Proofs.Ytndjggncgpjolaa

namespace Go.Proofs.Ytndjggncgpjolaa
set_option linter.unusedVariables false
set_option linter.unusedSimpArgs false
set_option linter.unusedSectionVars false
theorem cut_end (a : List Pt) (k : Nat) : (a.drop k).take (a.length - k) = a.drop k := List.take_of_length_le (by rw [List.length_drop]; omega)
theorem spec_SeqPairs.law (a b : List Pt) (Q : List Pair → Prop) (hq : Q (spairs a b)) : spec_SeqPairs.E a b Q := by
  unfold spec_SeqPairs.E
  unfold spairs at hq
  refine ⟨fun xs i j => ∃ u v : Nat, i = u ∧ j = v ∧ u ≤ a.length ∧ v ≤ b.length ∧ (few a b = true → xs ++ (pairs u v (a.drop u) (b.drop v)).map mkP = (pairs 0 0 a b).map mkP) ∧ (few a b = false → xs = []), fun _ i j => ((a.length - i) + (b.length - j)).toNat, ⟨0, 0, rfl, rfl, Nat.zero_le _, Nat.zero_le _, fun _ => rfl, fun _ => rfl⟩, ?_⟩
  rintro xs _ _ ⟨u, v, rfl, rfl, hu, hv, hx, hy⟩
  have hend : (a.length ≤ u ∨ b.length ≤ v) → Q xs := fun h => by
    by_cases hf : few a b = true
    · rw [if_pos hf] at hq
      have hx := hx hf
      rcases h with h | h
      · rw [List.drop_of_length_le h, pairs_nil, List.map_nil, List.append_nil] at hx
        rw [hx]; exact hq
      · rw [List.drop_of_length_le h, pairs_nil2, List.map_nil, List.append_nil] at hx
        rw [hx]; exact hq
    · rw [if_neg hf] at hq
      rw [hy (by simpa using hf)]; exact hq
  by_cases hu0 : (u : Int) < (a.length : Int)
  · rw [if_pos (by simpa using hu0)]
    by_cases hv0 : (v : Int) < (b.length : Int)
    · rw [if_pos (by simpa using hv0)]
      refine spec_l5Few.law _ _ _ ?_
      by_cases hf : few a b = true
      · rw [if_pos hf]
        have hx := hx hf
        have hff := few_iff.1 hf
        have hu1 : u < a.length := by omega
        have hv1 : v < b.length := by omega
        rw [pairs_drop a b hu1 hv1] at hx
        have eu : (u : Int) + 1 = ((u + 1 : Nat) : Int) := by omega
        have ev : (v : Int) + 1 = ((v + 1 : Nat) : Int) := by omega
        rw [eqPt_is, eu, ev]
        refine ⟨by omega, by omega, ?_⟩
        by_cases he : nth a (u : Int) = nth b (v : Int)
        · rw [if_pos (by simpa using he)]
          rw [if_pos he, List.map_cons] at hx
          have hl := congrArg List.length hx
          rw [List.length_map, pairs_len, List.length_append] at hl
          have := lcs_le1 a b
          exact ⟨by simp only [List.length_singleton]; omega, by omega, by omega, ⟨u + 1, v + 1, rfl, rfl, by omega, by omega, fun _ => by rw [List.append_assoc]; exact hx, fun e => absurd hf (by rw [e]; exact Bool.false_ne_true)⟩, by dsimp only; omega⟩
        · rw [if_neg (by simpa using he)]
          rw [if_neg he] at hx
          simp only [Int.toNat_natCast, cut_end]
          refine ⟨by omega, by omega, by omega, _, spec_l5Long.law _ _ _ (by rw [List.length_drop]; omega) (by rw [List.length_drop]; omega) rfl, by omega, by omega, by omega, _, spec_l5Long.law _ _ _ (by rw [List.length_drop]; omega) (by rw [List.length_drop]; omega) rfl, ?_⟩
          by_cases hc : lcs (a.drop u) (b.drop (v + 1)) ≤ lcs (a.drop (u + 1)) (b.drop v)
          · rw [if_pos (by simpa using hc)]
            rw [if_pos hc] at hx
            exact ⟨by omega, ⟨u + 1, v, rfl, rfl, by omega, by omega, fun _ => hx, fun e => absurd hf (by rw [e]; exact Bool.false_ne_true)⟩, by omega⟩
          · rw [if_neg (by simpa using hc)]
            rw [if_neg hc] at hx
            exact ⟨by omega, ⟨u, v + 1, rfl, rfl, by omega, by omega, fun _ => hx, fun e => absurd hf (by rw [e]; exact Bool.false_ne_true)⟩, by omega⟩
      · rw [if_neg hf]
        rw [if_neg hf] at hq
        rw [hy (by simpa using hf)]; exact hq
    · rw [if_neg (by simpa using hv0)]; exact hend (.inr (by omega))
  · rw [if_neg (by simpa using hu0)]; exact hend (.inl (by omega))
end Go.Proofs.Ytndjggncgpjolaa

namespace Go.Proofs.Ytndjggncgpjolaa
open Go.RowKit
set_option linter.unusedVariables false
def spec_l5At.E (p : List Pair) (a : Int) (Q : Int → Prop) : Prop :=
  (∃ (I18 : Int → Prop) (mu19 : Int → Nat), I18 0 ∧ ∀ (i2 : Int), I18 i2 → (if decide (i2 < (p.length : Int)) then ((0 : Int) ≤ i2 ∧ i2 < (p.length : Int)) ∧ (if ((nth p i2).A) == a then ((0 : Int) ≤ i2 ∧ i2 < (p.length : Int)) ∧ Q ((nth p i2).B) else (-9223372036854775808 ≤ i2) ∧ I18 (i2 + 1) ∧ mu19 (i2 + 1) < mu19 i2) else Q (-1)))
set_option maxHeartbeats 8000000 in
set_option maxRecDepth 100000 in
theorem spec_l5At.calls {O : Ob} (w0 : World) (hO : Ok w0 O) (p : List Pair) (A1 : Option Addr) (n2 c3 : Nat) (hp4 : Sl kPair w0 (Fr O) (.slice A1 n2 c3) p) (a : Int) (Q : Int → Prop) (h : spec_l5At.E p a Q) :
    Ret Try.prog 110 [.slice A1 n2 c3, vi a] w0 (fun v w' => ∃ (r0 : Int), v = vi r0 ∧ Q r0 ∧ Gr w0 w' none) := by
  have H : (∃ (I18 : Int → Prop) (mu19 : Int → Nat), I18 0 ∧ ∀ (i2 : Int), I18 i2 → (if decide (i2 < (p.length : Int)) then ((0 : Int) ≤ i2 ∧ i2 < (p.length : Int)) ∧ (if ((nth p i2).A) == a then ((0 : Int) ≤ i2 ∧ i2 < (p.length : Int)) ∧ Q ((nth p i2).B) else (-9223372036854775808 ≤ i2) ∧ I18 (i2 + 1) ∧ mu19 (i2 + 1) < mu19 i2) else Q (-1))) := h
  clear h
  have hc0 := Ct.init hO
  refine Ret_enter Try.func110 rfl 24 rfl [.tmp 4] rfl rfl ?_
  refine W_seq ?_
  refine W_reg ?_
  refine L_pu (P_assign (vi 0) rfl) ?_
  refine L_nil ?_
  refine W_seq ?_
  refine W_seq ?_
  refine W_reg ?_
  refine L_pu (P_assign (vi 0) rfl) ?_
  refine L_nil ?_
  refine W_block ?_
  obtain ⟨I18, mu19, hI20, H⟩ := H
  refine W_loop (α := Int) (fun (sv__ : Int) t w14 => match sv__ with | i2 => I18 i2 ∧ Has t [(0, .slice A1 n2 c3), (1, vi a), (5, vi i2)] ∧ Ct [] w0 w14 [] O ∧ Sl kPair w14 (Fr ([] ++ O)) (.slice A1 n2 c3) p) (fun (sv__ : Int) => match sv__ with | i2 => mu19 i2) 0 ⟨hI20, ⟨rfl, rfl, rfl, trivial⟩, hc0, hp4⟩ ?_
  rintro i2 _ w14 ⟨hI20, hh22, hc16, h17⟩
  obtain ⟨u23, rfl⟩ := Has.ins hh22
  have H := H i2 hI20
  refine W_seq ?_
  refine W_seq ?_
  refine W_reg ?_
  refine L_pu (P_move (vi i2) rfl) ?_
  refine L_pu (P_move (.slice A1 n2 c3) rfl) ?_
  have hl24 := h17.le
  refine L_pu (P_len Try.underlying86 A1 n2 c3 h17.len rfl) ?_
  refine L_pu (P_cmp i2 (p.length : Int) (decide (i2 < (p.length : Int))) rfl rfl rfl) ?_
  refine L_nil ?_
  refine W_cond (decide (i2 < (p.length : Int))) rfl (fun hq25 => ?_) (fun hq25 => ?_)
  · have H := ite_t H hq25
    refine W_skip ?_
    refine W_seq ?_
    refine W_block ?_
    refine W_seq ?_
    refine W_reg ?_
    refine L_pu (P_move (.slice A1 n2 c3) rfl) ?_
    refine L_pu (P_move (vi i2) rfl) ?_
    obtain ⟨hb26, H⟩ := H
    obtain ⟨ad27, cs28, hA29, hS32, hR30, hcl31⟩ := h17.get default (by decide) i2 hb26
    obtain rfl := kPair.op hR30
    refine L_pu (P_ia Try.underlying86 se86 A1 ad27 n2 c3 h17.len i2 rfl hA29 rfl hb26) ?_
    refine L_pu (P_fa fa148_0 (ad27.add (i2.toNat * 2)) ((ad27.add (i2.toNat * 2)).add 0) rfl rfl) ?_
    refine L_pu (P_ld ag3 cL ((ad27.add (i2.toNat * 2)).add 0) (vi ((nth p i2).A)) rfl (hcl31 0 _ rfl)) ?_
    refine L_pu (P_move (vi a) rfl) ?_
    refine L_pu (P_cmp ((nth p i2).A) a (((nth p i2).A) == a) rfl rfl rfl) ?_
    refine L_nil ?_
    refine W_cond (((nth p i2).A) == a) rfl (fun hq33 => ?_) (fun hq33 => ?_)
    · have H := ite_t H hq33
      refine W_seq ?_
      refine W_reg ?_
      refine L_pu (P_move (.slice A1 n2 c3) rfl) ?_
      refine L_pu (P_move (vi i2) rfl) ?_
      obtain ⟨hb34, H⟩ := H
      obtain ⟨ad35, cs36, hA37, hS40, hR38, hcl39⟩ := h17.get default (by decide) i2 hb34
      obtain rfl := kPair.op hR38
      refine L_pu (P_ia Try.underlying86 se86 A1 ad35 n2 c3 h17.len i2 rfl hA37 rfl hb34) ?_
      refine L_pu (P_fa fa148_1 (ad35.add (i2.toNat * 2)) ((ad35.add (i2.toNat * 2)).add 1) rfl rfl) ?_
      refine L_pu (P_ld ag3 cL ((ad35.add (i2.toNat * 2)).add 1) (vi ((nth p i2).B)) rfl (hcl39 1 _ rfl)) ?_
      refine L_pu (P_assign (vi ((nth p i2).B)) rfl) ?_
      refine L_nil ?_
      refine W_ret ?_
      exact ⟨[vi ((nth p i2).B)], ⟨_, rfl, rfl⟩, (nth p i2).B, rfl, H, hc16.gr.g0⟩
    · have H := ite_f H hq33
      refine W_skip ?_
      refine W_reg ?_
      refine L_pu (P_move (vi i2) rfl) ?_
      obtain ⟨hb42, H⟩ := H
      have hi41 : I64 (i2 + 1) := i64_succ (of_decide_eq_true hq25) hl24 hb42
      refine L_pu (P_add i2 1 rfl rfl hi41) ?_
      refine L_pu (P_assign (vi (i2 + 1)) rfl) ?_
      refine L_nil ?_
      obtain ⟨hI43, hm44⟩ := H
      exact ⟨i2 + 1, hm44, hI43, ⟨rfl, rfl, rfl, trivial⟩, hc16, h17⟩
  · have H := ite_f H hq25
    refine W_exit (xin_hit ?_)
    refine W_seq ?_
    refine W_reg ?_
    refine L_pu (P_assign (vi (-1)) rfl) ?_
    refine L_nil ?_
    refine W_ret ?_
    exact ⟨[vi (-1)], ⟨_, rfl, rfl⟩, (-1), rfl, H, hc16.gr.g0⟩
end Go.Proofs.Ytndjggncgpjolaa

namespace Go.Proofs.Ytndjggncgpjolaa
set_option linter.unusedVariables false
set_option linter.unusedSimpArgs false
set_option linter.unusedSectionVars false
theorem spec_l5At.law (l : List Pair) (k : Int) (Q : Int → Prop) (hq : Q (mateI l k)) : spec_l5At.E l k Q := by
  unfold spec_l5At.E
  refine ⟨fun i => ∃ u : Nat, i = u ∧ u ≤ l.length ∧ mateI (l.drop u) k = mateI l k, fun i => (l.length - i).toNat, ⟨0, rfl, Nat.zero_le _, rfl⟩, ?_⟩
  rintro _ ⟨u, rfl, hu, he⟩
  by_cases h : (u : Int) < (l.length : Int)
  · rw [if_pos (by simpa using h)]
    rw [drop_nth l (by omega), mateI_cons] at he
    refine ⟨by omega, ?_⟩
    by_cases hc : ((nth l (u : Int)).A == k) = true
    · rw [if_pos hc] at he ⊢
      refine ⟨by omega, ?_⟩
      rw [he]; exact hq
    · rw [if_neg hc] at he ⊢
      exact ⟨by omega, ⟨u + 1, by omega, by omega, he⟩, by dsimp only; omega⟩
  · rw [if_neg (by simpa using h)]
    rw [List.drop_of_length_le (by omega : l.length ≤ u), mateI_nil] at he
    rw [he]; exact hq
end Go.Proofs.Ytndjggncgpjolaa

namespace Go.Proofs.Ytndjggncgpjolaa
open Go.RowKit
set_option linter.unusedVariables false
def spec_l1Same.E (a : List Pt) (b : List Pt) (Q : Bool → Prop) : Prop :=
  (if (a.length : Int) != (b.length : Int) then Q false else (∃ (I32 : Int → Prop) (mu33 : Int → Nat), I32 0 ∧ ∀ (i2 : Int), I32 i2 → (if decide (i2 < (a.length : Int)) then ((0 : Int) ≤ i2 ∧ i2 < (a.length : Int)) ∧ ((0 : Int) ≤ i2 ∧ i2 < (b.length : Int)) ∧ (if !(eqPt (nth a i2) (nth b i2)) then Q false else (-9223372036854775808 ≤ i2) ∧ I32 (i2 + 1) ∧ mu33 (i2 + 1) < mu33 i2) else Q true)))
set_option maxHeartbeats 8000000 in
set_option maxRecDepth 100000 in
theorem spec_l1Same.calls {O : Ob} (w0 : World) (hO : Ok w0 O) (a : List Pt) (A1 : Option Addr) (n2 c3 : Nat) (hp4 : Sl kPt w0 (Fr O) (.slice A1 n2 c3) a) (b : List Pt) (A6 : Option Addr) (n7 c8 : Nat) (hp9 : Sl kPt w0 (Fr O) (.slice A6 n7 c8) b) (Q : Bool → Prop) (h : spec_l1Same.E a b Q) :
    Ret Try.prog 147 [.slice A1 n2 c3, .slice A6 n7 c8] w0 (fun v w' => ∃ (r0 : Bool), v = vb r0 ∧ Q r0 ∧ Gr w0 w' none) := by
  have H : (if (a.length : Int) != (b.length : Int) then Q false else (∃ (I32 : Int → Prop) (mu33 : Int → Nat), I32 0 ∧ ∀ (i2 : Int), I32 i2 → (if decide (i2 < (a.length : Int)) then ((0 : Int) ≤ i2 ∧ i2 < (a.length : Int)) ∧ ((0 : Int) ≤ i2 ∧ i2 < (b.length : Int)) ∧ (if !(eqPt (nth a i2) (nth b i2)) then Q false else (-9223372036854775808 ≤ i2) ∧ I32 (i2 + 1) ∧ mu33 (i2 + 1) < mu33 i2) else Q true))) := h
  clear h
  have hc0 := Ct.init hO
  refine Ret_enter Try.func147 rfl 26 rfl [.tmp 4] rfl rfl ?_
  refine W_seq ?_
  refine W_reg ?_
  refine L_pu (P_assign (vb false) rfl) ?_
  refine L_nil ?_
  refine W_seq ?_
  refine W_seq ?_
  refine W_reg ?_
  refine L_pu (P_move (.slice A1 n2 c3) rfl) ?_
  have hl11 := hp4.le
  refine L_pu (P_len Try.underlying23 A1 n2 c3 hp4.len rfl) ?_
  refine L_pu (P_move (.slice A6 n7 c8) rfl) ?_
  have hl12 := hp9.le
  refine L_pu (P_len Try.underlying23 A6 n7 c8 hp9.len rfl) ?_
  refine L_pu (P_cmp (a.length : Int) (b.length : Int) ((a.length : Int) != (b.length : Int)) rfl rfl rfl) ?_
  refine L_nil ?_
  refine W_cond ((a.length : Int) != (b.length : Int)) rfl (fun hq13 => ?_) (fun hq13 => ?_)
  · have H := ite_t H hq13
    refine W_seq ?_
    refine W_reg ?_
    refine L_pu (P_assign (vb false) rfl) ?_
    refine L_nil ?_
    refine W_ret ?_
    exact ⟨[vb false], ⟨_, rfl, rfl⟩, false, rfl, H, hc0.gr.g0⟩
  · have H := ite_f H hq13
    refine W_skip ?_
    refine W_seq ?_
    refine W_seq ?_
    refine W_reg ?_
    refine L_pu (P_assign (vi 0) rfl) ?_
    refine L_nil ?_
    refine W_block ?_
    obtain ⟨I32, mu33, hI34, H⟩ := H
    refine W_loop (α := Int) (fun (sv__ : Int) t w26 => match sv__ with | i2 => I32 i2 ∧ Has t [(0, .slice A1 n2 c3), (1, .slice A6 n7 c8), (5, vi i2)] ∧ Ct [] w0 w26 [] O ∧ Sl kPt w26 (Fr ([] ++ O)) (.slice A1 n2 c3) a ∧ Sl kPt w26 (Fr ([] ++ O)) (.slice A6 n7 c8) b) (fun (sv__ : Int) => match sv__ with | i2 => mu33 i2) 0 ⟨hI34, ⟨rfl, rfl, rfl, trivial⟩, hc0, hp4, hp9⟩ ?_
    rintro i2 _ w26 ⟨hI34, hh36, hc29, h30, h31⟩
    obtain ⟨u37, rfl⟩ := Has.ins hh36
    have H := H i2 hI34
    refine W_seq ?_
    refine W_seq ?_
    refine W_reg ?_
    refine L_pu (P_move (vi i2) rfl) ?_
    refine L_pu (P_move (.slice A1 n2 c3) rfl) ?_
    have hl38 := h30.le
    refine L_pu (P_len Try.underlying23 A1 n2 c3 h30.len rfl) ?_
    refine L_pu (P_cmp i2 (a.length : Int) (decide (i2 < (a.length : Int))) rfl rfl rfl) ?_
    refine L_nil ?_
    refine W_cond (decide (i2 < (a.length : Int))) rfl (fun hq39 => ?_) (fun hq39 => ?_)
    · have H := ite_t H hq39
      refine W_skip ?_
      refine W_seq ?_
      refine W_block ?_
      refine W_seq ?_
      refine W_draw (fun x => Gr w26 x none) (by kernel_rfl) (by kernel_rfl) (Gr.drew _) ?_
      refine Q_pu (P_move (.slice A1 n2 c3) rfl) ?_
      refine Q_pu (P_move (vi i2) rfl) ?_
      obtain ⟨hb40, H⟩ := H
      obtain ⟨ad41, cs42, hA43, hS46, hR44, hcl45⟩ := h30.get default (by decide) i2 hb40
      obtain rfl := kPt.op hR44
      refine Q_pu (P_ia Try.underlying23 se23 A1 ad41 n2 c3 h30.len i2 rfl hA43 rfl hb40) ?_
      refine Q_pu (P_lda ag29 sz29 cQ (ad41.add (i2.toNat * 2)) [vi ((nth a i2).X), vi ((nth a i2).Y)] rfl rfl hcl45) ?_
      refine Q_pu (P_move (.slice A6 n7 c8) rfl) ?_
      refine Q_pu (P_move (vi i2) rfl) ?_
      obtain ⟨hb47, H⟩ := H
      obtain ⟨ad48, cs49, hA50, hS53, hR51, hcl52⟩ := h31.get default (by decide) i2 hb47
      obtain rfl := kPt.op hR51
      refine Q_pu (P_ia Try.underlying23 se23 A6 ad48 n7 c8 h31.len i2 rfl hA50 rfl hb47) ?_
      refine Q_pu (P_lda ag29 sz29 cQ (ad48.add (i2.toNat * 2)) [vi ((nth b i2).X), vi ((nth b i2).Y)] rfl rfl hcl52) ?_
      refine Q_pu (P_ne _ _ (eqPt (nth a i2) (nth b i2)) (qt29 (nth a i2) (nth b i2)) rfl rfl) ?_
      refine Q_nil fun w54 g55 => ?_
      have hc57 := hc29.k0 g55
      refine W_cond (!(eqPt (nth a i2) (nth b i2))) rfl (fun hq58 => ?_) (fun hq58 => ?_)
      · have H := ite_t H hq58
        refine W_seq ?_
        refine W_reg ?_
        refine L_pu (P_assign (vb false) rfl) ?_
        refine L_nil ?_
        refine W_ret ?_
        exact ⟨[vb false], ⟨_, rfl, rfl⟩, false, rfl, H, hc57.gr.g0⟩
      · have H := ite_f H hq58
        refine W_skip ?_
        refine W_reg ?_
        refine L_pu (P_move (vi i2) rfl) ?_
        obtain ⟨hb60, H⟩ := H
        have hi59 : I64 (i2 + 1) := i64_succ (of_decide_eq_true hq39) hl38 hb60
        refine L_pu (P_add i2 1 rfl rfl hi59) ?_
        refine L_pu (P_assign (vi (i2 + 1)) rfl) ?_
        refine L_nil ?_
        obtain ⟨hI61, hm62⟩ := H
        exact ⟨i2 + 1, hm62, hI61, ⟨rfl, rfl, rfl, trivial⟩, hc57, (h30.st (.new _ g55)), (h31.st (.new _ g55))⟩
    · have H := ite_f H hq39
      refine W_exit (xin_hit ?_)
      refine W_seq ?_
      refine W_reg ?_
      refine L_pu (P_assign (vb true) rfl) ?_
      refine L_nil ?_
      refine W_ret ?_
      exact ⟨[vb true], ⟨_, rfl, rfl⟩, true, rfl, H, hc29.gr.g0⟩
end Go.Proofs.Ytndjggncgpjolaa

namespace Go.Proofs.Ytndjggncgpjolaa
set_option linter.unusedVariables false
set_option linter.unusedSimpArgs false
set_option linter.unusedSectionVars false
theorem spec_l1Same.law (a b : List Pt) (Q : Bool → Prop) (hq : Q (decide (a = b))) : spec_l1Same.E a b Q := by
  unfold spec_l1Same.E
  exact eqS_shape eqPt eqPt_is a b Q hq
end Go.Proofs.Ytndjggncgpjolaa

namespace Go.Proofs.Ytndjggncgpjolaa
open Go.RowKit
set_option linter.unusedVariables false
def spec_l5Pick.E (o : List Pt) (a : List Pt) (b : List Pt) (Q : List Pt → Bool → Prop) : Prop :=
  spec_l1Same.E a o (fun r => (if r then Q b true else spec_l1Same.E b o (fun r2 => (if r2 then Q a true else spec_l1Same.E a b (fun r3 => (if r3 then Q a true else Q [] false))))))
set_option maxHeartbeats 8000000 in
set_option maxRecDepth 100000 in
theorem spec_l5Pick.calls {O : Ob} (w0 : World) (hO : Ok w0 O) (o : List Pt) (A1 : Option Addr) (n2 c3 : Nat) (hp4 : Sl kPt w0 (Fr O) (.slice A1 n2 c3) o) (a : List Pt) (A6 : Option Addr) (n7 c8 : Nat) (hp9 : Sl kPt w0 (Fr O) (.slice A6 n7 c8) a) (b : List Pt) (A11 : Option Addr) (n12 c13 : Nat) (hp14 : Sl kPt w0 (Fr O) (.slice A11 n12 c13) b) (Q : List Pt → Bool → Prop) (h : spec_l5Pick.E o a b Q) :
    Ret Try.prog 111 [.slice A1 n2 c3, .slice A6 n7 c8, .slice A11 n12 c13] w0 (fun v w' => ∃ (r0 : List Pt) (r1 : Bool) (A0 : Option Addr) (n0 c0 : Nat), v = .tuple #[.slice A0 n0 c0, vb r1] ∧ Q r0 r1 ∧ Gr w0 w' none ∧ Sl kPt w' (Fr O) (.slice A0 n0 c0) r0) := by
  have H : spec_l1Same.E a o (fun r => (if r then Q b true else spec_l1Same.E b o (fun r2 => (if r2 then Q a true else spec_l1Same.E a b (fun r3 => (if r3 then Q a true else Q [] false)))))) := h
  clear h
  have hc0 := Ct.init hO
  refine Ret_enter Try.func111 rfl 23 rfl [.tmp 6, .tmp 7] rfl rfl ?_
  refine W_seq ?_
  refine W_reg ?_
  refine L_pu (P_assign (.slice none 0 0) rfl) ?_
  refine L_pu (P_assign (vb false) rfl) ?_
  refine L_nil ?_
  refine W_seq ?_
  refine W_block ?_
  refine W_seq ?_
  refine W_reg ?_
  refine L_pu (P_move (.slice A6 n7 c8) rfl) ?_
  refine L_pu (P_move (.slice A1 n2 c3) rfl) ?_
  refine L_call go147 [.slice A6 n7 c8, .slice A1 n2 c3] rfl ((spec_l1Same.calls w0 hc0.ok a A6 n7 c8 hp9 o A1 n2 c3 hp4 _ H).mono ?_)
  rintro _ w16 ⟨r, rfl, H, g17⟩
  have hc21 := hc0.k0 g17
  refine L_pu (P_assign (vb r) rfl) ?_
  refine L_nil ?_
  refine W_cond r rfl (fun hq22 => ?_) (fun hq22 => ?_)
  · have H := ite_t H hq22
    refine W_seq ?_
    refine W_reg ?_
    refine L_pu (P_move (.slice A11 n12 c13) rfl) ?_
    refine L_pu (P_assign (.slice A11 n12 c13) rfl) ?_
    refine L_pu (P_assign (vb true) rfl) ?_
    refine L_nil ?_
    refine W_ret ?_
    exact ⟨[.slice A11 n12 c13, vb true], ⟨_, rfl, ⟨_, rfl, rfl⟩⟩, b, true, A11, n12, c13, rfl, H, hc21.gr.g0, (hp14.st hc21.st)⟩
  · have H := ite_f H hq22
    refine W_seq ?_
    refine W_reg ?_
    refine L_pu (P_move (.slice A11 n12 c13) rfl) ?_
    refine L_pu (P_move (.slice A1 n2 c3) rfl) ?_
    refine L_call go147 [.slice A11 n12 c13, .slice A1 n2 c3] rfl ((spec_l1Same.calls w16 hc21.ok b A11 n12 c13 (hp14.st hc21.st) o A1 n2 c3 (hp4.st hc21.st) _ H).mono ?_)
    rintro _ w23 ⟨r2, rfl, H, g24⟩
    have hc28 := hc21.k0 g24
    refine L_pu (P_assign (vb r2) rfl) ?_
    refine L_nil ?_
    refine W_cond r2 rfl (fun hq29 => ?_) (fun hq29 => ?_)
    · have H := ite_t H hq29
      refine W_seq ?_
      refine W_reg ?_
      refine L_pu (P_move (.slice A6 n7 c8) rfl) ?_
      refine L_pu (P_assign (.slice A6 n7 c8) rfl) ?_
      refine L_pu (P_assign (vb true) rfl) ?_
      refine L_nil ?_
      refine W_ret ?_
      exact ⟨[.slice A6 n7 c8, vb true], ⟨_, rfl, ⟨_, rfl, rfl⟩⟩, a, true, A6, n7, c8, rfl, H, hc28.gr.g0, (hp9.st hc28.st)⟩
    · have H := ite_f H hq29
      refine W_seq ?_
      refine W_reg ?_
      refine L_pu (P_move (.slice A6 n7 c8) rfl) ?_
      refine L_pu (P_move (.slice A11 n12 c13) rfl) ?_
      refine L_call go147 [.slice A6 n7 c8, .slice A11 n12 c13] rfl ((spec_l1Same.calls w23 hc28.ok a A6 n7 c8 (hp9.st hc28.st) b A11 n12 c13 (hp14.st hc28.st) _ H).mono ?_)
      rintro _ w30 ⟨r3, rfl, H, g31⟩
      have hc35 := hc28.k0 g31
      refine L_pu (P_assign (vb r3) rfl) ?_
      refine L_nil ?_
      refine W_cond r3 rfl (fun hq36 => ?_) (fun hq36 => ?_)
      · have H := ite_t H hq36
        refine W_seq ?_
        refine W_reg ?_
        refine L_pu (P_move (.slice A6 n7 c8) rfl) ?_
        refine L_pu (P_assign (.slice A6 n7 c8) rfl) ?_
        refine L_pu (P_assign (vb true) rfl) ?_
        refine L_nil ?_
        refine W_ret ?_
        exact ⟨[.slice A6 n7 c8, vb true], ⟨_, rfl, ⟨_, rfl, rfl⟩⟩, a, true, A6, n7, c8, rfl, H, hc35.gr.g0, (hp9.st hc35.st)⟩
      · have H := ite_f H hq36
        refine W_skip ?_
        refine W_seq ?_
        refine W_reg ?_
        refine L_pu (P_assign (.slice none 0 0) rfl) ?_
        refine L_pu (P_assign (vb false) rfl) ?_
        refine L_nil ?_
        refine W_ret ?_
        exact ⟨[.slice none 0 0, vb false], ⟨_, rfl, ⟨_, rfl, rfl⟩⟩, [], false, none, 0, 0, rfl, H, hc35.gr.g0, (Sl.nil _ _ _ none 0 (by decide))⟩
end Go.Proofs.Ytndjggncgpjolaa

namespace Go.Proofs.Ytndjggncgpjolaa
set_option linter.unusedVariables false
set_option linter.unusedSimpArgs false
set_option linter.unusedSectionVars false
theorem spec_l5Pick.law (o a b : List Pt) (Q : List Pt → Bool → Prop) (hs : ∀ r, pickL o a b = some r → Q r true) (hn : pickL o a b = none → Q [] false) : spec_l5Pick.E o a b Q := by
  unfold spec_l5Pick.E
  unfold pickL at hs hn
  refine spec_l1Same.law _ _ _ ?_
  by_cases h1 : a = o
  · rw [if_pos (by simpa using h1)]
    rw [if_pos h1] at hs; exact hs _ rfl
  rw [if_neg (by simpa using h1)]
  rw [if_neg h1] at hs hn
  refine spec_l1Same.law _ _ _ ?_
  by_cases h2 : b = o
  · rw [if_pos (by simpa using h2)]
    rw [if_pos h2] at hs; exact hs _ rfl
  rw [if_neg (by simpa using h2)]
  rw [if_neg h2] at hs hn
  refine spec_l1Same.law _ _ _ ?_
  by_cases h3 : a = b
  · rw [if_pos (by simpa using h3)]
    rw [if_pos h3] at hs; exact hs _ rfl
  · rw [if_neg (by simpa using h3)]
    rw [if_neg h3] at hn; exact hn rfl
end Go.Proofs.Ytndjggncgpjolaa

namespace Go.Proofs.Ytndjggncgpjolaa
open Go.RowKit
set_option linter.unusedVariables false
def spec_l5Merge.E (base_ : List Pt) (a : List Pt) (b : List Pt) (Q : List Pt → Bool → Prop) : Prop :=
  spec_SeqPairs.E base_ a (fun r => spec_SeqPairs.E base_ b (fun r2 => (∃ (I95 : (List Pt) → Int → Int → Int → Int → Prop) (mu96 : (List Pt) → Int → Int → Int → Int → Nat), I95 ([] : List Pt) 0 0 0 0 ∧ ∀ (xs2 : List Pt) (o2 : Int) (x2 : Int) (y2 : Int) (i2 : Int), I95 xs2 o2 x2 y2 i2 → (if decide (i2 ≤ (base_.length : Int)) then (if decide (i2 < (base_.length : Int)) then spec_l5At.E r i2 (fun r3 => spec_l5At.E r2 i2 (fun r4 => (if decide (r3 < 0) then (-9223372036854775808 ≤ i2) ∧ I95 xs2 o2 x2 y2 (i2 + 1) ∧ mu96 xs2 o2 x2 y2 (i2 + 1) < mu96 xs2 o2 x2 y2 i2 else (if decide (r4 < 0) then (-9223372036854775808 ≤ i2) ∧ I95 xs2 o2 x2 y2 (i2 + 1) ∧ mu96 xs2 o2 x2 y2 (i2 + 1) < mu96 xs2 o2 x2 y2 i2 else ((0 : Int) ≤ o2 ∧ (o2 : Int) ≤ i2 ∧ i2 ≤ (base_.length : Int)) ∧ ((0 : Int) ≤ x2 ∧ (x2 : Int) ≤ r3 ∧ r3 ≤ (a.length : Int)) ∧ ((0 : Int) ≤ y2 ∧ (y2 : Int) ≤ r4 ∧ r4 ≤ (b.length : Int)) ∧ spec_l5Pick.E ((base_.drop o2.toNat).take (i2.toNat - o2.toNat)) ((a.drop x2.toNat).take (r3.toNat - x2.toNat)) ((b.drop y2.toNat).take (r4.toNat - y2.toNat)) (fun r5 r6 => (if !r6 then Q ([] : List Pt) false else (xs2.length + r5.length ≤ 268435456) ∧ ((0 : Int) ≤ i2 ∧ i2 < (base_.length : Int)) ∧ ((xs2 ++ r5).length + ([(nth base_ i2)] : List Pt).length ≤ 268435456) ∧ (-9223372036854775808 ≤ i2) ∧ ((base_.length : Int) ≤ 9223372036854775807 → (a.length : Int) ≤ 9223372036854775807 → (b.length : Int) ≤ 9223372036854775807 → I64 (r3 + 1)) ∧ ((base_.length : Int) ≤ 9223372036854775807 → (a.length : Int) ≤ 9223372036854775807 → (b.length : Int) ≤ 9223372036854775807 → I64 (r4 + 1)) ∧ (-9223372036854775808 ≤ i2) ∧ I95 ((xs2 ++ r5) ++ ([(nth base_ i2)] : List Pt)) (i2 + 1) (r3 + 1) (r4 + 1) (i2 + 1) ∧ mu96 ((xs2 ++ r5) ++ ([(nth base_ i2)] : List Pt)) (i2 + 1) (r3 + 1) (r4 + 1) (i2 + 1) < mu96 xs2 o2 x2 y2 i2)))))) else ((0 : Int) ≤ o2 ∧ (o2 : Int) ≤ i2 ∧ i2 ≤ (base_.length : Int)) ∧ ((0 : Int) ≤ x2 ∧ (x2 : Int) ≤ (a.length : Int) ∧ (a.length : Int) ≤ (a.length : Int)) ∧ ((0 : Int) ≤ y2 ∧ (y2 : Int) ≤ (b.length : Int) ∧ (b.length : Int) ≤ (b.length : Int)) ∧ spec_l5Pick.E ((base_.drop o2.toNat).take (i2.toNat - o2.toNat)) ((a.drop x2.toNat).take ((a.length : Int).toNat - x2.toNat)) ((b.drop y2.toNat).take ((b.length : Int).toNat - y2.toNat)) (fun r7 r8 => (if !r8 then Q ([] : List Pt) false else (xs2.length + r7.length ≤ 268435456) ∧ ((base_.length : Int) ≤ 9223372036854775807 → (a.length : Int) ≤ 9223372036854775807 → (b.length : Int) ≤ 9223372036854775807 → I64 (i2 + 1)) ∧ ((base_.length : Int) ≤ 9223372036854775807 → (a.length : Int) ≤ 9223372036854775807 → (b.length : Int) ≤ 9223372036854775807 → I64 ((a.length : Int) + 1)) ∧ ((base_.length : Int) ≤ 9223372036854775807 → (a.length : Int) ≤ 9223372036854775807 → (b.length : Int) ≤ 9223372036854775807 → I64 ((b.length : Int) + 1)) ∧ ((base_.length : Int) ≤ 9223372036854775807 → (a.length : Int) ≤ 9223372036854775807 → (b.length : Int) ≤ 9223372036854775807 → I64 (i2 + 1)) ∧ I95 (xs2 ++ r7) (i2 + 1) ((a.length : Int) + 1) ((b.length : Int) + 1) (i2 + 1) ∧ mu96 (xs2 ++ r7) (i2 + 1) ((a.length : Int) + 1) ((b.length : Int) + 1) (i2 + 1) < mu96 xs2 o2 x2 y2 i2))) else Q xs2 true))))
set_option maxHeartbeats 8000000 in
set_option maxRecDepth 100000 in
theorem spec_l5Merge.calls {O : Ob} (w0 : World) (hO : Ok w0 O) (base_ : List Pt) (A1 : Option Addr) (n2 c3 : Nat) (hp4 : Sl kPt w0 (Fr O) (.slice A1 n2 c3) base_) (a : List Pt) (A6 : Option Addr) (n7 c8 : Nat) (hp9 : Sl kPt w0 (Fr O) (.slice A6 n7 c8) a) (b : List Pt) (A11 : Option Addr) (n12 c13 : Nat) (hp14 : Sl kPt w0 (Fr O) (.slice A11 n12 c13) b) (Q : List Pt → Bool → Prop) (h : spec_l5Merge.E base_ a b Q) :
    Ret Try.prog 51 [.slice A1 n2 c3, .slice A6 n7 c8, .slice A11 n12 c13] w0 (fun v w' => ∃ (r0 : List Pt) (r1 : Bool) (A0 : Option Addr) (n0 c0 : Nat), v = .tuple #[.slice A0 n0 c0, vb r1] ∧ Q r0 r1 ∧ Gr w0 w' none ∧ Ok w' ([blk (.slice A0 n0 c0)] ++ O) ∧ (∀ b, some b ∈ [blk (.slice A0 n0 c0)] → w0.heap.size ≤ b) ∧ Ow kPt 29 w' ([blk (.slice A0 n0 c0)] ++ O) (.slice A0 n0 c0) r0) := by
  have H : spec_SeqPairs.E base_ a (fun r => spec_SeqPairs.E base_ b (fun r2 => (∃ (I95 : (List Pt) → Int → Int → Int → Int → Prop) (mu96 : (List Pt) → Int → Int → Int → Int → Nat), I95 ([] : List Pt) 0 0 0 0 ∧ ∀ (xs2 : List Pt) (o2 : Int) (x2 : Int) (y2 : Int) (i2 : Int), I95 xs2 o2 x2 y2 i2 → (if decide (i2 ≤ (base_.length : Int)) then (if decide (i2 < (base_.length : Int)) then spec_l5At.E r i2 (fun r3 => spec_l5At.E r2 i2 (fun r4 => (if decide (r3 < 0) then (-9223372036854775808 ≤ i2) ∧ I95 xs2 o2 x2 y2 (i2 + 1) ∧ mu96 xs2 o2 x2 y2 (i2 + 1) < mu96 xs2 o2 x2 y2 i2 else (if decide (r4 < 0) then (-9223372036854775808 ≤ i2) ∧ I95 xs2 o2 x2 y2 (i2 + 1) ∧ mu96 xs2 o2 x2 y2 (i2 + 1) < mu96 xs2 o2 x2 y2 i2 else ((0 : Int) ≤ o2 ∧ (o2 : Int) ≤ i2 ∧ i2 ≤ (base_.length : Int)) ∧ ((0 : Int) ≤ x2 ∧ (x2 : Int) ≤ r3 ∧ r3 ≤ (a.length : Int)) ∧ ((0 : Int) ≤ y2 ∧ (y2 : Int) ≤ r4 ∧ r4 ≤ (b.length : Int)) ∧ spec_l5Pick.E ((base_.drop o2.toNat).take (i2.toNat - o2.toNat)) ((a.drop x2.toNat).take (r3.toNat - x2.toNat)) ((b.drop y2.toNat).take (r4.toNat - y2.toNat)) (fun r5 r6 => (if !r6 then Q ([] : List Pt) false else (xs2.length + r5.length ≤ 268435456) ∧ ((0 : Int) ≤ i2 ∧ i2 < (base_.length : Int)) ∧ ((xs2 ++ r5).length + ([(nth base_ i2)] : List Pt).length ≤ 268435456) ∧ (-9223372036854775808 ≤ i2) ∧ ((base_.length : Int) ≤ 9223372036854775807 → (a.length : Int) ≤ 9223372036854775807 → (b.length : Int) ≤ 9223372036854775807 → I64 (r3 + 1)) ∧ ((base_.length : Int) ≤ 9223372036854775807 → (a.length : Int) ≤ 9223372036854775807 → (b.length : Int) ≤ 9223372036854775807 → I64 (r4 + 1)) ∧ (-9223372036854775808 ≤ i2) ∧ I95 ((xs2 ++ r5) ++ ([(nth base_ i2)] : List Pt)) (i2 + 1) (r3 + 1) (r4 + 1) (i2 + 1) ∧ mu96 ((xs2 ++ r5) ++ ([(nth base_ i2)] : List Pt)) (i2 + 1) (r3 + 1) (r4 + 1) (i2 + 1) < mu96 xs2 o2 x2 y2 i2)))))) else ((0 : Int) ≤ o2 ∧ (o2 : Int) ≤ i2 ∧ i2 ≤ (base_.length : Int)) ∧ ((0 : Int) ≤ x2 ∧ (x2 : Int) ≤ (a.length : Int) ∧ (a.length : Int) ≤ (a.length : Int)) ∧ ((0 : Int) ≤ y2 ∧ (y2 : Int) ≤ (b.length : Int) ∧ (b.length : Int) ≤ (b.length : Int)) ∧ spec_l5Pick.E ((base_.drop o2.toNat).take (i2.toNat - o2.toNat)) ((a.drop x2.toNat).take ((a.length : Int).toNat - x2.toNat)) ((b.drop y2.toNat).take ((b.length : Int).toNat - y2.toNat)) (fun r7 r8 => (if !r8 then Q ([] : List Pt) false else (xs2.length + r7.length ≤ 268435456) ∧ ((base_.length : Int) ≤ 9223372036854775807 → (a.length : Int) ≤ 9223372036854775807 → (b.length : Int) ≤ 9223372036854775807 → I64 (i2 + 1)) ∧ ((base_.length : Int) ≤ 9223372036854775807 → (a.length : Int) ≤ 9223372036854775807 → (b.length : Int) ≤ 9223372036854775807 → I64 ((a.length : Int) + 1)) ∧ ((base_.length : Int) ≤ 9223372036854775807 → (a.length : Int) ≤ 9223372036854775807 → (b.length : Int) ≤ 9223372036854775807 → I64 ((b.length : Int) + 1)) ∧ ((base_.length : Int) ≤ 9223372036854775807 → (a.length : Int) ≤ 9223372036854775807 → (b.length : Int) ≤ 9223372036854775807 → I64 (i2 + 1)) ∧ I95 (xs2 ++ r7) (i2 + 1) ((a.length : Int) + 1) ((b.length : Int) + 1) (i2 + 1) ∧ mu96 (xs2 ++ r7) (i2 + 1) ((a.length : Int) + 1) ((b.length : Int) + 1) (i2 + 1) < mu96 xs2 o2 x2 y2 i2))) else Q xs2 true)))) := h
  clear h
  have hc0 := Ct.init hO
  refine Ret_enter Try.func51 rfl 91 rfl [.tmp 6, .tmp 7] rfl rfl ?_
  refine W_seq ?_
  refine W_reg ?_
  refine L_pu (P_assign (.slice none 0 0) rfl) ?_
  refine L_pu (P_assign (vb false) rfl) ?_
  refine L_nil ?_
  refine W_seq ?_
  refine W_reg ?_
  refine L_pu (P_move (.slice A1 n2 c3) rfl) ?_
  refine L_pu (P_move (.slice A6 n7 c8) rfl) ?_
  refine L_call go109 [.slice A1 n2 c3, .slice A6 n7 c8] rfl ((spec_SeqPairs.calls w0 hc0.ok base_ A1 n2 c3 hp4 a A6 n7 c8 hp9 _ H).mono ?_)
  rintro _ w16 ⟨r, A18, n19, c20, rfl, H, g17, hk24, hk25, h21⟩
  have hc26 := hc0.owns g17 hk24 hk25
  refine L_pu (P_assign (.slice A18 n19 c20) rfl) ?_
  refine L_nil ?_
  refine W_seq ?_
  refine W_reg ?_
  refine L_pu (P_move (.slice A1 n2 c3) rfl) ?_
  refine L_pu (P_move (.slice A11 n12 c13) rfl) ?_
  refine L_call go109 [.slice A1 n2 c3, .slice A11 n12 c13] rfl ((spec_SeqPairs.calls w16 hc26.ok base_ A1 n2 c3 (hp4.st hc26.st) b A11 n12 c13 (hp14.st hc26.st) _ H).mono ?_)
  rintro _ w27 ⟨r2, A29, n30, c31, rfl, H, g28, hk35, hk36, h32⟩
  have hc37 := hc26.owns g28 hk35 hk36
  refine L_pu (P_assign (.slice A29 n30 c31) rfl) ?_
  refine L_nil ?_
  refine W_seq ?_
  refine W_reg ?_
  refine L_lit (kd := kPt) ei23 hc37 ([] : List Pt) (cells := []) rfl (fun _ => by kernel_rfl) fun w38 A39 n40 c41 g42 hr43 hc44 h45 => ?_
  refine L_pu (P_assign (.slice A39 n40 c41) rfl) ?_
  refine L_nil ?_
  refine W_seq ?_
  refine W_reg ?_
  refine L_pu (P_assign (vi 0) rfl) ?_
  refine L_nil ?_
  refine W_seq ?_
  refine W_reg ?_
  refine L_pu (P_assign (vi 0) rfl) ?_
  refine L_nil ?_
  refine W_seq ?_
  refine W_reg ?_
  refine L_pu (P_assign (vi 0) rfl) ?_
  refine L_nil ?_
  refine W_seq ?_
  refine W_seq ?_
  refine W_reg ?_
  refine L_pu (P_assign (vi 0) rfl) ?_
  refine L_nil ?_
  refine W_block ?_
  obtain ⟨I95, mu96, hI97, H⟩ := H
  have h99 := ((h21.sos g28 hk36).so _ g42 hr43)
  have h100 := (h32.so _ g42 hr43)
  refine W_loop (α := (List Pt) × (Option Addr) × Nat × Nat × Int × Int × Int × Int) (fun (sv__ : (List Pt) × (Option Addr) × Nat × Nat × Int × Int × Int × Int) t w78 => match sv__ with | (xs2, A84, n85, c86, o2, x2, y2, i2) => I95 xs2 o2 x2 y2 i2 ∧ Has t [(0, .slice A1 n2 c3), (1, .slice A6 n7 c8), (2, .slice A11 n12 c13), (8, .slice A18 n19 c20), (9, .slice A29 n30 c31), (10, .slice A84 n85 c86), (11, vi o2), (12, vi x2), (13, vi y2), (14, vi i2)] ∧ Ct [] w0 w78 [blk (.slice A84 n85 c86), blk (.slice A29 n30 c31), blk (.slice A18 n19 c20)] O ∧ Sl kPt w78 (Fr ([blk (.slice A84 n85 c86), blk (.slice A29 n30 c31), blk (.slice A18 n19 c20)] ++ O)) (.slice A1 n2 c3) base_ ∧ Sl kPt w78 (Fr ([blk (.slice A84 n85 c86), blk (.slice A29 n30 c31), blk (.slice A18 n19 c20)] ++ O)) (.slice A6 n7 c8) a ∧ Sl kPt w78 (Fr ([blk (.slice A84 n85 c86), blk (.slice A29 n30 c31), blk (.slice A18 n19 c20)] ++ O)) (.slice A11 n12 c13) b ∧ Ow kPair 148 w78 ([blk (.slice A84 n85 c86), blk (.slice A29 n30 c31), blk (.slice A18 n19 c20)] ++ O) (.slice A18 n19 c20) r ∧ Ow kPair 148 w78 ([blk (.slice A84 n85 c86), blk (.slice A29 n30 c31), blk (.slice A18 n19 c20)] ++ O) (.slice A29 n30 c31) r2 ∧ Ow kPt 29 w78 ([blk (.slice A84 n85 c86), blk (.slice A29 n30 c31), blk (.slice A18 n19 c20)] ++ O) (.slice A84 n85 c86) xs2) (fun (sv__ : (List Pt) × (Option Addr) × Nat × Nat × Int × Int × Int × Int) => match sv__ with | (xs2, _, _, _, o2, x2, y2, i2) => mu96 xs2 o2 x2 y2 i2) (([] : List Pt), A39, n40, c41, 0, 0, 0, 0) ⟨hI97, ⟨rfl, rfl, rfl, rfl, rfl, rfl, rfl, rfl, rfl, rfl, trivial⟩, hc44, (hp4.st hc44.st), (hp9.st hc44.st), (hp14.st hc44.st), h99, h100, h45⟩ ?_
  rintro ⟨xs2, A84, n85, c86, o2, x2, y2, i2⟩ _ w78 ⟨hI97, hh101, hc88, h89, h90, h91, h92, h93, h94⟩
  obtain ⟨u102, rfl⟩ := Has.ins hh101
  have H := H xs2 o2 x2 y2 i2 hI97
  refine W_seq ?_
  refine W_seq ?_
  refine W_reg ?_
  refine L_pu (P_move (vi i2) rfl) ?_
  refine L_pu (P_move (.slice A1 n2 c3) rfl) ?_
  have hl103 := h89.le
  refine L_pu (P_len Try.underlying23 A1 n2 c3 h89.len rfl) ?_
  refine L_pu (P_cmp i2 (base_.length : Int) (decide (i2 ≤ (base_.length : Int))) rfl rfl rfl) ?_
  refine L_nil ?_
  refine W_cond (decide (i2 ≤ (base_.length : Int))) rfl (fun hq104 => ?_) (fun hq104 => ?_)
  · have H := ite_t H hq104
    refine W_skip ?_
    refine W_seq ?_
    refine W_block ?_
    refine W_seq ?_
    refine W_reg ?_
    refine L_pu (P_move (.slice A6 n7 c8) rfl) ?_
    have hl105 := h90.le
    refine L_pu (P_len Try.underlying23 A6 n7 c8 h90.len rfl) ?_
    refine L_pu (P_assign (vi (a.length : Int)) rfl) ?_
    refine L_nil ?_
    refine W_seq ?_
    refine W_reg ?_
    refine L_pu (P_move (.slice A11 n12 c13) rfl) ?_
    have hl106 := h91.le
    refine L_pu (P_len Try.underlying23 A11 n12 c13 h91.len rfl) ?_
    refine L_pu (P_assign (vi (b.length : Int)) rfl) ?_
    refine L_nil ?_
    refine W_seq ?_
    refine W_seq ?_
    refine W_reg ?_
    refine L_pu (P_move (vi i2) rfl) ?_
    refine L_pu (P_move (.slice A1 n2 c3) rfl) ?_
    refine L_pu (P_len Try.underlying23 A1 n2 c3 h89.len rfl) ?_
    refine L_pu (P_cmp i2 (base_.length : Int) (decide (i2 < (base_.length : Int))) rfl rfl rfl) ?_
    refine L_nil ?_
    refine W_cond (decide (i2 < (base_.length : Int))) rfl (fun hq107 => ?_) (fun hq107 => ?_)
    · have H := ite_t H hq107
      refine W_seq ?_
      refine W_reg ?_
      refine L_pu (P_move (.slice A18 n19 c20) rfl) ?_
      refine L_pu (P_move (vi i2) rfl) ?_
      have h108 := Ow.gv (L := [blk (.slice A84 n85 c86), blk (.slice A29 n30 c31), blk (.slice A18 n19 c20)]) (O := O) h92 hc88 (i := 2) rfl
      have hc109 := hc88.drop 2 rfl
      refine L_call go110 [.slice A18 n19 c20, vi i2] rfl ((spec_l5At.calls w78 hc109.ok r A18 n19 c20 h108 i2 _ H).mono ?_)
      rintro _ w111 ⟨r3, rfl, H, g112⟩
      have hc116 := hc88.k0 g112
      refine L_pu (P_assign (vi r3) rfl) ?_
      refine L_nil ?_
      refine W_seq ?_
      refine W_reg ?_
      refine L_pu (P_move (.slice A29 n30 c31) rfl) ?_
      refine L_pu (P_move (vi i2) rfl) ?_
      have h117 := (h93.sn g112)
      have h118 := Ow.gv (L := [blk (.slice A84 n85 c86), blk (.slice A29 n30 c31), blk (.slice A18 n19 c20)]) (O := O) h117 hc116 (i := 1) rfl
      have hc119 := hc116.drop 1 rfl
      refine L_call go110 [.slice A29 n30 c31, vi i2] rfl ((spec_l5At.calls w111 hc119.ok r2 A29 n30 c31 h118 i2 _ H).mono ?_)
      rintro _ w121 ⟨r4, rfl, H, g122⟩
      have hc126 := hc116.k0 g122
      refine L_pu (P_assign (vi r4) rfl) ?_
      refine L_nil ?_
      refine W_seq ?_
      refine W_reg ?_
      refine L_pu (P_move (vi r3) rfl) ?_
      refine L_pu (P_cmp r3 0 (decide (r3 < 0)) rfl rfl rfl) ?_
      refine L_pu (P_move (vb (decide (r3 < 0))) rfl) ?_
      rcases bool_or (decide (r3 < 0)) with hq127 | hq127
      · have H := ite_t H hq127
        refine L_pass (dj := 48) rfl rfl (.inl (by exact congrArg Value.bool hq127)) ?_
        refine L_pass (dj := 48) rfl rfl (.inl (by exact congrArg Value.bool hq127)) ?_
        refine L_pu (P_pick true (vb true) (by exact congrArg Value.bool hq127) rfl) ?_
        refine L_nil ?_
        refine W_ct (b := true) rfl rfl ?_
        refine W_exit (xin_hit ?_)
        refine W_reg ?_
        refine L_pu (P_move (vi i2) rfl) ?_
        obtain ⟨hb129, H⟩ := H
        have hi128 : I64 (i2 + 1) := i64_succ (of_decide_eq_true hq107) hl103 hb129
        refine L_pu (P_add i2 1 rfl rfl hi128) ?_
        refine L_pu (P_assign (vi (i2 + 1)) rfl) ?_
        refine L_nil ?_
        obtain ⟨hI130, hm131⟩ := H
        have h132 := ((h89.st (.new _ g112)).st (.new _ g122))
        have h133 := ((h90.st (.new _ g112)).st (.new _ g122))
        have h134 := ((h91.st (.new _ g112)).st (.new _ g122))
        have h135 := ((h92.sn g112).sn g122)
        have h136 := ((h93.sn g112).sn g122)
        have h137 := ((h94.sn g112).sn g122)
        exact ⟨(xs2, A84, n85, c86, o2, x2, y2, i2 + 1), hm131, hI130, ⟨rfl, rfl, rfl, rfl, rfl, rfl, rfl, rfl, rfl, rfl, trivial⟩, hc126, h132, h133, h134, h135, h136, h137⟩
      · have H := ite_f H hq127
        refine L_run (dj := 48) rfl rfl (by exact congrArg Value.bool hq127) ?_
        refine L_pu (P_move (vi r4) rfl) ?_
        refine L_run (dj := 48) rfl rfl (by exact congrArg Value.bool hq127) ?_
        refine L_pu (P_cmp r4 0 (decide (r4 < 0)) rfl rfl rfl) ?_
        refine L_pu (P_pick false (vb (decide (r4 < 0))) (by exact congrArg Value.bool hq127) rfl) ?_
        refine L_nil ?_
        refine W_cond (decide (r4 < 0)) rfl (fun hq138 => ?_) (fun hq138 => ?_)
        · have H := ite_t H hq138
          refine W_exit (xin_hit ?_)
          refine W_reg ?_
          refine L_pu (P_move (vi i2) rfl) ?_
          obtain ⟨hb140, H⟩ := H
          have hi139 : I64 (i2 + 1) := i64_succ (of_decide_eq_true hq107) hl103 hb140
          refine L_pu (P_add i2 1 rfl rfl hi139) ?_
          refine L_pu (P_assign (vi (i2 + 1)) rfl) ?_
          refine L_nil ?_
          obtain ⟨hI141, hm142⟩ := H
          have h143 := ((h89.st (.new _ g112)).st (.new _ g122))
          have h144 := ((h90.st (.new _ g112)).st (.new _ g122))
          have h145 := ((h91.st (.new _ g112)).st (.new _ g122))
          have h146 := ((h92.sn g112).sn g122)
          have h147 := ((h93.sn g112).sn g122)
          have h148 := ((h94.sn g112).sn g122)
          exact ⟨(xs2, A84, n85, c86, o2, x2, y2, i2 + 1), hm142, hI141, ⟨rfl, rfl, rfl, rfl, rfl, rfl, rfl, rfl, rfl, rfl, trivial⟩, hc126, h143, h144, h145, h146, h147, h148⟩
        · have H := ite_f H hq138
          refine W_skip ?_
          refine W_seq ?_
          refine W_mixr 18 [] (by kernel_rfl) rfl fun w149 g150 hM151 => ?_
          have hc152 := hc126.k0 g150
          refine M_pu 0 rfl (by kernel_rfl) hM151 (P_move (.slice A1 n2 c3) rfl) ?_
          refine M_pu 1 rfl (by kernel_rfl) hM151 (P_move (vi o2) rfl) ?_
          refine M_pu 2 rfl (by kernel_rfl) hM151 (P_move (vi i2) rfl) ?_
          obtain ⟨hb153, H⟩ := H
          have h158 := (((h89.st (.new _ g112)).st (.new _ g122)).st (.new _ g150))
          refine M_cuts 3 rfl (by kernel_rfl) hM151 Try.underlying23 se23 A1 n2 c3 base_ rfl h158 o2 i2 rfl rfl hb153 fun A154 n155 c156 h157 => ?_
          refine M_pu 4 rfl (by kernel_rfl) hM151 (P_move (.slice A6 n7 c8) rfl) ?_
          refine M_pu 5 rfl (by kernel_rfl) hM151 (P_move (vi x2) rfl) ?_
          refine M_pu 6 rfl (by kernel_rfl) hM151 (P_move (vi r3) rfl) ?_
          obtain ⟨hb160, H⟩ := H
          have h165 := (((h90.st (.new _ g112)).st (.new _ g122)).st (.new _ g150))
          refine M_cuts 7 rfl (by kernel_rfl) hM151 Try.underlying23 se23 A6 n7 c8 a rfl h165 x2 r3 rfl rfl hb160 fun A161 n162 c163 h164 => ?_
          refine M_pu 8 rfl (by kernel_rfl) hM151 (P_move (.slice A11 n12 c13) rfl) ?_
          refine M_pu 9 rfl (by kernel_rfl) hM151 (P_move (vi y2) rfl) ?_
          refine M_pu 10 rfl (by kernel_rfl) hM151 (P_move (vi r4) rfl) ?_
          obtain ⟨hb167, H⟩ := H
          have h172 := (((h91.st (.new _ g112)).st (.new _ g122)).st (.new _ g150))
          refine M_cuts 11 rfl (by kernel_rfl) hM151 Try.underlying23 se23 A11 n12 c13 b rfl h172 y2 r4 rfl rfl hb167 fun A168 n169 c170 h171 => ?_
          refine M_any1 12 (by kernel_rfl) rfl ?_
          refine L_call go111 [.slice A154 n155 c156, .slice A161 n162 c163, .slice A168 n169 c170] rfl ((spec_l5Pick.calls w149 hc152.ok ((base_.drop o2.toNat).take (i2.toNat - o2.toNat)) A154 n155 c156 h157 ((a.drop x2.toNat).take (r3.toNat - x2.toNat)) A161 n162 c163 h164 ((b.drop y2.toNat).take (r4.toNat - y2.toNat)) A168 n169 c170 h171 _ H).mono ?_)
          rintro _ w174 ⟨r5, r6, A176, n177, c178, rfl, H, g175, h179⟩
          have hc183 := hc152.k0 g175
          have hM184 := Gm.tm hM151 g175
          refine L_nil ⟨hM184, ?_⟩
          refine M_pu 13 rfl (by kernel_rfl) hM184 (P_move (.tuple #[.slice A176 n177 c178, vb r6]) rfl) ?_
          refine M_pu 14 rfl (by kernel_rfl) hM184 (P_ext [.slice A176 n177 c178, vb r6] 0 (.slice A176 n177 c178) rfl rfl) ?_
          refine M_pu 15 rfl (by kernel_rfl) hM184 (P_ext [.slice A176 n177 c178, vb r6] 1 (vb r6) rfl rfl) ?_
          refine M_pu 16 rfl (by kernel_rfl) hM184 (P_assign (.slice A176 n177 c178) rfl) ?_
          refine M_pu 17 rfl (by kernel_rfl) hM184 (P_assign (vb r6) rfl) ?_
          refine M_nil (by kernel_rfl) ?_
          refine W_seq ?_
          refine W_seq ?_
          refine W_reg ?_
          refine L_pu (P_move (vb r6) rfl) ?_
          refine L_pu (P_not r6 rfl) ?_
          refine L_nil ?_
          refine W_cond (!r6) rfl (fun hq186 => ?_) (fun hq186 => ?_)
          · have H := ite_t H hq186
            refine W_seq ?_
            refine W_reg ?_
            refine L_pu (P_assign (.slice none 0 0) rfl) ?_
            refine L_pu (P_assign (vb false) rfl) ?_
            refine L_nil ?_
            refine W_ret ?_
            have hc188 := hc183.own (Gr.refl _ none) none (by simp)
            have h189 : Ow kPt 29 w174 ([blk (.slice none 0 0), blk (.slice A84 n85 c86), blk (.slice A29 n30 c31), blk (.slice A18 n19 c20)] ++ O) (.slice none 0 0) [] := Ow.nil _ _ _ _
            have hc190 := hc188.drop 1 rfl
            have hc191 := hc190.drop 1 rfl
            have hc192 := hc191.drop 1 rfl
            have h193 := (Ow.sd (L := [blk (.slice none 0 0), blk (.slice A18 n19 c20)]) (O := O) (Ow.sd (L := [blk (.slice none 0 0), blk (.slice A29 n30 c31), blk (.slice A18 n19 c20)]) (O := O) (Ow.sd (L := [blk (.slice none 0 0), blk (.slice A84 n85 c86), blk (.slice A29 n30 c31), blk (.slice A18 n19 c20)]) (O := O) h189 (i := 0) rfl (j := 1) rfl (by decide)) (i := 0) rfl (j := 1) rfl (by decide)) (i := 0) rfl (j := 1) rfl (by decide))
            exact ⟨[.slice none 0 0, vb false], ⟨_, rfl, ⟨_, rfl, rfl⟩⟩, ([] : List Pt), false, none, 0, 0, rfl, H, hc192.gr.g0, hc192.ok, hc192.ge, h193⟩
          · have H := ite_f H hq186
            refine W_skip ?_
            refine W_seq ?_
            refine W_reg ?_
            refine L_pu (P_move (.slice A84 n85 c86) rfl) ?_
            refine L_pu (P_move (.slice A176 n177 c178) rfl) ?_
            obtain ⟨hb194, H⟩ := H
            have h195 := ((((h94.sn g112).sn g122).sn g150).sn g175)
            refine L_app ei23 hc183 (.slice A84 n85 c86) xs2 r5 rfl h195 (.slice A176 n177 c178) rfl h179.sx 0 rfl hb194 fun w196 A197 n198 c199 g200 s201 hc202 h203 => ?_
            refine L_pu (P_assign (.slice A197 n198 c199) rfl) ?_
            refine L_nil ?_
            refine W_seq ?_
            refine W_seq ?_
            refine W_reg ?_
            refine L_pu (P_move (vi i2) rfl) ?_
            refine L_pu (P_move (.slice A1 n2 c3) rfl) ?_
            have h205 := ((h158.st (.new _ g175)).st s201)
            refine L_pu (P_len Try.underlying23 A1 n2 c3 h205.len rfl) ?_
            refine L_pu (P_cmp i2 (base_.length : Int) (decide (i2 < (base_.length : Int))) rfl rfl rfl) ?_
            refine L_nil ?_
            refine W_ct (b := decide (i2 < (base_.length : Int))) rfl hq107 ?_
            refine W_reg ?_
            refine L_pu (P_move (.slice A197 n198 c199) rfl) ?_
            refine L_pu (P_move (.slice A1 n2 c3) rfl) ?_
            refine L_pu (P_move (vi i2) rfl) ?_
            obtain ⟨hb206, H⟩ := H
            obtain ⟨ad207, cs208, hA209, hS212, hR210, hcl211⟩ := h205.get default (by decide) i2 hb206
            obtain rfl := kPt.op hR210
            refine L_pu (P_ia Try.underlying23 se23 A1 ad207 n2 c3 h205.len i2 rfl hA209 rfl hb206) ?_
            refine L_pu (P_lda ag29 sz29 cL (ad207.add (i2.toNat * 2)) [vi ((nth base_ i2).X), vi ((nth base_ i2).Y)] rfl rfl hcl211) ?_
            refine L_lit (kd := kPt) ei23 hc202 ([(nth base_ i2)] : List Pt) (cells := [vi ((nth base_ i2).X), vi ((nth base_ i2).Y)]) ⟨[vi ((nth base_ i2).X), vi ((nth base_ i2).Y)], _, rfl, (kPt.mk _ _ (nth base_ i2)), rfl⟩ (fun _ => by kernel_rfl) fun w213 A214 n215 c216 g217 hr218 hc219 h220 => ?_
            obtain ⟨hb222, H⟩ := H
            have h223 := (h203.so _ g217 hr218)
            refine L_app ei23 hc219 (.slice A197 n198 c199) (xs2 ++ r5) ([(nth base_ i2)] : List Pt) rfl h223 (.slice A214 n215 c216) rfl h220.sx 1 rfl hb222 fun w224 A225 n226 c227 g228 s229 hc230 h231 => ?_
            refine L_pu (P_assign (.slice A225 n226 c227) rfl) ?_
            refine L_nil ?_
            refine W_seq ?_
            refine W_reg ?_
            refine L_pu (P_move (vi i2) rfl) ?_
            obtain ⟨hb234, H⟩ := H
            have hi233 : I64 (i2 + 1) := i64_succ (of_decide_eq_true hq107) hl103 hb234
            refine L_pu (P_add i2 1 rfl rfl hi233) ?_
            refine L_pu (P_assign (vi (i2 + 1)) rfl) ?_
            refine L_nil ?_
            refine W_seq ?_
            refine W_reg ?_
            refine L_pu (P_move (vi r3) rfl) ?_
            obtain ⟨hb235, H⟩ := H
            have hi236 := hb235 (len_le hl103) (len_le hl105) (len_le hl106)
            refine L_pu (P_add r3 1 rfl rfl hi236) ?_
            refine L_pu (P_assign (vi (r3 + 1)) rfl) ?_
            refine L_nil ?_
            refine W_reg ?_
            refine L_pu (P_move (vi r4) rfl) ?_
            obtain ⟨hb237, H⟩ := H
            have hi238 := hb237 (len_le hl103) (len_le hl105) (len_le hl106)
            refine L_pu (P_add r4 1 rfl rfl hi238) ?_
            refine L_pu (P_assign (vi (r4 + 1)) rfl) ?_
            refine L_nil ?_
            refine W_reg ?_
            refine L_pu (P_move (vi i2) rfl) ?_
            obtain ⟨hb240, H⟩ := H
            have hi239 : I64 (i2 + 1) := i64_succ (of_decide_eq_true hq107) hl103 hb240
            refine L_pu (P_add i2 1 rfl rfl hi239) ?_
            refine L_pu (P_assign (vi (i2 + 1)) rfl) ?_
            refine L_nil ?_
            have hc241 := hc230.drop 0 rfl
            obtain ⟨hI242, hm243⟩ := H
            have h244 := (((h205.st (.own _ _ g217 hr218)).st s229).st (.dr _ (L := [blk (.slice A214 n215 c216), blk (.slice A225 n226 c227), blk (.slice A29 n30 c31), blk (.slice A18 n19 c20)]) (O := O) (j := 0) rfl))
            have h245 := (((((h165.st (.new _ g175)).st s201).st (.own _ _ g217 hr218)).st s229).st (.dr _ (L := [blk (.slice A214 n215 c216), blk (.slice A225 n226 c227), blk (.slice A29 n30 c31), blk (.slice A18 n19 c20)]) (O := O) (j := 0) rfl))
            have h246 := (((((h172.st (.new _ g175)).st s201).st (.own _ _ g217 hr218)).st s229).st (.dr _ (L := [blk (.slice A214 n215 c216), blk (.slice A225 n226 c227), blk (.slice A29 n30 c31), blk (.slice A18 n19 c20)]) (O := O) (j := 0) rfl))
            have h247 := (Ow.sd (L := [blk (.slice A214 n215 c216), blk (.slice A225 n226 c227), blk (.slice A29 n30 c31), blk (.slice A18 n19 c20)]) (O := O) (Ow.sm (L := [blk (.slice A214 n215 c216), blk (.slice A197 n198 c199), blk (.slice A29 n30 c31), blk (.slice A18 n19 c20)]) (O := O) ((Ow.sm (L := [blk (.slice A84 n85 c86), blk (.slice A29 n30 c31), blk (.slice A18 n19 c20)]) (O := O) ((((h92.sn g112).sn g122).sn g150).sn g175) hc183 (i := 2) rfl (j := 0) rfl (by decide) g200 s201).so _ g217 hr218) hc219 (i := 3) rfl (j := 1) rfl (by decide) g228 s229) (i := 3) rfl (j := 0) rfl (by decide))
            have h248 := (Ow.sd (L := [blk (.slice A214 n215 c216), blk (.slice A225 n226 c227), blk (.slice A29 n30 c31), blk (.slice A18 n19 c20)]) (O := O) (Ow.sm (L := [blk (.slice A214 n215 c216), blk (.slice A197 n198 c199), blk (.slice A29 n30 c31), blk (.slice A18 n19 c20)]) (O := O) ((Ow.sm (L := [blk (.slice A84 n85 c86), blk (.slice A29 n30 c31), blk (.slice A18 n19 c20)]) (O := O) ((((h93.sn g112).sn g122).sn g150).sn g175) hc183 (i := 1) rfl (j := 0) rfl (by decide) g200 s201).so _ g217 hr218) hc219 (i := 2) rfl (j := 1) rfl (by decide) g228 s229) (i := 2) rfl (j := 0) rfl (by decide))
            have h249 := (Ow.sd (L := [blk (.slice A214 n215 c216), blk (.slice A225 n226 c227), blk (.slice A29 n30 c31), blk (.slice A18 n19 c20)]) (O := O) h231 (i := 1) rfl (j := 0) rfl (by decide))
            exact ⟨(((xs2 ++ r5) ++ ([(nth base_ i2)] : List Pt)), A225, n226, c227, i2 + 1, r3 + 1, r4 + 1, i2 + 1), hm243, hI242, ⟨rfl, rfl, rfl, rfl, rfl, rfl, rfl, rfl, rfl, rfl, trivial⟩, hc241, h244, h245, h246, h247, h248, h249⟩
    · have H := ite_f H hq107
      refine W_skip ?_
      refine W_seq ?_
      refine W_mixr 18 [] (by kernel_rfl) rfl fun w250 g251 hM252 => ?_
      have hc253 := hc88.k0 g251
      refine M_pu 0 rfl (by kernel_rfl) hM252 (P_move (.slice A1 n2 c3) rfl) ?_
      refine M_pu 1 rfl (by kernel_rfl) hM252 (P_move (vi o2) rfl) ?_
      refine M_pu 2 rfl (by kernel_rfl) hM252 (P_move (vi i2) rfl) ?_
      obtain ⟨hb254, H⟩ := H
      refine M_cuts 3 rfl (by kernel_rfl) hM252 Try.underlying23 se23 A1 n2 c3 base_ rfl (h89.st (.new _ g251)) o2 i2 rfl rfl hb254 fun A255 n256 c257 h258 => ?_
      refine M_pu 4 rfl (by kernel_rfl) hM252 (P_move (.slice A6 n7 c8) rfl) ?_
      refine M_pu 5 rfl (by kernel_rfl) hM252 (P_move (vi x2) rfl) ?_
      refine M_pu 6 rfl (by kernel_rfl) hM252 (P_move (vi (a.length : Int)) rfl) ?_
      obtain ⟨hb260, H⟩ := H
      refine M_cuts 7 rfl (by kernel_rfl) hM252 Try.underlying23 se23 A6 n7 c8 a rfl (h90.st (.new _ g251)) x2 (a.length : Int) rfl rfl hb260 fun A261 n262 c263 h264 => ?_
      refine M_pu 8 rfl (by kernel_rfl) hM252 (P_move (.slice A11 n12 c13) rfl) ?_
      refine M_pu 9 rfl (by kernel_rfl) hM252 (P_move (vi y2) rfl) ?_
      refine M_pu 10 rfl (by kernel_rfl) hM252 (P_move (vi (b.length : Int)) rfl) ?_
      obtain ⟨hb266, H⟩ := H
      refine M_cuts 11 rfl (by kernel_rfl) hM252 Try.underlying23 se23 A11 n12 c13 b rfl (h91.st (.new _ g251)) y2 (b.length : Int) rfl rfl hb266 fun A267 n268 c269 h270 => ?_
      refine M_any1 12 (by kernel_rfl) rfl ?_
      refine L_call go111 [.slice A255 n256 c257, .slice A261 n262 c263, .slice A267 n268 c269] rfl ((spec_l5Pick.calls w250 hc253.ok ((base_.drop o2.toNat).take (i2.toNat - o2.toNat)) A255 n256 c257 h258 ((a.drop x2.toNat).take ((a.length : Int).toNat - x2.toNat)) A261 n262 c263 h264 ((b.drop y2.toNat).take ((b.length : Int).toNat - y2.toNat)) A267 n268 c269 h270 _ H).mono ?_)
      rintro _ w272 ⟨r7, r8, A274, n275, c276, rfl, H, g273, h277⟩
      have hc281 := hc253.k0 g273
      have hM282 := Gm.tm hM252 g273
      refine L_nil ⟨hM282, ?_⟩
      refine M_pu 13 rfl (by kernel_rfl) hM282 (P_move (.tuple #[.slice A274 n275 c276, vb r8]) rfl) ?_
      refine M_pu 14 rfl (by kernel_rfl) hM282 (P_ext [.slice A274 n275 c276, vb r8] 0 (.slice A274 n275 c276) rfl rfl) ?_
      refine M_pu 15 rfl (by kernel_rfl) hM282 (P_ext [.slice A274 n275 c276, vb r8] 1 (vb r8) rfl rfl) ?_
      refine M_pu 16 rfl (by kernel_rfl) hM282 (P_assign (.slice A274 n275 c276) rfl) ?_
      refine M_pu 17 rfl (by kernel_rfl) hM282 (P_assign (vb r8) rfl) ?_
      refine M_nil (by kernel_rfl) ?_
      refine W_seq ?_
      refine W_seq ?_
      refine W_reg ?_
      refine L_pu (P_move (vb r8) rfl) ?_
      refine L_pu (P_not r8 rfl) ?_
      refine L_nil ?_
      refine W_cond (!r8) rfl (fun hq284 => ?_) (fun hq284 => ?_)
      · have H := ite_t H hq284
        refine W_seq ?_
        refine W_reg ?_
        refine L_pu (P_assign (.slice none 0 0) rfl) ?_
        refine L_pu (P_assign (vb false) rfl) ?_
        refine L_nil ?_
        refine W_ret ?_
        have hc286 := hc281.own (Gr.refl _ none) none (by simp)
        have h287 : Ow kPt 29 w272 ([blk (.slice none 0 0), blk (.slice A84 n85 c86), blk (.slice A29 n30 c31), blk (.slice A18 n19 c20)] ++ O) (.slice none 0 0) [] := Ow.nil _ _ _ _
        have hc288 := hc286.drop 1 rfl
        have hc289 := hc288.drop 1 rfl
        have hc290 := hc289.drop 1 rfl
        have h291 := (Ow.sd (L := [blk (.slice none 0 0), blk (.slice A18 n19 c20)]) (O := O) (Ow.sd (L := [blk (.slice none 0 0), blk (.slice A29 n30 c31), blk (.slice A18 n19 c20)]) (O := O) (Ow.sd (L := [blk (.slice none 0 0), blk (.slice A84 n85 c86), blk (.slice A29 n30 c31), blk (.slice A18 n19 c20)]) (O := O) h287 (i := 0) rfl (j := 1) rfl (by decide)) (i := 0) rfl (j := 1) rfl (by decide)) (i := 0) rfl (j := 1) rfl (by decide))
        exact ⟨[.slice none 0 0, vb false], ⟨_, rfl, ⟨_, rfl, rfl⟩⟩, ([] : List Pt), false, none, 0, 0, rfl, H, hc290.gr.g0, hc290.ok, hc290.ge, h291⟩
      · have H := ite_f H hq284
        refine W_skip ?_
        refine W_seq ?_
        refine W_reg ?_
        refine L_pu (P_move (.slice A84 n85 c86) rfl) ?_
        refine L_pu (P_move (.slice A274 n275 c276) rfl) ?_
        obtain ⟨hb292, H⟩ := H
        have h293 := ((h94.sn g251).sn g273)
        refine L_app ei23 hc281 (.slice A84 n85 c86) xs2 r7 rfl h293 (.slice A274 n275 c276) rfl h277.sx 0 rfl hb292 fun w294 A295 n296 c297 g298 s299 hc300 h301 => ?_
        refine L_pu (P_assign (.slice A295 n296 c297) rfl) ?_
        refine L_nil ?_
        refine W_seq ?_
        refine W_seq ?_
        refine W_reg ?_
        refine L_pu (P_move (vi i2) rfl) ?_
        refine L_pu (P_move (.slice A1 n2 c3) rfl) ?_
        have h303 := (((h89.st (.new _ g251)).st (.new _ g273)).st s299)
        refine L_pu (P_len Try.underlying23 A1 n2 c3 h303.len rfl) ?_
        refine L_pu (P_cmp i2 (base_.length : Int) (decide (i2 < (base_.length : Int))) rfl rfl rfl) ?_
        refine L_nil ?_
        refine W_cf (b := decide (i2 < (base_.length : Int))) rfl hq107 ?_
        refine W_skip ?_
        refine W_seq ?_
        refine W_reg ?_
        refine L_pu (P_move (vi i2) rfl) ?_
        obtain ⟨hb304, H⟩ := H
        have hi305 := hb304 (len_le hl103) (len_le hl105) (len_le hl106)
        refine L_pu (P_add i2 1 rfl rfl hi305) ?_
        refine L_pu (P_assign (vi (i2 + 1)) rfl) ?_
        refine L_nil ?_
        refine W_seq ?_
        refine W_reg ?_
        refine L_pu (P_move (vi (a.length : Int)) rfl) ?_
        obtain ⟨hb306, H⟩ := H
        have hi307 := hb306 (len_le hl103) (len_le hl105) (len_le hl106)
        refine L_pu (P_add (a.length : Int) 1 rfl rfl hi307) ?_
        refine L_pu (P_assign (vi ((a.length : Int) + 1)) rfl) ?_
        refine L_nil ?_
        refine W_reg ?_
        refine L_pu (P_move (vi (b.length : Int)) rfl) ?_
        obtain ⟨hb308, H⟩ := H
        have hi309 := hb308 (len_le hl103) (len_le hl105) (len_le hl106)
        refine L_pu (P_add (b.length : Int) 1 rfl rfl hi309) ?_
        refine L_pu (P_assign (vi ((b.length : Int) + 1)) rfl) ?_
        refine L_nil ?_
        refine W_reg ?_
        refine L_pu (P_move (vi i2) rfl) ?_
        obtain ⟨hb310, H⟩ := H
        have hi311 := hb310 (len_le hl103) (len_le hl105) (len_le hl106)
        refine L_pu (P_add i2 1 rfl rfl hi311) ?_
        refine L_pu (P_assign (vi (i2 + 1)) rfl) ?_
        refine L_nil ?_
        obtain ⟨hI312, hm313⟩ := H
        have h314 := (((h90.st (.new _ g251)).st (.new _ g273)).st s299)
        have h315 := (((h91.st (.new _ g251)).st (.new _ g273)).st s299)
        have h316 := (Ow.sm (L := [blk (.slice A84 n85 c86), blk (.slice A29 n30 c31), blk (.slice A18 n19 c20)]) (O := O) ((h92.sn g251).sn g273) hc281 (i := 2) rfl (j := 0) rfl (by decide) g298 s299)
        have h317 := (Ow.sm (L := [blk (.slice A84 n85 c86), blk (.slice A29 n30 c31), blk (.slice A18 n19 c20)]) (O := O) ((h93.sn g251).sn g273) hc281 (i := 1) rfl (j := 0) rfl (by decide) g298 s299)
        exact ⟨((xs2 ++ r7), A295, n296, c297, i2 + 1, (a.length : Int) + 1, (b.length : Int) + 1, i2 + 1), hm313, hI312, ⟨rfl, rfl, rfl, rfl, rfl, rfl, rfl, rfl, rfl, rfl, trivial⟩, hc300, h303, h314, h315, h316, h317, h301⟩
  · have H := ite_f H hq104
    refine W_exit (xin_hit ?_)
    refine W_seq ?_
    refine W_reg ?_
    refine L_pu (P_move (.slice A84 n85 c86) rfl) ?_
    refine L_pu (P_assign (.slice A84 n85 c86) rfl) ?_
    refine L_pu (P_assign (vb true) rfl) ?_
    refine L_nil ?_
    refine W_ret ?_
    have hc318 := hc88.drop 1 rfl
    have hc319 := hc318.drop 1 rfl
    have h320 := (Ow.sd (L := [blk (.slice A84 n85 c86), blk (.slice A18 n19 c20)]) (O := O) (Ow.sd (L := [blk (.slice A84 n85 c86), blk (.slice A29 n30 c31), blk (.slice A18 n19 c20)]) (O := O) h94 (i := 0) rfl (j := 1) rfl (by decide)) (i := 0) rfl (j := 1) rfl (by decide))
    exact ⟨[.slice A84 n85 c86, vb true], ⟨_, rfl, ⟨_, rfl, rfl⟩⟩, xs2, true, A84, n85, c86, rfl, H, hc319.gr.g0, hc319.ok, hc319.ge, h320⟩
end Go.Proofs.Ytndjggncgpjolaa

namespace Go.Proofs.Ytndjggncgpjolaa
set_option linter.unusedVariables false
set_option linter.unusedSimpArgs false
set_option linter.unusedSectionVars false
theorem spec_l5Merge.law (o a b : List Pt) (Q : List Pt → Bool → Prop) (h1 : few o a = true) (h2 : few o b = true) (hs : ∀ r, smerge o a b = some r → Q r true) (hn : smerge o a b = none → Q [] false) : spec_l5Merge.E o a b Q := by
  unfold spec_l5Merge.E
  refine spec_SeqPairs.law _ _ _ (spec_SeqPairs.law _ _ _ ?_)
  have f1 := few_iff.1 h1; have f2 := few_iff.1 h2
  refine ⟨fun xs i j k t => (∃ i' j' k' t' : Nat, i = i' ∧ j = j' ∧ k = k' ∧ t = t' ∧ MInv o a b xs i' j' k' t') ∨ (t = (o.length : Int) + 1 ∧ smerge o a b = some xs), fun _ _ _ _ t => (o.length + 1 - t).toNat, .inl ⟨0, 0, 0, 0, rfl, rfl, rfl, rfl, MInv.zero h1 h2⟩, ?_⟩
  rintro xs _ _ _ _ (⟨i, j, k, t, rfl, rfl, rfl, rfl, h⟩ | ⟨rfl, h⟩)
  · have ht := h.ht; have hi := h.hi; have hj := h.hj; have hk := h.hk; have hl := h.len
    rw [if_pos (by simp; omega)]
    simp only [Int.toNat_natCast]
    by_cases ht0 : (t : Int) < (o.length : Int)
    · rw [if_pos (by simpa using ht0)]
      refine spec_l5At.law _ _ _ (spec_l5At.law _ _ _ ?_)
      rw [mate_part h1, mate_part h2]
      cases hx : part o a t with
      | none =>
        rw [if_pos (by decide)]
        exact ⟨by omega, .inl ⟨i, j, k, t + 1, rfl, rfl, rfl, rfl, h.skip (by omega) (.inl hx)⟩, by omega⟩
      | some x =>
        rw [if_neg (by simp)]
        cases hy : part o b t with
        | none =>
          rw [if_pos (by decide)]
          exact ⟨by omega, .inl ⟨i, j, k, t + 1, rfl, rfl, rfl, rfl, h.skip (by omega) (.inr hy)⟩, by omega⟩
        | some y =>
          rw [if_neg (by simp)]
          dsimp only
          obtain ⟨g1, g2, g3, g4⟩ := h.from hx hy
          refine ⟨by omega, by omega, by omega, spec_l5Pick.law _ _ _ _ (fun p hp => ?_) (fun hp => ?_)⟩
          · rw [if_neg (by simp)]
            have hm := (pickL_mem (o := seg o i t) (a := seg a j x) (b := seg b k y) hp).2.2.2
            rw [seg_len a _ _ (by omega), seg_len b _ _ (by omega)] at hm
            exact ⟨by omega, by omega, by simp only [List.length_append, List.length_singleton]; omega, by omega, fun _ _ _ => by unfold I64; omega, fun _ _ _ => by unfold I64; omega, by omega, .inl ⟨t + 1, x + 1, y + 1, t + 1, rfl, rfl, rfl, rfl, h.step (by omega) hx hy hp⟩, by omega⟩
          · rw [if_pos (by simp)]
            exact hn (h.stop (by omega) hx hy hp)
    · rw [if_neg (by simpa using ht0)]
      have : t = o.length := by omega
      subst this
      refine ⟨by omega, by omega, by omega, ?_⟩
      have hlast := h.last
      have e1 : (o.drop i).take (o.length - i) = o.drop i := seg_end o i
      have e2 : (a.drop j).take (a.length - j) = a.drop j := seg_end a j
      have e3 : (b.drop k).take (b.length - k) = b.drop k := seg_end b k
      rw [e1, e2, e3]
      refine spec_l5Pick.law _ _ _ _ (fun p hp => ?_) (fun hp => ?_)
      · rw [if_neg (by simp)]
        have hm := (pickL_mem hp).2.2.2
        rw [List.length_drop, List.length_drop] at hm
        rw [hp, Option.map_some] at hlast
        exact ⟨by omega, fun _ _ _ => by unfold I64; omega, fun _ _ _ => by unfold I64; omega, fun _ _ _ => by unfold I64; omega, fun _ _ _ => by unfold I64; omega, .inr ⟨rfl, hlast.symm⟩, by omega⟩
      · rw [if_pos (by simp)]
        rw [hp] at hlast
        exact hn hlast.symm
  · rw [if_neg (by simp; omega)]
    exact hs _ h
end Go.Proofs.Ytndjggncgpjolaa

namespace Go.Proofs.Ytndjggncgpjolaa
open Go.RowKit
set_option linter.unusedVariables false
def spec_SeqMerge.E (base_ : List Pt) (a : List Pt) (b : List Pt) (Q : List Pt → Bool → Prop) : Prop :=
  spec_l5Few.E base_ a (fun r => (if !r then Q ([] : List Pt) false else spec_l5Few.E base_ b (fun r2 => (if !r2 then Q ([] : List Pt) false else spec_l5Merge.E base_ a b (fun r3 r4 => (if !r4 then Q ([] : List Pt) false else (([] : List Pt).length + r3.length ≤ 268435456) ∧ Q (([] : List Pt) ++ r3) true))))))
set_option maxHeartbeats 8000000 in
set_option maxRecDepth 100000 in
theorem spec_SeqMerge.calls {O : Ob} (w0 : World) (hO : Ok w0 O) (base_ : List Pt) (A1 : Option Addr) (n2 c3 : Nat) (hp4 : Sl kPt w0 (Fr O) (.slice A1 n2 c3) base_) (a : List Pt) (A6 : Option Addr) (n7 c8 : Nat) (hp9 : Sl kPt w0 (Fr O) (.slice A6 n7 c8) a) (b : List Pt) (A11 : Option Addr) (n12 c13 : Nat) (hp14 : Sl kPt w0 (Fr O) (.slice A11 n12 c13) b) (Q : List Pt → Bool → Prop) (h : spec_SeqMerge.E base_ a b Q) :
    Ret Try.prog 11 [.slice A1 n2 c3, .slice A6 n7 c8, .slice A11 n12 c13] w0 (fun v w' => ∃ (r0 : List Pt) (r1 : Bool) (A0 : Option Addr) (n0 c0 : Nat), v = .tuple #[.slice A0 n0 c0, vb r1] ∧ Q r0 r1 ∧ Gr w0 w' none ∧ Ok w' ([blk (.slice A0 n0 c0)] ++ O) ∧ (∀ b, some b ∈ [blk (.slice A0 n0 c0)] → w0.heap.size ≤ b) ∧ Ow kPt 29 w' ([blk (.slice A0 n0 c0)] ++ O) (.slice A0 n0 c0) r0) := by
  have H : spec_l5Few.E base_ a (fun r => (if !r then Q ([] : List Pt) false else spec_l5Few.E base_ b (fun r2 => (if !r2 then Q ([] : List Pt) false else spec_l5Merge.E base_ a b (fun r3 r4 => (if !r4 then Q ([] : List Pt) false else (([] : List Pt).length + r3.length ≤ 268435456) ∧ Q (([] : List Pt) ++ r3) true)))))) := h
  clear h
  have hc0 := Ct.init hO
  refine Ret_enter Try.func11 rfl 34 rfl [.tmp 6, .tmp 7] rfl rfl ?_
  refine W_seq ?_
  refine W_reg ?_
  refine L_pu (P_assign (.slice none 0 0) rfl) ?_
  refine L_pu (P_assign (vb false) rfl) ?_
  refine L_nil ?_
  refine W_seq ?_
  refine W_seq ?_
  refine W_reg ?_
  refine L_pu (P_move (.slice A1 n2 c3) rfl) ?_
  refine L_pu (P_move (.slice A6 n7 c8) rfl) ?_
  refine L_call go50 [.slice A1 n2 c3, .slice A6 n7 c8] rfl ((spec_l5Few.calls w0 hc0.ok base_ A1 n2 c3 hp4 a A6 n7 c8 hp9 _ H).mono ?_)
  rintro _ w16 ⟨r, rfl, H, g17, _⟩
  have hc21 := hc0.k0 g17
  refine L_pu (P_not r rfl) ?_
  refine L_pu (P_move (vb (!r)) rfl) ?_
  rcases bool_or (!r) with hq22 | hq22
  · have H := ite_t H hq22
    refine L_pass (dj := 14) rfl rfl (.inl (by exact congrArg Value.bool hq22)) ?_
    refine L_pass (dj := 14) rfl rfl (.inl (by exact congrArg Value.bool hq22)) ?_
    refine L_pass (dj := 14) rfl rfl (.inl (by exact congrArg Value.bool hq22)) ?_
    refine L_pass (dj := 14) rfl rfl (.inl (by exact congrArg Value.bool hq22)) ?_
    refine L_pu (P_pick true (vb true) (by exact congrArg Value.bool hq22) rfl) ?_
    refine L_nil ?_
    refine W_ct (b := true) rfl rfl ?_
    refine W_seq ?_
    refine W_reg ?_
    refine L_lit (kd := kPt) ei23 hc21 ([] : List Pt) (cells := []) rfl (fun _ => by kernel_rfl) fun w23 A24 n25 c26 g27 hr28 hc29 h30 => ?_
    refine L_pu (P_assign (.slice A24 n25 c26) rfl) ?_
    refine L_pu (P_assign (vb false) rfl) ?_
    refine L_nil ?_
    refine W_ret ?_
    exact ⟨[.slice A24 n25 c26, vb false], ⟨_, rfl, ⟨_, rfl, rfl⟩⟩, ([] : List Pt), false, A24, n25, c26, rfl, H, hc29.gr.g0, hc29.ok, hc29.ge, h30⟩
  · have H := ite_f H hq22
    refine L_run (dj := 14) rfl rfl (by exact congrArg Value.bool hq22) ?_
    refine L_pu (P_move (.slice A1 n2 c3) rfl) ?_
    refine L_run (dj := 14) rfl rfl (by exact congrArg Value.bool hq22) ?_
    refine L_pu (P_move (.slice A11 n12 c13) rfl) ?_
    refine L_run (dj := 14) rfl rfl (by exact congrArg Value.bool hq22) ?_
    refine L_call go50 [.slice A1 n2 c3, .slice A11 n12 c13] rfl ((spec_l5Few.calls w16 hc21.ok base_ A1 n2 c3 (hp4.st hc21.st) b A11 n12 c13 (hp14.st hc21.st) _ H).mono ?_)
    rintro _ w32 ⟨r2, rfl, H, g33, _⟩
    have hc37 := hc21.k0 g33
    refine L_run (dj := 14) rfl rfl (by exact congrArg Value.bool hq22) ?_
    refine L_pu (P_not r2 rfl) ?_
    refine L_pu (P_pick false (vb (!r2)) (by exact congrArg Value.bool hq22) rfl) ?_
    refine L_nil ?_
    refine W_cond (!r2) rfl (fun hq38 => ?_) (fun hq38 => ?_)
    · have H := ite_t H hq38
      refine W_seq ?_
      refine W_reg ?_
      refine L_lit (kd := kPt) ei23 hc37 ([] : List Pt) (cells := []) rfl (fun _ => by kernel_rfl) fun w39 A40 n41 c42 g43 hr44 hc45 h46 => ?_
      refine L_pu (P_assign (.slice A40 n41 c42) rfl) ?_
      refine L_pu (P_assign (vb false) rfl) ?_
      refine L_nil ?_
      refine W_ret ?_
      exact ⟨[.slice A40 n41 c42, vb false], ⟨_, rfl, ⟨_, rfl, rfl⟩⟩, ([] : List Pt), false, A40, n41, c42, rfl, H, hc45.gr.g0, hc45.ok, hc45.ge, h46⟩
    · have H := ite_f H hq38
      refine W_skip ?_
      refine W_seq ?_
      refine W_reg ?_
      refine L_pu (P_move (.slice A1 n2 c3) rfl) ?_
      refine L_pu (P_move (.slice A6 n7 c8) rfl) ?_
      refine L_pu (P_move (.slice A11 n12 c13) rfl) ?_
      refine L_call go51 [.slice A1 n2 c3, .slice A6 n7 c8, .slice A11 n12 c13] rfl ((spec_l5Merge.calls w32 hc37.ok base_ A1 n2 c3 (hp4.st hc37.st) a A6 n7 c8 (hp9.st hc37.st) b A11 n12 c13 (hp14.st hc37.st) _ H).mono ?_)
      rintro _ w48 ⟨r3, r4, A50, n51, c52, rfl, H, g49, hk56, hk57, h53⟩
      have hc58 := hc37.owns g49 hk56 hk57
      refine L_pu (P_move (.tuple #[.slice A50 n51 c52, vb r4]) rfl) ?_
      refine L_pu (P_ext [.slice A50 n51 c52, vb r4] 0 (.slice A50 n51 c52) rfl rfl) ?_
      refine L_pu (P_ext [.slice A50 n51 c52, vb r4] 1 (vb r4) rfl rfl) ?_
      refine L_pu (P_assign (.slice A50 n51 c52) rfl) ?_
      refine L_pu (P_assign (vb r4) rfl) ?_
      refine L_nil ?_
      refine W_seq ?_
      refine W_seq ?_
      refine W_reg ?_
      refine L_pu (P_move (vb r4) rfl) ?_
      refine L_pu (P_not r4 rfl) ?_
      refine L_nil ?_
      refine W_cond (!r4) rfl (fun hq59 => ?_) (fun hq59 => ?_)
      · have H := ite_t H hq59
        refine W_seq ?_
        refine W_reg ?_
        refine L_lit (kd := kPt) ei23 hc58 ([] : List Pt) (cells := []) rfl (fun _ => by kernel_rfl) fun w60 A61 n62 c63 g64 hr65 hc66 h67 => ?_
        refine L_pu (P_assign (.slice A61 n62 c63) rfl) ?_
        refine L_pu (P_assign (vb false) rfl) ?_
        refine L_nil ?_
        refine W_ret ?_
        have hc69 := hc66.drop 1 rfl
        have h70 := (Ow.sd (L := [blk (.slice A61 n62 c63), blk (.slice A50 n51 c52)]) (O := O) h67 (i := 0) rfl (j := 1) rfl (by decide))
        exact ⟨[.slice A61 n62 c63, vb false], ⟨_, rfl, ⟨_, rfl, rfl⟩⟩, ([] : List Pt), false, A61, n62, c63, rfl, H, hc69.gr.g0, hc69.ok, hc69.ge, h70⟩
      · have H := ite_f H hq59
        refine W_skip ?_
        refine W_seq ?_
        refine W_reg ?_
        refine L_lit (kd := kPt) ei23 hc58 ([] : List Pt) (cells := []) rfl (fun _ => by kernel_rfl) fun w71 A72 n73 c74 g75 hr76 hc77 h78 => ?_
        refine L_pu (P_move (.slice A50 n51 c52) rfl) ?_
        have h80 := (h53.so _ g75 hr76)
        obtain ⟨hb81, H⟩ := H
        refine L_app ei23 hc77 (.slice A72 n73 c74) ([] : List Pt) r3 rfl h78 (.slice A50 n51 c52) rfl h80.sx 0 rfl hb81 fun w82 A83 n84 c85 g86 s87 hc88 h89 => ?_
        refine L_pu (P_assign (.slice A83 n84 c85) rfl) ?_
        refine L_pu (P_assign (vb true) rfl) ?_
        refine L_nil ?_
        refine W_ret ?_
        have hc91 := hc88.drop 1 rfl
        have h92 := (Ow.sd (L := [blk (.slice A83 n84 c85), blk (.slice A50 n51 c52)]) (O := O) h89 (i := 0) rfl (j := 1) rfl (by decide))
        exact ⟨[.slice A83 n84 c85, vb true], ⟨_, rfl, ⟨_, rfl, rfl⟩⟩, (([] : List Pt) ++ r3), true, A83, n84, c85, rfl, H, hc91.gr.g0, hc91.ok, hc91.ge, h92⟩
end Go.Proofs.Ytndjggncgpjolaa

namespace Go.Proofs.Ytndjggncgpjolaa
set_option linter.unusedVariables false
set_option linter.unusedSimpArgs false
set_option linter.unusedSectionVars false
def few3 (o a b : List Pt) : Bool := few o a && few o b
theorem spec_SeqMerge.law (o a b : List Pt) (Q : List Pt → Bool → Prop) (hs : ∀ r, smerge o a b = some r → Q r true) (hn : smerge o a b = none → Q [] false) : spec_SeqMerge.E o a b Q := by
  unfold spec_SeqMerge.E
  refine spec_l5Few.law _ _ _ ?_
  by_cases h1 : few o a = true
  · rw [h1, if_neg (by simp)]
    refine spec_l5Few.law _ _ _ ?_
    by_cases h2 : few o b = true
    · rw [h2, if_neg (by simp)]
      refine spec_l5Merge.law _ _ _ _ h1 h2 (fun r hr => ?_) (fun hr => ?_)
      · rw [if_neg (by simp), List.nil_append]
        have := smerge_len hr
        exact ⟨by simp only [List.length_nil]; omega, hs _ hr⟩
      · rw [if_pos (by simp)]; exact hn hr
    · rw [if_pos (by simpa using h2)]
      exact hn (smerge_not (.inr (by simpa using h2)))
  · rw [if_pos (by simpa using h1)]
    exact hn (smerge_not (.inl (by simpa using h1)))
end Go.Proofs.Ytndjggncgpjolaa
