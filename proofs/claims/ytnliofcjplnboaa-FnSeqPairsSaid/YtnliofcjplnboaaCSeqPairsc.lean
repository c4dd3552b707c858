/- It is proved here that the law FnSeqPairs of the given program holds whatever it is handed: the walks through the code, the plain laws and the row, in this order.
   Conditions: none. -/
import Derived.Below
import Derived.ChangeArms
import Derived.ChangeOld
import Derived.ChangeSlices
import Derived.DataReads
import Derived.Deep.Quiet
import Derived.KernelRfl
import Derived.Laws.Build
import Derived.Laws.OwnMore
import Derived.Laws.Slices
import Derived.Laws.StructEq
import Derived.OpenShut
import Derived.ProofKit
import Derived.ShutString
import Derived.SizedLaws
import Derived.StillTail
import Derived.Test.YtnliofcjplnboaaProg
import Derived.Test.YtnliofcjplnboaaRows
import Derived.WalkKit
import Derived.Test.YtnliofcjplnboaaCSeqPairsa
import Derived.Test.YtnliofcjplnboaaCSeqPairsb
namespace Go.Proofs.Ytnliofcjplnboaa
open Go.RowKit
set_option linter.unusedVariables false
def laws_FnSeqPairs.E (code : List UInt8) (Q : Bool → Prop) : Prop :=
  (if decide ((code.length : Int) > 1048576) then Q true else spec_DrawSeqPairs.E code (fun r r2 => impl_SeqPairs.E r r2 (fun r3 => spec_SeqPairs.E r r2 (fun r4 => impl_SeqLong.E r r2 (fun r5 => (if (r3.length : Int) != (r4.length : Int) then Q false else spec_SeqLong.E r r2 (fun r6 => (if r5 != r6 then Q false else (if r5 != (r3.length : Int) then Q false else (∃ (I147 : Int → Prop) (mu148 : Int → Nat), I147 0 ∧ ∀ (i2 : Int), I147 i2 → (if decide (i2 < (r3.length : Int)) then ((0 : Int) ≤ i2 ∧ i2 < (r3.length : Int)) ∧ ((0 : Int) ≤ i2 ∧ i2 < (r4.length : Int)) ∧ (if !(eqPair (nth r3 i2) (nth r4 i2)) then Q false else ((0 : Int) ≤ i2 ∧ i2 < (r3.length : Int)) ∧ ((0 : Int) ≤ (nth r3 i2).A ∧ (nth r3 i2).A < (r.length : Int)) ∧ ((0 : Int) ≤ i2 ∧ i2 < (r3.length : Int)) ∧ ((0 : Int) ≤ (nth r3 i2).B ∧ (nth r3 i2).B < (r2.length : Int)) ∧ (if !(eqPt (nth r ((nth r3 i2).A)) (nth r2 ((nth r3 i2).B))) then Q false else (if decide (i2 > 0) then ((0 : Int) ≤ i2 ∧ i2 < (r3.length : Int)) ∧ ((r3.length : Int) ≤ 9223372036854775807 → I64 (i2 - 1)) ∧ ((0 : Int) ≤ i2 - 1 ∧ i2 - 1 < (r3.length : Int)) ∧ (if decide ((nth r3 i2).A ≤ (nth r3 (i2 - 1)).A) then Q false else ((0 : Int) ≤ i2 ∧ i2 < (r3.length : Int)) ∧ ((r3.length : Int) ≤ 9223372036854775807 → I64 (i2 - 1)) ∧ ((0 : Int) ≤ i2 - 1 ∧ i2 - 1 < (r3.length : Int)) ∧ (if decide ((nth r3 i2).B ≤ (nth r3 (i2 - 1)).B) then Q false else (-9223372036854775808 ≤ i2) ∧ I147 (i2 + 1) ∧ mu148 (i2 + 1) < mu148 i2)) else (-9223372036854775808 ≤ i2) ∧ I147 (i2 + 1) ∧ mu148 (i2 + 1) < mu148 i2))) else (if !(decide ((r.length : Int) ≤ 12)) then Q true else impl_SeqPairs.E r r (fun r7 => (if (r7.length : Int) == (r.length : Int) then impl_SeqLong.E r [] (fun r8 => Q (r8 == 0)) else Q false))))))))))))))
set_option maxHeartbeats 8000000 in
set_option maxRecDepth 100000 in
theorem laws_FnSeqPairs.calls {O : Ob} (w0 : World) (hO : Ok w0 O) (code : List UInt8) (A1 : Option Addr) (n2 c3 : Nat) (hp4 : Sl Kd.byte w0 (Fr O) (.slice A1 n2 c3) code) (Q : Bool → Prop) (h : laws_FnSeqPairs.E code Q) :
    Ret Try.prog 8 [.slice A1 n2 c3] w0 (fun v w' => ∃ (r0 : Bool), v = vb r0 ∧ Q r0 ∧ Gr w0 w' none) := by
  have H : (if decide ((code.length : Int) > 1048576) then Q true else spec_DrawSeqPairs.E code (fun r r2 => impl_SeqPairs.E r r2 (fun r3 => spec_SeqPairs.E r r2 (fun r4 => impl_SeqLong.E r r2 (fun r5 => (if (r3.length : Int) != (r4.length : Int) then Q false else spec_SeqLong.E r r2 (fun r6 => (if r5 != r6 then Q false else (if r5 != (r3.length : Int) then Q false else (∃ (I147 : Int → Prop) (mu148 : Int → Nat), I147 0 ∧ ∀ (i2 : Int), I147 i2 → (if decide (i2 < (r3.length : Int)) then ((0 : Int) ≤ i2 ∧ i2 < (r3.length : Int)) ∧ ((0 : Int) ≤ i2 ∧ i2 < (r4.length : Int)) ∧ (if !(eqPair (nth r3 i2) (nth r4 i2)) then Q false else ((0 : Int) ≤ i2 ∧ i2 < (r3.length : Int)) ∧ ((0 : Int) ≤ (nth r3 i2).A ∧ (nth r3 i2).A < (r.length : Int)) ∧ ((0 : Int) ≤ i2 ∧ i2 < (r3.length : Int)) ∧ ((0 : Int) ≤ (nth r3 i2).B ∧ (nth r3 i2).B < (r2.length : Int)) ∧ (if !(eqPt (nth r ((nth r3 i2).A)) (nth r2 ((nth r3 i2).B))) then Q false else (if decide (i2 > 0) then ((0 : Int) ≤ i2 ∧ i2 < (r3.length : Int)) ∧ ((r3.length : Int) ≤ 9223372036854775807 → I64 (i2 - 1)) ∧ ((0 : Int) ≤ i2 - 1 ∧ i2 - 1 < (r3.length : Int)) ∧ (if decide ((nth r3 i2).A ≤ (nth r3 (i2 - 1)).A) then Q false else ((0 : Int) ≤ i2 ∧ i2 < (r3.length : Int)) ∧ ((r3.length : Int) ≤ 9223372036854775807 → I64 (i2 - 1)) ∧ ((0 : Int) ≤ i2 - 1 ∧ i2 - 1 < (r3.length : Int)) ∧ (if decide ((nth r3 i2).B ≤ (nth r3 (i2 - 1)).B) then Q false else (-9223372036854775808 ≤ i2) ∧ I147 (i2 + 1) ∧ mu148 (i2 + 1) < mu148 i2)) else (-9223372036854775808 ≤ i2) ∧ I147 (i2 + 1) ∧ mu148 (i2 + 1) < mu148 i2))) else (if !(decide ((r.length : Int) ≤ 12)) then Q true else impl_SeqPairs.E r r (fun r7 => (if (r7.length : Int) == (r.length : Int) then impl_SeqLong.E r [] (fun r8 => Q (r8 == 0)) else Q false)))))))))))))) := h
  clear h
  have hc0 := Ct.init hO
  refine Ret_enter Try.func8 rfl 130 rfl [.tmp 2] rfl rfl ?_
  refine W_seq ?_
  refine W_reg ?_
  refine L_pu (P_assign (vb false) rfl) ?_
  refine L_nil ?_
  refine W_seq ?_
  refine W_seq ?_
  refine W_reg ?_
  refine L_pu (P_move (.slice A1 n2 c3) rfl) ?_
  have hl6 := hp4.le
  refine L_pu (P_len Try.underlying37 A1 n2 c3 hp4.len rfl) ?_
  refine L_pu (P_cmp (code.length : Int) 1048576 (decide ((code.length : Int) > 1048576)) rfl rfl rfl) ?_
  refine L_nil ?_
  refine W_cond (decide ((code.length : Int) > 1048576)) rfl (fun hq7 => ?_) (fun hq7 => ?_)
  · have H := ite_t H hq7
    refine W_seq ?_
    refine W_reg ?_
    refine L_pu (P_assign (vb true) rfl) ?_
    refine L_nil ?_
    refine W_ret ?_
    exact ⟨[vb true], ⟨_, rfl, rfl⟩, true, rfl, H, hc0.gr⟩
  · have H := ite_f H hq7
    refine W_skip ?_
    refine W_seq ?_
    refine W_reg ?_
    refine L_pu (P_move (.slice A1 n2 c3) rfl) ?_
    refine L_call go28 [.slice A1 n2 c3] rfl ((spec_DrawSeqPairs.calls w0 hc0.ok code A1 n2 c3 hp4 _ H).mono ?_)
    rintro _ w8 ⟨r, r2, A10, n11, c12, A15, n16, c17, rfl, H, g9, hk21, hk22, h13, h18⟩
    have hc23 := hc0.owns g9 hk21 hk22
    refine L_pu (P_move (.tuple #[.slice A10 n11 c12, .slice A15 n16 c17]) rfl) ?_
    refine L_pu (P_ext [.slice A10 n11 c12, .slice A15 n16 c17] 0 (.slice A10 n11 c12) rfl rfl) ?_
    refine L_pu (P_ext [.slice A10 n11 c12, .slice A15 n16 c17] 1 (.slice A15 n16 c17) rfl rfl) ?_
    refine L_pu (P_assign (.slice A10 n11 c12) rfl) ?_
    refine L_pu (P_assign (.slice A15 n16 c17) rfl) ?_
    refine L_nil ?_
    refine W_seq ?_
    refine W_reg ?_
    refine L_pu (P_move (.slice A10 n11 c12) rfl) ?_
    refine L_pu (P_move (.slice A15 n16 c17) rfl) ?_
    have h24 := Ow.gv (L := [blk (.slice A10 n11 c12), blk (.slice A15 n16 c17)]) (O := O) h13 hc23 (i := 0) rfl
    have hc25 := hc23.drop 0 rfl
    have h27 := (Ow.sd (L := [blk (.slice A10 n11 c12), blk (.slice A15 n16 c17)]) (O := O) h18 (i := 1) rfl (j := 0) rfl (by decide))
    have h28 := Ow.gv (L := [blk (.slice A15 n16 c17)]) (O := O) h27 hc25 (i := 0) rfl
    have hc29 := hc25.drop 0 rfl
    have h31 := (h24.st (.dr _ (L := [blk (.slice A15 n16 c17)]) (O := O) (j := 0) rfl))
    refine L_call go29 [.slice A10 n11 c12, .slice A15 n16 c17] rfl ((impl_SeqPairs.calls w8 hc29.ok r A10 n11 c12 h31 r2 A15 n16 c17 h28 _ H).mono ?_)
    rintro _ w32 ⟨r3, A34, n35, c36, rfl, H, g33, hk40, hk41, h37⟩
    have hk43 := Ok.unl (L := [blk (.slice A10 n11 c12), blk (.slice A15 n16 c17)]) (L' := []) (O := O) hc23 g33 hk40 hk41
    have h44 := Ow.unl (L := [blk (.slice A10 n11 c12), blk (.slice A15 n16 c17)]) (L' := []) (O := O) (fun _ _ _ _ _ _ h => h) (.cons _ (.cons _ (.slnil))) h37
    have hc42 := hc23.owns g33 hk43 hk41
    refine L_pu (P_assign (.slice A34 n35 c36) rfl) ?_
    refine L_nil ?_
    refine W_seq ?_
    refine W_reg ?_
    refine L_pu (P_move (.slice A10 n11 c12) rfl) ?_
    refine L_pu (P_move (.slice A15 n16 c17) rfl) ?_
    have h45 := (h13.sos g33 hk41)
    have h46 := Ow.gv (L := [blk (.slice A34 n35 c36), blk (.slice A10 n11 c12), blk (.slice A15 n16 c17)]) (O := O) h45 hc42 (i := 1) rfl
    have hc47 := hc42.drop 1 rfl
    have h49 := (Ow.sd (L := [blk (.slice A34 n35 c36), blk (.slice A10 n11 c12), blk (.slice A15 n16 c17)]) (O := O) (h18.sos g33 hk41) (i := 2) rfl (j := 1) rfl (by decide))
    have h50 := Ow.gv (L := [blk (.slice A34 n35 c36), blk (.slice A15 n16 c17)]) (O := O) h49 hc47 (i := 1) rfl
    have hc51 := hc47.drop 1 rfl
    have h53 := (h46.st (.dr _ (L := [blk (.slice A34 n35 c36), blk (.slice A15 n16 c17)]) (O := O) (j := 1) rfl))
    refine L_call go30 [.slice A10 n11 c12, .slice A15 n16 c17] rfl ((spec_SeqPairs.calls w32 hc51.ok r A10 n11 c12 h53 r2 A15 n16 c17 h50 _ H).mono ?_)
    rintro _ w54 ⟨r4, A56, n57, c58, rfl, H, g55, hk62, hk63, h59⟩
    have hk65 := Ok.unl (L := [blk (.slice A34 n35 c36), blk (.slice A10 n11 c12), blk (.slice A15 n16 c17)]) (L' := [blk (.slice A34 n35 c36)]) (O := O) hc42 g55 hk62 hk63
    have h66 := Ow.unl (L := [blk (.slice A34 n35 c36), blk (.slice A10 n11 c12), blk (.slice A15 n16 c17)]) (L' := [blk (.slice A34 n35 c36)]) (O := O) (fun _ _ _ _ _ _ h => h) (.cons_cons _ (.cons _ (.cons _ (.slnil)))) h59
    have hc64 := hc42.owns g55 hk65 hk63
    refine L_pu (P_assign (.slice A56 n57 c58) rfl) ?_
    refine L_nil ?_
    refine W_seq ?_
    refine W_reg ?_
    refine L_pu (P_move (.slice A10 n11 c12) rfl) ?_
    refine L_pu (P_move (.slice A15 n16 c17) rfl) ?_
    have h67 := ((h13.sos g33 hk41).sos g55 hk63)
    have h68 := Ow.gv (L := [blk (.slice A56 n57 c58), blk (.slice A34 n35 c36), blk (.slice A10 n11 c12), blk (.slice A15 n16 c17)]) (O := O) h67 hc64 (i := 2) rfl
    have hc69 := hc64.drop 2 rfl
    have h71 := (Ow.sd (L := [blk (.slice A56 n57 c58), blk (.slice A34 n35 c36), blk (.slice A10 n11 c12), blk (.slice A15 n16 c17)]) (O := O) ((h18.sos g33 hk41).sos g55 hk63) (i := 3) rfl (j := 2) rfl (by decide))
    have h72 := Ow.gv (L := [blk (.slice A56 n57 c58), blk (.slice A34 n35 c36), blk (.slice A15 n16 c17)]) (O := O) h71 hc69 (i := 2) rfl
    have hc73 := hc69.drop 2 rfl
    have h75 := (h68.st (.dr _ (L := [blk (.slice A56 n57 c58), blk (.slice A34 n35 c36), blk (.slice A15 n16 c17)]) (O := O) (j := 2) rfl))
    refine L_call go25 [.slice A10 n11 c12, .slice A15 n16 c17] rfl ((impl_SeqLong.calls w54 hc73.ok r A10 n11 c12 h75 r2 A15 n16 c17 h72 _ H).mono ?_)
    rintro _ w76 ⟨r5, rfl, H, g77⟩
    have hc81 := hc64.k0 g77
    refine L_pu (P_assign (vi r5) rfl) ?_
    refine L_nil ?_
    refine W_seq ?_
    refine W_seq ?_
    refine W_reg ?_
    refine L_pu (P_move (.slice A34 n35 c36) rfl) ?_
    have h82 := ((h44.sos g55 hk63).sn g77)
    have hl83 := h82.le
    refine L_pu (P_len Try.underlying43 A34 n35 c36 h82.len rfl) ?_
    refine L_pu (P_move (.slice A56 n57 c58) rfl) ?_
    have h84 := (h66.sn g77)
    have hl85 := h84.le
    refine L_pu (P_len Try.underlying43 A56 n57 c58 h84.len rfl) ?_
    refine L_pu (P_cmp (r3.length : Int) (r4.length : Int) ((r3.length : Int) != (r4.length : Int)) rfl rfl rfl) ?_
    refine L_pu (P_move (vb ((r3.length : Int) != (r4.length : Int))) rfl) ?_
    rcases bool_or ((r3.length : Int) != (r4.length : Int)) with hq86 | hq86
    · have H := ite_t H hq86
      refine L_pass (dj := 32) rfl rfl (.inl (by exact congrArg Value.bool hq86)) ?_
      refine L_pass (dj := 32) rfl rfl (.inl (by exact congrArg Value.bool hq86)) ?_
      refine L_pass (dj := 32) rfl rfl (.inl (by exact congrArg Value.bool hq86)) ?_
      refine L_pass (dj := 32) rfl rfl (.inl (by exact congrArg Value.bool hq86)) ?_
      refine L_pass (dj := 32) rfl rfl (.inl (by exact congrArg Value.bool hq86)) ?_
      refine L_pu (P_pick true (vb true) (by exact congrArg Value.bool hq86) rfl) ?_
      refine L_pu (P_move (vb true) rfl) ?_
      refine L_pass (dj := 39) rfl rfl (.inl rfl) ?_
      refine L_pass (dj := 39) rfl rfl (.inl rfl) ?_
      refine L_pass (dj := 39) rfl rfl (.inl rfl) ?_
      refine L_pass (dj := 39) rfl rfl (.inl rfl) ?_
      refine L_pu (P_pick true (vb true) (by exact congrArg Value.bool rfl) rfl) ?_
      refine L_nil ?_
      refine W_ct (b := true) rfl rfl ?_
      refine W_seq ?_
      refine W_reg ?_
      refine L_pu (P_assign (vb false) rfl) ?_
      refine L_nil ?_
      refine W_ret ?_
      have hc87 := hc81.drop 0 rfl
      have hc88 := hc87.drop 0 rfl
      have hc89 := hc88.drop 0 rfl
      have hc90 := hc89.drop 0 rfl
      exact ⟨[vb false], ⟨_, rfl, rfl⟩, false, rfl, H, hc90.gr⟩
    · have H := ite_f H hq86
      refine L_run (dj := 32) rfl rfl (by exact congrArg Value.bool hq86) ?_
      refine L_pu (P_move (vi r5) rfl) ?_
      refine L_run (dj := 32) rfl rfl (by exact congrArg Value.bool hq86) ?_
      refine L_pu (P_move (.slice A10 n11 c12) rfl) ?_
      refine L_run (dj := 32) rfl rfl (by exact congrArg Value.bool hq86) ?_
      refine L_pu (P_move (.slice A15 n16 c17) rfl) ?_
      refine L_run (dj := 32) rfl rfl (by exact congrArg Value.bool hq86) ?_
      have h91 := (((h13.sos g33 hk41).sos g55 hk63).sn g77)
      have h92 := Ow.gv (L := [blk (.slice A56 n57 c58), blk (.slice A34 n35 c36), blk (.slice A10 n11 c12), blk (.slice A15 n16 c17)]) (O := O) h91 hc81 (i := 2) rfl
      have hc93 := hc81.drop 2 rfl
      have h95 := (Ow.sd (L := [blk (.slice A56 n57 c58), blk (.slice A34 n35 c36), blk (.slice A10 n11 c12), blk (.slice A15 n16 c17)]) (O := O) (((h18.sos g33 hk41).sos g55 hk63).sn g77) (i := 3) rfl (j := 2) rfl (by decide))
      have h96 := Ow.gv (L := [blk (.slice A56 n57 c58), blk (.slice A34 n35 c36), blk (.slice A15 n16 c17)]) (O := O) h95 hc93 (i := 2) rfl
      have hc97 := hc93.drop 2 rfl
      have h99 := (h92.st (.dr _ (L := [blk (.slice A56 n57 c58), blk (.slice A34 n35 c36), blk (.slice A15 n16 c17)]) (O := O) (j := 2) rfl))
      refine L_call go23 [.slice A10 n11 c12, .slice A15 n16 c17] rfl ((spec_SeqLong.calls w76 hc97.ok r A10 n11 c12 h99 r2 A15 n16 c17 h96 _ H).mono ?_)
      rintro _ w100 ⟨r6, rfl, H, g101⟩
      have hc105 := hc81.k0 g101
      refine L_run (dj := 32) rfl rfl (by exact congrArg Value.bool hq86) ?_
      refine L_pu (P_cmp r5 r6 (r5 != r6) rfl rfl rfl) ?_
      refine L_pu (P_pick false (vb (r5 != r6)) (by exact congrArg Value.bool hq86) rfl) ?_
      refine L_pu (P_move (vb (r5 != r6)) rfl) ?_
      rcases bool_or (r5 != r6) with hq106 | hq106
      · have H := ite_t H hq106
        refine L_pass (dj := 39) rfl rfl (.inl (by exact congrArg Value.bool hq106)) ?_
        refine L_pass (dj := 39) rfl rfl (.inl (by exact congrArg Value.bool hq106)) ?_
        refine L_pass (dj := 39) rfl rfl (.inl (by exact congrArg Value.bool hq106)) ?_
        refine L_pass (dj := 39) rfl rfl (.inl (by exact congrArg Value.bool hq106)) ?_
        refine L_pu (P_pick true (vb true) (by exact congrArg Value.bool hq106) rfl) ?_
        refine L_nil ?_
        refine W_ct (b := true) rfl rfl ?_
        refine W_seq ?_
        refine W_reg ?_
        refine L_pu (P_assign (vb false) rfl) ?_
        refine L_nil ?_
        refine W_ret ?_
        have hc107 := hc105.drop 0 rfl
        have hc108 := hc107.drop 0 rfl
        have hc109 := hc108.drop 0 rfl
        have hc110 := hc109.drop 0 rfl
        exact ⟨[vb false], ⟨_, rfl, rfl⟩, false, rfl, H, hc110.gr⟩
      · have H := ite_f H hq106
        refine L_run (dj := 39) rfl rfl (by exact congrArg Value.bool hq106) ?_
        refine L_pu (P_move (vi r5) rfl) ?_
        refine L_run (dj := 39) rfl rfl (by exact congrArg Value.bool hq106) ?_
        refine L_pu (P_move (.slice A34 n35 c36) rfl) ?_
        refine L_run (dj := 39) rfl rfl (by exact congrArg Value.bool hq106) ?_
        have h111 := (h82.sn g101)
        refine L_pu (P_len Try.underlying43 A34 n35 c36 h111.len rfl) ?_
        refine L_run (dj := 39) rfl rfl (by exact congrArg Value.bool hq106) ?_
        refine L_pu (P_cmp r5 (r3.length : Int) (r5 != (r3.length : Int)) rfl rfl rfl) ?_
        refine L_pu (P_pick false (vb (r5 != (r3.length : Int))) (by exact congrArg Value.bool hq106) rfl) ?_
        refine L_nil ?_
        refine W_cond (r5 != (r3.length : Int)) rfl (fun hq112 => ?_) (fun hq112 => ?_)
        · have H := ite_t H hq112
          refine W_seq ?_
          refine W_reg ?_
          refine L_pu (P_assign (vb false) rfl) ?_
          refine L_nil ?_
          refine W_ret ?_
          have hc113 := hc105.drop 0 rfl
          have hc114 := hc113.drop 0 rfl
          have hc115 := hc114.drop 0 rfl
          have hc116 := hc115.drop 0 rfl
          exact ⟨[vb false], ⟨_, rfl, rfl⟩, false, rfl, H, hc116.gr⟩
        · have H := ite_f H hq112
          refine W_skip ?_
          refine W_seq ?_
          refine W_seq ?_
          refine W_reg ?_
          refine L_pu (P_assign (vi 0) rfl) ?_
          refine L_nil ?_
          refine W_block ?_
          obtain ⟨I147, mu148, hI149, H⟩ := H
          have h151 := ((((h13.sos g33 hk41).sos g55 hk63).sn g77).sn g101)
          have h152 := ((((h18.sos g33 hk41).sos g55 hk63).sn g77).sn g101)
          have h153 := (h84.sn g101)
          refine W_loop (α := Int) (fun (s : Int) t w137 => match s with | i2 => I147 i2 ∧ Has t [(3, .slice A10 n11 c12), (4, .slice A15 n16 c17), (5, .slice A34 n35 c36), (6, .slice A56 n57 c58), (8, vi i2)] ∧ Ct none w0 w137 [blk (.slice A56 n57 c58), blk (.slice A34 n35 c36), blk (.slice A10 n11 c12), blk (.slice A15 n16 c17)] O ∧ Ow kPt 41 w137 ([blk (.slice A56 n57 c58), blk (.slice A34 n35 c36), blk (.slice A10 n11 c12), blk (.slice A15 n16 c17)] ++ O) (.slice A10 n11 c12) r ∧ Ow kPt 41 w137 ([blk (.slice A56 n57 c58), blk (.slice A34 n35 c36), blk (.slice A10 n11 c12), blk (.slice A15 n16 c17)] ++ O) (.slice A15 n16 c17) r2 ∧ Ow kPair 46 w137 ([blk (.slice A56 n57 c58), blk (.slice A34 n35 c36), blk (.slice A10 n11 c12), blk (.slice A15 n16 c17)] ++ O) (.slice A34 n35 c36) r3 ∧ Ow kPair 46 w137 ([blk (.slice A56 n57 c58), blk (.slice A34 n35 c36), blk (.slice A10 n11 c12), blk (.slice A15 n16 c17)] ++ O) (.slice A56 n57 c58) r4) (fun (s : Int) => match s with | i2 => mu148 i2) 0 ⟨hI149, ⟨rfl, rfl, rfl, rfl, rfl, trivial⟩, hc105, h151, h152, h111, h153⟩ ?_
          rintro i2 _ w137 ⟨hI149, hh154, hc142, h143, h144, h145, h146⟩
          obtain ⟨u155, rfl⟩ := Has.ins hh154
          have H := H i2 hI149
          refine W_seq ?_
          refine W_seq ?_
          refine W_reg ?_
          refine L_pu (P_move (vi i2) rfl) ?_
          refine L_pu (P_move (.slice A34 n35 c36) rfl) ?_
          have hl156 := h145.le
          refine L_pu (P_len Try.underlying43 A34 n35 c36 h145.len rfl) ?_
          refine L_pu (P_cmp i2 (r3.length : Int) (decide (i2 < (r3.length : Int))) rfl rfl rfl) ?_
          refine L_nil ?_
          refine W_cond (decide (i2 < (r3.length : Int))) rfl (fun hq157 => ?_) (fun hq157 => ?_)
          · have H := ite_t H hq157
            refine W_skip ?_
            refine W_seq ?_
            refine W_block ?_
            refine W_seq ?_
            refine W_draw (fun x => Gr w137 x none) (by kernel_rfl) (by kernel_rfl) (Gr.drew _) ?_
            refine Q_pu (P_move (.slice A34 n35 c36) rfl) ?_
            refine Q_pu (P_move (vi i2) rfl) ?_
            obtain ⟨hb158, H⟩ := H
            obtain ⟨ad159, cs160, hA161, hR162, hcl163⟩ := h145.get default (by decide) i2 hb158
            obtain rfl := kPair.op hR162
            refine Q_pu (P_ia Try.underlying43 se43 A34 ad159 n35 c36 h145.len i2 rfl hA161 rfl hb158) ?_
            refine Q_pu (P_lda ag46 sz46 cQ (ad159.add (i2.toNat * 2)) [vi ((nth r3 i2).A), vi ((nth r3 i2).B)] rfl rfl hcl163) ?_
            refine Q_pu (P_move (.slice A56 n57 c58) rfl) ?_
            refine Q_pu (P_move (vi i2) rfl) ?_
            obtain ⟨hb165, H⟩ := H
            obtain ⟨ad166, cs167, hA168, hR169, hcl170⟩ := h146.get default (by decide) i2 hb165
            obtain rfl := kPair.op hR169
            refine Q_pu (P_ia Try.underlying43 se43 A56 ad166 n57 c58 h146.len i2 rfl hA168 rfl hb165) ?_
            refine Q_pu (P_lda ag46 sz46 cQ (ad166.add (i2.toNat * 2)) [vi ((nth r4 i2).A), vi ((nth r4 i2).B)] rfl rfl hcl170) ?_
            refine Q_pu (P_ne _ _ (eqPair (nth r3 i2) (nth r4 i2)) (qt46 (nth r3 i2) (nth r4 i2)) rfl rfl) ?_
            refine Q_pu (P_move (vb (!(eqPair (nth r3 i2) (nth r4 i2)))) rfl) ?_
            rcases bool_or (!(eqPair (nth r3 i2) (nth r4 i2))) with hq172 | hq172
            · have H := ite_t H hq172
              refine Q_pass (dj := 60) rfl rfl (.inl (by exact congrArg Value.bool hq172)) ?_
              refine Q_pass (dj := 60) rfl rfl (.inl (by exact congrArg Value.bool hq172)) ?_
              refine Q_pass (dj := 60) rfl rfl (.inl (by exact congrArg Value.bool hq172)) ?_
              refine Q_pass (dj := 60) rfl rfl (.inl (by exact congrArg Value.bool hq172)) ?_
              refine Q_pass (dj := 60) rfl rfl (.inl (by exact congrArg Value.bool hq172)) ?_
              refine Q_pass (dj := 60) rfl rfl (.inl (by exact congrArg Value.bool hq172)) ?_
              refine Q_pass (dj := 60) rfl rfl (.inl (by exact congrArg Value.bool hq172)) ?_
              refine Q_pass (dj := 60) rfl rfl (.inl (by exact congrArg Value.bool hq172)) ?_
              refine Q_pass (dj := 60) rfl rfl (.inl (by exact congrArg Value.bool hq172)) ?_
              refine Q_pass (dj := 60) rfl rfl (.inl (by exact congrArg Value.bool hq172)) ?_
              refine Q_pass (dj := 60) rfl rfl (.inl (by exact congrArg Value.bool hq172)) ?_
              refine Q_pass (dj := 60) rfl rfl (.inl (by exact congrArg Value.bool hq172)) ?_
              refine Q_pass (dj := 60) rfl rfl (.inl (by exact congrArg Value.bool hq172)) ?_
              refine Q_pass (dj := 60) rfl rfl (.inl (by exact congrArg Value.bool hq172)) ?_
              refine Q_pass (dj := 60) rfl rfl (.inl (by exact congrArg Value.bool hq172)) ?_
              refine Q_pass (dj := 60) rfl rfl (.inl (by exact congrArg Value.bool hq172)) ?_
              refine Q_pass (dj := 60) rfl rfl (.inl (by exact congrArg Value.bool hq172)) ?_
              refine Q_pu (P_pick true (vb true) (by exact congrArg Value.bool hq172) rfl) ?_
              refine Q_pu (P_move (vb true) rfl) ?_
              refine Q_pass (dj := 79) rfl rfl (.inl rfl) ?_
              refine Q_pass (dj := 79) rfl rfl (.inl rfl) ?_
              refine Q_pass (dj := 79) rfl rfl (.inl rfl) ?_
              refine Q_pass (dj := 82) rfl rfl (.inr rfl) ?_
              refine Q_pass (dj := 82) rfl rfl (.inr rfl) ?_
              refine Q_pass (dj := 82) rfl rfl (.inr rfl) ?_
              refine Q_pass (dj := 82) rfl rfl (.inr rfl) ?_
              refine Q_pass (dj := 82) rfl rfl (.inr rfl) ?_
              refine Q_pass (dj := 82) rfl rfl (.inr rfl) ?_
              refine Q_pass (dj := 82) rfl rfl (.inr rfl) ?_
              refine Q_pass (dj := 82) rfl rfl (.inr rfl) ?_
              refine Q_pass (dj := 82) rfl rfl (.inr rfl) ?_
              refine Q_pass (dj := 82) rfl rfl (.inr rfl) ?_
              refine Q_pass (dj := 82) rfl rfl (.inr rfl) ?_
              refine Q_pass (dj := 82) rfl rfl (.inr rfl) ?_
              refine Q_pass (dj := 82) rfl rfl (.inr rfl) ?_
              refine Q_pass (dj := 95) rfl rfl (.inr rfl) ?_
              refine Q_pass (dj := 95) rfl rfl (.inr rfl) ?_
              refine Q_pass (dj := 95) rfl rfl (.inr rfl) ?_
              refine Q_pass (dj := 95) rfl rfl (.inr rfl) ?_
              refine Q_pass (dj := 95) rfl rfl (.inr rfl) ?_
              refine Q_pass (dj := 95) rfl rfl (.inr rfl) ?_
              refine Q_pass (dj := 95) rfl rfl (.inr rfl) ?_
              refine Q_pass (dj := 95) rfl rfl (.inr rfl) ?_
              refine Q_pass (dj := 95) rfl rfl (.inr rfl) ?_
              refine Q_pass (dj := 95) rfl rfl (.inr rfl) ?_
              refine Q_pass (dj := 95) rfl rfl (.inr rfl) ?_
              refine Q_pass (dj := 95) rfl rfl (.inr rfl) ?_
              refine Q_pass (dj := 82) rfl rfl (.inr rfl) ?_
              refine Q_pass (dj := 79) rfl rfl (.inl rfl) ?_
              refine Q_pu (P_pick true (vb true) (by exact congrArg Value.bool rfl) rfl) ?_
              refine Q_nil fun w173 g174 => ?_
              have hc176 := hc142.k0 g174
              refine W_ct (b := true) rfl rfl ?_
              refine W_seq ?_
              refine W_reg ?_
              refine L_pu (P_assign (vb false) rfl) ?_
              refine L_nil ?_
              refine W_ret ?_
              have hc177 := hc176.drop 0 rfl
              have hc178 := hc177.drop 0 rfl
              have hc179 := hc178.drop 0 rfl
              have hc180 := hc179.drop 0 rfl
              exact ⟨[vb false], ⟨_, rfl, rfl⟩, false, rfl, H, hc180.gr⟩
            · have H := ite_f H hq172
              refine Q_run (dj := 60) rfl rfl (by exact congrArg Value.bool hq172) ?_
              refine Q_pu (P_move (.slice A10 n11 c12) rfl) ?_
              refine Q_run (dj := 60) rfl rfl (by exact congrArg Value.bool hq172) ?_
              refine Q_pu (P_move (.slice A34 n35 c36) rfl) ?_
              refine Q_run (dj := 60) rfl rfl (by exact congrArg Value.bool hq172) ?_
              refine Q_pu (P_move (vi i2) rfl) ?_
              refine Q_run (dj := 60) rfl rfl (by exact congrArg Value.bool hq172) ?_
              obtain ⟨hb181, H⟩ := H
              obtain ⟨ad182, cs183, hA184, hR185, hcl186⟩ := h145.get default (by decide) i2 hb181
              obtain rfl := kPair.op hR185
              refine Q_pu (P_ia Try.underlying43 se43 A34 ad182 n35 c36 h145.len i2 rfl hA184 rfl hb181) ?_
              refine Q_run (dj := 60) rfl rfl (by exact congrArg Value.bool hq172) ?_
              refine Q_pu (P_fa fa46_0 (ad182.add (i2.toNat * 2)) ((ad182.add (i2.toNat * 2)).add 0) rfl rfl) ?_
              refine Q_run (dj := 60) rfl rfl (by exact congrArg Value.bool hq172) ?_
              refine Q_pu (P_ld ag3 cQ ((ad182.add (i2.toNat * 2)).add 0) (vi ((nth r3 i2).A)) rfl (hcl186 0 _ rfl)) ?_
              refine Q_run (dj := 60) rfl rfl (by exact congrArg Value.bool hq172) ?_
              obtain ⟨hb188, H⟩ := H
              obtain ⟨ad189, cs190, hA191, hR192, hcl193⟩ := h143.get default (by decide) ((nth r3 i2).A) hb188
              obtain rfl := kPt.op hR192
              refine Q_pu (P_ia Try.underlying33 se33 A10 ad189 n11 c12 h143.len ((nth r3 i2).A) rfl hA191 rfl hb188) ?_
              refine Q_run (dj := 60) rfl rfl (by exact congrArg Value.bool hq172) ?_
              refine Q_pu (P_lda ag41 sz41 cQ (ad189.add (((nth r3 i2).A).toNat * 2)) [vi ((nth r ((nth r3 i2).A)).X), vi ((nth r ((nth r3 i2).A)).Y)] rfl rfl hcl193) ?_
              refine Q_run (dj := 60) rfl rfl (by exact congrArg Value.bool hq172) ?_
              refine Q_pu (P_move (.slice A15 n16 c17) rfl) ?_
              refine Q_run (dj := 60) rfl rfl (by exact congrArg Value.bool hq172) ?_
              refine Q_pu (P_move (.slice A34 n35 c36) rfl) ?_
              refine Q_run (dj := 60) rfl rfl (by exact congrArg Value.bool hq172) ?_
              refine Q_pu (P_move (vi i2) rfl) ?_
              refine Q_run (dj := 60) rfl rfl (by exact congrArg Value.bool hq172) ?_
              obtain ⟨hb195, H⟩ := H
              obtain ⟨ad196, cs197, hA198, hR199, hcl200⟩ := h145.get default (by decide) i2 hb195
              obtain rfl := kPair.op hR199
              refine Q_pu (P_ia Try.underlying43 se43 A34 ad196 n35 c36 h145.len i2 rfl hA198 rfl hb195) ?_
              refine Q_run (dj := 60) rfl rfl (by exact congrArg Value.bool hq172) ?_
              refine Q_pu (P_fa fa46_1 (ad196.add (i2.toNat * 2)) ((ad196.add (i2.toNat * 2)).add 1) rfl rfl) ?_
              refine Q_run (dj := 60) rfl rfl (by exact congrArg Value.bool hq172) ?_
              refine Q_pu (P_ld ag3 cQ ((ad196.add (i2.toNat * 2)).add 1) (vi ((nth r3 i2).B)) rfl (hcl200 1 _ rfl)) ?_
              refine Q_run (dj := 60) rfl rfl (by exact congrArg Value.bool hq172) ?_
              obtain ⟨hb202, H⟩ := H
              obtain ⟨ad203, cs204, hA205, hR206, hcl207⟩ := h144.get default (by decide) ((nth r3 i2).B) hb202
              obtain rfl := kPt.op hR206
              refine Q_pu (P_ia Try.underlying33 se33 A15 ad203 n16 c17 h144.len ((nth r3 i2).B) rfl hA205 rfl hb202) ?_
              refine Q_run (dj := 60) rfl rfl (by exact congrArg Value.bool hq172) ?_
              refine Q_pu (P_lda ag41 sz41 cQ (ad203.add (((nth r3 i2).B).toNat * 2)) [vi ((nth r2 ((nth r3 i2).B)).X), vi ((nth r2 ((nth r3 i2).B)).Y)] rfl rfl hcl207) ?_
              refine Q_run (dj := 60) rfl rfl (by exact congrArg Value.bool hq172) ?_
              refine Q_pu (P_ne _ _ (eqPt (nth r ((nth r3 i2).A)) (nth r2 ((nth r3 i2).B))) (qt41 (nth r ((nth r3 i2).A)) (nth r2 ((nth r3 i2).B))) rfl rfl) ?_
              refine Q_pu (P_pick false (vb (!(eqPt (nth r ((nth r3 i2).A)) (nth r2 ((nth r3 i2).B))))) (by exact congrArg Value.bool hq172) rfl) ?_
              refine Q_pu (P_move (vb (!(eqPt (nth r ((nth r3 i2).A)) (nth r2 ((nth r3 i2).B))))) rfl) ?_
              rcases bool_or (!(eqPt (nth r ((nth r3 i2).A)) (nth r2 ((nth r3 i2).B)))) with hq209 | hq209
              · have H := ite_t H hq209
                refine Q_pass (dj := 79) rfl rfl (.inl (by exact congrArg Value.bool hq209)) ?_
                refine Q_pass (dj := 79) rfl rfl (.inl (by exact congrArg Value.bool hq209)) ?_
                refine Q_pass (dj := 79) rfl rfl (.inl (by exact congrArg Value.bool hq209)) ?_
                refine Q_pass (dj := 82) rfl rfl (.inr rfl) ?_
                refine Q_pass (dj := 82) rfl rfl (.inr rfl) ?_
                refine Q_pass (dj := 82) rfl rfl (.inr rfl) ?_
                refine Q_pass (dj := 82) rfl rfl (.inr rfl) ?_
                refine Q_pass (dj := 82) rfl rfl (.inr rfl) ?_
                refine Q_pass (dj := 82) rfl rfl (.inr rfl) ?_
                refine Q_pass (dj := 82) rfl rfl (.inr rfl) ?_
                refine Q_pass (dj := 82) rfl rfl (.inr rfl) ?_
                refine Q_pass (dj := 82) rfl rfl (.inr rfl) ?_
                refine Q_pass (dj := 82) rfl rfl (.inr rfl) ?_
                refine Q_pass (dj := 82) rfl rfl (.inr rfl) ?_
                refine Q_pass (dj := 82) rfl rfl (.inr rfl) ?_
                refine Q_pass (dj := 82) rfl rfl (.inr rfl) ?_
                refine Q_pass (dj := 95) rfl rfl (.inr rfl) ?_
                refine Q_pass (dj := 95) rfl rfl (.inr rfl) ?_
                refine Q_pass (dj := 95) rfl rfl (.inr rfl) ?_
                refine Q_pass (dj := 95) rfl rfl (.inr rfl) ?_
                refine Q_pass (dj := 95) rfl rfl (.inr rfl) ?_
                refine Q_pass (dj := 95) rfl rfl (.inr rfl) ?_
                refine Q_pass (dj := 95) rfl rfl (.inr rfl) ?_
                refine Q_pass (dj := 95) rfl rfl (.inr rfl) ?_
                refine Q_pass (dj := 95) rfl rfl (.inr rfl) ?_
                refine Q_pass (dj := 95) rfl rfl (.inr rfl) ?_
                refine Q_pass (dj := 95) rfl rfl (.inr rfl) ?_
                refine Q_pass (dj := 95) rfl rfl (.inr rfl) ?_
                refine Q_pass (dj := 82) rfl rfl (.inr rfl) ?_
                refine Q_pass (dj := 79) rfl rfl (.inl (by exact congrArg Value.bool hq209)) ?_
                refine Q_pu (P_pick true (vb true) (by exact congrArg Value.bool hq209) rfl) ?_
                refine Q_nil fun w210 g211 => ?_
                have hc213 := hc142.k0 g211
                refine W_ct (b := true) rfl rfl ?_
                refine W_seq ?_
                refine W_reg ?_
                refine L_pu (P_assign (vb false) rfl) ?_
                refine L_nil ?_
                refine W_ret ?_
                have hc214 := hc213.drop 0 rfl
                have hc215 := hc214.drop 0 rfl
                have hc216 := hc215.drop 0 rfl
                have hc217 := hc216.drop 0 rfl
                exact ⟨[vb false], ⟨_, rfl, rfl⟩, false, rfl, H, hc217.gr⟩
              · have H := ite_f H hq209
                refine Q_run (dj := 79) rfl rfl (by exact congrArg Value.bool hq209) ?_
                refine Q_pu (P_move (vi i2) rfl) ?_
                refine Q_run (dj := 79) rfl rfl (by exact congrArg Value.bool hq209) ?_
                refine Q_pu (P_cmp i2 0 (decide (i2 > 0)) rfl rfl rfl) ?_
                refine Q_run (dj := 79) rfl rfl (by exact congrArg Value.bool hq209) ?_
                refine Q_pu (P_move (vb (decide (i2 > 0))) rfl) ?_
                rcases bool_or (decide (i2 > 0)) with hq218 | hq218
                · have H := ite_t H hq218
                  refine Q_run (dj := 82) rfl rfl (by exact congrArg Value.bool hq218) ?_
                  refine Q_pu (P_move (.slice A34 n35 c36) rfl) ?_
                  refine Q_run (dj := 82) rfl rfl (by exact congrArg Value.bool hq218) ?_
                  refine Q_pu (P_move (vi i2) rfl) ?_
                  refine Q_run (dj := 82) rfl rfl (by exact congrArg Value.bool hq218) ?_
                  obtain ⟨hb219, H⟩ := H
                  obtain ⟨ad220, cs221, hA222, hR223, hcl224⟩ := h145.get default (by decide) i2 hb219
                  obtain rfl := kPair.op hR223
                  refine Q_pu (P_ia Try.underlying43 se43 A34 ad220 n35 c36 h145.len i2 rfl hA222 rfl hb219) ?_
                  refine Q_run (dj := 82) rfl rfl (by exact congrArg Value.bool hq218) ?_
                  refine Q_pu (P_fa fa46_0 (ad220.add (i2.toNat * 2)) ((ad220.add (i2.toNat * 2)).add 0) rfl rfl) ?_
                  refine Q_run (dj := 82) rfl rfl (by exact congrArg Value.bool hq218) ?_
                  refine Q_pu (P_ld ag3 cQ ((ad220.add (i2.toNat * 2)).add 0) (vi ((nth r3 i2).A)) rfl (hcl224 0 _ rfl)) ?_
                  refine Q_run (dj := 82) rfl rfl (by exact congrArg Value.bool hq218) ?_
                  refine Q_pu (P_move (.slice A34 n35 c36) rfl) ?_
                  refine Q_run (dj := 82) rfl rfl (by exact congrArg Value.bool hq218) ?_
                  refine Q_pu (P_move (vi i2) rfl) ?_
                  refine Q_run (dj := 82) rfl rfl (by exact congrArg Value.bool hq218) ?_
                  obtain ⟨hb226, H⟩ := H
                  have hi227 := hb226 (len_le hl156)
                  refine Q_pu (P_sub i2 1 rfl rfl hi227) ?_
                  refine Q_run (dj := 82) rfl rfl (by exact congrArg Value.bool hq218) ?_
                  obtain ⟨hb228, H⟩ := H
                  obtain ⟨ad229, cs230, hA231, hR232, hcl233⟩ := h145.get default (by decide) (i2 - 1) hb228
                  obtain rfl := kPair.op hR232
                  refine Q_pu (P_ia Try.underlying43 se43 A34 ad229 n35 c36 h145.len (i2 - 1) rfl hA231 rfl hb228) ?_
                  refine Q_run (dj := 82) rfl rfl (by exact congrArg Value.bool hq218) ?_
                  refine Q_pu (P_fa fa46_0 (ad229.add ((i2 - 1).toNat * 2)) ((ad229.add ((i2 - 1).toNat * 2)).add 0) rfl rfl) ?_
                  refine Q_run (dj := 82) rfl rfl (by exact congrArg Value.bool hq218) ?_
                  refine Q_pu (P_ld ag3 cQ ((ad229.add ((i2 - 1).toNat * 2)).add 0) (vi ((nth r3 (i2 - 1)).A)) rfl (hcl233 0 _ rfl)) ?_
                  refine Q_run (dj := 82) rfl rfl (by exact congrArg Value.bool hq218) ?_
                  refine Q_pu (P_cmp ((nth r3 i2).A) ((nth r3 (i2 - 1)).A) (decide ((nth r3 i2).A ≤ (nth r3 (i2 - 1)).A)) rfl rfl rfl) ?_
                  refine Q_run (dj := 82) rfl rfl (by exact congrArg Value.bool hq218) ?_
                  refine Q_pu (P_move (vb (decide ((nth r3 i2).A ≤ (nth r3 (i2 - 1)).A))) rfl) ?_
                  rcases bool_or (decide ((nth r3 i2).A ≤ (nth r3 (i2 - 1)).A)) with hq235 | hq235
                  · have H := ite_t H hq235
                    refine Q_pass (dj := 95) rfl rfl (.inl (by exact congrArg Value.bool hq235)) ?_
                    refine Q_pass (dj := 95) rfl rfl (.inl (by exact congrArg Value.bool hq235)) ?_
                    refine Q_pass (dj := 95) rfl rfl (.inl (by exact congrArg Value.bool hq235)) ?_
                    refine Q_pass (dj := 95) rfl rfl (.inl (by exact congrArg Value.bool hq235)) ?_
                    refine Q_pass (dj := 95) rfl rfl (.inl (by exact congrArg Value.bool hq235)) ?_
                    refine Q_pass (dj := 95) rfl rfl (.inl (by exact congrArg Value.bool hq235)) ?_
                    refine Q_pass (dj := 95) rfl rfl (.inl (by exact congrArg Value.bool hq235)) ?_
                    refine Q_pass (dj := 95) rfl rfl (.inl (by exact congrArg Value.bool hq235)) ?_
                    refine Q_pass (dj := 95) rfl rfl (.inl (by exact congrArg Value.bool hq235)) ?_
                    refine Q_pass (dj := 95) rfl rfl (.inl (by exact congrArg Value.bool hq235)) ?_
                    refine Q_pass (dj := 95) rfl rfl (.inl (by exact congrArg Value.bool hq235)) ?_
                    refine Q_pass (dj := 95) rfl rfl (.inl (by exact congrArg Value.bool hq235)) ?_
                    refine Q_run (dj := 82) rfl rfl (by exact congrArg Value.bool hq218) ?_
                    refine Q_pu (P_pick true (vb true) (by exact congrArg Value.bool hq235) rfl) ?_
                    refine Q_run (dj := 79) rfl rfl (by exact congrArg Value.bool hq209) ?_
                    refine Q_pu (P_pick true (vb true) (by exact congrArg Value.bool hq218) rfl) ?_
                    refine Q_pu (P_pick false (vb true) (by exact congrArg Value.bool hq209) rfl) ?_
                    refine Q_nil fun w236 g237 => ?_
                    have hc239 := hc142.k0 g237
                    refine W_ct (b := true) rfl rfl ?_
                    refine W_seq ?_
                    refine W_reg ?_
                    refine L_pu (P_assign (vb false) rfl) ?_
                    refine L_nil ?_
                    refine W_ret ?_
                    have hc240 := hc239.drop 0 rfl
                    have hc241 := hc240.drop 0 rfl
                    have hc242 := hc241.drop 0 rfl
                    have hc243 := hc242.drop 0 rfl
                    exact ⟨[vb false], ⟨_, rfl, rfl⟩, false, rfl, H, hc243.gr⟩
                  · have H := ite_f H hq235
                    refine Q_run (dj := 95) rfl rfl (by exact congrArg Value.bool hq235) ?_
                    refine Q_pu (P_move (.slice A34 n35 c36) rfl) ?_
                    refine Q_run (dj := 95) rfl rfl (by exact congrArg Value.bool hq235) ?_
                    refine Q_pu (P_move (vi i2) rfl) ?_
                    refine Q_run (dj := 95) rfl rfl (by exact congrArg Value.bool hq235) ?_
                    obtain ⟨hb244, H⟩ := H
                    obtain ⟨ad245, cs246, hA247, hR248, hcl249⟩ := h145.get default (by decide) i2 hb244
                    obtain rfl := kPair.op hR248
                    refine Q_pu (P_ia Try.underlying43 se43 A34 ad245 n35 c36 h145.len i2 rfl hA247 rfl hb244) ?_
                    refine Q_run (dj := 95) rfl rfl (by exact congrArg Value.bool hq235) ?_
                    refine Q_pu (P_fa fa46_1 (ad245.add (i2.toNat * 2)) ((ad245.add (i2.toNat * 2)).add 1) rfl rfl) ?_
                    refine Q_run (dj := 95) rfl rfl (by exact congrArg Value.bool hq235) ?_
                    refine Q_pu (P_ld ag3 cQ ((ad245.add (i2.toNat * 2)).add 1) (vi ((nth r3 i2).B)) rfl (hcl249 1 _ rfl)) ?_
                    refine Q_run (dj := 95) rfl rfl (by exact congrArg Value.bool hq235) ?_
                    refine Q_pu (P_move (.slice A34 n35 c36) rfl) ?_
                    refine Q_run (dj := 95) rfl rfl (by exact congrArg Value.bool hq235) ?_
                    refine Q_pu (P_move (vi i2) rfl) ?_
                    refine Q_run (dj := 95) rfl rfl (by exact congrArg Value.bool hq235) ?_
                    obtain ⟨hb251, H⟩ := H
                    have hi252 := hb251 (len_le hl156)
                    refine Q_pu (P_sub i2 1 rfl rfl hi252) ?_
                    refine Q_run (dj := 95) rfl rfl (by exact congrArg Value.bool hq235) ?_
                    obtain ⟨hb253, H⟩ := H
                    obtain ⟨ad254, cs255, hA256, hR257, hcl258⟩ := h145.get default (by decide) (i2 - 1) hb253
                    obtain rfl := kPair.op hR257
                    refine Q_pu (P_ia Try.underlying43 se43 A34 ad254 n35 c36 h145.len (i2 - 1) rfl hA256 rfl hb253) ?_
                    refine Q_run (dj := 95) rfl rfl (by exact congrArg Value.bool hq235) ?_
                    refine Q_pu (P_fa fa46_1 (ad254.add ((i2 - 1).toNat * 2)) ((ad254.add ((i2 - 1).toNat * 2)).add 1) rfl rfl) ?_
                    refine Q_run (dj := 95) rfl rfl (by exact congrArg Value.bool hq235) ?_
                    refine Q_pu (P_ld ag3 cQ ((ad254.add ((i2 - 1).toNat * 2)).add 1) (vi ((nth r3 (i2 - 1)).B)) rfl (hcl258 1 _ rfl)) ?_
                    refine Q_run (dj := 95) rfl rfl (by exact congrArg Value.bool hq235) ?_
                    refine Q_pu (P_cmp ((nth r3 i2).B) ((nth r3 (i2 - 1)).B) (decide ((nth r3 i2).B ≤ (nth r3 (i2 - 1)).B)) rfl rfl rfl) ?_
                    refine Q_run (dj := 82) rfl rfl (by exact congrArg Value.bool hq218) ?_
                    refine Q_pu (P_pick false (vb (decide ((nth r3 i2).B ≤ (nth r3 (i2 - 1)).B))) (by exact congrArg Value.bool hq235) rfl) ?_
                    refine Q_run (dj := 79) rfl rfl (by exact congrArg Value.bool hq209) ?_
                    refine Q_pu (P_pick true (vb (decide ((nth r3 i2).B ≤ (nth r3 (i2 - 1)).B))) (by exact congrArg Value.bool hq218) rfl) ?_
                    refine Q_pu (P_pick false (vb (decide ((nth r3 i2).B ≤ (nth r3 (i2 - 1)).B))) (by exact congrArg Value.bool hq209) rfl) ?_
                    refine Q_nil fun w260 g261 => ?_
                    have hc263 := hc142.k0 g261
                    refine W_cond (decide ((nth r3 i2).B ≤ (nth r3 (i2 - 1)).B)) rfl (fun hq264 => ?_) (fun hq264 => ?_)
                    · have H := ite_t H hq264
                      refine W_seq ?_
                      refine W_reg ?_
                      refine L_pu (P_assign (vb false) rfl) ?_
                      refine L_nil ?_
                      refine W_ret ?_
                      have hc265 := hc263.drop 0 rfl
                      have hc266 := hc265.drop 0 rfl
                      have hc267 := hc266.drop 0 rfl
                      have hc268 := hc267.drop 0 rfl
                      exact ⟨[vb false], ⟨_, rfl, rfl⟩, false, rfl, H, hc268.gr⟩
                    · have H := ite_f H hq264
                      refine W_skip ?_
                      refine W_reg ?_
                      refine L_pu (P_move (vi i2) rfl) ?_
                      obtain ⟨hb270, H⟩ := H
                      have hi269 : I64 (i2 + 1) := i64_succ (of_decide_eq_true hq157) hl156 hb270
                      refine L_pu (P_add i2 1 rfl rfl hi269) ?_
                      refine L_pu (P_assign (vi (i2 + 1)) rfl) ?_
                      refine L_nil ?_
                      obtain ⟨hI271, hm272⟩ := H
                      have h273 := (h143.sn g261)
                      have h274 := (h144.sn g261)
                      have h275 := (h145.sn g261)
                      have h276 := (h146.sn g261)
                      exact ⟨i2 + 1, hm272, hI271, ⟨rfl, rfl, rfl, rfl, rfl, trivial⟩, hc263, h273, h274, h275, h276⟩
                · have H := ite_f H hq218
                  refine Q_pass (dj := 82) rfl rfl (.inl (by exact congrArg Value.bool hq218)) ?_
                  refine Q_pass (dj := 82) rfl rfl (.inl (by exact congrArg Value.bool hq218)) ?_
                  refine Q_pass (dj := 82) rfl rfl (.inl (by exact congrArg Value.bool hq218)) ?_
                  refine Q_pass (dj := 82) rfl rfl (.inl (by exact congrArg Value.bool hq218)) ?_
                  refine Q_pass (dj := 82) rfl rfl (.inl (by exact congrArg Value.bool hq218)) ?_
                  refine Q_pass (dj := 82) rfl rfl (.inl (by exact congrArg Value.bool hq218)) ?_
                  refine Q_pass (dj := 82) rfl rfl (.inl (by exact congrArg Value.bool hq218)) ?_
                  refine Q_pass (dj := 82) rfl rfl (.inl (by exact congrArg Value.bool hq218)) ?_
                  refine Q_pass (dj := 82) rfl rfl (.inl (by exact congrArg Value.bool hq218)) ?_
                  refine Q_pass (dj := 82) rfl rfl (.inl (by exact congrArg Value.bool hq218)) ?_
                  refine Q_pass (dj := 82) rfl rfl (.inl (by exact congrArg Value.bool hq218)) ?_
                  refine Q_pass (dj := 82) rfl rfl (.inl (by exact congrArg Value.bool hq218)) ?_
                  refine Q_pass (dj := 82) rfl rfl (.inl (by exact congrArg Value.bool hq218)) ?_
                  refine Q_pass (dj := 95) rfl rfl (.inr rfl) ?_
                  refine Q_pass (dj := 95) rfl rfl (.inr rfl) ?_
                  refine Q_pass (dj := 95) rfl rfl (.inr rfl) ?_
                  refine Q_pass (dj := 95) rfl rfl (.inr rfl) ?_
                  refine Q_pass (dj := 95) rfl rfl (.inr rfl) ?_
                  refine Q_pass (dj := 95) rfl rfl (.inr rfl) ?_
                  refine Q_pass (dj := 95) rfl rfl (.inr rfl) ?_
                  refine Q_pass (dj := 95) rfl rfl (.inr rfl) ?_
                  refine Q_pass (dj := 95) rfl rfl (.inr rfl) ?_
                  refine Q_pass (dj := 95) rfl rfl (.inr rfl) ?_
                  refine Q_pass (dj := 95) rfl rfl (.inr rfl) ?_
                  refine Q_pass (dj := 95) rfl rfl (.inr rfl) ?_
                  refine Q_pass (dj := 82) rfl rfl (.inl (by exact congrArg Value.bool hq218)) ?_
                  refine Q_run (dj := 79) rfl rfl (by exact congrArg Value.bool hq209) ?_
                  refine Q_pu (P_pick false (vb false) (by exact congrArg Value.bool hq218) rfl) ?_
                  refine Q_pu (P_pick false (vb false) (by exact congrArg Value.bool hq209) rfl) ?_
                  refine Q_nil fun w277 g278 => ?_
                  have hc280 := hc142.k0 g278
                  refine W_cf (b := false) rfl rfl ?_
                  refine W_skip ?_
                  refine W_reg ?_
                  refine L_pu (P_move (vi i2) rfl) ?_
                  obtain ⟨hb282, H⟩ := H
                  have hi281 : I64 (i2 + 1) := i64_succ (of_decide_eq_true hq157) hl156 hb282
                  refine L_pu (P_add i2 1 rfl rfl hi281) ?_
                  refine L_pu (P_assign (vi (i2 + 1)) rfl) ?_
                  refine L_nil ?_
                  obtain ⟨hI283, hm284⟩ := H
                  have h285 := (h143.sn g278)
                  have h286 := (h144.sn g278)
                  have h287 := (h145.sn g278)
                  have h288 := (h146.sn g278)
                  exact ⟨i2 + 1, hm284, hI283, ⟨rfl, rfl, rfl, rfl, rfl, trivial⟩, hc280, h285, h286, h287, h288⟩
          · have H := ite_f H hq157
            refine W_exit (xin_hit ?_)
            refine W_seq ?_
            refine W_reg ?_
            refine L_pu (P_move (.slice A10 n11 c12) rfl) ?_
            have hl289 := h143.le
            refine L_pu (P_len Try.underlying33 A10 n11 c12 h143.len rfl) ?_
            refine L_pu (P_cmp (r.length : Int) 12 (decide ((r.length : Int) ≤ 12)) rfl rfl rfl) ?_
            refine L_pu (P_assign (vb (decide ((r.length : Int) ≤ 12))) rfl) ?_
            refine L_nil ?_
            refine W_seq ?_
            refine W_reg ?_
            refine L_pu (P_move (vb (decide ((r.length : Int) ≤ 12))) rfl) ?_
            refine L_pu (P_not (decide ((r.length : Int) ≤ 12)) rfl) ?_
            refine L_pu (P_move (vb (!(decide ((r.length : Int) ≤ 12)))) rfl) ?_
            rcases bool_or (!(decide ((r.length : Int) ≤ 12))) with hq290 | hq290
            · have H := ite_t H hq290
              refine L_pass (dj := 116) rfl rfl (.inl (by exact congrArg Value.bool hq290)) ?_
              refine L_pass (dj := 116) rfl rfl (.inl (by exact congrArg Value.bool hq290)) ?_
              refine L_pass (dj := 116) rfl rfl (.inl (by exact congrArg Value.bool hq290)) ?_
              refine L_pass (dj := 116) rfl rfl (.inl (by exact congrArg Value.bool hq290)) ?_
              refine L_pass (dj := 116) rfl rfl (.inl (by exact congrArg Value.bool hq290)) ?_
              refine L_pass (dj := 116) rfl rfl (.inl (by exact congrArg Value.bool hq290)) ?_
              refine L_pass (dj := 116) rfl rfl (.inl (by exact congrArg Value.bool hq290)) ?_
              refine L_pass (dj := 116) rfl rfl (.inl (by exact congrArg Value.bool hq290)) ?_
              refine L_pass (dj := 124) rfl rfl (.inr rfl) ?_
              refine L_pass (dj := 124) rfl rfl (.inr rfl) ?_
              refine L_pass (dj := 124) rfl rfl (.inr rfl) ?_
              refine L_pass (dj := 116) rfl rfl (.inl (by exact congrArg Value.bool hq290)) ?_
              refine L_pu (P_pick true (vb true) (by exact congrArg Value.bool hq290) rfl) ?_
              refine L_pu (P_assign (vb true) rfl) ?_
              refine L_nil ?_
              refine W_ret ?_
              have hc291 := hc142.drop 0 rfl
              have hc292 := hc291.drop 0 rfl
              have hc293 := hc292.drop 0 rfl
              have hc294 := hc293.drop 0 rfl
              exact ⟨[vb true], ⟨_, rfl, rfl⟩, true, rfl, H, hc294.gr⟩
            · have H := ite_f H hq290
              refine L_run (dj := 116) rfl rfl (by exact congrArg Value.bool hq290) ?_
              refine L_pu (P_move (.slice A10 n11 c12) rfl) ?_
              refine L_run (dj := 116) rfl rfl (by exact congrArg Value.bool hq290) ?_
              refine L_pu (P_move (.slice A10 n11 c12) rfl) ?_
              refine L_run (dj := 116) rfl rfl (by exact congrArg Value.bool hq290) ?_
              have h295 := Ow.gv (L := [blk (.slice A56 n57 c58), blk (.slice A34 n35 c36), blk (.slice A10 n11 c12), blk (.slice A15 n16 c17)]) (O := O) h143 hc142 (i := 2) rfl
              have hc296 := hc142.drop 2 rfl
              refine L_call go29 [.slice A10 n11 c12, .slice A10 n11 c12] rfl ((impl_SeqPairs.calls w137 hc296.ok r A10 n11 c12 h295 r A10 n11 c12 h295 _ H).mono ?_)
              rintro _ w298 ⟨r7, A300, n301, c302, rfl, H, g299, hk306, hk307, h303⟩
              have hk309 := Ok.unl (L := [blk (.slice A56 n57 c58), blk (.slice A34 n35 c36), blk (.slice A10 n11 c12), blk (.slice A15 n16 c17)]) (L' := [blk (.slice A56 n57 c58), blk (.slice A34 n35 c36), blk (.slice A15 n16 c17)]) (O := O) hc142 g299 hk306 hk307
              have h310 := Ow.unl (L := [blk (.slice A56 n57 c58), blk (.slice A34 n35 c36), blk (.slice A10 n11 c12), blk (.slice A15 n16 c17)]) (L' := [blk (.slice A56 n57 c58), blk (.slice A34 n35 c36), blk (.slice A15 n16 c17)]) (O := O) (fun _ _ _ _ _ _ h => h) (.cons_cons _ (.cons_cons _ (.cons _ (.cons_cons _ (.slnil))))) h303
              have hc308 := hc142.owns g299 hk309 hk307
              refine L_run (dj := 116) rfl rfl (by exact congrArg Value.bool hq290) ?_
              have hl311 := h310.le
              refine L_pu (P_len Try.underlying43 A300 n301 c302 h310.len rfl) ?_
              refine L_run (dj := 116) rfl rfl (by exact congrArg Value.bool hq290) ?_
              refine L_pu (P_move (.slice A10 n11 c12) rfl) ?_
              refine L_run (dj := 116) rfl rfl (by exact congrArg Value.bool hq290) ?_
              have h312 := (h143.sos g299 hk307)
              refine L_pu (P_len Try.underlying33 A10 n11 c12 h312.len rfl) ?_
              refine L_run (dj := 116) rfl rfl (by exact congrArg Value.bool hq290) ?_
              refine L_pu (P_cmp (r7.length : Int) (r.length : Int) ((r7.length : Int) == (r.length : Int)) rfl rfl rfl) ?_
              refine L_run (dj := 116) rfl rfl (by exact congrArg Value.bool hq290) ?_
              refine L_pu (P_move (vb ((r7.length : Int) == (r.length : Int))) rfl) ?_
              rcases bool_or ((r7.length : Int) == (r.length : Int)) with hq313 | hq313
              · have H := ite_t H hq313
                refine L_run (dj := 124) rfl rfl (by exact congrArg Value.bool hq313) ?_
                refine L_pu (P_move (.slice A10 n11 c12) rfl) ?_
                refine L_run (dj := 124) rfl rfl (by exact congrArg Value.bool hq313) ?_
                have h314 := Ow.gv (L := [blk (.slice A300 n301 c302), blk (.slice A56 n57 c58), blk (.slice A34 n35 c36), blk (.slice A10 n11 c12), blk (.slice A15 n16 c17)]) (O := O) h312 hc308 (i := 3) rfl
                have hc315 := hc308.drop 3 rfl
                refine L_call go25 [.slice A10 n11 c12, .slice none 0 0] rfl ((impl_SeqLong.calls w298 hc315.ok r A10 n11 c12 h314 [] none 0 0 (Sl.nil _ _ _ none 0 (by decide)) _ H).mono ?_)
                rintro _ w317 ⟨r8, rfl, H, g318⟩
                have hc322 := hc308.k0 g318
                refine L_run (dj := 124) rfl rfl (by exact congrArg Value.bool hq313) ?_
                refine L_pu (P_cmp r8 0 (r8 == 0) rfl rfl rfl) ?_
                refine L_run (dj := 116) rfl rfl (by exact congrArg Value.bool hq290) ?_
                refine L_pu (P_pick true (vb (r8 == 0)) (by exact congrArg Value.bool hq313) rfl) ?_
                refine L_pu (P_pick false (vb (r8 == 0)) (by exact congrArg Value.bool hq290) rfl) ?_
                refine L_pu (P_assign (vb (r8 == 0)) rfl) ?_
                refine L_nil ?_
                refine W_ret ?_
                have hc323 := hc322.drop 0 rfl
                have hc324 := hc323.drop 0 rfl
                have hc325 := hc324.drop 0 rfl
                have hc326 := hc325.drop 0 rfl
                have hc327 := hc326.drop 0 rfl
                exact ⟨[vb (r8 == 0)], ⟨_, rfl, rfl⟩, r8 == 0, rfl, H, hc327.gr⟩
              · have H := ite_f H hq313
                refine L_pass (dj := 124) rfl rfl (.inl (by exact congrArg Value.bool hq313)) ?_
                refine L_pass (dj := 124) rfl rfl (.inl (by exact congrArg Value.bool hq313)) ?_
                refine L_pass (dj := 124) rfl rfl (.inl (by exact congrArg Value.bool hq313)) ?_
                refine L_run (dj := 116) rfl rfl (by exact congrArg Value.bool hq290) ?_
                refine L_pu (P_pick false (vb false) (by exact congrArg Value.bool hq313) rfl) ?_
                refine L_pu (P_pick false (vb false) (by exact congrArg Value.bool hq290) rfl) ?_
                refine L_pu (P_assign (vb false) rfl) ?_
                refine L_nil ?_
                refine W_ret ?_
                have hc328 := hc308.drop 0 rfl
                have hc329 := hc328.drop 0 rfl
                have hc330 := hc329.drop 0 rfl
                have hc331 := hc330.drop 0 rfl
                have hc332 := hc331.drop 0 rfl
                exact ⟨[vb false], ⟨_, rfl, rfl⟩, false, rfl, H, hc332.gr⟩
end Go.Proofs.Ytnliofcjplnboaa

namespace Go.Proofs.Ytnliofcjplnboaa
set_option linter.unusedVariables false
set_option linter.unusedSimpArgs false
theorem spairs_nth {a b : List Pt} {k : Nat} (h : k < (spairs a b).length) : ∃ i j : Nat, nth (spairs a b) (k : Int) = ⟨i, j⟩ ∧ i < a.length ∧ j < b.length ∧ nth a (i : Int) = nth b (j : Int) ∧ (∀ m : Nat, m < k → (nth (spairs a b) (m : Int)).A < i ∧ (nth (spairs a b) (m : Int)).B < j) := by
  by_cases hf : few a b = true
  · rw [spairs_few hf] at h ⊢
    rw [List.length_map] at h
    have e : ∀ m : Nat, m < (pairs 0 0 a b).length → nth ((pairs 0 0 a b).map mkP) (m : Int) = mkP (nth (pairs 0 0 a b) (m : Int)) := fun m hm => by
      rw [nth_nat _ (by rw [List.length_map]; exact hm), nth_nat _ hm, List.getElem_map]
    rw [e k h]
    obtain ⟨i, j, hp, z, h1, h2⟩ := pairs_mem 0 0 a b _ (nth_mem _ h)
    rw [Nat.zero_add, Nat.zero_add] at hp
    obtain ⟨e1, e2⟩ := List.getElem?_eq_some_iff.1 h1
    obtain ⟨e3, e4⟩ := List.getElem?_eq_some_iff.1 h2
    refine ⟨i, j, by rw [hp]; rfl, e1, e3, by rw [nth_nat _ e1, nth_nat _ e3, e2, e4], fun m hm => ?_⟩
    rw [e m (by omega)]
    have ho := List.pairwise_iff_getElem.1 (pairs_ord 0 0 a b) m k (by omega) h hm
    rw [← nth_nat _ h, ← nth_nat _ (show m < (pairs 0 0 a b).length by omega), hp] at ho
    unfold mkP
    dsimp only at ho ⊢
    omega
  · unfold spairs at h; rw [if_neg hf] at h; cases h
theorem laws_FnSeqPairs.gen (code : List UInt8) (Q : Bool → Prop) (hq : Q true) : laws_FnSeqPairs.E code Q := by
  unfold laws_FnSeqPairs.E
  by_cases c1 : (code.length : Int) > 1048576
  · rw [if_pos (by simpa using c1)]; exact hq
  rw [if_neg (by simpa using c1)]
  refine spec_DrawSeqPairs.law _ _ fun a b ha hb _ _ => impl_SeqPairs.law _ _ _ (spec_SeqPairs.law _ _ _ (impl_SeqLong.law _ _ _ ?_))
  have hl := spairs_len a b
  have hs := slen_le a b
  rw [if_neg (by simp)]
  refine spec_SeqLong.law _ _ _ ?_
  rw [if_neg (by simp), if_neg (by rw [hl]; simp)]
  refine ⟨fun i => ∃ k : Nat, i = k ∧ k ≤ (spairs a b).length, fun i => ((spairs a b).length - i).toNat, ⟨0, rfl, Nat.zero_le _⟩, ?_⟩
  rintro _ ⟨k, rfl, hk⟩
  by_cases h : (k : Int) < ((spairs a b).length : Int)
  · rw [if_pos (by simpa using h)]
    obtain ⟨i, j, e, hi, hj, he, hb'⟩ := spairs_nth (a := a) (b := b) (k := k) (by omega)
    rw [e]
    refine ⟨by omega, by omega, ?_⟩
    rw [eqPair_is, if_neg (by simp)]
    refine ⟨by omega, by dsimp only; omega, by omega, by dsimp only; omega, ?_⟩
    dsimp only
    rw [eqPt_is, he, if_neg (by simp)]
    by_cases hk0 : (k : Int) > 0
    · rw [if_pos (by simpa using hk0)]
      have em : (k : Int) - 1 = ((k - 1 : Nat) : Int) := by omega
      have hb' := hb' (k - 1) (by omega)
      rw [em]
      refine ⟨by omega, fun _ => by unfold I64; omega, by omega, ?_⟩
      rw [if_neg (by rw [decide_eq_true_eq]; omega)]
      refine ⟨by omega, fun _ => by unfold I64; omega, by omega, ?_⟩
      rw [if_neg (by rw [decide_eq_true_eq]; omega)]
      exact ⟨by omega, ⟨k + 1, by omega, by omega⟩, by omega⟩
    · rw [if_neg (by simpa using hk0)]
      exact ⟨by omega, ⟨k + 1, by omega, by omega⟩, by omega⟩
  · rw [if_neg (by simpa using h)]
    by_cases c2 : (a.length : Int) ≤ 12
    · rw [if_neg (by simpa using c2)]
      refine impl_SeqPairs.law _ _ _ ?_
      have e1 := spairs_len a a
      unfold slen at e1
      rw [if_pos (few_iff.2 (by omega)), lcs_self] at e1
      rw [if_pos (by rw [e1]; simp)]
      refine impl_SeqLong.law _ _ _ ?_
      have e2 := slen_le a []
      have : (slen a [] == 0) = true := by rw [beq_iff_eq]; have := e2.2.2.1; simp only [List.length_nil] at this; omega
      rw [this]; exact hq
    · rw [if_pos (by simpa using c2)]; exact hq
theorem laws_FnSeqPairs.law (code : List UInt8) (_ : ∀ x ∈ code, True) : laws_FnSeqPairs.E code (fun r => r = true) := laws_FnSeqPairs.gen code _ rfl
end Go.Proofs.Ytnliofcjplnboaa

namespace Go.Proofs.Ytnliofcjplnboaa.rFnSeqPairs
open Go.ChangeShapes Go.WideShapes Go.ChangeAt Go.RowKit
open Go.ChangeMaps (open_string shut_string)
set_option linter.unusedVariables false
theorem own : ownKnob Try.prog.godebug = none := by kernel_rfl
theorem laidOut : laidOutB Try.prog = true := by kernel_rfl
set_option maxRecDepth 100000 in
theorem lifted (os : Os) (started : os.Started) (H : Type) (enc : TypeId × Value → H) :
    ReturnsInHanded {} Try.checked os 8 .any (Rows.fnSeqPairsSpec.pre6 enc Try.prog Try.f8 Rows.fnSeqPairsRow.domain false) (Rows.fnSeqPairsSpec.post enc Try.prog Try.f8 false true false false) := by
  refine returnsInHanded_of_change_sized (C := Try.checked) own started (by as_aux_lemma => kernel_rfl) Try.func8
    (ChangeSpec.witness6 (enc := enc) (C := Try.checked) false ⟨#[], #[.slice none 0 0], []⟩ 8 (by as_aux_lemma => kernel_rfl) (by as_aux_lemma => kernel_rfl) (by as_aux_lemma => kernel_rfl) (by as_aux_lemma => kernel_rfl)) ?_
  intro W base args ds gs before hval0 hW hcnd hsz0 _
  have hval : ∀ (j : Nat) t v, Try.f8.params[j]? = some t → args[j]? = some v → Value.okWide Try.prog W .any base t v := hval0
  have hW' := hW
  obtain ⟨p, q, hA0, hV, rfl, hfz, hnd⟩ := hW
  have hA : DataW.TrodAll enc Try.prog W 0 (fun _ => true) true Try.f8.params.toList args.toList ds p := hA0
  rw [Try.params8] at hA hval
  obtain ⟨v0, vs0, d0, ds0, p0, q0, hargs, rfl, rfl, h0, r0⟩ := trodAll_cons hA
  obtain ⟨rfl, rfl, rfl⟩ := trodAll_nil r0
  obtain rfl : args = #[v0] := by cases args; simp_all
  obtain ⟨rfl, rfl⟩ := trodVars_none hV
  have k0 := h0
  have lt0 : ∀ x ∈ p0, x.block < W.heap.size := by obtain ⟨m, hm⟩ := k0; exact DataW.trod_lt m _ _ _ hm
  obtain ⟨x0, hv0, hx0⟩ : ∃ a : List UInt8, (∀ y0 ∈ a, True) ∧ (Kd.sl Kd.byte).R W (Fr []) a v0.cells.toList := by obtain ⟨fuel, hf⟩ := h0; exact (Tr.sl Try.underlying37 (by kernel_rfl) (Tr.byte Try.underlying5)) H enc W fuel _ _ hf
  obtain ⟨a0, n0, c0, rfl⟩ := okWide_slice Try.underlying37 (hval 0 37 v0 rfl rfl)
  have s0 : Sl Kd.byte W (Fr []) (.slice a0 n0 c0) x0 := by obtain ⟨_, e, h⟩ := hx0; simp [Value.cells] at e; subst e; exact h
  clear hA0 hval0 hsz0
  refine Calls.mono (laws_FnSeqPairs.calls W (Ok.nil W) x0 a0 n0 c0 s0 (fun r => r = true) (laws_FnSeqPairs.law x0 hv0)) fun e W' ⟨v, he, r, hr, hq, hg⟩ => ?_
  subst he; subst hr; subst hq
  have bel := Gr.below hg
  exact ⟨_, rfl, _, _, _, [], _, [], hW', trodAll_mk1 (shut_bool Try.underlying4 _), (trodAll_cons_mk (Below.trod laidOut (by as_aux_lemma => kernel_rfl) (of_decide_eq_true (by as_aux_lemma => kernel_rfl)) k0 bel lt0) trodAll_mk0), rfl, bel.frame _, fun h => by cases h⟩
theorem over : Rows.fnSeqPairsRow.holds Try.pinned (OpenSpec.ofChange Rows.fnSeqPairsSpec) :=
  OpenClaim.holds_of_wide 8 Try.f8 rfl rfl rfl rfl rfl rfl rfl ⟨rfl, rfl, rfl, rfl, rfl⟩ rfl rfl rfl rfl rfl (by as_aux_lemma => kernel_rfl) Try.func8 (by as_aux_lemma => kernel_rfl)
    (of_decide_eq_true (by as_aux_lemma => kernel_rfl)) (by unfold Func.isWrapper; first | (rw [if_pos (by as_aux_lemma => decide +kernel)]; kernel_rfl) | (rw [if_neg (by as_aux_lemma => decide +kernel)]; exact ⟨rfl, rfl⟩))
    (fun os started H enc _ => lifted os started H enc)
theorem proved : Rows.FnSeqPairsSaid := over
#print axioms proved
end Go.Proofs.Ytnliofcjplnboaa.rFnSeqPairs
namespace Go.Proofs.Ytnliofcjplnboaa
theorem fnSeqPairs_holds : Rows.FnSeqPairsSaid := rFnSeqPairs.proved
end Go.Proofs.Ytnliofcjplnboaa
