/- It is proved here that the law FnSeqCut of the given program holds whatever it is handed: the walks through the code, the plain laws and the row, in this order.
   Conditions: none. -/
import Derived.Below
import Derived.ChangeArms
import Derived.ChangeOld
import Derived.ChangeSlices
import Derived.DataReads
import Derived.Deep.Quiet
import Derived.KernelRfl
import Derived.Laws.Build
import Derived.Laws.IdiomStrings
import Derived.Laws.OwnMore
import Derived.Laws.Slices
import Derived.Laws.StructEq
import Derived.OpenShut
import Derived.ProofKit
import Derived.ShutString
import Derived.SizedLaws
import Derived.StillTail
import Derived.Test.YtndjggncgpjolaaProg
import Derived.Test.YtndjggncgpjolaaRows
import Derived.WalkKit
import Derived.Test.YtndjggncgpjolaaCSeqCuta
import Derived.Test.YtndjggncgpjolaaCSeqCutb
import Derived.Test.YtndjggncgpjolaaCSeqCutc
import Derived.Test.YtndjggncgpjolaaCSeqCutd
namespace Go.Proofs.Ytndjggncgpjolaa
open Go.RowKit
set_option linter.unusedVariables false
def laws_FnSeqCut.E (code : List UInt8) (Q : Bool → Prop) : Prop :=
  (if decide ((code.length : Int) > 1048576) then Q true else spec_DrawSeqMerge.E code (fun r r2 r3 => impl_SeqMerge.E r r2 r3 (fun r4 r5 => spec_SeqMerge.E r r2 r3 (fun r6 r7 => (if r5 != r7 then Q (r5 == r7) else (if decide ((r.length : Int) ≥ 12) then Q (r5 == r7) else (if decide ((r2.length : Int) ≥ 12) then Q (r5 == r7) else (if decide ((r3.length : Int) ≥ 12) then Q (r5 == r7) else (([] : List Pt).length + r.length ≤ 268435456) ∧ ((([] : List Pt) ++ r).length + ([(⟨99, 99⟩ : Pt)] : List Pt).length ≤ 268435456) ∧ (([] : List Pt).length + r2.length ≤ 268435456) ∧ ((([] : List Pt) ++ r2).length + ([(⟨99, 99⟩ : Pt)] : List Pt).length ≤ 268435456) ∧ (([] : List Pt).length + r3.length ≤ 268435456) ∧ ((([] : List Pt) ++ r3).length + ([(⟨99, 99⟩ : Pt)] : List Pt).length ≤ 268435456) ∧ impl_SeqMerge.E ((([] : List Pt) ++ r) ++ ([(⟨99, 99⟩ : Pt)] : List Pt)) ((([] : List Pt) ++ r2) ++ ([(⟨99, 99⟩ : Pt)] : List Pt)) ((([] : List Pt) ++ r3) ++ ([(⟨99, 99⟩ : Pt)] : List Pt)) (fun r8 r9 => (([(⟨99, 99⟩ : Pt)] : List Pt).length + r.length ≤ 268435456) ∧ (([(⟨99, 99⟩ : Pt)] : List Pt).length + r2.length ≤ 268435456) ∧ (([(⟨99, 99⟩ : Pt)] : List Pt).length + r3.length ≤ 268435456) ∧ impl_SeqMerge.E (([(⟨99, 99⟩ : Pt)] : List Pt) ++ r) (([(⟨99, 99⟩ : Pt)] : List Pt) ++ r2) (([(⟨99, 99⟩ : Pt)] : List Pt) ++ r3) (fun r10 r11 => (if r9 != r5 then Q false else (if r11 != r5 then Q false else (([] : List Pt).length + r4.length ≤ 268435456) ∧ ((([] : List Pt) ++ r4).length + ([(⟨99, 99⟩ : Pt)] : List Pt).length ≤ 268435456) ∧ (([(⟨99, 99⟩ : Pt)] : List Pt).length + r4.length ≤ 268435456) ∧ (if !r5 then Q true else laws_wsSame.E r8 ((([] : List Pt) ++ r4) ++ ([(⟨99, 99⟩ : Pt)] : List Pt)) (fun r12 => (if r12 then laws_wsSame.E r10 (([(⟨99, 99⟩ : Pt)] : List Pt) ++ r4) (fun r13 => Q r13) else Q false)))))))))))))))
set_option maxHeartbeats 8000000 in
set_option maxRecDepth 100000 in
theorem laws_FnSeqCut.calls {O : Ob} (w0 : World) (hO : Ok w0 O) (code : List UInt8) (A1 : Option Addr) (n2 c3 : Nat) (hp4 : Sl Kd.byte w0 (Fr O) (.slice A1 n2 c3) code) (Q : Bool → Prop) (h : laws_FnSeqCut.E code Q) :
    Ret Try.prog 3 [.slice A1 n2 c3] w0 (fun v w' => ∃ (r0 : Bool), v = vb r0 ∧ Q r0 ∧ Gr w0 w' none) := by
  have H : (if decide ((code.length : Int) > 1048576) then Q true else spec_DrawSeqMerge.E code (fun r r2 r3 => impl_SeqMerge.E r r2 r3 (fun r4 r5 => spec_SeqMerge.E r r2 r3 (fun r6 r7 => (if r5 != r7 then Q (r5 == r7) else (if decide ((r.length : Int) ≥ 12) then Q (r5 == r7) else (if decide ((r2.length : Int) ≥ 12) then Q (r5 == r7) else (if decide ((r3.length : Int) ≥ 12) then Q (r5 == r7) else (([] : List Pt).length + r.length ≤ 268435456) ∧ ((([] : List Pt) ++ r).length + ([(⟨99, 99⟩ : Pt)] : List Pt).length ≤ 268435456) ∧ (([] : List Pt).length + r2.length ≤ 268435456) ∧ ((([] : List Pt) ++ r2).length + ([(⟨99, 99⟩ : Pt)] : List Pt).length ≤ 268435456) ∧ (([] : List Pt).length + r3.length ≤ 268435456) ∧ ((([] : List Pt) ++ r3).length + ([(⟨99, 99⟩ : Pt)] : List Pt).length ≤ 268435456) ∧ impl_SeqMerge.E ((([] : List Pt) ++ r) ++ ([(⟨99, 99⟩ : Pt)] : List Pt)) ((([] : List Pt) ++ r2) ++ ([(⟨99, 99⟩ : Pt)] : List Pt)) ((([] : List Pt) ++ r3) ++ ([(⟨99, 99⟩ : Pt)] : List Pt)) (fun r8 r9 => (([(⟨99, 99⟩ : Pt)] : List Pt).length + r.length ≤ 268435456) ∧ (([(⟨99, 99⟩ : Pt)] : List Pt).length + r2.length ≤ 268435456) ∧ (([(⟨99, 99⟩ : Pt)] : List Pt).length + r3.length ≤ 268435456) ∧ impl_SeqMerge.E (([(⟨99, 99⟩ : Pt)] : List Pt) ++ r) (([(⟨99, 99⟩ : Pt)] : List Pt) ++ r2) (([(⟨99, 99⟩ : Pt)] : List Pt) ++ r3) (fun r10 r11 => (if r9 != r5 then Q false else (if r11 != r5 then Q false else (([] : List Pt).length + r4.length ≤ 268435456) ∧ ((([] : List Pt) ++ r4).length + ([(⟨99, 99⟩ : Pt)] : List Pt).length ≤ 268435456) ∧ (([(⟨99, 99⟩ : Pt)] : List Pt).length + r4.length ≤ 268435456) ∧ (if !r5 then Q true else laws_wsSame.E r8 ((([] : List Pt) ++ r4) ++ ([(⟨99, 99⟩ : Pt)] : List Pt)) (fun r12 => (if r12 then laws_wsSame.E r10 (([(⟨99, 99⟩ : Pt)] : List Pt) ++ r4) (fun r13 => Q r13) else Q false))))))))))))))) := h
  clear h
  have hc0 := Ct.init hO
  refine Ret_enter Try.func3 rfl 130 rfl [.tmp 2] rfl rfl ?_
  refine W_seq ?_
  refine W_reg ?_
  refine L_pu (P_assign (vb false) rfl) ?_
  refine L_nil ?_
  refine W_seq ?_
  refine W_seq ?_
  refine W_reg ?_
  refine L_pu (P_move (.slice A1 n2 c3) rfl) ?_
  have hl6 := hp4.le
  refine L_pu (P_len Try.underlying22 A1 n2 c3 hp4.len rfl) ?_
  refine L_pu (P_cmp (code.length : Int) 1048576 (decide ((code.length : Int) > 1048576)) rfl rfl rfl) ?_
  refine L_nil ?_
  refine W_cond (decide ((code.length : Int) > 1048576)) rfl (fun hq7 => ?_) (fun hq7 => ?_)
  · have H := ite_t H hq7
    refine W_seq ?_
    refine W_reg ?_
    refine L_pu (P_assign (vb true) rfl) ?_
    refine L_nil ?_
    refine W_ret ?_
    exact ⟨[vb true], ⟨_, rfl, rfl⟩, true, rfl, H, hc0.gr.g0⟩
  · have H := ite_f H hq7
    refine W_skip ?_
    refine W_seq ?_
    refine W_reg ?_
    refine L_pu (P_move (.slice A1 n2 c3) rfl) ?_
    refine L_call go9 [.slice A1 n2 c3] rfl ((spec_DrawSeqMerge.calls w0 hc0.ok code A1 n2 c3 hp4 _ H).mono ?_)
    rintro _ w8 ⟨r, r2, r3, A10, n11, c12, A14, n15, c16, A19, n20, c21, rfl, H, g9, hk24, hk25, h13, h17, h22⟩
    have hc26 := hc0.owns g9 hk24 hk25
    refine L_pu (P_move (.tuple #[.slice A10 n11 c12, .slice A14 n15 c16, .slice A19 n20 c21]) rfl) ?_
    refine L_pu (P_ext [.slice A10 n11 c12, .slice A14 n15 c16, .slice A19 n20 c21] 0 (.slice A10 n11 c12) rfl rfl) ?_
    refine L_pu (P_ext [.slice A10 n11 c12, .slice A14 n15 c16, .slice A19 n20 c21] 1 (.slice A14 n15 c16) rfl rfl) ?_
    refine L_pu (P_ext [.slice A10 n11 c12, .slice A14 n15 c16, .slice A19 n20 c21] 2 (.slice A19 n20 c21) rfl rfl) ?_
    refine L_pu (P_assign (.slice A10 n11 c12) rfl) ?_
    refine L_pu (P_assign (.slice A14 n15 c16) rfl) ?_
    refine L_pu (P_assign (.slice A19 n20 c21) rfl) ?_
    refine L_nil ?_
    refine W_seq ?_
    refine W_reg ?_
    refine L_pu (P_move (.slice A10 n11 c12) rfl) ?_
    refine L_pu (P_move (.slice A14 n15 c16) rfl) ?_
    refine L_pu (P_move (.slice A19 n20 c21) rfl) ?_
    have h29 := Ow.gv (L := [blk (.slice A14 n15 c16)]) (O := O) h17 hc26 (i := 0) rfl
    have hc30 := hc26.drop 0 rfl
    have h32 := (h13.st (.dr _ (L := [blk (.slice A14 n15 c16)]) (O := O) (j := 0) rfl))
    have h33 := (h22.st (.dr _ (L := [blk (.slice A14 n15 c16)]) (O := O) (j := 0) rfl))
    refine L_call go10 [.slice A10 n11 c12, .slice A14 n15 c16, .slice A19 n20 c21] rfl ((impl_SeqMerge.calls w8 hc30.ok r A10 n11 c12 h32 r2 A14 n15 c16 h29 r3 A19 n20 c21 h33 _ H).mono ?_)
    rintro _ w34 ⟨r4, r5, A36, n37, c38, rfl, H, g35, hk42, hk43, h39⟩
    have hk45 := Ok.unl (L := [blk (.slice A14 n15 c16)]) (L' := []) (O := O) hc26 g35 hk42 hk43
    have h46 := Ow.unl (L := [blk (.slice A14 n15 c16)]) (L' := []) (O := O) (fun _ _ _ _ _ _ h => h) (.cons _ (.slnil)) h39
    have hc44 := hc26.owns g35 hk45 hk43
    refine L_pu (P_move (.tuple #[.slice A36 n37 c38, vb r5]) rfl) ?_
    refine L_pu (P_ext [.slice A36 n37 c38, vb r5] 0 (.slice A36 n37 c38) rfl rfl) ?_
    refine L_pu (P_ext [.slice A36 n37 c38, vb r5] 1 (vb r5) rfl rfl) ?_
    refine L_pu (P_assign (.slice A36 n37 c38) rfl) ?_
    refine L_pu (P_assign (vb r5) rfl) ?_
    refine L_nil ?_
    refine W_seq ?_
    refine W_reg ?_
    refine L_pu (P_move (.slice A10 n11 c12) rfl) ?_
    refine L_pu (P_move (.slice A14 n15 c16) rfl) ?_
    refine L_pu (P_move (.slice A19 n20 c21) rfl) ?_
    have h47 := (h17.sos g35 hk43)
    have h48 := Ow.gv (L := [blk (.slice A36 n37 c38), blk (.slice A14 n15 c16)]) (O := O) h47 hc44 (i := 1) rfl
    have hc49 := hc44.drop 1 rfl
    have h51 := ((h13.st (.owns _ g35 hk43)).st (.dr _ (L := [blk (.slice A36 n37 c38), blk (.slice A14 n15 c16)]) (O := O) (j := 1) rfl))
    have h52 := ((h22.st (.owns _ g35 hk43)).st (.dr _ (L := [blk (.slice A36 n37 c38), blk (.slice A14 n15 c16)]) (O := O) (j := 1) rfl))
    refine L_call go11 [.slice A10 n11 c12, .slice A14 n15 c16, .slice A19 n20 c21] rfl ((spec_SeqMerge.calls w34 hc49.ok r A10 n11 c12 h51 r2 A14 n15 c16 h48 r3 A19 n20 c21 h52 _ H).mono ?_)
    rintro _ w53 ⟨r6, r7, A55, n56, c57, rfl, H, g54, hk61, hk62, h58⟩
    have hk64 := Ok.unl (L := [blk (.slice A36 n37 c38), blk (.slice A14 n15 c16)]) (L' := [blk (.slice A36 n37 c38)]) (O := O) hc44 g54 hk61 hk62
    have h65 := Ow.unl (L := [blk (.slice A36 n37 c38), blk (.slice A14 n15 c16)]) (L' := [blk (.slice A36 n37 c38)]) (O := O) (fun _ _ _ _ _ _ h => h) (.cons_cons _ (.cons _ (.slnil))) h58
    have hc63 := hc44.owns g54 hk64 hk62
    refine L_pu (P_move (.tuple #[.slice A55 n56 c57, vb r7]) rfl) ?_
    refine L_pu (P_ext [.slice A55 n56 c57, vb r7] 0 (.slice A55 n56 c57) rfl rfl) ?_
    refine L_pu (P_ext [.slice A55 n56 c57, vb r7] 1 (vb r7) rfl rfl) ?_
    refine L_pu (P_assign (.slice A55 n56 c57) rfl) ?_
    refine L_pu (P_assign (vb r7) rfl) ?_
    refine L_nil ?_
    refine W_seq ?_
    refine W_reg ?_
    refine L_pu (P_assign (vi 12) rfl) ?_
    refine L_nil ?_
    refine W_seq ?_
    refine W_seq ?_
    refine W_reg ?_
    refine L_pu (P_move (vb r5) rfl) ?_
    refine L_pu (P_move (vb r7) rfl) ?_
    refine L_pu (P_bcmp Try.underlying4 r5 r7 (r5 != r7) rfl rfl rfl) ?_
    refine L_pu (P_move (vb (r5 != r7)) rfl) ?_
    rcases bool_or (r5 != r7) with hq66 | hq66
    · have H := ite_t H hq66
      refine L_pass (dj := 42) rfl rfl (.inl (by exact congrArg Value.bool hq66)) ?_
      refine L_pass (dj := 42) rfl rfl (.inl (by exact congrArg Value.bool hq66)) ?_
      refine L_pass (dj := 42) rfl rfl (.inl (by exact congrArg Value.bool hq66)) ?_
      refine L_pass (dj := 42) rfl rfl (.inl (by exact congrArg Value.bool hq66)) ?_
      refine L_pu (P_pick true (vb true) (by exact congrArg Value.bool hq66) rfl) ?_
      refine L_pu (P_move (vb true) rfl) ?_
      refine L_pass (dj := 48) rfl rfl (.inl rfl) ?_
      refine L_pass (dj := 48) rfl rfl (.inl rfl) ?_
      refine L_pass (dj := 48) rfl rfl (.inl rfl) ?_
      refine L_pass (dj := 48) rfl rfl (.inl rfl) ?_
      refine L_pu (P_pick true (vb true) (by exact congrArg Value.bool rfl) rfl) ?_
      refine L_pu (P_move (vb true) rfl) ?_
      refine L_pass (dj := 54) rfl rfl (.inl rfl) ?_
      refine L_pass (dj := 54) rfl rfl (.inl rfl) ?_
      refine L_pass (dj := 54) rfl rfl (.inl rfl) ?_
      refine L_pass (dj := 54) rfl rfl (.inl rfl) ?_
      refine L_pu (P_pick true (vb true) (by exact congrArg Value.bool rfl) rfl) ?_
      refine L_nil ?_
      refine W_ct (b := true) rfl rfl ?_
      refine W_seq ?_
      refine W_reg ?_
      refine L_pu (P_move (vb r5) rfl) ?_
      refine L_pu (P_move (vb r7) rfl) ?_
      refine L_pu (P_bcmp Try.underlying4 r5 r7 (r5 == r7) rfl rfl rfl) ?_
      refine L_pu (P_assign (vb (r5 == r7)) rfl) ?_
      refine L_nil ?_
      refine W_ret ?_
      have hc67 := hc63.drop 0 rfl
      have hc68 := hc67.drop 0 rfl
      have hc69 := hc68.drop 0 rfl
      exact ⟨[vb (r5 == r7)], ⟨_, rfl, rfl⟩, r5 == r7, rfl, H, hc69.gr.g0⟩
    · have H := ite_f H hq66
      refine L_run (dj := 42) rfl rfl (by exact congrArg Value.bool hq66) ?_
      refine L_pu (P_move (.slice A10 n11 c12) rfl) ?_
      refine L_run (dj := 42) rfl rfl (by exact congrArg Value.bool hq66) ?_
      have h70 := ((h13.st (.owns _ g35 hk43)).st (.owns _ g54 hk62))
      have hl71 := h70.le
      refine L_pu (P_len Try.underlying23 A10 n11 c12 h70.len rfl) ?_
      refine L_run (dj := 42) rfl rfl (by exact congrArg Value.bool hq66) ?_
      refine L_pu (P_move (vi 12) rfl) ?_
      refine L_run (dj := 42) rfl rfl (by exact congrArg Value.bool hq66) ?_
      refine L_pu (P_cmp (r.length : Int) 12 (decide ((r.length : Int) ≥ 12)) rfl rfl rfl) ?_
      refine L_pu (P_pick false (vb (decide ((r.length : Int) ≥ 12))) (by exact congrArg Value.bool hq66) rfl) ?_
      refine L_pu (P_move (vb (decide ((r.length : Int) ≥ 12))) rfl) ?_
      rcases bool_or (decide ((r.length : Int) ≥ 12)) with hq72 | hq72
      · have H := ite_t H hq72
        refine L_pass (dj := 48) rfl rfl (.inl (by exact congrArg Value.bool hq72)) ?_
        refine L_pass (dj := 48) rfl rfl (.inl (by exact congrArg Value.bool hq72)) ?_
        refine L_pass (dj := 48) rfl rfl (.inl (by exact congrArg Value.bool hq72)) ?_
        refine L_pass (dj := 48) rfl rfl (.inl (by exact congrArg Value.bool hq72)) ?_
        refine L_pu (P_pick true (vb true) (by exact congrArg Value.bool hq72) rfl) ?_
        refine L_pu (P_move (vb true) rfl) ?_
        refine L_pass (dj := 54) rfl rfl (.inl rfl) ?_
        refine L_pass (dj := 54) rfl rfl (.inl rfl) ?_
        refine L_pass (dj := 54) rfl rfl (.inl rfl) ?_
        refine L_pass (dj := 54) rfl rfl (.inl rfl) ?_
        refine L_pu (P_pick true (vb true) (by exact congrArg Value.bool rfl) rfl) ?_
        refine L_nil ?_
        refine W_ct (b := true) rfl rfl ?_
        refine W_seq ?_
        refine W_reg ?_
        refine L_pu (P_move (vb r5) rfl) ?_
        refine L_pu (P_move (vb r7) rfl) ?_
        refine L_pu (P_bcmp Try.underlying4 r5 r7 (r5 == r7) rfl rfl rfl) ?_
        refine L_pu (P_assign (vb (r5 == r7)) rfl) ?_
        refine L_nil ?_
        refine W_ret ?_
        have hc73 := hc63.drop 0 rfl
        have hc74 := hc73.drop 0 rfl
        have hc75 := hc74.drop 0 rfl
        exact ⟨[vb (r5 == r7)], ⟨_, rfl, rfl⟩, r5 == r7, rfl, H, hc75.gr.g0⟩
      · have H := ite_f H hq72
        refine L_run (dj := 48) rfl rfl (by exact congrArg Value.bool hq72) ?_
        refine L_pu (P_move (.slice A14 n15 c16) rfl) ?_
        refine L_run (dj := 48) rfl rfl (by exact congrArg Value.bool hq72) ?_
        have h76 := ((h17.sos g35 hk43).sos g54 hk62)
        have hl77 := h76.le
        refine L_pu (P_len Try.underlying23 A14 n15 c16 h76.len rfl) ?_
        refine L_run (dj := 48) rfl rfl (by exact congrArg Value.bool hq72) ?_
        refine L_pu (P_move (vi 12) rfl) ?_
        refine L_run (dj := 48) rfl rfl (by exact congrArg Value.bool hq72) ?_
        refine L_pu (P_cmp (r2.length : Int) 12 (decide ((r2.length : Int) ≥ 12)) rfl rfl rfl) ?_
        refine L_pu (P_pick false (vb (decide ((r2.length : Int) ≥ 12))) (by exact congrArg Value.bool hq72) rfl) ?_
        refine L_pu (P_move (vb (decide ((r2.length : Int) ≥ 12))) rfl) ?_
        rcases bool_or (decide ((r2.length : Int) ≥ 12)) with hq78 | hq78
        · have H := ite_t H hq78
          refine L_pass (dj := 54) rfl rfl (.inl (by exact congrArg Value.bool hq78)) ?_
          refine L_pass (dj := 54) rfl rfl (.inl (by exact congrArg Value.bool hq78)) ?_
          refine L_pass (dj := 54) rfl rfl (.inl (by exact congrArg Value.bool hq78)) ?_
          refine L_pass (dj := 54) rfl rfl (.inl (by exact congrArg Value.bool hq78)) ?_
          refine L_pu (P_pick true (vb true) (by exact congrArg Value.bool hq78) rfl) ?_
          refine L_nil ?_
          refine W_ct (b := true) rfl rfl ?_
          refine W_seq ?_
          refine W_reg ?_
          refine L_pu (P_move (vb r5) rfl) ?_
          refine L_pu (P_move (vb r7) rfl) ?_
          refine L_pu (P_bcmp Try.underlying4 r5 r7 (r5 == r7) rfl rfl rfl) ?_
          refine L_pu (P_assign (vb (r5 == r7)) rfl) ?_
          refine L_nil ?_
          refine W_ret ?_
          have hc79 := hc63.drop 0 rfl
          have hc80 := hc79.drop 0 rfl
          have hc81 := hc80.drop 0 rfl
          exact ⟨[vb (r5 == r7)], ⟨_, rfl, rfl⟩, r5 == r7, rfl, H, hc81.gr.g0⟩
        · have H := ite_f H hq78
          refine L_run (dj := 54) rfl rfl (by exact congrArg Value.bool hq78) ?_
          refine L_pu (P_move (.slice A19 n20 c21) rfl) ?_
          refine L_run (dj := 54) rfl rfl (by exact congrArg Value.bool hq78) ?_
          have h82 := ((h22.st (.owns _ g35 hk43)).st (.owns _ g54 hk62))
          have hl83 := h82.le
          refine L_pu (P_len Try.underlying23 A19 n20 c21 h82.len rfl) ?_
          refine L_run (dj := 54) rfl rfl (by exact congrArg Value.bool hq78) ?_
          refine L_pu (P_move (vi 12) rfl) ?_
          refine L_run (dj := 54) rfl rfl (by exact congrArg Value.bool hq78) ?_
          refine L_pu (P_cmp (r3.length : Int) 12 (decide ((r3.length : Int) ≥ 12)) rfl rfl rfl) ?_
          refine L_pu (P_pick false (vb (decide ((r3.length : Int) ≥ 12))) (by exact congrArg Value.bool hq78) rfl) ?_
          refine L_nil ?_
          refine W_cond (decide ((r3.length : Int) ≥ 12)) rfl (fun hq84 => ?_) (fun hq84 => ?_)
          · have H := ite_t H hq84
            refine W_seq ?_
            refine W_reg ?_
            refine L_pu (P_move (vb r5) rfl) ?_
            refine L_pu (P_move (vb r7) rfl) ?_
            refine L_pu (P_bcmp Try.underlying4 r5 r7 (r5 == r7) rfl rfl rfl) ?_
            refine L_pu (P_assign (vb (r5 == r7)) rfl) ?_
            refine L_nil ?_
            refine W_ret ?_
            have hc85 := hc63.drop 0 rfl
            have hc86 := hc85.drop 0 rfl
            have hc87 := hc86.drop 0 rfl
            exact ⟨[vb (r5 == r7)], ⟨_, rfl, rfl⟩, r5 == r7, rfl, H, hc87.gr.g0⟩
          · have H := ite_f H hq84
            refine W_skip ?_
            refine W_seq ?_
            refine W_reg ?_
            refine L_pu (P_build (.agg #[vi 99, vi 99]) (fun _ => by kernel_rfl)) ?_
            refine L_alloc [.int .i64 0, .int .i64 0] ze29 fun w88 b89 hl91 hu92 g90 hx93 => ?_
            have hc95 := hc63.own g90 (some b89) (oglt hl91 hu92)
            refine L_stb b89 0 [vi 0, vi 0] [vi 99, vi 99] [vi 99, vi 99] rfl hx93 rfl sz29 rfl rfl rfl fun w96 g97 hx98 => ?_
            have hc99 := hc95.wr 0 rfl g97
            refine L_nil ?_
            refine W_seq ?_
            refine W_mixr 24 [] (by kernel_rfl) rfl fun w100 g101 hM102 => ?_
            have hc103 := hc99.k0 g101
            obtain ⟨hb104, H⟩ := H
            obtain ⟨hb105, H⟩ := H
            obtain ⟨hb106, H⟩ := H
            obtain ⟨hb107, H⟩ := H
            obtain ⟨hb108, H⟩ := H
            obtain ⟨hb109, H⟩ := H
            refine M_pu 1 rfl (by kernel_rfl) hM102 (P_move (.slice A10 n11 c12) rfl) ?_
            have h110 := (hx98.k0 g101)
            refine M_pu 3 rfl (by kernel_rfl) hM102 (P_ldar ag29 sz29 cR ⟨b89, 0, none⟩ [vi 99, vi 99] rfl rfl (h110.cells (off := 0) rfl) nm_nil) ?_
            refine M_pu 7 rfl (by kernel_rfl) hM102 (P_move (.slice A14 n15 c16) rfl) ?_
            refine M_pu 9 rfl (by kernel_rfl) hM102 (P_ldar ag29 sz29 cR ⟨b89, 0, none⟩ [vi 99, vi 99] rfl rfl (h110.cells (off := 0) rfl) nm_nil) ?_
            refine M_pu 13 rfl (by kernel_rfl) hM102 (P_move (.slice A19 n20 c21) rfl) ?_
            refine M_pu 15 rfl (by kernel_rfl) hM102 (P_ldar ag29 sz29 cR ⟨b89, 0, none⟩ [vi 99, vi 99] rfl rfl (h110.cells (off := 0) rfl) nm_nil) ?_
            have hc111 := hc103.drop 1 rfl
            have hc114 := hc111.own (Gr.refl _ none) none (by simp)
            have h116 : Ow kPt 29 w100 ([blk (.slice none 0 0), some b89, blk (.slice A36 n37 c38), blk (.slice A14 n15 c16)] ++ O) (.slice none 0 0) [] := Ow.nil _ _ _ _
            have hc118 := hc114.own (Gr.refl _ none) none (by simp)
            have h120 : Ow kPt 29 w100 ([blk (.slice none 0 0), blk (.slice none 0 0), some b89, blk (.slice A36 n37 c38), blk (.slice A14 n15 c16)] ++ O) (.slice none 0 0) [] := Ow.nil _ _ _ _
            have hc122 := hc118.own (Gr.refl _ none) none (by simp)
            have h124 : Ow kPt 29 w100 ([blk (.slice none 0 0), blk (.slice none 0 0), blk (.slice none 0 0), some b89, blk (.slice A36 n37 c38), blk (.slice A14 n15 c16)] ++ O) (.slice none 0 0) [] := Ow.nil _ _ _ _
            have hc126 := hc122.own (Gr.refl _ none) none (by simp)
            have h128 : Ow kPt 29 w100 ([blk (.slice none 0 0), blk (.slice none 0 0), blk (.slice none 0 0), blk (.slice none 0 0), some b89, blk (.slice A36 n37 c38), blk (.slice A14 n15 c16)] ++ O) (.slice none 0 0) [] := Ow.nil _ _ _ _
            have hc130 := hc126.own (Gr.refl _ none) none (by simp)
            have h132 : Ow kPt 29 w100 ([blk (.slice none 0 0), blk (.slice none 0 0), blk (.slice none 0 0), blk (.slice none 0 0), blk (.slice none 0 0), some b89, blk (.slice A36 n37 c38), blk (.slice A14 n15 c16)] ++ O) (.slice none 0 0) [] := Ow.nil _ _ _ _
            have hc134 := hc130.own (Gr.refl _ none) none (by simp)
            have h136 : Ow kPt 29 w100 ([blk (.slice none 0 0), blk (.slice none 0 0), blk (.slice none 0 0), blk (.slice none 0 0), blk (.slice none 0 0), blk (.slice none 0 0), some b89, blk (.slice A36 n37 c38), blk (.slice A14 n15 c16)] ++ O) (.slice none 0 0) [] := Ow.nil _ _ _ _
            have h204 := ((((((((((h70.st (.own _ _ g90 (oge hl91))).st (.wl (L := [some b89, blk (.slice A55 n56 c57), blk (.slice A36 n37 c38), blk (.slice A14 n15 c16)]) (O := O) (j := 0) rfl g97)).st (.new _ g101)).st (.dr _ (L := [some b89, blk (.slice A55 n56 c57), blk (.slice A36 n37 c38), blk (.slice A14 n15 c16)]) (O := O) (j := 1) rfl)).st (.own _ none (Gr.refl _ none) (by simp))).st (.own _ none (Gr.refl _ none) (by simp))).st (.own _ none (Gr.refl _ none) (by simp))).st (.own _ none (Gr.refl _ none) (by simp))).st (.own _ none (Gr.refl _ none) (by simp))).st (.own _ none (Gr.refl _ none) (by simp)))
            have h205 := ((((((((((h82.st (.own _ _ g90 (oge hl91))).st (.wl (L := [some b89, blk (.slice A55 n56 c57), blk (.slice A36 n37 c38), blk (.slice A14 n15 c16)]) (O := O) (j := 0) rfl g97)).st (.new _ g101)).st (.dr _ (L := [some b89, blk (.slice A55 n56 c57), blk (.slice A36 n37 c38), blk (.slice A14 n15 c16)]) (O := O) (j := 1) rfl)).st (.own _ none (Gr.refl _ none) (by simp))).st (.own _ none (Gr.refl _ none) (by simp))).st (.own _ none (Gr.refl _ none) (by simp))).st (.own _ none (Gr.refl _ none) (by simp))).st (.own _ none (Gr.refl _ none) (by simp))).st (.own _ none (Gr.refl _ none) (by simp)))
            have h206 := (((((((Ow.sd (L := [some b89, blk (.slice A55 n56 c57), blk (.slice A36 n37 c38), blk (.slice A14 n15 c16)]) (O := O) ((Ow.sw (L := [some b89, blk (.slice A55 n56 c57), blk (.slice A36 n37 c38), blk (.slice A14 n15 c16)]) (O := O) (h76.so _ g90 (oge hl91)) hc95 (i := 3) rfl (j := 0) rfl (by decide) g97).sn g101) (i := 3) rfl (j := 1) rfl (by decide)).so none (Gr.refl _ none) (by simp)).so none (Gr.refl _ none) (by simp)).so none (Gr.refl _ none) (by simp)).so none (Gr.refl _ none) (by simp)).so none (Gr.refl _ none) (by simp)).so none (Gr.refl _ none) (by simp))
            have h207 := (((((((Ow.sd (L := [some b89, blk (.slice A55 n56 c57), blk (.slice A36 n37 c38), blk (.slice A14 n15 c16)]) (O := O) ((Ow.sw (L := [some b89, blk (.slice A55 n56 c57), blk (.slice A36 n37 c38), blk (.slice A14 n15 c16)]) (O := O) ((h46.sos g54 hk62).so _ g90 (oge hl91)) hc95 (i := 2) rfl (j := 0) rfl (by decide) g97).sn g101) (i := 2) rfl (j := 1) rfl (by decide)).so none (Gr.refl _ none) (by simp)).so none (Gr.refl _ none) (by simp)).so none (Gr.refl _ none) (by simp)).so none (Gr.refl _ none) (by simp)).so none (Gr.refl _ none) (by simp)).so none (Gr.refl _ none) (by simp))
            have h208 := h110
            have h209 := (h132.so none (Gr.refl _ none) (by simp))
            have h210 := ((h128.so none (Gr.refl _ none) (by simp)).so none (Gr.refl _ none) (by simp))
            have h211 := (((h124.so none (Gr.refl _ none) (by simp)).so none (Gr.refl _ none) (by simp)).so none (Gr.refl _ none) (by simp))
            have h212 := ((((h120.so none (Gr.refl _ none) (by simp)).so none (Gr.refl _ none) (by simp)).so none (Gr.refl _ none) (by simp)).so none (Gr.refl _ none) (by simp))
            have h213 := (((((h116.so none (Gr.refl _ none) (by simp)).so none (Gr.refl _ none) (by simp)).so none (Gr.refl _ none) (by simp)).so none (Gr.refl _ none) (by simp)).so none (Gr.refl _ none) (by simp))
            refine M_float (m := 6) [0, 2, 4, 5, 6, 8, 10, 11, 12, 14, 16, 17] [17] (by decide) (by kernel_rfl) (fun (f : Nat → Bool) t w137 => ∃ (A149 : Option Addr) (n150 c151 : Nat) (y : List Pt) (A155 : Option Addr) (n156 c157 : Nat) (y2 : List Pt) (A161 : Option Addr) (n162 c163 : Nat) (y3 : List Pt) (A167 : Option Addr) (n168 c169 : Nat) (y4 : List Pt) (A173 : Option Addr) (n174 c175 : Nat) (y5 : List Pt) (A179 : Option Addr) (n180 c181 : Nat) (y6 : List Pt), Has t [(3, .slice A10 n11 c12), (4, .slice A14 n15 c16), (5, .slice A19 n20 c21), (6, .slice A36 n37 c38), (7, vb r5), (11, .pointer (some ⟨b89, 0, none⟩)), (66, .slice A10 n11 c12), (68, .agg #[vi 99, vi 99]), (72, .slice A14 n15 c16), (74, .agg #[vi 99, vi 99]), (78, .slice A19 n20 c21), (80, .agg #[vi 99, vi 99])] ∧ Ct [] w0 w137 [blk (.slice A149 n150 c151), blk (.slice A155 n156 c157), blk (.slice A161 n162 c163), blk (.slice A167 n168 c169), blk (.slice A173 n174 c175), blk (.slice A179 n180 c181), some b89, blk (.slice A36 n37 c38), blk (.slice A14 n15 c16)] O ∧ Gm w100 w137 [] ∧ Sl kPt w137 (Fr ([blk (.slice A149 n150 c151), blk (.slice A155 n156 c157), blk (.slice A161 n162 c163), blk (.slice A167 n168 c169), blk (.slice A173 n174 c175), blk (.slice A179 n180 c181), some b89, blk (.slice A36 n37 c38), blk (.slice A14 n15 c16)] ++ O)) (.slice A10 n11 c12) r ∧ Sl kPt w137 (Fr ([blk (.slice A149 n150 c151), blk (.slice A155 n156 c157), blk (.slice A161 n162 c163), blk (.slice A167 n168 c169), blk (.slice A173 n174 c175), blk (.slice A179 n180 c181), some b89, blk (.slice A36 n37 c38), blk (.slice A14 n15 c16)] ++ O)) (.slice A19 n20 c21) r3 ∧ Ow kPt 29 w137 ([blk (.slice A149 n150 c151), blk (.slice A155 n156 c157), blk (.slice A161 n162 c163), blk (.slice A167 n168 c169), blk (.slice A173 n174 c175), blk (.slice A179 n180 c181), some b89, blk (.slice A36 n37 c38), blk (.slice A14 n15 c16)] ++ O) (.slice A14 n15 c16) r2 ∧ Ow kPt 29 w137 ([blk (.slice A149 n150 c151), blk (.slice A155 n156 c157), blk (.slice A161 n162 c163), blk (.slice A167 n168 c169), blk (.slice A173 n174 c175), blk (.slice A179 n180 c181), some b89, blk (.slice A36 n37 c38), blk (.slice A14 n15 c16)] ++ O) (.slice A36 n37 c38) r4 ∧ Bx w137 b89 [vi 99, vi 99] ∧ Ow kPt 29 w137 ([blk (.slice A149 n150 c151), blk (.slice A155 n156 c157), blk (.slice A161 n162 c163), blk (.slice A167 n168 c169), blk (.slice A173 n174 c175), blk (.slice A179 n180 c181), some b89, blk (.slice A36 n37 c38), blk (.slice A14 n15 c16)] ++ O) (.slice A149 n150 c151) y ∧ (∀ b, blk (.slice A149 n150 c151) = some b → b < w100.heap.size → some b ∈ ([] : Ob)) ∧ Ow kPt 29 w137 ([blk (.slice A149 n150 c151), blk (.slice A155 n156 c157), blk (.slice A161 n162 c163), blk (.slice A167 n168 c169), blk (.slice A173 n174 c175), blk (.slice A179 n180 c181), some b89, blk (.slice A36 n37 c38), blk (.slice A14 n15 c16)] ++ O) (.slice A155 n156 c157) y2 ∧ (∀ b, blk (.slice A155 n156 c157) = some b → b < w100.heap.size → some b ∈ ([] : Ob)) ∧ Ow kPt 29 w137 ([blk (.slice A149 n150 c151), blk (.slice A155 n156 c157), blk (.slice A161 n162 c163), blk (.slice A167 n168 c169), blk (.slice A173 n174 c175), blk (.slice A179 n180 c181), some b89, blk (.slice A36 n37 c38), blk (.slice A14 n15 c16)] ++ O) (.slice A161 n162 c163) y3 ∧ (∀ b, blk (.slice A161 n162 c163) = some b → b < w100.heap.size → some b ∈ ([] : Ob)) ∧ Ow kPt 29 w137 ([blk (.slice A149 n150 c151), blk (.slice A155 n156 c157), blk (.slice A161 n162 c163), blk (.slice A167 n168 c169), blk (.slice A173 n174 c175), blk (.slice A179 n180 c181), some b89, blk (.slice A36 n37 c38), blk (.slice A14 n15 c16)] ++ O) (.slice A167 n168 c169) y4 ∧ (∀ b, blk (.slice A167 n168 c169) = some b → b < w100.heap.size → some b ∈ ([] : Ob)) ∧ Ow kPt 29 w137 ([blk (.slice A149 n150 c151), blk (.slice A155 n156 c157), blk (.slice A161 n162 c163), blk (.slice A167 n168 c169), blk (.slice A173 n174 c175), blk (.slice A179 n180 c181), some b89, blk (.slice A36 n37 c38), blk (.slice A14 n15 c16)] ++ O) (.slice A173 n174 c175) y5 ∧ (∀ b, blk (.slice A173 n174 c175) = some b → b < w100.heap.size → some b ∈ ([] : Ob)) ∧ Ow kPt 29 w137 ([blk (.slice A149 n150 c151), blk (.slice A155 n156 c157), blk (.slice A161 n162 c163), blk (.slice A167 n168 c169), blk (.slice A173 n174 c175), blk (.slice A179 n180 c181), some b89, blk (.slice A36 n37 c38), blk (.slice A14 n15 c16)] ++ O) (.slice A179 n180 c181) y6 ∧ (∀ b, blk (.slice A179 n180 c181) = some b → b < w100.heap.size → some b ∈ ([] : Ob)) ∧ (f 0 = false → A149 = none ∧ n150 = 0 ∧ c151 = 0 ∧ y = []) ∧ (f 0 = true → f 2 = false → t 65 = .slice A149 n150 c151 ∧ y = ([] : List Pt)) ∧ (f 2 = true → f 5 = false → t 67 = .slice A149 n150 c151 ∧ y = (([] : List Pt) ++ r)) ∧ (f 5 = true → t 70 = .slice A149 n150 c151 ∧ y = ((([] : List Pt) ++ r) ++ ([(⟨99, 99⟩ : Pt)] : List Pt))) ∧ (f 4 = false → A155 = none ∧ n156 = 0 ∧ c157 = 0 ∧ y2 = []) ∧ (f 4 = true → t 69 = .slice A155 n156 c157 ∧ y2 = ([(⟨99, 99⟩ : Pt)] : List Pt)) ∧ (f 6 = false → A161 = none ∧ n162 = 0 ∧ c163 = 0 ∧ y3 = []) ∧ (f 6 = true → f 8 = false → t 71 = .slice A161 n162 c163 ∧ y3 = ([] : List Pt)) ∧ (f 8 = true → f 11 = false → t 73 = .slice A161 n162 c163 ∧ y3 = (([] : List Pt) ++ r2)) ∧ (f 11 = true → t 76 = .slice A161 n162 c163 ∧ y3 = ((([] : List Pt) ++ r2) ++ ([(⟨99, 99⟩ : Pt)] : List Pt))) ∧ (f 10 = false → A167 = none ∧ n168 = 0 ∧ c169 = 0 ∧ y4 = []) ∧ (f 10 = true → t 75 = .slice A167 n168 c169 ∧ y4 = ([(⟨99, 99⟩ : Pt)] : List Pt)) ∧ (f 12 = false → A173 = none ∧ n174 = 0 ∧ c175 = 0 ∧ y5 = []) ∧ (f 12 = true → f 14 = false → t 77 = .slice A173 n174 c175 ∧ y5 = ([] : List Pt)) ∧ (f 14 = true → f 17 = false → t 79 = .slice A173 n174 c175 ∧ y5 = (([] : List Pt) ++ r3)) ∧ (f 17 = true → t 82 = .slice A173 n174 c175 ∧ y5 = ((([] : List Pt) ++ r3) ++ ([(⟨99, 99⟩ : Pt)] : List Pt))) ∧ (f 16 = false → A179 = none ∧ n180 = 0 ∧ c181 = 0 ∧ y6 = []) ∧ (f 16 = true → t 81 = .slice A179 n180 c181 ∧ y6 = ([(⟨99, 99⟩ : Pt)] : List Pt))) (fun f t w ⟨A149, n150, c151, y, A155, n156, c157, y2, A161, n162, c163, y3, A167, n168, c169, y4, A173, n174, c175, y5, A179, n180, c181, y6, hh185, hc142, hM184, h143, h144, h145, h146, h147, h152, hv153, h158, hv159, h164, hv165, h170, hv171, h176, hv177, h182, hv183, hs186, hs187, hs188, hs189, hs190, hs191, hs192, hs193, hs194, hs195, hs196, hs197, hs198, hs199, hs200, hs201, hs202, hs203⟩ => hM184) ?_ #[true, true, true, true, true, true, true, true, true, true, true, true, true, true, true, true, true, true, false, false, false, false, false, false] ⟨by kernel_rfl, by kernel_rfl⟩ ?_ ⟨none, 0, 0, [], none, 0, 0, [], none, 0, 0, [], none, 0, 0, [], none, 0, 0, [], none, 0, 0, [], ⟨rfl, rfl, rfl, rfl, rfl, rfl, rfl, rfl, rfl, rfl, rfl, rfl, trivial⟩, hc134, hM102, h204, h205, h206, h207, h208, h136, hv_nil, h209, hv_nil, h210, hv_nil, h211, hv_nil, h212, hv_nil, h213, hv_nil, (fun _ => ⟨rfl, rfl, rfl, rfl⟩), (fun h => absurd h Bool.false_ne_true), (fun h => absurd h Bool.false_ne_true), (fun h => absurd h Bool.false_ne_true), (fun _ => ⟨rfl, rfl, rfl, rfl⟩), (fun h => absurd h Bool.false_ne_true), (fun _ => ⟨rfl, rfl, rfl, rfl⟩), (fun h => absurd h Bool.false_ne_true), (fun h => absurd h Bool.false_ne_true), (fun h => absurd h Bool.false_ne_true), (fun _ => ⟨rfl, rfl, rfl, rfl⟩), (fun h => absurd h Bool.false_ne_true), (fun _ => ⟨rfl, rfl, rfl, rfl⟩), (fun h => absurd h Bool.false_ne_true), (fun h => absurd h Bool.false_ne_true), (fun h => absurd h Bool.false_ne_true), (fun _ => ⟨rfl, rfl, rfl, rfl⟩), (fun h => absurd h Bool.false_ne_true)⟩
            · intro i hi f t w137 ⟨A149, n150, c151, y, A155, n156, c157, y2, A161, n162, c163, y3, A167, n168, c169, y4, A173, n174, c175, y5, A179, n180, c181, y6, hh185, hc142, hM184, h143, h144, h145, h146, h147, h152, hv153, h158, hv159, h164, hv165, h170, hv171, h176, hv177, h182, hv183, hs186, hs187, hs188, hs189, hs190, hs191, hs192, hs193, hs194, hs195, hs196, hs197, hs198, hs199, hs200, hs201, hs202, hs203⟩ hf hd hcl
              simp only [List.mem_cons, List.not_mem_nil, or_false] at hi
              rcases hi with rfl | rfl | rfl | rfl | rfl | rfl | rfl | rfl | rfl | rfl | rfl | rfl
              · have hn214 : f 2 = false := Bool.eq_false_iff.2 fun e => absurd (hcl 2 (by decide) e 0 (List.contains_iff_mem.1 (by kernel_rfl)) (by decide)) (by rw [hf]; exact Bool.false_ne_true)
                have hn215 : f 5 = false := Bool.eq_false_iff.2 fun e => absurd (hcl 5 (by decide) e 2 (List.contains_iff_mem.1 (by kernel_rfl)) (by decide)) (by rw [hn214]; exact Bool.false_ne_true)
                obtain ⟨rfl, rfl, rfl, rfl⟩ := hs186 hf
                obtain ⟨u216, rfl⟩ := Has.ins (l := [(3, .slice A10 n11 c12), (4, .slice A14 n15 c16), (5, .slice A19 n20 c21), (6, .slice A36 n37 c38), (7, vb r5), (11, .pointer (some ⟨b89, 0, none⟩)), (66, .slice A10 n11 c12), (68, .agg #[vi 99, vi 99]), (72, .slice A14 n15 c16), (74, .agg #[vi 99, vi 99]), (78, .slice A19 n20 c21), (80, .agg #[vi 99, vi 99])]) hh185
                refine ⟨_, rfl, ?_⟩
                refine L_lit (kd := kPt) ei23 hc142 ([] : List Pt) (cells := []) rfl (fun _ => by kernel_rfl) fun w217 A218 n219 c220 g221 hr222 hc223 h224 => ?_
                have hM226 := Gm.tm hM184 g221
                have hc227 := hc223.drop 1 rfl
                have h229 := ((h143.st (.own _ _ g221 hr222)).st (.dr _ (L := [blk (.slice A218 n219 c220), blk (.slice none 0 0), blk (.slice A155 n156 c157), blk (.slice A161 n162 c163), blk (.slice A167 n168 c169), blk (.slice A173 n174 c175), blk (.slice A179 n180 c181), some b89, blk (.slice A36 n37 c38), blk (.slice A14 n15 c16)]) (O := O) (j := 1) rfl))
                have h230 := ((h144.st (.own _ _ g221 hr222)).st (.dr _ (L := [blk (.slice A218 n219 c220), blk (.slice none 0 0), blk (.slice A155 n156 c157), blk (.slice A161 n162 c163), blk (.slice A167 n168 c169), blk (.slice A173 n174 c175), blk (.slice A179 n180 c181), some b89, blk (.slice A36 n37 c38), blk (.slice A14 n15 c16)]) (O := O) (j := 1) rfl))
                have h231 := (Ow.sd (L := [blk (.slice A218 n219 c220), blk (.slice none 0 0), blk (.slice A155 n156 c157), blk (.slice A161 n162 c163), blk (.slice A167 n168 c169), blk (.slice A173 n174 c175), blk (.slice A179 n180 c181), some b89, blk (.slice A36 n37 c38), blk (.slice A14 n15 c16)]) (O := O) (h145.so _ g221 hr222) (i := 9) rfl (j := 1) rfl (by decide))
                have h232 := (Ow.sd (L := [blk (.slice A218 n219 c220), blk (.slice none 0 0), blk (.slice A155 n156 c157), blk (.slice A161 n162 c163), blk (.slice A167 n168 c169), blk (.slice A173 n174 c175), blk (.slice A179 n180 c181), some b89, blk (.slice A36 n37 c38), blk (.slice A14 n15 c16)]) (O := O) (h146.so _ g221 hr222) (i := 8) rfl (j := 1) rfl (by decide))
                have h233 := (h147.k0 g221)
                have h234 := (Ow.sd (L := [blk (.slice A218 n219 c220), blk (.slice none 0 0), blk (.slice A155 n156 c157), blk (.slice A161 n162 c163), blk (.slice A167 n168 c169), blk (.slice A173 n174 c175), blk (.slice A179 n180 c181), some b89, blk (.slice A36 n37 c38), blk (.slice A14 n15 c16)]) (O := O) h224 (i := 0) rfl (j := 1) rfl (by decide))
                have h235 := (Ow.sd (L := [blk (.slice A218 n219 c220), blk (.slice none 0 0), blk (.slice A155 n156 c157), blk (.slice A161 n162 c163), blk (.slice A167 n168 c169), blk (.slice A173 n174 c175), blk (.slice A179 n180 c181), some b89, blk (.slice A36 n37 c38), blk (.slice A14 n15 c16)]) (O := O) (h158.so _ g221 hr222) (i := 2) rfl (j := 1) rfl (by decide))
                have h236 := (Ow.sd (L := [blk (.slice A218 n219 c220), blk (.slice none 0 0), blk (.slice A155 n156 c157), blk (.slice A161 n162 c163), blk (.slice A167 n168 c169), blk (.slice A173 n174 c175), blk (.slice A179 n180 c181), some b89, blk (.slice A36 n37 c38), blk (.slice A14 n15 c16)]) (O := O) (h164.so _ g221 hr222) (i := 3) rfl (j := 1) rfl (by decide))
                have h237 := (Ow.sd (L := [blk (.slice A218 n219 c220), blk (.slice none 0 0), blk (.slice A155 n156 c157), blk (.slice A161 n162 c163), blk (.slice A167 n168 c169), blk (.slice A173 n174 c175), blk (.slice A179 n180 c181), some b89, blk (.slice A36 n37 c38), blk (.slice A14 n15 c16)]) (O := O) (h170.so _ g221 hr222) (i := 4) rfl (j := 1) rfl (by decide))
                have h238 := (Ow.sd (L := [blk (.slice A218 n219 c220), blk (.slice none 0 0), blk (.slice A155 n156 c157), blk (.slice A161 n162 c163), blk (.slice A167 n168 c169), blk (.slice A173 n174 c175), blk (.slice A179 n180 c181), some b89, blk (.slice A36 n37 c38), blk (.slice A14 n15 c16)]) (O := O) (h176.so _ g221 hr222) (i := 5) rfl (j := 1) rfl (by decide))
                have h239 := (Ow.sd (L := [blk (.slice A218 n219 c220), blk (.slice none 0 0), blk (.slice A155 n156 c157), blk (.slice A161 n162 c163), blk (.slice A167 n168 c169), blk (.slice A173 n174 c175), blk (.slice A179 n180 c181), some b89, blk (.slice A36 n37 c38), blk (.slice A14 n15 c16)]) (O := O) (h182.so _ g221 hr222) (i := 6) rfl (j := 1) rfl (by decide))
                refine L_nil ⟨A218, n219, c220, ([] : List Pt), A155, n156, c157, y2, A161, n162, c163, y3, A167, n168, c169, y4, A173, n174, c175, y5, A179, n180, c181, y6, ⟨rfl, rfl, rfl, rfl, rfl, rfl, rfl, rfl, rfl, rfl, rfl, rfl, trivial⟩, hc227, hM226, h229, h230, h231, h232, h233, h234, (hv_new hM184 hr222), h235, hv159, h236, hv165, h237, hv171, h238, hv177, h239, hv183, (fun h => Bool.noConfusion (show true = false from h)), (fun _ _ => ⟨rfl, rfl⟩), (fun h => absurd (show f 2 = true from h) (by rw [hn214]; exact Bool.false_ne_true)), (fun h => absurd (show f 5 = true from h) (by rw [hn215]; exact Bool.false_ne_true)), hs190, hs191, hs192, hs193, hs194, hs195, hs196, hs197, hs198, hs199, hs200, hs201, hs202, hs203⟩
              · have he244 : f 0 = true := hd 0 (List.contains_iff_mem.1 (by kernel_rfl)) (by decide)
                have hn240 : f 5 = false := Bool.eq_false_iff.2 fun e => absurd (hcl 5 (by decide) e 2 (List.contains_iff_mem.1 (by kernel_rfl)) (by decide)) (by rw [hf]; exact Bool.false_ne_true)
                obtain ⟨ht241, hy242⟩ := hs187 (hd 0 (List.contains_iff_mem.1 (by kernel_rfl)) (by decide)) hf
                rw [hy242] at h152
                obtain ⟨u243, rfl⟩ := Has.ins (l := ((65, .slice A149 n150 c151) :: [(3, .slice A10 n11 c12), (4, .slice A14 n15 c16), (5, .slice A19 n20 c21), (6, .slice A36 n37 c38), (7, vb r5), (11, .pointer (some ⟨b89, 0, none⟩)), (66, .slice A10 n11 c12), (68, .agg #[vi 99, vi 99]), (72, .slice A14 n15 c16), (74, .agg #[vi 99, vi 99]), (78, .slice A19 n20 c21), (80, .agg #[vi 99, vi 99])])) ⟨ht241, hh185⟩
                refine ⟨_, rfl, ?_⟩
                refine L_app ei23 hc142 (.slice A149 n150 c151) ([] : List Pt) r rfl h152 (.slice A10 n11 c12) rfl h143.sx 0 rfl hb104 fun w245 A246 n247 c248 g249 s250 hc251 h252 => ?_
                have hM253 := Gm.tq hM184 g249 hv153
                have hv254 := hv_app (L := [blk (.slice A149 n150 c151), blk (.slice A155 n156 c157), blk (.slice A161 n162 c163), blk (.slice A167 n168 c169), blk (.slice A173 n174 c175), blk (.slice A179 n180 c181), some b89, blk (.slice A36 n37 c38), blk (.slice A14 n15 c16)]) (O := O) (i := 0) hM184 rfl hv153 s250 hc251
                have h256 := (Ow.sm (L := [blk (.slice A149 n150 c151), blk (.slice A155 n156 c157), blk (.slice A161 n162 c163), blk (.slice A167 n168 c169), blk (.slice A173 n174 c175), blk (.slice A179 n180 c181), some b89, blk (.slice A36 n37 c38), blk (.slice A14 n15 c16)]) (O := O) h145 hc142 (i := 8) rfl (j := 0) rfl (by decide) g249 s250)
                have h257 := (Ow.sm (L := [blk (.slice A149 n150 c151), blk (.slice A155 n156 c157), blk (.slice A161 n162 c163), blk (.slice A167 n168 c169), blk (.slice A173 n174 c175), blk (.slice A179 n180 c181), some b89, blk (.slice A36 n37 c38), blk (.slice A14 n15 c16)]) (O := O) h146 hc142 (i := 7) rfl (j := 0) rfl (by decide) g249 s250)
                have h258 := (Bx.sm (L := [blk (.slice A149 n150 c151), blk (.slice A155 n156 c157), blk (.slice A161 n162 c163), blk (.slice A167 n168 c169), blk (.slice A173 n174 c175), blk (.slice A179 n180 c181), some b89, blk (.slice A36 n37 c38), blk (.slice A14 n15 c16)]) (O := O) h147 hc142 (i := 6) rfl (j := 0) rfl (by decide) g249)
                have h259 := (Ow.sm (L := [blk (.slice A149 n150 c151), blk (.slice A155 n156 c157), blk (.slice A161 n162 c163), blk (.slice A167 n168 c169), blk (.slice A173 n174 c175), blk (.slice A179 n180 c181), some b89, blk (.slice A36 n37 c38), blk (.slice A14 n15 c16)]) (O := O) h158 hc142 (i := 1) rfl (j := 0) rfl (by decide) g249 s250)
                have h260 := (Ow.sm (L := [blk (.slice A149 n150 c151), blk (.slice A155 n156 c157), blk (.slice A161 n162 c163), blk (.slice A167 n168 c169), blk (.slice A173 n174 c175), blk (.slice A179 n180 c181), some b89, blk (.slice A36 n37 c38), blk (.slice A14 n15 c16)]) (O := O) h164 hc142 (i := 2) rfl (j := 0) rfl (by decide) g249 s250)
                have h261 := (Ow.sm (L := [blk (.slice A149 n150 c151), blk (.slice A155 n156 c157), blk (.slice A161 n162 c163), blk (.slice A167 n168 c169), blk (.slice A173 n174 c175), blk (.slice A179 n180 c181), some b89, blk (.slice A36 n37 c38), blk (.slice A14 n15 c16)]) (O := O) h170 hc142 (i := 3) rfl (j := 0) rfl (by decide) g249 s250)
                have h262 := (Ow.sm (L := [blk (.slice A149 n150 c151), blk (.slice A155 n156 c157), blk (.slice A161 n162 c163), blk (.slice A167 n168 c169), blk (.slice A173 n174 c175), blk (.slice A179 n180 c181), some b89, blk (.slice A36 n37 c38), blk (.slice A14 n15 c16)]) (O := O) h176 hc142 (i := 4) rfl (j := 0) rfl (by decide) g249 s250)
                have h263 := (Ow.sm (L := [blk (.slice A149 n150 c151), blk (.slice A155 n156 c157), blk (.slice A161 n162 c163), blk (.slice A167 n168 c169), blk (.slice A173 n174 c175), blk (.slice A179 n180 c181), some b89, blk (.slice A36 n37 c38), blk (.slice A14 n15 c16)]) (O := O) h182 hc142 (i := 5) rfl (j := 0) rfl (by decide) g249 s250)
                refine L_nil ⟨A246, n247, c248, (([] : List Pt) ++ r), A155, n156, c157, y2, A161, n162, c163, y3, A167, n168, c169, y4, A173, n174, c175, y5, A179, n180, c181, y6, ⟨rfl, rfl, rfl, rfl, rfl, rfl, rfl, rfl, rfl, rfl, rfl, rfl, trivial⟩, hc251, hM253, (h143.st s250), (h144.st s250), h256, h257, h258, h252, hv254, h259, hv159, h260, hv165, h261, hv171, h262, hv177, h263, hv183, (fun h => absurd (show f 0 = false from h) (by rw [he244]; exact fun e => Bool.noConfusion e)), (fun _ h => Bool.noConfusion (show true = false from h)), (fun _ _ => ⟨rfl, rfl⟩), (fun h => absurd (show f 5 = true from h) (by rw [hn240]; exact Bool.false_ne_true)), hs190, hs191, hs192, hs193, hs194, hs195, hs196, hs197, hs198, hs199, hs200, hs201, hs202, hs203⟩
              · obtain ⟨rfl, rfl, rfl, rfl⟩ := hs190 hf
                obtain ⟨u264, rfl⟩ := Has.ins (l := [(3, .slice A10 n11 c12), (4, .slice A14 n15 c16), (5, .slice A19 n20 c21), (6, .slice A36 n37 c38), (7, vb r5), (11, .pointer (some ⟨b89, 0, none⟩)), (66, .slice A10 n11 c12), (68, .agg #[vi 99, vi 99]), (72, .slice A14 n15 c16), (74, .agg #[vi 99, vi 99]), (78, .slice A19 n20 c21), (80, .agg #[vi 99, vi 99])]) hh185
                refine ⟨_, rfl, ?_⟩
                refine L_lit (kd := kPt) ei23 hc142 ([(⟨99, 99⟩ : Pt)] : List Pt) (cells := [vi 99, vi 99]) ⟨[vi 99, vi 99], _, rfl, (kPt.mk _ _ (⟨99, 99⟩ : Pt)), rfl⟩ (fun _ => by kernel_rfl) fun w265 A266 n267 c268 g269 hr270 hc271 h272 => ?_
                have hM274 := Gm.tm hM184 g269
                have hc275 := hc271.drop 2 rfl
                have hc277 := hc275.perm (.swap _ _ _)
                have h279 := (((h143.st (.own _ _ g269 hr270)).st (.dr _ (L := [blk (.slice A266 n267 c268), blk (.slice A149 n150 c151), blk (.slice none 0 0), blk (.slice A161 n162 c163), blk (.slice A167 n168 c169), blk (.slice A173 n174 c175), blk (.slice A179 n180 c181), some b89, blk (.slice A36 n37 c38), blk (.slice A14 n15 c16)]) (O := O) (j := 2) rfl)).st (.perm (L := [blk (.slice A266 n267 c268), blk (.slice A149 n150 c151), blk (.slice A161 n162 c163), blk (.slice A167 n168 c169), blk (.slice A173 n174 c175), blk (.slice A179 n180 c181), some b89, blk (.slice A36 n37 c38), blk (.slice A14 n15 c16)]) (O := O) (.swap _ _ _)))
                have h280 := (((h144.st (.own _ _ g269 hr270)).st (.dr _ (L := [blk (.slice A266 n267 c268), blk (.slice A149 n150 c151), blk (.slice none 0 0), blk (.slice A161 n162 c163), blk (.slice A167 n168 c169), blk (.slice A173 n174 c175), blk (.slice A179 n180 c181), some b89, blk (.slice A36 n37 c38), blk (.slice A14 n15 c16)]) (O := O) (j := 2) rfl)).st (.perm (L := [blk (.slice A266 n267 c268), blk (.slice A149 n150 c151), blk (.slice A161 n162 c163), blk (.slice A167 n168 c169), blk (.slice A173 n174 c175), blk (.slice A179 n180 c181), some b89, blk (.slice A36 n37 c38), blk (.slice A14 n15 c16)]) (O := O) (.swap _ _ _)))
                have h281 := (Ow.sp (L := [blk (.slice A266 n267 c268), blk (.slice A149 n150 c151), blk (.slice A161 n162 c163), blk (.slice A167 n168 c169), blk (.slice A173 n174 c175), blk (.slice A179 n180 c181), some b89, blk (.slice A36 n37 c38), blk (.slice A14 n15 c16)]) (O := O) (Ow.sd (L := [blk (.slice A266 n267 c268), blk (.slice A149 n150 c151), blk (.slice none 0 0), blk (.slice A161 n162 c163), blk (.slice A167 n168 c169), blk (.slice A173 n174 c175), blk (.slice A179 n180 c181), some b89, blk (.slice A36 n37 c38), blk (.slice A14 n15 c16)]) (O := O) (h145.so _ g269 hr270) (i := 9) rfl (j := 2) rfl (by decide)) (.swap _ _ _))
                have h282 := (Ow.sp (L := [blk (.slice A266 n267 c268), blk (.slice A149 n150 c151), blk (.slice A161 n162 c163), blk (.slice A167 n168 c169), blk (.slice A173 n174 c175), blk (.slice A179 n180 c181), some b89, blk (.slice A36 n37 c38), blk (.slice A14 n15 c16)]) (O := O) (Ow.sd (L := [blk (.slice A266 n267 c268), blk (.slice A149 n150 c151), blk (.slice none 0 0), blk (.slice A161 n162 c163), blk (.slice A167 n168 c169), blk (.slice A173 n174 c175), blk (.slice A179 n180 c181), some b89, blk (.slice A36 n37 c38), blk (.slice A14 n15 c16)]) (O := O) (h146.so _ g269 hr270) (i := 8) rfl (j := 2) rfl (by decide)) (.swap _ _ _))
                have h283 := (h147.k0 g269)
                have h284 := (Ow.sp (L := [blk (.slice A266 n267 c268), blk (.slice A149 n150 c151), blk (.slice A161 n162 c163), blk (.slice A167 n168 c169), blk (.slice A173 n174 c175), blk (.slice A179 n180 c181), some b89, blk (.slice A36 n37 c38), blk (.slice A14 n15 c16)]) (O := O) (Ow.sd (L := [blk (.slice A266 n267 c268), blk (.slice A149 n150 c151), blk (.slice none 0 0), blk (.slice A161 n162 c163), blk (.slice A167 n168 c169), blk (.slice A173 n174 c175), blk (.slice A179 n180 c181), some b89, blk (.slice A36 n37 c38), blk (.slice A14 n15 c16)]) (O := O) (h152.so _ g269 hr270) (i := 1) rfl (j := 2) rfl (by decide)) (.swap _ _ _))
                have h285 := (Ow.sp (L := [blk (.slice A266 n267 c268), blk (.slice A149 n150 c151), blk (.slice A161 n162 c163), blk (.slice A167 n168 c169), blk (.slice A173 n174 c175), blk (.slice A179 n180 c181), some b89, blk (.slice A36 n37 c38), blk (.slice A14 n15 c16)]) (O := O) (Ow.sd (L := [blk (.slice A266 n267 c268), blk (.slice A149 n150 c151), blk (.slice none 0 0), blk (.slice A161 n162 c163), blk (.slice A167 n168 c169), blk (.slice A173 n174 c175), blk (.slice A179 n180 c181), some b89, blk (.slice A36 n37 c38), blk (.slice A14 n15 c16)]) (O := O) h272 (i := 0) rfl (j := 2) rfl (by decide)) (.swap _ _ _))
                have h286 := (Ow.sp (L := [blk (.slice A266 n267 c268), blk (.slice A149 n150 c151), blk (.slice A161 n162 c163), blk (.slice A167 n168 c169), blk (.slice A173 n174 c175), blk (.slice A179 n180 c181), some b89, blk (.slice A36 n37 c38), blk (.slice A14 n15 c16)]) (O := O) (Ow.sd (L := [blk (.slice A266 n267 c268), blk (.slice A149 n150 c151), blk (.slice none 0 0), blk (.slice A161 n162 c163), blk (.slice A167 n168 c169), blk (.slice A173 n174 c175), blk (.slice A179 n180 c181), some b89, blk (.slice A36 n37 c38), blk (.slice A14 n15 c16)]) (O := O) (h164.so _ g269 hr270) (i := 3) rfl (j := 2) rfl (by decide)) (.swap _ _ _))
                have h287 := (Ow.sp (L := [blk (.slice A266 n267 c268), blk (.slice A149 n150 c151), blk (.slice A161 n162 c163), blk (.slice A167 n168 c169), blk (.slice A173 n174 c175), blk (.slice A179 n180 c181), some b89, blk (.slice A36 n37 c38), blk (.slice A14 n15 c16)]) (O := O) (Ow.sd (L := [blk (.slice A266 n267 c268), blk (.slice A149 n150 c151), blk (.slice none 0 0), blk (.slice A161 n162 c163), blk (.slice A167 n168 c169), blk (.slice A173 n174 c175), blk (.slice A179 n180 c181), some b89, blk (.slice A36 n37 c38), blk (.slice A14 n15 c16)]) (O := O) (h170.so _ g269 hr270) (i := 4) rfl (j := 2) rfl (by decide)) (.swap _ _ _))
                have h288 := (Ow.sp (L := [blk (.slice A266 n267 c268), blk (.slice A149 n150 c151), blk (.slice A161 n162 c163), blk (.slice A167 n168 c169), blk (.slice A173 n174 c175), blk (.slice A179 n180 c181), some b89, blk (.slice A36 n37 c38), blk (.slice A14 n15 c16)]) (O := O) (Ow.sd (L := [blk (.slice A266 n267 c268), blk (.slice A149 n150 c151), blk (.slice none 0 0), blk (.slice A161 n162 c163), blk (.slice A167 n168 c169), blk (.slice A173 n174 c175), blk (.slice A179 n180 c181), some b89, blk (.slice A36 n37 c38), blk (.slice A14 n15 c16)]) (O := O) (h176.so _ g269 hr270) (i := 5) rfl (j := 2) rfl (by decide)) (.swap _ _ _))
                have h289 := (Ow.sp (L := [blk (.slice A266 n267 c268), blk (.slice A149 n150 c151), blk (.slice A161 n162 c163), blk (.slice A167 n168 c169), blk (.slice A173 n174 c175), blk (.slice A179 n180 c181), some b89, blk (.slice A36 n37 c38), blk (.slice A14 n15 c16)]) (O := O) (Ow.sd (L := [blk (.slice A266 n267 c268), blk (.slice A149 n150 c151), blk (.slice none 0 0), blk (.slice A161 n162 c163), blk (.slice A167 n168 c169), blk (.slice A173 n174 c175), blk (.slice A179 n180 c181), some b89, blk (.slice A36 n37 c38), blk (.slice A14 n15 c16)]) (O := O) (h182.so _ g269 hr270) (i := 6) rfl (j := 2) rfl (by decide)) (.swap _ _ _))
                refine L_nil ⟨A149, n150, c151, y, A266, n267, c268, ([(⟨99, 99⟩ : Pt)] : List Pt), A161, n162, c163, y3, A167, n168, c169, y4, A173, n174, c175, y5, A179, n180, c181, y6, ⟨rfl, rfl, rfl, rfl, rfl, rfl, rfl, rfl, rfl, rfl, rfl, rfl, trivial⟩, hc277, hM274, h279, h280, h281, h282, h283, h284, hv153, h285, (hv_new hM184 hr270), h286, hv165, h287, hv171, h288, hv177, h289, hv183, hs186, hs187, hs188, hs189, (fun h => Bool.noConfusion (show true = false from h)), (fun _ => ⟨rfl, rfl⟩), hs192, hs193, hs194, hs195, hs196, hs197, hs198, hs199, hs200, hs201, hs202, hs203⟩
              · have he296 : f 2 = true := hd 2 (List.contains_iff_mem.1 (by kernel_rfl)) (by decide)
                have he297 : f 0 = true := hcl 2 (by decide) he296 0 (List.contains_iff_mem.1 (by kernel_rfl)) (by decide)
                obtain ⟨ht290, hy291⟩ := hs188 (hd 2 (List.contains_iff_mem.1 (by kernel_rfl)) (by decide)) hf
                rw [hy291] at h152
                obtain ⟨ht292, hy293⟩ := hs191 (hd 4 (List.contains_iff_mem.1 (by kernel_rfl)) (by decide))
                rw [hy293] at h158
                have he294 : f 4 = true := hd 4 (List.contains_iff_mem.1 (by kernel_rfl)) (by decide)
                obtain ⟨u295, rfl⟩ := Has.ins (l := ((69, .slice A155 n156 c157) :: ((67, .slice A149 n150 c151) :: [(3, .slice A10 n11 c12), (4, .slice A14 n15 c16), (5, .slice A19 n20 c21), (6, .slice A36 n37 c38), (7, vb r5), (11, .pointer (some ⟨b89, 0, none⟩)), (66, .slice A10 n11 c12), (68, .agg #[vi 99, vi 99]), (72, .slice A14 n15 c16), (74, .agg #[vi 99, vi 99]), (78, .slice A19 n20 c21), (80, .agg #[vi 99, vi 99])]))) ⟨ht292, ⟨ht290, hh185⟩⟩
                refine ⟨_, rfl, ?_⟩
                refine L_app ei23 hc142 (.slice A149 n150 c151) (([] : List Pt) ++ r) ([(⟨99, 99⟩ : Pt)] : List Pt) rfl h152 (.slice A155 n156 c157) rfl h158.sx 0 rfl hb105 fun w298 A299 n300 c301 g302 s303 hc304 h305 => ?_
                have hM306 := Gm.tq hM184 g302 hv153
                have hv307 := hv_app (L := [blk (.slice A149 n150 c151), blk (.slice A155 n156 c157), blk (.slice A161 n162 c163), blk (.slice A167 n168 c169), blk (.slice A173 n174 c175), blk (.slice A179 n180 c181), some b89, blk (.slice A36 n37 c38), blk (.slice A14 n15 c16)]) (O := O) (i := 0) hM184 rfl hv153 s303 hc304
                have h309 := (Ow.sm (L := [blk (.slice A149 n150 c151), blk (.slice A155 n156 c157), blk (.slice A161 n162 c163), blk (.slice A167 n168 c169), blk (.slice A173 n174 c175), blk (.slice A179 n180 c181), some b89, blk (.slice A36 n37 c38), blk (.slice A14 n15 c16)]) (O := O) h145 hc142 (i := 8) rfl (j := 0) rfl (by decide) g302 s303)
                have h310 := (Ow.sm (L := [blk (.slice A149 n150 c151), blk (.slice A155 n156 c157), blk (.slice A161 n162 c163), blk (.slice A167 n168 c169), blk (.slice A173 n174 c175), blk (.slice A179 n180 c181), some b89, blk (.slice A36 n37 c38), blk (.slice A14 n15 c16)]) (O := O) h146 hc142 (i := 7) rfl (j := 0) rfl (by decide) g302 s303)
                have h311 := (Bx.sm (L := [blk (.slice A149 n150 c151), blk (.slice A155 n156 c157), blk (.slice A161 n162 c163), blk (.slice A167 n168 c169), blk (.slice A173 n174 c175), blk (.slice A179 n180 c181), some b89, blk (.slice A36 n37 c38), blk (.slice A14 n15 c16)]) (O := O) h147 hc142 (i := 6) rfl (j := 0) rfl (by decide) g302)
                have h312 := (Ow.sm (L := [blk (.slice A149 n150 c151), blk (.slice A155 n156 c157), blk (.slice A161 n162 c163), blk (.slice A167 n168 c169), blk (.slice A173 n174 c175), blk (.slice A179 n180 c181), some b89, blk (.slice A36 n37 c38), blk (.slice A14 n15 c16)]) (O := O) h158 hc142 (i := 1) rfl (j := 0) rfl (by decide) g302 s303)
                have h313 := (Ow.sm (L := [blk (.slice A149 n150 c151), blk (.slice A155 n156 c157), blk (.slice A161 n162 c163), blk (.slice A167 n168 c169), blk (.slice A173 n174 c175), blk (.slice A179 n180 c181), some b89, blk (.slice A36 n37 c38), blk (.slice A14 n15 c16)]) (O := O) h164 hc142 (i := 2) rfl (j := 0) rfl (by decide) g302 s303)
                have h314 := (Ow.sm (L := [blk (.slice A149 n150 c151), blk (.slice A155 n156 c157), blk (.slice A161 n162 c163), blk (.slice A167 n168 c169), blk (.slice A173 n174 c175), blk (.slice A179 n180 c181), some b89, blk (.slice A36 n37 c38), blk (.slice A14 n15 c16)]) (O := O) h170 hc142 (i := 3) rfl (j := 0) rfl (by decide) g302 s303)
                have h315 := (Ow.sm (L := [blk (.slice A149 n150 c151), blk (.slice A155 n156 c157), blk (.slice A161 n162 c163), blk (.slice A167 n168 c169), blk (.slice A173 n174 c175), blk (.slice A179 n180 c181), some b89, blk (.slice A36 n37 c38), blk (.slice A14 n15 c16)]) (O := O) h176 hc142 (i := 4) rfl (j := 0) rfl (by decide) g302 s303)
                have h316 := (Ow.sm (L := [blk (.slice A149 n150 c151), blk (.slice A155 n156 c157), blk (.slice A161 n162 c163), blk (.slice A167 n168 c169), blk (.slice A173 n174 c175), blk (.slice A179 n180 c181), some b89, blk (.slice A36 n37 c38), blk (.slice A14 n15 c16)]) (O := O) h182 hc142 (i := 5) rfl (j := 0) rfl (by decide) g302 s303)
                refine L_nil ⟨A299, n300, c301, ((([] : List Pt) ++ r) ++ ([(⟨99, 99⟩ : Pt)] : List Pt)), A155, n156, c157, ([(⟨99, 99⟩ : Pt)] : List Pt), A161, n162, c163, y3, A167, n168, c169, y4, A173, n174, c175, y5, A179, n180, c181, y6, ⟨rfl, rfl, rfl, rfl, rfl, rfl, rfl, rfl, rfl, rfl, rfl, rfl, trivial⟩, hc304, hM306, (h143.st s303), (h144.st s303), h309, h310, h311, h305, hv307, h312, hv159, h313, hv165, h314, hv171, h315, hv177, h316, hv183, (fun h => absurd (show f 0 = false from h) (by rw [he297]; exact fun e => Bool.noConfusion e)), (fun _ h => absurd (show f 2 = false from h) (by rw [he296]; exact fun e => Bool.noConfusion e)), (fun _ h => Bool.noConfusion (show true = false from h)), (fun _ => ⟨rfl, rfl⟩), (fun h => absurd (show f 4 = false from h) (by rw [he294]; exact fun e => Bool.noConfusion e)), (fun _ => ⟨rfl, rfl⟩), hs192, hs193, hs194, hs195, hs196, hs197, hs198, hs199, hs200, hs201, hs202, hs203⟩
              · have hn317 : f 8 = false := Bool.eq_false_iff.2 fun e => absurd (hcl 8 (by decide) e 6 (List.contains_iff_mem.1 (by kernel_rfl)) (by decide)) (by rw [hf]; exact Bool.false_ne_true)
                have hn318 : f 11 = false := Bool.eq_false_iff.2 fun e => absurd (hcl 11 (by decide) e 8 (List.contains_iff_mem.1 (by kernel_rfl)) (by decide)) (by rw [hn317]; exact Bool.false_ne_true)
                obtain ⟨rfl, rfl, rfl, rfl⟩ := hs192 hf
                obtain ⟨u319, rfl⟩ := Has.ins (l := [(3, .slice A10 n11 c12), (4, .slice A14 n15 c16), (5, .slice A19 n20 c21), (6, .slice A36 n37 c38), (7, vb r5), (11, .pointer (some ⟨b89, 0, none⟩)), (66, .slice A10 n11 c12), (68, .agg #[vi 99, vi 99]), (72, .slice A14 n15 c16), (74, .agg #[vi 99, vi 99]), (78, .slice A19 n20 c21), (80, .agg #[vi 99, vi 99])]) hh185
                refine ⟨_, rfl, ?_⟩
                refine L_lit (kd := kPt) ei23 hc142 ([] : List Pt) (cells := []) rfl (fun _ => by kernel_rfl) fun w320 A321 n322 c323 g324 hr325 hc326 h327 => ?_
                have hM329 := Gm.tm hM184 g324
                have hc330 := hc326.drop 3 rfl
                have hc332 := hc330.perm (.swap _ _ _)
                have hc334 := hc332.perm (.cons _ (.swap _ _ _))
                have h336 := ((((h143.st (.own _ _ g324 hr325)).st (.dr _ (L := [blk (.slice A321 n322 c323), blk (.slice A149 n150 c151), blk (.slice A155 n156 c157), blk (.slice none 0 0), blk (.slice A167 n168 c169), blk (.slice A173 n174 c175), blk (.slice A179 n180 c181), some b89, blk (.slice A36 n37 c38), blk (.slice A14 n15 c16)]) (O := O) (j := 3) rfl)).st (.perm (L := [blk (.slice A321 n322 c323), blk (.slice A149 n150 c151), blk (.slice A155 n156 c157), blk (.slice A167 n168 c169), blk (.slice A173 n174 c175), blk (.slice A179 n180 c181), some b89, blk (.slice A36 n37 c38), blk (.slice A14 n15 c16)]) (O := O) (.swap _ _ _))).st (.perm (L := [blk (.slice A149 n150 c151), blk (.slice A321 n322 c323), blk (.slice A155 n156 c157), blk (.slice A167 n168 c169), blk (.slice A173 n174 c175), blk (.slice A179 n180 c181), some b89, blk (.slice A36 n37 c38), blk (.slice A14 n15 c16)]) (O := O) (.cons _ (.swap _ _ _))))
                have h337 := ((((h144.st (.own _ _ g324 hr325)).st (.dr _ (L := [blk (.slice A321 n322 c323), blk (.slice A149 n150 c151), blk (.slice A155 n156 c157), blk (.slice none 0 0), blk (.slice A167 n168 c169), blk (.slice A173 n174 c175), blk (.slice A179 n180 c181), some b89, blk (.slice A36 n37 c38), blk (.slice A14 n15 c16)]) (O := O) (j := 3) rfl)).st (.perm (L := [blk (.slice A321 n322 c323), blk (.slice A149 n150 c151), blk (.slice A155 n156 c157), blk (.slice A167 n168 c169), blk (.slice A173 n174 c175), blk (.slice A179 n180 c181), some b89, blk (.slice A36 n37 c38), blk (.slice A14 n15 c16)]) (O := O) (.swap _ _ _))).st (.perm (L := [blk (.slice A149 n150 c151), blk (.slice A321 n322 c323), blk (.slice A155 n156 c157), blk (.slice A167 n168 c169), blk (.slice A173 n174 c175), blk (.slice A179 n180 c181), some b89, blk (.slice A36 n37 c38), blk (.slice A14 n15 c16)]) (O := O) (.cons _ (.swap _ _ _))))
                have h338 := (Ow.sp (L := [blk (.slice A149 n150 c151), blk (.slice A321 n322 c323), blk (.slice A155 n156 c157), blk (.slice A167 n168 c169), blk (.slice A173 n174 c175), blk (.slice A179 n180 c181), some b89, blk (.slice A36 n37 c38), blk (.slice A14 n15 c16)]) (O := O) (Ow.sp (L := [blk (.slice A321 n322 c323), blk (.slice A149 n150 c151), blk (.slice A155 n156 c157), blk (.slice A167 n168 c169), blk (.slice A173 n174 c175), blk (.slice A179 n180 c181), some b89, blk (.slice A36 n37 c38), blk (.slice A14 n15 c16)]) (O := O) (Ow.sd (L := [blk (.slice A321 n322 c323), blk (.slice A149 n150 c151), blk (.slice A155 n156 c157), blk (.slice none 0 0), blk (.slice A167 n168 c169), blk (.slice A173 n174 c175), blk (.slice A179 n180 c181), some b89, blk (.slice A36 n37 c38), blk (.slice A14 n15 c16)]) (O := O) (h145.so _ g324 hr325) (i := 9) rfl (j := 3) rfl (by decide)) (.swap _ _ _)) (.cons _ (.swap _ _ _)))
                have h339 := (Ow.sp (L := [blk (.slice A149 n150 c151), blk (.slice A321 n322 c323), blk (.slice A155 n156 c157), blk (.slice A167 n168 c169), blk (.slice A173 n174 c175), blk (.slice A179 n180 c181), some b89, blk (.slice A36 n37 c38), blk (.slice A14 n15 c16)]) (O := O) (Ow.sp (L := [blk (.slice A321 n322 c323), blk (.slice A149 n150 c151), blk (.slice A155 n156 c157), blk (.slice A167 n168 c169), blk (.slice A173 n174 c175), blk (.slice A179 n180 c181), some b89, blk (.slice A36 n37 c38), blk (.slice A14 n15 c16)]) (O := O) (Ow.sd (L := [blk (.slice A321 n322 c323), blk (.slice A149 n150 c151), blk (.slice A155 n156 c157), blk (.slice none 0 0), blk (.slice A167 n168 c169), blk (.slice A173 n174 c175), blk (.slice A179 n180 c181), some b89, blk (.slice A36 n37 c38), blk (.slice A14 n15 c16)]) (O := O) (h146.so _ g324 hr325) (i := 8) rfl (j := 3) rfl (by decide)) (.swap _ _ _)) (.cons _ (.swap _ _ _)))
                have h340 := (h147.k0 g324)
                have h341 := (Ow.sp (L := [blk (.slice A149 n150 c151), blk (.slice A321 n322 c323), blk (.slice A155 n156 c157), blk (.slice A167 n168 c169), blk (.slice A173 n174 c175), blk (.slice A179 n180 c181), some b89, blk (.slice A36 n37 c38), blk (.slice A14 n15 c16)]) (O := O) (Ow.sp (L := [blk (.slice A321 n322 c323), blk (.slice A149 n150 c151), blk (.slice A155 n156 c157), blk (.slice A167 n168 c169), blk (.slice A173 n174 c175), blk (.slice A179 n180 c181), some b89, blk (.slice A36 n37 c38), blk (.slice A14 n15 c16)]) (O := O) (Ow.sd (L := [blk (.slice A321 n322 c323), blk (.slice A149 n150 c151), blk (.slice A155 n156 c157), blk (.slice none 0 0), blk (.slice A167 n168 c169), blk (.slice A173 n174 c175), blk (.slice A179 n180 c181), some b89, blk (.slice A36 n37 c38), blk (.slice A14 n15 c16)]) (O := O) (h152.so _ g324 hr325) (i := 1) rfl (j := 3) rfl (by decide)) (.swap _ _ _)) (.cons _ (.swap _ _ _)))
                have h342 := (Ow.sp (L := [blk (.slice A149 n150 c151), blk (.slice A321 n322 c323), blk (.slice A155 n156 c157), blk (.slice A167 n168 c169), blk (.slice A173 n174 c175), blk (.slice A179 n180 c181), some b89, blk (.slice A36 n37 c38), blk (.slice A14 n15 c16)]) (O := O) (Ow.sp (L := [blk (.slice A321 n322 c323), blk (.slice A149 n150 c151), blk (.slice A155 n156 c157), blk (.slice A167 n168 c169), blk (.slice A173 n174 c175), blk (.slice A179 n180 c181), some b89, blk (.slice A36 n37 c38), blk (.slice A14 n15 c16)]) (O := O) (Ow.sd (L := [blk (.slice A321 n322 c323), blk (.slice A149 n150 c151), blk (.slice A155 n156 c157), blk (.slice none 0 0), blk (.slice A167 n168 c169), blk (.slice A173 n174 c175), blk (.slice A179 n180 c181), some b89, blk (.slice A36 n37 c38), blk (.slice A14 n15 c16)]) (O := O) (h158.so _ g324 hr325) (i := 2) rfl (j := 3) rfl (by decide)) (.swap _ _ _)) (.cons _ (.swap _ _ _)))
                have h343 := (Ow.sp (L := [blk (.slice A149 n150 c151), blk (.slice A321 n322 c323), blk (.slice A155 n156 c157), blk (.slice A167 n168 c169), blk (.slice A173 n174 c175), blk (.slice A179 n180 c181), some b89, blk (.slice A36 n37 c38), blk (.slice A14 n15 c16)]) (O := O) (Ow.sp (L := [blk (.slice A321 n322 c323), blk (.slice A149 n150 c151), blk (.slice A155 n156 c157), blk (.slice A167 n168 c169), blk (.slice A173 n174 c175), blk (.slice A179 n180 c181), some b89, blk (.slice A36 n37 c38), blk (.slice A14 n15 c16)]) (O := O) (Ow.sd (L := [blk (.slice A321 n322 c323), blk (.slice A149 n150 c151), blk (.slice A155 n156 c157), blk (.slice none 0 0), blk (.slice A167 n168 c169), blk (.slice A173 n174 c175), blk (.slice A179 n180 c181), some b89, blk (.slice A36 n37 c38), blk (.slice A14 n15 c16)]) (O := O) h327 (i := 0) rfl (j := 3) rfl (by decide)) (.swap _ _ _)) (.cons _ (.swap _ _ _)))
                have h344 := (Ow.sp (L := [blk (.slice A149 n150 c151), blk (.slice A321 n322 c323), blk (.slice A155 n156 c157), blk (.slice A167 n168 c169), blk (.slice A173 n174 c175), blk (.slice A179 n180 c181), some b89, blk (.slice A36 n37 c38), blk (.slice A14 n15 c16)]) (O := O) (Ow.sp (L := [blk (.slice A321 n322 c323), blk (.slice A149 n150 c151), blk (.slice A155 n156 c157), blk (.slice A167 n168 c169), blk (.slice A173 n174 c175), blk (.slice A179 n180 c181), some b89, blk (.slice A36 n37 c38), blk (.slice A14 n15 c16)]) (O := O) (Ow.sd (L := [blk (.slice A321 n322 c323), blk (.slice A149 n150 c151), blk (.slice A155 n156 c157), blk (.slice none 0 0), blk (.slice A167 n168 c169), blk (.slice A173 n174 c175), blk (.slice A179 n180 c181), some b89, blk (.slice A36 n37 c38), blk (.slice A14 n15 c16)]) (O := O) (h170.so _ g324 hr325) (i := 4) rfl (j := 3) rfl (by decide)) (.swap _ _ _)) (.cons _ (.swap _ _ _)))
                have h345 := (Ow.sp (L := [blk (.slice A149 n150 c151), blk (.slice A321 n322 c323), blk (.slice A155 n156 c157), blk (.slice A167 n168 c169), blk (.slice A173 n174 c175), blk (.slice A179 n180 c181), some b89, blk (.slice A36 n37 c38), blk (.slice A14 n15 c16)]) (O := O) (Ow.sp (L := [blk (.slice A321 n322 c323), blk (.slice A149 n150 c151), blk (.slice A155 n156 c157), blk (.slice A167 n168 c169), blk (.slice A173 n174 c175), blk (.slice A179 n180 c181), some b89, blk (.slice A36 n37 c38), blk (.slice A14 n15 c16)]) (O := O) (Ow.sd (L := [blk (.slice A321 n322 c323), blk (.slice A149 n150 c151), blk (.slice A155 n156 c157), blk (.slice none 0 0), blk (.slice A167 n168 c169), blk (.slice A173 n174 c175), blk (.slice A179 n180 c181), some b89, blk (.slice A36 n37 c38), blk (.slice A14 n15 c16)]) (O := O) (h176.so _ g324 hr325) (i := 5) rfl (j := 3) rfl (by decide)) (.swap _ _ _)) (.cons _ (.swap _ _ _)))
                have h346 := (Ow.sp (L := [blk (.slice A149 n150 c151), blk (.slice A321 n322 c323), blk (.slice A155 n156 c157), blk (.slice A167 n168 c169), blk (.slice A173 n174 c175), blk (.slice A179 n180 c181), some b89, blk (.slice A36 n37 c38), blk (.slice A14 n15 c16)]) (O := O) (Ow.sp (L := [blk (.slice A321 n322 c323), blk (.slice A149 n150 c151), blk (.slice A155 n156 c157), blk (.slice A167 n168 c169), blk (.slice A173 n174 c175), blk (.slice A179 n180 c181), some b89, blk (.slice A36 n37 c38), blk (.slice A14 n15 c16)]) (O := O) (Ow.sd (L := [blk (.slice A321 n322 c323), blk (.slice A149 n150 c151), blk (.slice A155 n156 c157), blk (.slice none 0 0), blk (.slice A167 n168 c169), blk (.slice A173 n174 c175), blk (.slice A179 n180 c181), some b89, blk (.slice A36 n37 c38), blk (.slice A14 n15 c16)]) (O := O) (h182.so _ g324 hr325) (i := 6) rfl (j := 3) rfl (by decide)) (.swap _ _ _)) (.cons _ (.swap _ _ _)))
                refine L_nil ⟨A149, n150, c151, y, A155, n156, c157, y2, A321, n322, c323, ([] : List Pt), A167, n168, c169, y4, A173, n174, c175, y5, A179, n180, c181, y6, ⟨rfl, rfl, rfl, rfl, rfl, rfl, rfl, rfl, rfl, rfl, rfl, rfl, trivial⟩, hc334, hM329, h336, h337, h338, h339, h340, h341, hv153, h342, hv159, h343, (hv_new hM184 hr325), h344, hv171, h345, hv177, h346, hv183, hs186, hs187, hs188, hs189, hs190, hs191, (fun h => Bool.noConfusion (show true = false from h)), (fun _ _ => ⟨rfl, rfl⟩), (fun h => absurd (show f 8 = true from h) (by rw [hn317]; exact Bool.false_ne_true)), (fun h => absurd (show f 11 = true from h) (by rw [hn318]; exact Bool.false_ne_true)), hs196, hs197, hs198, hs199, hs200, hs201, hs202, hs203⟩
              · have he351 : f 6 = true := hd 6 (List.contains_iff_mem.1 (by kernel_rfl)) (by decide)
                have hn347 : f 11 = false := Bool.eq_false_iff.2 fun e => absurd (hcl 11 (by decide) e 8 (List.contains_iff_mem.1 (by kernel_rfl)) (by decide)) (by rw [hf]; exact Bool.false_ne_true)
                obtain ⟨ht348, hy349⟩ := hs193 (hd 6 (List.contains_iff_mem.1 (by kernel_rfl)) (by decide)) hf
                rw [hy349] at h164
                obtain ⟨u350, rfl⟩ := Has.ins (l := ((71, .slice A161 n162 c163) :: [(3, .slice A10 n11 c12), (4, .slice A14 n15 c16), (5, .slice A19 n20 c21), (6, .slice A36 n37 c38), (7, vb r5), (11, .pointer (some ⟨b89, 0, none⟩)), (66, .slice A10 n11 c12), (68, .agg #[vi 99, vi 99]), (72, .slice A14 n15 c16), (74, .agg #[vi 99, vi 99]), (78, .slice A19 n20 c21), (80, .agg #[vi 99, vi 99])])) ⟨ht348, hh185⟩
                refine ⟨_, rfl, ?_⟩
                refine L_app ei23 hc142 (.slice A161 n162 c163) ([] : List Pt) r2 rfl h164 (.slice A14 n15 c16) rfl h145.sx 2 rfl hb106 fun w352 A353 n354 c355 g356 s357 hc358 h359 => ?_
                have hM360 := Gm.tq hM184 g356 hv165
                have hv361 := hv_app (L := [blk (.slice A149 n150 c151), blk (.slice A155 n156 c157), blk (.slice A161 n162 c163), blk (.slice A167 n168 c169), blk (.slice A173 n174 c175), blk (.slice A179 n180 c181), some b89, blk (.slice A36 n37 c38), blk (.slice A14 n15 c16)]) (O := O) (i := 2) hM184 rfl hv165 s357 hc358
                have h363 := (Ow.sm (L := [blk (.slice A149 n150 c151), blk (.slice A155 n156 c157), blk (.slice A161 n162 c163), blk (.slice A167 n168 c169), blk (.slice A173 n174 c175), blk (.slice A179 n180 c181), some b89, blk (.slice A36 n37 c38), blk (.slice A14 n15 c16)]) (O := O) h145 hc142 (i := 8) rfl (j := 2) rfl (by decide) g356 s357)
                have h364 := (Ow.sm (L := [blk (.slice A149 n150 c151), blk (.slice A155 n156 c157), blk (.slice A161 n162 c163), blk (.slice A167 n168 c169), blk (.slice A173 n174 c175), blk (.slice A179 n180 c181), some b89, blk (.slice A36 n37 c38), blk (.slice A14 n15 c16)]) (O := O) h146 hc142 (i := 7) rfl (j := 2) rfl (by decide) g356 s357)
                have h365 := (Bx.sm (L := [blk (.slice A149 n150 c151), blk (.slice A155 n156 c157), blk (.slice A161 n162 c163), blk (.slice A167 n168 c169), blk (.slice A173 n174 c175), blk (.slice A179 n180 c181), some b89, blk (.slice A36 n37 c38), blk (.slice A14 n15 c16)]) (O := O) h147 hc142 (i := 6) rfl (j := 2) rfl (by decide) g356)
                have h366 := (Ow.sm (L := [blk (.slice A149 n150 c151), blk (.slice A155 n156 c157), blk (.slice A161 n162 c163), blk (.slice A167 n168 c169), blk (.slice A173 n174 c175), blk (.slice A179 n180 c181), some b89, blk (.slice A36 n37 c38), blk (.slice A14 n15 c16)]) (O := O) h152 hc142 (i := 0) rfl (j := 2) rfl (by decide) g356 s357)
                have h367 := (Ow.sm (L := [blk (.slice A149 n150 c151), blk (.slice A155 n156 c157), blk (.slice A161 n162 c163), blk (.slice A167 n168 c169), blk (.slice A173 n174 c175), blk (.slice A179 n180 c181), some b89, blk (.slice A36 n37 c38), blk (.slice A14 n15 c16)]) (O := O) h158 hc142 (i := 1) rfl (j := 2) rfl (by decide) g356 s357)
                have h368 := (Ow.sm (L := [blk (.slice A149 n150 c151), blk (.slice A155 n156 c157), blk (.slice A161 n162 c163), blk (.slice A167 n168 c169), blk (.slice A173 n174 c175), blk (.slice A179 n180 c181), some b89, blk (.slice A36 n37 c38), blk (.slice A14 n15 c16)]) (O := O) h170 hc142 (i := 3) rfl (j := 2) rfl (by decide) g356 s357)
                have h369 := (Ow.sm (L := [blk (.slice A149 n150 c151), blk (.slice A155 n156 c157), blk (.slice A161 n162 c163), blk (.slice A167 n168 c169), blk (.slice A173 n174 c175), blk (.slice A179 n180 c181), some b89, blk (.slice A36 n37 c38), blk (.slice A14 n15 c16)]) (O := O) h176 hc142 (i := 4) rfl (j := 2) rfl (by decide) g356 s357)
                have h370 := (Ow.sm (L := [blk (.slice A149 n150 c151), blk (.slice A155 n156 c157), blk (.slice A161 n162 c163), blk (.slice A167 n168 c169), blk (.slice A173 n174 c175), blk (.slice A179 n180 c181), some b89, blk (.slice A36 n37 c38), blk (.slice A14 n15 c16)]) (O := O) h182 hc142 (i := 5) rfl (j := 2) rfl (by decide) g356 s357)
                refine L_nil ⟨A149, n150, c151, y, A155, n156, c157, y2, A353, n354, c355, (([] : List Pt) ++ r2), A167, n168, c169, y4, A173, n174, c175, y5, A179, n180, c181, y6, ⟨rfl, rfl, rfl, rfl, rfl, rfl, rfl, rfl, rfl, rfl, rfl, rfl, trivial⟩, hc358, hM360, (h143.st s357), (h144.st s357), h363, h364, h365, h366, hv153, h367, hv159, h359, hv361, h368, hv171, h369, hv177, h370, hv183, hs186, hs187, hs188, hs189, hs190, hs191, (fun h => absurd (show f 6 = false from h) (by rw [he351]; exact fun e => Bool.noConfusion e)), (fun _ h => Bool.noConfusion (show true = false from h)), (fun _ _ => ⟨rfl, rfl⟩), (fun h => absurd (show f 11 = true from h) (by rw [hn347]; exact Bool.false_ne_true)), hs196, hs197, hs198, hs199, hs200, hs201, hs202, hs203⟩
              · obtain ⟨rfl, rfl, rfl, rfl⟩ := hs196 hf
                obtain ⟨u371, rfl⟩ := Has.ins (l := [(3, .slice A10 n11 c12), (4, .slice A14 n15 c16), (5, .slice A19 n20 c21), (6, .slice A36 n37 c38), (7, vb r5), (11, .pointer (some ⟨b89, 0, none⟩)), (66, .slice A10 n11 c12), (68, .agg #[vi 99, vi 99]), (72, .slice A14 n15 c16), (74, .agg #[vi 99, vi 99]), (78, .slice A19 n20 c21), (80, .agg #[vi 99, vi 99])]) hh185
                refine ⟨_, rfl, ?_⟩
                refine L_lit (kd := kPt) ei23 hc142 ([(⟨99, 99⟩ : Pt)] : List Pt) (cells := [vi 99, vi 99]) ⟨[vi 99, vi 99], _, rfl, (kPt.mk _ _ (⟨99, 99⟩ : Pt)), rfl⟩ (fun _ => by kernel_rfl) fun w372 A373 n374 c375 g376 hr377 hc378 h379 => ?_
                have hM381 := Gm.tm hM184 g376
                have hc382 := hc378.drop 4 rfl
                have hc384 := hc382.perm (.swap _ _ _)
                have hc386 := hc384.perm (.cons _ (.swap _ _ _))
                have hc388 := hc386.perm (.cons _ (.cons _ (.swap _ _ _)))
                have h390 := (((((h143.st (.own _ _ g376 hr377)).st (.dr _ (L := [blk (.slice A373 n374 c375), blk (.slice A149 n150 c151), blk (.slice A155 n156 c157), blk (.slice A161 n162 c163), blk (.slice none 0 0), blk (.slice A173 n174 c175), blk (.slice A179 n180 c181), some b89, blk (.slice A36 n37 c38), blk (.slice A14 n15 c16)]) (O := O) (j := 4) rfl)).st (.perm (L := [blk (.slice A373 n374 c375), blk (.slice A149 n150 c151), blk (.slice A155 n156 c157), blk (.slice A161 n162 c163), blk (.slice A173 n174 c175), blk (.slice A179 n180 c181), some b89, blk (.slice A36 n37 c38), blk (.slice A14 n15 c16)]) (O := O) (.swap _ _ _))).st (.perm (L := [blk (.slice A149 n150 c151), blk (.slice A373 n374 c375), blk (.slice A155 n156 c157), blk (.slice A161 n162 c163), blk (.slice A173 n174 c175), blk (.slice A179 n180 c181), some b89, blk (.slice A36 n37 c38), blk (.slice A14 n15 c16)]) (O := O) (.cons _ (.swap _ _ _)))).st (.perm (L := [blk (.slice A149 n150 c151), blk (.slice A155 n156 c157), blk (.slice A373 n374 c375), blk (.slice A161 n162 c163), blk (.slice A173 n174 c175), blk (.slice A179 n180 c181), some b89, blk (.slice A36 n37 c38), blk (.slice A14 n15 c16)]) (O := O) (.cons _ (.cons _ (.swap _ _ _)))))
                have h391 := (((((h144.st (.own _ _ g376 hr377)).st (.dr _ (L := [blk (.slice A373 n374 c375), blk (.slice A149 n150 c151), blk (.slice A155 n156 c157), blk (.slice A161 n162 c163), blk (.slice none 0 0), blk (.slice A173 n174 c175), blk (.slice A179 n180 c181), some b89, blk (.slice A36 n37 c38), blk (.slice A14 n15 c16)]) (O := O) (j := 4) rfl)).st (.perm (L := [blk (.slice A373 n374 c375), blk (.slice A149 n150 c151), blk (.slice A155 n156 c157), blk (.slice A161 n162 c163), blk (.slice A173 n174 c175), blk (.slice A179 n180 c181), some b89, blk (.slice A36 n37 c38), blk (.slice A14 n15 c16)]) (O := O) (.swap _ _ _))).st (.perm (L := [blk (.slice A149 n150 c151), blk (.slice A373 n374 c375), blk (.slice A155 n156 c157), blk (.slice A161 n162 c163), blk (.slice A173 n174 c175), blk (.slice A179 n180 c181), some b89, blk (.slice A36 n37 c38), blk (.slice A14 n15 c16)]) (O := O) (.cons _ (.swap _ _ _)))).st (.perm (L := [blk (.slice A149 n150 c151), blk (.slice A155 n156 c157), blk (.slice A373 n374 c375), blk (.slice A161 n162 c163), blk (.slice A173 n174 c175), blk (.slice A179 n180 c181), some b89, blk (.slice A36 n37 c38), blk (.slice A14 n15 c16)]) (O := O) (.cons _ (.cons _ (.swap _ _ _)))))
                have h392 := (Ow.sp (L := [blk (.slice A149 n150 c151), blk (.slice A155 n156 c157), blk (.slice A373 n374 c375), blk (.slice A161 n162 c163), blk (.slice A173 n174 c175), blk (.slice A179 n180 c181), some b89, blk (.slice A36 n37 c38), blk (.slice A14 n15 c16)]) (O := O) (Ow.sp (L := [blk (.slice A149 n150 c151), blk (.slice A373 n374 c375), blk (.slice A155 n156 c157), blk (.slice A161 n162 c163), blk (.slice A173 n174 c175), blk (.slice A179 n180 c181), some b89, blk (.slice A36 n37 c38), blk (.slice A14 n15 c16)]) (O := O) (Ow.sp (L := [blk (.slice A373 n374 c375), blk (.slice A149 n150 c151), blk (.slice A155 n156 c157), blk (.slice A161 n162 c163), blk (.slice A173 n174 c175), blk (.slice A179 n180 c181), some b89, blk (.slice A36 n37 c38), blk (.slice A14 n15 c16)]) (O := O) (Ow.sd (L := [blk (.slice A373 n374 c375), blk (.slice A149 n150 c151), blk (.slice A155 n156 c157), blk (.slice A161 n162 c163), blk (.slice none 0 0), blk (.slice A173 n174 c175), blk (.slice A179 n180 c181), some b89, blk (.slice A36 n37 c38), blk (.slice A14 n15 c16)]) (O := O) (h145.so _ g376 hr377) (i := 9) rfl (j := 4) rfl (by decide)) (.swap _ _ _)) (.cons _ (.swap _ _ _))) (.cons _ (.cons _ (.swap _ _ _))))
                have h393 := (Ow.sp (L := [blk (.slice A149 n150 c151), blk (.slice A155 n156 c157), blk (.slice A373 n374 c375), blk (.slice A161 n162 c163), blk (.slice A173 n174 c175), blk (.slice A179 n180 c181), some b89, blk (.slice A36 n37 c38), blk (.slice A14 n15 c16)]) (O := O) (Ow.sp (L := [blk (.slice A149 n150 c151), blk (.slice A373 n374 c375), blk (.slice A155 n156 c157), blk (.slice A161 n162 c163), blk (.slice A173 n174 c175), blk (.slice A179 n180 c181), some b89, blk (.slice A36 n37 c38), blk (.slice A14 n15 c16)]) (O := O) (Ow.sp (L := [blk (.slice A373 n374 c375), blk (.slice A149 n150 c151), blk (.slice A155 n156 c157), blk (.slice A161 n162 c163), blk (.slice A173 n174 c175), blk (.slice A179 n180 c181), some b89, blk (.slice A36 n37 c38), blk (.slice A14 n15 c16)]) (O := O) (Ow.sd (L := [blk (.slice A373 n374 c375), blk (.slice A149 n150 c151), blk (.slice A155 n156 c157), blk (.slice A161 n162 c163), blk (.slice none 0 0), blk (.slice A173 n174 c175), blk (.slice A179 n180 c181), some b89, blk (.slice A36 n37 c38), blk (.slice A14 n15 c16)]) (O := O) (h146.so _ g376 hr377) (i := 8) rfl (j := 4) rfl (by decide)) (.swap _ _ _)) (.cons _ (.swap _ _ _))) (.cons _ (.cons _ (.swap _ _ _))))
                have h394 := (h147.k0 g376)
                have h395 := (Ow.sp (L := [blk (.slice A149 n150 c151), blk (.slice A155 n156 c157), blk (.slice A373 n374 c375), blk (.slice A161 n162 c163), blk (.slice A173 n174 c175), blk (.slice A179 n180 c181), some b89, blk (.slice A36 n37 c38), blk (.slice A14 n15 c16)]) (O := O) (Ow.sp (L := [blk (.slice A149 n150 c151), blk (.slice A373 n374 c375), blk (.slice A155 n156 c157), blk (.slice A161 n162 c163), blk (.slice A173 n174 c175), blk (.slice A179 n180 c181), some b89, blk (.slice A36 n37 c38), blk (.slice A14 n15 c16)]) (O := O) (Ow.sp (L := [blk (.slice A373 n374 c375), blk (.slice A149 n150 c151), blk (.slice A155 n156 c157), blk (.slice A161 n162 c163), blk (.slice A173 n174 c175), blk (.slice A179 n180 c181), some b89, blk (.slice A36 n37 c38), blk (.slice A14 n15 c16)]) (O := O) (Ow.sd (L := [blk (.slice A373 n374 c375), blk (.slice A149 n150 c151), blk (.slice A155 n156 c157), blk (.slice A161 n162 c163), blk (.slice none 0 0), blk (.slice A173 n174 c175), blk (.slice A179 n180 c181), some b89, blk (.slice A36 n37 c38), blk (.slice A14 n15 c16)]) (O := O) (h152.so _ g376 hr377) (i := 1) rfl (j := 4) rfl (by decide)) (.swap _ _ _)) (.cons _ (.swap _ _ _))) (.cons _ (.cons _ (.swap _ _ _))))
                have h396 := (Ow.sp (L := [blk (.slice A149 n150 c151), blk (.slice A155 n156 c157), blk (.slice A373 n374 c375), blk (.slice A161 n162 c163), blk (.slice A173 n174 c175), blk (.slice A179 n180 c181), some b89, blk (.slice A36 n37 c38), blk (.slice A14 n15 c16)]) (O := O) (Ow.sp (L := [blk (.slice A149 n150 c151), blk (.slice A373 n374 c375), blk (.slice A155 n156 c157), blk (.slice A161 n162 c163), blk (.slice A173 n174 c175), blk (.slice A179 n180 c181), some b89, blk (.slice A36 n37 c38), blk (.slice A14 n15 c16)]) (O := O) (Ow.sp (L := [blk (.slice A373 n374 c375), blk (.slice A149 n150 c151), blk (.slice A155 n156 c157), blk (.slice A161 n162 c163), blk (.slice A173 n174 c175), blk (.slice A179 n180 c181), some b89, blk (.slice A36 n37 c38), blk (.slice A14 n15 c16)]) (O := O) (Ow.sd (L := [blk (.slice A373 n374 c375), blk (.slice A149 n150 c151), blk (.slice A155 n156 c157), blk (.slice A161 n162 c163), blk (.slice none 0 0), blk (.slice A173 n174 c175), blk (.slice A179 n180 c181), some b89, blk (.slice A36 n37 c38), blk (.slice A14 n15 c16)]) (O := O) (h158.so _ g376 hr377) (i := 2) rfl (j := 4) rfl (by decide)) (.swap _ _ _)) (.cons _ (.swap _ _ _))) (.cons _ (.cons _ (.swap _ _ _))))
                have h397 := (Ow.sp (L := [blk (.slice A149 n150 c151), blk (.slice A155 n156 c157), blk (.slice A373 n374 c375), blk (.slice A161 n162 c163), blk (.slice A173 n174 c175), blk (.slice A179 n180 c181), some b89, blk (.slice A36 n37 c38), blk (.slice A14 n15 c16)]) (O := O) (Ow.sp (L := [blk (.slice A149 n150 c151), blk (.slice A373 n374 c375), blk (.slice A155 n156 c157), blk (.slice A161 n162 c163), blk (.slice A173 n174 c175), blk (.slice A179 n180 c181), some b89, blk (.slice A36 n37 c38), blk (.slice A14 n15 c16)]) (O := O) (Ow.sp (L := [blk (.slice A373 n374 c375), blk (.slice A149 n150 c151), blk (.slice A155 n156 c157), blk (.slice A161 n162 c163), blk (.slice A173 n174 c175), blk (.slice A179 n180 c181), some b89, blk (.slice A36 n37 c38), blk (.slice A14 n15 c16)]) (O := O) (Ow.sd (L := [blk (.slice A373 n374 c375), blk (.slice A149 n150 c151), blk (.slice A155 n156 c157), blk (.slice A161 n162 c163), blk (.slice none 0 0), blk (.slice A173 n174 c175), blk (.slice A179 n180 c181), some b89, blk (.slice A36 n37 c38), blk (.slice A14 n15 c16)]) (O := O) (h164.so _ g376 hr377) (i := 3) rfl (j := 4) rfl (by decide)) (.swap _ _ _)) (.cons _ (.swap _ _ _))) (.cons _ (.cons _ (.swap _ _ _))))
                have h398 := (Ow.sp (L := [blk (.slice A149 n150 c151), blk (.slice A155 n156 c157), blk (.slice A373 n374 c375), blk (.slice A161 n162 c163), blk (.slice A173 n174 c175), blk (.slice A179 n180 c181), some b89, blk (.slice A36 n37 c38), blk (.slice A14 n15 c16)]) (O := O) (Ow.sp (L := [blk (.slice A149 n150 c151), blk (.slice A373 n374 c375), blk (.slice A155 n156 c157), blk (.slice A161 n162 c163), blk (.slice A173 n174 c175), blk (.slice A179 n180 c181), some b89, blk (.slice A36 n37 c38), blk (.slice A14 n15 c16)]) (O := O) (Ow.sp (L := [blk (.slice A373 n374 c375), blk (.slice A149 n150 c151), blk (.slice A155 n156 c157), blk (.slice A161 n162 c163), blk (.slice A173 n174 c175), blk (.slice A179 n180 c181), some b89, blk (.slice A36 n37 c38), blk (.slice A14 n15 c16)]) (O := O) (Ow.sd (L := [blk (.slice A373 n374 c375), blk (.slice A149 n150 c151), blk (.slice A155 n156 c157), blk (.slice A161 n162 c163), blk (.slice none 0 0), blk (.slice A173 n174 c175), blk (.slice A179 n180 c181), some b89, blk (.slice A36 n37 c38), blk (.slice A14 n15 c16)]) (O := O) h379 (i := 0) rfl (j := 4) rfl (by decide)) (.swap _ _ _)) (.cons _ (.swap _ _ _))) (.cons _ (.cons _ (.swap _ _ _))))
                have h399 := (Ow.sp (L := [blk (.slice A149 n150 c151), blk (.slice A155 n156 c157), blk (.slice A373 n374 c375), blk (.slice A161 n162 c163), blk (.slice A173 n174 c175), blk (.slice A179 n180 c181), some b89, blk (.slice A36 n37 c38), blk (.slice A14 n15 c16)]) (O := O) (Ow.sp (L := [blk (.slice A149 n150 c151), blk (.slice A373 n374 c375), blk (.slice A155 n156 c157), blk (.slice A161 n162 c163), blk (.slice A173 n174 c175), blk (.slice A179 n180 c181), some b89, blk (.slice A36 n37 c38), blk (.slice A14 n15 c16)]) (O := O) (Ow.sp (L := [blk (.slice A373 n374 c375), blk (.slice A149 n150 c151), blk (.slice A155 n156 c157), blk (.slice A161 n162 c163), blk (.slice A173 n174 c175), blk (.slice A179 n180 c181), some b89, blk (.slice A36 n37 c38), blk (.slice A14 n15 c16)]) (O := O) (Ow.sd (L := [blk (.slice A373 n374 c375), blk (.slice A149 n150 c151), blk (.slice A155 n156 c157), blk (.slice A161 n162 c163), blk (.slice none 0 0), blk (.slice A173 n174 c175), blk (.slice A179 n180 c181), some b89, blk (.slice A36 n37 c38), blk (.slice A14 n15 c16)]) (O := O) (h176.so _ g376 hr377) (i := 5) rfl (j := 4) rfl (by decide)) (.swap _ _ _)) (.cons _ (.swap _ _ _))) (.cons _ (.cons _ (.swap _ _ _))))
                have h400 := (Ow.sp (L := [blk (.slice A149 n150 c151), blk (.slice A155 n156 c157), blk (.slice A373 n374 c375), blk (.slice A161 n162 c163), blk (.slice A173 n174 c175), blk (.slice A179 n180 c181), some b89, blk (.slice A36 n37 c38), blk (.slice A14 n15 c16)]) (O := O) (Ow.sp (L := [blk (.slice A149 n150 c151), blk (.slice A373 n374 c375), blk (.slice A155 n156 c157), blk (.slice A161 n162 c163), blk (.slice A173 n174 c175), blk (.slice A179 n180 c181), some b89, blk (.slice A36 n37 c38), blk (.slice A14 n15 c16)]) (O := O) (Ow.sp (L := [blk (.slice A373 n374 c375), blk (.slice A149 n150 c151), blk (.slice A155 n156 c157), blk (.slice A161 n162 c163), blk (.slice A173 n174 c175), blk (.slice A179 n180 c181), some b89, blk (.slice A36 n37 c38), blk (.slice A14 n15 c16)]) (O := O) (Ow.sd (L := [blk (.slice A373 n374 c375), blk (.slice A149 n150 c151), blk (.slice A155 n156 c157), blk (.slice A161 n162 c163), blk (.slice none 0 0), blk (.slice A173 n174 c175), blk (.slice A179 n180 c181), some b89, blk (.slice A36 n37 c38), blk (.slice A14 n15 c16)]) (O := O) (h182.so _ g376 hr377) (i := 6) rfl (j := 4) rfl (by decide)) (.swap _ _ _)) (.cons _ (.swap _ _ _))) (.cons _ (.cons _ (.swap _ _ _))))
                refine L_nil ⟨A149, n150, c151, y, A155, n156, c157, y2, A161, n162, c163, y3, A373, n374, c375, ([(⟨99, 99⟩ : Pt)] : List Pt), A173, n174, c175, y5, A179, n180, c181, y6, ⟨rfl, rfl, rfl, rfl, rfl, rfl, rfl, rfl, rfl, rfl, rfl, rfl, trivial⟩, hc388, hM381, h390, h391, h392, h393, h394, h395, hv153, h396, hv159, h397, hv165, h398, (hv_new hM184 hr377), h399, hv177, h400, hv183, hs186, hs187, hs188, hs189, hs190, hs191, hs192, hs193, hs194, hs195, (fun h => Bool.noConfusion (show true = false from h)), (fun _ => ⟨rfl, rfl⟩), hs198, hs199, hs200, hs201, hs202, hs203⟩
              · have he407 : f 8 = true := hd 8 (List.contains_iff_mem.1 (by kernel_rfl)) (by decide)
                have he408 : f 6 = true := hcl 8 (by decide) he407 6 (List.contains_iff_mem.1 (by kernel_rfl)) (by decide)
                obtain ⟨ht401, hy402⟩ := hs194 (hd 8 (List.contains_iff_mem.1 (by kernel_rfl)) (by decide)) hf
                rw [hy402] at h164
                obtain ⟨ht403, hy404⟩ := hs197 (hd 10 (List.contains_iff_mem.1 (by kernel_rfl)) (by decide))
                rw [hy404] at h170
                have he405 : f 10 = true := hd 10 (List.contains_iff_mem.1 (by kernel_rfl)) (by decide)
                obtain ⟨u406, rfl⟩ := Has.ins (l := ((75, .slice A167 n168 c169) :: ((73, .slice A161 n162 c163) :: [(3, .slice A10 n11 c12), (4, .slice A14 n15 c16), (5, .slice A19 n20 c21), (6, .slice A36 n37 c38), (7, vb r5), (11, .pointer (some ⟨b89, 0, none⟩)), (66, .slice A10 n11 c12), (68, .agg #[vi 99, vi 99]), (72, .slice A14 n15 c16), (74, .agg #[vi 99, vi 99]), (78, .slice A19 n20 c21), (80, .agg #[vi 99, vi 99])]))) ⟨ht403, ⟨ht401, hh185⟩⟩
                refine ⟨_, rfl, ?_⟩
                refine L_app ei23 hc142 (.slice A161 n162 c163) (([] : List Pt) ++ r2) ([(⟨99, 99⟩ : Pt)] : List Pt) rfl h164 (.slice A167 n168 c169) rfl h170.sx 2 rfl hb107 fun w409 A410 n411 c412 g413 s414 hc415 h416 => ?_
                have hM417 := Gm.tq hM184 g413 hv165
                have hv418 := hv_app (L := [blk (.slice A149 n150 c151), blk (.slice A155 n156 c157), blk (.slice A161 n162 c163), blk (.slice A167 n168 c169), blk (.slice A173 n174 c175), blk (.slice A179 n180 c181), some b89, blk (.slice A36 n37 c38), blk (.slice A14 n15 c16)]) (O := O) (i := 2) hM184 rfl hv165 s414 hc415
                have h420 := (Ow.sm (L := [blk (.slice A149 n150 c151), blk (.slice A155 n156 c157), blk (.slice A161 n162 c163), blk (.slice A167 n168 c169), blk (.slice A173 n174 c175), blk (.slice A179 n180 c181), some b89, blk (.slice A36 n37 c38), blk (.slice A14 n15 c16)]) (O := O) h145 hc142 (i := 8) rfl (j := 2) rfl (by decide) g413 s414)
                have h421 := (Ow.sm (L := [blk (.slice A149 n150 c151), blk (.slice A155 n156 c157), blk (.slice A161 n162 c163), blk (.slice A167 n168 c169), blk (.slice A173 n174 c175), blk (.slice A179 n180 c181), some b89, blk (.slice A36 n37 c38), blk (.slice A14 n15 c16)]) (O := O) h146 hc142 (i := 7) rfl (j := 2) rfl (by decide) g413 s414)
                have h422 := (Bx.sm (L := [blk (.slice A149 n150 c151), blk (.slice A155 n156 c157), blk (.slice A161 n162 c163), blk (.slice A167 n168 c169), blk (.slice A173 n174 c175), blk (.slice A179 n180 c181), some b89, blk (.slice A36 n37 c38), blk (.slice A14 n15 c16)]) (O := O) h147 hc142 (i := 6) rfl (j := 2) rfl (by decide) g413)
                have h423 := (Ow.sm (L := [blk (.slice A149 n150 c151), blk (.slice A155 n156 c157), blk (.slice A161 n162 c163), blk (.slice A167 n168 c169), blk (.slice A173 n174 c175), blk (.slice A179 n180 c181), some b89, blk (.slice A36 n37 c38), blk (.slice A14 n15 c16)]) (O := O) h152 hc142 (i := 0) rfl (j := 2) rfl (by decide) g413 s414)
                have h424 := (Ow.sm (L := [blk (.slice A149 n150 c151), blk (.slice A155 n156 c157), blk (.slice A161 n162 c163), blk (.slice A167 n168 c169), blk (.slice A173 n174 c175), blk (.slice A179 n180 c181), some b89, blk (.slice A36 n37 c38), blk (.slice A14 n15 c16)]) (O := O) h158 hc142 (i := 1) rfl (j := 2) rfl (by decide) g413 s414)
                have h425 := (Ow.sm (L := [blk (.slice A149 n150 c151), blk (.slice A155 n156 c157), blk (.slice A161 n162 c163), blk (.slice A167 n168 c169), blk (.slice A173 n174 c175), blk (.slice A179 n180 c181), some b89, blk (.slice A36 n37 c38), blk (.slice A14 n15 c16)]) (O := O) h170 hc142 (i := 3) rfl (j := 2) rfl (by decide) g413 s414)
                have h426 := (Ow.sm (L := [blk (.slice A149 n150 c151), blk (.slice A155 n156 c157), blk (.slice A161 n162 c163), blk (.slice A167 n168 c169), blk (.slice A173 n174 c175), blk (.slice A179 n180 c181), some b89, blk (.slice A36 n37 c38), blk (.slice A14 n15 c16)]) (O := O) h176 hc142 (i := 4) rfl (j := 2) rfl (by decide) g413 s414)
                have h427 := (Ow.sm (L := [blk (.slice A149 n150 c151), blk (.slice A155 n156 c157), blk (.slice A161 n162 c163), blk (.slice A167 n168 c169), blk (.slice A173 n174 c175), blk (.slice A179 n180 c181), some b89, blk (.slice A36 n37 c38), blk (.slice A14 n15 c16)]) (O := O) h182 hc142 (i := 5) rfl (j := 2) rfl (by decide) g413 s414)
                refine L_nil ⟨A149, n150, c151, y, A155, n156, c157, y2, A410, n411, c412, ((([] : List Pt) ++ r2) ++ ([(⟨99, 99⟩ : Pt)] : List Pt)), A167, n168, c169, ([(⟨99, 99⟩ : Pt)] : List Pt), A173, n174, c175, y5, A179, n180, c181, y6, ⟨rfl, rfl, rfl, rfl, rfl, rfl, rfl, rfl, rfl, rfl, rfl, rfl, trivial⟩, hc415, hM417, (h143.st s414), (h144.st s414), h420, h421, h422, h423, hv153, h424, hv159, h416, hv418, h425, hv171, h426, hv177, h427, hv183, hs186, hs187, hs188, hs189, hs190, hs191, (fun h => absurd (show f 6 = false from h) (by rw [he408]; exact fun e => Bool.noConfusion e)), (fun _ h => absurd (show f 8 = false from h) (by rw [he407]; exact fun e => Bool.noConfusion e)), (fun _ h => Bool.noConfusion (show true = false from h)), (fun _ => ⟨rfl, rfl⟩), (fun h => absurd (show f 10 = false from h) (by rw [he405]; exact fun e => Bool.noConfusion e)), (fun _ => ⟨rfl, rfl⟩), hs198, hs199, hs200, hs201, hs202, hs203⟩
              · have hn428 : f 14 = false := Bool.eq_false_iff.2 fun e => absurd (hcl 14 (by decide) e 12 (List.contains_iff_mem.1 (by kernel_rfl)) (by decide)) (by rw [hf]; exact Bool.false_ne_true)
                have hn429 : f 17 = false := Bool.eq_false_iff.2 fun e => absurd (hcl 17 (by decide) e 14 (List.contains_iff_mem.1 (by kernel_rfl)) (by decide)) (by rw [hn428]; exact Bool.false_ne_true)
                obtain ⟨rfl, rfl, rfl, rfl⟩ := hs198 hf
                obtain ⟨u430, rfl⟩ := Has.ins (l := [(3, .slice A10 n11 c12), (4, .slice A14 n15 c16), (5, .slice A19 n20 c21), (6, .slice A36 n37 c38), (7, vb r5), (11, .pointer (some ⟨b89, 0, none⟩)), (66, .slice A10 n11 c12), (68, .agg #[vi 99, vi 99]), (72, .slice A14 n15 c16), (74, .agg #[vi 99, vi 99]), (78, .slice A19 n20 c21), (80, .agg #[vi 99, vi 99])]) hh185
                refine ⟨_, rfl, ?_⟩
                refine L_lit (kd := kPt) ei23 hc142 ([] : List Pt) (cells := []) rfl (fun _ => by kernel_rfl) fun w431 A432 n433 c434 g435 hr436 hc437 h438 => ?_
                have hM440 := Gm.tm hM184 g435
                have hc441 := hc437.drop 5 rfl
                have hc443 := hc441.perm (.swap _ _ _)
                have hc445 := hc443.perm (.cons _ (.swap _ _ _))
                have hc447 := hc445.perm (.cons _ (.cons _ (.swap _ _ _)))
                have hc449 := hc447.perm (.cons _ (.cons _ (.cons _ (.swap _ _ _))))
                have h451 := ((((((h143.st (.own _ _ g435 hr436)).st (.dr _ (L := [blk (.slice A432 n433 c434), blk (.slice A149 n150 c151), blk (.slice A155 n156 c157), blk (.slice A161 n162 c163), blk (.slice A167 n168 c169), blk (.slice none 0 0), blk (.slice A179 n180 c181), some b89, blk (.slice A36 n37 c38), blk (.slice A14 n15 c16)]) (O := O) (j := 5) rfl)).st (.perm (L := [blk (.slice A432 n433 c434), blk (.slice A149 n150 c151), blk (.slice A155 n156 c157), blk (.slice A161 n162 c163), blk (.slice A167 n168 c169), blk (.slice A179 n180 c181), some b89, blk (.slice A36 n37 c38), blk (.slice A14 n15 c16)]) (O := O) (.swap _ _ _))).st (.perm (L := [blk (.slice A149 n150 c151), blk (.slice A432 n433 c434), blk (.slice A155 n156 c157), blk (.slice A161 n162 c163), blk (.slice A167 n168 c169), blk (.slice A179 n180 c181), some b89, blk (.slice A36 n37 c38), blk (.slice A14 n15 c16)]) (O := O) (.cons _ (.swap _ _ _)))).st (.perm (L := [blk (.slice A149 n150 c151), blk (.slice A155 n156 c157), blk (.slice A432 n433 c434), blk (.slice A161 n162 c163), blk (.slice A167 n168 c169), blk (.slice A179 n180 c181), some b89, blk (.slice A36 n37 c38), blk (.slice A14 n15 c16)]) (O := O) (.cons _ (.cons _ (.swap _ _ _))))).st (.perm (L := [blk (.slice A149 n150 c151), blk (.slice A155 n156 c157), blk (.slice A161 n162 c163), blk (.slice A432 n433 c434), blk (.slice A167 n168 c169), blk (.slice A179 n180 c181), some b89, blk (.slice A36 n37 c38), blk (.slice A14 n15 c16)]) (O := O) (.cons _ (.cons _ (.cons _ (.swap _ _ _))))))
                have h452 := ((((((h144.st (.own _ _ g435 hr436)).st (.dr _ (L := [blk (.slice A432 n433 c434), blk (.slice A149 n150 c151), blk (.slice A155 n156 c157), blk (.slice A161 n162 c163), blk (.slice A167 n168 c169), blk (.slice none 0 0), blk (.slice A179 n180 c181), some b89, blk (.slice A36 n37 c38), blk (.slice A14 n15 c16)]) (O := O) (j := 5) rfl)).st (.perm (L := [blk (.slice A432 n433 c434), blk (.slice A149 n150 c151), blk (.slice A155 n156 c157), blk (.slice A161 n162 c163), blk (.slice A167 n168 c169), blk (.slice A179 n180 c181), some b89, blk (.slice A36 n37 c38), blk (.slice A14 n15 c16)]) (O := O) (.swap _ _ _))).st (.perm (L := [blk (.slice A149 n150 c151), blk (.slice A432 n433 c434), blk (.slice A155 n156 c157), blk (.slice A161 n162 c163), blk (.slice A167 n168 c169), blk (.slice A179 n180 c181), some b89, blk (.slice A36 n37 c38), blk (.slice A14 n15 c16)]) (O := O) (.cons _ (.swap _ _ _)))).st (.perm (L := [blk (.slice A149 n150 c151), blk (.slice A155 n156 c157), blk (.slice A432 n433 c434), blk (.slice A161 n162 c163), blk (.slice A167 n168 c169), blk (.slice A179 n180 c181), some b89, blk (.slice A36 n37 c38), blk (.slice A14 n15 c16)]) (O := O) (.cons _ (.cons _ (.swap _ _ _))))).st (.perm (L := [blk (.slice A149 n150 c151), blk (.slice A155 n156 c157), blk (.slice A161 n162 c163), blk (.slice A432 n433 c434), blk (.slice A167 n168 c169), blk (.slice A179 n180 c181), some b89, blk (.slice A36 n37 c38), blk (.slice A14 n15 c16)]) (O := O) (.cons _ (.cons _ (.cons _ (.swap _ _ _))))))
                have h453 := (Ow.sp (L := [blk (.slice A149 n150 c151), blk (.slice A155 n156 c157), blk (.slice A161 n162 c163), blk (.slice A432 n433 c434), blk (.slice A167 n168 c169), blk (.slice A179 n180 c181), some b89, blk (.slice A36 n37 c38), blk (.slice A14 n15 c16)]) (O := O) (Ow.sp (L := [blk (.slice A149 n150 c151), blk (.slice A155 n156 c157), blk (.slice A432 n433 c434), blk (.slice A161 n162 c163), blk (.slice A167 n168 c169), blk (.slice A179 n180 c181), some b89, blk (.slice A36 n37 c38), blk (.slice A14 n15 c16)]) (O := O) (Ow.sp (L := [blk (.slice A149 n150 c151), blk (.slice A432 n433 c434), blk (.slice A155 n156 c157), blk (.slice A161 n162 c163), blk (.slice A167 n168 c169), blk (.slice A179 n180 c181), some b89, blk (.slice A36 n37 c38), blk (.slice A14 n15 c16)]) (O := O) (Ow.sp (L := [blk (.slice A432 n433 c434), blk (.slice A149 n150 c151), blk (.slice A155 n156 c157), blk (.slice A161 n162 c163), blk (.slice A167 n168 c169), blk (.slice A179 n180 c181), some b89, blk (.slice A36 n37 c38), blk (.slice A14 n15 c16)]) (O := O) (Ow.sd (L := [blk (.slice A432 n433 c434), blk (.slice A149 n150 c151), blk (.slice A155 n156 c157), blk (.slice A161 n162 c163), blk (.slice A167 n168 c169), blk (.slice none 0 0), blk (.slice A179 n180 c181), some b89, blk (.slice A36 n37 c38), blk (.slice A14 n15 c16)]) (O := O) (h145.so _ g435 hr436) (i := 9) rfl (j := 5) rfl (by decide)) (.swap _ _ _)) (.cons _ (.swap _ _ _))) (.cons _ (.cons _ (.swap _ _ _)))) (.cons _ (.cons _ (.cons _ (.swap _ _ _)))))
                have h454 := (Ow.sp (L := [blk (.slice A149 n150 c151), blk (.slice A155 n156 c157), blk (.slice A161 n162 c163), blk (.slice A432 n433 c434), blk (.slice A167 n168 c169), blk (.slice A179 n180 c181), some b89, blk (.slice A36 n37 c38), blk (.slice A14 n15 c16)]) (O := O) (Ow.sp (L := [blk (.slice A149 n150 c151), blk (.slice A155 n156 c157), blk (.slice A432 n433 c434), blk (.slice A161 n162 c163), blk (.slice A167 n168 c169), blk (.slice A179 n180 c181), some b89, blk (.slice A36 n37 c38), blk (.slice A14 n15 c16)]) (O := O) (Ow.sp (L := [blk (.slice A149 n150 c151), blk (.slice A432 n433 c434), blk (.slice A155 n156 c157), blk (.slice A161 n162 c163), blk (.slice A167 n168 c169), blk (.slice A179 n180 c181), some b89, blk (.slice A36 n37 c38), blk (.slice A14 n15 c16)]) (O := O) (Ow.sp (L := [blk (.slice A432 n433 c434), blk (.slice A149 n150 c151), blk (.slice A155 n156 c157), blk (.slice A161 n162 c163), blk (.slice A167 n168 c169), blk (.slice A179 n180 c181), some b89, blk (.slice A36 n37 c38), blk (.slice A14 n15 c16)]) (O := O) (Ow.sd (L := [blk (.slice A432 n433 c434), blk (.slice A149 n150 c151), blk (.slice A155 n156 c157), blk (.slice A161 n162 c163), blk (.slice A167 n168 c169), blk (.slice none 0 0), blk (.slice A179 n180 c181), some b89, blk (.slice A36 n37 c38), blk (.slice A14 n15 c16)]) (O := O) (h146.so _ g435 hr436) (i := 8) rfl (j := 5) rfl (by decide)) (.swap _ _ _)) (.cons _ (.swap _ _ _))) (.cons _ (.cons _ (.swap _ _ _)))) (.cons _ (.cons _ (.cons _ (.swap _ _ _)))))
                have h455 := (h147.k0 g435)
                have h456 := (Ow.sp (L := [blk (.slice A149 n150 c151), blk (.slice A155 n156 c157), blk (.slice A161 n162 c163), blk (.slice A432 n433 c434), blk (.slice A167 n168 c169), blk (.slice A179 n180 c181), some b89, blk (.slice A36 n37 c38), blk (.slice A14 n15 c16)]) (O := O) (Ow.sp (L := [blk (.slice A149 n150 c151), blk (.slice A155 n156 c157), blk (.slice A432 n433 c434), blk (.slice A161 n162 c163), blk (.slice A167 n168 c169), blk (.slice A179 n180 c181), some b89, blk (.slice A36 n37 c38), blk (.slice A14 n15 c16)]) (O := O) (Ow.sp (L := [blk (.slice A149 n150 c151), blk (.slice A432 n433 c434), blk (.slice A155 n156 c157), blk (.slice A161 n162 c163), blk (.slice A167 n168 c169), blk (.slice A179 n180 c181), some b89, blk (.slice A36 n37 c38), blk (.slice A14 n15 c16)]) (O := O) (Ow.sp (L := [blk (.slice A432 n433 c434), blk (.slice A149 n150 c151), blk (.slice A155 n156 c157), blk (.slice A161 n162 c163), blk (.slice A167 n168 c169), blk (.slice A179 n180 c181), some b89, blk (.slice A36 n37 c38), blk (.slice A14 n15 c16)]) (O := O) (Ow.sd (L := [blk (.slice A432 n433 c434), blk (.slice A149 n150 c151), blk (.slice A155 n156 c157), blk (.slice A161 n162 c163), blk (.slice A167 n168 c169), blk (.slice none 0 0), blk (.slice A179 n180 c181), some b89, blk (.slice A36 n37 c38), blk (.slice A14 n15 c16)]) (O := O) (h152.so _ g435 hr436) (i := 1) rfl (j := 5) rfl (by decide)) (.swap _ _ _)) (.cons _ (.swap _ _ _))) (.cons _ (.cons _ (.swap _ _ _)))) (.cons _ (.cons _ (.cons _ (.swap _ _ _)))))
                have h457 := (Ow.sp (L := [blk (.slice A149 n150 c151), blk (.slice A155 n156 c157), blk (.slice A161 n162 c163), blk (.slice A432 n433 c434), blk (.slice A167 n168 c169), blk (.slice A179 n180 c181), some b89, blk (.slice A36 n37 c38), blk (.slice A14 n15 c16)]) (O := O) (Ow.sp (L := [blk (.slice A149 n150 c151), blk (.slice A155 n156 c157), blk (.slice A432 n433 c434), blk (.slice A161 n162 c163), blk (.slice A167 n168 c169), blk (.slice A179 n180 c181), some b89, blk (.slice A36 n37 c38), blk (.slice A14 n15 c16)]) (O := O) (Ow.sp (L := [blk (.slice A149 n150 c151), blk (.slice A432 n433 c434), blk (.slice A155 n156 c157), blk (.slice A161 n162 c163), blk (.slice A167 n168 c169), blk (.slice A179 n180 c181), some b89, blk (.slice A36 n37 c38), blk (.slice A14 n15 c16)]) (O := O) (Ow.sp (L := [blk (.slice A432 n433 c434), blk (.slice A149 n150 c151), blk (.slice A155 n156 c157), blk (.slice A161 n162 c163), blk (.slice A167 n168 c169), blk (.slice A179 n180 c181), some b89, blk (.slice A36 n37 c38), blk (.slice A14 n15 c16)]) (O := O) (Ow.sd (L := [blk (.slice A432 n433 c434), blk (.slice A149 n150 c151), blk (.slice A155 n156 c157), blk (.slice A161 n162 c163), blk (.slice A167 n168 c169), blk (.slice none 0 0), blk (.slice A179 n180 c181), some b89, blk (.slice A36 n37 c38), blk (.slice A14 n15 c16)]) (O := O) (h158.so _ g435 hr436) (i := 2) rfl (j := 5) rfl (by decide)) (.swap _ _ _)) (.cons _ (.swap _ _ _))) (.cons _ (.cons _ (.swap _ _ _)))) (.cons _ (.cons _ (.cons _ (.swap _ _ _)))))
                have h458 := (Ow.sp (L := [blk (.slice A149 n150 c151), blk (.slice A155 n156 c157), blk (.slice A161 n162 c163), blk (.slice A432 n433 c434), blk (.slice A167 n168 c169), blk (.slice A179 n180 c181), some b89, blk (.slice A36 n37 c38), blk (.slice A14 n15 c16)]) (O := O) (Ow.sp (L := [blk (.slice A149 n150 c151), blk (.slice A155 n156 c157), blk (.slice A432 n433 c434), blk (.slice A161 n162 c163), blk (.slice A167 n168 c169), blk (.slice A179 n180 c181), some b89, blk (.slice A36 n37 c38), blk (.slice A14 n15 c16)]) (O := O) (Ow.sp (L := [blk (.slice A149 n150 c151), blk (.slice A432 n433 c434), blk (.slice A155 n156 c157), blk (.slice A161 n162 c163), blk (.slice A167 n168 c169), blk (.slice A179 n180 c181), some b89, blk (.slice A36 n37 c38), blk (.slice A14 n15 c16)]) (O := O) (Ow.sp (L := [blk (.slice A432 n433 c434), blk (.slice A149 n150 c151), blk (.slice A155 n156 c157), blk (.slice A161 n162 c163), blk (.slice A167 n168 c169), blk (.slice A179 n180 c181), some b89, blk (.slice A36 n37 c38), blk (.slice A14 n15 c16)]) (O := O) (Ow.sd (L := [blk (.slice A432 n433 c434), blk (.slice A149 n150 c151), blk (.slice A155 n156 c157), blk (.slice A161 n162 c163), blk (.slice A167 n168 c169), blk (.slice none 0 0), blk (.slice A179 n180 c181), some b89, blk (.slice A36 n37 c38), blk (.slice A14 n15 c16)]) (O := O) (h164.so _ g435 hr436) (i := 3) rfl (j := 5) rfl (by decide)) (.swap _ _ _)) (.cons _ (.swap _ _ _))) (.cons _ (.cons _ (.swap _ _ _)))) (.cons _ (.cons _ (.cons _ (.swap _ _ _)))))
                have h459 := (Ow.sp (L := [blk (.slice A149 n150 c151), blk (.slice A155 n156 c157), blk (.slice A161 n162 c163), blk (.slice A432 n433 c434), blk (.slice A167 n168 c169), blk (.slice A179 n180 c181), some b89, blk (.slice A36 n37 c38), blk (.slice A14 n15 c16)]) (O := O) (Ow.sp (L := [blk (.slice A149 n150 c151), blk (.slice A155 n156 c157), blk (.slice A432 n433 c434), blk (.slice A161 n162 c163), blk (.slice A167 n168 c169), blk (.slice A179 n180 c181), some b89, blk (.slice A36 n37 c38), blk (.slice A14 n15 c16)]) (O := O) (Ow.sp (L := [blk (.slice A149 n150 c151), blk (.slice A432 n433 c434), blk (.slice A155 n156 c157), blk (.slice A161 n162 c163), blk (.slice A167 n168 c169), blk (.slice A179 n180 c181), some b89, blk (.slice A36 n37 c38), blk (.slice A14 n15 c16)]) (O := O) (Ow.sp (L := [blk (.slice A432 n433 c434), blk (.slice A149 n150 c151), blk (.slice A155 n156 c157), blk (.slice A161 n162 c163), blk (.slice A167 n168 c169), blk (.slice A179 n180 c181), some b89, blk (.slice A36 n37 c38), blk (.slice A14 n15 c16)]) (O := O) (Ow.sd (L := [blk (.slice A432 n433 c434), blk (.slice A149 n150 c151), blk (.slice A155 n156 c157), blk (.slice A161 n162 c163), blk (.slice A167 n168 c169), blk (.slice none 0 0), blk (.slice A179 n180 c181), some b89, blk (.slice A36 n37 c38), blk (.slice A14 n15 c16)]) (O := O) (h170.so _ g435 hr436) (i := 4) rfl (j := 5) rfl (by decide)) (.swap _ _ _)) (.cons _ (.swap _ _ _))) (.cons _ (.cons _ (.swap _ _ _)))) (.cons _ (.cons _ (.cons _ (.swap _ _ _)))))
                have h460 := (Ow.sp (L := [blk (.slice A149 n150 c151), blk (.slice A155 n156 c157), blk (.slice A161 n162 c163), blk (.slice A432 n433 c434), blk (.slice A167 n168 c169), blk (.slice A179 n180 c181), some b89, blk (.slice A36 n37 c38), blk (.slice A14 n15 c16)]) (O := O) (Ow.sp (L := [blk (.slice A149 n150 c151), blk (.slice A155 n156 c157), blk (.slice A432 n433 c434), blk (.slice A161 n162 c163), blk (.slice A167 n168 c169), blk (.slice A179 n180 c181), some b89, blk (.slice A36 n37 c38), blk (.slice A14 n15 c16)]) (O := O) (Ow.sp (L := [blk (.slice A149 n150 c151), blk (.slice A432 n433 c434), blk (.slice A155 n156 c157), blk (.slice A161 n162 c163), blk (.slice A167 n168 c169), blk (.slice A179 n180 c181), some b89, blk (.slice A36 n37 c38), blk (.slice A14 n15 c16)]) (O := O) (Ow.sp (L := [blk (.slice A432 n433 c434), blk (.slice A149 n150 c151), blk (.slice A155 n156 c157), blk (.slice A161 n162 c163), blk (.slice A167 n168 c169), blk (.slice A179 n180 c181), some b89, blk (.slice A36 n37 c38), blk (.slice A14 n15 c16)]) (O := O) (Ow.sd (L := [blk (.slice A432 n433 c434), blk (.slice A149 n150 c151), blk (.slice A155 n156 c157), blk (.slice A161 n162 c163), blk (.slice A167 n168 c169), blk (.slice none 0 0), blk (.slice A179 n180 c181), some b89, blk (.slice A36 n37 c38), blk (.slice A14 n15 c16)]) (O := O) h438 (i := 0) rfl (j := 5) rfl (by decide)) (.swap _ _ _)) (.cons _ (.swap _ _ _))) (.cons _ (.cons _ (.swap _ _ _)))) (.cons _ (.cons _ (.cons _ (.swap _ _ _)))))
                have h461 := (Ow.sp (L := [blk (.slice A149 n150 c151), blk (.slice A155 n156 c157), blk (.slice A161 n162 c163), blk (.slice A432 n433 c434), blk (.slice A167 n168 c169), blk (.slice A179 n180 c181), some b89, blk (.slice A36 n37 c38), blk (.slice A14 n15 c16)]) (O := O) (Ow.sp (L := [blk (.slice A149 n150 c151), blk (.slice A155 n156 c157), blk (.slice A432 n433 c434), blk (.slice A161 n162 c163), blk (.slice A167 n168 c169), blk (.slice A179 n180 c181), some b89, blk (.slice A36 n37 c38), blk (.slice A14 n15 c16)]) (O := O) (Ow.sp (L := [blk (.slice A149 n150 c151), blk (.slice A432 n433 c434), blk (.slice A155 n156 c157), blk (.slice A161 n162 c163), blk (.slice A167 n168 c169), blk (.slice A179 n180 c181), some b89, blk (.slice A36 n37 c38), blk (.slice A14 n15 c16)]) (O := O) (Ow.sp (L := [blk (.slice A432 n433 c434), blk (.slice A149 n150 c151), blk (.slice A155 n156 c157), blk (.slice A161 n162 c163), blk (.slice A167 n168 c169), blk (.slice A179 n180 c181), some b89, blk (.slice A36 n37 c38), blk (.slice A14 n15 c16)]) (O := O) (Ow.sd (L := [blk (.slice A432 n433 c434), blk (.slice A149 n150 c151), blk (.slice A155 n156 c157), blk (.slice A161 n162 c163), blk (.slice A167 n168 c169), blk (.slice none 0 0), blk (.slice A179 n180 c181), some b89, blk (.slice A36 n37 c38), blk (.slice A14 n15 c16)]) (O := O) (h182.so _ g435 hr436) (i := 6) rfl (j := 5) rfl (by decide)) (.swap _ _ _)) (.cons _ (.swap _ _ _))) (.cons _ (.cons _ (.swap _ _ _)))) (.cons _ (.cons _ (.cons _ (.swap _ _ _)))))
                refine L_nil ⟨A149, n150, c151, y, A155, n156, c157, y2, A161, n162, c163, y3, A167, n168, c169, y4, A432, n433, c434, ([] : List Pt), A179, n180, c181, y6, ⟨rfl, rfl, rfl, rfl, rfl, rfl, rfl, rfl, rfl, rfl, rfl, rfl, trivial⟩, hc449, hM440, h451, h452, h453, h454, h455, h456, hv153, h457, hv159, h458, hv165, h459, hv171, h460, (hv_new hM184 hr436), h461, hv183, hs186, hs187, hs188, hs189, hs190, hs191, hs192, hs193, hs194, hs195, hs196, hs197, (fun h => Bool.noConfusion (show true = false from h)), (fun _ _ => ⟨rfl, rfl⟩), (fun h => absurd (show f 14 = true from h) (by rw [hn428]; exact Bool.false_ne_true)), (fun h => absurd (show f 17 = true from h) (by rw [hn429]; exact Bool.false_ne_true)), hs202, hs203⟩
              · have he466 : f 12 = true := hd 12 (List.contains_iff_mem.1 (by kernel_rfl)) (by decide)
                have hn462 : f 17 = false := Bool.eq_false_iff.2 fun e => absurd (hcl 17 (by decide) e 14 (List.contains_iff_mem.1 (by kernel_rfl)) (by decide)) (by rw [hf]; exact Bool.false_ne_true)
                obtain ⟨ht463, hy464⟩ := hs199 (hd 12 (List.contains_iff_mem.1 (by kernel_rfl)) (by decide)) hf
                rw [hy464] at h176
                obtain ⟨u465, rfl⟩ := Has.ins (l := ((77, .slice A173 n174 c175) :: [(3, .slice A10 n11 c12), (4, .slice A14 n15 c16), (5, .slice A19 n20 c21), (6, .slice A36 n37 c38), (7, vb r5), (11, .pointer (some ⟨b89, 0, none⟩)), (66, .slice A10 n11 c12), (68, .agg #[vi 99, vi 99]), (72, .slice A14 n15 c16), (74, .agg #[vi 99, vi 99]), (78, .slice A19 n20 c21), (80, .agg #[vi 99, vi 99])])) ⟨ht463, hh185⟩
                refine ⟨_, rfl, ?_⟩
                refine L_app ei23 hc142 (.slice A173 n174 c175) ([] : List Pt) r3 rfl h176 (.slice A19 n20 c21) rfl h144.sx 4 rfl hb108 fun w467 A468 n469 c470 g471 s472 hc473 h474 => ?_
                have hM475 := Gm.tq hM184 g471 hv177
                have hv476 := hv_app (L := [blk (.slice A149 n150 c151), blk (.slice A155 n156 c157), blk (.slice A161 n162 c163), blk (.slice A167 n168 c169), blk (.slice A173 n174 c175), blk (.slice A179 n180 c181), some b89, blk (.slice A36 n37 c38), blk (.slice A14 n15 c16)]) (O := O) (i := 4) hM184 rfl hv177 s472 hc473
                have h478 := (Ow.sm (L := [blk (.slice A149 n150 c151), blk (.slice A155 n156 c157), blk (.slice A161 n162 c163), blk (.slice A167 n168 c169), blk (.slice A173 n174 c175), blk (.slice A179 n180 c181), some b89, blk (.slice A36 n37 c38), blk (.slice A14 n15 c16)]) (O := O) h145 hc142 (i := 8) rfl (j := 4) rfl (by decide) g471 s472)
                have h479 := (Ow.sm (L := [blk (.slice A149 n150 c151), blk (.slice A155 n156 c157), blk (.slice A161 n162 c163), blk (.slice A167 n168 c169), blk (.slice A173 n174 c175), blk (.slice A179 n180 c181), some b89, blk (.slice A36 n37 c38), blk (.slice A14 n15 c16)]) (O := O) h146 hc142 (i := 7) rfl (j := 4) rfl (by decide) g471 s472)
                have h480 := (Bx.sm (L := [blk (.slice A149 n150 c151), blk (.slice A155 n156 c157), blk (.slice A161 n162 c163), blk (.slice A167 n168 c169), blk (.slice A173 n174 c175), blk (.slice A179 n180 c181), some b89, blk (.slice A36 n37 c38), blk (.slice A14 n15 c16)]) (O := O) h147 hc142 (i := 6) rfl (j := 4) rfl (by decide) g471)
                have h481 := (Ow.sm (L := [blk (.slice A149 n150 c151), blk (.slice A155 n156 c157), blk (.slice A161 n162 c163), blk (.slice A167 n168 c169), blk (.slice A173 n174 c175), blk (.slice A179 n180 c181), some b89, blk (.slice A36 n37 c38), blk (.slice A14 n15 c16)]) (O := O) h152 hc142 (i := 0) rfl (j := 4) rfl (by decide) g471 s472)
                have h482 := (Ow.sm (L := [blk (.slice A149 n150 c151), blk (.slice A155 n156 c157), blk (.slice A161 n162 c163), blk (.slice A167 n168 c169), blk (.slice A173 n174 c175), blk (.slice A179 n180 c181), some b89, blk (.slice A36 n37 c38), blk (.slice A14 n15 c16)]) (O := O) h158 hc142 (i := 1) rfl (j := 4) rfl (by decide) g471 s472)
                have h483 := (Ow.sm (L := [blk (.slice A149 n150 c151), blk (.slice A155 n156 c157), blk (.slice A161 n162 c163), blk (.slice A167 n168 c169), blk (.slice A173 n174 c175), blk (.slice A179 n180 c181), some b89, blk (.slice A36 n37 c38), blk (.slice A14 n15 c16)]) (O := O) h164 hc142 (i := 2) rfl (j := 4) rfl (by decide) g471 s472)
                have h484 := (Ow.sm (L := [blk (.slice A149 n150 c151), blk (.slice A155 n156 c157), blk (.slice A161 n162 c163), blk (.slice A167 n168 c169), blk (.slice A173 n174 c175), blk (.slice A179 n180 c181), some b89, blk (.slice A36 n37 c38), blk (.slice A14 n15 c16)]) (O := O) h170 hc142 (i := 3) rfl (j := 4) rfl (by decide) g471 s472)
                have h485 := (Ow.sm (L := [blk (.slice A149 n150 c151), blk (.slice A155 n156 c157), blk (.slice A161 n162 c163), blk (.slice A167 n168 c169), blk (.slice A173 n174 c175), blk (.slice A179 n180 c181), some b89, blk (.slice A36 n37 c38), blk (.slice A14 n15 c16)]) (O := O) h182 hc142 (i := 5) rfl (j := 4) rfl (by decide) g471 s472)
                refine L_nil ⟨A149, n150, c151, y, A155, n156, c157, y2, A161, n162, c163, y3, A167, n168, c169, y4, A468, n469, c470, (([] : List Pt) ++ r3), A179, n180, c181, y6, ⟨rfl, rfl, rfl, rfl, rfl, rfl, rfl, rfl, rfl, rfl, rfl, rfl, trivial⟩, hc473, hM475, (h143.st s472), (h144.st s472), h478, h479, h480, h481, hv153, h482, hv159, h483, hv165, h484, hv171, h474, hv476, h485, hv183, hs186, hs187, hs188, hs189, hs190, hs191, hs192, hs193, hs194, hs195, hs196, hs197, (fun h => absurd (show f 12 = false from h) (by rw [he466]; exact fun e => Bool.noConfusion e)), (fun _ h => Bool.noConfusion (show true = false from h)), (fun _ _ => ⟨rfl, rfl⟩), (fun h => absurd (show f 17 = true from h) (by rw [hn462]; exact Bool.false_ne_true)), hs202, hs203⟩
              · obtain ⟨rfl, rfl, rfl, rfl⟩ := hs202 hf
                obtain ⟨u486, rfl⟩ := Has.ins (l := [(3, .slice A10 n11 c12), (4, .slice A14 n15 c16), (5, .slice A19 n20 c21), (6, .slice A36 n37 c38), (7, vb r5), (11, .pointer (some ⟨b89, 0, none⟩)), (66, .slice A10 n11 c12), (68, .agg #[vi 99, vi 99]), (72, .slice A14 n15 c16), (74, .agg #[vi 99, vi 99]), (78, .slice A19 n20 c21), (80, .agg #[vi 99, vi 99])]) hh185
                refine ⟨_, rfl, ?_⟩
                refine L_lit (kd := kPt) ei23 hc142 ([(⟨99, 99⟩ : Pt)] : List Pt) (cells := [vi 99, vi 99]) ⟨[vi 99, vi 99], _, rfl, (kPt.mk _ _ (⟨99, 99⟩ : Pt)), rfl⟩ (fun _ => by kernel_rfl) fun w487 A488 n489 c490 g491 hr492 hc493 h494 => ?_
                have hM496 := Gm.tm hM184 g491
                have hc497 := hc493.drop 6 rfl
                have hc499 := hc497.perm (.swap _ _ _)
                have hc501 := hc499.perm (.cons _ (.swap _ _ _))
                have hc503 := hc501.perm (.cons _ (.cons _ (.swap _ _ _)))
                have hc505 := hc503.perm (.cons _ (.cons _ (.cons _ (.swap _ _ _))))
                have hc507 := hc505.perm (.cons _ (.cons _ (.cons _ (.cons _ (.swap _ _ _)))))
                have h509 := (((((((h143.st (.own _ _ g491 hr492)).st (.dr _ (L := [blk (.slice A488 n489 c490), blk (.slice A149 n150 c151), blk (.slice A155 n156 c157), blk (.slice A161 n162 c163), blk (.slice A167 n168 c169), blk (.slice A173 n174 c175), blk (.slice none 0 0), some b89, blk (.slice A36 n37 c38), blk (.slice A14 n15 c16)]) (O := O) (j := 6) rfl)).st (.perm (L := [blk (.slice A488 n489 c490), blk (.slice A149 n150 c151), blk (.slice A155 n156 c157), blk (.slice A161 n162 c163), blk (.slice A167 n168 c169), blk (.slice A173 n174 c175), some b89, blk (.slice A36 n37 c38), blk (.slice A14 n15 c16)]) (O := O) (.swap _ _ _))).st (.perm (L := [blk (.slice A149 n150 c151), blk (.slice A488 n489 c490), blk (.slice A155 n156 c157), blk (.slice A161 n162 c163), blk (.slice A167 n168 c169), blk (.slice A173 n174 c175), some b89, blk (.slice A36 n37 c38), blk (.slice A14 n15 c16)]) (O := O) (.cons _ (.swap _ _ _)))).st (.perm (L := [blk (.slice A149 n150 c151), blk (.slice A155 n156 c157), blk (.slice A488 n489 c490), blk (.slice A161 n162 c163), blk (.slice A167 n168 c169), blk (.slice A173 n174 c175), some b89, blk (.slice A36 n37 c38), blk (.slice A14 n15 c16)]) (O := O) (.cons _ (.cons _ (.swap _ _ _))))).st (.perm (L := [blk (.slice A149 n150 c151), blk (.slice A155 n156 c157), blk (.slice A161 n162 c163), blk (.slice A488 n489 c490), blk (.slice A167 n168 c169), blk (.slice A173 n174 c175), some b89, blk (.slice A36 n37 c38), blk (.slice A14 n15 c16)]) (O := O) (.cons _ (.cons _ (.cons _ (.swap _ _ _)))))).st (.perm (L := [blk (.slice A149 n150 c151), blk (.slice A155 n156 c157), blk (.slice A161 n162 c163), blk (.slice A167 n168 c169), blk (.slice A488 n489 c490), blk (.slice A173 n174 c175), some b89, blk (.slice A36 n37 c38), blk (.slice A14 n15 c16)]) (O := O) (.cons _ (.cons _ (.cons _ (.cons _ (.swap _ _ _)))))))
                have h510 := (((((((h144.st (.own _ _ g491 hr492)).st (.dr _ (L := [blk (.slice A488 n489 c490), blk (.slice A149 n150 c151), blk (.slice A155 n156 c157), blk (.slice A161 n162 c163), blk (.slice A167 n168 c169), blk (.slice A173 n174 c175), blk (.slice none 0 0), some b89, blk (.slice A36 n37 c38), blk (.slice A14 n15 c16)]) (O := O) (j := 6) rfl)).st (.perm (L := [blk (.slice A488 n489 c490), blk (.slice A149 n150 c151), blk (.slice A155 n156 c157), blk (.slice A161 n162 c163), blk (.slice A167 n168 c169), blk (.slice A173 n174 c175), some b89, blk (.slice A36 n37 c38), blk (.slice A14 n15 c16)]) (O := O) (.swap _ _ _))).st (.perm (L := [blk (.slice A149 n150 c151), blk (.slice A488 n489 c490), blk (.slice A155 n156 c157), blk (.slice A161 n162 c163), blk (.slice A167 n168 c169), blk (.slice A173 n174 c175), some b89, blk (.slice A36 n37 c38), blk (.slice A14 n15 c16)]) (O := O) (.cons _ (.swap _ _ _)))).st (.perm (L := [blk (.slice A149 n150 c151), blk (.slice A155 n156 c157), blk (.slice A488 n489 c490), blk (.slice A161 n162 c163), blk (.slice A167 n168 c169), blk (.slice A173 n174 c175), some b89, blk (.slice A36 n37 c38), blk (.slice A14 n15 c16)]) (O := O) (.cons _ (.cons _ (.swap _ _ _))))).st (.perm (L := [blk (.slice A149 n150 c151), blk (.slice A155 n156 c157), blk (.slice A161 n162 c163), blk (.slice A488 n489 c490), blk (.slice A167 n168 c169), blk (.slice A173 n174 c175), some b89, blk (.slice A36 n37 c38), blk (.slice A14 n15 c16)]) (O := O) (.cons _ (.cons _ (.cons _ (.swap _ _ _)))))).st (.perm (L := [blk (.slice A149 n150 c151), blk (.slice A155 n156 c157), blk (.slice A161 n162 c163), blk (.slice A167 n168 c169), blk (.slice A488 n489 c490), blk (.slice A173 n174 c175), some b89, blk (.slice A36 n37 c38), blk (.slice A14 n15 c16)]) (O := O) (.cons _ (.cons _ (.cons _ (.cons _ (.swap _ _ _)))))))
                have h511 := (Ow.sp (L := [blk (.slice A149 n150 c151), blk (.slice A155 n156 c157), blk (.slice A161 n162 c163), blk (.slice A167 n168 c169), blk (.slice A488 n489 c490), blk (.slice A173 n174 c175), some b89, blk (.slice A36 n37 c38), blk (.slice A14 n15 c16)]) (O := O) (Ow.sp (L := [blk (.slice A149 n150 c151), blk (.slice A155 n156 c157), blk (.slice A161 n162 c163), blk (.slice A488 n489 c490), blk (.slice A167 n168 c169), blk (.slice A173 n174 c175), some b89, blk (.slice A36 n37 c38), blk (.slice A14 n15 c16)]) (O := O) (Ow.sp (L := [blk (.slice A149 n150 c151), blk (.slice A155 n156 c157), blk (.slice A488 n489 c490), blk (.slice A161 n162 c163), blk (.slice A167 n168 c169), blk (.slice A173 n174 c175), some b89, blk (.slice A36 n37 c38), blk (.slice A14 n15 c16)]) (O := O) (Ow.sp (L := [blk (.slice A149 n150 c151), blk (.slice A488 n489 c490), blk (.slice A155 n156 c157), blk (.slice A161 n162 c163), blk (.slice A167 n168 c169), blk (.slice A173 n174 c175), some b89, blk (.slice A36 n37 c38), blk (.slice A14 n15 c16)]) (O := O) (Ow.sp (L := [blk (.slice A488 n489 c490), blk (.slice A149 n150 c151), blk (.slice A155 n156 c157), blk (.slice A161 n162 c163), blk (.slice A167 n168 c169), blk (.slice A173 n174 c175), some b89, blk (.slice A36 n37 c38), blk (.slice A14 n15 c16)]) (O := O) (Ow.sd (L := [blk (.slice A488 n489 c490), blk (.slice A149 n150 c151), blk (.slice A155 n156 c157), blk (.slice A161 n162 c163), blk (.slice A167 n168 c169), blk (.slice A173 n174 c175), blk (.slice none 0 0), some b89, blk (.slice A36 n37 c38), blk (.slice A14 n15 c16)]) (O := O) (h145.so _ g491 hr492) (i := 9) rfl (j := 6) rfl (by decide)) (.swap _ _ _)) (.cons _ (.swap _ _ _))) (.cons _ (.cons _ (.swap _ _ _)))) (.cons _ (.cons _ (.cons _ (.swap _ _ _))))) (.cons _ (.cons _ (.cons _ (.cons _ (.swap _ _ _))))))
                have h512 := (Ow.sp (L := [blk (.slice A149 n150 c151), blk (.slice A155 n156 c157), blk (.slice A161 n162 c163), blk (.slice A167 n168 c169), blk (.slice A488 n489 c490), blk (.slice A173 n174 c175), some b89, blk (.slice A36 n37 c38), blk (.slice A14 n15 c16)]) (O := O) (Ow.sp (L := [blk (.slice A149 n150 c151), blk (.slice A155 n156 c157), blk (.slice A161 n162 c163), blk (.slice A488 n489 c490), blk (.slice A167 n168 c169), blk (.slice A173 n174 c175), some b89, blk (.slice A36 n37 c38), blk (.slice A14 n15 c16)]) (O := O) (Ow.sp (L := [blk (.slice A149 n150 c151), blk (.slice A155 n156 c157), blk (.slice A488 n489 c490), blk (.slice A161 n162 c163), blk (.slice A167 n168 c169), blk (.slice A173 n174 c175), some b89, blk (.slice A36 n37 c38), blk (.slice A14 n15 c16)]) (O := O) (Ow.sp (L := [blk (.slice A149 n150 c151), blk (.slice A488 n489 c490), blk (.slice A155 n156 c157), blk (.slice A161 n162 c163), blk (.slice A167 n168 c169), blk (.slice A173 n174 c175), some b89, blk (.slice A36 n37 c38), blk (.slice A14 n15 c16)]) (O := O) (Ow.sp (L := [blk (.slice A488 n489 c490), blk (.slice A149 n150 c151), blk (.slice A155 n156 c157), blk (.slice A161 n162 c163), blk (.slice A167 n168 c169), blk (.slice A173 n174 c175), some b89, blk (.slice A36 n37 c38), blk (.slice A14 n15 c16)]) (O := O) (Ow.sd (L := [blk (.slice A488 n489 c490), blk (.slice A149 n150 c151), blk (.slice A155 n156 c157), blk (.slice A161 n162 c163), blk (.slice A167 n168 c169), blk (.slice A173 n174 c175), blk (.slice none 0 0), some b89, blk (.slice A36 n37 c38), blk (.slice A14 n15 c16)]) (O := O) (h146.so _ g491 hr492) (i := 8) rfl (j := 6) rfl (by decide)) (.swap _ _ _)) (.cons _ (.swap _ _ _))) (.cons _ (.cons _ (.swap _ _ _)))) (.cons _ (.cons _ (.cons _ (.swap _ _ _))))) (.cons _ (.cons _ (.cons _ (.cons _ (.swap _ _ _))))))
                have h513 := (h147.k0 g491)
                have h514 := (Ow.sp (L := [blk (.slice A149 n150 c151), blk (.slice A155 n156 c157), blk (.slice A161 n162 c163), blk (.slice A167 n168 c169), blk (.slice A488 n489 c490), blk (.slice A173 n174 c175), some b89, blk (.slice A36 n37 c38), blk (.slice A14 n15 c16)]) (O := O) (Ow.sp (L := [blk (.slice A149 n150 c151), blk (.slice A155 n156 c157), blk (.slice A161 n162 c163), blk (.slice A488 n489 c490), blk (.slice A167 n168 c169), blk (.slice A173 n174 c175), some b89, blk (.slice A36 n37 c38), blk (.slice A14 n15 c16)]) (O := O) (Ow.sp (L := [blk (.slice A149 n150 c151), blk (.slice A155 n156 c157), blk (.slice A488 n489 c490), blk (.slice A161 n162 c163), blk (.slice A167 n168 c169), blk (.slice A173 n174 c175), some b89, blk (.slice A36 n37 c38), blk (.slice A14 n15 c16)]) (O := O) (Ow.sp (L := [blk (.slice A149 n150 c151), blk (.slice A488 n489 c490), blk (.slice A155 n156 c157), blk (.slice A161 n162 c163), blk (.slice A167 n168 c169), blk (.slice A173 n174 c175), some b89, blk (.slice A36 n37 c38), blk (.slice A14 n15 c16)]) (O := O) (Ow.sp (L := [blk (.slice A488 n489 c490), blk (.slice A149 n150 c151), blk (.slice A155 n156 c157), blk (.slice A161 n162 c163), blk (.slice A167 n168 c169), blk (.slice A173 n174 c175), some b89, blk (.slice A36 n37 c38), blk (.slice A14 n15 c16)]) (O := O) (Ow.sd (L := [blk (.slice A488 n489 c490), blk (.slice A149 n150 c151), blk (.slice A155 n156 c157), blk (.slice A161 n162 c163), blk (.slice A167 n168 c169), blk (.slice A173 n174 c175), blk (.slice none 0 0), some b89, blk (.slice A36 n37 c38), blk (.slice A14 n15 c16)]) (O := O) (h152.so _ g491 hr492) (i := 1) rfl (j := 6) rfl (by decide)) (.swap _ _ _)) (.cons _ (.swap _ _ _))) (.cons _ (.cons _ (.swap _ _ _)))) (.cons _ (.cons _ (.cons _ (.swap _ _ _))))) (.cons _ (.cons _ (.cons _ (.cons _ (.swap _ _ _))))))
                have h515 := (Ow.sp (L := [blk (.slice A149 n150 c151), blk (.slice A155 n156 c157), blk (.slice A161 n162 c163), blk (.slice A167 n168 c169), blk (.slice A488 n489 c490), blk (.slice A173 n174 c175), some b89, blk (.slice A36 n37 c38), blk (.slice A14 n15 c16)]) (O := O) (Ow.sp (L := [blk (.slice A149 n150 c151), blk (.slice A155 n156 c157), blk (.slice A161 n162 c163), blk (.slice A488 n489 c490), blk (.slice A167 n168 c169), blk (.slice A173 n174 c175), some b89, blk (.slice A36 n37 c38), blk (.slice A14 n15 c16)]) (O := O) (Ow.sp (L := [blk (.slice A149 n150 c151), blk (.slice A155 n156 c157), blk (.slice A488 n489 c490), blk (.slice A161 n162 c163), blk (.slice A167 n168 c169), blk (.slice A173 n174 c175), some b89, blk (.slice A36 n37 c38), blk (.slice A14 n15 c16)]) (O := O) (Ow.sp (L := [blk (.slice A149 n150 c151), blk (.slice A488 n489 c490), blk (.slice A155 n156 c157), blk (.slice A161 n162 c163), blk (.slice A167 n168 c169), blk (.slice A173 n174 c175), some b89, blk (.slice A36 n37 c38), blk (.slice A14 n15 c16)]) (O := O) (Ow.sp (L := [blk (.slice A488 n489 c490), blk (.slice A149 n150 c151), blk (.slice A155 n156 c157), blk (.slice A161 n162 c163), blk (.slice A167 n168 c169), blk (.slice A173 n174 c175), some b89, blk (.slice A36 n37 c38), blk (.slice A14 n15 c16)]) (O := O) (Ow.sd (L := [blk (.slice A488 n489 c490), blk (.slice A149 n150 c151), blk (.slice A155 n156 c157), blk (.slice A161 n162 c163), blk (.slice A167 n168 c169), blk (.slice A173 n174 c175), blk (.slice none 0 0), some b89, blk (.slice A36 n37 c38), blk (.slice A14 n15 c16)]) (O := O) (h158.so _ g491 hr492) (i := 2) rfl (j := 6) rfl (by decide)) (.swap _ _ _)) (.cons _ (.swap _ _ _))) (.cons _ (.cons _ (.swap _ _ _)))) (.cons _ (.cons _ (.cons _ (.swap _ _ _))))) (.cons _ (.cons _ (.cons _ (.cons _ (.swap _ _ _))))))
                have h516 := (Ow.sp (L := [blk (.slice A149 n150 c151), blk (.slice A155 n156 c157), blk (.slice A161 n162 c163), blk (.slice A167 n168 c169), blk (.slice A488 n489 c490), blk (.slice A173 n174 c175), some b89, blk (.slice A36 n37 c38), blk (.slice A14 n15 c16)]) (O := O) (Ow.sp (L := [blk (.slice A149 n150 c151), blk (.slice A155 n156 c157), blk (.slice A161 n162 c163), blk (.slice A488 n489 c490), blk (.slice A167 n168 c169), blk (.slice A173 n174 c175), some b89, blk (.slice A36 n37 c38), blk (.slice A14 n15 c16)]) (O := O) (Ow.sp (L := [blk (.slice A149 n150 c151), blk (.slice A155 n156 c157), blk (.slice A488 n489 c490), blk (.slice A161 n162 c163), blk (.slice A167 n168 c169), blk (.slice A173 n174 c175), some b89, blk (.slice A36 n37 c38), blk (.slice A14 n15 c16)]) (O := O) (Ow.sp (L := [blk (.slice A149 n150 c151), blk (.slice A488 n489 c490), blk (.slice A155 n156 c157), blk (.slice A161 n162 c163), blk (.slice A167 n168 c169), blk (.slice A173 n174 c175), some b89, blk (.slice A36 n37 c38), blk (.slice A14 n15 c16)]) (O := O) (Ow.sp (L := [blk (.slice A488 n489 c490), blk (.slice A149 n150 c151), blk (.slice A155 n156 c157), blk (.slice A161 n162 c163), blk (.slice A167 n168 c169), blk (.slice A173 n174 c175), some b89, blk (.slice A36 n37 c38), blk (.slice A14 n15 c16)]) (O := O) (Ow.sd (L := [blk (.slice A488 n489 c490), blk (.slice A149 n150 c151), blk (.slice A155 n156 c157), blk (.slice A161 n162 c163), blk (.slice A167 n168 c169), blk (.slice A173 n174 c175), blk (.slice none 0 0), some b89, blk (.slice A36 n37 c38), blk (.slice A14 n15 c16)]) (O := O) (h164.so _ g491 hr492) (i := 3) rfl (j := 6) rfl (by decide)) (.swap _ _ _)) (.cons _ (.swap _ _ _))) (.cons _ (.cons _ (.swap _ _ _)))) (.cons _ (.cons _ (.cons _ (.swap _ _ _))))) (.cons _ (.cons _ (.cons _ (.cons _ (.swap _ _ _))))))
                have h517 := (Ow.sp (L := [blk (.slice A149 n150 c151), blk (.slice A155 n156 c157), blk (.slice A161 n162 c163), blk (.slice A167 n168 c169), blk (.slice A488 n489 c490), blk (.slice A173 n174 c175), some b89, blk (.slice A36 n37 c38), blk (.slice A14 n15 c16)]) (O := O) (Ow.sp (L := [blk (.slice A149 n150 c151), blk (.slice A155 n156 c157), blk (.slice A161 n162 c163), blk (.slice A488 n489 c490), blk (.slice A167 n168 c169), blk (.slice A173 n174 c175), some b89, blk (.slice A36 n37 c38), blk (.slice A14 n15 c16)]) (O := O) (Ow.sp (L := [blk (.slice A149 n150 c151), blk (.slice A155 n156 c157), blk (.slice A488 n489 c490), blk (.slice A161 n162 c163), blk (.slice A167 n168 c169), blk (.slice A173 n174 c175), some b89, blk (.slice A36 n37 c38), blk (.slice A14 n15 c16)]) (O := O) (Ow.sp (L := [blk (.slice A149 n150 c151), blk (.slice A488 n489 c490), blk (.slice A155 n156 c157), blk (.slice A161 n162 c163), blk (.slice A167 n168 c169), blk (.slice A173 n174 c175), some b89, blk (.slice A36 n37 c38), blk (.slice A14 n15 c16)]) (O := O) (Ow.sp (L := [blk (.slice A488 n489 c490), blk (.slice A149 n150 c151), blk (.slice A155 n156 c157), blk (.slice A161 n162 c163), blk (.slice A167 n168 c169), blk (.slice A173 n174 c175), some b89, blk (.slice A36 n37 c38), blk (.slice A14 n15 c16)]) (O := O) (Ow.sd (L := [blk (.slice A488 n489 c490), blk (.slice A149 n150 c151), blk (.slice A155 n156 c157), blk (.slice A161 n162 c163), blk (.slice A167 n168 c169), blk (.slice A173 n174 c175), blk (.slice none 0 0), some b89, blk (.slice A36 n37 c38), blk (.slice A14 n15 c16)]) (O := O) (h170.so _ g491 hr492) (i := 4) rfl (j := 6) rfl (by decide)) (.swap _ _ _)) (.cons _ (.swap _ _ _))) (.cons _ (.cons _ (.swap _ _ _)))) (.cons _ (.cons _ (.cons _ (.swap _ _ _))))) (.cons _ (.cons _ (.cons _ (.cons _ (.swap _ _ _))))))
                have h518 := (Ow.sp (L := [blk (.slice A149 n150 c151), blk (.slice A155 n156 c157), blk (.slice A161 n162 c163), blk (.slice A167 n168 c169), blk (.slice A488 n489 c490), blk (.slice A173 n174 c175), some b89, blk (.slice A36 n37 c38), blk (.slice A14 n15 c16)]) (O := O) (Ow.sp (L := [blk (.slice A149 n150 c151), blk (.slice A155 n156 c157), blk (.slice A161 n162 c163), blk (.slice A488 n489 c490), blk (.slice A167 n168 c169), blk (.slice A173 n174 c175), some b89, blk (.slice A36 n37 c38), blk (.slice A14 n15 c16)]) (O := O) (Ow.sp (L := [blk (.slice A149 n150 c151), blk (.slice A155 n156 c157), blk (.slice A488 n489 c490), blk (.slice A161 n162 c163), blk (.slice A167 n168 c169), blk (.slice A173 n174 c175), some b89, blk (.slice A36 n37 c38), blk (.slice A14 n15 c16)]) (O := O) (Ow.sp (L := [blk (.slice A149 n150 c151), blk (.slice A488 n489 c490), blk (.slice A155 n156 c157), blk (.slice A161 n162 c163), blk (.slice A167 n168 c169), blk (.slice A173 n174 c175), some b89, blk (.slice A36 n37 c38), blk (.slice A14 n15 c16)]) (O := O) (Ow.sp (L := [blk (.slice A488 n489 c490), blk (.slice A149 n150 c151), blk (.slice A155 n156 c157), blk (.slice A161 n162 c163), blk (.slice A167 n168 c169), blk (.slice A173 n174 c175), some b89, blk (.slice A36 n37 c38), blk (.slice A14 n15 c16)]) (O := O) (Ow.sd (L := [blk (.slice A488 n489 c490), blk (.slice A149 n150 c151), blk (.slice A155 n156 c157), blk (.slice A161 n162 c163), blk (.slice A167 n168 c169), blk (.slice A173 n174 c175), blk (.slice none 0 0), some b89, blk (.slice A36 n37 c38), blk (.slice A14 n15 c16)]) (O := O) (h176.so _ g491 hr492) (i := 5) rfl (j := 6) rfl (by decide)) (.swap _ _ _)) (.cons _ (.swap _ _ _))) (.cons _ (.cons _ (.swap _ _ _)))) (.cons _ (.cons _ (.cons _ (.swap _ _ _))))) (.cons _ (.cons _ (.cons _ (.cons _ (.swap _ _ _))))))
                have h519 := (Ow.sp (L := [blk (.slice A149 n150 c151), blk (.slice A155 n156 c157), blk (.slice A161 n162 c163), blk (.slice A167 n168 c169), blk (.slice A488 n489 c490), blk (.slice A173 n174 c175), some b89, blk (.slice A36 n37 c38), blk (.slice A14 n15 c16)]) (O := O) (Ow.sp (L := [blk (.slice A149 n150 c151), blk (.slice A155 n156 c157), blk (.slice A161 n162 c163), blk (.slice A488 n489 c490), blk (.slice A167 n168 c169), blk (.slice A173 n174 c175), some b89, blk (.slice A36 n37 c38), blk (.slice A14 n15 c16)]) (O := O) (Ow.sp (L := [blk (.slice A149 n150 c151), blk (.slice A155 n156 c157), blk (.slice A488 n489 c490), blk (.slice A161 n162 c163), blk (.slice A167 n168 c169), blk (.slice A173 n174 c175), some b89, blk (.slice A36 n37 c38), blk (.slice A14 n15 c16)]) (O := O) (Ow.sp (L := [blk (.slice A149 n150 c151), blk (.slice A488 n489 c490), blk (.slice A155 n156 c157), blk (.slice A161 n162 c163), blk (.slice A167 n168 c169), blk (.slice A173 n174 c175), some b89, blk (.slice A36 n37 c38), blk (.slice A14 n15 c16)]) (O := O) (Ow.sp (L := [blk (.slice A488 n489 c490), blk (.slice A149 n150 c151), blk (.slice A155 n156 c157), blk (.slice A161 n162 c163), blk (.slice A167 n168 c169), blk (.slice A173 n174 c175), some b89, blk (.slice A36 n37 c38), blk (.slice A14 n15 c16)]) (O := O) (Ow.sd (L := [blk (.slice A488 n489 c490), blk (.slice A149 n150 c151), blk (.slice A155 n156 c157), blk (.slice A161 n162 c163), blk (.slice A167 n168 c169), blk (.slice A173 n174 c175), blk (.slice none 0 0), some b89, blk (.slice A36 n37 c38), blk (.slice A14 n15 c16)]) (O := O) h494 (i := 0) rfl (j := 6) rfl (by decide)) (.swap _ _ _)) (.cons _ (.swap _ _ _))) (.cons _ (.cons _ (.swap _ _ _)))) (.cons _ (.cons _ (.cons _ (.swap _ _ _))))) (.cons _ (.cons _ (.cons _ (.cons _ (.swap _ _ _))))))
                refine L_nil ⟨A149, n150, c151, y, A155, n156, c157, y2, A161, n162, c163, y3, A167, n168, c169, y4, A173, n174, c175, y5, A488, n489, c490, ([(⟨99, 99⟩ : Pt)] : List Pt), ⟨rfl, rfl, rfl, rfl, rfl, rfl, rfl, rfl, rfl, rfl, rfl, rfl, trivial⟩, hc507, hM496, h509, h510, h511, h512, h513, h514, hv153, h515, hv159, h516, hv165, h517, hv171, h518, hv177, h519, (hv_new hM184 hr492), hs186, hs187, hs188, hs189, hs190, hs191, hs192, hs193, hs194, hs195, hs196, hs197, hs198, hs199, hs200, hs201, (fun h => Bool.noConfusion (show true = false from h)), (fun _ => ⟨rfl, rfl⟩)⟩
              · have he526 : f 14 = true := hd 14 (List.contains_iff_mem.1 (by kernel_rfl)) (by decide)
                have he527 : f 12 = true := hcl 14 (by decide) he526 12 (List.contains_iff_mem.1 (by kernel_rfl)) (by decide)
                obtain ⟨ht520, hy521⟩ := hs200 (hd 14 (List.contains_iff_mem.1 (by kernel_rfl)) (by decide)) hf
                rw [hy521] at h176
                obtain ⟨ht522, hy523⟩ := hs203 (hd 16 (List.contains_iff_mem.1 (by kernel_rfl)) (by decide))
                rw [hy523] at h182
                have he524 : f 16 = true := hd 16 (List.contains_iff_mem.1 (by kernel_rfl)) (by decide)
                obtain ⟨u525, rfl⟩ := Has.ins (l := ((81, .slice A179 n180 c181) :: ((79, .slice A173 n174 c175) :: [(3, .slice A10 n11 c12), (4, .slice A14 n15 c16), (5, .slice A19 n20 c21), (6, .slice A36 n37 c38), (7, vb r5), (11, .pointer (some ⟨b89, 0, none⟩)), (66, .slice A10 n11 c12), (68, .agg #[vi 99, vi 99]), (72, .slice A14 n15 c16), (74, .agg #[vi 99, vi 99]), (78, .slice A19 n20 c21), (80, .agg #[vi 99, vi 99])]))) ⟨ht522, ⟨ht520, hh185⟩⟩
                refine ⟨_, rfl, ?_⟩
                refine L_app ei23 hc142 (.slice A173 n174 c175) (([] : List Pt) ++ r3) ([(⟨99, 99⟩ : Pt)] : List Pt) rfl h176 (.slice A179 n180 c181) rfl h182.sx 4 rfl hb109 fun w528 A529 n530 c531 g532 s533 hc534 h535 => ?_
                have hM536 := Gm.tq hM184 g532 hv177
                have hv537 := hv_app (L := [blk (.slice A149 n150 c151), blk (.slice A155 n156 c157), blk (.slice A161 n162 c163), blk (.slice A167 n168 c169), blk (.slice A173 n174 c175), blk (.slice A179 n180 c181), some b89, blk (.slice A36 n37 c38), blk (.slice A14 n15 c16)]) (O := O) (i := 4) hM184 rfl hv177 s533 hc534
                have h539 := (Ow.sm (L := [blk (.slice A149 n150 c151), blk (.slice A155 n156 c157), blk (.slice A161 n162 c163), blk (.slice A167 n168 c169), blk (.slice A173 n174 c175), blk (.slice A179 n180 c181), some b89, blk (.slice A36 n37 c38), blk (.slice A14 n15 c16)]) (O := O) h145 hc142 (i := 8) rfl (j := 4) rfl (by decide) g532 s533)
                have h540 := (Ow.sm (L := [blk (.slice A149 n150 c151), blk (.slice A155 n156 c157), blk (.slice A161 n162 c163), blk (.slice A167 n168 c169), blk (.slice A173 n174 c175), blk (.slice A179 n180 c181), some b89, blk (.slice A36 n37 c38), blk (.slice A14 n15 c16)]) (O := O) h146 hc142 (i := 7) rfl (j := 4) rfl (by decide) g532 s533)
                have h541 := (Bx.sm (L := [blk (.slice A149 n150 c151), blk (.slice A155 n156 c157), blk (.slice A161 n162 c163), blk (.slice A167 n168 c169), blk (.slice A173 n174 c175), blk (.slice A179 n180 c181), some b89, blk (.slice A36 n37 c38), blk (.slice A14 n15 c16)]) (O := O) h147 hc142 (i := 6) rfl (j := 4) rfl (by decide) g532)
                have h542 := (Ow.sm (L := [blk (.slice A149 n150 c151), blk (.slice A155 n156 c157), blk (.slice A161 n162 c163), blk (.slice A167 n168 c169), blk (.slice A173 n174 c175), blk (.slice A179 n180 c181), some b89, blk (.slice A36 n37 c38), blk (.slice A14 n15 c16)]) (O := O) h152 hc142 (i := 0) rfl (j := 4) rfl (by decide) g532 s533)
                have h543 := (Ow.sm (L := [blk (.slice A149 n150 c151), blk (.slice A155 n156 c157), blk (.slice A161 n162 c163), blk (.slice A167 n168 c169), blk (.slice A173 n174 c175), blk (.slice A179 n180 c181), some b89, blk (.slice A36 n37 c38), blk (.slice A14 n15 c16)]) (O := O) h158 hc142 (i := 1) rfl (j := 4) rfl (by decide) g532 s533)
                have h544 := (Ow.sm (L := [blk (.slice A149 n150 c151), blk (.slice A155 n156 c157), blk (.slice A161 n162 c163), blk (.slice A167 n168 c169), blk (.slice A173 n174 c175), blk (.slice A179 n180 c181), some b89, blk (.slice A36 n37 c38), blk (.slice A14 n15 c16)]) (O := O) h164 hc142 (i := 2) rfl (j := 4) rfl (by decide) g532 s533)
                have h545 := (Ow.sm (L := [blk (.slice A149 n150 c151), blk (.slice A155 n156 c157), blk (.slice A161 n162 c163), blk (.slice A167 n168 c169), blk (.slice A173 n174 c175), blk (.slice A179 n180 c181), some b89, blk (.slice A36 n37 c38), blk (.slice A14 n15 c16)]) (O := O) h170 hc142 (i := 3) rfl (j := 4) rfl (by decide) g532 s533)
                have h546 := (Ow.sm (L := [blk (.slice A149 n150 c151), blk (.slice A155 n156 c157), blk (.slice A161 n162 c163), blk (.slice A167 n168 c169), blk (.slice A173 n174 c175), blk (.slice A179 n180 c181), some b89, blk (.slice A36 n37 c38), blk (.slice A14 n15 c16)]) (O := O) h182 hc142 (i := 5) rfl (j := 4) rfl (by decide) g532 s533)
                refine L_nil ⟨A149, n150, c151, y, A155, n156, c157, y2, A161, n162, c163, y3, A167, n168, c169, y4, A529, n530, c531, ((([] : List Pt) ++ r3) ++ ([(⟨99, 99⟩ : Pt)] : List Pt)), A179, n180, c181, ([(⟨99, 99⟩ : Pt)] : List Pt), ⟨rfl, rfl, rfl, rfl, rfl, rfl, rfl, rfl, rfl, rfl, rfl, rfl, trivial⟩, hc534, hM536, (h143.st s533), (h144.st s533), h539, h540, h541, h542, hv153, h543, hv159, h544, hv165, h545, hv171, h535, hv537, h546, hv183, hs186, hs187, hs188, hs189, hs190, hs191, hs192, hs193, hs194, hs195, hs196, hs197, (fun h => absurd (show f 12 = false from h) (by rw [he527]; exact fun e => Bool.noConfusion e)), (fun _ h => absurd (show f 14 = false from h) (by rw [he526]; exact fun e => Bool.noConfusion e)), (fun _ h => Bool.noConfusion (show true = false from h)), (fun _ => ⟨rfl, rfl⟩), (fun h => absurd (show f 16 = false from h) (by rw [he524]; exact fun e => Bool.noConfusion e)), (fun _ => ⟨rfl, rfl⟩)⟩
            · intro f t w137 hall ⟨A149, n150, c151, y, A155, n156, c157, y2, A161, n162, c163, y3, A167, n168, c169, y4, A173, n174, c175, y5, A179, n180, c181, y6, hh185, hc142, hM184, h143, h144, h145, h146, h147, h152, hv153, h158, hv159, h164, hv165, h170, hv171, h176, hv177, h182, hv183, hs186, hs187, hs188, hs189, hs190, hs191, hs192, hs193, hs194, hs195, hs196, hs197, hs198, hs199, hs200, hs201, hs202, hs203⟩
              obtain ⟨ht547, hy548⟩ := hs189 (hall 5 (by decide))
              rw [hy548] at h152
              obtain ⟨ht549, hy550⟩ := hs191 (hall 4 (by decide))
              rw [hy550] at h158
              obtain ⟨ht551, hy552⟩ := hs195 (hall 11 (by decide))
              rw [hy552] at h164
              obtain ⟨ht553, hy554⟩ := hs197 (hall 10 (by decide))
              rw [hy554] at h170
              obtain ⟨ht555, hy556⟩ := hs201 (hall 17 (by decide))
              rw [hy556] at h176
              obtain ⟨ht557, hy558⟩ := hs203 (hall 16 (by decide))
              rw [hy558] at h182
              obtain ⟨u559, rfl⟩ := Has.ins (l := ((81, .slice A179 n180 c181) :: ((82, .slice A173 n174 c175) :: ((75, .slice A167 n168 c169) :: ((76, .slice A161 n162 c163) :: ((69, .slice A155 n156 c157) :: ((70, .slice A149 n150 c151) :: [(3, .slice A10 n11 c12), (4, .slice A14 n15 c16), (5, .slice A19 n20 c21), (6, .slice A36 n37 c38), (7, vb r5), (11, .pointer (some ⟨b89, 0, none⟩)), (66, .slice A10 n11 c12), (68, .agg #[vi 99, vi 99]), (72, .slice A14 n15 c16), (74, .agg #[vi 99, vi 99]), (78, .slice A19 n20 c21), (80, .agg #[vi 99, vi 99])]))))))) ⟨ht557, ⟨ht555, ⟨ht553, ⟨ht551, ⟨ht549, ⟨ht547, hh185⟩⟩⟩⟩⟩⟩
              refine M_any1 18 (by kernel_rfl) rfl ?_
              have h560 := Ow.gv (L := [blk (.slice A149 n150 c151), blk (.slice A155 n156 c157), blk (.slice A161 n162 c163), blk (.slice A167 n168 c169), blk (.slice A173 n174 c175), blk (.slice A179 n180 c181), some b89, blk (.slice A36 n37 c38), blk (.slice A14 n15 c16)]) (O := O) h152 hc142 (i := 0) rfl
              have hc561 := hc142.drop 0 rfl
              have h564 := (Ow.sd (L := [blk (.slice A149 n150 c151), blk (.slice A155 n156 c157), blk (.slice A161 n162 c163), blk (.slice A167 n168 c169), blk (.slice A173 n174 c175), blk (.slice A179 n180 c181), some b89, blk (.slice A36 n37 c38), blk (.slice A14 n15 c16)]) (O := O) h164 (i := 2) rfl (j := 0) rfl (by decide))
              have h565 := Ow.gv (L := [blk (.slice A155 n156 c157), blk (.slice A161 n162 c163), blk (.slice A167 n168 c169), blk (.slice A173 n174 c175), blk (.slice A179 n180 c181), some b89, blk (.slice A36 n37 c38), blk (.slice A14 n15 c16)]) (O := O) h564 hc561 (i := 1) rfl
              have hc566 := hc561.drop 1 rfl
              have h569 := (Ow.sd (L := [blk (.slice A155 n156 c157), blk (.slice A161 n162 c163), blk (.slice A167 n168 c169), blk (.slice A173 n174 c175), blk (.slice A179 n180 c181), some b89, blk (.slice A36 n37 c38), blk (.slice A14 n15 c16)]) (O := O) (Ow.sd (L := [blk (.slice A149 n150 c151), blk (.slice A155 n156 c157), blk (.slice A161 n162 c163), blk (.slice A167 n168 c169), blk (.slice A173 n174 c175), blk (.slice A179 n180 c181), some b89, blk (.slice A36 n37 c38), blk (.slice A14 n15 c16)]) (O := O) h176 (i := 4) rfl (j := 0) rfl (by decide)) (i := 3) rfl (j := 1) rfl (by decide))
              have h570 := Ow.gv (L := [blk (.slice A155 n156 c157), blk (.slice A167 n168 c169), blk (.slice A173 n174 c175), blk (.slice A179 n180 c181), some b89, blk (.slice A36 n37 c38), blk (.slice A14 n15 c16)]) (O := O) h569 hc566 (i := 2) rfl
              have hc571 := hc566.drop 2 rfl
              have h574 := ((h560.st (.dr _ (L := [blk (.slice A155 n156 c157), blk (.slice A161 n162 c163), blk (.slice A167 n168 c169), blk (.slice A173 n174 c175), blk (.slice A179 n180 c181), some b89, blk (.slice A36 n37 c38), blk (.slice A14 n15 c16)]) (O := O) (j := 1) rfl)).st (.dr _ (L := [blk (.slice A155 n156 c157), blk (.slice A167 n168 c169), blk (.slice A173 n174 c175), blk (.slice A179 n180 c181), some b89, blk (.slice A36 n37 c38), blk (.slice A14 n15 c16)]) (O := O) (j := 2) rfl))
              have h575 := (h565.st (.dr _ (L := [blk (.slice A155 n156 c157), blk (.slice A167 n168 c169), blk (.slice A173 n174 c175), blk (.slice A179 n180 c181), some b89, blk (.slice A36 n37 c38), blk (.slice A14 n15 c16)]) (O := O) (j := 2) rfl))
              refine L_call go10 [.slice A149 n150 c151, .slice A161 n162 c163, .slice A173 n174 c175] rfl ((impl_SeqMerge.calls w137 hc571.ok ((([] : List Pt) ++ r) ++ ([(⟨99, 99⟩ : Pt)] : List Pt)) A149 n150 c151 h574 ((([] : List Pt) ++ r2) ++ ([(⟨99, 99⟩ : Pt)] : List Pt)) A161 n162 c163 h575 ((([] : List Pt) ++ r3) ++ ([(⟨99, 99⟩ : Pt)] : List Pt)) A173 n174 c175 h570 _ H).mono ?_)
              rintro _ w576 ⟨r8, r9, A578, n579, c580, rfl, H, g577, hk584, hk585, h581⟩
              have hk587 := Ok.unl (L := [blk (.slice A149 n150 c151), blk (.slice A155 n156 c157), blk (.slice A161 n162 c163), blk (.slice A167 n168 c169), blk (.slice A173 n174 c175), blk (.slice A179 n180 c181), some b89, blk (.slice A36 n37 c38), blk (.slice A14 n15 c16)]) (L' := [blk (.slice A155 n156 c157), blk (.slice A167 n168 c169), blk (.slice A179 n180 c181), some b89, blk (.slice A36 n37 c38), blk (.slice A14 n15 c16)]) (O := O) hc142 g577 hk584 hk585
              have h588 := Ow.unl (L := [blk (.slice A149 n150 c151), blk (.slice A155 n156 c157), blk (.slice A161 n162 c163), blk (.slice A167 n168 c169), blk (.slice A173 n174 c175), blk (.slice A179 n180 c181), some b89, blk (.slice A36 n37 c38), blk (.slice A14 n15 c16)]) (L' := [blk (.slice A155 n156 c157), blk (.slice A167 n168 c169), blk (.slice A179 n180 c181), some b89, blk (.slice A36 n37 c38), blk (.slice A14 n15 c16)]) (O := O) (fun _ _ _ _ _ _ h => h) (.cons _ (.cons_cons _ (.cons _ (.cons_cons _ (.cons _ (.cons_cons _ (.cons_cons _ (.cons_cons _ (.cons_cons _ (.slnil)))))))))) h581
              have hc586 := hc142.owns g577 hk587 hk585
              have hM589 := Gm.tm hM184 g577
              refine L_nil ⟨hM589, ?_⟩
              refine M_pu 19 rfl (by kernel_rfl) hM589 (P_move (.tuple #[.slice A578 n579 c580, vb r9]) rfl) ?_
              refine M_pu 20 rfl (by kernel_rfl) hM589 (P_ext [.slice A578 n579 c580, vb r9] 0 (.slice A578 n579 c580) rfl rfl) ?_
              refine M_pu 21 rfl (by kernel_rfl) hM589 (P_ext [.slice A578 n579 c580, vb r9] 1 (vb r9) rfl rfl) ?_
              refine M_pu 22 rfl (by kernel_rfl) hM589 (P_assign (.slice A578 n579 c580) rfl) ?_
              refine M_pu 23 rfl (by kernel_rfl) hM589 (P_assign (vb r9) rfl) ?_
              refine M_nil (by kernel_rfl) ?_
              refine W_seq ?_
              refine W_mixr 18 [] (by kernel_rfl) rfl fun w590 g591 hM592 => ?_
              have hc593 := hc586.k0 g591
              obtain ⟨hb594, H⟩ := H
              obtain ⟨hb595, H⟩ := H
              obtain ⟨hb596, H⟩ := H
              have h597 := ((h147.k0 g577).k0 g591)
              refine M_pu 0 rfl (by kernel_rfl) hM592 (P_ldar ag29 sz29 cR ⟨b89, 0, none⟩ [vi 99, vi 99] rfl rfl (h597.cells (off := 0) rfl) nm_nil) ?_
              refine M_pu 2 rfl (by kernel_rfl) hM592 (P_move (.slice A10 n11 c12) rfl) ?_
              refine M_pu 4 rfl (by kernel_rfl) hM592 (P_ldar ag29 sz29 cR ⟨b89, 0, none⟩ [vi 99, vi 99] rfl rfl (h597.cells (off := 0) rfl) nm_nil) ?_
              refine M_pu 6 rfl (by kernel_rfl) hM592 (P_move (.slice A14 n15 c16) rfl) ?_
              refine M_pu 8 rfl (by kernel_rfl) hM592 (P_ldar ag29 sz29 cR ⟨b89, 0, none⟩ [vi 99, vi 99] rfl rfl (h597.cells (off := 0) rfl) nm_nil) ?_
              refine M_pu 10 rfl (by kernel_rfl) hM592 (P_move (.slice A19 n20 c21) rfl) ?_
              have hc598 := hc593.drop 1 rfl
              have hc600 := hc598.drop 1 rfl
              have hc602 := hc600.drop 1 rfl
              have hc604 := hc602.drop 1 rfl
              have hc606 := hc604.drop 1 rfl
              have hc608 := hc606.drop 1 rfl
              have hc611 := hc608.own (Gr.refl _ none) none (by simp)
              have h613 : Ow kPt 29 w590 ([blk (.slice none 0 0), blk (.slice A578 n579 c580), some b89, blk (.slice A36 n37 c38), blk (.slice A14 n15 c16)] ++ O) (.slice none 0 0) [] := Ow.nil _ _ _ _
              have hc615 := hc611.own (Gr.refl _ none) none (by simp)
              have h617 : Ow kPt 29 w590 ([blk (.slice none 0 0), blk (.slice none 0 0), blk (.slice A578 n579 c580), some b89, blk (.slice A36 n37 c38), blk (.slice A14 n15 c16)] ++ O) (.slice none 0 0) [] := Ow.nil _ _ _ _
              have hc619 := hc615.own (Gr.refl _ none) none (by simp)
              have h621 : Ow kPt 29 w590 ([blk (.slice none 0 0), blk (.slice none 0 0), blk (.slice none 0 0), blk (.slice A578 n579 c580), some b89, blk (.slice A36 n37 c38), blk (.slice A14 n15 c16)] ++ O) (.slice none 0 0) [] := Ow.nil _ _ _ _
              have h664 := (((((((((((h143.st (.owns _ g577 hk585)).st (.new _ g591)).st (.dr _ (L := [blk (.slice A578 n579 c580), blk (.slice A149 n150 c151), blk (.slice A155 n156 c157), blk (.slice A161 n162 c163), blk (.slice A167 n168 c169), blk (.slice A173 n174 c175), blk (.slice A179 n180 c181), some b89, blk (.slice A36 n37 c38), blk (.slice A14 n15 c16)]) (O := O) (j := 1) rfl)).st (.dr _ (L := [blk (.slice A578 n579 c580), blk (.slice A155 n156 c157), blk (.slice A161 n162 c163), blk (.slice A167 n168 c169), blk (.slice A173 n174 c175), blk (.slice A179 n180 c181), some b89, blk (.slice A36 n37 c38), blk (.slice A14 n15 c16)]) (O := O) (j := 1) rfl)).st (.dr _ (L := [blk (.slice A578 n579 c580), blk (.slice A161 n162 c163), blk (.slice A167 n168 c169), blk (.slice A173 n174 c175), blk (.slice A179 n180 c181), some b89, blk (.slice A36 n37 c38), blk (.slice A14 n15 c16)]) (O := O) (j := 1) rfl)).st (.dr _ (L := [blk (.slice A578 n579 c580), blk (.slice A167 n168 c169), blk (.slice A173 n174 c175), blk (.slice A179 n180 c181), some b89, blk (.slice A36 n37 c38), blk (.slice A14 n15 c16)]) (O := O) (j := 1) rfl)).st (.dr _ (L := [blk (.slice A578 n579 c580), blk (.slice A173 n174 c175), blk (.slice A179 n180 c181), some b89, blk (.slice A36 n37 c38), blk (.slice A14 n15 c16)]) (O := O) (j := 1) rfl)).st (.dr _ (L := [blk (.slice A578 n579 c580), blk (.slice A179 n180 c181), some b89, blk (.slice A36 n37 c38), blk (.slice A14 n15 c16)]) (O := O) (j := 1) rfl)).st (.own _ none (Gr.refl _ none) (by simp))).st (.own _ none (Gr.refl _ none) (by simp))).st (.own _ none (Gr.refl _ none) (by simp)))
              have h665 := (((((((((((h144.st (.owns _ g577 hk585)).st (.new _ g591)).st (.dr _ (L := [blk (.slice A578 n579 c580), blk (.slice A149 n150 c151), blk (.slice A155 n156 c157), blk (.slice A161 n162 c163), blk (.slice A167 n168 c169), blk (.slice A173 n174 c175), blk (.slice A179 n180 c181), some b89, blk (.slice A36 n37 c38), blk (.slice A14 n15 c16)]) (O := O) (j := 1) rfl)).st (.dr _ (L := [blk (.slice A578 n579 c580), blk (.slice A155 n156 c157), blk (.slice A161 n162 c163), blk (.slice A167 n168 c169), blk (.slice A173 n174 c175), blk (.slice A179 n180 c181), some b89, blk (.slice A36 n37 c38), blk (.slice A14 n15 c16)]) (O := O) (j := 1) rfl)).st (.dr _ (L := [blk (.slice A578 n579 c580), blk (.slice A161 n162 c163), blk (.slice A167 n168 c169), blk (.slice A173 n174 c175), blk (.slice A179 n180 c181), some b89, blk (.slice A36 n37 c38), blk (.slice A14 n15 c16)]) (O := O) (j := 1) rfl)).st (.dr _ (L := [blk (.slice A578 n579 c580), blk (.slice A167 n168 c169), blk (.slice A173 n174 c175), blk (.slice A179 n180 c181), some b89, blk (.slice A36 n37 c38), blk (.slice A14 n15 c16)]) (O := O) (j := 1) rfl)).st (.dr _ (L := [blk (.slice A578 n579 c580), blk (.slice A173 n174 c175), blk (.slice A179 n180 c181), some b89, blk (.slice A36 n37 c38), blk (.slice A14 n15 c16)]) (O := O) (j := 1) rfl)).st (.dr _ (L := [blk (.slice A578 n579 c580), blk (.slice A179 n180 c181), some b89, blk (.slice A36 n37 c38), blk (.slice A14 n15 c16)]) (O := O) (j := 1) rfl)).st (.own _ none (Gr.refl _ none) (by simp))).st (.own _ none (Gr.refl _ none) (by simp))).st (.own _ none (Gr.refl _ none) (by simp)))
              have h666 := ((((Ow.sd (L := [blk (.slice A578 n579 c580), blk (.slice A179 n180 c181), some b89, blk (.slice A36 n37 c38), blk (.slice A14 n15 c16)]) (O := O) (Ow.sd (L := [blk (.slice A578 n579 c580), blk (.slice A173 n174 c175), blk (.slice A179 n180 c181), some b89, blk (.slice A36 n37 c38), blk (.slice A14 n15 c16)]) (O := O) (Ow.sd (L := [blk (.slice A578 n579 c580), blk (.slice A167 n168 c169), blk (.slice A173 n174 c175), blk (.slice A179 n180 c181), some b89, blk (.slice A36 n37 c38), blk (.slice A14 n15 c16)]) (O := O) (Ow.sd (L := [blk (.slice A578 n579 c580), blk (.slice A161 n162 c163), blk (.slice A167 n168 c169), blk (.slice A173 n174 c175), blk (.slice A179 n180 c181), some b89, blk (.slice A36 n37 c38), blk (.slice A14 n15 c16)]) (O := O) (Ow.sd (L := [blk (.slice A578 n579 c580), blk (.slice A155 n156 c157), blk (.slice A161 n162 c163), blk (.slice A167 n168 c169), blk (.slice A173 n174 c175), blk (.slice A179 n180 c181), some b89, blk (.slice A36 n37 c38), blk (.slice A14 n15 c16)]) (O := O) (Ow.sd (L := [blk (.slice A578 n579 c580), blk (.slice A149 n150 c151), blk (.slice A155 n156 c157), blk (.slice A161 n162 c163), blk (.slice A167 n168 c169), blk (.slice A173 n174 c175), blk (.slice A179 n180 c181), some b89, blk (.slice A36 n37 c38), blk (.slice A14 n15 c16)]) (O := O) ((h146.sos g577 hk585).sn g591) (i := 8) rfl (j := 1) rfl (by decide)) (i := 7) rfl (j := 1) rfl (by decide)) (i := 6) rfl (j := 1) rfl (by decide)) (i := 5) rfl (j := 1) rfl (by decide)) (i := 4) rfl (j := 1) rfl (by decide)) (i := 3) rfl (j := 1) rfl (by decide)).so none (Gr.refl _ none) (by simp)).so none (Gr.refl _ none) (by simp)).so none (Gr.refl _ none) (by simp))
              have h667 := ((((Ow.sd (L := [blk (.slice A578 n579 c580), blk (.slice A179 n180 c181), some b89, blk (.slice A36 n37 c38), blk (.slice A14 n15 c16)]) (O := O) (Ow.sd (L := [blk (.slice A578 n579 c580), blk (.slice A173 n174 c175), blk (.slice A179 n180 c181), some b89, blk (.slice A36 n37 c38), blk (.slice A14 n15 c16)]) (O := O) (Ow.sd (L := [blk (.slice A578 n579 c580), blk (.slice A167 n168 c169), blk (.slice A173 n174 c175), blk (.slice A179 n180 c181), some b89, blk (.slice A36 n37 c38), blk (.slice A14 n15 c16)]) (O := O) (Ow.sd (L := [blk (.slice A578 n579 c580), blk (.slice A161 n162 c163), blk (.slice A167 n168 c169), blk (.slice A173 n174 c175), blk (.slice A179 n180 c181), some b89, blk (.slice A36 n37 c38), blk (.slice A14 n15 c16)]) (O := O) (Ow.sd (L := [blk (.slice A578 n579 c580), blk (.slice A155 n156 c157), blk (.slice A161 n162 c163), blk (.slice A167 n168 c169), blk (.slice A173 n174 c175), blk (.slice A179 n180 c181), some b89, blk (.slice A36 n37 c38), blk (.slice A14 n15 c16)]) (O := O) (Ow.sd (L := [blk (.slice A578 n579 c580), blk (.slice A149 n150 c151), blk (.slice A155 n156 c157), blk (.slice A161 n162 c163), blk (.slice A167 n168 c169), blk (.slice A173 n174 c175), blk (.slice A179 n180 c181), some b89, blk (.slice A36 n37 c38), blk (.slice A14 n15 c16)]) (O := O) (h588.sn g591) (i := 0) rfl (j := 1) rfl (by decide)) (i := 0) rfl (j := 1) rfl (by decide)) (i := 0) rfl (j := 1) rfl (by decide)) (i := 0) rfl (j := 1) rfl (by decide)) (i := 0) rfl (j := 1) rfl (by decide)) (i := 0) rfl (j := 1) rfl (by decide)).so none (Gr.refl _ none) (by simp)).so none (Gr.refl _ none) (by simp)).so none (Gr.refl _ none) (by simp))
              have h668 := ((((Ow.sd (L := [blk (.slice A578 n579 c580), blk (.slice A179 n180 c181), some b89, blk (.slice A36 n37 c38), blk (.slice A14 n15 c16)]) (O := O) (Ow.sd (L := [blk (.slice A578 n579 c580), blk (.slice A173 n174 c175), blk (.slice A179 n180 c181), some b89, blk (.slice A36 n37 c38), blk (.slice A14 n15 c16)]) (O := O) (Ow.sd (L := [blk (.slice A578 n579 c580), blk (.slice A167 n168 c169), blk (.slice A173 n174 c175), blk (.slice A179 n180 c181), some b89, blk (.slice A36 n37 c38), blk (.slice A14 n15 c16)]) (O := O) (Ow.sd (L := [blk (.slice A578 n579 c580), blk (.slice A161 n162 c163), blk (.slice A167 n168 c169), blk (.slice A173 n174 c175), blk (.slice A179 n180 c181), some b89, blk (.slice A36 n37 c38), blk (.slice A14 n15 c16)]) (O := O) (Ow.sd (L := [blk (.slice A578 n579 c580), blk (.slice A155 n156 c157), blk (.slice A161 n162 c163), blk (.slice A167 n168 c169), blk (.slice A173 n174 c175), blk (.slice A179 n180 c181), some b89, blk (.slice A36 n37 c38), blk (.slice A14 n15 c16)]) (O := O) (Ow.sd (L := [blk (.slice A578 n579 c580), blk (.slice A149 n150 c151), blk (.slice A155 n156 c157), blk (.slice A161 n162 c163), blk (.slice A167 n168 c169), blk (.slice A173 n174 c175), blk (.slice A179 n180 c181), some b89, blk (.slice A36 n37 c38), blk (.slice A14 n15 c16)]) (O := O) ((h145.sos g577 hk585).sn g591) (i := 9) rfl (j := 1) rfl (by decide)) (i := 8) rfl (j := 1) rfl (by decide)) (i := 7) rfl (j := 1) rfl (by decide)) (i := 6) rfl (j := 1) rfl (by decide)) (i := 5) rfl (j := 1) rfl (by decide)) (i := 4) rfl (j := 1) rfl (by decide)).so none (Gr.refl _ none) (by simp)).so none (Gr.refl _ none) (by simp)).so none (Gr.refl _ none) (by simp))
              have h669 := h597
              have h670 := (h617.so none (Gr.refl _ none) (by simp))
              have h671 := ((h613.so none (Gr.refl _ none) (by simp)).so none (Gr.refl _ none) (by simp))
              refine M_float (m := 6) [1, 3, 5, 7, 9, 11] [11] (by decide) (by kernel_rfl) (fun (f : Nat → Bool) t w622 => ∃ (A636 : Option Addr) (n637 c638 : Nat) (y7 : List Pt) (A642 : Option Addr) (n643 c644 : Nat) (y8 : List Pt) (A648 : Option Addr) (n649 c650 : Nat) (y9 : List Pt), Has t [(6, .slice A36 n37 c38), (7, vb r5), (11, .pointer (some ⟨b89, 0, none⟩)), (12, .slice A578 n579 c580), (13, vb r9), (87, .agg #[vi 99, vi 99]), (89, .slice A10 n11 c12), (91, .agg #[vi 99, vi 99]), (93, .slice A14 n15 c16), (95, .agg #[vi 99, vi 99]), (97, .slice A19 n20 c21)] ∧ Ct [] w0 w622 [blk (.slice A636 n637 c638), blk (.slice A642 n643 c644), blk (.slice A648 n649 c650), blk (.slice A578 n579 c580), some b89, blk (.slice A36 n37 c38), blk (.slice A14 n15 c16)] O ∧ Gm w590 w622 [] ∧ Sl kPt w622 (Fr ([blk (.slice A636 n637 c638), blk (.slice A642 n643 c644), blk (.slice A648 n649 c650), blk (.slice A578 n579 c580), some b89, blk (.slice A36 n37 c38), blk (.slice A14 n15 c16)] ++ O)) (.slice A10 n11 c12) r ∧ Sl kPt w622 (Fr ([blk (.slice A636 n637 c638), blk (.slice A642 n643 c644), blk (.slice A648 n649 c650), blk (.slice A578 n579 c580), some b89, blk (.slice A36 n37 c38), blk (.slice A14 n15 c16)] ++ O)) (.slice A19 n20 c21) r3 ∧ Ow kPt 29 w622 ([blk (.slice A636 n637 c638), blk (.slice A642 n643 c644), blk (.slice A648 n649 c650), blk (.slice A578 n579 c580), some b89, blk (.slice A36 n37 c38), blk (.slice A14 n15 c16)] ++ O) (.slice A36 n37 c38) r4 ∧ Ow kPt 29 w622 ([blk (.slice A636 n637 c638), blk (.slice A642 n643 c644), blk (.slice A648 n649 c650), blk (.slice A578 n579 c580), some b89, blk (.slice A36 n37 c38), blk (.slice A14 n15 c16)] ++ O) (.slice A578 n579 c580) r8 ∧ Ow kPt 29 w622 ([blk (.slice A636 n637 c638), blk (.slice A642 n643 c644), blk (.slice A648 n649 c650), blk (.slice A578 n579 c580), some b89, blk (.slice A36 n37 c38), blk (.slice A14 n15 c16)] ++ O) (.slice A14 n15 c16) r2 ∧ Bx w622 b89 [vi 99, vi 99] ∧ Ow kPt 29 w622 ([blk (.slice A636 n637 c638), blk (.slice A642 n643 c644), blk (.slice A648 n649 c650), blk (.slice A578 n579 c580), some b89, blk (.slice A36 n37 c38), blk (.slice A14 n15 c16)] ++ O) (.slice A636 n637 c638) y7 ∧ (∀ b, blk (.slice A636 n637 c638) = some b → b < w590.heap.size → some b ∈ ([] : Ob)) ∧ Ow kPt 29 w622 ([blk (.slice A636 n637 c638), blk (.slice A642 n643 c644), blk (.slice A648 n649 c650), blk (.slice A578 n579 c580), some b89, blk (.slice A36 n37 c38), blk (.slice A14 n15 c16)] ++ O) (.slice A642 n643 c644) y8 ∧ (∀ b, blk (.slice A642 n643 c644) = some b → b < w590.heap.size → some b ∈ ([] : Ob)) ∧ Ow kPt 29 w622 ([blk (.slice A636 n637 c638), blk (.slice A642 n643 c644), blk (.slice A648 n649 c650), blk (.slice A578 n579 c580), some b89, blk (.slice A36 n37 c38), blk (.slice A14 n15 c16)] ++ O) (.slice A648 n649 c650) y9 ∧ (∀ b, blk (.slice A648 n649 c650) = some b → b < w590.heap.size → some b ∈ ([] : Ob)) ∧ (f 1 = false → A636 = none ∧ n637 = 0 ∧ c638 = 0 ∧ y7 = []) ∧ (f 1 = true → f 3 = false → t 88 = .slice A636 n637 c638 ∧ y7 = ([(⟨99, 99⟩ : Pt)] : List Pt)) ∧ (f 3 = true → t 90 = .slice A636 n637 c638 ∧ y7 = (([(⟨99, 99⟩ : Pt)] : List Pt) ++ r)) ∧ (f 5 = false → A642 = none ∧ n643 = 0 ∧ c644 = 0 ∧ y8 = []) ∧ (f 5 = true → f 7 = false → t 92 = .slice A642 n643 c644 ∧ y8 = ([(⟨99, 99⟩ : Pt)] : List Pt)) ∧ (f 7 = true → t 94 = .slice A642 n643 c644 ∧ y8 = (([(⟨99, 99⟩ : Pt)] : List Pt) ++ r2)) ∧ (f 9 = false → A648 = none ∧ n649 = 0 ∧ c650 = 0 ∧ y9 = []) ∧ (f 9 = true → f 11 = false → t 96 = .slice A648 n649 c650 ∧ y9 = ([(⟨99, 99⟩ : Pt)] : List Pt)) ∧ (f 11 = true → t 98 = .slice A648 n649 c650 ∧ y9 = (([(⟨99, 99⟩ : Pt)] : List Pt) ++ r3))) (fun f t w ⟨A636, n637, c638, y7, A642, n643, c644, y8, A648, n649, c650, y9, hh654, hc628, hM653, h629, h630, h631, h632, h633, h634, h639, hv640, h645, hv646, h651, hv652, hs655, hs656, hs657, hs658, hs659, hs660, hs661, hs662, hs663⟩ => hM653) ?_ #[true, true, true, true, true, true, true, true, true, true, true, true, false, false, false, false, false, false] ⟨by kernel_rfl, by kernel_rfl⟩ ?_ ⟨none, 0, 0, [], none, 0, 0, [], none, 0, 0, [], ⟨rfl, rfl, rfl, rfl, rfl, rfl, rfl, rfl, rfl, rfl, rfl, trivial⟩, hc619, hM592, h664, h665, h666, h667, h668, h669, h621, hv_nil, h670, hv_nil, h671, hv_nil, (fun _ => ⟨rfl, rfl, rfl, rfl⟩), (fun h => absurd h Bool.false_ne_true), (fun h => absurd h Bool.false_ne_true), (fun _ => ⟨rfl, rfl, rfl, rfl⟩), (fun h => absurd h Bool.false_ne_true), (fun h => absurd h Bool.false_ne_true), (fun _ => ⟨rfl, rfl, rfl, rfl⟩), (fun h => absurd h Bool.false_ne_true), (fun h => absurd h Bool.false_ne_true)⟩
              · intro i hi f t w622 ⟨A636, n637, c638, y7, A642, n643, c644, y8, A648, n649, c650, y9, hh654, hc628, hM653, h629, h630, h631, h632, h633, h634, h639, hv640, h645, hv646, h651, hv652, hs655, hs656, hs657, hs658, hs659, hs660, hs661, hs662, hs663⟩ hf hd hcl
                simp only [List.mem_cons, List.not_mem_nil, or_false] at hi
                rcases hi with rfl | rfl | rfl | rfl | rfl | rfl
                · have hn672 : f 3 = false := Bool.eq_false_iff.2 fun e => absurd (hcl 3 (by decide) e 1 (List.contains_iff_mem.1 (by kernel_rfl)) (by decide)) (by rw [hf]; exact Bool.false_ne_true)
                  obtain ⟨rfl, rfl, rfl, rfl⟩ := hs655 hf
                  obtain ⟨u673, rfl⟩ := Has.ins (l := [(6, .slice A36 n37 c38), (7, vb r5), (11, .pointer (some ⟨b89, 0, none⟩)), (12, .slice A578 n579 c580), (13, vb r9), (87, .agg #[vi 99, vi 99]), (89, .slice A10 n11 c12), (91, .agg #[vi 99, vi 99]), (93, .slice A14 n15 c16), (95, .agg #[vi 99, vi 99]), (97, .slice A19 n20 c21)]) hh654
                  refine ⟨_, rfl, ?_⟩
                  refine L_lit (kd := kPt) ei23 hc628 ([(⟨99, 99⟩ : Pt)] : List Pt) (cells := [vi 99, vi 99]) ⟨[vi 99, vi 99], _, rfl, (kPt.mk _ _ (⟨99, 99⟩ : Pt)), rfl⟩ (fun _ => by kernel_rfl) fun w674 A675 n676 c677 g678 hr679 hc680 h681 => ?_
                  have hM683 := Gm.tm hM653 g678
                  have hc684 := hc680.drop 1 rfl
                  have h686 := ((h629.st (.own _ _ g678 hr679)).st (.dr _ (L := [blk (.slice A675 n676 c677), blk (.slice none 0 0), blk (.slice A642 n643 c644), blk (.slice A648 n649 c650), blk (.slice A578 n579 c580), some b89, blk (.slice A36 n37 c38), blk (.slice A14 n15 c16)]) (O := O) (j := 1) rfl))
                  have h687 := ((h630.st (.own _ _ g678 hr679)).st (.dr _ (L := [blk (.slice A675 n676 c677), blk (.slice none 0 0), blk (.slice A642 n643 c644), blk (.slice A648 n649 c650), blk (.slice A578 n579 c580), some b89, blk (.slice A36 n37 c38), blk (.slice A14 n15 c16)]) (O := O) (j := 1) rfl))
                  have h688 := (Ow.sd (L := [blk (.slice A675 n676 c677), blk (.slice none 0 0), blk (.slice A642 n643 c644), blk (.slice A648 n649 c650), blk (.slice A578 n579 c580), some b89, blk (.slice A36 n37 c38), blk (.slice A14 n15 c16)]) (O := O) (h631.so _ g678 hr679) (i := 6) rfl (j := 1) rfl (by decide))
                  have h689 := (Ow.sd (L := [blk (.slice A675 n676 c677), blk (.slice none 0 0), blk (.slice A642 n643 c644), blk (.slice A648 n649 c650), blk (.slice A578 n579 c580), some b89, blk (.slice A36 n37 c38), blk (.slice A14 n15 c16)]) (O := O) (h632.so _ g678 hr679) (i := 4) rfl (j := 1) rfl (by decide))
                  have h690 := (Ow.sd (L := [blk (.slice A675 n676 c677), blk (.slice none 0 0), blk (.slice A642 n643 c644), blk (.slice A648 n649 c650), blk (.slice A578 n579 c580), some b89, blk (.slice A36 n37 c38), blk (.slice A14 n15 c16)]) (O := O) (h633.so _ g678 hr679) (i := 7) rfl (j := 1) rfl (by decide))
                  have h691 := (h634.k0 g678)
                  have h692 := (Ow.sd (L := [blk (.slice A675 n676 c677), blk (.slice none 0 0), blk (.slice A642 n643 c644), blk (.slice A648 n649 c650), blk (.slice A578 n579 c580), some b89, blk (.slice A36 n37 c38), blk (.slice A14 n15 c16)]) (O := O) h681 (i := 0) rfl (j := 1) rfl (by decide))
                  have h693 := (Ow.sd (L := [blk (.slice A675 n676 c677), blk (.slice none 0 0), blk (.slice A642 n643 c644), blk (.slice A648 n649 c650), blk (.slice A578 n579 c580), some b89, blk (.slice A36 n37 c38), blk (.slice A14 n15 c16)]) (O := O) (h645.so _ g678 hr679) (i := 2) rfl (j := 1) rfl (by decide))
                  have h694 := (Ow.sd (L := [blk (.slice A675 n676 c677), blk (.slice none 0 0), blk (.slice A642 n643 c644), blk (.slice A648 n649 c650), blk (.slice A578 n579 c580), some b89, blk (.slice A36 n37 c38), blk (.slice A14 n15 c16)]) (O := O) (h651.so _ g678 hr679) (i := 3) rfl (j := 1) rfl (by decide))
                  refine L_nil ⟨A675, n676, c677, ([(⟨99, 99⟩ : Pt)] : List Pt), A642, n643, c644, y8, A648, n649, c650, y9, ⟨rfl, rfl, rfl, rfl, rfl, rfl, rfl, rfl, rfl, rfl, rfl, trivial⟩, hc684, hM683, h686, h687, h688, h689, h690, h691, h692, (hv_new hM653 hr679), h693, hv646, h694, hv652, (fun h => Bool.noConfusion (show true = false from h)), (fun _ _ => ⟨rfl, rfl⟩), (fun h => absurd (show f 3 = true from h) (by rw [hn672]; exact Bool.false_ne_true)), hs658, hs659, hs660, hs661, hs662, hs663⟩
                · have he698 : f 1 = true := hd 1 (List.contains_iff_mem.1 (by kernel_rfl)) (by decide)
                  obtain ⟨ht695, hy696⟩ := hs656 (hd 1 (List.contains_iff_mem.1 (by kernel_rfl)) (by decide)) hf
                  rw [hy696] at h639
                  obtain ⟨u697, rfl⟩ := Has.ins (l := ((88, .slice A636 n637 c638) :: [(6, .slice A36 n37 c38), (7, vb r5), (11, .pointer (some ⟨b89, 0, none⟩)), (12, .slice A578 n579 c580), (13, vb r9), (87, .agg #[vi 99, vi 99]), (89, .slice A10 n11 c12), (91, .agg #[vi 99, vi 99]), (93, .slice A14 n15 c16), (95, .agg #[vi 99, vi 99]), (97, .slice A19 n20 c21)])) ⟨ht695, hh654⟩
                  refine ⟨_, rfl, ?_⟩
                  refine L_app ei23 hc628 (.slice A636 n637 c638) ([(⟨99, 99⟩ : Pt)] : List Pt) r rfl h639 (.slice A10 n11 c12) rfl h629.sx 0 rfl hb594 fun w699 A700 n701 c702 g703 s704 hc705 h706 => ?_
                  have hM707 := Gm.tq hM653 g703 hv640
                  have hv708 := hv_app (L := [blk (.slice A636 n637 c638), blk (.slice A642 n643 c644), blk (.slice A648 n649 c650), blk (.slice A578 n579 c580), some b89, blk (.slice A36 n37 c38), blk (.slice A14 n15 c16)]) (O := O) (i := 0) hM653 rfl hv640 s704 hc705
                  have h710 := (Ow.sm (L := [blk (.slice A636 n637 c638), blk (.slice A642 n643 c644), blk (.slice A648 n649 c650), blk (.slice A578 n579 c580), some b89, blk (.slice A36 n37 c38), blk (.slice A14 n15 c16)]) (O := O) h631 hc628 (i := 5) rfl (j := 0) rfl (by decide) g703 s704)
                  have h711 := (Ow.sm (L := [blk (.slice A636 n637 c638), blk (.slice A642 n643 c644), blk (.slice A648 n649 c650), blk (.slice A578 n579 c580), some b89, blk (.slice A36 n37 c38), blk (.slice A14 n15 c16)]) (O := O) h632 hc628 (i := 3) rfl (j := 0) rfl (by decide) g703 s704)
                  have h712 := (Ow.sm (L := [blk (.slice A636 n637 c638), blk (.slice A642 n643 c644), blk (.slice A648 n649 c650), blk (.slice A578 n579 c580), some b89, blk (.slice A36 n37 c38), blk (.slice A14 n15 c16)]) (O := O) h633 hc628 (i := 6) rfl (j := 0) rfl (by decide) g703 s704)
                  have h713 := (Bx.sm (L := [blk (.slice A636 n637 c638), blk (.slice A642 n643 c644), blk (.slice A648 n649 c650), blk (.slice A578 n579 c580), some b89, blk (.slice A36 n37 c38), blk (.slice A14 n15 c16)]) (O := O) h634 hc628 (i := 4) rfl (j := 0) rfl (by decide) g703)
                  have h714 := (Ow.sm (L := [blk (.slice A636 n637 c638), blk (.slice A642 n643 c644), blk (.slice A648 n649 c650), blk (.slice A578 n579 c580), some b89, blk (.slice A36 n37 c38), blk (.slice A14 n15 c16)]) (O := O) h645 hc628 (i := 1) rfl (j := 0) rfl (by decide) g703 s704)
                  have h715 := (Ow.sm (L := [blk (.slice A636 n637 c638), blk (.slice A642 n643 c644), blk (.slice A648 n649 c650), blk (.slice A578 n579 c580), some b89, blk (.slice A36 n37 c38), blk (.slice A14 n15 c16)]) (O := O) h651 hc628 (i := 2) rfl (j := 0) rfl (by decide) g703 s704)
                  refine L_nil ⟨A700, n701, c702, (([(⟨99, 99⟩ : Pt)] : List Pt) ++ r), A642, n643, c644, y8, A648, n649, c650, y9, ⟨rfl, rfl, rfl, rfl, rfl, rfl, rfl, rfl, rfl, rfl, rfl, trivial⟩, hc705, hM707, (h629.st s704), (h630.st s704), h710, h711, h712, h713, h706, hv708, h714, hv646, h715, hv652, (fun h => absurd (show f 1 = false from h) (by rw [he698]; exact fun e => Bool.noConfusion e)), (fun _ h => Bool.noConfusion (show true = false from h)), (fun _ => ⟨rfl, rfl⟩), hs658, hs659, hs660, hs661, hs662, hs663⟩
                · have hn716 : f 7 = false := Bool.eq_false_iff.2 fun e => absurd (hcl 7 (by decide) e 5 (List.contains_iff_mem.1 (by kernel_rfl)) (by decide)) (by rw [hf]; exact Bool.false_ne_true)
                  obtain ⟨rfl, rfl, rfl, rfl⟩ := hs658 hf
                  obtain ⟨u717, rfl⟩ := Has.ins (l := [(6, .slice A36 n37 c38), (7, vb r5), (11, .pointer (some ⟨b89, 0, none⟩)), (12, .slice A578 n579 c580), (13, vb r9), (87, .agg #[vi 99, vi 99]), (89, .slice A10 n11 c12), (91, .agg #[vi 99, vi 99]), (93, .slice A14 n15 c16), (95, .agg #[vi 99, vi 99]), (97, .slice A19 n20 c21)]) hh654
                  refine ⟨_, rfl, ?_⟩
                  refine L_lit (kd := kPt) ei23 hc628 ([(⟨99, 99⟩ : Pt)] : List Pt) (cells := [vi 99, vi 99]) ⟨[vi 99, vi 99], _, rfl, (kPt.mk _ _ (⟨99, 99⟩ : Pt)), rfl⟩ (fun _ => by kernel_rfl) fun w718 A719 n720 c721 g722 hr723 hc724 h725 => ?_
                  have hM727 := Gm.tm hM653 g722
                  have hc728 := hc724.drop 2 rfl
                  have hc730 := hc728.perm (.swap _ _ _)
                  have h732 := (((h629.st (.own _ _ g722 hr723)).st (.dr _ (L := [blk (.slice A719 n720 c721), blk (.slice A636 n637 c638), blk (.slice none 0 0), blk (.slice A648 n649 c650), blk (.slice A578 n579 c580), some b89, blk (.slice A36 n37 c38), blk (.slice A14 n15 c16)]) (O := O) (j := 2) rfl)).st (.perm (L := [blk (.slice A719 n720 c721), blk (.slice A636 n637 c638), blk (.slice A648 n649 c650), blk (.slice A578 n579 c580), some b89, blk (.slice A36 n37 c38), blk (.slice A14 n15 c16)]) (O := O) (.swap _ _ _)))
                  have h733 := (((h630.st (.own _ _ g722 hr723)).st (.dr _ (L := [blk (.slice A719 n720 c721), blk (.slice A636 n637 c638), blk (.slice none 0 0), blk (.slice A648 n649 c650), blk (.slice A578 n579 c580), some b89, blk (.slice A36 n37 c38), blk (.slice A14 n15 c16)]) (O := O) (j := 2) rfl)).st (.perm (L := [blk (.slice A719 n720 c721), blk (.slice A636 n637 c638), blk (.slice A648 n649 c650), blk (.slice A578 n579 c580), some b89, blk (.slice A36 n37 c38), blk (.slice A14 n15 c16)]) (O := O) (.swap _ _ _)))
                  have h734 := (Ow.sp (L := [blk (.slice A719 n720 c721), blk (.slice A636 n637 c638), blk (.slice A648 n649 c650), blk (.slice A578 n579 c580), some b89, blk (.slice A36 n37 c38), blk (.slice A14 n15 c16)]) (O := O) (Ow.sd (L := [blk (.slice A719 n720 c721), blk (.slice A636 n637 c638), blk (.slice none 0 0), blk (.slice A648 n649 c650), blk (.slice A578 n579 c580), some b89, blk (.slice A36 n37 c38), blk (.slice A14 n15 c16)]) (O := O) (h631.so _ g722 hr723) (i := 6) rfl (j := 2) rfl (by decide)) (.swap _ _ _))
                  have h735 := (Ow.sp (L := [blk (.slice A719 n720 c721), blk (.slice A636 n637 c638), blk (.slice A648 n649 c650), blk (.slice A578 n579 c580), some b89, blk (.slice A36 n37 c38), blk (.slice A14 n15 c16)]) (O := O) (Ow.sd (L := [blk (.slice A719 n720 c721), blk (.slice A636 n637 c638), blk (.slice none 0 0), blk (.slice A648 n649 c650), blk (.slice A578 n579 c580), some b89, blk (.slice A36 n37 c38), blk (.slice A14 n15 c16)]) (O := O) (h632.so _ g722 hr723) (i := 4) rfl (j := 2) rfl (by decide)) (.swap _ _ _))
                  have h736 := (Ow.sp (L := [blk (.slice A719 n720 c721), blk (.slice A636 n637 c638), blk (.slice A648 n649 c650), blk (.slice A578 n579 c580), some b89, blk (.slice A36 n37 c38), blk (.slice A14 n15 c16)]) (O := O) (Ow.sd (L := [blk (.slice A719 n720 c721), blk (.slice A636 n637 c638), blk (.slice none 0 0), blk (.slice A648 n649 c650), blk (.slice A578 n579 c580), some b89, blk (.slice A36 n37 c38), blk (.slice A14 n15 c16)]) (O := O) (h633.so _ g722 hr723) (i := 7) rfl (j := 2) rfl (by decide)) (.swap _ _ _))
                  have h737 := (h634.k0 g722)
                  have h738 := (Ow.sp (L := [blk (.slice A719 n720 c721), blk (.slice A636 n637 c638), blk (.slice A648 n649 c650), blk (.slice A578 n579 c580), some b89, blk (.slice A36 n37 c38), blk (.slice A14 n15 c16)]) (O := O) (Ow.sd (L := [blk (.slice A719 n720 c721), blk (.slice A636 n637 c638), blk (.slice none 0 0), blk (.slice A648 n649 c650), blk (.slice A578 n579 c580), some b89, blk (.slice A36 n37 c38), blk (.slice A14 n15 c16)]) (O := O) (h639.so _ g722 hr723) (i := 1) rfl (j := 2) rfl (by decide)) (.swap _ _ _))
                  have h739 := (Ow.sp (L := [blk (.slice A719 n720 c721), blk (.slice A636 n637 c638), blk (.slice A648 n649 c650), blk (.slice A578 n579 c580), some b89, blk (.slice A36 n37 c38), blk (.slice A14 n15 c16)]) (O := O) (Ow.sd (L := [blk (.slice A719 n720 c721), blk (.slice A636 n637 c638), blk (.slice none 0 0), blk (.slice A648 n649 c650), blk (.slice A578 n579 c580), some b89, blk (.slice A36 n37 c38), blk (.slice A14 n15 c16)]) (O := O) h725 (i := 0) rfl (j := 2) rfl (by decide)) (.swap _ _ _))
                  have h740 := (Ow.sp (L := [blk (.slice A719 n720 c721), blk (.slice A636 n637 c638), blk (.slice A648 n649 c650), blk (.slice A578 n579 c580), some b89, blk (.slice A36 n37 c38), blk (.slice A14 n15 c16)]) (O := O) (Ow.sd (L := [blk (.slice A719 n720 c721), blk (.slice A636 n637 c638), blk (.slice none 0 0), blk (.slice A648 n649 c650), blk (.slice A578 n579 c580), some b89, blk (.slice A36 n37 c38), blk (.slice A14 n15 c16)]) (O := O) (h651.so _ g722 hr723) (i := 3) rfl (j := 2) rfl (by decide)) (.swap _ _ _))
                  refine L_nil ⟨A636, n637, c638, y7, A719, n720, c721, ([(⟨99, 99⟩ : Pt)] : List Pt), A648, n649, c650, y9, ⟨rfl, rfl, rfl, rfl, rfl, rfl, rfl, rfl, rfl, rfl, rfl, trivial⟩, hc730, hM727, h732, h733, h734, h735, h736, h737, h738, hv640, h739, (hv_new hM653 hr723), h740, hv652, hs655, hs656, hs657, (fun h => Bool.noConfusion (show true = false from h)), (fun _ _ => ⟨rfl, rfl⟩), (fun h => absurd (show f 7 = true from h) (by rw [hn716]; exact Bool.false_ne_true)), hs661, hs662, hs663⟩
                · have he744 : f 5 = true := hd 5 (List.contains_iff_mem.1 (by kernel_rfl)) (by decide)
                  obtain ⟨ht741, hy742⟩ := hs659 (hd 5 (List.contains_iff_mem.1 (by kernel_rfl)) (by decide)) hf
                  rw [hy742] at h645
                  obtain ⟨u743, rfl⟩ := Has.ins (l := ((92, .slice A642 n643 c644) :: [(6, .slice A36 n37 c38), (7, vb r5), (11, .pointer (some ⟨b89, 0, none⟩)), (12, .slice A578 n579 c580), (13, vb r9), (87, .agg #[vi 99, vi 99]), (89, .slice A10 n11 c12), (91, .agg #[vi 99, vi 99]), (93, .slice A14 n15 c16), (95, .agg #[vi 99, vi 99]), (97, .slice A19 n20 c21)])) ⟨ht741, hh654⟩
                  refine ⟨_, rfl, ?_⟩
                  refine L_app ei23 hc628 (.slice A642 n643 c644) ([(⟨99, 99⟩ : Pt)] : List Pt) r2 rfl h645 (.slice A14 n15 c16) rfl h633.sx 1 rfl hb595 fun w745 A746 n747 c748 g749 s750 hc751 h752 => ?_
                  have hM753 := Gm.tq hM653 g749 hv646
                  have hv754 := hv_app (L := [blk (.slice A636 n637 c638), blk (.slice A642 n643 c644), blk (.slice A648 n649 c650), blk (.slice A578 n579 c580), some b89, blk (.slice A36 n37 c38), blk (.slice A14 n15 c16)]) (O := O) (i := 1) hM653 rfl hv646 s750 hc751
                  have h756 := (Ow.sm (L := [blk (.slice A636 n637 c638), blk (.slice A642 n643 c644), blk (.slice A648 n649 c650), blk (.slice A578 n579 c580), some b89, blk (.slice A36 n37 c38), blk (.slice A14 n15 c16)]) (O := O) h631 hc628 (i := 5) rfl (j := 1) rfl (by decide) g749 s750)
                  have h757 := (Ow.sm (L := [blk (.slice A636 n637 c638), blk (.slice A642 n643 c644), blk (.slice A648 n649 c650), blk (.slice A578 n579 c580), some b89, blk (.slice A36 n37 c38), blk (.slice A14 n15 c16)]) (O := O) h632 hc628 (i := 3) rfl (j := 1) rfl (by decide) g749 s750)
                  have h758 := (Ow.sm (L := [blk (.slice A636 n637 c638), blk (.slice A642 n643 c644), blk (.slice A648 n649 c650), blk (.slice A578 n579 c580), some b89, blk (.slice A36 n37 c38), blk (.slice A14 n15 c16)]) (O := O) h633 hc628 (i := 6) rfl (j := 1) rfl (by decide) g749 s750)
                  have h759 := (Bx.sm (L := [blk (.slice A636 n637 c638), blk (.slice A642 n643 c644), blk (.slice A648 n649 c650), blk (.slice A578 n579 c580), some b89, blk (.slice A36 n37 c38), blk (.slice A14 n15 c16)]) (O := O) h634 hc628 (i := 4) rfl (j := 1) rfl (by decide) g749)
                  have h760 := (Ow.sm (L := [blk (.slice A636 n637 c638), blk (.slice A642 n643 c644), blk (.slice A648 n649 c650), blk (.slice A578 n579 c580), some b89, blk (.slice A36 n37 c38), blk (.slice A14 n15 c16)]) (O := O) h639 hc628 (i := 0) rfl (j := 1) rfl (by decide) g749 s750)
                  have h761 := (Ow.sm (L := [blk (.slice A636 n637 c638), blk (.slice A642 n643 c644), blk (.slice A648 n649 c650), blk (.slice A578 n579 c580), some b89, blk (.slice A36 n37 c38), blk (.slice A14 n15 c16)]) (O := O) h651 hc628 (i := 2) rfl (j := 1) rfl (by decide) g749 s750)
                  refine L_nil ⟨A636, n637, c638, y7, A746, n747, c748, (([(⟨99, 99⟩ : Pt)] : List Pt) ++ r2), A648, n649, c650, y9, ⟨rfl, rfl, rfl, rfl, rfl, rfl, rfl, rfl, rfl, rfl, rfl, trivial⟩, hc751, hM753, (h629.st s750), (h630.st s750), h756, h757, h758, h759, h760, hv640, h752, hv754, h761, hv652, hs655, hs656, hs657, (fun h => absurd (show f 5 = false from h) (by rw [he744]; exact fun e => Bool.noConfusion e)), (fun _ h => Bool.noConfusion (show true = false from h)), (fun _ => ⟨rfl, rfl⟩), hs661, hs662, hs663⟩
                · have hn762 : f 11 = false := Bool.eq_false_iff.2 fun e => absurd (hcl 11 (by decide) e 9 (List.contains_iff_mem.1 (by kernel_rfl)) (by decide)) (by rw [hf]; exact Bool.false_ne_true)
                  obtain ⟨rfl, rfl, rfl, rfl⟩ := hs661 hf
                  obtain ⟨u763, rfl⟩ := Has.ins (l := [(6, .slice A36 n37 c38), (7, vb r5), (11, .pointer (some ⟨b89, 0, none⟩)), (12, .slice A578 n579 c580), (13, vb r9), (87, .agg #[vi 99, vi 99]), (89, .slice A10 n11 c12), (91, .agg #[vi 99, vi 99]), (93, .slice A14 n15 c16), (95, .agg #[vi 99, vi 99]), (97, .slice A19 n20 c21)]) hh654
                  refine ⟨_, rfl, ?_⟩
                  refine L_lit (kd := kPt) ei23 hc628 ([(⟨99, 99⟩ : Pt)] : List Pt) (cells := [vi 99, vi 99]) ⟨[vi 99, vi 99], _, rfl, (kPt.mk _ _ (⟨99, 99⟩ : Pt)), rfl⟩ (fun _ => by kernel_rfl) fun w764 A765 n766 c767 g768 hr769 hc770 h771 => ?_
                  have hM773 := Gm.tm hM653 g768
                  have hc774 := hc770.drop 3 rfl
                  have hc776 := hc774.perm (.swap _ _ _)
                  have hc778 := hc776.perm (.cons _ (.swap _ _ _))
                  have h780 := ((((h629.st (.own _ _ g768 hr769)).st (.dr _ (L := [blk (.slice A765 n766 c767), blk (.slice A636 n637 c638), blk (.slice A642 n643 c644), blk (.slice none 0 0), blk (.slice A578 n579 c580), some b89, blk (.slice A36 n37 c38), blk (.slice A14 n15 c16)]) (O := O) (j := 3) rfl)).st (.perm (L := [blk (.slice A765 n766 c767), blk (.slice A636 n637 c638), blk (.slice A642 n643 c644), blk (.slice A578 n579 c580), some b89, blk (.slice A36 n37 c38), blk (.slice A14 n15 c16)]) (O := O) (.swap _ _ _))).st (.perm (L := [blk (.slice A636 n637 c638), blk (.slice A765 n766 c767), blk (.slice A642 n643 c644), blk (.slice A578 n579 c580), some b89, blk (.slice A36 n37 c38), blk (.slice A14 n15 c16)]) (O := O) (.cons _ (.swap _ _ _))))
                  have h781 := ((((h630.st (.own _ _ g768 hr769)).st (.dr _ (L := [blk (.slice A765 n766 c767), blk (.slice A636 n637 c638), blk (.slice A642 n643 c644), blk (.slice none 0 0), blk (.slice A578 n579 c580), some b89, blk (.slice A36 n37 c38), blk (.slice A14 n15 c16)]) (O := O) (j := 3) rfl)).st (.perm (L := [blk (.slice A765 n766 c767), blk (.slice A636 n637 c638), blk (.slice A642 n643 c644), blk (.slice A578 n579 c580), some b89, blk (.slice A36 n37 c38), blk (.slice A14 n15 c16)]) (O := O) (.swap _ _ _))).st (.perm (L := [blk (.slice A636 n637 c638), blk (.slice A765 n766 c767), blk (.slice A642 n643 c644), blk (.slice A578 n579 c580), some b89, blk (.slice A36 n37 c38), blk (.slice A14 n15 c16)]) (O := O) (.cons _ (.swap _ _ _))))
                  have h782 := (Ow.sp (L := [blk (.slice A636 n637 c638), blk (.slice A765 n766 c767), blk (.slice A642 n643 c644), blk (.slice A578 n579 c580), some b89, blk (.slice A36 n37 c38), blk (.slice A14 n15 c16)]) (O := O) (Ow.sp (L := [blk (.slice A765 n766 c767), blk (.slice A636 n637 c638), blk (.slice A642 n643 c644), blk (.slice A578 n579 c580), some b89, blk (.slice A36 n37 c38), blk (.slice A14 n15 c16)]) (O := O) (Ow.sd (L := [blk (.slice A765 n766 c767), blk (.slice A636 n637 c638), blk (.slice A642 n643 c644), blk (.slice none 0 0), blk (.slice A578 n579 c580), some b89, blk (.slice A36 n37 c38), blk (.slice A14 n15 c16)]) (O := O) (h631.so _ g768 hr769) (i := 6) rfl (j := 3) rfl (by decide)) (.swap _ _ _)) (.cons _ (.swap _ _ _)))
                  have h783 := (Ow.sp (L := [blk (.slice A636 n637 c638), blk (.slice A765 n766 c767), blk (.slice A642 n643 c644), blk (.slice A578 n579 c580), some b89, blk (.slice A36 n37 c38), blk (.slice A14 n15 c16)]) (O := O) (Ow.sp (L := [blk (.slice A765 n766 c767), blk (.slice A636 n637 c638), blk (.slice A642 n643 c644), blk (.slice A578 n579 c580), some b89, blk (.slice A36 n37 c38), blk (.slice A14 n15 c16)]) (O := O) (Ow.sd (L := [blk (.slice A765 n766 c767), blk (.slice A636 n637 c638), blk (.slice A642 n643 c644), blk (.slice none 0 0), blk (.slice A578 n579 c580), some b89, blk (.slice A36 n37 c38), blk (.slice A14 n15 c16)]) (O := O) (h632.so _ g768 hr769) (i := 4) rfl (j := 3) rfl (by decide)) (.swap _ _ _)) (.cons _ (.swap _ _ _)))
                  have h784 := (Ow.sp (L := [blk (.slice A636 n637 c638), blk (.slice A765 n766 c767), blk (.slice A642 n643 c644), blk (.slice A578 n579 c580), some b89, blk (.slice A36 n37 c38), blk (.slice A14 n15 c16)]) (O := O) (Ow.sp (L := [blk (.slice A765 n766 c767), blk (.slice A636 n637 c638), blk (.slice A642 n643 c644), blk (.slice A578 n579 c580), some b89, blk (.slice A36 n37 c38), blk (.slice A14 n15 c16)]) (O := O) (Ow.sd (L := [blk (.slice A765 n766 c767), blk (.slice A636 n637 c638), blk (.slice A642 n643 c644), blk (.slice none 0 0), blk (.slice A578 n579 c580), some b89, blk (.slice A36 n37 c38), blk (.slice A14 n15 c16)]) (O := O) (h633.so _ g768 hr769) (i := 7) rfl (j := 3) rfl (by decide)) (.swap _ _ _)) (.cons _ (.swap _ _ _)))
                  have h785 := (h634.k0 g768)
                  have h786 := (Ow.sp (L := [blk (.slice A636 n637 c638), blk (.slice A765 n766 c767), blk (.slice A642 n643 c644), blk (.slice A578 n579 c580), some b89, blk (.slice A36 n37 c38), blk (.slice A14 n15 c16)]) (O := O) (Ow.sp (L := [blk (.slice A765 n766 c767), blk (.slice A636 n637 c638), blk (.slice A642 n643 c644), blk (.slice A578 n579 c580), some b89, blk (.slice A36 n37 c38), blk (.slice A14 n15 c16)]) (O := O) (Ow.sd (L := [blk (.slice A765 n766 c767), blk (.slice A636 n637 c638), blk (.slice A642 n643 c644), blk (.slice none 0 0), blk (.slice A578 n579 c580), some b89, blk (.slice A36 n37 c38), blk (.slice A14 n15 c16)]) (O := O) (h639.so _ g768 hr769) (i := 1) rfl (j := 3) rfl (by decide)) (.swap _ _ _)) (.cons _ (.swap _ _ _)))
                  have h787 := (Ow.sp (L := [blk (.slice A636 n637 c638), blk (.slice A765 n766 c767), blk (.slice A642 n643 c644), blk (.slice A578 n579 c580), some b89, blk (.slice A36 n37 c38), blk (.slice A14 n15 c16)]) (O := O) (Ow.sp (L := [blk (.slice A765 n766 c767), blk (.slice A636 n637 c638), blk (.slice A642 n643 c644), blk (.slice A578 n579 c580), some b89, blk (.slice A36 n37 c38), blk (.slice A14 n15 c16)]) (O := O) (Ow.sd (L := [blk (.slice A765 n766 c767), blk (.slice A636 n637 c638), blk (.slice A642 n643 c644), blk (.slice none 0 0), blk (.slice A578 n579 c580), some b89, blk (.slice A36 n37 c38), blk (.slice A14 n15 c16)]) (O := O) (h645.so _ g768 hr769) (i := 2) rfl (j := 3) rfl (by decide)) (.swap _ _ _)) (.cons _ (.swap _ _ _)))
                  have h788 := (Ow.sp (L := [blk (.slice A636 n637 c638), blk (.slice A765 n766 c767), blk (.slice A642 n643 c644), blk (.slice A578 n579 c580), some b89, blk (.slice A36 n37 c38), blk (.slice A14 n15 c16)]) (O := O) (Ow.sp (L := [blk (.slice A765 n766 c767), blk (.slice A636 n637 c638), blk (.slice A642 n643 c644), blk (.slice A578 n579 c580), some b89, blk (.slice A36 n37 c38), blk (.slice A14 n15 c16)]) (O := O) (Ow.sd (L := [blk (.slice A765 n766 c767), blk (.slice A636 n637 c638), blk (.slice A642 n643 c644), blk (.slice none 0 0), blk (.slice A578 n579 c580), some b89, blk (.slice A36 n37 c38), blk (.slice A14 n15 c16)]) (O := O) h771 (i := 0) rfl (j := 3) rfl (by decide)) (.swap _ _ _)) (.cons _ (.swap _ _ _)))
                  refine L_nil ⟨A636, n637, c638, y7, A642, n643, c644, y8, A765, n766, c767, ([(⟨99, 99⟩ : Pt)] : List Pt), ⟨rfl, rfl, rfl, rfl, rfl, rfl, rfl, rfl, rfl, rfl, rfl, trivial⟩, hc778, hM773, h780, h781, h782, h783, h784, h785, h786, hv640, h787, hv646, h788, (hv_new hM653 hr769), hs655, hs656, hs657, hs658, hs659, hs660, (fun h => Bool.noConfusion (show true = false from h)), (fun _ _ => ⟨rfl, rfl⟩), (fun h => absurd (show f 11 = true from h) (by rw [hn762]; exact Bool.false_ne_true))⟩
                · have he792 : f 9 = true := hd 9 (List.contains_iff_mem.1 (by kernel_rfl)) (by decide)
                  obtain ⟨ht789, hy790⟩ := hs662 (hd 9 (List.contains_iff_mem.1 (by kernel_rfl)) (by decide)) hf
                  rw [hy790] at h651
                  obtain ⟨u791, rfl⟩ := Has.ins (l := ((96, .slice A648 n649 c650) :: [(6, .slice A36 n37 c38), (7, vb r5), (11, .pointer (some ⟨b89, 0, none⟩)), (12, .slice A578 n579 c580), (13, vb r9), (87, .agg #[vi 99, vi 99]), (89, .slice A10 n11 c12), (91, .agg #[vi 99, vi 99]), (93, .slice A14 n15 c16), (95, .agg #[vi 99, vi 99]), (97, .slice A19 n20 c21)])) ⟨ht789, hh654⟩
                  refine ⟨_, rfl, ?_⟩
                  refine L_app ei23 hc628 (.slice A648 n649 c650) ([(⟨99, 99⟩ : Pt)] : List Pt) r3 rfl h651 (.slice A19 n20 c21) rfl h630.sx 2 rfl hb596 fun w793 A794 n795 c796 g797 s798 hc799 h800 => ?_
                  have hM801 := Gm.tq hM653 g797 hv652
                  have hv802 := hv_app (L := [blk (.slice A636 n637 c638), blk (.slice A642 n643 c644), blk (.slice A648 n649 c650), blk (.slice A578 n579 c580), some b89, blk (.slice A36 n37 c38), blk (.slice A14 n15 c16)]) (O := O) (i := 2) hM653 rfl hv652 s798 hc799
                  have h804 := (Ow.sm (L := [blk (.slice A636 n637 c638), blk (.slice A642 n643 c644), blk (.slice A648 n649 c650), blk (.slice A578 n579 c580), some b89, blk (.slice A36 n37 c38), blk (.slice A14 n15 c16)]) (O := O) h631 hc628 (i := 5) rfl (j := 2) rfl (by decide) g797 s798)
                  have h805 := (Ow.sm (L := [blk (.slice A636 n637 c638), blk (.slice A642 n643 c644), blk (.slice A648 n649 c650), blk (.slice A578 n579 c580), some b89, blk (.slice A36 n37 c38), blk (.slice A14 n15 c16)]) (O := O) h632 hc628 (i := 3) rfl (j := 2) rfl (by decide) g797 s798)
                  have h806 := (Ow.sm (L := [blk (.slice A636 n637 c638), blk (.slice A642 n643 c644), blk (.slice A648 n649 c650), blk (.slice A578 n579 c580), some b89, blk (.slice A36 n37 c38), blk (.slice A14 n15 c16)]) (O := O) h633 hc628 (i := 6) rfl (j := 2) rfl (by decide) g797 s798)
                  have h807 := (Bx.sm (L := [blk (.slice A636 n637 c638), blk (.slice A642 n643 c644), blk (.slice A648 n649 c650), blk (.slice A578 n579 c580), some b89, blk (.slice A36 n37 c38), blk (.slice A14 n15 c16)]) (O := O) h634 hc628 (i := 4) rfl (j := 2) rfl (by decide) g797)
                  have h808 := (Ow.sm (L := [blk (.slice A636 n637 c638), blk (.slice A642 n643 c644), blk (.slice A648 n649 c650), blk (.slice A578 n579 c580), some b89, blk (.slice A36 n37 c38), blk (.slice A14 n15 c16)]) (O := O) h639 hc628 (i := 0) rfl (j := 2) rfl (by decide) g797 s798)
                  have h809 := (Ow.sm (L := [blk (.slice A636 n637 c638), blk (.slice A642 n643 c644), blk (.slice A648 n649 c650), blk (.slice A578 n579 c580), some b89, blk (.slice A36 n37 c38), blk (.slice A14 n15 c16)]) (O := O) h645 hc628 (i := 1) rfl (j := 2) rfl (by decide) g797 s798)
                  refine L_nil ⟨A636, n637, c638, y7, A642, n643, c644, y8, A794, n795, c796, (([(⟨99, 99⟩ : Pt)] : List Pt) ++ r3), ⟨rfl, rfl, rfl, rfl, rfl, rfl, rfl, rfl, rfl, rfl, rfl, trivial⟩, hc799, hM801, (h629.st s798), (h630.st s798), h804, h805, h806, h807, h808, hv640, h809, hv646, h800, hv802, hs655, hs656, hs657, hs658, hs659, hs660, (fun h => absurd (show f 9 = false from h) (by rw [he792]; exact fun e => Bool.noConfusion e)), (fun _ h => Bool.noConfusion (show true = false from h)), (fun _ => ⟨rfl, rfl⟩)⟩
              · intro f t w622 hall ⟨A636, n637, c638, y7, A642, n643, c644, y8, A648, n649, c650, y9, hh654, hc628, hM653, h629, h630, h631, h632, h633, h634, h639, hv640, h645, hv646, h651, hv652, hs655, hs656, hs657, hs658, hs659, hs660, hs661, hs662, hs663⟩
                obtain ⟨ht810, hy811⟩ := hs657 (hall 3 (by decide))
                rw [hy811] at h639
                obtain ⟨ht812, hy813⟩ := hs660 (hall 7 (by decide))
                rw [hy813] at h645
                obtain ⟨ht814, hy815⟩ := hs663 (hall 11 (by decide))
                rw [hy815] at h651
                obtain ⟨u816, rfl⟩ := Has.ins (l := ((98, .slice A648 n649 c650) :: ((94, .slice A642 n643 c644) :: ((90, .slice A636 n637 c638) :: [(6, .slice A36 n37 c38), (7, vb r5), (11, .pointer (some ⟨b89, 0, none⟩)), (12, .slice A578 n579 c580), (13, vb r9), (87, .agg #[vi 99, vi 99]), (89, .slice A10 n11 c12), (91, .agg #[vi 99, vi 99]), (93, .slice A14 n15 c16), (95, .agg #[vi 99, vi 99]), (97, .slice A19 n20 c21)])))) ⟨ht814, ⟨ht812, ⟨ht810, hh654⟩⟩⟩
                refine M_any1 12 (by kernel_rfl) rfl ?_
                have h817 := Ow.gv (L := [blk (.slice A636 n637 c638), blk (.slice A642 n643 c644), blk (.slice A648 n649 c650), blk (.slice A578 n579 c580), some b89, blk (.slice A36 n37 c38), blk (.slice A14 n15 c16)]) (O := O) h639 hc628 (i := 0) rfl
                have hc818 := hc628.drop 0 rfl
                have h821 := (Ow.sd (L := [blk (.slice A636 n637 c638), blk (.slice A642 n643 c644), blk (.slice A648 n649 c650), blk (.slice A578 n579 c580), some b89, blk (.slice A36 n37 c38), blk (.slice A14 n15 c16)]) (O := O) h645 (i := 1) rfl (j := 0) rfl (by decide))
                have h822 := Ow.gv (L := [blk (.slice A642 n643 c644), blk (.slice A648 n649 c650), blk (.slice A578 n579 c580), some b89, blk (.slice A36 n37 c38), blk (.slice A14 n15 c16)]) (O := O) h821 hc818 (i := 0) rfl
                have hc823 := hc818.drop 0 rfl
                have h826 := (Ow.sd (L := [blk (.slice A642 n643 c644), blk (.slice A648 n649 c650), blk (.slice A578 n579 c580), some b89, blk (.slice A36 n37 c38), blk (.slice A14 n15 c16)]) (O := O) (Ow.sd (L := [blk (.slice A636 n637 c638), blk (.slice A642 n643 c644), blk (.slice A648 n649 c650), blk (.slice A578 n579 c580), some b89, blk (.slice A36 n37 c38), blk (.slice A14 n15 c16)]) (O := O) h651 (i := 2) rfl (j := 0) rfl (by decide)) (i := 1) rfl (j := 0) rfl (by decide))
                have h827 := Ow.gv (L := [blk (.slice A648 n649 c650), blk (.slice A578 n579 c580), some b89, blk (.slice A36 n37 c38), blk (.slice A14 n15 c16)]) (O := O) h826 hc823 (i := 0) rfl
                have hc828 := hc823.drop 0 rfl
                have h831 := ((h817.st (.dr _ (L := [blk (.slice A642 n643 c644), blk (.slice A648 n649 c650), blk (.slice A578 n579 c580), some b89, blk (.slice A36 n37 c38), blk (.slice A14 n15 c16)]) (O := O) (j := 0) rfl)).st (.dr _ (L := [blk (.slice A648 n649 c650), blk (.slice A578 n579 c580), some b89, blk (.slice A36 n37 c38), blk (.slice A14 n15 c16)]) (O := O) (j := 0) rfl))
                have h832 := (h822.st (.dr _ (L := [blk (.slice A648 n649 c650), blk (.slice A578 n579 c580), some b89, blk (.slice A36 n37 c38), blk (.slice A14 n15 c16)]) (O := O) (j := 0) rfl))
                refine L_call go10 [.slice A636 n637 c638, .slice A642 n643 c644, .slice A648 n649 c650] rfl ((impl_SeqMerge.calls w622 hc828.ok (([(⟨99, 99⟩ : Pt)] : List Pt) ++ r) A636 n637 c638 h831 (([(⟨99, 99⟩ : Pt)] : List Pt) ++ r2) A642 n643 c644 h832 (([(⟨99, 99⟩ : Pt)] : List Pt) ++ r3) A648 n649 c650 h827 _ H).mono ?_)
                rintro _ w833 ⟨r10, r11, A835, n836, c837, rfl, H, g834, hk841, hk842, h838⟩
                have hk844 := Ok.unl (L := [blk (.slice A636 n637 c638), blk (.slice A642 n643 c644), blk (.slice A648 n649 c650), blk (.slice A578 n579 c580), some b89, blk (.slice A36 n37 c38), blk (.slice A14 n15 c16)]) (L' := [blk (.slice A578 n579 c580), some b89, blk (.slice A36 n37 c38), blk (.slice A14 n15 c16)]) (O := O) hc628 g834 hk841 hk842
                have h845 := Ow.unl (L := [blk (.slice A636 n637 c638), blk (.slice A642 n643 c644), blk (.slice A648 n649 c650), blk (.slice A578 n579 c580), some b89, blk (.slice A36 n37 c38), blk (.slice A14 n15 c16)]) (L' := [blk (.slice A578 n579 c580), some b89, blk (.slice A36 n37 c38), blk (.slice A14 n15 c16)]) (O := O) (fun _ _ _ _ _ _ h => h) (.cons _ (.cons _ (.cons _ (.cons_cons _ (.cons_cons _ (.cons_cons _ (.cons_cons _ (.slnil)))))))) h838
                have hc843 := hc628.owns g834 hk844 hk842
                have hM846 := Gm.tm hM653 g834
                refine L_nil ⟨hM846, ?_⟩
                refine M_pu 13 rfl (by kernel_rfl) hM846 (P_move (.tuple #[.slice A835 n836 c837, vb r11]) rfl) ?_
                refine M_pu 14 rfl (by kernel_rfl) hM846 (P_ext [.slice A835 n836 c837, vb r11] 0 (.slice A835 n836 c837) rfl rfl) ?_
                refine M_pu 15 rfl (by kernel_rfl) hM846 (P_ext [.slice A835 n836 c837, vb r11] 1 (vb r11) rfl rfl) ?_
                refine M_pu 16 rfl (by kernel_rfl) hM846 (P_assign (.slice A835 n836 c837) rfl) ?_
                refine M_pu 17 rfl (by kernel_rfl) hM846 (P_assign (vb r11) rfl) ?_
                refine M_nil (by kernel_rfl) ?_
                refine W_seq ?_
                refine W_seq ?_
                refine W_reg ?_
                refine L_pu (P_move (vb r9) rfl) ?_
                refine L_pu (P_move (vb r5) rfl) ?_
                refine L_pu (P_bcmp Try.underlying4 r9 r5 (r9 != r5) rfl rfl rfl) ?_
                refine L_pu (P_move (vb (r9 != r5)) rfl) ?_
                rcases bool_or (r9 != r5) with hq847 | hq847
                · have H := ite_t H hq847
                  refine L_pass (dj := 105) rfl rfl (.inl (by exact congrArg Value.bool hq847)) ?_
                  refine L_pass (dj := 105) rfl rfl (.inl (by exact congrArg Value.bool hq847)) ?_
                  refine L_pass (dj := 105) rfl rfl (.inl (by exact congrArg Value.bool hq847)) ?_
                  refine L_pu (P_pick true (vb true) (by exact congrArg Value.bool hq847) rfl) ?_
                  refine L_nil ?_
                  refine W_ct (b := true) rfl rfl ?_
                  refine W_seq ?_
                  refine W_reg ?_
                  refine L_pu (P_assign (vb false) rfl) ?_
                  refine L_nil ?_
                  refine W_ret ?_
                  have hc848 := hc843.drop 0 rfl
                  have hc849 := hc848.drop 0 rfl
                  have hc850 := hc849.drop 0 rfl
                  have hc851 := hc850.drop 0 rfl
                  have hc852 := hc851.drop 0 rfl
                  have hc853 := hc852.drop 0 rfl
                  have hc854 := hc853.drop 0 rfl
                  have hc855 := hc854.drop 0 rfl
                  exact ⟨[vb false], ⟨_, rfl, rfl⟩, false, rfl, H, hc855.gr.g0⟩
                · have H := ite_f H hq847
                  refine L_run (dj := 105) rfl rfl (by exact congrArg Value.bool hq847) ?_
                  refine L_pu (P_move (vb r11) rfl) ?_
                  refine L_run (dj := 105) rfl rfl (by exact congrArg Value.bool hq847) ?_
                  refine L_pu (P_move (vb r5) rfl) ?_
                  refine L_run (dj := 105) rfl rfl (by exact congrArg Value.bool hq847) ?_
                  refine L_pu (P_bcmp Try.underlying4 r11 r5 (r11 != r5) rfl rfl rfl) ?_
                  refine L_pu (P_pick false (vb (r11 != r5)) (by exact congrArg Value.bool hq847) rfl) ?_
                  refine L_nil ?_
                  refine W_cond (r11 != r5) rfl (fun hq856 => ?_) (fun hq856 => ?_)
                  · have H := ite_t H hq856
                    refine W_seq ?_
                    refine W_reg ?_
                    refine L_pu (P_assign (vb false) rfl) ?_
                    refine L_nil ?_
                    refine W_ret ?_
                    have hc857 := hc843.drop 0 rfl
                    have hc858 := hc857.drop 0 rfl
                    have hc859 := hc858.drop 0 rfl
                    have hc860 := hc859.drop 0 rfl
                    have hc861 := hc860.drop 0 rfl
                    have hc862 := hc861.drop 0 rfl
                    have hc863 := hc862.drop 0 rfl
                    have hc864 := hc863.drop 0 rfl
                    exact ⟨[vb false], ⟨_, rfl, rfl⟩, false, rfl, H, hc864.gr.g0⟩
                  · have H := ite_f H hq856
                    refine W_skip ?_
                    refine W_seq ?_
                    refine W_mixr 21 [] (by kernel_rfl) rfl fun w865 g866 hM867 => ?_
                    have hc868 := hc843.k0 g866
                    obtain ⟨hb869, H⟩ := H
                    obtain ⟨hb870, H⟩ := H
                    obtain ⟨hb871, H⟩ := H
                    refine M_pu 0 rfl (by kernel_rfl) hM867 (P_move (vb r5) rfl) ?_
                    refine M_pu 1 rfl (by kernel_rfl) hM867 (P_not r5 rfl) ?_
                    refine M_pu 2 rfl (by kernel_rfl) hM867 (P_move (vb (!r5)) rfl) ?_
                    rcases bool_or (!r5) with hq872 | hq872
                    · have H := ite_t H hq872
                      refine M_pass 3 (dj := 112) rfl (by kernel_rfl) hM867 rfl rfl (.inl (by exact congrArg Value.bool hq872)) ?_
                      refine M_pass 5 (dj := 112) rfl (by kernel_rfl) hM867 rfl rfl (.inl (by exact congrArg Value.bool hq872)) ?_
                      refine M_pass 7 (dj := 112) rfl (by kernel_rfl) hM867 rfl rfl (.inl (by exact congrArg Value.bool hq872)) ?_
                      refine M_any2 4 8 (by kernel_rfl) rfl rfl ?_ ?_
                      · refine L_pass (dj := 112) rfl rfl (.inl (by exact congrArg Value.bool hq872)) ?_
                        refine L_nil ⟨hM867, ?_⟩
                        refine M_any2 6 8 (by kernel_rfl) rfl rfl ?_ ?_
                        · refine L_pass (dj := 112) rfl rfl (.inl (by exact congrArg Value.bool hq872)) ?_
                          refine L_nil ⟨hM867, ?_⟩
                          refine M_any1 8 (by kernel_rfl) rfl ?_
                          refine L_pass (dj := 112) rfl rfl (.inl (by exact congrArg Value.bool hq872)) ?_
                          refine L_nil ⟨hM867, ?_⟩
                          refine M_any1 9 (by kernel_rfl) rfl ?_
                          refine L_pass (dj := 112) rfl rfl (.inl (by exact congrArg Value.bool hq872)) ?_
                          refine L_nil ⟨hM867, ?_⟩
                          refine M_any1 10 (by kernel_rfl) rfl ?_
                          refine L_pass (dj := 112) rfl rfl (.inl (by exact congrArg Value.bool hq872)) ?_
                          refine L_nil ⟨hM867, ?_⟩
                          refine M_pass 11 (dj := 112) rfl (by kernel_rfl) hM867 rfl rfl (.inl (by exact congrArg Value.bool hq872)) ?_
                          refine M_pass 12 (dj := 121) rfl (by kernel_rfl) hM867 rfl rfl (.inr rfl) ?_
                          refine M_pass 15 (dj := 121) rfl (by kernel_rfl) hM867 rfl rfl (.inr rfl) ?_
                          refine M_any1 13 (by kernel_rfl) rfl ?_
                          refine L_pass (dj := 121) rfl rfl (.inr rfl) ?_
                          refine L_nil ⟨hM867, ?_⟩
                          refine M_any1 14 (by kernel_rfl) rfl ?_
                          refine L_pass (dj := 121) rfl rfl (.inr rfl) ?_
                          refine L_nil ⟨hM867, ?_⟩
                          refine M_any1 16 (by kernel_rfl) rfl ?_
                          refine L_pass (dj := 121) rfl rfl (.inr rfl) ?_
                          refine L_nil ⟨hM867, ?_⟩
                          refine M_any1 17 (by kernel_rfl) rfl ?_
                          refine L_pass (dj := 121) rfl rfl (.inr rfl) ?_
                          refine L_nil ⟨hM867, ?_⟩
                          refine M_pass 18 (dj := 112) rfl (by kernel_rfl) hM867 rfl rfl (.inl (by exact congrArg Value.bool hq872)) ?_
                          refine M_pu 19 rfl (by kernel_rfl) hM867 (P_pick true (vb true) (by exact congrArg Value.bool hq872) rfl) ?_
                          refine M_pu 20 rfl (by kernel_rfl) hM867 (P_assign (vb true) rfl) ?_
                          refine M_nil (by kernel_rfl) ?_
                          refine W_ret ?_
                          have hc873 := hc868.drop 0 rfl
                          have hc874 := hc873.drop 0 rfl
                          have hc875 := hc874.drop 0 rfl
                          have hc876 := hc875.drop 0 rfl
                          have hc877 := hc876.drop 0 rfl
                          have hc878 := hc877.drop 0 rfl
                          have hc879 := hc878.drop 0 rfl
                          have hc880 := hc879.drop 0 rfl
                          exact ⟨[vb true], ⟨_, rfl, rfl⟩, true, rfl, H, hc880.gr.g0⟩
                        · refine L_pass (dj := 112) rfl rfl (.inl (by exact congrArg Value.bool hq872)) ?_
                          refine L_nil ⟨hM867, ?_⟩
                          refine M_any1 6 (by kernel_rfl) rfl ?_
                          refine L_pass (dj := 112) rfl rfl (.inl (by exact congrArg Value.bool hq872)) ?_
                          refine L_nil ⟨hM867, ?_⟩
                          refine M_any1 9 (by kernel_rfl) rfl ?_
                          refine L_pass (dj := 112) rfl rfl (.inl (by exact congrArg Value.bool hq872)) ?_
                          refine L_nil ⟨hM867, ?_⟩
                          refine M_any1 10 (by kernel_rfl) rfl ?_
                          refine L_pass (dj := 112) rfl rfl (.inl (by exact congrArg Value.bool hq872)) ?_
                          refine L_nil ⟨hM867, ?_⟩
                          refine M_pass 11 (dj := 112) rfl (by kernel_rfl) hM867 rfl rfl (.inl (by exact congrArg Value.bool hq872)) ?_
                          refine M_pass 12 (dj := 121) rfl (by kernel_rfl) hM867 rfl rfl (.inr rfl) ?_
                          refine M_pass 15 (dj := 121) rfl (by kernel_rfl) hM867 rfl rfl (.inr rfl) ?_
                          refine M_any1 13 (by kernel_rfl) rfl ?_
                          refine L_pass (dj := 121) rfl rfl (.inr rfl) ?_
                          refine L_nil ⟨hM867, ?_⟩
                          refine M_any1 14 (by kernel_rfl) rfl ?_
                          refine L_pass (dj := 121) rfl rfl (.inr rfl) ?_
                          refine L_nil ⟨hM867, ?_⟩
                          refine M_any1 16 (by kernel_rfl) rfl ?_
                          refine L_pass (dj := 121) rfl rfl (.inr rfl) ?_
                          refine L_nil ⟨hM867, ?_⟩
                          refine M_any1 17 (by kernel_rfl) rfl ?_
                          refine L_pass (dj := 121) rfl rfl (.inr rfl) ?_
                          refine L_nil ⟨hM867, ?_⟩
                          refine M_pass 18 (dj := 112) rfl (by kernel_rfl) hM867 rfl rfl (.inl (by exact congrArg Value.bool hq872)) ?_
                          refine M_pu 19 rfl (by kernel_rfl) hM867 (P_pick true (vb true) (by exact congrArg Value.bool hq872) rfl) ?_
                          refine M_pu 20 rfl (by kernel_rfl) hM867 (P_assign (vb true) rfl) ?_
                          refine M_nil (by kernel_rfl) ?_
                          refine W_ret ?_
                          have hc873 := hc868.drop 0 rfl
                          have hc874 := hc873.drop 0 rfl
                          have hc875 := hc874.drop 0 rfl
                          have hc876 := hc875.drop 0 rfl
                          have hc877 := hc876.drop 0 rfl
                          have hc878 := hc877.drop 0 rfl
                          have hc879 := hc878.drop 0 rfl
                          have hc880 := hc879.drop 0 rfl
                          exact ⟨[vb true], ⟨_, rfl, rfl⟩, true, rfl, H, hc880.gr.g0⟩
                      · refine L_pass (dj := 112) rfl rfl (.inl (by exact congrArg Value.bool hq872)) ?_
                        refine L_nil ⟨hM867, ?_⟩
                        refine M_any1 4 (by kernel_rfl) rfl ?_
                        refine L_pass (dj := 112) rfl rfl (.inl (by exact congrArg Value.bool hq872)) ?_
                        refine L_nil ⟨hM867, ?_⟩
                        refine M_any1 6 (by kernel_rfl) rfl ?_
                        refine L_pass (dj := 112) rfl rfl (.inl (by exact congrArg Value.bool hq872)) ?_
                        refine L_nil ⟨hM867, ?_⟩
                        refine M_any1 9 (by kernel_rfl) rfl ?_
                        refine L_pass (dj := 112) rfl rfl (.inl (by exact congrArg Value.bool hq872)) ?_
                        refine L_nil ⟨hM867, ?_⟩
                        refine M_any1 10 (by kernel_rfl) rfl ?_
                        refine L_pass (dj := 112) rfl rfl (.inl (by exact congrArg Value.bool hq872)) ?_
                        refine L_nil ⟨hM867, ?_⟩
                        refine M_pass 11 (dj := 112) rfl (by kernel_rfl) hM867 rfl rfl (.inl (by exact congrArg Value.bool hq872)) ?_
                        refine M_pass 12 (dj := 121) rfl (by kernel_rfl) hM867 rfl rfl (.inr rfl) ?_
                        refine M_pass 15 (dj := 121) rfl (by kernel_rfl) hM867 rfl rfl (.inr rfl) ?_
                        refine M_any1 13 (by kernel_rfl) rfl ?_
                        refine L_pass (dj := 121) rfl rfl (.inr rfl) ?_
                        refine L_nil ⟨hM867, ?_⟩
                        refine M_any1 14 (by kernel_rfl) rfl ?_
                        refine L_pass (dj := 121) rfl rfl (.inr rfl) ?_
                        refine L_nil ⟨hM867, ?_⟩
                        refine M_any1 16 (by kernel_rfl) rfl ?_
                        refine L_pass (dj := 121) rfl rfl (.inr rfl) ?_
                        refine L_nil ⟨hM867, ?_⟩
                        refine M_any1 17 (by kernel_rfl) rfl ?_
                        refine L_pass (dj := 121) rfl rfl (.inr rfl) ?_
                        refine L_nil ⟨hM867, ?_⟩
                        refine M_pass 18 (dj := 112) rfl (by kernel_rfl) hM867 rfl rfl (.inl (by exact congrArg Value.bool hq872)) ?_
                        refine M_pu 19 rfl (by kernel_rfl) hM867 (P_pick true (vb true) (by exact congrArg Value.bool hq872) rfl) ?_
                        refine M_pu 20 rfl (by kernel_rfl) hM867 (P_assign (vb true) rfl) ?_
                        refine M_nil (by kernel_rfl) ?_
                        refine W_ret ?_
                        have hc873 := hc868.drop 0 rfl
                        have hc874 := hc873.drop 0 rfl
                        have hc875 := hc874.drop 0 rfl
                        have hc876 := hc875.drop 0 rfl
                        have hc877 := hc876.drop 0 rfl
                        have hc878 := hc877.drop 0 rfl
                        have hc879 := hc878.drop 0 rfl
                        have hc880 := hc879.drop 0 rfl
                        exact ⟨[vb true], ⟨_, rfl, rfl⟩, true, rfl, H, hc880.gr.g0⟩
                    · have H := ite_f H hq872
                      refine M_pug 3 (dj := 112) rfl (by kernel_rfl) hM867 rfl rfl (by exact congrArg Value.bool hq872) (P_move (.slice A578 n579 c580) rfl) ?_
                      refine M_pug 5 (dj := 112) rfl (by kernel_rfl) hM867 rfl rfl (by exact congrArg Value.bool hq872) (P_move (.slice A36 n37 c38) rfl) ?_
                      have h881 := ((h634.k0 g834).k0 g866)
                      refine M_pug 7 (dj := 112) rfl (by kernel_rfl) hM867 rfl rfl (by exact congrArg Value.bool hq872) (P_ldar ag29 sz29 cR ⟨b89, 0, none⟩ [vi 99, vi 99] rfl rfl (h881.cells (off := 0) rfl) nm_nil) ?_
                      refine M_any2 4 8 (by kernel_rfl) rfl rfl ?_ ?_
                      · refine L_run (dj := 112) rfl rfl (by exact congrArg Value.bool hq872) ?_
                        refine L_lit (kd := kPt) ei23 hc868 ([] : List Pt) (cells := []) rfl (fun _ => by kernel_rfl) fun w882 A883 n884 c885 g886 hr887 hc888 h889 => ?_
                        have hM891 := Gm.tm hM867 g886
                        refine L_nil ⟨hM891, ?_⟩
                        refine M_any2 6 8 (by kernel_rfl) rfl rfl ?_ ?_
                        · refine L_run (dj := 112) rfl rfl (by exact congrArg Value.bool hq872) ?_
                          have h892 := (((h631.sos g834 hk842).sn g866).so _ g886 hr887)
                          refine L_app ei23 hc888 (.slice A883 n884 c885) ([] : List Pt) r4 rfl h889 (.slice A36 n37 c38) rfl h892.sx 0 rfl hb869 fun w893 A894 n895 c896 g897 s898 hc899 h900 => ?_
                          have hM901 := Gm.tq hM891 g897 (hv_new hM867 hr887)
                          have hv902 := hv_app (L := [blk (.slice A883 n884 c885), blk (.slice A835 n836 c837), blk (.slice A636 n637 c638), blk (.slice A642 n643 c644), blk (.slice A648 n649 c650), blk (.slice A578 n579 c580), some b89, blk (.slice A36 n37 c38), blk (.slice A14 n15 c16)]) (O := O) (i := 0) hM891 rfl (hv_new hM867 hr887) s898 hc899
                          refine L_nil ⟨hM901, ?_⟩
                          refine M_any1 8 (by kernel_rfl) rfl ?_
                          refine L_run (dj := 112) rfl rfl (by exact congrArg Value.bool hq872) ?_
                          refine L_lit (kd := kPt) ei23 hc899 ([(⟨99, 99⟩ : Pt)] : List Pt) (cells := [vi 99, vi 99]) ⟨[vi 99, vi 99], _, rfl, (kPt.mk _ _ (⟨99, 99⟩ : Pt)), rfl⟩ (fun _ => by kernel_rfl) fun w904 A905 n906 c907 g908 hr909 hc910 h911 => ?_
                          have hM913 := Gm.tm hM901 g908
                          refine L_nil ⟨hM913, ?_⟩
                          refine M_any1 9 (by kernel_rfl) rfl ?_
                          refine L_run (dj := 112) rfl rfl (by exact congrArg Value.bool hq872) ?_
                          have h914 := (h900.so _ g908 hr909)
                          refine L_app ei23 hc910 (.slice A894 n895 c896) (([] : List Pt) ++ r4) ([(⟨99, 99⟩ : Pt)] : List Pt) rfl h914 (.slice A905 n906 c907) rfl h911.sx 1 rfl hb870 fun w915 A916 n917 c918 g919 s920 hc921 h922 => ?_
                          have hM923 := Gm.tq hM913 g919 hv902
                          have hv924 := hv_app (L := [blk (.slice A905 n906 c907), blk (.slice A894 n895 c896), blk (.slice A835 n836 c837), blk (.slice A636 n637 c638), blk (.slice A642 n643 c644), blk (.slice A648 n649 c650), blk (.slice A578 n579 c580), some b89, blk (.slice A36 n37 c38), blk (.slice A14 n15 c16)]) (O := O) (i := 1) hM913 rfl hv902 s920 hc921
                          refine L_nil ⟨hM923, ?_⟩
                          refine M_any1 10 (by kernel_rfl) rfl ?_
                          refine L_run (dj := 112) rfl rfl (by exact congrArg Value.bool hq872) ?_
                          have h926 := (Ow.sm (L := [blk (.slice A905 n906 c907), blk (.slice A894 n895 c896), blk (.slice A835 n836 c837), blk (.slice A636 n637 c638), blk (.slice A642 n643 c644), blk (.slice A648 n649 c650), blk (.slice A578 n579 c580), some b89, blk (.slice A36 n37 c38), blk (.slice A14 n15 c16)]) (O := O) ((Ow.sm (L := [blk (.slice A883 n884 c885), blk (.slice A835 n836 c837), blk (.slice A636 n637 c638), blk (.slice A642 n643 c644), blk (.slice A648 n649 c650), blk (.slice A578 n579 c580), some b89, blk (.slice A36 n37 c38), blk (.slice A14 n15 c16)]) (O := O) (((h632.sos g834 hk842).sn g866).so _ g886 hr887) hc888 (i := 5) rfl (j := 0) rfl (by decide) g897 s898).so _ g908 hr909) hc910 (i := 6) rfl (j := 1) rfl (by decide) g919 s920)
                          have h927 := Ow.gv (L := [blk (.slice A905 n906 c907), blk (.slice A916 n917 c918), blk (.slice A835 n836 c837), blk (.slice A636 n637 c638), blk (.slice A642 n643 c644), blk (.slice A648 n649 c650), blk (.slice A578 n579 c580), some b89, blk (.slice A36 n37 c38), blk (.slice A14 n15 c16)]) (O := O) h926 hc921 (i := 6) rfl
                          have hc928 := hc921.drop 6 rfl
                          have h931 := (Ow.sd (L := [blk (.slice A905 n906 c907), blk (.slice A916 n917 c918), blk (.slice A835 n836 c837), blk (.slice A636 n637 c638), blk (.slice A642 n643 c644), blk (.slice A648 n649 c650), blk (.slice A578 n579 c580), some b89, blk (.slice A36 n37 c38), blk (.slice A14 n15 c16)]) (O := O) h922 (i := 1) rfl (j := 6) rfl (by decide))
                          have h932 := Ow.gv (L := [blk (.slice A905 n906 c907), blk (.slice A916 n917 c918), blk (.slice A835 n836 c837), blk (.slice A636 n637 c638), blk (.slice A642 n643 c644), blk (.slice A648 n649 c650), some b89, blk (.slice A36 n37 c38), blk (.slice A14 n15 c16)]) (O := O) h931 hc928 (i := 1) rfl
                          have hc933 := hc928.drop 1 rfl
                          have h936 := (h927.st (.dr _ (L := [blk (.slice A905 n906 c907), blk (.slice A916 n917 c918), blk (.slice A835 n836 c837), blk (.slice A636 n637 c638), blk (.slice A642 n643 c644), blk (.slice A648 n649 c650), some b89, blk (.slice A36 n37 c38), blk (.slice A14 n15 c16)]) (O := O) (j := 1) rfl))
                          refine L_call go12 [.slice A578 n579 c580, .slice A916 n917 c918] rfl ((laws_wsSame.calls w915 hc933.ok r8 A578 n579 c580 h936 ((([] : List Pt) ++ r4) ++ ([(⟨99, 99⟩ : Pt)] : List Pt)) A916 n917 c918 h932 _ H).mono ?_)
                          rintro _ w937 ⟨r12, rfl, H, g938⟩
                          have hc942 := hc921.k0 g938
                          have hM943 := Gm.tm hM923 g938
                          refine L_nil ⟨hM943, ?_⟩
                          refine M_pug 11 (dj := 112) rfl (by kernel_rfl) hM943 rfl rfl (by exact congrArg Value.bool hq872) (P_move (vb r12) rfl) ?_
                          rcases bool_or r12 with hq944 | hq944
                          · have H := ite_t H hq944
                            refine M_pug 12 (dj := 121) rfl (by kernel_rfl) hM943 rfl rfl (by exact congrArg Value.bool hq944) (P_move (.slice A835 n836 c837) rfl) ?_
                            refine M_pug 15 (dj := 121) rfl (by kernel_rfl) hM943 rfl rfl (by exact congrArg Value.bool hq944) (P_move (.slice A36 n37 c38) rfl) ?_
                            refine M_any1 13 (by kernel_rfl) rfl ?_
                            refine L_run (dj := 121) rfl rfl (by exact congrArg Value.bool hq944) ?_
                            have h945 := ((Bx.sm (L := [blk (.slice A905 n906 c907), blk (.slice A894 n895 c896), blk (.slice A835 n836 c837), blk (.slice A636 n637 c638), blk (.slice A642 n643 c644), blk (.slice A648 n649 c650), blk (.slice A578 n579 c580), some b89, blk (.slice A36 n37 c38), blk (.slice A14 n15 c16)]) (O := O) ((Bx.sm (L := [blk (.slice A883 n884 c885), blk (.slice A835 n836 c837), blk (.slice A636 n637 c638), blk (.slice A642 n643 c644), blk (.slice A648 n649 c650), blk (.slice A578 n579 c580), some b89, blk (.slice A36 n37 c38), blk (.slice A14 n15 c16)]) (O := O) (h881.k0 g886) hc888 (i := 6) rfl (j := 0) rfl (by decide) g897).k0 g908) hc910 (i := 7) rfl (j := 1) rfl (by decide) g919).k0 g938)
                            refine L_pu (P_lda ag29 sz29 cL ⟨b89, 0, none⟩ [vi 99, vi 99] rfl rfl (h945.cells (off := 0) rfl)) ?_
                            refine L_nil ⟨hM943, ?_⟩
                            refine M_any1 14 (by kernel_rfl) rfl ?_
                            refine L_run (dj := 121) rfl rfl (by exact congrArg Value.bool hq944) ?_
                            refine L_lit (kd := kPt) ei23 hc942 ([(⟨99, 99⟩ : Pt)] : List Pt) (cells := [vi 99, vi 99]) ⟨[vi 99, vi 99], _, rfl, (kPt.mk _ _ (⟨99, 99⟩ : Pt)), rfl⟩ (fun _ => by kernel_rfl) fun w946 A947 n948 c949 g950 hr951 hc952 h953 => ?_
                            have hM955 := Gm.tm hM943 g950
                            refine L_nil ⟨hM955, ?_⟩
                            refine M_any1 16 (by kernel_rfl) rfl ?_
                            refine L_run (dj := 121) rfl rfl (by exact congrArg Value.bool hq944) ?_
                            have h956 := (((Ow.sm (L := [blk (.slice A905 n906 c907), blk (.slice A894 n895 c896), blk (.slice A835 n836 c837), blk (.slice A636 n637 c638), blk (.slice A642 n643 c644), blk (.slice A648 n649 c650), blk (.slice A578 n579 c580), some b89, blk (.slice A36 n37 c38), blk (.slice A14 n15 c16)]) (O := O) ((Ow.sm (L := [blk (.slice A883 n884 c885), blk (.slice A835 n836 c837), blk (.slice A636 n637 c638), blk (.slice A642 n643 c644), blk (.slice A648 n649 c650), blk (.slice A578 n579 c580), some b89, blk (.slice A36 n37 c38), blk (.slice A14 n15 c16)]) (O := O) h892 hc888 (i := 7) rfl (j := 0) rfl (by decide) g897 s898).so _ g908 hr909) hc910 (i := 8) rfl (j := 1) rfl (by decide) g919 s920).sn g938).so _ g950 hr951)
                            refine L_app ei23 hc952 (.slice A947 n948 c949) ([(⟨99, 99⟩ : Pt)] : List Pt) r4 rfl h953 (.slice A36 n37 c38) rfl h956.sx 0 rfl hb871 fun w957 A958 n959 c960 g961 s962 hc963 h964 => ?_
                            have hM965 := Gm.tq hM955 g961 (hv_new hM943 hr951)
                            have hv966 := hv_app (L := [blk (.slice A947 n948 c949), blk (.slice A905 n906 c907), blk (.slice A916 n917 c918), blk (.slice A835 n836 c837), blk (.slice A636 n637 c638), blk (.slice A642 n643 c644), blk (.slice A648 n649 c650), blk (.slice A578 n579 c580), some b89, blk (.slice A36 n37 c38), blk (.slice A14 n15 c16)]) (O := O) (i := 0) hM955 rfl (hv_new hM943 hr951) s962 hc963
                            refine L_nil ⟨hM965, ?_⟩
                            refine M_any1 17 (by kernel_rfl) rfl ?_
                            refine L_run (dj := 121) rfl rfl (by exact congrArg Value.bool hq944) ?_
                            have h968 := (Ow.sm (L := [blk (.slice A947 n948 c949), blk (.slice A905 n906 c907), blk (.slice A916 n917 c918), blk (.slice A835 n836 c837), blk (.slice A636 n637 c638), blk (.slice A642 n643 c644), blk (.slice A648 n649 c650), blk (.slice A578 n579 c580), some b89, blk (.slice A36 n37 c38), blk (.slice A14 n15 c16)]) (O := O) (((Ow.sm (L := [blk (.slice A905 n906 c907), blk (.slice A894 n895 c896), blk (.slice A835 n836 c837), blk (.slice A636 n637 c638), blk (.slice A642 n643 c644), blk (.slice A648 n649 c650), blk (.slice A578 n579 c580), some b89, blk (.slice A36 n37 c38), blk (.slice A14 n15 c16)]) (O := O) ((Ow.sm (L := [blk (.slice A883 n884 c885), blk (.slice A835 n836 c837), blk (.slice A636 n637 c638), blk (.slice A642 n643 c644), blk (.slice A648 n649 c650), blk (.slice A578 n579 c580), some b89, blk (.slice A36 n37 c38), blk (.slice A14 n15 c16)]) (O := O) ((h845.sn g866).so _ g886 hr887) hc888 (i := 1) rfl (j := 0) rfl (by decide) g897 s898).so _ g908 hr909) hc910 (i := 2) rfl (j := 1) rfl (by decide) g919 s920).sn g938).so _ g950 hr951) hc952 (i := 3) rfl (j := 0) rfl (by decide) g961 s962)
                            have h969 := Ow.gv (L := [blk (.slice A958 n959 c960), blk (.slice A905 n906 c907), blk (.slice A916 n917 c918), blk (.slice A835 n836 c837), blk (.slice A636 n637 c638), blk (.slice A642 n643 c644), blk (.slice A648 n649 c650), blk (.slice A578 n579 c580), some b89, blk (.slice A36 n37 c38), blk (.slice A14 n15 c16)]) (O := O) h968 hc963 (i := 3) rfl
                            have hc970 := hc963.drop 3 rfl
                            have h973 := (Ow.sd (L := [blk (.slice A958 n959 c960), blk (.slice A905 n906 c907), blk (.slice A916 n917 c918), blk (.slice A835 n836 c837), blk (.slice A636 n637 c638), blk (.slice A642 n643 c644), blk (.slice A648 n649 c650), blk (.slice A578 n579 c580), some b89, blk (.slice A36 n37 c38), blk (.slice A14 n15 c16)]) (O := O) h964 (i := 0) rfl (j := 3) rfl (by decide))
                            have h974 := Ow.gv (L := [blk (.slice A958 n959 c960), blk (.slice A905 n906 c907), blk (.slice A916 n917 c918), blk (.slice A636 n637 c638), blk (.slice A642 n643 c644), blk (.slice A648 n649 c650), blk (.slice A578 n579 c580), some b89, blk (.slice A36 n37 c38), blk (.slice A14 n15 c16)]) (O := O) h973 hc970 (i := 0) rfl
                            have hc975 := hc970.drop 0 rfl
                            have h978 := (h969.st (.dr _ (L := [blk (.slice A958 n959 c960), blk (.slice A905 n906 c907), blk (.slice A916 n917 c918), blk (.slice A636 n637 c638), blk (.slice A642 n643 c644), blk (.slice A648 n649 c650), blk (.slice A578 n579 c580), some b89, blk (.slice A36 n37 c38), blk (.slice A14 n15 c16)]) (O := O) (j := 0) rfl))
                            refine L_call go12 [.slice A835 n836 c837, .slice A958 n959 c960] rfl ((laws_wsSame.calls w957 hc975.ok r10 A835 n836 c837 h978 (([(⟨99, 99⟩ : Pt)] : List Pt) ++ r4) A958 n959 c960 h974 _ H).mono ?_)
                            rintro _ w979 ⟨r13, rfl, H, g980⟩
                            have hc984 := hc963.k0 g980
                            have hM985 := Gm.tm hM965 g980
                            refine L_nil ⟨hM985, ?_⟩
                            refine M_pug 18 (dj := 112) rfl (by kernel_rfl) hM985 rfl rfl (by exact congrArg Value.bool hq872) (P_pick true (vb r13) (by exact congrArg Value.bool hq944) rfl) ?_
                            refine M_pu 19 rfl (by kernel_rfl) hM985 (P_pick false (vb r13) (by exact congrArg Value.bool hq872) rfl) ?_
                            refine M_pu 20 rfl (by kernel_rfl) hM985 (P_assign (vb r13) rfl) ?_
                            refine M_nil (by kernel_rfl) ?_
                            refine W_ret ?_
                            have hc986 := hc984.drop 0 rfl
                            have hc987 := hc986.drop 0 rfl
                            have hc988 := hc987.drop 0 rfl
                            have hc989 := hc988.drop 0 rfl
                            have hc990 := hc989.drop 0 rfl
                            have hc991 := hc990.drop 0 rfl
                            have hc992 := hc991.drop 0 rfl
                            have hc993 := hc992.drop 0 rfl
                            have hc994 := hc993.drop 0 rfl
                            have hc995 := hc994.drop 0 rfl
                            have hc996 := hc995.drop 0 rfl
                            exact ⟨[vb r13], ⟨_, rfl, rfl⟩, r13, rfl, H, hc996.gr.g0⟩
                          · have H := ite_f H hq944
                            refine M_pass 12 (dj := 121) rfl (by kernel_rfl) hM943 rfl rfl (.inl (by exact congrArg Value.bool hq944)) ?_
                            refine M_pass 15 (dj := 121) rfl (by kernel_rfl) hM943 rfl rfl (.inl (by exact congrArg Value.bool hq944)) ?_
                            refine M_any1 13 (by kernel_rfl) rfl ?_
                            refine L_pass (dj := 121) rfl rfl (.inl (by exact congrArg Value.bool hq944)) ?_
                            refine L_nil ⟨hM943, ?_⟩
                            refine M_any1 14 (by kernel_rfl) rfl ?_
                            refine L_pass (dj := 121) rfl rfl (.inl (by exact congrArg Value.bool hq944)) ?_
                            refine L_nil ⟨hM943, ?_⟩
                            refine M_any1 16 (by kernel_rfl) rfl ?_
                            refine L_pass (dj := 121) rfl rfl (.inl (by exact congrArg Value.bool hq944)) ?_
                            refine L_nil ⟨hM943, ?_⟩
                            refine M_any1 17 (by kernel_rfl) rfl ?_
                            refine L_pass (dj := 121) rfl rfl (.inl (by exact congrArg Value.bool hq944)) ?_
                            refine L_nil ⟨hM943, ?_⟩
                            refine M_pug 18 (dj := 112) rfl (by kernel_rfl) hM943 rfl rfl (by exact congrArg Value.bool hq872) (P_pick false (vb false) (by exact congrArg Value.bool hq944) rfl) ?_
                            refine M_pu 19 rfl (by kernel_rfl) hM943 (P_pick false (vb false) (by exact congrArg Value.bool hq872) rfl) ?_
                            refine M_pu 20 rfl (by kernel_rfl) hM943 (P_assign (vb false) rfl) ?_
                            refine M_nil (by kernel_rfl) ?_
                            refine W_ret ?_
                            have hc997 := hc942.drop 0 rfl
                            have hc998 := hc997.drop 0 rfl
                            have hc999 := hc998.drop 0 rfl
                            have hc1000 := hc999.drop 0 rfl
                            have hc1001 := hc1000.drop 0 rfl
                            have hc1002 := hc1001.drop 0 rfl
                            have hc1003 := hc1002.drop 0 rfl
                            have hc1004 := hc1003.drop 0 rfl
                            have hc1005 := hc1004.drop 0 rfl
                            have hc1006 := hc1005.drop 0 rfl
                            exact ⟨[vb false], ⟨_, rfl, rfl⟩, false, rfl, H, hc1006.gr.g0⟩
                        · refine L_run (dj := 112) rfl rfl (by exact congrArg Value.bool hq872) ?_
                          refine L_lit (kd := kPt) ei23 hc888 ([(⟨99, 99⟩ : Pt)] : List Pt) (cells := [vi 99, vi 99]) ⟨[vi 99, vi 99], _, rfl, (kPt.mk _ _ (⟨99, 99⟩ : Pt)), rfl⟩ (fun _ => by kernel_rfl) fun w892 A893 n894 c895 g896 hr897 hc898 h899 => ?_
                          have hM901 := Gm.tm hM891 g896
                          refine L_nil ⟨hM901, ?_⟩
                          refine M_any1 6 (by kernel_rfl) rfl ?_
                          refine L_run (dj := 112) rfl rfl (by exact congrArg Value.bool hq872) ?_
                          have h902 := ((((h631.sos g834 hk842).sn g866).so _ g886 hr887).so _ g896 hr897)
                          have h903 := (h889.so _ g896 hr897)
                          refine L_app ei23 hc898 (.slice A883 n884 c885) ([] : List Pt) r4 rfl h903 (.slice A36 n37 c38) rfl h902.sx 1 rfl hb869 fun w904 A905 n906 c907 g908 s909 hc910 h911 => ?_
                          have hM912 := Gm.tq hM901 g908 (hv_new hM867 hr887)
                          have hv913 := hv_app (L := [blk (.slice A893 n894 c895), blk (.slice A883 n884 c885), blk (.slice A835 n836 c837), blk (.slice A636 n637 c638), blk (.slice A642 n643 c644), blk (.slice A648 n649 c650), blk (.slice A578 n579 c580), some b89, blk (.slice A36 n37 c38), blk (.slice A14 n15 c16)]) (O := O) (i := 1) hM901 rfl (hv_new hM867 hr887) s909 hc910
                          refine L_nil ⟨hM912, ?_⟩
                          refine M_any1 9 (by kernel_rfl) rfl ?_
                          refine L_run (dj := 112) rfl rfl (by exact congrArg Value.bool hq872) ?_
                          have h915 := (Ow.sm (L := [blk (.slice A893 n894 c895), blk (.slice A883 n884 c885), blk (.slice A835 n836 c837), blk (.slice A636 n637 c638), blk (.slice A642 n643 c644), blk (.slice A648 n649 c650), blk (.slice A578 n579 c580), some b89, blk (.slice A36 n37 c38), blk (.slice A14 n15 c16)]) (O := O) h899 hc898 (i := 0) rfl (j := 1) rfl (by decide) g908 s909)
                          refine L_app ei23 hc910 (.slice A905 n906 c907) (([] : List Pt) ++ r4) ([(⟨99, 99⟩ : Pt)] : List Pt) rfl h911 (.slice A893 n894 c895) rfl h915.sx 1 rfl hb870 fun w916 A917 n918 c919 g920 s921 hc922 h923 => ?_
                          have hM924 := Gm.tq hM912 g920 hv913
                          have hv925 := hv_app (L := [blk (.slice A893 n894 c895), blk (.slice A905 n906 c907), blk (.slice A835 n836 c837), blk (.slice A636 n637 c638), blk (.slice A642 n643 c644), blk (.slice A648 n649 c650), blk (.slice A578 n579 c580), some b89, blk (.slice A36 n37 c38), blk (.slice A14 n15 c16)]) (O := O) (i := 1) hM912 rfl hv913 s921 hc922
                          refine L_nil ⟨hM924, ?_⟩
                          refine M_any1 10 (by kernel_rfl) rfl ?_
                          refine L_run (dj := 112) rfl rfl (by exact congrArg Value.bool hq872) ?_
                          have h927 := (Ow.sm (L := [blk (.slice A893 n894 c895), blk (.slice A905 n906 c907), blk (.slice A835 n836 c837), blk (.slice A636 n637 c638), blk (.slice A642 n643 c644), blk (.slice A648 n649 c650), blk (.slice A578 n579 c580), some b89, blk (.slice A36 n37 c38), blk (.slice A14 n15 c16)]) (O := O) (Ow.sm (L := [blk (.slice A893 n894 c895), blk (.slice A883 n884 c885), blk (.slice A835 n836 c837), blk (.slice A636 n637 c638), blk (.slice A642 n643 c644), blk (.slice A648 n649 c650), blk (.slice A578 n579 c580), some b89, blk (.slice A36 n37 c38), blk (.slice A14 n15 c16)]) (O := O) ((((h632.sos g834 hk842).sn g866).so _ g886 hr887).so _ g896 hr897) hc898 (i := 6) rfl (j := 1) rfl (by decide) g908 s909) hc910 (i := 6) rfl (j := 1) rfl (by decide) g920 s921)
                          have h928 := Ow.gv (L := [blk (.slice A893 n894 c895), blk (.slice A917 n918 c919), blk (.slice A835 n836 c837), blk (.slice A636 n637 c638), blk (.slice A642 n643 c644), blk (.slice A648 n649 c650), blk (.slice A578 n579 c580), some b89, blk (.slice A36 n37 c38), blk (.slice A14 n15 c16)]) (O := O) h927 hc922 (i := 6) rfl
                          have hc929 := hc922.drop 6 rfl
                          have h932 := (Ow.sd (L := [blk (.slice A893 n894 c895), blk (.slice A917 n918 c919), blk (.slice A835 n836 c837), blk (.slice A636 n637 c638), blk (.slice A642 n643 c644), blk (.slice A648 n649 c650), blk (.slice A578 n579 c580), some b89, blk (.slice A36 n37 c38), blk (.slice A14 n15 c16)]) (O := O) h923 (i := 1) rfl (j := 6) rfl (by decide))
                          have h933 := Ow.gv (L := [blk (.slice A893 n894 c895), blk (.slice A917 n918 c919), blk (.slice A835 n836 c837), blk (.slice A636 n637 c638), blk (.slice A642 n643 c644), blk (.slice A648 n649 c650), some b89, blk (.slice A36 n37 c38), blk (.slice A14 n15 c16)]) (O := O) h932 hc929 (i := 1) rfl
                          have hc934 := hc929.drop 1 rfl
                          have h937 := (h928.st (.dr _ (L := [blk (.slice A893 n894 c895), blk (.slice A917 n918 c919), blk (.slice A835 n836 c837), blk (.slice A636 n637 c638), blk (.slice A642 n643 c644), blk (.slice A648 n649 c650), some b89, blk (.slice A36 n37 c38), blk (.slice A14 n15 c16)]) (O := O) (j := 1) rfl))
                          refine L_call go12 [.slice A578 n579 c580, .slice A917 n918 c919] rfl ((laws_wsSame.calls w916 hc934.ok r8 A578 n579 c580 h937 ((([] : List Pt) ++ r4) ++ ([(⟨99, 99⟩ : Pt)] : List Pt)) A917 n918 c919 h933 _ H).mono ?_)
                          rintro _ w938 ⟨r12, rfl, H, g939⟩
                          have hc943 := hc922.k0 g939
                          have hM944 := Gm.tm hM924 g939
                          refine L_nil ⟨hM944, ?_⟩
                          refine M_pug 11 (dj := 112) rfl (by kernel_rfl) hM944 rfl rfl (by exact congrArg Value.bool hq872) (P_move (vb r12) rfl) ?_
                          rcases bool_or r12 with hq945 | hq945
                          · have H := ite_t H hq945
                            refine M_pug 12 (dj := 121) rfl (by kernel_rfl) hM944 rfl rfl (by exact congrArg Value.bool hq945) (P_move (.slice A835 n836 c837) rfl) ?_
                            refine M_pug 15 (dj := 121) rfl (by kernel_rfl) hM944 rfl rfl (by exact congrArg Value.bool hq945) (P_move (.slice A36 n37 c38) rfl) ?_
                            refine M_any1 13 (by kernel_rfl) rfl ?_
                            refine L_run (dj := 121) rfl rfl (by exact congrArg Value.bool hq945) ?_
                            have h946 := ((Bx.sm (L := [blk (.slice A893 n894 c895), blk (.slice A905 n906 c907), blk (.slice A835 n836 c837), blk (.slice A636 n637 c638), blk (.slice A642 n643 c644), blk (.slice A648 n649 c650), blk (.slice A578 n579 c580), some b89, blk (.slice A36 n37 c38), blk (.slice A14 n15 c16)]) (O := O) (Bx.sm (L := [blk (.slice A893 n894 c895), blk (.slice A883 n884 c885), blk (.slice A835 n836 c837), blk (.slice A636 n637 c638), blk (.slice A642 n643 c644), blk (.slice A648 n649 c650), blk (.slice A578 n579 c580), some b89, blk (.slice A36 n37 c38), blk (.slice A14 n15 c16)]) (O := O) ((h881.k0 g886).k0 g896) hc898 (i := 7) rfl (j := 1) rfl (by decide) g908) hc910 (i := 7) rfl (j := 1) rfl (by decide) g920).k0 g939)
                            refine L_pu (P_lda ag29 sz29 cL ⟨b89, 0, none⟩ [vi 99, vi 99] rfl rfl (h946.cells (off := 0) rfl)) ?_
                            refine L_nil ⟨hM944, ?_⟩
                            refine M_any1 14 (by kernel_rfl) rfl ?_
                            refine L_run (dj := 121) rfl rfl (by exact congrArg Value.bool hq945) ?_
                            refine L_lit (kd := kPt) ei23 hc943 ([(⟨99, 99⟩ : Pt)] : List Pt) (cells := [vi 99, vi 99]) ⟨[vi 99, vi 99], _, rfl, (kPt.mk _ _ (⟨99, 99⟩ : Pt)), rfl⟩ (fun _ => by kernel_rfl) fun w947 A948 n949 c950 g951 hr952 hc953 h954 => ?_
                            have hM956 := Gm.tm hM944 g951
                            refine L_nil ⟨hM956, ?_⟩
                            refine M_any1 16 (by kernel_rfl) rfl ?_
                            refine L_run (dj := 121) rfl rfl (by exact congrArg Value.bool hq945) ?_
                            have h957 := (((Ow.sm (L := [blk (.slice A893 n894 c895), blk (.slice A905 n906 c907), blk (.slice A835 n836 c837), blk (.slice A636 n637 c638), blk (.slice A642 n643 c644), blk (.slice A648 n649 c650), blk (.slice A578 n579 c580), some b89, blk (.slice A36 n37 c38), blk (.slice A14 n15 c16)]) (O := O) (Ow.sm (L := [blk (.slice A893 n894 c895), blk (.slice A883 n884 c885), blk (.slice A835 n836 c837), blk (.slice A636 n637 c638), blk (.slice A642 n643 c644), blk (.slice A648 n649 c650), blk (.slice A578 n579 c580), some b89, blk (.slice A36 n37 c38), blk (.slice A14 n15 c16)]) (O := O) h902 hc898 (i := 8) rfl (j := 1) rfl (by decide) g908 s909) hc910 (i := 8) rfl (j := 1) rfl (by decide) g920 s921).sn g939).so _ g951 hr952)
                            refine L_app ei23 hc953 (.slice A948 n949 c950) ([(⟨99, 99⟩ : Pt)] : List Pt) r4 rfl h954 (.slice A36 n37 c38) rfl h957.sx 0 rfl hb871 fun w958 A959 n960 c961 g962 s963 hc964 h965 => ?_
                            have hM966 := Gm.tq hM956 g962 (hv_new hM944 hr952)
                            have hv967 := hv_app (L := [blk (.slice A948 n949 c950), blk (.slice A893 n894 c895), blk (.slice A917 n918 c919), blk (.slice A835 n836 c837), blk (.slice A636 n637 c638), blk (.slice A642 n643 c644), blk (.slice A648 n649 c650), blk (.slice A578 n579 c580), some b89, blk (.slice A36 n37 c38), blk (.slice A14 n15 c16)]) (O := O) (i := 0) hM956 rfl (hv_new hM944 hr952) s963 hc964
                            refine L_nil ⟨hM966, ?_⟩
                            refine M_any1 17 (by kernel_rfl) rfl ?_
                            refine L_run (dj := 121) rfl rfl (by exact congrArg Value.bool hq945) ?_
                            have h969 := (Ow.sm (L := [blk (.slice A948 n949 c950), blk (.slice A893 n894 c895), blk (.slice A917 n918 c919), blk (.slice A835 n836 c837), blk (.slice A636 n637 c638), blk (.slice A642 n643 c644), blk (.slice A648 n649 c650), blk (.slice A578 n579 c580), some b89, blk (.slice A36 n37 c38), blk (.slice A14 n15 c16)]) (O := O) (((Ow.sm (L := [blk (.slice A893 n894 c895), blk (.slice A905 n906 c907), blk (.slice A835 n836 c837), blk (.slice A636 n637 c638), blk (.slice A642 n643 c644), blk (.slice A648 n649 c650), blk (.slice A578 n579 c580), some b89, blk (.slice A36 n37 c38), blk (.slice A14 n15 c16)]) (O := O) (Ow.sm (L := [blk (.slice A893 n894 c895), blk (.slice A883 n884 c885), blk (.slice A835 n836 c837), blk (.slice A636 n637 c638), blk (.slice A642 n643 c644), blk (.slice A648 n649 c650), blk (.slice A578 n579 c580), some b89, blk (.slice A36 n37 c38), blk (.slice A14 n15 c16)]) (O := O) (((h845.sn g866).so _ g886 hr887).so _ g896 hr897) hc898 (i := 2) rfl (j := 1) rfl (by decide) g908 s909) hc910 (i := 2) rfl (j := 1) rfl (by decide) g920 s921).sn g939).so _ g951 hr952) hc953 (i := 3) rfl (j := 0) rfl (by decide) g962 s963)
                            have h970 := Ow.gv (L := [blk (.slice A959 n960 c961), blk (.slice A893 n894 c895), blk (.slice A917 n918 c919), blk (.slice A835 n836 c837), blk (.slice A636 n637 c638), blk (.slice A642 n643 c644), blk (.slice A648 n649 c650), blk (.slice A578 n579 c580), some b89, blk (.slice A36 n37 c38), blk (.slice A14 n15 c16)]) (O := O) h969 hc964 (i := 3) rfl
                            have hc971 := hc964.drop 3 rfl
                            have h974 := (Ow.sd (L := [blk (.slice A959 n960 c961), blk (.slice A893 n894 c895), blk (.slice A917 n918 c919), blk (.slice A835 n836 c837), blk (.slice A636 n637 c638), blk (.slice A642 n643 c644), blk (.slice A648 n649 c650), blk (.slice A578 n579 c580), some b89, blk (.slice A36 n37 c38), blk (.slice A14 n15 c16)]) (O := O) h965 (i := 0) rfl (j := 3) rfl (by decide))
                            have h975 := Ow.gv (L := [blk (.slice A959 n960 c961), blk (.slice A893 n894 c895), blk (.slice A917 n918 c919), blk (.slice A636 n637 c638), blk (.slice A642 n643 c644), blk (.slice A648 n649 c650), blk (.slice A578 n579 c580), some b89, blk (.slice A36 n37 c38), blk (.slice A14 n15 c16)]) (O := O) h974 hc971 (i := 0) rfl
                            have hc976 := hc971.drop 0 rfl
                            have h979 := (h970.st (.dr _ (L := [blk (.slice A959 n960 c961), blk (.slice A893 n894 c895), blk (.slice A917 n918 c919), blk (.slice A636 n637 c638), blk (.slice A642 n643 c644), blk (.slice A648 n649 c650), blk (.slice A578 n579 c580), some b89, blk (.slice A36 n37 c38), blk (.slice A14 n15 c16)]) (O := O) (j := 0) rfl))
                            refine L_call go12 [.slice A835 n836 c837, .slice A959 n960 c961] rfl ((laws_wsSame.calls w958 hc976.ok r10 A835 n836 c837 h979 (([(⟨99, 99⟩ : Pt)] : List Pt) ++ r4) A959 n960 c961 h975 _ H).mono ?_)
                            rintro _ w980 ⟨r13, rfl, H, g981⟩
                            have hc985 := hc964.k0 g981
                            have hM986 := Gm.tm hM966 g981
                            refine L_nil ⟨hM986, ?_⟩
                            refine M_pug 18 (dj := 112) rfl (by kernel_rfl) hM986 rfl rfl (by exact congrArg Value.bool hq872) (P_pick true (vb r13) (by exact congrArg Value.bool hq945) rfl) ?_
                            refine M_pu 19 rfl (by kernel_rfl) hM986 (P_pick false (vb r13) (by exact congrArg Value.bool hq872) rfl) ?_
                            refine M_pu 20 rfl (by kernel_rfl) hM986 (P_assign (vb r13) rfl) ?_
                            refine M_nil (by kernel_rfl) ?_
                            refine W_ret ?_
                            have hc987 := hc985.drop 0 rfl
                            have hc988 := hc987.drop 0 rfl
                            have hc989 := hc988.drop 0 rfl
                            have hc990 := hc989.drop 0 rfl
                            have hc991 := hc990.drop 0 rfl
                            have hc992 := hc991.drop 0 rfl
                            have hc993 := hc992.drop 0 rfl
                            have hc994 := hc993.drop 0 rfl
                            have hc995 := hc994.drop 0 rfl
                            have hc996 := hc995.drop 0 rfl
                            have hc997 := hc996.drop 0 rfl
                            exact ⟨[vb r13], ⟨_, rfl, rfl⟩, r13, rfl, H, hc997.gr.g0⟩
                          · have H := ite_f H hq945
                            refine M_pass 12 (dj := 121) rfl (by kernel_rfl) hM944 rfl rfl (.inl (by exact congrArg Value.bool hq945)) ?_
                            refine M_pass 15 (dj := 121) rfl (by kernel_rfl) hM944 rfl rfl (.inl (by exact congrArg Value.bool hq945)) ?_
                            refine M_any1 13 (by kernel_rfl) rfl ?_
                            refine L_pass (dj := 121) rfl rfl (.inl (by exact congrArg Value.bool hq945)) ?_
                            refine L_nil ⟨hM944, ?_⟩
                            refine M_any1 14 (by kernel_rfl) rfl ?_
                            refine L_pass (dj := 121) rfl rfl (.inl (by exact congrArg Value.bool hq945)) ?_
                            refine L_nil ⟨hM944, ?_⟩
                            refine M_any1 16 (by kernel_rfl) rfl ?_
                            refine L_pass (dj := 121) rfl rfl (.inl (by exact congrArg Value.bool hq945)) ?_
                            refine L_nil ⟨hM944, ?_⟩
                            refine M_any1 17 (by kernel_rfl) rfl ?_
                            refine L_pass (dj := 121) rfl rfl (.inl (by exact congrArg Value.bool hq945)) ?_
                            refine L_nil ⟨hM944, ?_⟩
                            refine M_pug 18 (dj := 112) rfl (by kernel_rfl) hM944 rfl rfl (by exact congrArg Value.bool hq872) (P_pick false (vb false) (by exact congrArg Value.bool hq945) rfl) ?_
                            refine M_pu 19 rfl (by kernel_rfl) hM944 (P_pick false (vb false) (by exact congrArg Value.bool hq872) rfl) ?_
                            refine M_pu 20 rfl (by kernel_rfl) hM944 (P_assign (vb false) rfl) ?_
                            refine M_nil (by kernel_rfl) ?_
                            refine W_ret ?_
                            have hc998 := hc943.drop 0 rfl
                            have hc999 := hc998.drop 0 rfl
                            have hc1000 := hc999.drop 0 rfl
                            have hc1001 := hc1000.drop 0 rfl
                            have hc1002 := hc1001.drop 0 rfl
                            have hc1003 := hc1002.drop 0 rfl
                            have hc1004 := hc1003.drop 0 rfl
                            have hc1005 := hc1004.drop 0 rfl
                            have hc1006 := hc1005.drop 0 rfl
                            have hc1007 := hc1006.drop 0 rfl
                            exact ⟨[vb false], ⟨_, rfl, rfl⟩, false, rfl, H, hc1007.gr.g0⟩
                      · refine L_run (dj := 112) rfl rfl (by exact congrArg Value.bool hq872) ?_
                        refine L_lit (kd := kPt) ei23 hc868 ([(⟨99, 99⟩ : Pt)] : List Pt) (cells := [vi 99, vi 99]) ⟨[vi 99, vi 99], _, rfl, (kPt.mk _ _ (⟨99, 99⟩ : Pt)), rfl⟩ (fun _ => by kernel_rfl) fun w882 A883 n884 c885 g886 hr887 hc888 h889 => ?_
                        have hM891 := Gm.tm hM867 g886
                        refine L_nil ⟨hM891, ?_⟩
                        refine M_any1 4 (by kernel_rfl) rfl ?_
                        refine L_run (dj := 112) rfl rfl (by exact congrArg Value.bool hq872) ?_
                        refine L_lit (kd := kPt) ei23 hc888 ([] : List Pt) (cells := []) rfl (fun _ => by kernel_rfl) fun w892 A893 n894 c895 g896 hr897 hc898 h899 => ?_
                        have hM901 := Gm.tm hM891 g896
                        refine L_nil ⟨hM901, ?_⟩
                        refine M_any1 6 (by kernel_rfl) rfl ?_
                        refine L_run (dj := 112) rfl rfl (by exact congrArg Value.bool hq872) ?_
                        have h902 := ((((h631.sos g834 hk842).sn g866).so _ g886 hr887).so _ g896 hr897)
                        refine L_app ei23 hc898 (.slice A893 n894 c895) ([] : List Pt) r4 rfl h899 (.slice A36 n37 c38) rfl h902.sx 0 rfl hb869 fun w903 A904 n905 c906 g907 s908 hc909 h910 => ?_
                        have hM911 := Gm.tq hM901 g907 (hv_new hM891 hr897)
                        have hv912 := hv_app (L := [blk (.slice A893 n894 c895), blk (.slice A883 n884 c885), blk (.slice A835 n836 c837), blk (.slice A636 n637 c638), blk (.slice A642 n643 c644), blk (.slice A648 n649 c650), blk (.slice A578 n579 c580), some b89, blk (.slice A36 n37 c38), blk (.slice A14 n15 c16)]) (O := O) (i := 0) hM901 rfl (hv_new hM891 hr897) s908 hc909
                        refine L_nil ⟨hM911, ?_⟩
                        refine M_any1 9 (by kernel_rfl) rfl ?_
                        refine L_run (dj := 112) rfl rfl (by exact congrArg Value.bool hq872) ?_
                        have h914 := (Ow.sm (L := [blk (.slice A893 n894 c895), blk (.slice A883 n884 c885), blk (.slice A835 n836 c837), blk (.slice A636 n637 c638), blk (.slice A642 n643 c644), blk (.slice A648 n649 c650), blk (.slice A578 n579 c580), some b89, blk (.slice A36 n37 c38), blk (.slice A14 n15 c16)]) (O := O) (h889.so _ g896 hr897) hc898 (i := 1) rfl (j := 0) rfl (by decide) g907 s908)
                        refine L_app ei23 hc909 (.slice A904 n905 c906) (([] : List Pt) ++ r4) ([(⟨99, 99⟩ : Pt)] : List Pt) rfl h910 (.slice A883 n884 c885) rfl h914.sx 0 rfl hb870 fun w915 A916 n917 c918 g919 s920 hc921 h922 => ?_
                        have hM923 := Gm.tq hM911 g919 hv912
                        have hv924 := hv_app (L := [blk (.slice A904 n905 c906), blk (.slice A883 n884 c885), blk (.slice A835 n836 c837), blk (.slice A636 n637 c638), blk (.slice A642 n643 c644), blk (.slice A648 n649 c650), blk (.slice A578 n579 c580), some b89, blk (.slice A36 n37 c38), blk (.slice A14 n15 c16)]) (O := O) (i := 0) hM911 rfl hv912 s920 hc921
                        refine L_nil ⟨hM923, ?_⟩
                        refine M_any1 10 (by kernel_rfl) rfl ?_
                        refine L_run (dj := 112) rfl rfl (by exact congrArg Value.bool hq872) ?_
                        have h926 := (Ow.sm (L := [blk (.slice A904 n905 c906), blk (.slice A883 n884 c885), blk (.slice A835 n836 c837), blk (.slice A636 n637 c638), blk (.slice A642 n643 c644), blk (.slice A648 n649 c650), blk (.slice A578 n579 c580), some b89, blk (.slice A36 n37 c38), blk (.slice A14 n15 c16)]) (O := O) (Ow.sm (L := [blk (.slice A893 n894 c895), blk (.slice A883 n884 c885), blk (.slice A835 n836 c837), blk (.slice A636 n637 c638), blk (.slice A642 n643 c644), blk (.slice A648 n649 c650), blk (.slice A578 n579 c580), some b89, blk (.slice A36 n37 c38), blk (.slice A14 n15 c16)]) (O := O) ((((h632.sos g834 hk842).sn g866).so _ g886 hr887).so _ g896 hr897) hc898 (i := 6) rfl (j := 0) rfl (by decide) g907 s908) hc909 (i := 6) rfl (j := 0) rfl (by decide) g919 s920)
                        have h927 := Ow.gv (L := [blk (.slice A916 n917 c918), blk (.slice A883 n884 c885), blk (.slice A835 n836 c837), blk (.slice A636 n637 c638), blk (.slice A642 n643 c644), blk (.slice A648 n649 c650), blk (.slice A578 n579 c580), some b89, blk (.slice A36 n37 c38), blk (.slice A14 n15 c16)]) (O := O) h926 hc921 (i := 6) rfl
                        have hc928 := hc921.drop 6 rfl
                        have h931 := (Ow.sd (L := [blk (.slice A916 n917 c918), blk (.slice A883 n884 c885), blk (.slice A835 n836 c837), blk (.slice A636 n637 c638), blk (.slice A642 n643 c644), blk (.slice A648 n649 c650), blk (.slice A578 n579 c580), some b89, blk (.slice A36 n37 c38), blk (.slice A14 n15 c16)]) (O := O) h922 (i := 0) rfl (j := 6) rfl (by decide))
                        have h932 := Ow.gv (L := [blk (.slice A916 n917 c918), blk (.slice A883 n884 c885), blk (.slice A835 n836 c837), blk (.slice A636 n637 c638), blk (.slice A642 n643 c644), blk (.slice A648 n649 c650), some b89, blk (.slice A36 n37 c38), blk (.slice A14 n15 c16)]) (O := O) h931 hc928 (i := 0) rfl
                        have hc933 := hc928.drop 0 rfl
                        have h936 := (h927.st (.dr _ (L := [blk (.slice A916 n917 c918), blk (.slice A883 n884 c885), blk (.slice A835 n836 c837), blk (.slice A636 n637 c638), blk (.slice A642 n643 c644), blk (.slice A648 n649 c650), some b89, blk (.slice A36 n37 c38), blk (.slice A14 n15 c16)]) (O := O) (j := 0) rfl))
                        refine L_call go12 [.slice A578 n579 c580, .slice A916 n917 c918] rfl ((laws_wsSame.calls w915 hc933.ok r8 A578 n579 c580 h936 ((([] : List Pt) ++ r4) ++ ([(⟨99, 99⟩ : Pt)] : List Pt)) A916 n917 c918 h932 _ H).mono ?_)
                        rintro _ w937 ⟨r12, rfl, H, g938⟩
                        have hc942 := hc921.k0 g938
                        have hM943 := Gm.tm hM923 g938
                        refine L_nil ⟨hM943, ?_⟩
                        refine M_pug 11 (dj := 112) rfl (by kernel_rfl) hM943 rfl rfl (by exact congrArg Value.bool hq872) (P_move (vb r12) rfl) ?_
                        rcases bool_or r12 with hq944 | hq944
                        · have H := ite_t H hq944
                          refine M_pug 12 (dj := 121) rfl (by kernel_rfl) hM943 rfl rfl (by exact congrArg Value.bool hq944) (P_move (.slice A835 n836 c837) rfl) ?_
                          refine M_pug 15 (dj := 121) rfl (by kernel_rfl) hM943 rfl rfl (by exact congrArg Value.bool hq944) (P_move (.slice A36 n37 c38) rfl) ?_
                          refine M_any1 13 (by kernel_rfl) rfl ?_
                          refine L_run (dj := 121) rfl rfl (by exact congrArg Value.bool hq944) ?_
                          have h945 := ((Bx.sm (L := [blk (.slice A904 n905 c906), blk (.slice A883 n884 c885), blk (.slice A835 n836 c837), blk (.slice A636 n637 c638), blk (.slice A642 n643 c644), blk (.slice A648 n649 c650), blk (.slice A578 n579 c580), some b89, blk (.slice A36 n37 c38), blk (.slice A14 n15 c16)]) (O := O) (Bx.sm (L := [blk (.slice A893 n894 c895), blk (.slice A883 n884 c885), blk (.slice A835 n836 c837), blk (.slice A636 n637 c638), blk (.slice A642 n643 c644), blk (.slice A648 n649 c650), blk (.slice A578 n579 c580), some b89, blk (.slice A36 n37 c38), blk (.slice A14 n15 c16)]) (O := O) ((h881.k0 g886).k0 g896) hc898 (i := 7) rfl (j := 0) rfl (by decide) g907) hc909 (i := 7) rfl (j := 0) rfl (by decide) g919).k0 g938)
                          refine L_pu (P_lda ag29 sz29 cL ⟨b89, 0, none⟩ [vi 99, vi 99] rfl rfl (h945.cells (off := 0) rfl)) ?_
                          refine L_nil ⟨hM943, ?_⟩
                          refine M_any1 14 (by kernel_rfl) rfl ?_
                          refine L_run (dj := 121) rfl rfl (by exact congrArg Value.bool hq944) ?_
                          refine L_lit (kd := kPt) ei23 hc942 ([(⟨99, 99⟩ : Pt)] : List Pt) (cells := [vi 99, vi 99]) ⟨[vi 99, vi 99], _, rfl, (kPt.mk _ _ (⟨99, 99⟩ : Pt)), rfl⟩ (fun _ => by kernel_rfl) fun w946 A947 n948 c949 g950 hr951 hc952 h953 => ?_
                          have hM955 := Gm.tm hM943 g950
                          refine L_nil ⟨hM955, ?_⟩
                          refine M_any1 16 (by kernel_rfl) rfl ?_
                          refine L_run (dj := 121) rfl rfl (by exact congrArg Value.bool hq944) ?_
                          have h956 := (((Ow.sm (L := [blk (.slice A904 n905 c906), blk (.slice A883 n884 c885), blk (.slice A835 n836 c837), blk (.slice A636 n637 c638), blk (.slice A642 n643 c644), blk (.slice A648 n649 c650), blk (.slice A578 n579 c580), some b89, blk (.slice A36 n37 c38), blk (.slice A14 n15 c16)]) (O := O) (Ow.sm (L := [blk (.slice A893 n894 c895), blk (.slice A883 n884 c885), blk (.slice A835 n836 c837), blk (.slice A636 n637 c638), blk (.slice A642 n643 c644), blk (.slice A648 n649 c650), blk (.slice A578 n579 c580), some b89, blk (.slice A36 n37 c38), blk (.slice A14 n15 c16)]) (O := O) h902 hc898 (i := 8) rfl (j := 0) rfl (by decide) g907 s908) hc909 (i := 8) rfl (j := 0) rfl (by decide) g919 s920).sn g938).so _ g950 hr951)
                          refine L_app ei23 hc952 (.slice A947 n948 c949) ([(⟨99, 99⟩ : Pt)] : List Pt) r4 rfl h953 (.slice A36 n37 c38) rfl h956.sx 0 rfl hb871 fun w957 A958 n959 c960 g961 s962 hc963 h964 => ?_
                          have hM965 := Gm.tq hM955 g961 (hv_new hM943 hr951)
                          have hv966 := hv_app (L := [blk (.slice A947 n948 c949), blk (.slice A916 n917 c918), blk (.slice A883 n884 c885), blk (.slice A835 n836 c837), blk (.slice A636 n637 c638), blk (.slice A642 n643 c644), blk (.slice A648 n649 c650), blk (.slice A578 n579 c580), some b89, blk (.slice A36 n37 c38), blk (.slice A14 n15 c16)]) (O := O) (i := 0) hM955 rfl (hv_new hM943 hr951) s962 hc963
                          refine L_nil ⟨hM965, ?_⟩
                          refine M_any1 17 (by kernel_rfl) rfl ?_
                          refine L_run (dj := 121) rfl rfl (by exact congrArg Value.bool hq944) ?_
                          have h968 := (Ow.sm (L := [blk (.slice A947 n948 c949), blk (.slice A916 n917 c918), blk (.slice A883 n884 c885), blk (.slice A835 n836 c837), blk (.slice A636 n637 c638), blk (.slice A642 n643 c644), blk (.slice A648 n649 c650), blk (.slice A578 n579 c580), some b89, blk (.slice A36 n37 c38), blk (.slice A14 n15 c16)]) (O := O) (((Ow.sm (L := [blk (.slice A904 n905 c906), blk (.slice A883 n884 c885), blk (.slice A835 n836 c837), blk (.slice A636 n637 c638), blk (.slice A642 n643 c644), blk (.slice A648 n649 c650), blk (.slice A578 n579 c580), some b89, blk (.slice A36 n37 c38), blk (.slice A14 n15 c16)]) (O := O) (Ow.sm (L := [blk (.slice A893 n894 c895), blk (.slice A883 n884 c885), blk (.slice A835 n836 c837), blk (.slice A636 n637 c638), blk (.slice A642 n643 c644), blk (.slice A648 n649 c650), blk (.slice A578 n579 c580), some b89, blk (.slice A36 n37 c38), blk (.slice A14 n15 c16)]) (O := O) (((h845.sn g866).so _ g886 hr887).so _ g896 hr897) hc898 (i := 2) rfl (j := 0) rfl (by decide) g907 s908) hc909 (i := 2) rfl (j := 0) rfl (by decide) g919 s920).sn g938).so _ g950 hr951) hc952 (i := 3) rfl (j := 0) rfl (by decide) g961 s962)
                          have h969 := Ow.gv (L := [blk (.slice A958 n959 c960), blk (.slice A916 n917 c918), blk (.slice A883 n884 c885), blk (.slice A835 n836 c837), blk (.slice A636 n637 c638), blk (.slice A642 n643 c644), blk (.slice A648 n649 c650), blk (.slice A578 n579 c580), some b89, blk (.slice A36 n37 c38), blk (.slice A14 n15 c16)]) (O := O) h968 hc963 (i := 3) rfl
                          have hc970 := hc963.drop 3 rfl
                          have h973 := (Ow.sd (L := [blk (.slice A958 n959 c960), blk (.slice A916 n917 c918), blk (.slice A883 n884 c885), blk (.slice A835 n836 c837), blk (.slice A636 n637 c638), blk (.slice A642 n643 c644), blk (.slice A648 n649 c650), blk (.slice A578 n579 c580), some b89, blk (.slice A36 n37 c38), blk (.slice A14 n15 c16)]) (O := O) h964 (i := 0) rfl (j := 3) rfl (by decide))
                          have h974 := Ow.gv (L := [blk (.slice A958 n959 c960), blk (.slice A916 n917 c918), blk (.slice A883 n884 c885), blk (.slice A636 n637 c638), blk (.slice A642 n643 c644), blk (.slice A648 n649 c650), blk (.slice A578 n579 c580), some b89, blk (.slice A36 n37 c38), blk (.slice A14 n15 c16)]) (O := O) h973 hc970 (i := 0) rfl
                          have hc975 := hc970.drop 0 rfl
                          have h978 := (h969.st (.dr _ (L := [blk (.slice A958 n959 c960), blk (.slice A916 n917 c918), blk (.slice A883 n884 c885), blk (.slice A636 n637 c638), blk (.slice A642 n643 c644), blk (.slice A648 n649 c650), blk (.slice A578 n579 c580), some b89, blk (.slice A36 n37 c38), blk (.slice A14 n15 c16)]) (O := O) (j := 0) rfl))
                          refine L_call go12 [.slice A835 n836 c837, .slice A958 n959 c960] rfl ((laws_wsSame.calls w957 hc975.ok r10 A835 n836 c837 h978 (([(⟨99, 99⟩ : Pt)] : List Pt) ++ r4) A958 n959 c960 h974 _ H).mono ?_)
                          rintro _ w979 ⟨r13, rfl, H, g980⟩
                          have hc984 := hc963.k0 g980
                          have hM985 := Gm.tm hM965 g980
                          refine L_nil ⟨hM985, ?_⟩
                          refine M_pug 18 (dj := 112) rfl (by kernel_rfl) hM985 rfl rfl (by exact congrArg Value.bool hq872) (P_pick true (vb r13) (by exact congrArg Value.bool hq944) rfl) ?_
                          refine M_pu 19 rfl (by kernel_rfl) hM985 (P_pick false (vb r13) (by exact congrArg Value.bool hq872) rfl) ?_
                          refine M_pu 20 rfl (by kernel_rfl) hM985 (P_assign (vb r13) rfl) ?_
                          refine M_nil (by kernel_rfl) ?_
                          refine W_ret ?_
                          have hc986 := hc984.drop 0 rfl
                          have hc987 := hc986.drop 0 rfl
                          have hc988 := hc987.drop 0 rfl
                          have hc989 := hc988.drop 0 rfl
                          have hc990 := hc989.drop 0 rfl
                          have hc991 := hc990.drop 0 rfl
                          have hc992 := hc991.drop 0 rfl
                          have hc993 := hc992.drop 0 rfl
                          have hc994 := hc993.drop 0 rfl
                          have hc995 := hc994.drop 0 rfl
                          have hc996 := hc995.drop 0 rfl
                          exact ⟨[vb r13], ⟨_, rfl, rfl⟩, r13, rfl, H, hc996.gr.g0⟩
                        · have H := ite_f H hq944
                          refine M_pass 12 (dj := 121) rfl (by kernel_rfl) hM943 rfl rfl (.inl (by exact congrArg Value.bool hq944)) ?_
                          refine M_pass 15 (dj := 121) rfl (by kernel_rfl) hM943 rfl rfl (.inl (by exact congrArg Value.bool hq944)) ?_
                          refine M_any1 13 (by kernel_rfl) rfl ?_
                          refine L_pass (dj := 121) rfl rfl (.inl (by exact congrArg Value.bool hq944)) ?_
                          refine L_nil ⟨hM943, ?_⟩
                          refine M_any1 14 (by kernel_rfl) rfl ?_
                          refine L_pass (dj := 121) rfl rfl (.inl (by exact congrArg Value.bool hq944)) ?_
                          refine L_nil ⟨hM943, ?_⟩
                          refine M_any1 16 (by kernel_rfl) rfl ?_
                          refine L_pass (dj := 121) rfl rfl (.inl (by exact congrArg Value.bool hq944)) ?_
                          refine L_nil ⟨hM943, ?_⟩
                          refine M_any1 17 (by kernel_rfl) rfl ?_
                          refine L_pass (dj := 121) rfl rfl (.inl (by exact congrArg Value.bool hq944)) ?_
                          refine L_nil ⟨hM943, ?_⟩
                          refine M_pug 18 (dj := 112) rfl (by kernel_rfl) hM943 rfl rfl (by exact congrArg Value.bool hq872) (P_pick false (vb false) (by exact congrArg Value.bool hq944) rfl) ?_
                          refine M_pu 19 rfl (by kernel_rfl) hM943 (P_pick false (vb false) (by exact congrArg Value.bool hq872) rfl) ?_
                          refine M_pu 20 rfl (by kernel_rfl) hM943 (P_assign (vb false) rfl) ?_
                          refine M_nil (by kernel_rfl) ?_
                          refine W_ret ?_
                          have hc997 := hc942.drop 0 rfl
                          have hc998 := hc997.drop 0 rfl
                          have hc999 := hc998.drop 0 rfl
                          have hc1000 := hc999.drop 0 rfl
                          have hc1001 := hc1000.drop 0 rfl
                          have hc1002 := hc1001.drop 0 rfl
                          have hc1003 := hc1002.drop 0 rfl
                          have hc1004 := hc1003.drop 0 rfl
                          have hc1005 := hc1004.drop 0 rfl
                          have hc1006 := hc1005.drop 0 rfl
                          exact ⟨[vb false], ⟨_, rfl, rfl⟩, false, rfl, H, hc1006.gr.g0⟩
end Go.Proofs.Ytndjggncgpjolaa
