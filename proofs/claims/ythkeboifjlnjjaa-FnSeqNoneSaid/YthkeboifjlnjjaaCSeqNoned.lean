/- It is proved here that the law FnSeqNone of the given program holds whatever it is handed: the walks through the code, the plain laws and the row, in this order.
   Conditions: none. -/
import Derived.Below
import Derived.ChangeArms
import Derived.ChangeOld
import Derived.ChangeSlices
import Derived.DataReads
import Derived.Deep.Quiet
import Derived.KernelRfl
import Derived.Laws.Build
import Derived.Laws.OwnMore
import Derived.Laws.Slices
import Derived.Laws.StructEq
import Derived.OpenShut
import Derived.ProofKit
import Derived.ShutString
import Derived.SizedLaws
import Derived.StillTail
import Derived.Test.YthkeboifjlnjjaaProg
import Derived.Test.YthkeboifjlnjjaaRows
import Derived.WalkKit
import Derived.Test.YthkeboifjlnjjaaCSeqNonea
import Derived.Test.YthkeboifjlnjjaaCSeqNoneb
import Derived.Test.YthkeboifjlnjjaaCSeqNonec
namespace Go.Proofs.Ythkeboifjlnjjaa
open Go.RowKit
set_option linter.unusedVariables false
def laws_FnSeqNone.E (code : List UInt8) (Q : Bool → Prop) : Prop :=
  (if decide ((code.length : Int) > 1048576) then Q true else spec_DrawSeqMerge.E code (fun r r2 r3 => impl_SeqMerge.E [] r2 r3 (fun r4 r5 => spec_SeqMerge.E [] r2 r3 (fun r6 r7 => (if r5 != r7 then (if r5 == r7 then laws_wsSame.E r4 r6 (fun r8 => Q r8) else Q false) else laws_wsSame.E r4 r6 (fun r9 => (if !r9 then (if r5 == r7 then laws_wsSame.E r4 r6 (fun r10 => Q r10) else Q false) else (if decide ((r2.length : Int) > 12) then (if r5 == r7 then laws_wsSame.E r4 r6 (fun r11 => Q r11) else Q false) else (if decide ((r3.length : Int) > 12) then (if r5 == r7 then laws_wsSame.E r4 r6 (fun r12 => Q r12) else Q false) else (if (r2.length : Int) == 0 then (if r5 then laws_wsSame.E r4 r3 (fun r13 => Q r13) else Q false) else (if (r3.length : Int) == 0 then (if r5 then laws_wsSame.E r4 r2 (fun r14 => Q r14) else Q false) else laws_wsSame.E r2 r3 (fun r15 => (if r5 == r15 then (if !r5 then Q true else laws_wsSame.E r4 r2 (fun r16 => Q r16)) else Q false)))))))))))))
set_option maxHeartbeats 8000000 in
set_option maxRecDepth 100000 in
theorem laws_FnSeqNone.calls {O : Ob} (w0 : World) (hO : Ok w0 O) (code : List UInt8) (A1 : Option Addr) (n2 c3 : Nat) (hp4 : Sl Kd.byte w0 (Fr O) (.slice A1 n2 c3) code) (Q : Bool → Prop) (h : laws_FnSeqNone.E code Q) :
    Ret Try.prog 3 [.slice A1 n2 c3] w0 (fun v w' => ∃ (r0 : Bool), v = vb r0 ∧ Q r0 ∧ Gr w0 w' none) := by
  have H : (if decide ((code.length : Int) > 1048576) then Q true else spec_DrawSeqMerge.E code (fun r r2 r3 => impl_SeqMerge.E [] r2 r3 (fun r4 r5 => spec_SeqMerge.E [] r2 r3 (fun r6 r7 => (if r5 != r7 then (if r5 == r7 then laws_wsSame.E r4 r6 (fun r8 => Q r8) else Q false) else laws_wsSame.E r4 r6 (fun r9 => (if !r9 then (if r5 == r7 then laws_wsSame.E r4 r6 (fun r10 => Q r10) else Q false) else (if decide ((r2.length : Int) > 12) then (if r5 == r7 then laws_wsSame.E r4 r6 (fun r11 => Q r11) else Q false) else (if decide ((r3.length : Int) > 12) then (if r5 == r7 then laws_wsSame.E r4 r6 (fun r12 => Q r12) else Q false) else (if (r2.length : Int) == 0 then (if r5 then laws_wsSame.E r4 r3 (fun r13 => Q r13) else Q false) else (if (r3.length : Int) == 0 then (if r5 then laws_wsSame.E r4 r2 (fun r14 => Q r14) else Q false) else laws_wsSame.E r2 r3 (fun r15 => (if r5 == r15 then (if !r5 then Q true else laws_wsSame.E r4 r2 (fun r16 => Q r16)) else Q false))))))))))))) := h
  clear h
  have hc0 := Ct.init hO
  refine Ret_enter Try.func3 rfl 90 rfl [.tmp 2] rfl rfl ?_
  refine W_seq ?_
  refine W_reg ?_
  refine L_pu (P_assign (vb false) rfl) ?_
  refine L_nil ?_
  refine W_seq ?_
  refine W_seq ?_
  refine W_reg ?_
  refine L_pu (P_move (.slice A1 n2 c3) rfl) ?_
  have hl6 := hp4.le
  refine L_pu (P_len Try.underlying22 A1 n2 c3 hp4.len rfl) ?_
  refine L_pu (P_cmp (code.length : Int) 1048576 (decide ((code.length : Int) > 1048576)) rfl rfl rfl) ?_
  refine L_nil ?_
  refine W_cond (decide ((code.length : Int) > 1048576)) rfl (fun hq7 => ?_) (fun hq7 => ?_)
  · have H := ite_t H hq7
    refine W_seq ?_
    refine W_reg ?_
    refine L_pu (P_assign (vb true) rfl) ?_
    refine L_nil ?_
    refine W_ret ?_
    exact ⟨[vb true], ⟨_, rfl, rfl⟩, true, rfl, H, hc0.gr⟩
  · have H := ite_f H hq7
    refine W_skip ?_
    refine W_seq ?_
    refine W_reg ?_
    refine L_pu (P_move (.slice A1 n2 c3) rfl) ?_
    refine L_call go9 [.slice A1 n2 c3] rfl ((spec_DrawSeqMerge.calls w0 hc0.ok code A1 n2 c3 hp4 _ H).mono ?_)
    rintro _ w8 ⟨r, r2, r3, A10, n11, c12, A14, n15, c16, A19, n20, c21, rfl, H, g9, hk24, hk25, h13, h17, h22⟩
    have hc26 := hc0.owns g9 hk24 hk25
    refine L_pu (P_move (.tuple #[.slice A10 n11 c12, .slice A14 n15 c16, .slice A19 n20 c21]) rfl) ?_
    refine L_pu (P_ext [.slice A10 n11 c12, .slice A14 n15 c16, .slice A19 n20 c21] 0 (.slice A10 n11 c12) rfl rfl) ?_
    refine L_pu (P_ext [.slice A10 n11 c12, .slice A14 n15 c16, .slice A19 n20 c21] 1 (.slice A14 n15 c16) rfl rfl) ?_
    refine L_pu (P_ext [.slice A10 n11 c12, .slice A14 n15 c16, .slice A19 n20 c21] 2 (.slice A19 n20 c21) rfl rfl) ?_
    refine L_pu (P_assign (.slice A10 n11 c12) rfl) ?_
    refine L_pu (P_assign (.slice A14 n15 c16) rfl) ?_
    refine L_pu (P_assign (.slice A19 n20 c21) rfl) ?_
    refine L_nil ?_
    refine W_seq ?_
    refine W_reg ?_
    refine L_pu (P_move (.slice A14 n15 c16) rfl) ?_
    refine L_pu (P_move (.slice A19 n20 c21) rfl) ?_
    have h29 := Ow.gv (L := [blk (.slice A14 n15 c16)]) (O := O) h17 hc26 (i := 0) rfl
    have hc30 := hc26.drop 0 rfl
    have h32 := (h22.st (.dr _ (L := [blk (.slice A14 n15 c16)]) (O := O) (j := 0) rfl))
    refine L_call go10 [.slice none 0 0, .slice A14 n15 c16, .slice A19 n20 c21] rfl ((impl_SeqMerge.calls w8 hc30.ok [] none 0 0 (Sl.nil _ _ _ none 0 (by decide)) r2 A14 n15 c16 h29 r3 A19 n20 c21 h32 _ H).mono ?_)
    rintro _ w33 ⟨r4, r5, A35, n36, c37, rfl, H, g34, hk41, hk42, h38⟩
    have hk44 := Ok.unl (L := [blk (.slice A14 n15 c16)]) (L' := []) (O := O) hc26 g34 hk41 hk42
    have h45 := Ow.unl (L := [blk (.slice A14 n15 c16)]) (L' := []) (O := O) (fun _ _ _ _ _ _ h => h) (.cons _ (.slnil)) h38
    have hc43 := hc26.owns g34 hk44 hk42
    refine L_pu (P_move (.tuple #[.slice A35 n36 c37, vb r5]) rfl) ?_
    refine L_pu (P_ext [.slice A35 n36 c37, vb r5] 0 (.slice A35 n36 c37) rfl rfl) ?_
    refine L_pu (P_ext [.slice A35 n36 c37, vb r5] 1 (vb r5) rfl rfl) ?_
    refine L_pu (P_assign (.slice A35 n36 c37) rfl) ?_
    refine L_pu (P_assign (vb r5) rfl) ?_
    refine L_nil ?_
    refine W_seq ?_
    refine W_reg ?_
    refine L_pu (P_move (.slice A14 n15 c16) rfl) ?_
    refine L_pu (P_move (.slice A19 n20 c21) rfl) ?_
    have h46 := (h17.sos g34 hk42)
    have h47 := Ow.gv (L := [blk (.slice A35 n36 c37), blk (.slice A14 n15 c16)]) (O := O) h46 hc43 (i := 1) rfl
    have hc48 := hc43.drop 1 rfl
    have h50 := ((h22.st (.owns _ g34 hk42)).st (.dr _ (L := [blk (.slice A35 n36 c37), blk (.slice A14 n15 c16)]) (O := O) (j := 1) rfl))
    refine L_call go11 [.slice none 0 0, .slice A14 n15 c16, .slice A19 n20 c21] rfl ((spec_SeqMerge.calls w33 hc48.ok [] none 0 0 (Sl.nil _ _ _ none 0 (by decide)) r2 A14 n15 c16 h47 r3 A19 n20 c21 h50 _ H).mono ?_)
    rintro _ w51 ⟨r6, r7, A53, n54, c55, rfl, H, g52, hk59, hk60, h56⟩
    have hk62 := Ok.unl (L := [blk (.slice A35 n36 c37), blk (.slice A14 n15 c16)]) (L' := [blk (.slice A35 n36 c37)]) (O := O) hc43 g52 hk59 hk60
    have h63 := Ow.unl (L := [blk (.slice A35 n36 c37), blk (.slice A14 n15 c16)]) (L' := [blk (.slice A35 n36 c37)]) (O := O) (fun _ _ _ _ _ _ h => h) (.cons_cons _ (.cons _ (.slnil))) h56
    have hc61 := hc43.owns g52 hk62 hk60
    refine L_pu (P_move (.tuple #[.slice A53 n54 c55, vb r7]) rfl) ?_
    refine L_pu (P_ext [.slice A53 n54 c55, vb r7] 0 (.slice A53 n54 c55) rfl rfl) ?_
    refine L_pu (P_ext [.slice A53 n54 c55, vb r7] 1 (vb r7) rfl rfl) ?_
    refine L_pu (P_assign (.slice A53 n54 c55) rfl) ?_
    refine L_pu (P_assign (vb r7) rfl) ?_
    refine L_nil ?_
    refine W_seq ?_
    refine W_seq ?_
    refine W_reg ?_
    refine L_pu (P_move (vb r5) rfl) ?_
    refine L_pu (P_move (vb r7) rfl) ?_
    refine L_pu (P_bcmp Try.underlying4 r5 r7 (r5 != r7) rfl rfl rfl) ?_
    refine L_pu (P_move (vb (r5 != r7)) rfl) ?_
    rcases bool_or (r5 != r7) with hq64 | hq64
    · have H := ite_t H hq64
      refine L_pass (dj := 34) rfl rfl (.inl (by exact congrArg Value.bool hq64)) ?_
      refine L_pass (dj := 34) rfl rfl (.inl (by exact congrArg Value.bool hq64)) ?_
      refine L_pass (dj := 34) rfl rfl (.inl (by exact congrArg Value.bool hq64)) ?_
      refine L_pass (dj := 34) rfl rfl (.inl (by exact congrArg Value.bool hq64)) ?_
      refine L_pu (P_pick true (vb true) (by exact congrArg Value.bool hq64) rfl) ?_
      refine L_pu (P_move (vb true) rfl) ?_
      refine L_pass (dj := 40) rfl rfl (.inl rfl) ?_
      refine L_pass (dj := 40) rfl rfl (.inl rfl) ?_
      refine L_pass (dj := 40) rfl rfl (.inl rfl) ?_
      refine L_pu (P_pick true (vb true) (by exact congrArg Value.bool rfl) rfl) ?_
      refine L_pu (P_move (vb true) rfl) ?_
      refine L_pass (dj := 45) rfl rfl (.inl rfl) ?_
      refine L_pass (dj := 45) rfl rfl (.inl rfl) ?_
      refine L_pass (dj := 45) rfl rfl (.inl rfl) ?_
      refine L_pu (P_pick true (vb true) (by exact congrArg Value.bool rfl) rfl) ?_
      refine L_nil ?_
      refine W_ct (b := true) rfl rfl ?_
      refine W_seq ?_
      refine W_reg ?_
      refine L_pu (P_move (vb r5) rfl) ?_
      refine L_pu (P_move (vb r7) rfl) ?_
      refine L_pu (P_bcmp Try.underlying4 r5 r7 (r5 == r7) rfl rfl rfl) ?_
      refine L_pu (P_move (vb (r5 == r7)) rfl) ?_
      rcases bool_or (r5 == r7) with hq65 | hq65
      · have H := ite_t H hq65
        refine L_run (dj := 53) rfl rfl (by exact congrArg Value.bool hq65) ?_
        refine L_pu (P_move (.slice A35 n36 c37) rfl) ?_
        refine L_run (dj := 53) rfl rfl (by exact congrArg Value.bool hq65) ?_
        refine L_pu (P_move (.slice A53 n54 c55) rfl) ?_
        refine L_run (dj := 53) rfl rfl (by exact congrArg Value.bool hq65) ?_
        have h66 := (h45.sos g52 hk60)
        have h67 := Ow.gv (L := [blk (.slice A53 n54 c55), blk (.slice A35 n36 c37), blk (.slice A14 n15 c16)]) (O := O) h66 hc61 (i := 1) rfl
        have hc68 := hc61.drop 1 rfl
        have h70 := (Ow.sd (L := [blk (.slice A53 n54 c55), blk (.slice A35 n36 c37), blk (.slice A14 n15 c16)]) (O := O) h63 (i := 0) rfl (j := 1) rfl (by decide))
        have h71 := Ow.gv (L := [blk (.slice A53 n54 c55), blk (.slice A14 n15 c16)]) (O := O) h70 hc68 (i := 0) rfl
        have hc72 := hc68.drop 0 rfl
        have h74 := (h67.st (.dr _ (L := [blk (.slice A53 n54 c55), blk (.slice A14 n15 c16)]) (O := O) (j := 0) rfl))
        refine L_call go12 [.slice A35 n36 c37, .slice A53 n54 c55] rfl ((laws_wsSame.calls w51 hc72.ok r4 A35 n36 c37 h74 r6 A53 n54 c55 h71 _ H).mono ?_)
        rintro _ w75 ⟨r8, rfl, H, g76⟩
        have hc80 := hc61.k0 g76
        refine L_pu (P_pick true (vb r8) (by exact congrArg Value.bool hq65) rfl) ?_
        refine L_pu (P_assign (vb r8) rfl) ?_
        refine L_nil ?_
        refine W_ret ?_
        have hc81 := hc80.drop 0 rfl
        have hc82 := hc81.drop 0 rfl
        have hc83 := hc82.drop 0 rfl
        exact ⟨[vb r8], ⟨_, rfl, rfl⟩, r8, rfl, H, hc83.gr⟩
      · have H := ite_f H hq65
        refine L_pass (dj := 53) rfl rfl (.inl (by exact congrArg Value.bool hq65)) ?_
        refine L_pass (dj := 53) rfl rfl (.inl (by exact congrArg Value.bool hq65)) ?_
        refine L_pass (dj := 53) rfl rfl (.inl (by exact congrArg Value.bool hq65)) ?_
        refine L_pu (P_pick false (vb false) (by exact congrArg Value.bool hq65) rfl) ?_
        refine L_pu (P_assign (vb false) rfl) ?_
        refine L_nil ?_
        refine W_ret ?_
        have hc84 := hc61.drop 0 rfl
        have hc85 := hc84.drop 0 rfl
        have hc86 := hc85.drop 0 rfl
        exact ⟨[vb false], ⟨_, rfl, rfl⟩, false, rfl, H, hc86.gr⟩
    · have H := ite_f H hq64
      refine L_run (dj := 34) rfl rfl (by exact congrArg Value.bool hq64) ?_
      refine L_pu (P_move (.slice A35 n36 c37) rfl) ?_
      refine L_run (dj := 34) rfl rfl (by exact congrArg Value.bool hq64) ?_
      refine L_pu (P_move (.slice A53 n54 c55) rfl) ?_
      refine L_run (dj := 34) rfl rfl (by exact congrArg Value.bool hq64) ?_
      have h87 := (h45.sos g52 hk60)
      have h88 := Ow.gv (L := [blk (.slice A53 n54 c55), blk (.slice A35 n36 c37), blk (.slice A14 n15 c16)]) (O := O) h87 hc61 (i := 1) rfl
      have hc89 := hc61.drop 1 rfl
      have h91 := (Ow.sd (L := [blk (.slice A53 n54 c55), blk (.slice A35 n36 c37), blk (.slice A14 n15 c16)]) (O := O) h63 (i := 0) rfl (j := 1) rfl (by decide))
      have h92 := Ow.gv (L := [blk (.slice A53 n54 c55), blk (.slice A14 n15 c16)]) (O := O) h91 hc89 (i := 0) rfl
      have hc93 := hc89.drop 0 rfl
      have h95 := (h88.st (.dr _ (L := [blk (.slice A53 n54 c55), blk (.slice A14 n15 c16)]) (O := O) (j := 0) rfl))
      refine L_call go12 [.slice A35 n36 c37, .slice A53 n54 c55] rfl ((laws_wsSame.calls w51 hc93.ok r4 A35 n36 c37 h95 r6 A53 n54 c55 h92 _ H).mono ?_)
      rintro _ w96 ⟨r9, rfl, H, g97⟩
      have hc101 := hc61.k0 g97
      refine L_run (dj := 34) rfl rfl (by exact congrArg Value.bool hq64) ?_
      refine L_pu (P_not r9 rfl) ?_
      refine L_pu (P_pick false (vb (!r9)) (by exact congrArg Value.bool hq64) rfl) ?_
      refine L_pu (P_move (vb (!r9)) rfl) ?_
      rcases bool_or (!r9) with hq102 | hq102
      · have H := ite_t H hq102
        refine L_pass (dj := 40) rfl rfl (.inl (by exact congrArg Value.bool hq102)) ?_
        refine L_pass (dj := 40) rfl rfl (.inl (by exact congrArg Value.bool hq102)) ?_
        refine L_pass (dj := 40) rfl rfl (.inl (by exact congrArg Value.bool hq102)) ?_
        refine L_pu (P_pick true (vb true) (by exact congrArg Value.bool hq102) rfl) ?_
        refine L_pu (P_move (vb true) rfl) ?_
        refine L_pass (dj := 45) rfl rfl (.inl rfl) ?_
        refine L_pass (dj := 45) rfl rfl (.inl rfl) ?_
        refine L_pass (dj := 45) rfl rfl (.inl rfl) ?_
        refine L_pu (P_pick true (vb true) (by exact congrArg Value.bool rfl) rfl) ?_
        refine L_nil ?_
        refine W_ct (b := true) rfl rfl ?_
        refine W_seq ?_
        refine W_reg ?_
        refine L_pu (P_move (vb r5) rfl) ?_
        refine L_pu (P_move (vb r7) rfl) ?_
        refine L_pu (P_bcmp Try.underlying4 r5 r7 (r5 == r7) rfl rfl rfl) ?_
        refine L_pu (P_move (vb (r5 == r7)) rfl) ?_
        rcases bool_or (r5 == r7) with hq103 | hq103
        · have H := ite_t H hq103
          refine L_run (dj := 53) rfl rfl (by exact congrArg Value.bool hq103) ?_
          refine L_pu (P_move (.slice A35 n36 c37) rfl) ?_
          refine L_run (dj := 53) rfl rfl (by exact congrArg Value.bool hq103) ?_
          refine L_pu (P_move (.slice A53 n54 c55) rfl) ?_
          refine L_run (dj := 53) rfl rfl (by exact congrArg Value.bool hq103) ?_
          have h104 := ((h45.sos g52 hk60).sn g97)
          have h105 := Ow.gv (L := [blk (.slice A53 n54 c55), blk (.slice A35 n36 c37), blk (.slice A14 n15 c16)]) (O := O) h104 hc101 (i := 1) rfl
          have hc106 := hc101.drop 1 rfl
          have h108 := (Ow.sd (L := [blk (.slice A53 n54 c55), blk (.slice A35 n36 c37), blk (.slice A14 n15 c16)]) (O := O) (h63.sn g97) (i := 0) rfl (j := 1) rfl (by decide))
          have h109 := Ow.gv (L := [blk (.slice A53 n54 c55), blk (.slice A14 n15 c16)]) (O := O) h108 hc106 (i := 0) rfl
          have hc110 := hc106.drop 0 rfl
          have h112 := (h105.st (.dr _ (L := [blk (.slice A53 n54 c55), blk (.slice A14 n15 c16)]) (O := O) (j := 0) rfl))
          refine L_call go12 [.slice A35 n36 c37, .slice A53 n54 c55] rfl ((laws_wsSame.calls w96 hc110.ok r4 A35 n36 c37 h112 r6 A53 n54 c55 h109 _ H).mono ?_)
          rintro _ w113 ⟨r10, rfl, H, g114⟩
          have hc118 := hc101.k0 g114
          refine L_pu (P_pick true (vb r10) (by exact congrArg Value.bool hq103) rfl) ?_
          refine L_pu (P_assign (vb r10) rfl) ?_
          refine L_nil ?_
          refine W_ret ?_
          have hc119 := hc118.drop 0 rfl
          have hc120 := hc119.drop 0 rfl
          have hc121 := hc120.drop 0 rfl
          exact ⟨[vb r10], ⟨_, rfl, rfl⟩, r10, rfl, H, hc121.gr⟩
        · have H := ite_f H hq103
          refine L_pass (dj := 53) rfl rfl (.inl (by exact congrArg Value.bool hq103)) ?_
          refine L_pass (dj := 53) rfl rfl (.inl (by exact congrArg Value.bool hq103)) ?_
          refine L_pass (dj := 53) rfl rfl (.inl (by exact congrArg Value.bool hq103)) ?_
          refine L_pu (P_pick false (vb false) (by exact congrArg Value.bool hq103) rfl) ?_
          refine L_pu (P_assign (vb false) rfl) ?_
          refine L_nil ?_
          refine W_ret ?_
          have hc122 := hc101.drop 0 rfl
          have hc123 := hc122.drop 0 rfl
          have hc124 := hc123.drop 0 rfl
          exact ⟨[vb false], ⟨_, rfl, rfl⟩, false, rfl, H, hc124.gr⟩
      · have H := ite_f H hq102
        refine L_run (dj := 40) rfl rfl (by exact congrArg Value.bool hq102) ?_
        refine L_pu (P_move (.slice A14 n15 c16) rfl) ?_
        refine L_run (dj := 40) rfl rfl (by exact congrArg Value.bool hq102) ?_
        have h125 := (((h17.sos g34 hk42).sos g52 hk60).sn g97)
        have hl126 := h125.le
        refine L_pu (P_len Try.underlying23 A14 n15 c16 h125.len rfl) ?_
        refine L_run (dj := 40) rfl rfl (by exact congrArg Value.bool hq102) ?_
        refine L_pu (P_cmp (r2.length : Int) 12 (decide ((r2.length : Int) > 12)) rfl rfl rfl) ?_
        refine L_pu (P_pick false (vb (decide ((r2.length : Int) > 12))) (by exact congrArg Value.bool hq102) rfl) ?_
        refine L_pu (P_move (vb (decide ((r2.length : Int) > 12))) rfl) ?_
        rcases bool_or (decide ((r2.length : Int) > 12)) with hq127 | hq127
        · have H := ite_t H hq127
          refine L_pass (dj := 45) rfl rfl (.inl (by exact congrArg Value.bool hq127)) ?_
          refine L_pass (dj := 45) rfl rfl (.inl (by exact congrArg Value.bool hq127)) ?_
          refine L_pass (dj := 45) rfl rfl (.inl (by exact congrArg Value.bool hq127)) ?_
          refine L_pu (P_pick true (vb true) (by exact congrArg Value.bool hq127) rfl) ?_
          refine L_nil ?_
          refine W_ct (b := true) rfl rfl ?_
          refine W_seq ?_
          refine W_reg ?_
          refine L_pu (P_move (vb r5) rfl) ?_
          refine L_pu (P_move (vb r7) rfl) ?_
          refine L_pu (P_bcmp Try.underlying4 r5 r7 (r5 == r7) rfl rfl rfl) ?_
          refine L_pu (P_move (vb (r5 == r7)) rfl) ?_
          rcases bool_or (r5 == r7) with hq128 | hq128
          · have H := ite_t H hq128
            refine L_run (dj := 53) rfl rfl (by exact congrArg Value.bool hq128) ?_
            refine L_pu (P_move (.slice A35 n36 c37) rfl) ?_
            refine L_run (dj := 53) rfl rfl (by exact congrArg Value.bool hq128) ?_
            refine L_pu (P_move (.slice A53 n54 c55) rfl) ?_
            refine L_run (dj := 53) rfl rfl (by exact congrArg Value.bool hq128) ?_
            have h129 := ((h45.sos g52 hk60).sn g97)
            have h130 := Ow.gv (L := [blk (.slice A53 n54 c55), blk (.slice A35 n36 c37), blk (.slice A14 n15 c16)]) (O := O) h129 hc101 (i := 1) rfl
            have hc131 := hc101.drop 1 rfl
            have h133 := (Ow.sd (L := [blk (.slice A53 n54 c55), blk (.slice A35 n36 c37), blk (.slice A14 n15 c16)]) (O := O) (h63.sn g97) (i := 0) rfl (j := 1) rfl (by decide))
            have h134 := Ow.gv (L := [blk (.slice A53 n54 c55), blk (.slice A14 n15 c16)]) (O := O) h133 hc131 (i := 0) rfl
            have hc135 := hc131.drop 0 rfl
            have h137 := (h130.st (.dr _ (L := [blk (.slice A53 n54 c55), blk (.slice A14 n15 c16)]) (O := O) (j := 0) rfl))
            refine L_call go12 [.slice A35 n36 c37, .slice A53 n54 c55] rfl ((laws_wsSame.calls w96 hc135.ok r4 A35 n36 c37 h137 r6 A53 n54 c55 h134 _ H).mono ?_)
            rintro _ w138 ⟨r11, rfl, H, g139⟩
            have hc143 := hc101.k0 g139
            refine L_pu (P_pick true (vb r11) (by exact congrArg Value.bool hq128) rfl) ?_
            refine L_pu (P_assign (vb r11) rfl) ?_
            refine L_nil ?_
            refine W_ret ?_
            have hc144 := hc143.drop 0 rfl
            have hc145 := hc144.drop 0 rfl
            have hc146 := hc145.drop 0 rfl
            exact ⟨[vb r11], ⟨_, rfl, rfl⟩, r11, rfl, H, hc146.gr⟩
          · have H := ite_f H hq128
            refine L_pass (dj := 53) rfl rfl (.inl (by exact congrArg Value.bool hq128)) ?_
            refine L_pass (dj := 53) rfl rfl (.inl (by exact congrArg Value.bool hq128)) ?_
            refine L_pass (dj := 53) rfl rfl (.inl (by exact congrArg Value.bool hq128)) ?_
            refine L_pu (P_pick false (vb false) (by exact congrArg Value.bool hq128) rfl) ?_
            refine L_pu (P_assign (vb false) rfl) ?_
            refine L_nil ?_
            refine W_ret ?_
            have hc147 := hc101.drop 0 rfl
            have hc148 := hc147.drop 0 rfl
            have hc149 := hc148.drop 0 rfl
            exact ⟨[vb false], ⟨_, rfl, rfl⟩, false, rfl, H, hc149.gr⟩
        · have H := ite_f H hq127
          refine L_run (dj := 45) rfl rfl (by exact congrArg Value.bool hq127) ?_
          refine L_pu (P_move (.slice A19 n20 c21) rfl) ?_
          refine L_run (dj := 45) rfl rfl (by exact congrArg Value.bool hq127) ?_
          have h150 := (((h22.st (.owns _ g34 hk42)).st (.owns _ g52 hk60)).st (.new _ g97))
          have hl151 := h150.le
          refine L_pu (P_len Try.underlying23 A19 n20 c21 h150.len rfl) ?_
          refine L_run (dj := 45) rfl rfl (by exact congrArg Value.bool hq127) ?_
          refine L_pu (P_cmp (r3.length : Int) 12 (decide ((r3.length : Int) > 12)) rfl rfl rfl) ?_
          refine L_pu (P_pick false (vb (decide ((r3.length : Int) > 12))) (by exact congrArg Value.bool hq127) rfl) ?_
          refine L_nil ?_
          refine W_cond (decide ((r3.length : Int) > 12)) rfl (fun hq152 => ?_) (fun hq152 => ?_)
          · have H := ite_t H hq152
            refine W_seq ?_
            refine W_reg ?_
            refine L_pu (P_move (vb r5) rfl) ?_
            refine L_pu (P_move (vb r7) rfl) ?_
            refine L_pu (P_bcmp Try.underlying4 r5 r7 (r5 == r7) rfl rfl rfl) ?_
            refine L_pu (P_move (vb (r5 == r7)) rfl) ?_
            rcases bool_or (r5 == r7) with hq153 | hq153
            · have H := ite_t H hq153
              refine L_run (dj := 53) rfl rfl (by exact congrArg Value.bool hq153) ?_
              refine L_pu (P_move (.slice A35 n36 c37) rfl) ?_
              refine L_run (dj := 53) rfl rfl (by exact congrArg Value.bool hq153) ?_
              refine L_pu (P_move (.slice A53 n54 c55) rfl) ?_
              refine L_run (dj := 53) rfl rfl (by exact congrArg Value.bool hq153) ?_
              have h154 := ((h45.sos g52 hk60).sn g97)
              have h155 := Ow.gv (L := [blk (.slice A53 n54 c55), blk (.slice A35 n36 c37), blk (.slice A14 n15 c16)]) (O := O) h154 hc101 (i := 1) rfl
              have hc156 := hc101.drop 1 rfl
              have h158 := (Ow.sd (L := [blk (.slice A53 n54 c55), blk (.slice A35 n36 c37), blk (.slice A14 n15 c16)]) (O := O) (h63.sn g97) (i := 0) rfl (j := 1) rfl (by decide))
              have h159 := Ow.gv (L := [blk (.slice A53 n54 c55), blk (.slice A14 n15 c16)]) (O := O) h158 hc156 (i := 0) rfl
              have hc160 := hc156.drop 0 rfl
              have h162 := (h155.st (.dr _ (L := [blk (.slice A53 n54 c55), blk (.slice A14 n15 c16)]) (O := O) (j := 0) rfl))
              refine L_call go12 [.slice A35 n36 c37, .slice A53 n54 c55] rfl ((laws_wsSame.calls w96 hc160.ok r4 A35 n36 c37 h162 r6 A53 n54 c55 h159 _ H).mono ?_)
              rintro _ w163 ⟨r12, rfl, H, g164⟩
              have hc168 := hc101.k0 g164
              refine L_pu (P_pick true (vb r12) (by exact congrArg Value.bool hq153) rfl) ?_
              refine L_pu (P_assign (vb r12) rfl) ?_
              refine L_nil ?_
              refine W_ret ?_
              have hc169 := hc168.drop 0 rfl
              have hc170 := hc169.drop 0 rfl
              have hc171 := hc170.drop 0 rfl
              exact ⟨[vb r12], ⟨_, rfl, rfl⟩, r12, rfl, H, hc171.gr⟩
            · have H := ite_f H hq153
              refine L_pass (dj := 53) rfl rfl (.inl (by exact congrArg Value.bool hq153)) ?_
              refine L_pass (dj := 53) rfl rfl (.inl (by exact congrArg Value.bool hq153)) ?_
              refine L_pass (dj := 53) rfl rfl (.inl (by exact congrArg Value.bool hq153)) ?_
              refine L_pu (P_pick false (vb false) (by exact congrArg Value.bool hq153) rfl) ?_
              refine L_pu (P_assign (vb false) rfl) ?_
              refine L_nil ?_
              refine W_ret ?_
              have hc172 := hc101.drop 0 rfl
              have hc173 := hc172.drop 0 rfl
              have hc174 := hc173.drop 0 rfl
              exact ⟨[vb false], ⟨_, rfl, rfl⟩, false, rfl, H, hc174.gr⟩
          · have H := ite_f H hq152
            refine W_skip ?_
            refine W_seq ?_
            refine W_seq ?_
            refine W_reg ?_
            refine L_pu (P_move (.slice A14 n15 c16) rfl) ?_
            refine L_pu (P_len Try.underlying23 A14 n15 c16 h125.len rfl) ?_
            refine L_pu (P_cmp (r2.length : Int) 0 ((r2.length : Int) == 0) rfl rfl rfl) ?_
            refine L_nil ?_
            refine W_cond ((r2.length : Int) == 0) rfl (fun hq175 => ?_) (fun hq175 => ?_)
            · have H := ite_t H hq175
              refine W_seq ?_
              refine W_reg ?_
              refine L_pu (P_move (vb r5) rfl) ?_
              refine L_pu (P_move (vb r5) rfl) ?_
              rcases bool_or r5 with hq176 | hq176
              · have H := ite_t H hq176
                refine L_run (dj := 62) rfl rfl (by exact congrArg Value.bool hq176) ?_
                refine L_pu (P_move (.slice A35 n36 c37) rfl) ?_
                refine L_run (dj := 62) rfl rfl (by exact congrArg Value.bool hq176) ?_
                refine L_pu (P_move (.slice A19 n20 c21) rfl) ?_
                refine L_run (dj := 62) rfl rfl (by exact congrArg Value.bool hq176) ?_
                have h177 := ((h45.sos g52 hk60).sn g97)
                have h178 := Ow.gv (L := [blk (.slice A53 n54 c55), blk (.slice A35 n36 c37), blk (.slice A14 n15 c16)]) (O := O) h177 hc101 (i := 1) rfl
                have hc179 := hc101.drop 1 rfl
                have h181 := (h150.st (.dr _ (L := [blk (.slice A53 n54 c55), blk (.slice A35 n36 c37), blk (.slice A14 n15 c16)]) (O := O) (j := 1) rfl))
                refine L_call go12 [.slice A35 n36 c37, .slice A19 n20 c21] rfl ((laws_wsSame.calls w96 hc179.ok r4 A35 n36 c37 h178 r3 A19 n20 c21 h181 _ H).mono ?_)
                rintro _ w182 ⟨r13, rfl, H, g183⟩
                have hc187 := hc101.k0 g183
                refine L_pu (P_pick true (vb r13) (by exact congrArg Value.bool hq176) rfl) ?_
                refine L_pu (P_assign (vb r13) rfl) ?_
                refine L_nil ?_
                refine W_ret ?_
                have hc188 := hc187.drop 0 rfl
                have hc189 := hc188.drop 0 rfl
                have hc190 := hc189.drop 0 rfl
                exact ⟨[vb r13], ⟨_, rfl, rfl⟩, r13, rfl, H, hc190.gr⟩
              · have H := ite_f H hq176
                refine L_pass (dj := 62) rfl rfl (.inl (by exact congrArg Value.bool hq176)) ?_
                refine L_pass (dj := 62) rfl rfl (.inl (by exact congrArg Value.bool hq176)) ?_
                refine L_pass (dj := 62) rfl rfl (.inl (by exact congrArg Value.bool hq176)) ?_
                refine L_pu (P_pick false (vb false) (by exact congrArg Value.bool hq176) rfl) ?_
                refine L_pu (P_assign (vb false) rfl) ?_
                refine L_nil ?_
                refine W_ret ?_
                have hc191 := hc101.drop 0 rfl
                have hc192 := hc191.drop 0 rfl
                have hc193 := hc192.drop 0 rfl
                exact ⟨[vb false], ⟨_, rfl, rfl⟩, false, rfl, H, hc193.gr⟩
            · have H := ite_f H hq175
              refine W_skip ?_
              refine W_seq ?_
              refine W_seq ?_
              refine W_reg ?_
              refine L_pu (P_move (.slice A19 n20 c21) rfl) ?_
              refine L_pu (P_len Try.underlying23 A19 n20 c21 h150.len rfl) ?_
              refine L_pu (P_cmp (r3.length : Int) 0 ((r3.length : Int) == 0) rfl rfl rfl) ?_
              refine L_nil ?_
              refine W_cond ((r3.length : Int) == 0) rfl (fun hq194 => ?_) (fun hq194 => ?_)
              · have H := ite_t H hq194
                refine W_seq ?_
                refine W_reg ?_
                refine L_pu (P_move (vb r5) rfl) ?_
                refine L_pu (P_move (vb r5) rfl) ?_
                rcases bool_or r5 with hq195 | hq195
                · have H := ite_t H hq195
                  refine L_run (dj := 71) rfl rfl (by exact congrArg Value.bool hq195) ?_
                  refine L_pu (P_move (.slice A35 n36 c37) rfl) ?_
                  refine L_run (dj := 71) rfl rfl (by exact congrArg Value.bool hq195) ?_
                  refine L_pu (P_move (.slice A14 n15 c16) rfl) ?_
                  refine L_run (dj := 71) rfl rfl (by exact congrArg Value.bool hq195) ?_
                  have h196 := ((h45.sos g52 hk60).sn g97)
                  have h197 := Ow.gv (L := [blk (.slice A53 n54 c55), blk (.slice A35 n36 c37), blk (.slice A14 n15 c16)]) (O := O) h196 hc101 (i := 1) rfl
                  have hc198 := hc101.drop 1 rfl
                  have h200 := (Ow.sd (L := [blk (.slice A53 n54 c55), blk (.slice A35 n36 c37), blk (.slice A14 n15 c16)]) (O := O) h125 (i := 2) rfl (j := 1) rfl (by decide))
                  have h201 := Ow.gv (L := [blk (.slice A53 n54 c55), blk (.slice A14 n15 c16)]) (O := O) h200 hc198 (i := 1) rfl
                  have hc202 := hc198.drop 1 rfl
                  have h204 := (h197.st (.dr _ (L := [blk (.slice A53 n54 c55), blk (.slice A14 n15 c16)]) (O := O) (j := 1) rfl))
                  refine L_call go12 [.slice A35 n36 c37, .slice A14 n15 c16] rfl ((laws_wsSame.calls w96 hc202.ok r4 A35 n36 c37 h204 r2 A14 n15 c16 h201 _ H).mono ?_)
                  rintro _ w205 ⟨r14, rfl, H, g206⟩
                  have hc210 := hc101.k0 g206
                  refine L_pu (P_pick true (vb r14) (by exact congrArg Value.bool hq195) rfl) ?_
                  refine L_pu (P_assign (vb r14) rfl) ?_
                  refine L_nil ?_
                  refine W_ret ?_
                  have hc211 := hc210.drop 0 rfl
                  have hc212 := hc211.drop 0 rfl
                  have hc213 := hc212.drop 0 rfl
                  exact ⟨[vb r14], ⟨_, rfl, rfl⟩, r14, rfl, H, hc213.gr⟩
                · have H := ite_f H hq195
                  refine L_pass (dj := 71) rfl rfl (.inl (by exact congrArg Value.bool hq195)) ?_
                  refine L_pass (dj := 71) rfl rfl (.inl (by exact congrArg Value.bool hq195)) ?_
                  refine L_pass (dj := 71) rfl rfl (.inl (by exact congrArg Value.bool hq195)) ?_
                  refine L_pu (P_pick false (vb false) (by exact congrArg Value.bool hq195) rfl) ?_
                  refine L_pu (P_assign (vb false) rfl) ?_
                  refine L_nil ?_
                  refine W_ret ?_
                  have hc214 := hc101.drop 0 rfl
                  have hc215 := hc214.drop 0 rfl
                  have hc216 := hc215.drop 0 rfl
                  exact ⟨[vb false], ⟨_, rfl, rfl⟩, false, rfl, H, hc216.gr⟩
              · have H := ite_f H hq194
                refine W_skip ?_
                refine W_seq ?_
                refine W_reg ?_
                refine L_pu (P_move (vb r5) rfl) ?_
                refine L_pu (P_move (.slice A14 n15 c16) rfl) ?_
                refine L_pu (P_move (.slice A19 n20 c21) rfl) ?_
                have h217 := Ow.gv (L := [blk (.slice A53 n54 c55), blk (.slice A35 n36 c37), blk (.slice A14 n15 c16)]) (O := O) h125 hc101 (i := 2) rfl
                have hc218 := hc101.drop 2 rfl
                have h220 := (h150.st (.dr _ (L := [blk (.slice A53 n54 c55), blk (.slice A35 n36 c37), blk (.slice A14 n15 c16)]) (O := O) (j := 2) rfl))
                refine L_call go12 [.slice A14 n15 c16, .slice A19 n20 c21] rfl ((laws_wsSame.calls w96 hc218.ok r2 A14 n15 c16 h217 r3 A19 n20 c21 h220 _ H).mono ?_)
                rintro _ w221 ⟨r15, rfl, H, g222⟩
                have hc226 := hc101.k0 g222
                refine L_pu (P_bcmp Try.underlying4 r5 r15 (r5 == r15) rfl rfl rfl) ?_
                refine L_pu (P_move (vb (r5 == r15)) rfl) ?_
                rcases bool_or (r5 == r15) with hq227 | hq227
                · have H := ite_t H hq227
                  refine L_run (dj := 81) rfl rfl (by exact congrArg Value.bool hq227) ?_
                  refine L_pu (P_move (vb r5) rfl) ?_
                  refine L_run (dj := 81) rfl rfl (by exact congrArg Value.bool hq227) ?_
                  refine L_pu (P_not r5 rfl) ?_
                  refine L_run (dj := 81) rfl rfl (by exact congrArg Value.bool hq227) ?_
                  refine L_pu (P_move (vb (!r5)) rfl) ?_
                  rcases bool_or (!r5) with hq228 | hq228
                  · have H := ite_t H hq228
                    refine L_pass (dj := 84) rfl rfl (.inl (by exact congrArg Value.bool hq228)) ?_
                    refine L_pass (dj := 84) rfl rfl (.inl (by exact congrArg Value.bool hq228)) ?_
                    refine L_pass (dj := 84) rfl rfl (.inl (by exact congrArg Value.bool hq228)) ?_
                    refine L_run (dj := 81) rfl rfl (by exact congrArg Value.bool hq227) ?_
                    refine L_pu (P_pick true (vb true) (by exact congrArg Value.bool hq228) rfl) ?_
                    refine L_pu (P_pick true (vb true) (by exact congrArg Value.bool hq227) rfl) ?_
                    refine L_pu (P_assign (vb true) rfl) ?_
                    refine L_nil ?_
                    refine W_ret ?_
                    have hc229 := hc226.drop 0 rfl
                    have hc230 := hc229.drop 0 rfl
                    have hc231 := hc230.drop 0 rfl
                    exact ⟨[vb true], ⟨_, rfl, rfl⟩, true, rfl, H, hc231.gr⟩
                  · have H := ite_f H hq228
                    refine L_run (dj := 84) rfl rfl (by exact congrArg Value.bool hq228) ?_
                    refine L_pu (P_move (.slice A35 n36 c37) rfl) ?_
                    refine L_run (dj := 84) rfl rfl (by exact congrArg Value.bool hq228) ?_
                    refine L_pu (P_move (.slice A14 n15 c16) rfl) ?_
                    refine L_run (dj := 84) rfl rfl (by exact congrArg Value.bool hq228) ?_
                    have h232 := (((h45.sos g52 hk60).sn g97).sn g222)
                    have h233 := Ow.gv (L := [blk (.slice A53 n54 c55), blk (.slice A35 n36 c37), blk (.slice A14 n15 c16)]) (O := O) h232 hc226 (i := 1) rfl
                    have hc234 := hc226.drop 1 rfl
                    have h236 := (Ow.sd (L := [blk (.slice A53 n54 c55), blk (.slice A35 n36 c37), blk (.slice A14 n15 c16)]) (O := O) (h125.sn g222) (i := 2) rfl (j := 1) rfl (by decide))
                    have h237 := Ow.gv (L := [blk (.slice A53 n54 c55), blk (.slice A14 n15 c16)]) (O := O) h236 hc234 (i := 1) rfl
                    have hc238 := hc234.drop 1 rfl
                    have h240 := (h233.st (.dr _ (L := [blk (.slice A53 n54 c55), blk (.slice A14 n15 c16)]) (O := O) (j := 1) rfl))
                    refine L_call go12 [.slice A35 n36 c37, .slice A14 n15 c16] rfl ((laws_wsSame.calls w221 hc238.ok r4 A35 n36 c37 h240 r2 A14 n15 c16 h237 _ H).mono ?_)
                    rintro _ w241 ⟨r16, rfl, H, g242⟩
                    have hc246 := hc226.k0 g242
                    refine L_run (dj := 81) rfl rfl (by exact congrArg Value.bool hq227) ?_
                    refine L_pu (P_pick false (vb r16) (by exact congrArg Value.bool hq228) rfl) ?_
                    refine L_pu (P_pick true (vb r16) (by exact congrArg Value.bool hq227) rfl) ?_
                    refine L_pu (P_assign (vb r16) rfl) ?_
                    refine L_nil ?_
                    refine W_ret ?_
                    have hc247 := hc246.drop 0 rfl
                    have hc248 := hc247.drop 0 rfl
                    have hc249 := hc248.drop 0 rfl
                    exact ⟨[vb r16], ⟨_, rfl, rfl⟩, r16, rfl, H, hc249.gr⟩
                · have H := ite_f H hq227
                  refine L_pass (dj := 81) rfl rfl (.inl (by exact congrArg Value.bool hq227)) ?_
                  refine L_pass (dj := 81) rfl rfl (.inl (by exact congrArg Value.bool hq227)) ?_
                  refine L_pass (dj := 81) rfl rfl (.inl (by exact congrArg Value.bool hq227)) ?_
                  refine L_pass (dj := 84) rfl rfl (.inr rfl) ?_
                  refine L_pass (dj := 84) rfl rfl (.inr rfl) ?_
                  refine L_pass (dj := 84) rfl rfl (.inr rfl) ?_
                  refine L_pass (dj := 81) rfl rfl (.inl (by exact congrArg Value.bool hq227)) ?_
                  refine L_pu (P_pick false (vb false) (by exact congrArg Value.bool hq227) rfl) ?_
                  refine L_pu (P_assign (vb false) rfl) ?_
                  refine L_nil ?_
                  refine W_ret ?_
                  have hc250 := hc226.drop 0 rfl
                  have hc251 := hc250.drop 0 rfl
                  have hc252 := hc251.drop 0 rfl
                  exact ⟨[vb false], ⟨_, rfl, rfl⟩, false, rfl, H, hc252.gr⟩
end Go.Proofs.Ythkeboifjlnjjaa

namespace Go.Proofs.Ythkeboifjlnjjaa
set_option linter.unusedVariables false
set_option linter.unusedSimpArgs false
/-- a merge hands back the row, or nothing -/
def mrow (o a b : List Pt) : List Pt := (smerge o a b).getD []
def mok (o a b : List Pt) : Bool := (smerge o a b).isSome
theorem impl_SeqMerge.is (o a b : List Pt) (Q : List Pt → Bool → Prop) (hq : Q (mrow o a b) (mok o a b)) : impl_SeqMerge.E o a b Q :=
  impl_SeqMerge.law o a b Q (fun r h => by unfold mrow mok at hq; rw [h] at hq; exact hq) (fun h => by unfold mrow mok at hq; rw [h] at hq; exact hq)
theorem spec_SeqMerge.is (o a b : List Pt) (Q : List Pt → Bool → Prop) (hq : Q (mrow o a b) (mok o a b)) : spec_SeqMerge.E o a b Q :=
  spec_SeqMerge.law o a b Q (fun r h => by unfold mrow mok at hq; rw [h] at hq; exact hq) (fun h => by unfold mrow mok at hq; rw [h] at hq; exact hq)
theorem m_of {o a b r : List Pt} (h : smerge o a b = some r) : mrow o a b = r ∧ mok o a b = true := by unfold mrow mok; rw [h]; exact ⟨rfl, rfl⟩
theorem m_not {o a b : List Pt} (h : smerge o a b = none) : mrow o a b = [] ∧ mok o a b = false := by unfold mrow mok; rw [h]; exact ⟨rfl, rfl⟩
end Go.Proofs.Ythkeboifjlnjjaa

namespace Go.Proofs.Ythkeboifjlnjjaa
set_option linter.unusedVariables false
set_option linter.unusedSimpArgs false
theorem laws_FnSeqNone.gen (code : List UInt8) (Q : Bool → Prop) (hq : Q true) : laws_FnSeqNone.E code Q := by
  unfold laws_FnSeqNone.E
  by_cases c1 : (code.length : Int) > 1048576
  · rw [if_pos (by simpa using c1)]; exact hq
  rw [if_neg (by simpa using c1)]
  refine spec_DrawSeqMerge.law _ _ fun o a b ho ha hb _ _ _ => impl_SeqMerge.is _ _ _ _ (spec_SeqMerge.is _ _ _ _ ?_)
  rw [if_neg (by simp)]
  have same : ∀ (x : List Pt), laws_wsSame.E x x (fun r => Q r) := fun x => laws_wsSame.law _ _ _ (by rw [decide_eq_true rfl]; exact hq)
  refine laws_wsSame.law _ _ _ ?_
  rw [decide_eq_true rfl, if_neg (by decide)]
  have tail : (if (mok [] a b == mok [] a b) = true then laws_wsSame.E (mrow [] a b) (mrow [] a b) (fun r => Q r) else Q false) := by
    rw [if_pos (by simp)]; exact same _
  by_cases c2 : (a.length : Int) > 12
  · rw [if_pos (by simpa using c2)]; exact tail
  rw [if_neg (by simpa using c2)]
  by_cases c3 : (b.length : Int) > 12
  · rw [if_pos (by simpa using c3)]; exact tail
  rw [if_neg (by simpa using c3)]
  have hm := smerge_nil (a := a) (b := b) (by omega) (by omega)
  by_cases h1 : a = []
  · rw [if_pos h1] at hm
    obtain ⟨e1, e2⟩ := m_of hm
    rw [if_pos (by rw [h1]; rfl), e1, e2, if_pos rfl]; exact same _
  rw [if_neg h1] at hm
  have l1 : a.length ≠ 0 := fun e => h1 (List.length_eq_zero_iff.1 e)
  rw [if_neg (by rw [beq_iff_eq]; omega)]
  by_cases h2 : b = []
  · rw [if_pos h2] at hm
    obtain ⟨e1, e2⟩ := m_of hm
    rw [if_pos (by rw [h2]; rfl), e1, e2, if_pos rfl]; exact same _
  rw [if_neg h2] at hm
  have l2 : b.length ≠ 0 := fun e => h2 (List.length_eq_zero_iff.1 e)
  rw [if_neg (by rw [beq_iff_eq]; omega)]
  refine laws_wsSame.law _ _ _ ?_
  by_cases h3 : a = b
  · rw [if_pos h3] at hm
    obtain ⟨e1, e2⟩ := m_of hm
    rw [e1, e2, decide_eq_true h3, if_pos (by decide), if_neg (by decide)]; exact same _
  · rw [if_neg h3] at hm
    obtain ⟨e1, e2⟩ := m_not hm
    rw [e2, decide_eq_false h3, if_pos (by decide), if_pos (by decide)]; exact hq
theorem laws_FnSeqNone.law (code : List UInt8) (_ : ∀ x ∈ code, True) : laws_FnSeqNone.E code (fun r => r = true) := laws_FnSeqNone.gen code _ rfl
end Go.Proofs.Ythkeboifjlnjjaa

namespace Go.Proofs.Ythkeboifjlnjjaa.rFnSeqNone
open Go.ChangeShapes Go.WideShapes Go.ChangeAt Go.RowKit
open Go.ChangeMaps (open_string shut_string)
set_option linter.unusedVariables false
theorem own : ownKnob Try.prog.godebug = none := by kernel_rfl
theorem laidOut : laidOutB Try.prog = true := by kernel_rfl
set_option maxRecDepth 100000 in
theorem lifted (os : Os) (started : os.Started) (H : Type) (enc : TypeId × Value → H) :
    ReturnsInHanded {} Try.checked os 3 .any (Rows.fnSeqNoneSpec.pre6 enc Try.prog Try.f3 Rows.fnSeqNoneRow.domain false) (Rows.fnSeqNoneSpec.post enc Try.prog Try.f3 false true false false) := by
  refine returnsInHanded_of_change_sized (C := Try.checked) own started (by kernel_rfl) Try.func3
    (ChangeSpec.witness6 (enc := enc) (C := Try.checked) false ⟨#[], #[.slice none 0 0], []⟩ 8 (by kernel_rfl) (by kernel_rfl) (by kernel_rfl) (by kernel_rfl)) ?_
  intro W base args ds gs before hval0 hW hcnd hsz0 _
  have hval : ∀ (j : Nat) t v, Try.f3.params[j]? = some t → args[j]? = some v → Value.okWide Try.prog W .any base t v := hval0
  have hW' := hW
  obtain ⟨p, q, hA0, hV, rfl, hfz, hnd⟩ := hW
  have hA : DataW.TrodAll enc Try.prog W 0 (fun _ => true) true Try.f3.params.toList args.toList ds p := hA0
  rw [Try.params3] at hA hval
  obtain ⟨v0, vs0, d0, ds0, p0, q0, hargs, rfl, rfl, h0, r0⟩ := trodAll_cons hA
  obtain ⟨rfl, rfl, rfl⟩ := trodAll_nil r0
  obtain rfl : args = #[v0] := by cases args; simp_all
  obtain ⟨rfl, rfl⟩ := trodVars_none hV
  have k0 := h0
  have lt0 : ∀ x ∈ p0, x.block < W.heap.size := by obtain ⟨m, hm⟩ := k0; exact DataW.trod_lt m _ _ _ hm
  obtain ⟨x0, hv0, hx0⟩ : ∃ a : List UInt8, (∀ y0 ∈ a, True) ∧ (Kd.sl Kd.byte).R W (Fr []) a v0.cells.toList := by obtain ⟨fuel, hf⟩ := h0; exact (Tr.sl Try.underlying22 (by kernel_rfl) (Tr.byte Try.underlying5)) H enc W fuel _ _ hf
  obtain ⟨a0, n0, c0, rfl⟩ := okWide_slice Try.underlying22 (hval 0 22 v0 rfl rfl)
  have s0 : Sl Kd.byte W (Fr []) (.slice a0 n0 c0) x0 := by obtain ⟨_, e, h⟩ := hx0; simp [Value.cells] at e; subst e; exact h
  clear hA0 hval0 hsz0
  refine Calls.mono (laws_FnSeqNone.calls W (Ok.nil W) x0 a0 n0 c0 s0 (fun r => r = true) (laws_FnSeqNone.law x0 hv0)) fun e W' ⟨v, he, r, hr, hq, hg⟩ => ?_
  subst he; subst hr; subst hq
  have bel := Gr.below hg
  exact ⟨_, rfl, _, _, _, [], _, [], hW', trodAll_mk1 (shut_bool Try.underlying4 _), (trodAll_cons_mk (Below.trod laidOut (by kernel_rfl) (of_decide_eq_true (by kernel_rfl)) k0 bel lt0) trodAll_mk0), rfl, bel.frame _, fun h => by cases h⟩
theorem over : Rows.fnSeqNoneRow.holds Try.pinned (OpenSpec.ofChange Rows.fnSeqNoneSpec) :=
  OpenClaim.holds_of_wide 3 Try.f3 rfl rfl rfl rfl rfl rfl rfl ⟨rfl, rfl, rfl, rfl, rfl⟩ rfl rfl rfl rfl rfl (by kernel_rfl) Try.func3 (by kernel_rfl)
    (of_decide_eq_true (by kernel_rfl)) (by unfold Func.isWrapper; first | (rw [if_pos (by decide +kernel)]; kernel_rfl) | (rw [if_neg (by decide +kernel)]; exact ⟨rfl, rfl⟩))
    (fun os started H enc _ => lifted os started H enc)
theorem proved : Rows.FnSeqNoneSaid := over
#print axioms proved
end Go.Proofs.Ythkeboifjlnjjaa.rFnSeqNone
namespace Go.Proofs.Ythkeboifjlnjjaa
theorem fnSeqNone_holds : Rows.FnSeqNoneSaid := rFnSeqNone.proved
end Go.Proofs.Ythkeboifjlnjjaa
