/- It is proved here that the law FnSeqMerge of the given program holds whatever it is handed: the walks through the code, the plain laws and the row, in this order.
   Conditions: none. -/
import Derived.Below
import Derived.ChangeArms
import Derived.ChangeOld
import Derived.ChangeSlices
import Derived.DataReads
import Derived.Deep.Quiet
import Derived.KernelRfl
import Derived.Laws.Build
import Derived.Laws.OwnMore
import Derived.Laws.Slices
import Derived.Laws.StructEq
import Derived.OpenShut
import Derived.ProofKit
import Derived.ShutString
import Derived.SizedLaws
import Derived.StillTail
import Derived.Test.YtnliofcjplnboaaProg
import Derived.Test.YtnliofcjplnboaaRows
import Derived.WalkKit
import Derived.Test.YtnliofcjplnboaaCSeqMergea
import Derived.Test.YtnliofcjplnboaaCSeqMergeb
import Derived.Test.YtnliofcjplnboaaCSeqMergec
namespace Go.Proofs.Ytnliofcjplnboaa
open Go.RowKit
set_option linter.unusedVariables false
def laws_FnSeqMerge.E (code : List UInt8) (Q : Bool → Prop) : Prop :=
  (if decide ((code.length : Int) > 1048576) then Q true else spec_DrawSeqMerge.E code (fun r r2 r3 => impl_SeqMerge.E r r2 r3 (fun r4 r5 => spec_SeqMerge.E r r2 r3 (fun r6 r7 => (if r5 != r7 then Q false else laws_wsSame.E r4 r6 (fun r8 => (if !r8 then Q false else (if decide ((r.length : Int) > 12) then (if !r5 then Q ((r4.length : Int) == 0) else Q false) else (if decide ((r2.length : Int) > 12) then (if !r5 then Q ((r4.length : Int) == 0) else Q false) else (if decide ((r3.length : Int) > 12) then (if !r5 then Q ((r4.length : Int) == 0) else Q false) else impl_SeqMerge.E r r2 r (fun r9 r10 => impl_SeqMerge.E r r r3 (fun r11 r12 => impl_SeqMerge.E r r2 r2 (fun r13 r14 => impl_SeqMerge.E r r3 r2 (fun r15 r16 => (if r10 then laws_wsSame.E r9 r2 (fun r17 => (if r17 then (if r12 then laws_wsSame.E r11 r3 (fun r18 => (if r18 then (if r14 then laws_wsSame.E r13 r2 (fun r19 => (if r19 then (if r16 == r5 then laws_wsSame.E r15 r4 (fun r20 => Q r20) else Q false) else Q false)) else Q false) else Q false)) else Q false) else Q false)) else Q false)))))))))))))))
set_option maxHeartbeats 8000000 in
set_option maxRecDepth 100000 in
theorem laws_FnSeqMerge.calls {O : Ob} (w0 : World) (hO : Ok w0 O) (code : List UInt8) (A1 : Option Addr) (n2 c3 : Nat) (hp4 : Sl Kd.byte w0 (Fr O) (.slice A1 n2 c3) code) (Q : Bool → Prop) (h : laws_FnSeqMerge.E code Q) :
    Ret Try.prog 14 [.slice A1 n2 c3] w0 (fun v w' => ∃ (r0 : Bool), v = vb r0 ∧ Q r0 ∧ Gr w0 w' none) := by
  have H : (if decide ((code.length : Int) > 1048576) then Q true else spec_DrawSeqMerge.E code (fun r r2 r3 => impl_SeqMerge.E r r2 r3 (fun r4 r5 => spec_SeqMerge.E r r2 r3 (fun r6 r7 => (if r5 != r7 then Q false else laws_wsSame.E r4 r6 (fun r8 => (if !r8 then Q false else (if decide ((r.length : Int) > 12) then (if !r5 then Q ((r4.length : Int) == 0) else Q false) else (if decide ((r2.length : Int) > 12) then (if !r5 then Q ((r4.length : Int) == 0) else Q false) else (if decide ((r3.length : Int) > 12) then (if !r5 then Q ((r4.length : Int) == 0) else Q false) else impl_SeqMerge.E r r2 r (fun r9 r10 => impl_SeqMerge.E r r r3 (fun r11 r12 => impl_SeqMerge.E r r2 r2 (fun r13 r14 => impl_SeqMerge.E r r3 r2 (fun r15 r16 => (if r10 then laws_wsSame.E r9 r2 (fun r17 => (if r17 then (if r12 then laws_wsSame.E r11 r3 (fun r18 => (if r18 then (if r14 then laws_wsSame.E r13 r2 (fun r19 => (if r19 then (if r16 == r5 then laws_wsSame.E r15 r4 (fun r20 => Q r20) else Q false) else Q false)) else Q false) else Q false)) else Q false) else Q false)) else Q false))))))))))))))) := h
  clear h
  have hc0 := Ct.init hO
  refine Ret_enter Try.func14 rfl 130 rfl [.tmp 2] rfl rfl ?_
  refine W_seq ?_
  refine W_reg ?_
  refine L_pu (P_assign (vb false) rfl) ?_
  refine L_nil ?_
  refine W_seq ?_
  refine W_seq ?_
  refine W_reg ?_
  refine L_pu (P_move (.slice A1 n2 c3) rfl) ?_
  have hl6 := hp4.le
  refine L_pu (P_len Try.underlying37 A1 n2 c3 hp4.len rfl) ?_
  refine L_pu (P_cmp (code.length : Int) 1048576 (decide ((code.length : Int) > 1048576)) rfl rfl rfl) ?_
  refine L_nil ?_
  refine W_cond (decide ((code.length : Int) > 1048576)) rfl (fun hq7 => ?_) (fun hq7 => ?_)
  · have H := ite_t H hq7
    refine W_seq ?_
    refine W_reg ?_
    refine L_pu (P_assign (vb true) rfl) ?_
    refine L_nil ?_
    refine W_ret ?_
    exact ⟨[vb true], ⟨_, rfl, rfl⟩, true, rfl, H, hc0.gr⟩
  · have H := ite_f H hq7
    refine W_skip ?_
    refine W_seq ?_
    refine W_reg ?_
    refine L_pu (P_move (.slice A1 n2 c3) rfl) ?_
    refine L_call go38 [.slice A1 n2 c3] rfl ((spec_DrawSeqMerge.calls w0 hc0.ok code A1 n2 c3 hp4 _ H).mono ?_)
    rintro _ w8 ⟨r, r2, r3, A10, n11, c12, A14, n15, c16, A19, n20, c21, rfl, H, g9, hk24, hk25, h13, h17, h22⟩
    have hc26 := hc0.owns g9 hk24 hk25
    refine L_pu (P_move (.tuple #[.slice A10 n11 c12, .slice A14 n15 c16, .slice A19 n20 c21]) rfl) ?_
    refine L_pu (P_ext [.slice A10 n11 c12, .slice A14 n15 c16, .slice A19 n20 c21] 0 (.slice A10 n11 c12) rfl rfl) ?_
    refine L_pu (P_ext [.slice A10 n11 c12, .slice A14 n15 c16, .slice A19 n20 c21] 1 (.slice A14 n15 c16) rfl rfl) ?_
    refine L_pu (P_ext [.slice A10 n11 c12, .slice A14 n15 c16, .slice A19 n20 c21] 2 (.slice A19 n20 c21) rfl rfl) ?_
    refine L_pu (P_assign (.slice A10 n11 c12) rfl) ?_
    refine L_pu (P_assign (.slice A14 n15 c16) rfl) ?_
    refine L_pu (P_assign (.slice A19 n20 c21) rfl) ?_
    refine L_nil ?_
    refine W_seq ?_
    refine W_reg ?_
    refine L_pu (P_move (.slice A10 n11 c12) rfl) ?_
    refine L_pu (P_move (.slice A14 n15 c16) rfl) ?_
    refine L_pu (P_move (.slice A19 n20 c21) rfl) ?_
    have h29 := Ow.gv (L := [blk (.slice A14 n15 c16)]) (O := O) h17 hc26 (i := 0) rfl
    have hc30 := hc26.drop 0 rfl
    have h32 := (h13.st (.dr _ (L := [blk (.slice A14 n15 c16)]) (O := O) (j := 0) rfl))
    have h33 := (h22.st (.dr _ (L := [blk (.slice A14 n15 c16)]) (O := O) (j := 0) rfl))
    refine L_call go36 [.slice A10 n11 c12, .slice A14 n15 c16, .slice A19 n20 c21] rfl ((impl_SeqMerge.calls w8 hc30.ok r A10 n11 c12 h32 r2 A14 n15 c16 h29 r3 A19 n20 c21 h33 _ H).mono ?_)
    rintro _ w34 ⟨r4, r5, A36, n37, c38, rfl, H, g35, hk42, hk43, h39⟩
    have hk45 := Ok.unl (L := [blk (.slice A14 n15 c16)]) (L' := []) (O := O) hc26 g35 hk42 hk43
    have h46 := Ow.unl (L := [blk (.slice A14 n15 c16)]) (L' := []) (O := O) (fun _ _ _ _ _ _ h => h) (.cons _ (.slnil)) h39
    have hc44 := hc26.owns g35 hk45 hk43
    refine L_pu (P_move (.tuple #[.slice A36 n37 c38, vb r5]) rfl) ?_
    refine L_pu (P_ext [.slice A36 n37 c38, vb r5] 0 (.slice A36 n37 c38) rfl rfl) ?_
    refine L_pu (P_ext [.slice A36 n37 c38, vb r5] 1 (vb r5) rfl rfl) ?_
    refine L_pu (P_assign (.slice A36 n37 c38) rfl) ?_
    refine L_pu (P_assign (vb r5) rfl) ?_
    refine L_nil ?_
    refine W_seq ?_
    refine W_reg ?_
    refine L_pu (P_move (.slice A10 n11 c12) rfl) ?_
    refine L_pu (P_move (.slice A14 n15 c16) rfl) ?_
    refine L_pu (P_move (.slice A19 n20 c21) rfl) ?_
    have h47 := (h17.sos g35 hk43)
    have h48 := Ow.gv (L := [blk (.slice A36 n37 c38), blk (.slice A14 n15 c16)]) (O := O) h47 hc44 (i := 1) rfl
    have hc49 := hc44.drop 1 rfl
    have h51 := ((h13.st (.owns _ g35 hk43)).st (.dr _ (L := [blk (.slice A36 n37 c38), blk (.slice A14 n15 c16)]) (O := O) (j := 1) rfl))
    have h52 := ((h22.st (.owns _ g35 hk43)).st (.dr _ (L := [blk (.slice A36 n37 c38), blk (.slice A14 n15 c16)]) (O := O) (j := 1) rfl))
    refine L_call go35 [.slice A10 n11 c12, .slice A14 n15 c16, .slice A19 n20 c21] rfl ((spec_SeqMerge.calls w34 hc49.ok r A10 n11 c12 h51 r2 A14 n15 c16 h48 r3 A19 n20 c21 h52 _ H).mono ?_)
    rintro _ w53 ⟨r6, r7, A55, n56, c57, rfl, H, g54, hk61, hk62, h58⟩
    have hk64 := Ok.unl (L := [blk (.slice A36 n37 c38), blk (.slice A14 n15 c16)]) (L' := [blk (.slice A36 n37 c38)]) (O := O) hc44 g54 hk61 hk62
    have h65 := Ow.unl (L := [blk (.slice A36 n37 c38), blk (.slice A14 n15 c16)]) (L' := [blk (.slice A36 n37 c38)]) (O := O) (fun _ _ _ _ _ _ h => h) (.cons_cons _ (.cons _ (.slnil))) h58
    have hc63 := hc44.owns g54 hk64 hk62
    refine L_pu (P_move (.tuple #[.slice A55 n56 c57, vb r7]) rfl) ?_
    refine L_pu (P_ext [.slice A55 n56 c57, vb r7] 0 (.slice A55 n56 c57) rfl rfl) ?_
    refine L_pu (P_ext [.slice A55 n56 c57, vb r7] 1 (vb r7) rfl rfl) ?_
    refine L_pu (P_assign (.slice A55 n56 c57) rfl) ?_
    refine L_pu (P_assign (vb r7) rfl) ?_
    refine L_nil ?_
    refine W_seq ?_
    refine W_seq ?_
    refine W_reg ?_
    refine L_pu (P_move (vb r5) rfl) ?_
    refine L_pu (P_move (vb r7) rfl) ?_
    refine L_pu (P_bcmp Try.underlying4 r5 r7 (r5 != r7) rfl rfl rfl) ?_
    refine L_pu (P_move (vb (r5 != r7)) rfl) ?_
    rcases bool_or (r5 != r7) with hq66 | hq66
    · have H := ite_t H hq66
      refine L_pass (dj := 44) rfl rfl (.inl (by exact congrArg Value.bool hq66)) ?_
      refine L_pass (dj := 44) rfl rfl (.inl (by exact congrArg Value.bool hq66)) ?_
      refine L_pass (dj := 44) rfl rfl (.inl (by exact congrArg Value.bool hq66)) ?_
      refine L_pass (dj := 44) rfl rfl (.inl (by exact congrArg Value.bool hq66)) ?_
      refine L_pu (P_pick true (vb true) (by exact congrArg Value.bool hq66) rfl) ?_
      refine L_nil ?_
      refine W_ct (b := true) rfl rfl ?_
      refine W_seq ?_
      refine W_reg ?_
      refine L_pu (P_assign (vb false) rfl) ?_
      refine L_nil ?_
      refine W_ret ?_
      have hc67 := hc63.drop 0 rfl
      have hc68 := hc67.drop 0 rfl
      have hc69 := hc68.drop 0 rfl
      exact ⟨[vb false], ⟨_, rfl, rfl⟩, false, rfl, H, hc69.gr⟩
    · have H := ite_f H hq66
      refine L_run (dj := 44) rfl rfl (by exact congrArg Value.bool hq66) ?_
      refine L_pu (P_move (.slice A36 n37 c38) rfl) ?_
      refine L_run (dj := 44) rfl rfl (by exact congrArg Value.bool hq66) ?_
      refine L_pu (P_move (.slice A55 n56 c57) rfl) ?_
      refine L_run (dj := 44) rfl rfl (by exact congrArg Value.bool hq66) ?_
      have h70 := (h46.sos g54 hk62)
      have h71 := Ow.gv (L := [blk (.slice A55 n56 c57), blk (.slice A36 n37 c38), blk (.slice A14 n15 c16)]) (O := O) h70 hc63 (i := 1) rfl
      have hc72 := hc63.drop 1 rfl
      have h74 := (Ow.sd (L := [blk (.slice A55 n56 c57), blk (.slice A36 n37 c38), blk (.slice A14 n15 c16)]) (O := O) h65 (i := 0) rfl (j := 1) rfl (by decide))
      have h75 := Ow.gv (L := [blk (.slice A55 n56 c57), blk (.slice A14 n15 c16)]) (O := O) h74 hc72 (i := 0) rfl
      have hc76 := hc72.drop 0 rfl
      have h78 := (h71.st (.dr _ (L := [blk (.slice A55 n56 c57), blk (.slice A14 n15 c16)]) (O := O) (j := 0) rfl))
      refine L_call go40 [.slice A36 n37 c38, .slice A55 n56 c57] rfl ((laws_wsSame.calls w53 hc76.ok r4 A36 n37 c38 h78 r6 A55 n56 c57 h75 _ H).mono ?_)
      rintro _ w79 ⟨r8, rfl, H, g80⟩
      have hc84 := hc63.k0 g80
      refine L_run (dj := 44) rfl rfl (by exact congrArg Value.bool hq66) ?_
      refine L_pu (P_not r8 rfl) ?_
      refine L_pu (P_pick false (vb (!r8)) (by exact congrArg Value.bool hq66) rfl) ?_
      refine L_nil ?_
      refine W_cond (!r8) rfl (fun hq85 => ?_) (fun hq85 => ?_)
      · have H := ite_t H hq85
        refine W_seq ?_
        refine W_reg ?_
        refine L_pu (P_assign (vb false) rfl) ?_
        refine L_nil ?_
        refine W_ret ?_
        have hc86 := hc84.drop 0 rfl
        have hc87 := hc86.drop 0 rfl
        have hc88 := hc87.drop 0 rfl
        exact ⟨[vb false], ⟨_, rfl, rfl⟩, false, rfl, H, hc88.gr⟩
      · have H := ite_f H hq85
        refine W_skip ?_
        refine W_seq ?_
        refine W_seq ?_
        refine W_reg ?_
        refine L_pu (P_move (.slice A10 n11 c12) rfl) ?_
        have h89 := (((h13.st (.owns _ g35 hk43)).st (.owns _ g54 hk62)).st (.new _ g80))
        have hl90 := h89.le
        refine L_pu (P_len Try.underlying33 A10 n11 c12 h89.len rfl) ?_
        refine L_pu (P_cmp (r.length : Int) 12 (decide ((r.length : Int) > 12)) rfl rfl rfl) ?_
        refine L_pu (P_move (vb (decide ((r.length : Int) > 12))) rfl) ?_
        rcases bool_or (decide ((r.length : Int) > 12)) with hq91 | hq91
        · have H := ite_t H hq91
          refine L_pass (dj := 53) rfl rfl (.inl (by exact congrArg Value.bool hq91)) ?_
          refine L_pass (dj := 53) rfl rfl (.inl (by exact congrArg Value.bool hq91)) ?_
          refine L_pass (dj := 53) rfl rfl (.inl (by exact congrArg Value.bool hq91)) ?_
          refine L_pu (P_pick true (vb true) (by exact congrArg Value.bool hq91) rfl) ?_
          refine L_pu (P_move (vb true) rfl) ?_
          refine L_pass (dj := 58) rfl rfl (.inl rfl) ?_
          refine L_pass (dj := 58) rfl rfl (.inl rfl) ?_
          refine L_pass (dj := 58) rfl rfl (.inl rfl) ?_
          refine L_pu (P_pick true (vb true) (by exact congrArg Value.bool rfl) rfl) ?_
          refine L_nil ?_
          refine W_ct (b := true) rfl rfl ?_
          refine W_seq ?_
          refine W_reg ?_
          refine L_pu (P_move (vb r5) rfl) ?_
          refine L_pu (P_not r5 rfl) ?_
          refine L_pu (P_move (vb (!r5)) rfl) ?_
          rcases bool_or (!r5) with hq92 | hq92
          · have H := ite_t H hq92
            refine L_run (dj := 65) rfl rfl (by exact congrArg Value.bool hq92) ?_
            refine L_pu (P_move (.slice A36 n37 c38) rfl) ?_
            refine L_run (dj := 65) rfl rfl (by exact congrArg Value.bool hq92) ?_
            have h93 := ((h46.sos g54 hk62).sn g80)
            have hl94 := h93.le
            refine L_pu (P_len Try.underlying33 A36 n37 c38 h93.len rfl) ?_
            refine L_run (dj := 65) rfl rfl (by exact congrArg Value.bool hq92) ?_
            refine L_pu (P_cmp (r4.length : Int) 0 ((r4.length : Int) == 0) rfl rfl rfl) ?_
            refine L_pu (P_pick true (vb ((r4.length : Int) == 0)) (by exact congrArg Value.bool hq92) rfl) ?_
            refine L_pu (P_assign (vb ((r4.length : Int) == 0)) rfl) ?_
            refine L_nil ?_
            refine W_ret ?_
            have hc95 := hc84.drop 0 rfl
            have hc96 := hc95.drop 0 rfl
            have hc97 := hc96.drop 0 rfl
            exact ⟨[vb ((r4.length : Int) == 0)], ⟨_, rfl, rfl⟩, (r4.length : Int) == 0, rfl, H, hc97.gr⟩
          · have H := ite_f H hq92
            refine L_pass (dj := 65) rfl rfl (.inl (by exact congrArg Value.bool hq92)) ?_
            refine L_pass (dj := 65) rfl rfl (.inl (by exact congrArg Value.bool hq92)) ?_
            refine L_pass (dj := 65) rfl rfl (.inl (by exact congrArg Value.bool hq92)) ?_
            refine L_pu (P_pick false (vb false) (by exact congrArg Value.bool hq92) rfl) ?_
            refine L_pu (P_assign (vb false) rfl) ?_
            refine L_nil ?_
            refine W_ret ?_
            have hc98 := hc84.drop 0 rfl
            have hc99 := hc98.drop 0 rfl
            have hc100 := hc99.drop 0 rfl
            exact ⟨[vb false], ⟨_, rfl, rfl⟩, false, rfl, H, hc100.gr⟩
        · have H := ite_f H hq91
          refine L_run (dj := 53) rfl rfl (by exact congrArg Value.bool hq91) ?_
          refine L_pu (P_move (.slice A14 n15 c16) rfl) ?_
          refine L_run (dj := 53) rfl rfl (by exact congrArg Value.bool hq91) ?_
          have h101 := (((h17.sos g35 hk43).sos g54 hk62).sn g80)
          have hl102 := h101.le
          refine L_pu (P_len Try.underlying33 A14 n15 c16 h101.len rfl) ?_
          refine L_run (dj := 53) rfl rfl (by exact congrArg Value.bool hq91) ?_
          refine L_pu (P_cmp (r2.length : Int) 12 (decide ((r2.length : Int) > 12)) rfl rfl rfl) ?_
          refine L_pu (P_pick false (vb (decide ((r2.length : Int) > 12))) (by exact congrArg Value.bool hq91) rfl) ?_
          refine L_pu (P_move (vb (decide ((r2.length : Int) > 12))) rfl) ?_
          rcases bool_or (decide ((r2.length : Int) > 12)) with hq103 | hq103
          · have H := ite_t H hq103
            refine L_pass (dj := 58) rfl rfl (.inl (by exact congrArg Value.bool hq103)) ?_
            refine L_pass (dj := 58) rfl rfl (.inl (by exact congrArg Value.bool hq103)) ?_
            refine L_pass (dj := 58) rfl rfl (.inl (by exact congrArg Value.bool hq103)) ?_
            refine L_pu (P_pick true (vb true) (by exact congrArg Value.bool hq103) rfl) ?_
            refine L_nil ?_
            refine W_ct (b := true) rfl rfl ?_
            refine W_seq ?_
            refine W_reg ?_
            refine L_pu (P_move (vb r5) rfl) ?_
            refine L_pu (P_not r5 rfl) ?_
            refine L_pu (P_move (vb (!r5)) rfl) ?_
            rcases bool_or (!r5) with hq104 | hq104
            · have H := ite_t H hq104
              refine L_run (dj := 65) rfl rfl (by exact congrArg Value.bool hq104) ?_
              refine L_pu (P_move (.slice A36 n37 c38) rfl) ?_
              refine L_run (dj := 65) rfl rfl (by exact congrArg Value.bool hq104) ?_
              have h105 := ((h46.sos g54 hk62).sn g80)
              have hl106 := h105.le
              refine L_pu (P_len Try.underlying33 A36 n37 c38 h105.len rfl) ?_
              refine L_run (dj := 65) rfl rfl (by exact congrArg Value.bool hq104) ?_
              refine L_pu (P_cmp (r4.length : Int) 0 ((r4.length : Int) == 0) rfl rfl rfl) ?_
              refine L_pu (P_pick true (vb ((r4.length : Int) == 0)) (by exact congrArg Value.bool hq104) rfl) ?_
              refine L_pu (P_assign (vb ((r4.length : Int) == 0)) rfl) ?_
              refine L_nil ?_
              refine W_ret ?_
              have hc107 := hc84.drop 0 rfl
              have hc108 := hc107.drop 0 rfl
              have hc109 := hc108.drop 0 rfl
              exact ⟨[vb ((r4.length : Int) == 0)], ⟨_, rfl, rfl⟩, (r4.length : Int) == 0, rfl, H, hc109.gr⟩
            · have H := ite_f H hq104
              refine L_pass (dj := 65) rfl rfl (.inl (by exact congrArg Value.bool hq104)) ?_
              refine L_pass (dj := 65) rfl rfl (.inl (by exact congrArg Value.bool hq104)) ?_
              refine L_pass (dj := 65) rfl rfl (.inl (by exact congrArg Value.bool hq104)) ?_
              refine L_pu (P_pick false (vb false) (by exact congrArg Value.bool hq104) rfl) ?_
              refine L_pu (P_assign (vb false) rfl) ?_
              refine L_nil ?_
              refine W_ret ?_
              have hc110 := hc84.drop 0 rfl
              have hc111 := hc110.drop 0 rfl
              have hc112 := hc111.drop 0 rfl
              exact ⟨[vb false], ⟨_, rfl, rfl⟩, false, rfl, H, hc112.gr⟩
          · have H := ite_f H hq103
            refine L_run (dj := 58) rfl rfl (by exact congrArg Value.bool hq103) ?_
            refine L_pu (P_move (.slice A19 n20 c21) rfl) ?_
            refine L_run (dj := 58) rfl rfl (by exact congrArg Value.bool hq103) ?_
            have h113 := (((h22.st (.owns _ g35 hk43)).st (.owns _ g54 hk62)).st (.new _ g80))
            have hl114 := h113.le
            refine L_pu (P_len Try.underlying33 A19 n20 c21 h113.len rfl) ?_
            refine L_run (dj := 58) rfl rfl (by exact congrArg Value.bool hq103) ?_
            refine L_pu (P_cmp (r3.length : Int) 12 (decide ((r3.length : Int) > 12)) rfl rfl rfl) ?_
            refine L_pu (P_pick false (vb (decide ((r3.length : Int) > 12))) (by exact congrArg Value.bool hq103) rfl) ?_
            refine L_nil ?_
            refine W_cond (decide ((r3.length : Int) > 12)) rfl (fun hq115 => ?_) (fun hq115 => ?_)
            · have H := ite_t H hq115
              refine W_seq ?_
              refine W_reg ?_
              refine L_pu (P_move (vb r5) rfl) ?_
              refine L_pu (P_not r5 rfl) ?_
              refine L_pu (P_move (vb (!r5)) rfl) ?_
              rcases bool_or (!r5) with hq116 | hq116
              · have H := ite_t H hq116
                refine L_run (dj := 65) rfl rfl (by exact congrArg Value.bool hq116) ?_
                refine L_pu (P_move (.slice A36 n37 c38) rfl) ?_
                refine L_run (dj := 65) rfl rfl (by exact congrArg Value.bool hq116) ?_
                have h117 := ((h46.sos g54 hk62).sn g80)
                have hl118 := h117.le
                refine L_pu (P_len Try.underlying33 A36 n37 c38 h117.len rfl) ?_
                refine L_run (dj := 65) rfl rfl (by exact congrArg Value.bool hq116) ?_
                refine L_pu (P_cmp (r4.length : Int) 0 ((r4.length : Int) == 0) rfl rfl rfl) ?_
                refine L_pu (P_pick true (vb ((r4.length : Int) == 0)) (by exact congrArg Value.bool hq116) rfl) ?_
                refine L_pu (P_assign (vb ((r4.length : Int) == 0)) rfl) ?_
                refine L_nil ?_
                refine W_ret ?_
                have hc119 := hc84.drop 0 rfl
                have hc120 := hc119.drop 0 rfl
                have hc121 := hc120.drop 0 rfl
                exact ⟨[vb ((r4.length : Int) == 0)], ⟨_, rfl, rfl⟩, (r4.length : Int) == 0, rfl, H, hc121.gr⟩
              · have H := ite_f H hq116
                refine L_pass (dj := 65) rfl rfl (.inl (by exact congrArg Value.bool hq116)) ?_
                refine L_pass (dj := 65) rfl rfl (.inl (by exact congrArg Value.bool hq116)) ?_
                refine L_pass (dj := 65) rfl rfl (.inl (by exact congrArg Value.bool hq116)) ?_
                refine L_pu (P_pick false (vb false) (by exact congrArg Value.bool hq116) rfl) ?_
                refine L_pu (P_assign (vb false) rfl) ?_
                refine L_nil ?_
                refine W_ret ?_
                have hc122 := hc84.drop 0 rfl
                have hc123 := hc122.drop 0 rfl
                have hc124 := hc123.drop 0 rfl
                exact ⟨[vb false], ⟨_, rfl, rfl⟩, false, rfl, H, hc124.gr⟩
            · have H := ite_f H hq115
              refine W_skip ?_
              refine W_seq ?_
              refine W_reg ?_
              refine L_pu (P_move (.slice A10 n11 c12) rfl) ?_
              refine L_pu (P_move (.slice A14 n15 c16) rfl) ?_
              refine L_pu (P_move (.slice A10 n11 c12) rfl) ?_
              have h125 := Ow.gv (L := [blk (.slice A55 n56 c57), blk (.slice A36 n37 c38), blk (.slice A14 n15 c16)]) (O := O) h101 hc84 (i := 2) rfl
              have hc126 := hc84.drop 2 rfl
              have h128 := (h89.st (.dr _ (L := [blk (.slice A55 n56 c57), blk (.slice A36 n37 c38), blk (.slice A14 n15 c16)]) (O := O) (j := 2) rfl))
              refine L_call go36 [.slice A10 n11 c12, .slice A14 n15 c16, .slice A10 n11 c12] rfl ((impl_SeqMerge.calls w79 hc126.ok r A10 n11 c12 h128 r2 A14 n15 c16 h125 r A10 n11 c12 h128 _ H).mono ?_)
              rintro _ w129 ⟨r9, r10, A131, n132, c133, rfl, H, g130, hk137, hk138, h134⟩
              have hk140 := Ok.unl (L := [blk (.slice A55 n56 c57), blk (.slice A36 n37 c38), blk (.slice A14 n15 c16)]) (L' := [blk (.slice A55 n56 c57), blk (.slice A36 n37 c38)]) (O := O) hc84 g130 hk137 hk138
              have h141 := Ow.unl (L := [blk (.slice A55 n56 c57), blk (.slice A36 n37 c38), blk (.slice A14 n15 c16)]) (L' := [blk (.slice A55 n56 c57), blk (.slice A36 n37 c38)]) (O := O) (fun _ _ _ _ _ _ h => h) (.cons_cons _ (.cons_cons _ (.cons _ (.slnil)))) h134
              have hc139 := hc84.owns g130 hk140 hk138
              refine L_pu (P_move (.tuple #[.slice A131 n132 c133, vb r10]) rfl) ?_
              refine L_pu (P_ext [.slice A131 n132 c133, vb r10] 0 (.slice A131 n132 c133) rfl rfl) ?_
              refine L_pu (P_ext [.slice A131 n132 c133, vb r10] 1 (vb r10) rfl rfl) ?_
              refine L_pu (P_assign (.slice A131 n132 c133) rfl) ?_
              refine L_pu (P_assign (vb r10) rfl) ?_
              refine L_nil ?_
              refine W_seq ?_
              refine W_reg ?_
              refine L_pu (P_move (.slice A10 n11 c12) rfl) ?_
              refine L_pu (P_move (.slice A10 n11 c12) rfl) ?_
              refine L_pu (P_move (.slice A19 n20 c21) rfl) ?_
              refine L_call go36 [.slice A10 n11 c12, .slice A10 n11 c12, .slice A19 n20 c21] rfl ((impl_SeqMerge.calls w129 hc139.ok r A10 n11 c12 (h89.st (.owns _ g130 hk138)) r A10 n11 c12 (h89.st (.owns _ g130 hk138)) r3 A19 n20 c21 (h113.st (.owns _ g130 hk138)) _ H).mono ?_)
              rintro _ w142 ⟨r11, r12, A144, n145, c146, rfl, H, g143, hk150, hk151, h147⟩
              have hc152 := hc139.owns g143 hk150 hk151
              refine L_pu (P_move (.tuple #[.slice A144 n145 c146, vb r12]) rfl) ?_
              refine L_pu (P_ext [.slice A144 n145 c146, vb r12] 0 (.slice A144 n145 c146) rfl rfl) ?_
              refine L_pu (P_ext [.slice A144 n145 c146, vb r12] 1 (vb r12) rfl rfl) ?_
              refine L_pu (P_assign (.slice A144 n145 c146) rfl) ?_
              refine L_pu (P_assign (vb r12) rfl) ?_
              refine L_nil ?_
              refine W_seq ?_
              refine W_reg ?_
              refine L_pu (P_move (.slice A10 n11 c12) rfl) ?_
              refine L_pu (P_move (.slice A14 n15 c16) rfl) ?_
              refine L_pu (P_move (.slice A14 n15 c16) rfl) ?_
              have h153 := ((h101.sos g130 hk138).sos g143 hk151)
              have h154 := Ow.gv (L := [blk (.slice A144 n145 c146), blk (.slice A131 n132 c133), blk (.slice A55 n56 c57), blk (.slice A36 n37 c38), blk (.slice A14 n15 c16)]) (O := O) h153 hc152 (i := 4) rfl
              have hc155 := hc152.drop 4 rfl
              have h157 := (((h89.st (.owns _ g130 hk138)).st (.owns _ g143 hk151)).st (.dr _ (L := [blk (.slice A144 n145 c146), blk (.slice A131 n132 c133), blk (.slice A55 n56 c57), blk (.slice A36 n37 c38), blk (.slice A14 n15 c16)]) (O := O) (j := 4) rfl))
              refine L_call go36 [.slice A10 n11 c12, .slice A14 n15 c16, .slice A14 n15 c16] rfl ((impl_SeqMerge.calls w142 hc155.ok r A10 n11 c12 h157 r2 A14 n15 c16 h154 r2 A14 n15 c16 h154 _ H).mono ?_)
              rintro _ w158 ⟨r13, r14, A160, n161, c162, rfl, H, g159, hk166, hk167, h163⟩
              have hk169 := Ok.unl (L := [blk (.slice A144 n145 c146), blk (.slice A131 n132 c133), blk (.slice A55 n56 c57), blk (.slice A36 n37 c38), blk (.slice A14 n15 c16)]) (L' := [blk (.slice A144 n145 c146), blk (.slice A131 n132 c133), blk (.slice A55 n56 c57), blk (.slice A36 n37 c38)]) (O := O) hc152 g159 hk166 hk167
              have h170 := Ow.unl (L := [blk (.slice A144 n145 c146), blk (.slice A131 n132 c133), blk (.slice A55 n56 c57), blk (.slice A36 n37 c38), blk (.slice A14 n15 c16)]) (L' := [blk (.slice A144 n145 c146), blk (.slice A131 n132 c133), blk (.slice A55 n56 c57), blk (.slice A36 n37 c38)]) (O := O) (fun _ _ _ _ _ _ h => h) (.cons_cons _ (.cons_cons _ (.cons_cons _ (.cons_cons _ (.cons _ (.slnil)))))) h163
              have hc168 := hc152.owns g159 hk169 hk167
              refine L_pu (P_move (.tuple #[.slice A160 n161 c162, vb r14]) rfl) ?_
              refine L_pu (P_ext [.slice A160 n161 c162, vb r14] 0 (.slice A160 n161 c162) rfl rfl) ?_
              refine L_pu (P_ext [.slice A160 n161 c162, vb r14] 1 (vb r14) rfl rfl) ?_
              refine L_pu (P_assign (.slice A160 n161 c162) rfl) ?_
              refine L_pu (P_assign (vb r14) rfl) ?_
              refine L_nil ?_
              refine W_seq ?_
              refine W_reg ?_
              refine L_pu (P_move (.slice A10 n11 c12) rfl) ?_
              refine L_pu (P_move (.slice A19 n20 c21) rfl) ?_
              refine L_pu (P_move (.slice A14 n15 c16) rfl) ?_
              have h171 := (((h101.sos g130 hk138).sos g143 hk151).sos g159 hk167)
              have h172 := Ow.gv (L := [blk (.slice A160 n161 c162), blk (.slice A144 n145 c146), blk (.slice A131 n132 c133), blk (.slice A55 n56 c57), blk (.slice A36 n37 c38), blk (.slice A14 n15 c16)]) (O := O) h171 hc168 (i := 5) rfl
              have hc173 := hc168.drop 5 rfl
              have h175 := ((((h89.st (.owns _ g130 hk138)).st (.owns _ g143 hk151)).st (.owns _ g159 hk167)).st (.dr _ (L := [blk (.slice A160 n161 c162), blk (.slice A144 n145 c146), blk (.slice A131 n132 c133), blk (.slice A55 n56 c57), blk (.slice A36 n37 c38), blk (.slice A14 n15 c16)]) (O := O) (j := 5) rfl))
              have h176 := ((((h113.st (.owns _ g130 hk138)).st (.owns _ g143 hk151)).st (.owns _ g159 hk167)).st (.dr _ (L := [blk (.slice A160 n161 c162), blk (.slice A144 n145 c146), blk (.slice A131 n132 c133), blk (.slice A55 n56 c57), blk (.slice A36 n37 c38), blk (.slice A14 n15 c16)]) (O := O) (j := 5) rfl))
              refine L_call go36 [.slice A10 n11 c12, .slice A19 n20 c21, .slice A14 n15 c16] rfl ((impl_SeqMerge.calls w158 hc173.ok r A10 n11 c12 h175 r3 A19 n20 c21 h176 r2 A14 n15 c16 h172 _ H).mono ?_)
              rintro _ w177 ⟨r15, r16, A179, n180, c181, rfl, H, g178, hk185, hk186, h182⟩
              have hk188 := Ok.unl (L := [blk (.slice A160 n161 c162), blk (.slice A144 n145 c146), blk (.slice A131 n132 c133), blk (.slice A55 n56 c57), blk (.slice A36 n37 c38), blk (.slice A14 n15 c16)]) (L' := [blk (.slice A160 n161 c162), blk (.slice A144 n145 c146), blk (.slice A131 n132 c133), blk (.slice A55 n56 c57), blk (.slice A36 n37 c38)]) (O := O) hc168 g178 hk185 hk186
              have h189 := Ow.unl (L := [blk (.slice A160 n161 c162), blk (.slice A144 n145 c146), blk (.slice A131 n132 c133), blk (.slice A55 n56 c57), blk (.slice A36 n37 c38), blk (.slice A14 n15 c16)]) (L' := [blk (.slice A160 n161 c162), blk (.slice A144 n145 c146), blk (.slice A131 n132 c133), blk (.slice A55 n56 c57), blk (.slice A36 n37 c38)]) (O := O) (fun _ _ _ _ _ _ h => h) (.cons_cons _ (.cons_cons _ (.cons_cons _ (.cons_cons _ (.cons_cons _ (.cons _ (.slnil))))))) h182
              have hc187 := hc168.owns g178 hk188 hk186
              refine L_pu (P_move (.tuple #[.slice A179 n180 c181, vb r16]) rfl) ?_
              refine L_pu (P_ext [.slice A179 n180 c181, vb r16] 0 (.slice A179 n180 c181) rfl rfl) ?_
              refine L_pu (P_ext [.slice A179 n180 c181, vb r16] 1 (vb r16) rfl rfl) ?_
              refine L_pu (P_assign (.slice A179 n180 c181) rfl) ?_
              refine L_pu (P_assign (vb r16) rfl) ?_
              refine L_nil ?_
              refine W_seq ?_
              refine W_reg ?_
              refine L_pu (P_move (vb r10) rfl) ?_
              refine L_pu (P_move (vb r10) rfl) ?_
              rcases bool_or r10 with hq190 | hq190
              · have H := ite_t H hq190
                refine L_run (dj := 99) rfl rfl (by exact congrArg Value.bool hq190) ?_
                refine L_pu (P_move (.slice A131 n132 c133) rfl) ?_
                refine L_run (dj := 99) rfl rfl (by exact congrArg Value.bool hq190) ?_
                refine L_pu (P_move (.slice A14 n15 c16) rfl) ?_
                refine L_run (dj := 99) rfl rfl (by exact congrArg Value.bool hq190) ?_
                have h191 := (((h141.sos g143 hk151).sos g159 hk167).sos g178 hk186)
                have h192 := Ow.gv (L := [blk (.slice A179 n180 c181), blk (.slice A160 n161 c162), blk (.slice A144 n145 c146), blk (.slice A131 n132 c133), blk (.slice A55 n56 c57), blk (.slice A36 n37 c38), blk (.slice A14 n15 c16)]) (O := O) h191 hc187 (i := 3) rfl
                have hc193 := hc187.drop 3 rfl
                have h195 := (Ow.sd (L := [blk (.slice A179 n180 c181), blk (.slice A160 n161 c162), blk (.slice A144 n145 c146), blk (.slice A131 n132 c133), blk (.slice A55 n56 c57), blk (.slice A36 n37 c38), blk (.slice A14 n15 c16)]) (O := O) ((((h101.sos g130 hk138).sos g143 hk151).sos g159 hk167).sos g178 hk186) (i := 6) rfl (j := 3) rfl (by decide))
                have h196 := Ow.gv (L := [blk (.slice A179 n180 c181), blk (.slice A160 n161 c162), blk (.slice A144 n145 c146), blk (.slice A55 n56 c57), blk (.slice A36 n37 c38), blk (.slice A14 n15 c16)]) (O := O) h195 hc193 (i := 5) rfl
                have hc197 := hc193.drop 5 rfl
                have h199 := (h192.st (.dr _ (L := [blk (.slice A179 n180 c181), blk (.slice A160 n161 c162), blk (.slice A144 n145 c146), blk (.slice A55 n56 c57), blk (.slice A36 n37 c38), blk (.slice A14 n15 c16)]) (O := O) (j := 5) rfl))
                refine L_call go40 [.slice A131 n132 c133, .slice A14 n15 c16] rfl ((laws_wsSame.calls w177 hc197.ok r9 A131 n132 c133 h199 r2 A14 n15 c16 h196 _ H).mono ?_)
                rintro _ w200 ⟨r17, rfl, H, g201⟩
                have hc205 := hc187.k0 g201
                refine L_pu (P_pick true (vb r17) (by exact congrArg Value.bool hq190) rfl) ?_
                refine L_pu (P_move (vb r17) rfl) ?_
                rcases bool_or r17 with hq206 | hq206
                · have H := ite_t H hq206
                  refine L_run (dj := 104) rfl rfl (by exact congrArg Value.bool hq206) ?_
                  refine L_pu (P_move (vb r12) rfl) ?_
                  refine L_pu (P_pick true (vb r12) (by exact congrArg Value.bool hq206) rfl) ?_
                  refine L_pu (P_move (vb r12) rfl) ?_
                  rcases bool_or r12 with hq207 | hq207
                  · have H := ite_t H hq207
                    refine L_run (dj := 107) rfl rfl (by exact congrArg Value.bool hq207) ?_
                    refine L_pu (P_move (.slice A144 n145 c146) rfl) ?_
                    refine L_run (dj := 107) rfl rfl (by exact congrArg Value.bool hq207) ?_
                    refine L_pu (P_move (.slice A19 n20 c21) rfl) ?_
                    refine L_run (dj := 107) rfl rfl (by exact congrArg Value.bool hq207) ?_
                    have h208 := (((h147.sos g159 hk167).sos g178 hk186).sn g201)
                    have h209 := Ow.gv (L := [blk (.slice A179 n180 c181), blk (.slice A160 n161 c162), blk (.slice A144 n145 c146), blk (.slice A131 n132 c133), blk (.slice A55 n56 c57), blk (.slice A36 n37 c38), blk (.slice A14 n15 c16)]) (O := O) h208 hc205 (i := 2) rfl
                    have hc210 := hc205.drop 2 rfl
                    have h212 := ((((((h113.st (.owns _ g130 hk138)).st (.owns _ g143 hk151)).st (.owns _ g159 hk167)).st (.owns _ g178 hk186)).st (.new _ g201)).st (.dr _ (L := [blk (.slice A179 n180 c181), blk (.slice A160 n161 c162), blk (.slice A144 n145 c146), blk (.slice A131 n132 c133), blk (.slice A55 n56 c57), blk (.slice A36 n37 c38), blk (.slice A14 n15 c16)]) (O := O) (j := 2) rfl))
                    refine L_call go40 [.slice A144 n145 c146, .slice A19 n20 c21] rfl ((laws_wsSame.calls w200 hc210.ok r11 A144 n145 c146 h209 r3 A19 n20 c21 h212 _ H).mono ?_)
                    rintro _ w213 ⟨r18, rfl, H, g214⟩
                    have hc218 := hc205.k0 g214
                    refine L_pu (P_pick true (vb r18) (by exact congrArg Value.bool hq207) rfl) ?_
                    refine L_pu (P_move (vb r18) rfl) ?_
                    rcases bool_or r18 with hq219 | hq219
                    · have H := ite_t H hq219
                      refine L_run (dj := 112) rfl rfl (by exact congrArg Value.bool hq219) ?_
                      refine L_pu (P_move (vb r14) rfl) ?_
                      refine L_pu (P_pick true (vb r14) (by exact congrArg Value.bool hq219) rfl) ?_
                      refine L_pu (P_move (vb r14) rfl) ?_
                      rcases bool_or r14 with hq220 | hq220
                      · have H := ite_t H hq220
                        refine L_run (dj := 115) rfl rfl (by exact congrArg Value.bool hq220) ?_
                        refine L_pu (P_move (.slice A160 n161 c162) rfl) ?_
                        refine L_run (dj := 115) rfl rfl (by exact congrArg Value.bool hq220) ?_
                        refine L_pu (P_move (.slice A14 n15 c16) rfl) ?_
                        refine L_run (dj := 115) rfl rfl (by exact congrArg Value.bool hq220) ?_
                        have h221 := (((h170.sos g178 hk186).sn g201).sn g214)
                        have h222 := Ow.gv (L := [blk (.slice A179 n180 c181), blk (.slice A160 n161 c162), blk (.slice A144 n145 c146), blk (.slice A131 n132 c133), blk (.slice A55 n56 c57), blk (.slice A36 n37 c38), blk (.slice A14 n15 c16)]) (O := O) h221 hc218 (i := 1) rfl
                        have hc223 := hc218.drop 1 rfl
                        have h225 := (Ow.sd (L := [blk (.slice A179 n180 c181), blk (.slice A160 n161 c162), blk (.slice A144 n145 c146), blk (.slice A131 n132 c133), blk (.slice A55 n56 c57), blk (.slice A36 n37 c38), blk (.slice A14 n15 c16)]) (O := O) ((((((h101.sos g130 hk138).sos g143 hk151).sos g159 hk167).sos g178 hk186).sn g201).sn g214) (i := 6) rfl (j := 1) rfl (by decide))
                        have h226 := Ow.gv (L := [blk (.slice A179 n180 c181), blk (.slice A144 n145 c146), blk (.slice A131 n132 c133), blk (.slice A55 n56 c57), blk (.slice A36 n37 c38), blk (.slice A14 n15 c16)]) (O := O) h225 hc223 (i := 5) rfl
                        have hc227 := hc223.drop 5 rfl
                        have h229 := (h222.st (.dr _ (L := [blk (.slice A179 n180 c181), blk (.slice A144 n145 c146), blk (.slice A131 n132 c133), blk (.slice A55 n56 c57), blk (.slice A36 n37 c38), blk (.slice A14 n15 c16)]) (O := O) (j := 5) rfl))
                        refine L_call go40 [.slice A160 n161 c162, .slice A14 n15 c16] rfl ((laws_wsSame.calls w213 hc227.ok r13 A160 n161 c162 h229 r2 A14 n15 c16 h226 _ H).mono ?_)
                        rintro _ w230 ⟨r19, rfl, H, g231⟩
                        have hc235 := hc218.k0 g231
                        refine L_pu (P_pick true (vb r19) (by exact congrArg Value.bool hq220) rfl) ?_
                        refine L_pu (P_move (vb r19) rfl) ?_
                        rcases bool_or r19 with hq236 | hq236
                        · have H := ite_t H hq236
                          refine L_run (dj := 120) rfl rfl (by exact congrArg Value.bool hq236) ?_
                          refine L_pu (P_move (vb r16) rfl) ?_
                          refine L_run (dj := 120) rfl rfl (by exact congrArg Value.bool hq236) ?_
                          refine L_pu (P_move (vb r5) rfl) ?_
                          refine L_run (dj := 120) rfl rfl (by exact congrArg Value.bool hq236) ?_
                          refine L_pu (P_bcmp Try.underlying4 r16 r5 (r16 == r5) rfl rfl rfl) ?_
                          refine L_pu (P_pick true (vb (r16 == r5)) (by exact congrArg Value.bool hq236) rfl) ?_
                          refine L_pu (P_move (vb (r16 == r5)) rfl) ?_
                          rcases bool_or (r16 == r5) with hq237 | hq237
                          · have H := ite_t H hq237
                            refine L_run (dj := 125) rfl rfl (by exact congrArg Value.bool hq237) ?_
                            refine L_pu (P_move (.slice A179 n180 c181) rfl) ?_
                            refine L_run (dj := 125) rfl rfl (by exact congrArg Value.bool hq237) ?_
                            refine L_pu (P_move (.slice A36 n37 c38) rfl) ?_
                            refine L_run (dj := 125) rfl rfl (by exact congrArg Value.bool hq237) ?_
                            have h238 := (((h189.sn g201).sn g214).sn g231)
                            have h239 := Ow.gv (L := [blk (.slice A179 n180 c181), blk (.slice A160 n161 c162), blk (.slice A144 n145 c146), blk (.slice A131 n132 c133), blk (.slice A55 n56 c57), blk (.slice A36 n37 c38), blk (.slice A14 n15 c16)]) (O := O) h238 hc235 (i := 0) rfl
                            have hc240 := hc235.drop 0 rfl
                            have h242 := (Ow.sd (L := [blk (.slice A179 n180 c181), blk (.slice A160 n161 c162), blk (.slice A144 n145 c146), blk (.slice A131 n132 c133), blk (.slice A55 n56 c57), blk (.slice A36 n37 c38), blk (.slice A14 n15 c16)]) (O := O) (((((((((h46.sos g54 hk62).sn g80).sos g130 hk138).sos g143 hk151).sos g159 hk167).sos g178 hk186).sn g201).sn g214).sn g231) (i := 5) rfl (j := 0) rfl (by decide))
                            have h243 := Ow.gv (L := [blk (.slice A160 n161 c162), blk (.slice A144 n145 c146), blk (.slice A131 n132 c133), blk (.slice A55 n56 c57), blk (.slice A36 n37 c38), blk (.slice A14 n15 c16)]) (O := O) h242 hc240 (i := 4) rfl
                            have hc244 := hc240.drop 4 rfl
                            have h246 := (h239.st (.dr _ (L := [blk (.slice A160 n161 c162), blk (.slice A144 n145 c146), blk (.slice A131 n132 c133), blk (.slice A55 n56 c57), blk (.slice A36 n37 c38), blk (.slice A14 n15 c16)]) (O := O) (j := 4) rfl))
                            refine L_call go40 [.slice A179 n180 c181, .slice A36 n37 c38] rfl ((laws_wsSame.calls w230 hc244.ok r15 A179 n180 c181 h246 r4 A36 n37 c38 h243 _ H).mono ?_)
                            rintro _ w247 ⟨r20, rfl, H, g248⟩
                            have hc252 := hc235.k0 g248
                            refine L_pu (P_pick true (vb r20) (by exact congrArg Value.bool hq237) rfl) ?_
                            refine L_pu (P_assign (vb r20) rfl) ?_
                            refine L_nil ?_
                            refine W_ret ?_
                            have hc253 := hc252.drop 0 rfl
                            have hc254 := hc253.drop 0 rfl
                            have hc255 := hc254.drop 0 rfl
                            have hc256 := hc255.drop 0 rfl
                            have hc257 := hc256.drop 0 rfl
                            have hc258 := hc257.drop 0 rfl
                            have hc259 := hc258.drop 0 rfl
                            exact ⟨[vb r20], ⟨_, rfl, rfl⟩, r20, rfl, H, hc259.gr⟩
                          · have H := ite_f H hq237
                            refine L_pass (dj := 125) rfl rfl (.inl (by exact congrArg Value.bool hq237)) ?_
                            refine L_pass (dj := 125) rfl rfl (.inl (by exact congrArg Value.bool hq237)) ?_
                            refine L_pass (dj := 125) rfl rfl (.inl (by exact congrArg Value.bool hq237)) ?_
                            refine L_pu (P_pick false (vb false) (by exact congrArg Value.bool hq237) rfl) ?_
                            refine L_pu (P_assign (vb false) rfl) ?_
                            refine L_nil ?_
                            refine W_ret ?_
                            have hc260 := hc235.drop 0 rfl
                            have hc261 := hc260.drop 0 rfl
                            have hc262 := hc261.drop 0 rfl
                            have hc263 := hc262.drop 0 rfl
                            have hc264 := hc263.drop 0 rfl
                            have hc265 := hc264.drop 0 rfl
                            have hc266 := hc265.drop 0 rfl
                            exact ⟨[vb false], ⟨_, rfl, rfl⟩, false, rfl, H, hc266.gr⟩
                        · have H := ite_f H hq236
                          refine L_pass (dj := 120) rfl rfl (.inl (by exact congrArg Value.bool hq236)) ?_
                          refine L_pass (dj := 120) rfl rfl (.inl (by exact congrArg Value.bool hq236)) ?_
                          refine L_pass (dj := 120) rfl rfl (.inl (by exact congrArg Value.bool hq236)) ?_
                          refine L_pu (P_pick false (vb false) (by exact congrArg Value.bool hq236) rfl) ?_
                          refine L_pu (P_move (vb false) rfl) ?_
                          refine L_pass (dj := 125) rfl rfl (.inl rfl) ?_
                          refine L_pass (dj := 125) rfl rfl (.inl rfl) ?_
                          refine L_pass (dj := 125) rfl rfl (.inl rfl) ?_
                          refine L_pu (P_pick false (vb false) (by exact congrArg Value.bool rfl) rfl) ?_
                          refine L_pu (P_assign (vb false) rfl) ?_
                          refine L_nil ?_
                          refine W_ret ?_
                          have hc267 := hc235.drop 0 rfl
                          have hc268 := hc267.drop 0 rfl
                          have hc269 := hc268.drop 0 rfl
                          have hc270 := hc269.drop 0 rfl
                          have hc271 := hc270.drop 0 rfl
                          have hc272 := hc271.drop 0 rfl
                          have hc273 := hc272.drop 0 rfl
                          exact ⟨[vb false], ⟨_, rfl, rfl⟩, false, rfl, H, hc273.gr⟩
                      · have H := ite_f H hq220
                        refine L_pass (dj := 115) rfl rfl (.inl (by exact congrArg Value.bool hq220)) ?_
                        refine L_pass (dj := 115) rfl rfl (.inl (by exact congrArg Value.bool hq220)) ?_
                        refine L_pass (dj := 115) rfl rfl (.inl (by exact congrArg Value.bool hq220)) ?_
                        refine L_pu (P_pick false (vb false) (by exact congrArg Value.bool hq220) rfl) ?_
                        refine L_pu (P_move (vb false) rfl) ?_
                        refine L_pass (dj := 120) rfl rfl (.inl rfl) ?_
                        refine L_pass (dj := 120) rfl rfl (.inl rfl) ?_
                        refine L_pass (dj := 120) rfl rfl (.inl rfl) ?_
                        refine L_pu (P_pick false (vb false) (by exact congrArg Value.bool rfl) rfl) ?_
                        refine L_pu (P_move (vb false) rfl) ?_
                        refine L_pass (dj := 125) rfl rfl (.inl rfl) ?_
                        refine L_pass (dj := 125) rfl rfl (.inl rfl) ?_
                        refine L_pass (dj := 125) rfl rfl (.inl rfl) ?_
                        refine L_pu (P_pick false (vb false) (by exact congrArg Value.bool rfl) rfl) ?_
                        refine L_pu (P_assign (vb false) rfl) ?_
                        refine L_nil ?_
                        refine W_ret ?_
                        have hc274 := hc218.drop 0 rfl
                        have hc275 := hc274.drop 0 rfl
                        have hc276 := hc275.drop 0 rfl
                        have hc277 := hc276.drop 0 rfl
                        have hc278 := hc277.drop 0 rfl
                        have hc279 := hc278.drop 0 rfl
                        have hc280 := hc279.drop 0 rfl
                        exact ⟨[vb false], ⟨_, rfl, rfl⟩, false, rfl, H, hc280.gr⟩
                    · have H := ite_f H hq219
                      refine L_pass (dj := 112) rfl rfl (.inl (by exact congrArg Value.bool hq219)) ?_
                      refine L_pu (P_pick false (vb false) (by exact congrArg Value.bool hq219) rfl) ?_
                      refine L_pu (P_move (vb false) rfl) ?_
                      refine L_pass (dj := 115) rfl rfl (.inl rfl) ?_
                      refine L_pass (dj := 115) rfl rfl (.inl rfl) ?_
                      refine L_pass (dj := 115) rfl rfl (.inl rfl) ?_
                      refine L_pu (P_pick false (vb false) (by exact congrArg Value.bool rfl) rfl) ?_
                      refine L_pu (P_move (vb false) rfl) ?_
                      refine L_pass (dj := 120) rfl rfl (.inl rfl) ?_
                      refine L_pass (dj := 120) rfl rfl (.inl rfl) ?_
                      refine L_pass (dj := 120) rfl rfl (.inl rfl) ?_
                      refine L_pu (P_pick false (vb false) (by exact congrArg Value.bool rfl) rfl) ?_
                      refine L_pu (P_move (vb false) rfl) ?_
                      refine L_pass (dj := 125) rfl rfl (.inl rfl) ?_
                      refine L_pass (dj := 125) rfl rfl (.inl rfl) ?_
                      refine L_pass (dj := 125) rfl rfl (.inl rfl) ?_
                      refine L_pu (P_pick false (vb false) (by exact congrArg Value.bool rfl) rfl) ?_
                      refine L_pu (P_assign (vb false) rfl) ?_
                      refine L_nil ?_
                      refine W_ret ?_
                      have hc281 := hc218.drop 0 rfl
                      have hc282 := hc281.drop 0 rfl
                      have hc283 := hc282.drop 0 rfl
                      have hc284 := hc283.drop 0 rfl
                      have hc285 := hc284.drop 0 rfl
                      have hc286 := hc285.drop 0 rfl
                      have hc287 := hc286.drop 0 rfl
                      exact ⟨[vb false], ⟨_, rfl, rfl⟩, false, rfl, H, hc287.gr⟩
                  · have H := ite_f H hq207
                    refine L_pass (dj := 107) rfl rfl (.inl (by exact congrArg Value.bool hq207)) ?_
                    refine L_pass (dj := 107) rfl rfl (.inl (by exact congrArg Value.bool hq207)) ?_
                    refine L_pass (dj := 107) rfl rfl (.inl (by exact congrArg Value.bool hq207)) ?_
                    refine L_pu (P_pick false (vb false) (by exact congrArg Value.bool hq207) rfl) ?_
                    refine L_pu (P_move (vb false) rfl) ?_
                    refine L_pass (dj := 112) rfl rfl (.inl rfl) ?_
                    refine L_pu (P_pick false (vb false) (by exact congrArg Value.bool rfl) rfl) ?_
                    refine L_pu (P_move (vb false) rfl) ?_
                    refine L_pass (dj := 115) rfl rfl (.inl rfl) ?_
                    refine L_pass (dj := 115) rfl rfl (.inl rfl) ?_
                    refine L_pass (dj := 115) rfl rfl (.inl rfl) ?_
                    refine L_pu (P_pick false (vb false) (by exact congrArg Value.bool rfl) rfl) ?_
                    refine L_pu (P_move (vb false) rfl) ?_
                    refine L_pass (dj := 120) rfl rfl (.inl rfl) ?_
                    refine L_pass (dj := 120) rfl rfl (.inl rfl) ?_
                    refine L_pass (dj := 120) rfl rfl (.inl rfl) ?_
                    refine L_pu (P_pick false (vb false) (by exact congrArg Value.bool rfl) rfl) ?_
                    refine L_pu (P_move (vb false) rfl) ?_
                    refine L_pass (dj := 125) rfl rfl (.inl rfl) ?_
                    refine L_pass (dj := 125) rfl rfl (.inl rfl) ?_
                    refine L_pass (dj := 125) rfl rfl (.inl rfl) ?_
                    refine L_pu (P_pick false (vb false) (by exact congrArg Value.bool rfl) rfl) ?_
                    refine L_pu (P_assign (vb false) rfl) ?_
                    refine L_nil ?_
                    refine W_ret ?_
                    have hc288 := hc205.drop 0 rfl
                    have hc289 := hc288.drop 0 rfl
                    have hc290 := hc289.drop 0 rfl
                    have hc291 := hc290.drop 0 rfl
                    have hc292 := hc291.drop 0 rfl
                    have hc293 := hc292.drop 0 rfl
                    have hc294 := hc293.drop 0 rfl
                    exact ⟨[vb false], ⟨_, rfl, rfl⟩, false, rfl, H, hc294.gr⟩
                · have H := ite_f H hq206
                  refine L_pass (dj := 104) rfl rfl (.inl (by exact congrArg Value.bool hq206)) ?_
                  refine L_pu (P_pick false (vb false) (by exact congrArg Value.bool hq206) rfl) ?_
                  refine L_pu (P_move (vb false) rfl) ?_
                  refine L_pass (dj := 107) rfl rfl (.inl rfl) ?_
                  refine L_pass (dj := 107) rfl rfl (.inl rfl) ?_
                  refine L_pass (dj := 107) rfl rfl (.inl rfl) ?_
                  refine L_pu (P_pick false (vb false) (by exact congrArg Value.bool rfl) rfl) ?_
                  refine L_pu (P_move (vb false) rfl) ?_
                  refine L_pass (dj := 112) rfl rfl (.inl rfl) ?_
                  refine L_pu (P_pick false (vb false) (by exact congrArg Value.bool rfl) rfl) ?_
                  refine L_pu (P_move (vb false) rfl) ?_
                  refine L_pass (dj := 115) rfl rfl (.inl rfl) ?_
                  refine L_pass (dj := 115) rfl rfl (.inl rfl) ?_
                  refine L_pass (dj := 115) rfl rfl (.inl rfl) ?_
                  refine L_pu (P_pick false (vb false) (by exact congrArg Value.bool rfl) rfl) ?_
                  refine L_pu (P_move (vb false) rfl) ?_
                  refine L_pass (dj := 120) rfl rfl (.inl rfl) ?_
                  refine L_pass (dj := 120) rfl rfl (.inl rfl) ?_
                  refine L_pass (dj := 120) rfl rfl (.inl rfl) ?_
                  refine L_pu (P_pick false (vb false) (by exact congrArg Value.bool rfl) rfl) ?_
                  refine L_pu (P_move (vb false) rfl) ?_
                  refine L_pass (dj := 125) rfl rfl (.inl rfl) ?_
                  refine L_pass (dj := 125) rfl rfl (.inl rfl) ?_
                  refine L_pass (dj := 125) rfl rfl (.inl rfl) ?_
                  refine L_pu (P_pick false (vb false) (by exact congrArg Value.bool rfl) rfl) ?_
                  refine L_pu (P_assign (vb false) rfl) ?_
                  refine L_nil ?_
                  refine W_ret ?_
                  have hc295 := hc205.drop 0 rfl
                  have hc296 := hc295.drop 0 rfl
                  have hc297 := hc296.drop 0 rfl
                  have hc298 := hc297.drop 0 rfl
                  have hc299 := hc298.drop 0 rfl
                  have hc300 := hc299.drop 0 rfl
                  have hc301 := hc300.drop 0 rfl
                  exact ⟨[vb false], ⟨_, rfl, rfl⟩, false, rfl, H, hc301.gr⟩
              · have H := ite_f H hq190
                refine L_pass (dj := 99) rfl rfl (.inl (by exact congrArg Value.bool hq190)) ?_
                refine L_pass (dj := 99) rfl rfl (.inl (by exact congrArg Value.bool hq190)) ?_
                refine L_pass (dj := 99) rfl rfl (.inl (by exact congrArg Value.bool hq190)) ?_
                refine L_pu (P_pick false (vb false) (by exact congrArg Value.bool hq190) rfl) ?_
                refine L_pu (P_move (vb false) rfl) ?_
                refine L_pass (dj := 104) rfl rfl (.inl rfl) ?_
                refine L_pu (P_pick false (vb false) (by exact congrArg Value.bool rfl) rfl) ?_
                refine L_pu (P_move (vb false) rfl) ?_
                refine L_pass (dj := 107) rfl rfl (.inl rfl) ?_
                refine L_pass (dj := 107) rfl rfl (.inl rfl) ?_
                refine L_pass (dj := 107) rfl rfl (.inl rfl) ?_
                refine L_pu (P_pick false (vb false) (by exact congrArg Value.bool rfl) rfl) ?_
                refine L_pu (P_move (vb false) rfl) ?_
                refine L_pass (dj := 112) rfl rfl (.inl rfl) ?_
                refine L_pu (P_pick false (vb false) (by exact congrArg Value.bool rfl) rfl) ?_
                refine L_pu (P_move (vb false) rfl) ?_
                refine L_pass (dj := 115) rfl rfl (.inl rfl) ?_
                refine L_pass (dj := 115) rfl rfl (.inl rfl) ?_
                refine L_pass (dj := 115) rfl rfl (.inl rfl) ?_
                refine L_pu (P_pick false (vb false) (by exact congrArg Value.bool rfl) rfl) ?_
                refine L_pu (P_move (vb false) rfl) ?_
                refine L_pass (dj := 120) rfl rfl (.inl rfl) ?_
                refine L_pass (dj := 120) rfl rfl (.inl rfl) ?_
                refine L_pass (dj := 120) rfl rfl (.inl rfl) ?_
                refine L_pu (P_pick false (vb false) (by exact congrArg Value.bool rfl) rfl) ?_
                refine L_pu (P_move (vb false) rfl) ?_
                refine L_pass (dj := 125) rfl rfl (.inl rfl) ?_
                refine L_pass (dj := 125) rfl rfl (.inl rfl) ?_
                refine L_pass (dj := 125) rfl rfl (.inl rfl) ?_
                refine L_pu (P_pick false (vb false) (by exact congrArg Value.bool rfl) rfl) ?_
                refine L_pu (P_assign (vb false) rfl) ?_
                refine L_nil ?_
                refine W_ret ?_
                have hc302 := hc187.drop 0 rfl
                have hc303 := hc302.drop 0 rfl
                have hc304 := hc303.drop 0 rfl
                have hc305 := hc304.drop 0 rfl
                have hc306 := hc305.drop 0 rfl
                have hc307 := hc306.drop 0 rfl
                have hc308 := hc307.drop 0 rfl
                exact ⟨[vb false], ⟨_, rfl, rfl⟩, false, rfl, H, hc308.gr⟩
end Go.Proofs.Ytnliofcjplnboaa

namespace Go.Proofs.Ytnliofcjplnboaa
set_option linter.unusedVariables false
set_option linter.unusedSimpArgs false
/-- a merge hands back the row, or nothing -/
def mrow (o a b : List Pt) : List Pt := (smerge o a b).getD []
def mok (o a b : List Pt) : Bool := (smerge o a b).isSome
theorem impl_SeqMerge.is (o a b : List Pt) (Q : List Pt → Bool → Prop) (hq : Q (mrow o a b) (mok o a b)) : impl_SeqMerge.E o a b Q :=
  impl_SeqMerge.law o a b Q (fun r h => by unfold mrow mok at hq; rw [h] at hq; exact hq) (fun h => by unfold mrow mok at hq; rw [h] at hq; exact hq)
theorem spec_SeqMerge.is (o a b : List Pt) (Q : List Pt → Bool → Prop) (hq : Q (mrow o a b) (mok o a b)) : spec_SeqMerge.E o a b Q :=
  spec_SeqMerge.law o a b Q (fun r h => by unfold mrow mok at hq; rw [h] at hq; exact hq) (fun h => by unfold mrow mok at hq; rw [h] at hq; exact hq)
theorem m_of {o a b r : List Pt} (h : smerge o a b = some r) : mrow o a b = r ∧ mok o a b = true := by unfold mrow mok; rw [h]; exact ⟨rfl, rfl⟩
theorem m_not {o a b : List Pt} (h : smerge o a b = none) : mrow o a b = [] ∧ mok o a b = false := by unfold mrow mok; rw [h]; exact ⟨rfl, rfl⟩
end Go.Proofs.Ytnliofcjplnboaa

namespace Go.Proofs.Ytnliofcjplnboaa
set_option linter.unusedVariables false
set_option linter.unusedSimpArgs false
theorem laws_FnSeqMerge.gen (code : List UInt8) (Q : Bool → Prop) (hq : Q true) : laws_FnSeqMerge.E code Q := by
  unfold laws_FnSeqMerge.E
  by_cases c1 : (code.length : Int) > 1048576
  · rw [if_pos (by simpa using c1)]; exact hq
  rw [if_neg (by simpa using c1)]
  refine spec_DrawSeqMerge.law _ _ fun o a b ho ha hb _ _ _ => impl_SeqMerge.is _ _ _ _ (spec_SeqMerge.is _ _ _ _ ?_)
  rw [if_neg (by simp)]
  refine laws_wsSame.law _ _ _ ?_
  rw [decide_eq_true rfl, if_neg (by decide)]
  have out : smerge o a b = none → (if (!(mok o a b)) = true then Q ((((mrow o a b)).length : Int) == 0) else Q false) := fun h => by
    obtain ⟨e1, e2⟩ := m_not h
    rw [e1, e2]; exact hq
  by_cases c2 : (o.length : Int) > 12
  · rw [if_pos (by simpa using c2)]; exact out (smerge_not (.inl (few_not.2 (by omega))))
  rw [if_neg (by simpa using c2)]
  by_cases c3 : (a.length : Int) > 12
  · rw [if_pos (by simpa using c3)]; exact out (smerge_not (.inl (few_not.2 (by omega))))
  rw [if_neg (by simpa using c3)]
  by_cases c4 : (b.length : Int) > 12
  · rw [if_pos (by simpa using c4)]; exact out (smerge_not (.inr (few_not.2 (by omega))))
  rw [if_neg (by simpa using c4)]
  refine impl_SeqMerge.is _ _ _ _ (impl_SeqMerge.is _ _ _ _ (impl_SeqMerge.is _ _ _ _ (impl_SeqMerge.is _ _ _ _ ?_)))
  have f1 : few o a = true := few_iff.2 (by omega)
  have f2 : few o b = true := few_iff.2 (by omega)
  obtain ⟨e1, e2⟩ := m_of (smerge_old f1)
  obtain ⟨e3, e4⟩ := m_of ((smerge_comm o o b).trans (smerge_old f2))
  obtain ⟨e5, e6⟩ := m_of (smerge_same f1)
  have e7 : mrow o b a = mrow o a b := by unfold mrow; rw [smerge_comm]
  have e8 : mok o b a = mok o a b := by unfold mok; rw [smerge_comm]
  rw [e1, e2, e3, e4, e5, e6, e7, e8, if_pos rfl]
  refine laws_wsSame.law _ _ _ ?_
  rw [decide_eq_true rfl, if_pos rfl, if_pos rfl]
  refine laws_wsSame.law _ _ _ ?_
  rw [decide_eq_true rfl, if_pos rfl, if_pos rfl]
  refine laws_wsSame.law _ _ _ ?_
  rw [decide_eq_true rfl, if_pos rfl, if_pos (by simp)]
  refine laws_wsSame.law _ _ _ ?_
  rw [decide_eq_true rfl]; exact hq
theorem laws_FnSeqMerge.law (code : List UInt8) (_ : ∀ x ∈ code, True) : laws_FnSeqMerge.E code (fun r => r = true) := laws_FnSeqMerge.gen code _ rfl
end Go.Proofs.Ytnliofcjplnboaa

namespace Go.Proofs.Ytnliofcjplnboaa.rFnSeqMerge
open Go.ChangeShapes Go.WideShapes Go.ChangeAt Go.RowKit
open Go.ChangeMaps (open_string shut_string)
set_option linter.unusedVariables false
theorem own : ownKnob Try.prog.godebug = none := by kernel_rfl
theorem laidOut : laidOutB Try.prog = true := by kernel_rfl
set_option maxRecDepth 100000 in
theorem lifted (os : Os) (started : os.Started) (H : Type) (enc : TypeId × Value → H) :
    ReturnsInHanded {} Try.checked os 14 .any (Rows.fnSeqMergeSpec.pre6 enc Try.prog Try.f14 Rows.fnSeqMergeRow.domain false) (Rows.fnSeqMergeSpec.post enc Try.prog Try.f14 false true false false) := by
  refine returnsInHanded_of_change_sized (C := Try.checked) own started (by kernel_rfl) Try.func14
    (ChangeSpec.witness6 (enc := enc) (C := Try.checked) false ⟨#[], #[.slice none 0 0], []⟩ 8 (by kernel_rfl) (by kernel_rfl) (by kernel_rfl) (by kernel_rfl)) ?_
  intro W base args ds gs before hval0 hW hcnd hsz0 _
  have hval : ∀ (j : Nat) t v, Try.f14.params[j]? = some t → args[j]? = some v → Value.okWide Try.prog W .any base t v := hval0
  have hW' := hW
  obtain ⟨p, q, hA0, hV, rfl, hfz, hnd⟩ := hW
  have hA : DataW.TrodAll enc Try.prog W 0 (fun _ => true) true Try.f14.params.toList args.toList ds p := hA0
  rw [Try.params14] at hA hval
  obtain ⟨v0, vs0, d0, ds0, p0, q0, hargs, rfl, rfl, h0, r0⟩ := trodAll_cons hA
  obtain ⟨rfl, rfl, rfl⟩ := trodAll_nil r0
  obtain rfl : args = #[v0] := by cases args; simp_all
  obtain ⟨rfl, rfl⟩ := trodVars_none hV
  have k0 := h0
  have lt0 : ∀ x ∈ p0, x.block < W.heap.size := by obtain ⟨m, hm⟩ := k0; exact DataW.trod_lt m _ _ _ hm
  obtain ⟨x0, hv0, hx0⟩ : ∃ a : List UInt8, (∀ y0 ∈ a, True) ∧ (Kd.sl Kd.byte).R W (Fr []) a v0.cells.toList := by obtain ⟨fuel, hf⟩ := h0; exact (Tr.sl Try.underlying37 (by kernel_rfl) (Tr.byte Try.underlying5)) H enc W fuel _ _ hf
  obtain ⟨a0, n0, c0, rfl⟩ := okWide_slice Try.underlying37 (hval 0 37 v0 rfl rfl)
  have s0 : Sl Kd.byte W (Fr []) (.slice a0 n0 c0) x0 := by obtain ⟨_, e, h⟩ := hx0; simp [Value.cells] at e; subst e; exact h
  clear hA0 hval0 hsz0
  refine Calls.mono (laws_FnSeqMerge.calls W (Ok.nil W) x0 a0 n0 c0 s0 (fun r => r = true) (laws_FnSeqMerge.law x0 hv0)) fun e W' ⟨v, he, r, hr, hq, hg⟩ => ?_
  subst he; subst hr; subst hq
  have bel := Gr.below hg
  exact ⟨_, rfl, _, _, _, [], _, [], hW', trodAll_mk1 (shut_bool Try.underlying4 _), (trodAll_cons_mk (Below.trod laidOut (by kernel_rfl) (of_decide_eq_true (by kernel_rfl)) k0 bel lt0) trodAll_mk0), rfl, bel.frame _, fun h => by cases h⟩
theorem over : Rows.fnSeqMergeRow.holds Try.pinned (OpenSpec.ofChange Rows.fnSeqMergeSpec) :=
  OpenClaim.holds_of_wide 14 Try.f14 rfl rfl rfl rfl rfl rfl rfl ⟨rfl, rfl, rfl, rfl, rfl⟩ rfl rfl rfl rfl rfl (by kernel_rfl) Try.func14 (by kernel_rfl)
    (of_decide_eq_true (by kernel_rfl)) (by unfold Func.isWrapper; first | (rw [if_pos (by decide +kernel)]; kernel_rfl) | (rw [if_neg (by decide +kernel)]; exact ⟨rfl, rfl⟩))
    (fun os started H enc _ => lifted os started H enc)
theorem proved : Rows.FnSeqMergeSaid := over
#print axioms proved
end Go.Proofs.Ytnliofcjplnboaa.rFnSeqMerge
namespace Go.Proofs.Ytnliofcjplnboaa
theorem fnSeqMerge_holds : Rows.FnSeqMergeSaid := rFnSeqMerge.proved
end Go.Proofs.Ytnliofcjplnboaa
