/- It is proved here that the law FnSeqKeep of the given program holds whatever it is handed: the walks through the code, the plain laws and the row, in this order.
   Conditions: none. -/
import Derived.Below
import Derived.ChangeArms
import Derived.ChangeOld
import Derived.ChangeSlices
import Derived.DataReads
import Derived.Deep.Quiet
import Derived.KernelRfl
import Derived.Laws.Build
import Derived.Laws.OwnMore
import Derived.Laws.Slices
import Derived.Laws.StructEq
import Derived.OpenShut
import Derived.ProofKit
import Derived.ShutString
import Derived.SizedLaws
import Derived.StillTail
import Derived.Test.YtnliofcjplnboaaProg
import Derived.Test.YtnliofcjplnboaaRows
import Derived.WalkKit
import Derived.Test.YtnliofcjplnboaaCSeqKeepa
import Derived.Test.YtnliofcjplnboaaCSeqKeepb
import Derived.Test.YtnliofcjplnboaaCSeqKeepc
namespace Go.Proofs.Ytnliofcjplnboaa
open Go.RowKit
set_option linter.unusedVariables false
def laws_FnSeqKeep.E (code : List UInt8) (Q : Bool → Prop) : Prop :=
  (if decide ((code.length : Int) > 1048576) then Q true else spec_DrawSeqMerge.E code (fun r r2 r3 => impl_SeqMerge.E r r2 r3 (fun r4 r5 => spec_SeqMerge.E r r2 r3 (fun r6 r7 => (if r5 != r7 then Q (r5 == r7) else (if !r5 then Q (r5 == r7) else (∃ (I105 : Int → Prop) (mu106 : Int → Nat), I105 0 ∧ ∀ (i2 : Int), I105 i2 → (if decide (i2 < (r4.length : Int)) then ((0 : Int) ≤ i2 ∧ i2 < (r4.length : Int)) ∧ laws_wsHas.E r2 (nth r4 i2) (fun r8 => (if !r8 then ((0 : Int) ≤ i2 ∧ i2 < (r4.length : Int)) ∧ laws_wsHas.E r3 (nth r4 i2) (fun r9 => (if !r9 then Q false else (-9223372036854775808 ≤ i2) ∧ I105 (i2 + 1) ∧ mu106 (i2 + 1) < mu106 i2)) else (-9223372036854775808 ≤ i2) ∧ I105 (i2 + 1) ∧ mu106 (i2 + 1) < mu106 i2)) else (∃ (I195 : Int → Prop) (mu196 : Int → Nat), I195 0 ∧ ∀ (i4 : Int), I195 i4 → (if decide (i4 < (r2.length : Int)) then ((0 : Int) ≤ i4 ∧ i4 < (r2.length : Int)) ∧ laws_wsHas.E r (nth r2 i4) (fun r10 => (if !r10 then ((0 : Int) ≤ i4 ∧ i4 < (r2.length : Int)) ∧ laws_wsHas.E r4 (nth r2 i4) (fun r11 => (if !r11 then Q false else (-9223372036854775808 ≤ i4) ∧ I195 (i4 + 1) ∧ mu196 (i4 + 1) < mu196 i4)) else (-9223372036854775808 ≤ i4) ∧ I195 (i4 + 1) ∧ mu196 (i4 + 1) < mu196 i4)) else (∃ (I282 : Int → Prop) (mu283 : Int → Nat), I282 0 ∧ ∀ (i6 : Int), I282 i6 → (if decide (i6 < (r3.length : Int)) then ((0 : Int) ≤ i6 ∧ i6 < (r3.length : Int)) ∧ laws_wsHas.E r (nth r3 i6) (fun r12 => (if !r12 then ((0 : Int) ≤ i6 ∧ i6 < (r3.length : Int)) ∧ laws_wsHas.E r4 (nth r3 i6) (fun r13 => (if !r13 then Q false else (-9223372036854775808 ≤ i6) ∧ I282 (i6 + 1) ∧ mu283 (i6 + 1) < mu283 i6)) else (-9223372036854775808 ≤ i6) ∧ I282 (i6 + 1) ∧ mu283 (i6 + 1) < mu283 i6)) else ((r3.length : Int) ≤ 9223372036854775807 → (r4.length : Int) ≤ 9223372036854775807 → (r2.length : Int) ≤ 9223372036854775807 → I64 ((r2.length : Int) + (r3.length : Int))) ∧ Q (decide ((r4.length : Int) ≤ (r2.length : Int) + (r3.length : Int)))))))))))))))
set_option maxHeartbeats 8000000 in
set_option maxRecDepth 100000 in
theorem laws_FnSeqKeep.calls {O : Ob} (w0 : World) (hO : Ok w0 O) (code : List UInt8) (A1 : Option Addr) (n2 c3 : Nat) (hp4 : Sl Kd.byte w0 (Fr O) (.slice A1 n2 c3) code) (Q : Bool → Prop) (h : laws_FnSeqKeep.E code Q) :
    Ret Try.prog 11 [.slice A1 n2 c3] w0 (fun v w' => ∃ (r0 : Bool), v = vb r0 ∧ Q r0 ∧ Gr w0 w' none) := by
  have H : (if decide ((code.length : Int) > 1048576) then Q true else spec_DrawSeqMerge.E code (fun r r2 r3 => impl_SeqMerge.E r r2 r3 (fun r4 r5 => spec_SeqMerge.E r r2 r3 (fun r6 r7 => (if r5 != r7 then Q (r5 == r7) else (if !r5 then Q (r5 == r7) else (∃ (I105 : Int → Prop) (mu106 : Int → Nat), I105 0 ∧ ∀ (i2 : Int), I105 i2 → (if decide (i2 < (r4.length : Int)) then ((0 : Int) ≤ i2 ∧ i2 < (r4.length : Int)) ∧ laws_wsHas.E r2 (nth r4 i2) (fun r8 => (if !r8 then ((0 : Int) ≤ i2 ∧ i2 < (r4.length : Int)) ∧ laws_wsHas.E r3 (nth r4 i2) (fun r9 => (if !r9 then Q false else (-9223372036854775808 ≤ i2) ∧ I105 (i2 + 1) ∧ mu106 (i2 + 1) < mu106 i2)) else (-9223372036854775808 ≤ i2) ∧ I105 (i2 + 1) ∧ mu106 (i2 + 1) < mu106 i2)) else (∃ (I195 : Int → Prop) (mu196 : Int → Nat), I195 0 ∧ ∀ (i4 : Int), I195 i4 → (if decide (i4 < (r2.length : Int)) then ((0 : Int) ≤ i4 ∧ i4 < (r2.length : Int)) ∧ laws_wsHas.E r (nth r2 i4) (fun r10 => (if !r10 then ((0 : Int) ≤ i4 ∧ i4 < (r2.length : Int)) ∧ laws_wsHas.E r4 (nth r2 i4) (fun r11 => (if !r11 then Q false else (-9223372036854775808 ≤ i4) ∧ I195 (i4 + 1) ∧ mu196 (i4 + 1) < mu196 i4)) else (-9223372036854775808 ≤ i4) ∧ I195 (i4 + 1) ∧ mu196 (i4 + 1) < mu196 i4)) else (∃ (I282 : Int → Prop) (mu283 : Int → Nat), I282 0 ∧ ∀ (i6 : Int), I282 i6 → (if decide (i6 < (r3.length : Int)) then ((0 : Int) ≤ i6 ∧ i6 < (r3.length : Int)) ∧ laws_wsHas.E r (nth r3 i6) (fun r12 => (if !r12 then ((0 : Int) ≤ i6 ∧ i6 < (r3.length : Int)) ∧ laws_wsHas.E r4 (nth r3 i6) (fun r13 => (if !r13 then Q false else (-9223372036854775808 ≤ i6) ∧ I282 (i6 + 1) ∧ mu283 (i6 + 1) < mu283 i6)) else (-9223372036854775808 ≤ i6) ∧ I282 (i6 + 1) ∧ mu283 (i6 + 1) < mu283 i6)) else ((r3.length : Int) ≤ 9223372036854775807 → (r4.length : Int) ≤ 9223372036854775807 → (r2.length : Int) ≤ 9223372036854775807 → I64 ((r2.length : Int) + (r3.length : Int))) ∧ Q (decide ((r4.length : Int) ≤ (r2.length : Int) + (r3.length : Int))))))))))))))) := h
  clear h
  have hc0 := Ct.init hO
  refine Ret_enter Try.func11 rfl 120 rfl [.tmp 2] rfl rfl ?_
  refine W_seq ?_
  refine W_reg ?_
  refine L_pu (P_assign (vb false) rfl) ?_
  refine L_nil ?_
  refine W_seq ?_
  refine W_seq ?_
  refine W_reg ?_
  refine L_pu (P_move (.slice A1 n2 c3) rfl) ?_
  have hl6 := hp4.le
  refine L_pu (P_len Try.underlying37 A1 n2 c3 hp4.len rfl) ?_
  refine L_pu (P_cmp (code.length : Int) 1048576 (decide ((code.length : Int) > 1048576)) rfl rfl rfl) ?_
  refine L_nil ?_
  refine W_cond (decide ((code.length : Int) > 1048576)) rfl (fun hq7 => ?_) (fun hq7 => ?_)
  · have H := ite_t H hq7
    refine W_seq ?_
    refine W_reg ?_
    refine L_pu (P_assign (vb true) rfl) ?_
    refine L_nil ?_
    refine W_ret ?_
    exact ⟨[vb true], ⟨_, rfl, rfl⟩, true, rfl, H, hc0.gr⟩
  · have H := ite_f H hq7
    refine W_skip ?_
    refine W_seq ?_
    refine W_reg ?_
    refine L_pu (P_move (.slice A1 n2 c3) rfl) ?_
    refine L_call go38 [.slice A1 n2 c3] rfl ((spec_DrawSeqMerge.calls w0 hc0.ok code A1 n2 c3 hp4 _ H).mono ?_)
    rintro _ w8 ⟨r, r2, r3, A10, n11, c12, A14, n15, c16, A19, n20, c21, rfl, H, g9, hk24, hk25, h13, h17, h22⟩
    have hc26 := hc0.owns g9 hk24 hk25
    refine L_pu (P_move (.tuple #[.slice A10 n11 c12, .slice A14 n15 c16, .slice A19 n20 c21]) rfl) ?_
    refine L_pu (P_ext [.slice A10 n11 c12, .slice A14 n15 c16, .slice A19 n20 c21] 0 (.slice A10 n11 c12) rfl rfl) ?_
    refine L_pu (P_ext [.slice A10 n11 c12, .slice A14 n15 c16, .slice A19 n20 c21] 1 (.slice A14 n15 c16) rfl rfl) ?_
    refine L_pu (P_ext [.slice A10 n11 c12, .slice A14 n15 c16, .slice A19 n20 c21] 2 (.slice A19 n20 c21) rfl rfl) ?_
    refine L_pu (P_assign (.slice A10 n11 c12) rfl) ?_
    refine L_pu (P_assign (.slice A14 n15 c16) rfl) ?_
    refine L_pu (P_assign (.slice A19 n20 c21) rfl) ?_
    refine L_nil ?_
    refine W_seq ?_
    refine W_reg ?_
    refine L_pu (P_move (.slice A10 n11 c12) rfl) ?_
    refine L_pu (P_move (.slice A14 n15 c16) rfl) ?_
    refine L_pu (P_move (.slice A19 n20 c21) rfl) ?_
    have h29 := Ow.gv (L := [blk (.slice A14 n15 c16)]) (O := O) h17 hc26 (i := 0) rfl
    have hc30 := hc26.drop 0 rfl
    have h32 := (h13.st (.dr _ (L := [blk (.slice A14 n15 c16)]) (O := O) (j := 0) rfl))
    have h33 := (h22.st (.dr _ (L := [blk (.slice A14 n15 c16)]) (O := O) (j := 0) rfl))
    refine L_call go36 [.slice A10 n11 c12, .slice A14 n15 c16, .slice A19 n20 c21] rfl ((impl_SeqMerge.calls w8 hc30.ok r A10 n11 c12 h32 r2 A14 n15 c16 h29 r3 A19 n20 c21 h33 _ H).mono ?_)
    rintro _ w34 ⟨r4, r5, A36, n37, c38, rfl, H, g35, hk42, hk43, h39⟩
    have hk45 := Ok.unl (L := [blk (.slice A14 n15 c16)]) (L' := []) (O := O) hc26 g35 hk42 hk43
    have h46 := Ow.unl (L := [blk (.slice A14 n15 c16)]) (L' := []) (O := O) (fun _ _ _ _ _ _ h => h) (.cons _ (.slnil)) h39
    have hc44 := hc26.owns g35 hk45 hk43
    refine L_pu (P_move (.tuple #[.slice A36 n37 c38, vb r5]) rfl) ?_
    refine L_pu (P_ext [.slice A36 n37 c38, vb r5] 0 (.slice A36 n37 c38) rfl rfl) ?_
    refine L_pu (P_ext [.slice A36 n37 c38, vb r5] 1 (vb r5) rfl rfl) ?_
    refine L_pu (P_assign (.slice A36 n37 c38) rfl) ?_
    refine L_pu (P_assign (vb r5) rfl) ?_
    refine L_nil ?_
    refine W_seq ?_
    refine W_reg ?_
    refine L_pu (P_move (.slice A10 n11 c12) rfl) ?_
    refine L_pu (P_move (.slice A14 n15 c16) rfl) ?_
    refine L_pu (P_move (.slice A19 n20 c21) rfl) ?_
    have h47 := (h17.sos g35 hk43)
    have h48 := Ow.gv (L := [blk (.slice A36 n37 c38), blk (.slice A14 n15 c16)]) (O := O) h47 hc44 (i := 1) rfl
    have hc49 := hc44.drop 1 rfl
    have h51 := ((h13.st (.owns _ g35 hk43)).st (.dr _ (L := [blk (.slice A36 n37 c38), blk (.slice A14 n15 c16)]) (O := O) (j := 1) rfl))
    have h52 := ((h22.st (.owns _ g35 hk43)).st (.dr _ (L := [blk (.slice A36 n37 c38), blk (.slice A14 n15 c16)]) (O := O) (j := 1) rfl))
    refine L_call go35 [.slice A10 n11 c12, .slice A14 n15 c16, .slice A19 n20 c21] rfl ((spec_SeqMerge.calls w34 hc49.ok r A10 n11 c12 h51 r2 A14 n15 c16 h48 r3 A19 n20 c21 h52 _ H).mono ?_)
    rintro _ w53 ⟨r6, r7, A55, n56, c57, rfl, H, g54, hk61, hk62, h58⟩
    have hk64 := Ok.unl (L := [blk (.slice A36 n37 c38), blk (.slice A14 n15 c16)]) (L' := [blk (.slice A36 n37 c38)]) (O := O) hc44 g54 hk61 hk62
    have h65 := Ow.unl (L := [blk (.slice A36 n37 c38), blk (.slice A14 n15 c16)]) (L' := [blk (.slice A36 n37 c38)]) (O := O) (fun _ _ _ _ _ _ h => h) (.cons_cons _ (.cons _ (.slnil))) h58
    have hc63 := hc44.owns g54 hk64 hk62
    refine L_pu (P_move (.tuple #[.slice A55 n56 c57, vb r7]) rfl) ?_
    refine L_pu (P_ext [.slice A55 n56 c57, vb r7] 0 (.slice A55 n56 c57) rfl rfl) ?_
    refine L_pu (P_ext [.slice A55 n56 c57, vb r7] 1 (vb r7) rfl rfl) ?_
    refine L_pu (P_assign (.slice A55 n56 c57) rfl) ?_
    refine L_pu (P_assign (vb r7) rfl) ?_
    refine L_nil ?_
    refine W_seq ?_
    refine W_seq ?_
    refine W_reg ?_
    refine L_pu (P_move (vb r5) rfl) ?_
    refine L_pu (P_move (vb r7) rfl) ?_
    refine L_pu (P_bcmp Try.underlying4 r5 r7 (r5 != r7) rfl rfl rfl) ?_
    refine L_pu (P_move (vb (r5 != r7)) rfl) ?_
    rcases bool_or (r5 != r7) with hq66 | hq66
    · have H := ite_t H hq66
      refine L_pass (dj := 39) rfl rfl (.inl (by exact congrArg Value.bool hq66)) ?_
      refine L_pass (dj := 39) rfl rfl (.inl (by exact congrArg Value.bool hq66)) ?_
      refine L_pu (P_pick true (vb true) (by exact congrArg Value.bool hq66) rfl) ?_
      refine L_nil ?_
      refine W_ct (b := true) rfl rfl ?_
      refine W_seq ?_
      refine W_reg ?_
      refine L_pu (P_move (vb r5) rfl) ?_
      refine L_pu (P_move (vb r7) rfl) ?_
      refine L_pu (P_bcmp Try.underlying4 r5 r7 (r5 == r7) rfl rfl rfl) ?_
      refine L_pu (P_assign (vb (r5 == r7)) rfl) ?_
      refine L_nil ?_
      refine W_ret ?_
      have hc67 := hc63.drop 0 rfl
      have hc68 := hc67.drop 0 rfl
      have hc69 := hc68.drop 0 rfl
      exact ⟨[vb (r5 == r7)], ⟨_, rfl, rfl⟩, r5 == r7, rfl, H, hc69.gr⟩
    · have H := ite_f H hq66
      refine L_run (dj := 39) rfl rfl (by exact congrArg Value.bool hq66) ?_
      refine L_pu (P_move (vb r5) rfl) ?_
      refine L_run (dj := 39) rfl rfl (by exact congrArg Value.bool hq66) ?_
      refine L_pu (P_not r5 rfl) ?_
      refine L_pu (P_pick false (vb (!r5)) (by exact congrArg Value.bool hq66) rfl) ?_
      refine L_nil ?_
      refine W_cond (!r5) rfl (fun hq70 => ?_) (fun hq70 => ?_)
      · have H := ite_t H hq70
        refine W_seq ?_
        refine W_reg ?_
        refine L_pu (P_move (vb r5) rfl) ?_
        refine L_pu (P_move (vb r7) rfl) ?_
        refine L_pu (P_bcmp Try.underlying4 r5 r7 (r5 == r7) rfl rfl rfl) ?_
        refine L_pu (P_assign (vb (r5 == r7)) rfl) ?_
        refine L_nil ?_
        refine W_ret ?_
        have hc71 := hc63.drop 0 rfl
        have hc72 := hc71.drop 0 rfl
        have hc73 := hc72.drop 0 rfl
        exact ⟨[vb (r5 == r7)], ⟨_, rfl, rfl⟩, r5 == r7, rfl, H, hc73.gr⟩
      · have H := ite_f H hq70
        refine W_skip ?_
        refine W_seq ?_
        refine W_seq ?_
        refine W_reg ?_
        refine L_pu (P_assign (vi 0) rfl) ?_
        refine L_nil ?_
        refine W_block ?_
        have hc74 := hc63.drop 0 rfl
        obtain ⟨I105, mu106, hI107, H⟩ := H
        have h109 := (((h13.st (.owns _ g35 hk43)).st (.owns _ g54 hk62)).st (.dr _ (L := [blk (.slice A55 n56 c57), blk (.slice A36 n37 c38), blk (.slice A14 n15 c16)]) (O := O) (j := 0) rfl))
        have h110 := (((h22.st (.owns _ g35 hk43)).st (.owns _ g54 hk62)).st (.dr _ (L := [blk (.slice A55 n56 c57), blk (.slice A36 n37 c38), blk (.slice A14 n15 c16)]) (O := O) (j := 0) rfl))
        have h111 := (Ow.sd (L := [blk (.slice A55 n56 c57), blk (.slice A36 n37 c38), blk (.slice A14 n15 c16)]) (O := O) ((h17.sos g35 hk43).sos g54 hk62) (i := 2) rfl (j := 0) rfl (by decide))
        have h112 := (Ow.sd (L := [blk (.slice A55 n56 c57), blk (.slice A36 n37 c38), blk (.slice A14 n15 c16)]) (O := O) (h46.sos g54 hk62) (i := 1) rfl (j := 0) rfl (by decide))
        refine W_loop (α := Int) (fun (s : Int) t w95 => match s with | i2 => I105 i2 ∧ Has t [(3, .slice A10 n11 c12), (4, .slice A14 n15 c16), (5, .slice A19 n20 c21), (6, .slice A36 n37 c38), (10, vi i2)] ∧ Ct none w0 w95 [blk (.slice A36 n37 c38), blk (.slice A14 n15 c16)] O ∧ Sl kPt w95 (Fr ([blk (.slice A36 n37 c38), blk (.slice A14 n15 c16)] ++ O)) (.slice A10 n11 c12) r ∧ Sl kPt w95 (Fr ([blk (.slice A36 n37 c38), blk (.slice A14 n15 c16)] ++ O)) (.slice A19 n20 c21) r3 ∧ Ow kPt 41 w95 ([blk (.slice A36 n37 c38), blk (.slice A14 n15 c16)] ++ O) (.slice A14 n15 c16) r2 ∧ Ow kPt 41 w95 ([blk (.slice A36 n37 c38), blk (.slice A14 n15 c16)] ++ O) (.slice A36 n37 c38) r4) (fun (s : Int) => match s with | i2 => mu106 i2) 0 ⟨hI107, ⟨rfl, rfl, rfl, rfl, rfl, trivial⟩, hc74, h109, h110, h111, h112⟩ ?_
        rintro i2 _ w95 ⟨hI107, hh113, hc100, h101, h102, h103, h104⟩
        obtain ⟨u114, rfl⟩ := Has.ins hh113
        have H := H i2 hI107
        refine W_seq ?_
        refine W_seq ?_
        refine W_reg ?_
        refine L_pu (P_move (vi i2) rfl) ?_
        refine L_pu (P_move (.slice A36 n37 c38) rfl) ?_
        have hl115 := h104.le
        refine L_pu (P_len Try.underlying33 A36 n37 c38 h104.len rfl) ?_
        refine L_pu (P_cmp i2 (r4.length : Int) (decide (i2 < (r4.length : Int))) rfl rfl rfl) ?_
        refine L_nil ?_
        refine W_cond (decide (i2 < (r4.length : Int))) rfl (fun hq116 => ?_) (fun hq116 => ?_)
        · have H := ite_t H hq116
          refine W_skip ?_
          refine W_seq ?_
          refine W_block ?_
          refine W_seq ?_
          refine W_reg ?_
          refine L_pu (P_move (.slice A14 n15 c16) rfl) ?_
          refine L_pu (P_move (.slice A36 n37 c38) rfl) ?_
          refine L_pu (P_move (vi i2) rfl) ?_
          obtain ⟨hb117, H⟩ := H
          obtain ⟨ad118, cs119, hA120, hR121, hcl122⟩ := h104.get default (by decide) i2 hb117
          obtain rfl := kPt.op hR121
          refine L_pu (P_ia Try.underlying33 se33 A36 ad118 n37 c38 h104.len i2 rfl hA120 rfl hb117) ?_
          refine L_pu (P_lda ag41 sz41 cL (ad118.add (i2.toNat * 2)) [vi ((nth r4 i2).X), vi ((nth r4 i2).Y)] rfl rfl hcl122) ?_
          have h124 := Ow.gv (L := [blk (.slice A36 n37 c38), blk (.slice A14 n15 c16)]) (O := O) h103 hc100 (i := 1) rfl
          have hc125 := hc100.drop 1 rfl
          refine L_call go39 [.slice A14 n15 c16, .agg #[vi ((nth r4 i2).X), vi ((nth r4 i2).Y)]] rfl ((laws_wsHas.calls w95 hc125.ok r2 A14 n15 c16 h124 (nth r4 i2) _ H).mono ?_)
          rintro _ w127 ⟨r8, rfl, H, g128⟩
          have hc132 := hc100.k0 g128
          refine L_pu (P_not r8 rfl) ?_
          refine L_pu (P_move (vb (!r8)) rfl) ?_
          rcases bool_or (!r8) with hq133 | hq133
          · have H := ite_t H hq133
            refine L_run (dj := 59) rfl rfl (by exact congrArg Value.bool hq133) ?_
            refine L_pu (P_move (.slice A19 n20 c21) rfl) ?_
            refine L_run (dj := 59) rfl rfl (by exact congrArg Value.bool hq133) ?_
            refine L_pu (P_move (.slice A36 n37 c38) rfl) ?_
            refine L_run (dj := 59) rfl rfl (by exact congrArg Value.bool hq133) ?_
            refine L_pu (P_move (vi i2) rfl) ?_
            refine L_run (dj := 59) rfl rfl (by exact congrArg Value.bool hq133) ?_
            obtain ⟨hb134, H⟩ := H
            have h141 := (h104.sn g128)
            obtain ⟨ad135, cs136, hA137, hR138, hcl139⟩ := h141.get default (by decide) i2 hb134
            obtain rfl := kPt.op hR138
            refine L_pu (P_ia Try.underlying33 se33 A36 ad135 n37 c38 h141.len i2 rfl hA137 rfl hb134) ?_
            refine L_run (dj := 59) rfl rfl (by exact congrArg Value.bool hq133) ?_
            refine L_pu (P_lda ag41 sz41 cL (ad135.add (i2.toNat * 2)) [vi ((nth r4 i2).X), vi ((nth r4 i2).Y)] rfl rfl hcl139) ?_
            refine L_run (dj := 59) rfl rfl (by exact congrArg Value.bool hq133) ?_
            refine L_call go39 [.slice A19 n20 c21, .agg #[vi ((nth r4 i2).X), vi ((nth r4 i2).Y)]] rfl ((laws_wsHas.calls w127 hc132.ok r3 A19 n20 c21 (h102.st (.new _ g128)) (nth r4 i2) _ H).mono ?_)
            rintro _ w142 ⟨r9, rfl, H, g143⟩
            have hc147 := hc132.k0 g143
            refine L_run (dj := 59) rfl rfl (by exact congrArg Value.bool hq133) ?_
            refine L_pu (P_not r9 rfl) ?_
            refine L_pu (P_pick true (vb (!r9)) (by exact congrArg Value.bool hq133) rfl) ?_
            refine L_nil ?_
            refine W_cond (!r9) rfl (fun hq148 => ?_) (fun hq148 => ?_)
            · have H := ite_t H hq148
              refine W_seq ?_
              refine W_reg ?_
              refine L_pu (P_assign (vb false) rfl) ?_
              refine L_nil ?_
              refine W_ret ?_
              have hc149 := hc147.drop 0 rfl
              have hc150 := hc149.drop 0 rfl
              exact ⟨[vb false], ⟨_, rfl, rfl⟩, false, rfl, H, hc150.gr⟩
            · have H := ite_f H hq148
              refine W_skip ?_
              refine W_reg ?_
              refine L_pu (P_move (vi i2) rfl) ?_
              obtain ⟨hb152, H⟩ := H
              have hi151 : I64 (i2 + 1) := i64_succ (of_decide_eq_true hq116) hl115 hb152
              refine L_pu (P_add i2 1 rfl rfl hi151) ?_
              refine L_pu (P_assign (vi (i2 + 1)) rfl) ?_
              refine L_nil ?_
              obtain ⟨hI153, hm154⟩ := H
              have h155 := ((h101.st (.new _ g128)).st (.new _ g143))
              have h156 := ((h102.st (.new _ g128)).st (.new _ g143))
              have h157 := ((h103.sn g128).sn g143)
              have h158 := (h141.sn g143)
              exact ⟨i2 + 1, hm154, hI153, ⟨rfl, rfl, rfl, rfl, rfl, trivial⟩, hc147, h155, h156, h157, h158⟩
          · have H := ite_f H hq133
            refine L_pass (dj := 59) rfl rfl (.inl (by exact congrArg Value.bool hq133)) ?_
            refine L_pass (dj := 59) rfl rfl (.inl (by exact congrArg Value.bool hq133)) ?_
            refine L_pass (dj := 59) rfl rfl (.inl (by exact congrArg Value.bool hq133)) ?_
            refine L_pass (dj := 59) rfl rfl (.inl (by exact congrArg Value.bool hq133)) ?_
            refine L_pass (dj := 59) rfl rfl (.inl (by exact congrArg Value.bool hq133)) ?_
            refine L_pass (dj := 59) rfl rfl (.inl (by exact congrArg Value.bool hq133)) ?_
            refine L_pass (dj := 59) rfl rfl (.inl (by exact congrArg Value.bool hq133)) ?_
            refine L_pu (P_pick false (vb false) (by exact congrArg Value.bool hq133) rfl) ?_
            refine L_nil ?_
            refine W_cf (b := false) rfl rfl ?_
            refine W_skip ?_
            refine W_reg ?_
            refine L_pu (P_move (vi i2) rfl) ?_
            obtain ⟨hb160, H⟩ := H
            have hi159 : I64 (i2 + 1) := i64_succ (of_decide_eq_true hq116) hl115 hb160
            refine L_pu (P_add i2 1 rfl rfl hi159) ?_
            refine L_pu (P_assign (vi (i2 + 1)) rfl) ?_
            refine L_nil ?_
            obtain ⟨hI161, hm162⟩ := H
            have h163 := (h103.sn g128)
            have h164 := (h104.sn g128)
            exact ⟨i2 + 1, hm162, hI161, ⟨rfl, rfl, rfl, rfl, rfl, trivial⟩, hc132, (h101.st (.new _ g128)), (h102.st (.new _ g128)), h163, h164⟩
        · have H := ite_f H hq116
          refine W_exit (xin_hit ?_)
          refine W_seq ?_
          refine W_seq ?_
          refine W_reg ?_
          refine L_pu (P_assign (vi 0) rfl) ?_
          refine L_nil ?_
          refine W_block ?_
          obtain ⟨I195, mu196, hI197, H⟩ := H
          refine W_loop (α := Int) (fun (s : Int) t w185 => match s with | i4 => I195 i4 ∧ Has t [(3, .slice A10 n11 c12), (4, .slice A14 n15 c16), (5, .slice A19 n20 c21), (6, .slice A36 n37 c38), (11, vi i4)] ∧ Ct none w0 w185 [blk (.slice A36 n37 c38), blk (.slice A14 n15 c16)] O ∧ Sl kPt w185 (Fr ([blk (.slice A36 n37 c38), blk (.slice A14 n15 c16)] ++ O)) (.slice A10 n11 c12) r ∧ Sl kPt w185 (Fr ([blk (.slice A36 n37 c38), blk (.slice A14 n15 c16)] ++ O)) (.slice A19 n20 c21) r3 ∧ Ow kPt 41 w185 ([blk (.slice A36 n37 c38), blk (.slice A14 n15 c16)] ++ O) (.slice A14 n15 c16) r2 ∧ Ow kPt 41 w185 ([blk (.slice A36 n37 c38), blk (.slice A14 n15 c16)] ++ O) (.slice A36 n37 c38) r4) (fun (s : Int) => match s with | i4 => mu196 i4) 0 ⟨hI197, ⟨rfl, rfl, rfl, rfl, rfl, trivial⟩, hc100, h101, h102, h103, h104⟩ ?_
          rintro i4 _ w185 ⟨hI197, hh199, hc190, h191, h192, h193, h194⟩
          obtain ⟨u200, rfl⟩ := Has.ins hh199
          have H := H i4 hI197
          refine W_seq ?_
          refine W_seq ?_
          refine W_reg ?_
          refine L_pu (P_move (vi i4) rfl) ?_
          refine L_pu (P_move (.slice A14 n15 c16) rfl) ?_
          have hl201 := h193.le
          refine L_pu (P_len Try.underlying33 A14 n15 c16 h193.len rfl) ?_
          refine L_pu (P_cmp i4 (r2.length : Int) (decide (i4 < (r2.length : Int))) rfl rfl rfl) ?_
          refine L_nil ?_
          refine W_cond (decide (i4 < (r2.length : Int))) rfl (fun hq202 => ?_) (fun hq202 => ?_)
          · have H := ite_t H hq202
            refine W_skip ?_
            refine W_seq ?_
            refine W_block ?_
            refine W_seq ?_
            refine W_reg ?_
            refine L_pu (P_move (.slice A10 n11 c12) rfl) ?_
            refine L_pu (P_move (.slice A14 n15 c16) rfl) ?_
            refine L_pu (P_move (vi i4) rfl) ?_
            obtain ⟨hb203, H⟩ := H
            obtain ⟨ad204, cs205, hA206, hR207, hcl208⟩ := h193.get default (by decide) i4 hb203
            obtain rfl := kPt.op hR207
            refine L_pu (P_ia Try.underlying33 se33 A14 ad204 n15 c16 h193.len i4 rfl hA206 rfl hb203) ?_
            refine L_pu (P_lda ag41 sz41 cL (ad204.add (i4.toNat * 2)) [vi ((nth r2 i4).X), vi ((nth r2 i4).Y)] rfl rfl hcl208) ?_
            refine L_call go39 [.slice A10 n11 c12, .agg #[vi ((nth r2 i4).X), vi ((nth r2 i4).Y)]] rfl ((laws_wsHas.calls w185 hc190.ok r A10 n11 c12 h191 (nth r2 i4) _ H).mono ?_)
            rintro _ w210 ⟨r10, rfl, H, g211⟩
            have hc215 := hc190.k0 g211
            refine L_pu (P_not r10 rfl) ?_
            refine L_pu (P_move (vb (!r10)) rfl) ?_
            rcases bool_or (!r10) with hq216 | hq216
            · have H := ite_t H hq216
              refine L_run (dj := 81) rfl rfl (by exact congrArg Value.bool hq216) ?_
              refine L_pu (P_move (.slice A36 n37 c38) rfl) ?_
              refine L_run (dj := 81) rfl rfl (by exact congrArg Value.bool hq216) ?_
              refine L_pu (P_move (.slice A14 n15 c16) rfl) ?_
              refine L_run (dj := 81) rfl rfl (by exact congrArg Value.bool hq216) ?_
              refine L_pu (P_move (vi i4) rfl) ?_
              refine L_run (dj := 81) rfl rfl (by exact congrArg Value.bool hq216) ?_
              obtain ⟨hb217, H⟩ := H
              have h224 := (h193.sn g211)
              obtain ⟨ad218, cs219, hA220, hR221, hcl222⟩ := h224.get default (by decide) i4 hb217
              obtain rfl := kPt.op hR221
              refine L_pu (P_ia Try.underlying33 se33 A14 ad218 n15 c16 h224.len i4 rfl hA220 rfl hb217) ?_
              refine L_run (dj := 81) rfl rfl (by exact congrArg Value.bool hq216) ?_
              refine L_pu (P_lda ag41 sz41 cL (ad218.add (i4.toNat * 2)) [vi ((nth r2 i4).X), vi ((nth r2 i4).Y)] rfl rfl hcl222) ?_
              refine L_run (dj := 81) rfl rfl (by exact congrArg Value.bool hq216) ?_
              have h225 := (h194.sn g211)
              have h226 := Ow.gv (L := [blk (.slice A36 n37 c38), blk (.slice A14 n15 c16)]) (O := O) h225 hc215 (i := 0) rfl
              have hc227 := hc215.drop 0 rfl
              refine L_call go39 [.slice A36 n37 c38, .agg #[vi ((nth r2 i4).X), vi ((nth r2 i4).Y)]] rfl ((laws_wsHas.calls w210 hc227.ok r4 A36 n37 c38 h226 (nth r2 i4) _ H).mono ?_)
              rintro _ w229 ⟨r11, rfl, H, g230⟩
              have hc234 := hc215.k0 g230
              refine L_run (dj := 81) rfl rfl (by exact congrArg Value.bool hq216) ?_
              refine L_pu (P_not r11 rfl) ?_
              refine L_pu (P_pick true (vb (!r11)) (by exact congrArg Value.bool hq216) rfl) ?_
              refine L_nil ?_
              refine W_cond (!r11) rfl (fun hq235 => ?_) (fun hq235 => ?_)
              · have H := ite_t H hq235
                refine W_seq ?_
                refine W_reg ?_
                refine L_pu (P_assign (vb false) rfl) ?_
                refine L_nil ?_
                refine W_ret ?_
                have hc236 := hc234.drop 0 rfl
                have hc237 := hc236.drop 0 rfl
                exact ⟨[vb false], ⟨_, rfl, rfl⟩, false, rfl, H, hc237.gr⟩
              · have H := ite_f H hq235
                refine W_skip ?_
                refine W_reg ?_
                refine L_pu (P_move (vi i4) rfl) ?_
                obtain ⟨hb239, H⟩ := H
                have hi238 : I64 (i4 + 1) := i64_succ (of_decide_eq_true hq202) hl201 hb239
                refine L_pu (P_add i4 1 rfl rfl hi238) ?_
                refine L_pu (P_assign (vi (i4 + 1)) rfl) ?_
                refine L_nil ?_
                obtain ⟨hI240, hm241⟩ := H
                have h242 := ((h191.st (.new _ g211)).st (.new _ g230))
                have h243 := ((h192.st (.new _ g211)).st (.new _ g230))
                have h244 := (h224.sn g230)
                have h245 := ((h194.sn g211).sn g230)
                exact ⟨i4 + 1, hm241, hI240, ⟨rfl, rfl, rfl, rfl, rfl, trivial⟩, hc234, h242, h243, h244, h245⟩
            · have H := ite_f H hq216
              refine L_pass (dj := 81) rfl rfl (.inl (by exact congrArg Value.bool hq216)) ?_
              refine L_pass (dj := 81) rfl rfl (.inl (by exact congrArg Value.bool hq216)) ?_
              refine L_pass (dj := 81) rfl rfl (.inl (by exact congrArg Value.bool hq216)) ?_
              refine L_pass (dj := 81) rfl rfl (.inl (by exact congrArg Value.bool hq216)) ?_
              refine L_pass (dj := 81) rfl rfl (.inl (by exact congrArg Value.bool hq216)) ?_
              refine L_pass (dj := 81) rfl rfl (.inl (by exact congrArg Value.bool hq216)) ?_
              refine L_pass (dj := 81) rfl rfl (.inl (by exact congrArg Value.bool hq216)) ?_
              refine L_pu (P_pick false (vb false) (by exact congrArg Value.bool hq216) rfl) ?_
              refine L_nil ?_
              refine W_cf (b := false) rfl rfl ?_
              refine W_skip ?_
              refine W_reg ?_
              refine L_pu (P_move (vi i4) rfl) ?_
              obtain ⟨hb247, H⟩ := H
              have hi246 : I64 (i4 + 1) := i64_succ (of_decide_eq_true hq202) hl201 hb247
              refine L_pu (P_add i4 1 rfl rfl hi246) ?_
              refine L_pu (P_assign (vi (i4 + 1)) rfl) ?_
              refine L_nil ?_
              obtain ⟨hI248, hm249⟩ := H
              have h250 := (h193.sn g211)
              have h251 := (h194.sn g211)
              exact ⟨i4 + 1, hm249, hI248, ⟨rfl, rfl, rfl, rfl, rfl, trivial⟩, hc215, (h191.st (.new _ g211)), (h192.st (.new _ g211)), h250, h251⟩
          · have H := ite_f H hq202
            refine W_exit (xin_hit ?_)
            refine W_seq ?_
            refine W_seq ?_
            refine W_reg ?_
            refine L_pu (P_assign (vi 0) rfl) ?_
            refine L_nil ?_
            refine W_block ?_
            obtain ⟨I282, mu283, hI284, H⟩ := H
            refine W_loop (α := Int) (fun (s : Int) t w272 => match s with | i6 => I282 i6 ∧ Has t [(3, .slice A10 n11 c12), (4, .slice A14 n15 c16), (5, .slice A19 n20 c21), (6, .slice A36 n37 c38), (12, vi i6)] ∧ Ct none w0 w272 [blk (.slice A36 n37 c38), blk (.slice A14 n15 c16)] O ∧ Sl kPt w272 (Fr ([blk (.slice A36 n37 c38), blk (.slice A14 n15 c16)] ++ O)) (.slice A10 n11 c12) r ∧ Sl kPt w272 (Fr ([blk (.slice A36 n37 c38), blk (.slice A14 n15 c16)] ++ O)) (.slice A19 n20 c21) r3 ∧ Ow kPt 41 w272 ([blk (.slice A36 n37 c38), blk (.slice A14 n15 c16)] ++ O) (.slice A14 n15 c16) r2 ∧ Ow kPt 41 w272 ([blk (.slice A36 n37 c38), blk (.slice A14 n15 c16)] ++ O) (.slice A36 n37 c38) r4) (fun (s : Int) => match s with | i6 => mu283 i6) 0 ⟨hI284, ⟨rfl, rfl, rfl, rfl, rfl, trivial⟩, hc190, h191, h192, h193, h194⟩ ?_
            rintro i6 _ w272 ⟨hI284, hh286, hc277, h278, h279, h280, h281⟩
            obtain ⟨u287, rfl⟩ := Has.ins hh286
            have H := H i6 hI284
            refine W_seq ?_
            refine W_seq ?_
            refine W_reg ?_
            refine L_pu (P_move (vi i6) rfl) ?_
            refine L_pu (P_move (.slice A19 n20 c21) rfl) ?_
            have hl288 := h279.le
            refine L_pu (P_len Try.underlying33 A19 n20 c21 h279.len rfl) ?_
            refine L_pu (P_cmp i6 (r3.length : Int) (decide (i6 < (r3.length : Int))) rfl rfl rfl) ?_
            refine L_nil ?_
            refine W_cond (decide (i6 < (r3.length : Int))) rfl (fun hq289 => ?_) (fun hq289 => ?_)
            · have H := ite_t H hq289
              refine W_skip ?_
              refine W_seq ?_
              refine W_block ?_
              refine W_seq ?_
              refine W_reg ?_
              refine L_pu (P_move (.slice A10 n11 c12) rfl) ?_
              refine L_pu (P_move (.slice A19 n20 c21) rfl) ?_
              refine L_pu (P_move (vi i6) rfl) ?_
              obtain ⟨hb290, H⟩ := H
              obtain ⟨ad291, cs292, hA293, hS296, hR294, hcl295⟩ := h279.get default (by decide) i6 hb290
              obtain rfl := kPt.op hR294
              refine L_pu (P_ia Try.underlying33 se33 A19 ad291 n20 c21 h279.len i6 rfl hA293 rfl hb290) ?_
              refine L_pu (P_lda ag41 sz41 cL (ad291.add (i6.toNat * 2)) [vi ((nth r3 i6).X), vi ((nth r3 i6).Y)] rfl rfl hcl295) ?_
              refine L_call go39 [.slice A10 n11 c12, .agg #[vi ((nth r3 i6).X), vi ((nth r3 i6).Y)]] rfl ((laws_wsHas.calls w272 hc277.ok r A10 n11 c12 h278 (nth r3 i6) _ H).mono ?_)
              rintro _ w297 ⟨r12, rfl, H, g298⟩
              have hc302 := hc277.k0 g298
              refine L_pu (P_not r12 rfl) ?_
              refine L_pu (P_move (vb (!r12)) rfl) ?_
              rcases bool_or (!r12) with hq303 | hq303
              · have H := ite_t H hq303
                refine L_run (dj := 103) rfl rfl (by exact congrArg Value.bool hq303) ?_
                refine L_pu (P_move (.slice A36 n37 c38) rfl) ?_
                refine L_run (dj := 103) rfl rfl (by exact congrArg Value.bool hq303) ?_
                refine L_pu (P_move (.slice A19 n20 c21) rfl) ?_
                refine L_run (dj := 103) rfl rfl (by exact congrArg Value.bool hq303) ?_
                refine L_pu (P_move (vi i6) rfl) ?_
                refine L_run (dj := 103) rfl rfl (by exact congrArg Value.bool hq303) ?_
                obtain ⟨hb304, H⟩ := H
                obtain ⟨ad305, cs306, hA307, hS310, hR308, hcl309⟩ := (h279.st (.new _ g298)).get default (by decide) i6 hb304
                obtain rfl := kPt.op hR308
                refine L_pu (P_ia Try.underlying33 se33 A19 ad305 n20 c21 (h279.st (.new _ g298)).len i6 rfl hA307 rfl hb304) ?_
                refine L_run (dj := 103) rfl rfl (by exact congrArg Value.bool hq303) ?_
                refine L_pu (P_lda ag41 sz41 cL (ad305.add (i6.toNat * 2)) [vi ((nth r3 i6).X), vi ((nth r3 i6).Y)] rfl rfl hcl309) ?_
                refine L_run (dj := 103) rfl rfl (by exact congrArg Value.bool hq303) ?_
                have h311 := (h281.sn g298)
                have h312 := Ow.gv (L := [blk (.slice A36 n37 c38), blk (.slice A14 n15 c16)]) (O := O) h311 hc302 (i := 0) rfl
                have hc313 := hc302.drop 0 rfl
                refine L_call go39 [.slice A36 n37 c38, .agg #[vi ((nth r3 i6).X), vi ((nth r3 i6).Y)]] rfl ((laws_wsHas.calls w297 hc313.ok r4 A36 n37 c38 h312 (nth r3 i6) _ H).mono ?_)
                rintro _ w315 ⟨r13, rfl, H, g316⟩
                have hc320 := hc302.k0 g316
                refine L_run (dj := 103) rfl rfl (by exact congrArg Value.bool hq303) ?_
                refine L_pu (P_not r13 rfl) ?_
                refine L_pu (P_pick true (vb (!r13)) (by exact congrArg Value.bool hq303) rfl) ?_
                refine L_nil ?_
                refine W_cond (!r13) rfl (fun hq321 => ?_) (fun hq321 => ?_)
                · have H := ite_t H hq321
                  refine W_seq ?_
                  refine W_reg ?_
                  refine L_pu (P_assign (vb false) rfl) ?_
                  refine L_nil ?_
                  refine W_ret ?_
                  have hc322 := hc320.drop 0 rfl
                  have hc323 := hc322.drop 0 rfl
                  exact ⟨[vb false], ⟨_, rfl, rfl⟩, false, rfl, H, hc323.gr⟩
                · have H := ite_f H hq321
                  refine W_skip ?_
                  refine W_reg ?_
                  refine L_pu (P_move (vi i6) rfl) ?_
                  obtain ⟨hb325, H⟩ := H
                  have hi324 : I64 (i6 + 1) := i64_succ (of_decide_eq_true hq289) hl288 hb325
                  refine L_pu (P_add i6 1 rfl rfl hi324) ?_
                  refine L_pu (P_assign (vi (i6 + 1)) rfl) ?_
                  refine L_nil ?_
                  obtain ⟨hI326, hm327⟩ := H
                  have h328 := ((h278.st (.new _ g298)).st (.new _ g316))
                  have h329 := ((h279.st (.new _ g298)).st (.new _ g316))
                  have h330 := ((h280.sn g298).sn g316)
                  have h331 := ((h281.sn g298).sn g316)
                  exact ⟨i6 + 1, hm327, hI326, ⟨rfl, rfl, rfl, rfl, rfl, trivial⟩, hc320, h328, h329, h330, h331⟩
              · have H := ite_f H hq303
                refine L_pass (dj := 103) rfl rfl (.inl (by exact congrArg Value.bool hq303)) ?_
                refine L_pass (dj := 103) rfl rfl (.inl (by exact congrArg Value.bool hq303)) ?_
                refine L_pass (dj := 103) rfl rfl (.inl (by exact congrArg Value.bool hq303)) ?_
                refine L_pass (dj := 103) rfl rfl (.inl (by exact congrArg Value.bool hq303)) ?_
                refine L_pass (dj := 103) rfl rfl (.inl (by exact congrArg Value.bool hq303)) ?_
                refine L_pass (dj := 103) rfl rfl (.inl (by exact congrArg Value.bool hq303)) ?_
                refine L_pass (dj := 103) rfl rfl (.inl (by exact congrArg Value.bool hq303)) ?_
                refine L_pu (P_pick false (vb false) (by exact congrArg Value.bool hq303) rfl) ?_
                refine L_nil ?_
                refine W_cf (b := false) rfl rfl ?_
                refine W_skip ?_
                refine W_reg ?_
                refine L_pu (P_move (vi i6) rfl) ?_
                obtain ⟨hb333, H⟩ := H
                have hi332 : I64 (i6 + 1) := i64_succ (of_decide_eq_true hq289) hl288 hb333
                refine L_pu (P_add i6 1 rfl rfl hi332) ?_
                refine L_pu (P_assign (vi (i6 + 1)) rfl) ?_
                refine L_nil ?_
                obtain ⟨hI334, hm335⟩ := H
                have h336 := (h280.sn g298)
                have h337 := (h281.sn g298)
                exact ⟨i6 + 1, hm335, hI334, ⟨rfl, rfl, rfl, rfl, rfl, trivial⟩, hc302, (h278.st (.new _ g298)), (h279.st (.new _ g298)), h336, h337⟩
            · have H := ite_f H hq289
              refine W_exit (xin_hit ?_)
              refine W_seq ?_
              refine W_reg ?_
              refine L_pu (P_move (.slice A36 n37 c38) rfl) ?_
              have hl338 := h281.le
              refine L_pu (P_len Try.underlying33 A36 n37 c38 h281.len rfl) ?_
              refine L_pu (P_move (.slice A14 n15 c16) rfl) ?_
              have hl339 := h280.le
              refine L_pu (P_len Try.underlying33 A14 n15 c16 h280.len rfl) ?_
              refine L_pu (P_move (.slice A19 n20 c21) rfl) ?_
              refine L_pu (P_len Try.underlying33 A19 n20 c21 h279.len rfl) ?_
              obtain ⟨hb340, H⟩ := H
              have hi341 := hb340 (len_le hl288) (len_le hl338) (len_le hl339)
              refine L_pu (P_add (r2.length : Int) (r3.length : Int) rfl rfl hi341) ?_
              refine L_pu (P_cmp (r4.length : Int) ((r2.length : Int) + (r3.length : Int)) (decide ((r4.length : Int) ≤ (r2.length : Int) + (r3.length : Int))) rfl rfl rfl) ?_
              refine L_pu (P_assign (vb (decide ((r4.length : Int) ≤ (r2.length : Int) + (r3.length : Int)))) rfl) ?_
              refine L_nil ?_
              refine W_ret ?_
              have hc342 := hc277.drop 0 rfl
              have hc343 := hc342.drop 0 rfl
              exact ⟨[vb (decide ((r4.length : Int) ≤ (r2.length : Int) + (r3.length : Int)))], ⟨_, rfl, rfl⟩, decide ((r4.length : Int) ≤ (r2.length : Int) + (r3.length : Int)), rfl, H, hc343.gr⟩
end Go.Proofs.Ytnliofcjplnboaa

namespace Go.Proofs.Ytnliofcjplnboaa
set_option linter.unusedVariables false
set_option linter.unusedSimpArgs false
/-- a merge hands back the row, or nothing -/
def mrow (o a b : List Pt) : List Pt := (smerge o a b).getD []
def mok (o a b : List Pt) : Bool := (smerge o a b).isSome
theorem impl_SeqMerge.is (o a b : List Pt) (Q : List Pt → Bool → Prop) (hq : Q (mrow o a b) (mok o a b)) : impl_SeqMerge.E o a b Q :=
  impl_SeqMerge.law o a b Q (fun r h => by unfold mrow mok at hq; rw [h] at hq; exact hq) (fun h => by unfold mrow mok at hq; rw [h] at hq; exact hq)
theorem spec_SeqMerge.is (o a b : List Pt) (Q : List Pt → Bool → Prop) (hq : Q (mrow o a b) (mok o a b)) : spec_SeqMerge.E o a b Q :=
  spec_SeqMerge.law o a b Q (fun r h => by unfold mrow mok at hq; rw [h] at hq; exact hq) (fun h => by unfold mrow mok at hq; rw [h] at hq; exact hq)
theorem m_of {o a b r : List Pt} (h : smerge o a b = some r) : mrow o a b = r ∧ mok o a b = true := by unfold mrow mok; rw [h]; exact ⟨rfl, rfl⟩
theorem m_not {o a b : List Pt} (h : smerge o a b = none) : mrow o a b = [] ∧ mok o a b = false := by unfold mrow mok; rw [h]; exact ⟨rfl, rfl⟩
end Go.Proofs.Ytnliofcjplnboaa

namespace Go.Proofs.Ytnliofcjplnboaa
set_option linter.unusedVariables false
set_option linter.unusedSimpArgs false
theorem laws_FnSeqKeep.gen (code : List UInt8) (Q : Bool → Prop) (hq : Q true) : laws_FnSeqKeep.E code Q := by
  unfold laws_FnSeqKeep.E
  by_cases c1 : (code.length : Int) > 1048576
  · rw [if_pos (by simpa using c1)]; exact hq
  rw [if_neg (by simpa using c1)]
  refine spec_DrawSeqMerge.law _ _ fun o a b ho ha hb _ _ _ => impl_SeqMerge.is _ _ _ _ (spec_SeqMerge.is _ _ _ _ ?_)
  have tt : (mok o a b == mok o a b) = true := by simp
  rw [if_neg (by simp)]
  cases hm : smerge o a b with
  | none => rw [if_pos (by rw [(m_not hm).2]; rfl), tt]; exact hq
  | some r =>
    obtain ⟨e1, e2⟩ := m_of hm
    rw [if_neg (by rw [e2]; decide), e1]
    obtain ⟨k1, k2, k3, k4⟩ := smerge_keep hm
    have lr := smerge_len hm
    refine ⟨fun i => 0 ≤ i ∧ i ≤ r.length, fun i => (r.length - i).toNat, ⟨by omega, by omega⟩, ?_⟩
    rintro i ⟨hi0, hi1⟩
    by_cases h : i < (r.length : Int)
    · rw [if_pos (by simpa using h)]
      have hz := k1 _ (nth_memi r hi0 h)
      generalize nth r i = z at *
      refine ⟨by omega, laws_wsHas.law _ _ _ ?_⟩
      by_cases hza : z ∈ a
      · rw [if_neg (by simpa using hza)]
        exact ⟨by omega, ⟨by omega, by omega⟩, by dsimp only; omega⟩
      · rw [if_pos (by simpa using hza)]
        refine ⟨by omega, laws_wsHas.law _ _ _ ?_⟩
        rw [if_neg (by simpa using hz.resolve_left hza)]
        exact ⟨by omega, ⟨by omega, by omega⟩, by dsimp only; omega⟩
    rw [if_neg (by simpa using h)]
    clear h hi0 hi1 i
    refine ⟨fun i => 0 ≤ i ∧ i ≤ a.length, fun i => (a.length - i).toNat, ⟨by omega, by omega⟩, ?_⟩
    rintro i ⟨hi0, hi1⟩
    by_cases h : i < (a.length : Int)
    · rw [if_pos (by simpa using h)]
      have hz := k2 _ (nth_memi a hi0 h)
      generalize nth a i = z at *
      refine ⟨by omega, laws_wsHas.law _ _ _ ?_⟩
      by_cases hza : z ∈ o
      · rw [if_neg (by simpa using hza)]
        exact ⟨by omega, ⟨by omega, by omega⟩, by dsimp only; omega⟩
      · rw [if_pos (by simpa using hza)]
        refine ⟨by omega, laws_wsHas.law _ _ _ ?_⟩
        rw [if_neg (by simpa using hz.resolve_left hza)]
        exact ⟨by omega, ⟨by omega, by omega⟩, by dsimp only; omega⟩
    rw [if_neg (by simpa using h)]
    clear h hi0 hi1 i
    refine ⟨fun i => 0 ≤ i ∧ i ≤ b.length, fun i => (b.length - i).toNat, ⟨by omega, by omega⟩, ?_⟩
    rintro i ⟨hi0, hi1⟩
    by_cases h : i < (b.length : Int)
    · rw [if_pos (by simpa using h)]
      have hz := k3 _ (nth_memi b hi0 h)
      generalize nth b i = z at *
      refine ⟨by omega, laws_wsHas.law _ _ _ ?_⟩
      by_cases hza : z ∈ o
      · rw [if_neg (by simpa using hza)]
        exact ⟨by omega, ⟨by omega, by omega⟩, by dsimp only; omega⟩
      · rw [if_pos (by simpa using hza)]
        refine ⟨by omega, laws_wsHas.law _ _ _ ?_⟩
        rw [if_neg (by simpa using hz.resolve_left hza)]
        exact ⟨by omega, ⟨by omega, by omega⟩, by dsimp only; omega⟩
    rw [if_neg (by simpa using h)]
    refine ⟨fun _ _ _ => by unfold I64; omega, ?_⟩
    rw [decide_eq_true (by omega)]; exact hq
theorem laws_FnSeqKeep.law (code : List UInt8) (_ : ∀ x ∈ code, True) : laws_FnSeqKeep.E code (fun r => r = true) := laws_FnSeqKeep.gen code _ rfl
end Go.Proofs.Ytnliofcjplnboaa

namespace Go.Proofs.Ytnliofcjplnboaa.rFnSeqKeep
open Go.ChangeShapes Go.WideShapes Go.ChangeAt Go.RowKit
open Go.ChangeMaps (open_string shut_string)
set_option linter.unusedVariables false
theorem own : ownKnob Try.prog.godebug = none := by kernel_rfl
theorem laidOut : laidOutB Try.prog = true := by kernel_rfl
set_option maxRecDepth 100000 in
theorem lifted (os : Os) (started : os.Started) (H : Type) (enc : TypeId × Value → H) :
    ReturnsInHanded {} Try.checked os 11 .any (Rows.fnSeqKeepSpec.pre6 enc Try.prog Try.f11 Rows.fnSeqKeepRow.domain false) (Rows.fnSeqKeepSpec.post enc Try.prog Try.f11 false true false false) := by
  refine returnsInHanded_of_change_sized (C := Try.checked) own started (by kernel_rfl) Try.func11
    (ChangeSpec.witness6 (enc := enc) (C := Try.checked) false ⟨#[], #[.slice none 0 0], []⟩ 8 (by kernel_rfl) (by kernel_rfl) (by kernel_rfl) (by kernel_rfl)) ?_
  intro W base args ds gs before hval0 hW hcnd hsz0 _
  have hval : ∀ (j : Nat) t v, Try.f11.params[j]? = some t → args[j]? = some v → Value.okWide Try.prog W .any base t v := hval0
  have hW' := hW
  obtain ⟨p, q, hA0, hV, rfl, hfz, hnd⟩ := hW
  have hA : DataW.TrodAll enc Try.prog W 0 (fun _ => true) true Try.f11.params.toList args.toList ds p := hA0
  rw [Try.params11] at hA hval
  obtain ⟨v0, vs0, d0, ds0, p0, q0, hargs, rfl, rfl, h0, r0⟩ := trodAll_cons hA
  obtain ⟨rfl, rfl, rfl⟩ := trodAll_nil r0
  obtain rfl : args = #[v0] := by cases args; simp_all
  obtain ⟨rfl, rfl⟩ := trodVars_none hV
  have k0 := h0
  have lt0 : ∀ x ∈ p0, x.block < W.heap.size := by obtain ⟨m, hm⟩ := k0; exact DataW.trod_lt m _ _ _ hm
  obtain ⟨x0, hv0, hx0⟩ : ∃ a : List UInt8, (∀ y0 ∈ a, True) ∧ (Kd.sl Kd.byte).R W (Fr []) a v0.cells.toList := by obtain ⟨fuel, hf⟩ := h0; exact (Tr.sl Try.underlying37 (by kernel_rfl) (Tr.byte Try.underlying5)) H enc W fuel _ _ hf
  obtain ⟨a0, n0, c0, rfl⟩ := okWide_slice Try.underlying37 (hval 0 37 v0 rfl rfl)
  have s0 : Sl Kd.byte W (Fr []) (.slice a0 n0 c0) x0 := by obtain ⟨_, e, h⟩ := hx0; simp [Value.cells] at e; subst e; exact h
  clear hA0 hval0 hsz0
  refine Calls.mono (laws_FnSeqKeep.calls W (Ok.nil W) x0 a0 n0 c0 s0 (fun r => r = true) (laws_FnSeqKeep.law x0 hv0)) fun e W' ⟨v, he, r, hr, hq, hg⟩ => ?_
  subst he; subst hr; subst hq
  have bel := Gr.below hg
  exact ⟨_, rfl, _, _, _, [], _, [], hW', trodAll_mk1 (shut_bool Try.underlying4 _), (trodAll_cons_mk (Below.trod laidOut (by kernel_rfl) (of_decide_eq_true (by kernel_rfl)) k0 bel lt0) trodAll_mk0), rfl, bel.frame _, fun h => by cases h⟩
theorem over : Rows.fnSeqKeepRow.holds Try.pinned (OpenSpec.ofChange Rows.fnSeqKeepSpec) :=
  OpenClaim.holds_of_wide 11 Try.f11 rfl rfl rfl rfl rfl rfl rfl ⟨rfl, rfl, rfl, rfl, rfl⟩ rfl rfl rfl rfl rfl (by kernel_rfl) Try.func11 (by kernel_rfl)
    (of_decide_eq_true (by kernel_rfl)) (by unfold Func.isWrapper; first | (rw [if_pos (by decide +kernel)]; kernel_rfl) | (rw [if_neg (by decide +kernel)]; exact ⟨rfl, rfl⟩))
    (fun os started H enc _ => lifted os started H enc)
theorem proved : Rows.FnSeqKeepSaid := over
#print axioms proved
end Go.Proofs.Ytnliofcjplnboaa.rFnSeqKeep
namespace Go.Proofs.Ytnliofcjplnboaa
theorem fnSeqKeep_holds : Rows.FnSeqKeepSaid := rFnSeqKeep.proved
end Go.Proofs.Ytnliofcjplnboaa
