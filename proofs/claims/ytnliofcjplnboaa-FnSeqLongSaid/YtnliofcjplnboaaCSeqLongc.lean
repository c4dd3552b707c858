/- It is proved here that the law FnSeqLong of the given program holds whatever it is handed: the walks through the code, the plain laws and the row, in this order.
   Conditions: none. -/
import Derived.Below
import Derived.ChangeArms
import Derived.ChangeOld
import Derived.ChangeSlices
import Derived.DataReads
import Derived.Deep.Quiet
import Derived.KernelRfl
import Derived.Laws.Build
import Derived.Laws.OwnMore
import Derived.Laws.Slices
import Derived.Laws.StructEq
import Derived.OpenShut
import Derived.ProofKit
import Derived.ShutString
import Derived.SizedLaws
import Derived.StillTail
import Derived.Test.YtnliofcjplnboaaProg
import Derived.Test.YtnliofcjplnboaaRows
import Derived.WalkKit
import Derived.Test.YtnliofcjplnboaaCSeqLonga
import Derived.Test.YtnliofcjplnboaaCSeqLongb
namespace Go.Proofs.Ytnliofcjplnboaa
open Go.RowKit
set_option linter.unusedVariables false
def laws_FnSeqLong.E (code : List UInt8) (more : List UInt8) (Q : Bool → Prop) : Prop :=
  (if decide ((code.length : Int) > 1048576) then Q true else (if decide ((more.length : Int) > 1048576) then Q true else spec_DrawSeqLong.E code (fun r r2 => impl_SeqLong.E r r2 (fun r3 => spec_SeqLong.E r r2 (fun r4 => (if r3 != r4 then Q false else impl_SeqLong.E r2 r (fun r5 => (if r3 != r5 then Q false else (if decide (r3 < 0) then Q false else (if decide (r3 > (r.length : Int)) then Q false else (if decide (r3 > (r2.length : Int)) then Q false else (if decide ((r.length : Int) ≥ 12) then Q true else (if decide ((r2.length : Int) > 12) then Q true else ((code.length : Int) ≤ 9223372036854775807 → (more.length : Int) ≤ 9223372036854775807 → (r.length : Int) ≤ 9223372036854775807 → (r2.length : Int) ≤ 9223372036854775807 → I64 ((r.length : Int) + 1)) ∧ ((0 : Int) ≤ (more.length : Int) ∧ (0 : Int) < (r.length : Int) + 1) ∧ ((0 : Int) ≤ (0 : Int) ∧ ((0 : Int) : Int) ≤ (more.length : Int) % ((r.length : Int) + 1) ∧ (more.length : Int) % ((r.length : Int) + 1) ≤ (r.length : Int)) ∧ ((0 : Int) ≤ (more.length : Int) % ((r.length : Int) + 1) ∧ ((more.length : Int) % ((r.length : Int) + 1) : Int) ≤ (r.length : Int) ∧ (r.length : Int) ≤ (r.length : Int)) ∧ (([] : List Pt).length + ((r.drop (0 : Int).toNat).take (((more.length : Int) % ((r.length : Int) + 1)).toNat - (0 : Int).toNat)).length ≤ 268435456) ∧ ((([] : List Pt) ++ ((r.drop (0 : Int).toNat).take (((more.length : Int) % ((r.length : Int) + 1)).toNat - (0 : Int).toNat))).length + ([(⟨1, 1⟩ : Pt)] : List Pt).length ≤ 268435456) ∧ (((([] : List Pt) ++ ((r.drop (0 : Int).toNat).take (((more.length : Int) % ((r.length : Int) + 1)).toNat - (0 : Int).toNat))) ++ ([(⟨1, 1⟩ : Pt)] : List Pt)).length + ((r.drop ((more.length : Int) % ((r.length : Int) + 1)).toNat).take ((r.length : Int).toNat - ((more.length : Int) % ((r.length : Int) + 1)).toNat)).length ≤ 268435456) ∧ impl_SeqLong.E (((([] : List Pt) ++ ((r.drop (0 : Int).toNat).take (((more.length : Int) % ((r.length : Int) + 1)).toNat - (0 : Int).toNat))) ++ ([(⟨1, 1⟩ : Pt)] : List Pt)) ++ ((r.drop ((more.length : Int) % ((r.length : Int) + 1)).toNat).take ((r.length : Int).toNat - ((more.length : Int) % ((r.length : Int) + 1)).toNat))) r2 (fun r6 => (([] : List Pt).length + ([(⟨9, 9⟩ : Pt)] : List Pt).length ≤ 268435456) ∧ ((([] : List Pt) ++ ([(⟨9, 9⟩ : Pt)] : List Pt)).length + r2.length ≤ 268435456) ∧ (if decide (r6 ≥ r3) then ((code.length : Int) ≤ 9223372036854775807 → (more.length : Int) ≤ 9223372036854775807 → (r.length : Int) ≤ 9223372036854775807 → (r2.length : Int) ≤ 9223372036854775807 → I64 (r3 + 1)) ∧ (if decide (r6 ≤ r3 + 1) then (if decide ((r2.length : Int) ≥ 12) then Q true else (([(⟨9, 9⟩ : Pt)] : List Pt).length + r.length ≤ 268435456) ∧ impl_SeqLong.E (([(⟨9, 9⟩ : Pt)] : List Pt) ++ r) ((([] : List Pt) ++ ([(⟨9, 9⟩ : Pt)] : List Pt)) ++ r2) (fun r7 => ((code.length : Int) ≤ 9223372036854775807 → (more.length : Int) ≤ 9223372036854775807 → (r.length : Int) ≤ 9223372036854775807 → (r2.length : Int) ≤ 9223372036854775807 → I64 (r3 + 1)) ∧ Q (r7 == (r3 + 1)))) else Q false) else Q false)))))))))))))))
set_option maxHeartbeats 8000000 in
set_option maxRecDepth 100000 in
theorem laws_FnSeqLong.calls {O : Ob} (w0 : World) (hO : Ok w0 O) (code : List UInt8) (A1 : Option Addr) (n2 c3 : Nat) (hp4 : Sl Kd.byte w0 (Fr O) (.slice A1 n2 c3) code) (more : List UInt8) (A6 : Option Addr) (n7 c8 : Nat) (hp9 : Sl Kd.byte w0 (Fr O) (.slice A6 n7 c8) more) (Q : Bool → Prop) (h : laws_FnSeqLong.E code more Q) :
    Ret Try.prog 6 [.slice A1 n2 c3, .slice A6 n7 c8] w0 (fun v w' => ∃ (r0 : Bool), v = vb r0 ∧ Q r0 ∧ Gr w0 w' none) := by
  have H : (if decide ((code.length : Int) > 1048576) then Q true else (if decide ((more.length : Int) > 1048576) then Q true else spec_DrawSeqLong.E code (fun r r2 => impl_SeqLong.E r r2 (fun r3 => spec_SeqLong.E r r2 (fun r4 => (if r3 != r4 then Q false else impl_SeqLong.E r2 r (fun r5 => (if r3 != r5 then Q false else (if decide (r3 < 0) then Q false else (if decide (r3 > (r.length : Int)) then Q false else (if decide (r3 > (r2.length : Int)) then Q false else (if decide ((r.length : Int) ≥ 12) then Q true else (if decide ((r2.length : Int) > 12) then Q true else ((code.length : Int) ≤ 9223372036854775807 → (more.length : Int) ≤ 9223372036854775807 → (r.length : Int) ≤ 9223372036854775807 → (r2.length : Int) ≤ 9223372036854775807 → I64 ((r.length : Int) + 1)) ∧ ((0 : Int) ≤ (more.length : Int) ∧ (0 : Int) < (r.length : Int) + 1) ∧ ((0 : Int) ≤ (0 : Int) ∧ ((0 : Int) : Int) ≤ (more.length : Int) % ((r.length : Int) + 1) ∧ (more.length : Int) % ((r.length : Int) + 1) ≤ (r.length : Int)) ∧ ((0 : Int) ≤ (more.length : Int) % ((r.length : Int) + 1) ∧ ((more.length : Int) % ((r.length : Int) + 1) : Int) ≤ (r.length : Int) ∧ (r.length : Int) ≤ (r.length : Int)) ∧ (([] : List Pt).length + ((r.drop (0 : Int).toNat).take (((more.length : Int) % ((r.length : Int) + 1)).toNat - (0 : Int).toNat)).length ≤ 268435456) ∧ ((([] : List Pt) ++ ((r.drop (0 : Int).toNat).take (((more.length : Int) % ((r.length : Int) + 1)).toNat - (0 : Int).toNat))).length + ([(⟨1, 1⟩ : Pt)] : List Pt).length ≤ 268435456) ∧ (((([] : List Pt) ++ ((r.drop (0 : Int).toNat).take (((more.length : Int) % ((r.length : Int) + 1)).toNat - (0 : Int).toNat))) ++ ([(⟨1, 1⟩ : Pt)] : List Pt)).length + ((r.drop ((more.length : Int) % ((r.length : Int) + 1)).toNat).take ((r.length : Int).toNat - ((more.length : Int) % ((r.length : Int) + 1)).toNat)).length ≤ 268435456) ∧ impl_SeqLong.E (((([] : List Pt) ++ ((r.drop (0 : Int).toNat).take (((more.length : Int) % ((r.length : Int) + 1)).toNat - (0 : Int).toNat))) ++ ([(⟨1, 1⟩ : Pt)] : List Pt)) ++ ((r.drop ((more.length : Int) % ((r.length : Int) + 1)).toNat).take ((r.length : Int).toNat - ((more.length : Int) % ((r.length : Int) + 1)).toNat))) r2 (fun r6 => (([] : List Pt).length + ([(⟨9, 9⟩ : Pt)] : List Pt).length ≤ 268435456) ∧ ((([] : List Pt) ++ ([(⟨9, 9⟩ : Pt)] : List Pt)).length + r2.length ≤ 268435456) ∧ (if decide (r6 ≥ r3) then ((code.length : Int) ≤ 9223372036854775807 → (more.length : Int) ≤ 9223372036854775807 → (r.length : Int) ≤ 9223372036854775807 → (r2.length : Int) ≤ 9223372036854775807 → I64 (r3 + 1)) ∧ (if decide (r6 ≤ r3 + 1) then (if decide ((r2.length : Int) ≥ 12) then Q true else (([(⟨9, 9⟩ : Pt)] : List Pt).length + r.length ≤ 268435456) ∧ impl_SeqLong.E (([(⟨9, 9⟩ : Pt)] : List Pt) ++ r) ((([] : List Pt) ++ ([(⟨9, 9⟩ : Pt)] : List Pt)) ++ r2) (fun r7 => ((code.length : Int) ≤ 9223372036854775807 → (more.length : Int) ≤ 9223372036854775807 → (r.length : Int) ≤ 9223372036854775807 → (r2.length : Int) ≤ 9223372036854775807 → I64 (r3 + 1)) ∧ Q (r7 == (r3 + 1)))) else Q false) else Q false))))))))))))))) := h
  clear h
  have hc0 := Ct.init hO
  refine Ret_enter Try.func6 rfl 116 rfl [.tmp 4] rfl rfl ?_
  refine W_seq ?_
  refine W_reg ?_
  refine L_pu (P_assign (vb false) rfl) ?_
  refine L_nil ?_
  refine W_seq ?_
  refine W_seq ?_
  refine W_reg ?_
  refine L_pu (P_move (.slice A1 n2 c3) rfl) ?_
  have hl11 := hp4.le
  refine L_pu (P_len Try.underlying37 A1 n2 c3 hp4.len rfl) ?_
  refine L_pu (P_cmp (code.length : Int) 1048576 (decide ((code.length : Int) > 1048576)) rfl rfl rfl) ?_
  refine L_pu (P_move (vb (decide ((code.length : Int) > 1048576))) rfl) ?_
  rcases bool_or (decide ((code.length : Int) > 1048576)) with hq12 | hq12
  · have H := ite_t H hq12
    refine L_pass (dj := 15) rfl rfl (.inl (by exact congrArg Value.bool hq12)) ?_
    refine L_pass (dj := 15) rfl rfl (.inl (by exact congrArg Value.bool hq12)) ?_
    refine L_pass (dj := 15) rfl rfl (.inl (by exact congrArg Value.bool hq12)) ?_
    refine L_pu (P_pick true (vb true) (by exact congrArg Value.bool hq12) rfl) ?_
    refine L_nil ?_
    refine W_ct (b := true) rfl rfl ?_
    refine W_seq ?_
    refine W_reg ?_
    refine L_pu (P_assign (vb true) rfl) ?_
    refine L_nil ?_
    refine W_ret ?_
    exact ⟨[vb true], ⟨_, rfl, rfl⟩, true, rfl, H, hc0.gr⟩
  · have H := ite_f H hq12
    refine L_run (dj := 15) rfl rfl (by exact congrArg Value.bool hq12) ?_
    refine L_pu (P_move (.slice A6 n7 c8) rfl) ?_
    refine L_run (dj := 15) rfl rfl (by exact congrArg Value.bool hq12) ?_
    have hl13 := hp9.le
    refine L_pu (P_len Try.underlying37 A6 n7 c8 hp9.len rfl) ?_
    refine L_run (dj := 15) rfl rfl (by exact congrArg Value.bool hq12) ?_
    refine L_pu (P_cmp (more.length : Int) 1048576 (decide ((more.length : Int) > 1048576)) rfl rfl rfl) ?_
    refine L_pu (P_pick false (vb (decide ((more.length : Int) > 1048576))) (by exact congrArg Value.bool hq12) rfl) ?_
    refine L_nil ?_
    refine W_cond (decide ((more.length : Int) > 1048576)) rfl (fun hq14 => ?_) (fun hq14 => ?_)
    · have H := ite_t H hq14
      refine W_seq ?_
      refine W_reg ?_
      refine L_pu (P_assign (vb true) rfl) ?_
      refine L_nil ?_
      refine W_ret ?_
      exact ⟨[vb true], ⟨_, rfl, rfl⟩, true, rfl, H, hc0.gr⟩
    · have H := ite_f H hq14
      refine W_skip ?_
      refine W_seq ?_
      refine W_reg ?_
      refine L_pu (P_move (.slice A1 n2 c3) rfl) ?_
      refine L_call go27 [.slice A1 n2 c3] rfl ((spec_DrawSeqLong.calls w0 hc0.ok code A1 n2 c3 hp4 _ H).mono ?_)
      rintro _ w15 ⟨r, r2, A17, n18, c19, A22, n23, c24, rfl, H, g16, hk28, hk29, h20, h25⟩
      have hc30 := hc0.owns g16 hk28 hk29
      refine L_pu (P_move (.tuple #[.slice A17 n18 c19, .slice A22 n23 c24]) rfl) ?_
      refine L_pu (P_ext [.slice A17 n18 c19, .slice A22 n23 c24] 0 (.slice A17 n18 c19) rfl rfl) ?_
      refine L_pu (P_ext [.slice A17 n18 c19, .slice A22 n23 c24] 1 (.slice A22 n23 c24) rfl rfl) ?_
      refine L_pu (P_assign (.slice A17 n18 c19) rfl) ?_
      refine L_pu (P_assign (.slice A22 n23 c24) rfl) ?_
      refine L_nil ?_
      refine W_seq ?_
      refine W_reg ?_
      refine L_pu (P_move (.slice A17 n18 c19) rfl) ?_
      refine L_pu (P_move (.slice A22 n23 c24) rfl) ?_
      have h31 := Ow.gv (L := [blk (.slice A17 n18 c19), blk (.slice A22 n23 c24)]) (O := O) h20 hc30 (i := 0) rfl
      have hc32 := hc30.drop 0 rfl
      have h34 := (Ow.sd (L := [blk (.slice A17 n18 c19), blk (.slice A22 n23 c24)]) (O := O) h25 (i := 1) rfl (j := 0) rfl (by decide))
      have h35 := Ow.gv (L := [blk (.slice A22 n23 c24)]) (O := O) h34 hc32 (i := 0) rfl
      have hc36 := hc32.drop 0 rfl
      have h38 := (h31.st (.dr _ (L := [blk (.slice A22 n23 c24)]) (O := O) (j := 0) rfl))
      refine L_call go25 [.slice A17 n18 c19, .slice A22 n23 c24] rfl ((impl_SeqLong.calls w15 hc36.ok r A17 n18 c19 h38 r2 A22 n23 c24 h35 _ H).mono ?_)
      rintro _ w39 ⟨r3, rfl, H, g40⟩
      have hc44 := hc30.k0 g40
      refine L_pu (P_assign (vi r3) rfl) ?_
      refine L_nil ?_
      refine W_seq ?_
      refine W_seq ?_
      refine W_reg ?_
      refine L_pu (P_move (vi r3) rfl) ?_
      refine L_pu (P_move (.slice A17 n18 c19) rfl) ?_
      refine L_pu (P_move (.slice A22 n23 c24) rfl) ?_
      have h45 := (h20.sn g40)
      have h46 := Ow.gv (L := [blk (.slice A17 n18 c19), blk (.slice A22 n23 c24)]) (O := O) h45 hc44 (i := 0) rfl
      have hc47 := hc44.drop 0 rfl
      have h49 := (Ow.sd (L := [blk (.slice A17 n18 c19), blk (.slice A22 n23 c24)]) (O := O) (h25.sn g40) (i := 1) rfl (j := 0) rfl (by decide))
      have h50 := Ow.gv (L := [blk (.slice A22 n23 c24)]) (O := O) h49 hc47 (i := 0) rfl
      have hc51 := hc47.drop 0 rfl
      have h53 := (h46.st (.dr _ (L := [blk (.slice A22 n23 c24)]) (O := O) (j := 0) rfl))
      refine L_call go23 [.slice A17 n18 c19, .slice A22 n23 c24] rfl ((spec_SeqLong.calls w39 hc51.ok r A17 n18 c19 h53 r2 A22 n23 c24 h50 _ H).mono ?_)
      rintro _ w54 ⟨r4, rfl, H, g55⟩
      have hc59 := hc44.k0 g55
      refine L_pu (P_cmp r3 r4 (r3 != r4) rfl rfl rfl) ?_
      refine L_pu (P_move (vb (r3 != r4)) rfl) ?_
      rcases bool_or (r3 != r4) with hq60 | hq60
      · have H := ite_t H hq60
        refine L_pass (dj := 33) rfl rfl (.inl (by exact congrArg Value.bool hq60)) ?_
        refine L_pass (dj := 33) rfl rfl (.inl (by exact congrArg Value.bool hq60)) ?_
        refine L_pass (dj := 33) rfl rfl (.inl (by exact congrArg Value.bool hq60)) ?_
        refine L_pass (dj := 33) rfl rfl (.inl (by exact congrArg Value.bool hq60)) ?_
        refine L_pass (dj := 33) rfl rfl (.inl (by exact congrArg Value.bool hq60)) ?_
        refine L_pu (P_pick true (vb true) (by exact congrArg Value.bool hq60) rfl) ?_
        refine L_pu (P_move (vb true) rfl) ?_
        refine L_pass (dj := 40) rfl rfl (.inl rfl) ?_
        refine L_pass (dj := 40) rfl rfl (.inl rfl) ?_
        refine L_pu (P_pick true (vb true) (by exact congrArg Value.bool rfl) rfl) ?_
        refine L_pu (P_move (vb true) rfl) ?_
        refine L_pass (dj := 44) rfl rfl (.inl rfl) ?_
        refine L_pass (dj := 44) rfl rfl (.inl rfl) ?_
        refine L_pass (dj := 44) rfl rfl (.inl rfl) ?_
        refine L_pass (dj := 44) rfl rfl (.inl rfl) ?_
        refine L_pu (P_pick true (vb true) (by exact congrArg Value.bool rfl) rfl) ?_
        refine L_pu (P_move (vb true) rfl) ?_
        refine L_pass (dj := 50) rfl rfl (.inl rfl) ?_
        refine L_pass (dj := 50) rfl rfl (.inl rfl) ?_
        refine L_pass (dj := 50) rfl rfl (.inl rfl) ?_
        refine L_pass (dj := 50) rfl rfl (.inl rfl) ?_
        refine L_pu (P_pick true (vb true) (by exact congrArg Value.bool rfl) rfl) ?_
        refine L_nil ?_
        refine W_ct (b := true) rfl rfl ?_
        refine W_seq ?_
        refine W_reg ?_
        refine L_pu (P_assign (vb false) rfl) ?_
        refine L_nil ?_
        refine W_ret ?_
        have hc61 := hc59.drop 0 rfl
        have hc62 := hc61.drop 0 rfl
        exact ⟨[vb false], ⟨_, rfl, rfl⟩, false, rfl, H, hc62.gr⟩
      · have H := ite_f H hq60
        refine L_run (dj := 33) rfl rfl (by exact congrArg Value.bool hq60) ?_
        refine L_pu (P_move (vi r3) rfl) ?_
        refine L_run (dj := 33) rfl rfl (by exact congrArg Value.bool hq60) ?_
        refine L_pu (P_move (.slice A22 n23 c24) rfl) ?_
        refine L_run (dj := 33) rfl rfl (by exact congrArg Value.bool hq60) ?_
        refine L_pu (P_move (.slice A17 n18 c19) rfl) ?_
        refine L_run (dj := 33) rfl rfl (by exact congrArg Value.bool hq60) ?_
        have h63 := ((h25.sn g40).sn g55)
        have h64 := Ow.gv (L := [blk (.slice A17 n18 c19), blk (.slice A22 n23 c24)]) (O := O) h63 hc59 (i := 1) rfl
        have hc65 := hc59.drop 1 rfl
        have h67 := (Ow.sd (L := [blk (.slice A17 n18 c19), blk (.slice A22 n23 c24)]) (O := O) ((h20.sn g40).sn g55) (i := 0) rfl (j := 1) rfl (by decide))
        have h68 := Ow.gv (L := [blk (.slice A17 n18 c19)]) (O := O) h67 hc65 (i := 0) rfl
        have hc69 := hc65.drop 0 rfl
        have h71 := (h64.st (.dr _ (L := [blk (.slice A17 n18 c19)]) (O := O) (j := 0) rfl))
        refine L_call go25 [.slice A22 n23 c24, .slice A17 n18 c19] rfl ((impl_SeqLong.calls w54 hc69.ok r2 A22 n23 c24 h71 r A17 n18 c19 h68 _ H).mono ?_)
        rintro _ w72 ⟨r5, rfl, H, g73⟩
        have hc77 := hc59.k0 g73
        refine L_run (dj := 33) rfl rfl (by exact congrArg Value.bool hq60) ?_
        refine L_pu (P_cmp r3 r5 (r3 != r5) rfl rfl rfl) ?_
        refine L_pu (P_pick false (vb (r3 != r5)) (by exact congrArg Value.bool hq60) rfl) ?_
        refine L_pu (P_move (vb (r3 != r5)) rfl) ?_
        rcases bool_or (r3 != r5) with hq78 | hq78
        · have H := ite_t H hq78
          refine L_pass (dj := 40) rfl rfl (.inl (by exact congrArg Value.bool hq78)) ?_
          refine L_pass (dj := 40) rfl rfl (.inl (by exact congrArg Value.bool hq78)) ?_
          refine L_pu (P_pick true (vb true) (by exact congrArg Value.bool hq78) rfl) ?_
          refine L_pu (P_move (vb true) rfl) ?_
          refine L_pass (dj := 44) rfl rfl (.inl rfl) ?_
          refine L_pass (dj := 44) rfl rfl (.inl rfl) ?_
          refine L_pass (dj := 44) rfl rfl (.inl rfl) ?_
          refine L_pass (dj := 44) rfl rfl (.inl rfl) ?_
          refine L_pu (P_pick true (vb true) (by exact congrArg Value.bool rfl) rfl) ?_
          refine L_pu (P_move (vb true) rfl) ?_
          refine L_pass (dj := 50) rfl rfl (.inl rfl) ?_
          refine L_pass (dj := 50) rfl rfl (.inl rfl) ?_
          refine L_pass (dj := 50) rfl rfl (.inl rfl) ?_
          refine L_pass (dj := 50) rfl rfl (.inl rfl) ?_
          refine L_pu (P_pick true (vb true) (by exact congrArg Value.bool rfl) rfl) ?_
          refine L_nil ?_
          refine W_ct (b := true) rfl rfl ?_
          refine W_seq ?_
          refine W_reg ?_
          refine L_pu (P_assign (vb false) rfl) ?_
          refine L_nil ?_
          refine W_ret ?_
          have hc79 := hc77.drop 0 rfl
          have hc80 := hc79.drop 0 rfl
          exact ⟨[vb false], ⟨_, rfl, rfl⟩, false, rfl, H, hc80.gr⟩
        · have H := ite_f H hq78
          refine L_run (dj := 40) rfl rfl (by exact congrArg Value.bool hq78) ?_
          refine L_pu (P_move (vi r3) rfl) ?_
          refine L_run (dj := 40) rfl rfl (by exact congrArg Value.bool hq78) ?_
          refine L_pu (P_cmp r3 0 (decide (r3 < 0)) rfl rfl rfl) ?_
          refine L_pu (P_pick false (vb (decide (r3 < 0))) (by exact congrArg Value.bool hq78) rfl) ?_
          refine L_pu (P_move (vb (decide (r3 < 0))) rfl) ?_
          rcases bool_or (decide (r3 < 0)) with hq81 | hq81
          · have H := ite_t H hq81
            refine L_pass (dj := 44) rfl rfl (.inl (by exact congrArg Value.bool hq81)) ?_
            refine L_pass (dj := 44) rfl rfl (.inl (by exact congrArg Value.bool hq81)) ?_
            refine L_pass (dj := 44) rfl rfl (.inl (by exact congrArg Value.bool hq81)) ?_
            refine L_pass (dj := 44) rfl rfl (.inl (by exact congrArg Value.bool hq81)) ?_
            refine L_pu (P_pick true (vb true) (by exact congrArg Value.bool hq81) rfl) ?_
            refine L_pu (P_move (vb true) rfl) ?_
            refine L_pass (dj := 50) rfl rfl (.inl rfl) ?_
            refine L_pass (dj := 50) rfl rfl (.inl rfl) ?_
            refine L_pass (dj := 50) rfl rfl (.inl rfl) ?_
            refine L_pass (dj := 50) rfl rfl (.inl rfl) ?_
            refine L_pu (P_pick true (vb true) (by exact congrArg Value.bool rfl) rfl) ?_
            refine L_nil ?_
            refine W_ct (b := true) rfl rfl ?_
            refine W_seq ?_
            refine W_reg ?_
            refine L_pu (P_assign (vb false) rfl) ?_
            refine L_nil ?_
            refine W_ret ?_
            have hc82 := hc77.drop 0 rfl
            have hc83 := hc82.drop 0 rfl
            exact ⟨[vb false], ⟨_, rfl, rfl⟩, false, rfl, H, hc83.gr⟩
          · have H := ite_f H hq81
            refine L_run (dj := 44) rfl rfl (by exact congrArg Value.bool hq81) ?_
            refine L_pu (P_move (vi r3) rfl) ?_
            refine L_run (dj := 44) rfl rfl (by exact congrArg Value.bool hq81) ?_
            refine L_pu (P_move (.slice A17 n18 c19) rfl) ?_
            refine L_run (dj := 44) rfl rfl (by exact congrArg Value.bool hq81) ?_
            have h84 := (((h20.sn g40).sn g55).sn g73)
            have hl85 := h84.le
            refine L_pu (P_len Try.underlying33 A17 n18 c19 h84.len rfl) ?_
            refine L_run (dj := 44) rfl rfl (by exact congrArg Value.bool hq81) ?_
            refine L_pu (P_cmp r3 (r.length : Int) (decide (r3 > (r.length : Int))) rfl rfl rfl) ?_
            refine L_pu (P_pick false (vb (decide (r3 > (r.length : Int)))) (by exact congrArg Value.bool hq81) rfl) ?_
            refine L_pu (P_move (vb (decide (r3 > (r.length : Int)))) rfl) ?_
            rcases bool_or (decide (r3 > (r.length : Int))) with hq86 | hq86
            · have H := ite_t H hq86
              refine L_pass (dj := 50) rfl rfl (.inl (by exact congrArg Value.bool hq86)) ?_
              refine L_pass (dj := 50) rfl rfl (.inl (by exact congrArg Value.bool hq86)) ?_
              refine L_pass (dj := 50) rfl rfl (.inl (by exact congrArg Value.bool hq86)) ?_
              refine L_pass (dj := 50) rfl rfl (.inl (by exact congrArg Value.bool hq86)) ?_
              refine L_pu (P_pick true (vb true) (by exact congrArg Value.bool hq86) rfl) ?_
              refine L_nil ?_
              refine W_ct (b := true) rfl rfl ?_
              refine W_seq ?_
              refine W_reg ?_
              refine L_pu (P_assign (vb false) rfl) ?_
              refine L_nil ?_
              refine W_ret ?_
              have hc87 := hc77.drop 0 rfl
              have hc88 := hc87.drop 0 rfl
              exact ⟨[vb false], ⟨_, rfl, rfl⟩, false, rfl, H, hc88.gr⟩
            · have H := ite_f H hq86
              refine L_run (dj := 50) rfl rfl (by exact congrArg Value.bool hq86) ?_
              refine L_pu (P_move (vi r3) rfl) ?_
              refine L_run (dj := 50) rfl rfl (by exact congrArg Value.bool hq86) ?_
              refine L_pu (P_move (.slice A22 n23 c24) rfl) ?_
              refine L_run (dj := 50) rfl rfl (by exact congrArg Value.bool hq86) ?_
              have h89 := (((h25.sn g40).sn g55).sn g73)
              have hl90 := h89.le
              refine L_pu (P_len Try.underlying33 A22 n23 c24 h89.len rfl) ?_
              refine L_run (dj := 50) rfl rfl (by exact congrArg Value.bool hq86) ?_
              refine L_pu (P_cmp r3 (r2.length : Int) (decide (r3 > (r2.length : Int))) rfl rfl rfl) ?_
              refine L_pu (P_pick false (vb (decide (r3 > (r2.length : Int)))) (by exact congrArg Value.bool hq86) rfl) ?_
              refine L_nil ?_
              refine W_cond (decide (r3 > (r2.length : Int))) rfl (fun hq91 => ?_) (fun hq91 => ?_)
              · have H := ite_t H hq91
                refine W_seq ?_
                refine W_reg ?_
                refine L_pu (P_assign (vb false) rfl) ?_
                refine L_nil ?_
                refine W_ret ?_
                have hc92 := hc77.drop 0 rfl
                have hc93 := hc92.drop 0 rfl
                exact ⟨[vb false], ⟨_, rfl, rfl⟩, false, rfl, H, hc93.gr⟩
              · have H := ite_f H hq91
                refine W_skip ?_
                refine W_seq ?_
                refine W_seq ?_
                refine W_reg ?_
                refine L_pu (P_move (.slice A17 n18 c19) rfl) ?_
                refine L_pu (P_len Try.underlying33 A17 n18 c19 h84.len rfl) ?_
                refine L_pu (P_cmp (r.length : Int) 12 (decide ((r.length : Int) ≥ 12)) rfl rfl rfl) ?_
                refine L_pu (P_move (vb (decide ((r.length : Int) ≥ 12))) rfl) ?_
                rcases bool_or (decide ((r.length : Int) ≥ 12)) with hq94 | hq94
                · have H := ite_t H hq94
                  refine L_pass (dj := 59) rfl rfl (.inl (by exact congrArg Value.bool hq94)) ?_
                  refine L_pass (dj := 59) rfl rfl (.inl (by exact congrArg Value.bool hq94)) ?_
                  refine L_pass (dj := 59) rfl rfl (.inl (by exact congrArg Value.bool hq94)) ?_
                  refine L_pu (P_pick true (vb true) (by exact congrArg Value.bool hq94) rfl) ?_
                  refine L_nil ?_
                  refine W_ct (b := true) rfl rfl ?_
                  refine W_seq ?_
                  refine W_reg ?_
                  refine L_pu (P_assign (vb true) rfl) ?_
                  refine L_nil ?_
                  refine W_ret ?_
                  have hc95 := hc77.drop 0 rfl
                  have hc96 := hc95.drop 0 rfl
                  exact ⟨[vb true], ⟨_, rfl, rfl⟩, true, rfl, H, hc96.gr⟩
                · have H := ite_f H hq94
                  refine L_run (dj := 59) rfl rfl (by exact congrArg Value.bool hq94) ?_
                  refine L_pu (P_move (.slice A22 n23 c24) rfl) ?_
                  refine L_run (dj := 59) rfl rfl (by exact congrArg Value.bool hq94) ?_
                  refine L_pu (P_len Try.underlying33 A22 n23 c24 h89.len rfl) ?_
                  refine L_run (dj := 59) rfl rfl (by exact congrArg Value.bool hq94) ?_
                  refine L_pu (P_cmp (r2.length : Int) 12 (decide ((r2.length : Int) > 12)) rfl rfl rfl) ?_
                  refine L_pu (P_pick false (vb (decide ((r2.length : Int) > 12))) (by exact congrArg Value.bool hq94) rfl) ?_
                  refine L_nil ?_
                  refine W_cond (decide ((r2.length : Int) > 12)) rfl (fun hq97 => ?_) (fun hq97 => ?_)
                  · have H := ite_t H hq97
                    refine W_seq ?_
                    refine W_reg ?_
                    refine L_pu (P_assign (vb true) rfl) ?_
                    refine L_nil ?_
                    refine W_ret ?_
                    have hc98 := hc77.drop 0 rfl
                    have hc99 := hc98.drop 0 rfl
                    exact ⟨[vb true], ⟨_, rfl, rfl⟩, true, rfl, H, hc99.gr⟩
                  · have H := ite_f H hq97
                    refine W_skip ?_
                    refine W_seq ?_
                    refine W_reg ?_
                    refine L_pu (P_move (.slice A6 n7 c8) rfl) ?_
                    refine L_pu (P_len Try.underlying37 A6 n7 c8 (hp9.st hc77.st).len rfl) ?_
                    refine L_pu (P_move (.slice A17 n18 c19) rfl) ?_
                    refine L_pu (P_len Try.underlying33 A17 n18 c19 h84.len rfl) ?_
                    obtain ⟨hb100, H⟩ := H
                    have hi101 := hb100 (len_le hl11) (len_le hl13) (len_le hl85) (len_le hl90)
                    refine L_pu (P_add (r.length : Int) 1 rfl rfl hi101) ?_
                    obtain ⟨hb102, H⟩ := H
                    refine L_pu (P_rem (more.length : Int) ((r.length : Int) + 1) rfl rfl hb102) ?_
                    refine L_pu (P_assign (vi ((more.length : Int) % ((r.length : Int) + 1))) rfl) ?_
                    refine L_nil ?_
                    refine W_seq ?_
                    refine W_mixr 13 (none) (by kernel_rfl) rfl fun w103 g104 hM105 => ?_
                    have hc106 := hc77.k0 g104
                    obtain ⟨hb107, H⟩ := H
                    obtain ⟨hb108, H⟩ := H
                    obtain ⟨hb109, H⟩ := H
                    obtain ⟨hb110, H⟩ := H
                    obtain ⟨hb111, H⟩ := H
                    refine M_pu 1 rfl (by kernel_rfl) hM105 (P_move (.slice A17 n18 c19) rfl) ?_
                    refine M_pu 2 rfl (by kernel_rfl) hM105 (P_move (vi ((more.length : Int) % ((r.length : Int) + 1))) rfl) ?_
                    have h112 := (h84.sn g104)
                    refine M_pu 3 rfl (by kernel_rfl) hM105 (P_cutx Try.underlying33 se33 A17 n18 c19 rfl h112 (0 : Int) ((more.length : Int) % ((r.length : Int) + 1)) rfl rfl hb107) ?_
                    refine M_pu 5 rfl (by kernel_rfl) hM105 (P_build (.agg #[vi 1, vi 1]) (fun _ => by kernel_rfl)) ?_
                    refine M_pu 8 rfl (by kernel_rfl) hM105 (P_move (.slice A17 n18 c19) rfl) ?_
                    refine M_pu 9 rfl (by kernel_rfl) hM105 (P_move (vi ((more.length : Int) % ((r.length : Int) + 1))) rfl) ?_
                    refine M_pu 10 rfl (by kernel_rfl) hM105 (P_cutx Try.underlying33 se33 A17 n18 c19 rfl h112 ((more.length : Int) % ((r.length : Int) + 1)) (r.length : Int) rfl (bd_none h112.len) hb108) ?_
                    refine M_any2 0 6 (by kernel_rfl) rfl rfl ?_ ?_
                    · refine L_lit (kd := kPt) ei33 hc106 ([] : List Pt) (cells := []) rfl (fun _ => by kernel_rfl) fun w113 A114 n115 c116 g117 hr118 hc119 h120 => ?_
                      have hM122 := Gr.tm hM105 g117
                      refine L_nil ⟨hM122, ?_⟩
                      refine M_any2 4 6 (by kernel_rfl) rfl rfl ?_ ?_
                      · have h123 := (h112.so _ g117 hr118)
                        refine L_app ei33 hc119 (.slice A114 n115 c116) ([] : List Pt) ((r.drop (0 : Int).toNat).take (((more.length : Int) % ((r.length : Int) + 1)).toNat - (0 : Int).toNat)) rfl h120 (sliced A17 (0 : Int).toNat ((more.length : Int) % ((r.length : Int) + 1)).toNat c19 2) rfl (h123.sx.cut (0 : Int) ((more.length : Int) % ((r.length : Int) + 1)) hb107) 0 rfl hb109 fun w124 A125 n126 c127 g128 s129 hc130 h131 => ?_
                        have hM132 := Gr.tq hM122 g128 (hv_new hM105 hr118)
                        have hv133 := hv_app (L := [blk (.slice A114 n115 c116), blk (.slice A17 n18 c19), blk (.slice A22 n23 c24)]) (O := O) (i := 0) hM122 rfl (hv_new hM105 hr118) s129 hc130
                        refine L_nil ⟨hM132, ?_⟩
                        refine M_any1 6 (by kernel_rfl) rfl ?_
                        refine L_lit (kd := kPt) ei33 hc130 ([(⟨1, 1⟩ : Pt)] : List Pt) (cells := [vi 1, vi 1]) ⟨[vi 1, vi 1], _, rfl, (kPt.mk _ _ (⟨1, 1⟩ : Pt)), rfl⟩ (fun _ => by kernel_rfl) fun w135 A136 n137 c138 g139 hr140 hc141 h142 => ?_
                        have hM144 := Gr.tm hM132 g139
                        refine L_nil ⟨hM144, ?_⟩
                        refine M_any1 7 (by kernel_rfl) rfl ?_
                        have h145 := (h131.so _ g139 hr140)
                        refine L_app ei33 hc141 (.slice A125 n126 c127) (([] : List Pt) ++ ((r.drop (0 : Int).toNat).take (((more.length : Int) % ((r.length : Int) + 1)).toNat - (0 : Int).toNat))) ([(⟨1, 1⟩ : Pt)] : List Pt) rfl h145 (.slice A136 n137 c138) rfl h142.sx 1 rfl hb110 fun w146 A147 n148 c149 g150 s151 hc152 h153 => ?_
                        have hM154 := Gr.tq hM144 g150 hv133
                        have hv155 := hv_app (L := [blk (.slice A136 n137 c138), blk (.slice A125 n126 c127), blk (.slice A17 n18 c19), blk (.slice A22 n23 c24)]) (O := O) (i := 1) hM144 rfl hv133 s151 hc152
                        refine L_nil ⟨hM154, ?_⟩
                        refine M_any1 11 (by kernel_rfl) rfl ?_
                        have h157 := (Ow.sm (L := [blk (.slice A136 n137 c138), blk (.slice A125 n126 c127), blk (.slice A17 n18 c19), blk (.slice A22 n23 c24)]) (O := O) ((Ow.sm (L := [blk (.slice A114 n115 c116), blk (.slice A17 n18 c19), blk (.slice A22 n23 c24)]) (O := O) h123 hc119 (i := 1) rfl (j := 0) rfl (by decide) g128 s129).so _ g139 hr140) hc141 (i := 2) rfl (j := 1) rfl (by decide) g150 s151)
                        refine L_app ei33 hc152 (.slice A147 n148 c149) ((([] : List Pt) ++ ((r.drop (0 : Int).toNat).take (((more.length : Int) % ((r.length : Int) + 1)).toNat - (0 : Int).toNat))) ++ ([(⟨1, 1⟩ : Pt)] : List Pt)) ((r.drop ((more.length : Int) % ((r.length : Int) + 1)).toNat).take ((r.length : Int).toNat - ((more.length : Int) % ((r.length : Int) + 1)).toNat)) rfl h153 (sliced A17 ((more.length : Int) % ((r.length : Int) + 1)).toNat (r.length : Int).toNat c19 2) rfl (h157.sx.cut ((more.length : Int) % ((r.length : Int) + 1)) (r.length : Int) hb108) 1 rfl hb111 fun w158 A159 n160 c161 g162 s163 hc164 h165 => ?_
                        have hM166 := Gr.tq hM154 g162 hv155
                        have hv167 := hv_app (L := [blk (.slice A136 n137 c138), blk (.slice A147 n148 c149), blk (.slice A17 n18 c19), blk (.slice A22 n23 c24)]) (O := O) (i := 1) hM154 rfl hv155 s163 hc164
                        refine L_nil ⟨hM166, ?_⟩
                        refine M_pu 12 rfl (by kernel_rfl) hM166 (P_assign (.slice A159 n160 c161) rfl) ?_
                        refine M_nil (by kernel_rfl) ?_
                        refine W_seq ?_
                        refine W_reg ?_
                        refine L_pu (P_move (.slice A159 n160 c161) rfl) ?_
                        refine L_pu (P_move (.slice A22 n23 c24) rfl) ?_
                        have h169 := Ow.gv (L := [blk (.slice A136 n137 c138), blk (.slice A159 n160 c161), blk (.slice A17 n18 c19), blk (.slice A22 n23 c24)]) (O := O) h165 hc164 (i := 1) rfl
                        have hc170 := hc164.drop 1 rfl
                        have h172 := (Ow.sd (L := [blk (.slice A136 n137 c138), blk (.slice A159 n160 c161), blk (.slice A17 n18 c19), blk (.slice A22 n23 c24)]) (O := O) (Ow.sm (L := [blk (.slice A136 n137 c138), blk (.slice A147 n148 c149), blk (.slice A17 n18 c19), blk (.slice A22 n23 c24)]) (O := O) (Ow.sm (L := [blk (.slice A136 n137 c138), blk (.slice A125 n126 c127), blk (.slice A17 n18 c19), blk (.slice A22 n23 c24)]) (O := O) ((Ow.sm (L := [blk (.slice A114 n115 c116), blk (.slice A17 n18 c19), blk (.slice A22 n23 c24)]) (O := O) ((h89.sn g104).so _ g117 hr118) hc119 (i := 2) rfl (j := 0) rfl (by decide) g128 s129).so _ g139 hr140) hc141 (i := 3) rfl (j := 1) rfl (by decide) g150 s151) hc152 (i := 3) rfl (j := 1) rfl (by decide) g162 s163) (i := 3) rfl (j := 1) rfl (by decide))
                        have h173 := Ow.gv (L := [blk (.slice A136 n137 c138), blk (.slice A17 n18 c19), blk (.slice A22 n23 c24)]) (O := O) h172 hc170 (i := 2) rfl
                        have hc174 := hc170.drop 2 rfl
                        have h176 := (h169.st (.dr _ (L := [blk (.slice A136 n137 c138), blk (.slice A17 n18 c19), blk (.slice A22 n23 c24)]) (O := O) (j := 2) rfl))
                        refine L_call go25 [.slice A159 n160 c161, .slice A22 n23 c24] rfl ((impl_SeqLong.calls w158 hc174.ok (((([] : List Pt) ++ ((r.drop (0 : Int).toNat).take (((more.length : Int) % ((r.length : Int) + 1)).toNat - (0 : Int).toNat))) ++ ([(⟨1, 1⟩ : Pt)] : List Pt)) ++ ((r.drop ((more.length : Int) % ((r.length : Int) + 1)).toNat).take ((r.length : Int).toNat - ((more.length : Int) % ((r.length : Int) + 1)).toNat))) A159 n160 c161 h176 r2 A22 n23 c24 h173 _ H).mono ?_)
                        rintro _ w177 ⟨r6, rfl, H, g178⟩
                        have hc182 := hc164.k0 g178
                        refine L_pu (P_assign (vi r6) rfl) ?_
                        refine L_nil ?_
                        refine W_seq ?_
                        refine W_reg ?_
                        refine L_lit (kd := kPt) ei33 hc182 ([] : List Pt) (cells := []) rfl (fun _ => by kernel_rfl) fun w183 A184 n185 c186 g187 hr188 hc189 h190 => ?_
                        refine L_pu (P_build (.agg #[vi 9, vi 9]) (fun _ => by kernel_rfl)) ?_
                        refine L_lit (kd := kPt) ei33 hc189 ([(⟨9, 9⟩ : Pt)] : List Pt) (cells := [vi 9, vi 9]) ⟨[vi 9, vi 9], _, rfl, (kPt.mk _ _ (⟨9, 9⟩ : Pt)), rfl⟩ (fun _ => by kernel_rfl) fun w192 A193 n194 c195 g196 hr197 hc198 h199 => ?_
                        obtain ⟨hb201, H⟩ := H
                        have h202 := (h190.so _ g196 hr197)
                        refine L_app ei33 hc198 (.slice A184 n185 c186) ([] : List Pt) ([(⟨9, 9⟩ : Pt)] : List Pt) rfl h202 (.slice A193 n194 c195) rfl h199.sx 1 rfl hb201 fun w203 A204 n205 c206 g207 s208 hc209 h210 => ?_
                        refine L_pu (P_move (.slice A22 n23 c24) rfl) ?_
                        have h212 := (Ow.sm (L := [blk (.slice A193 n194 c195), blk (.slice A184 n185 c186), blk (.slice A136 n137 c138), blk (.slice A159 n160 c161), blk (.slice A17 n18 c19), blk (.slice A22 n23 c24)]) (O := O) ((((Ow.sm (L := [blk (.slice A136 n137 c138), blk (.slice A147 n148 c149), blk (.slice A17 n18 c19), blk (.slice A22 n23 c24)]) (O := O) (Ow.sm (L := [blk (.slice A136 n137 c138), blk (.slice A125 n126 c127), blk (.slice A17 n18 c19), blk (.slice A22 n23 c24)]) (O := O) ((Ow.sm (L := [blk (.slice A114 n115 c116), blk (.slice A17 n18 c19), blk (.slice A22 n23 c24)]) (O := O) ((h89.sn g104).so _ g117 hr118) hc119 (i := 2) rfl (j := 0) rfl (by decide) g128 s129).so _ g139 hr140) hc141 (i := 3) rfl (j := 1) rfl (by decide) g150 s151) hc152 (i := 3) rfl (j := 1) rfl (by decide) g162 s163).sn g178).so _ g187 hr188).so _ g196 hr197) hc198 (i := 5) rfl (j := 1) rfl (by decide) g207 s208)
                        obtain ⟨hb213, H⟩ := H
                        refine L_app ei33 hc209 (.slice A204 n205 c206) (([] : List Pt) ++ ([(⟨9, 9⟩ : Pt)] : List Pt)) r2 rfl h210 (.slice A22 n23 c24) rfl h212.sx 1 rfl hb213 fun w214 A215 n216 c217 g218 s219 hc220 h221 => ?_
                        refine L_pu (P_assign (.slice A215 n216 c217) rfl) ?_
                        refine L_nil ?_
                        refine W_seq ?_
                        refine W_reg ?_
                        refine L_pu (P_move (vi r6) rfl) ?_
                        refine L_pu (P_move (vi r3) rfl) ?_
                        refine L_pu (P_cmp r6 r3 (decide (r6 ≥ r3)) rfl rfl rfl) ?_
                        refine L_pu (P_move (vb (decide (r6 ≥ r3))) rfl) ?_
                        rcases bool_or (decide (r6 ≥ r3)) with hq223 | hq223
                        · have H := ite_t H hq223
                          refine L_run (dj := 94) rfl rfl (by exact congrArg Value.bool hq223) ?_
                          refine L_pu (P_move (vi r6) rfl) ?_
                          refine L_run (dj := 94) rfl rfl (by exact congrArg Value.bool hq223) ?_
                          refine L_pu (P_move (vi r3) rfl) ?_
                          refine L_run (dj := 94) rfl rfl (by exact congrArg Value.bool hq223) ?_
                          obtain ⟨hb224, H⟩ := H
                          have hi225 := hb224 (len_le hl11) (len_le hl13) (len_le hl85) (len_le hl90)
                          refine L_pu (P_add r3 1 rfl rfl hi225) ?_
                          refine L_run (dj := 94) rfl rfl (by exact congrArg Value.bool hq223) ?_
                          refine L_pu (P_cmp r6 (r3 + 1) (decide (r6 ≤ r3 + 1)) rfl rfl rfl) ?_
                          refine L_pu (P_pick true (vb (decide (r6 ≤ r3 + 1))) (by exact congrArg Value.bool hq223) rfl) ?_
                          refine L_pu (P_move (vb (decide (r6 ≤ r3 + 1))) rfl) ?_
                          rcases bool_or (decide (r6 ≤ r3 + 1)) with hq226 | hq226
                          · have H := ite_t H hq226
                            refine L_run (dj := 100) rfl rfl (by exact congrArg Value.bool hq226) ?_
                            refine L_pu (P_move (.slice A22 n23 c24) rfl) ?_
                            refine L_run (dj := 100) rfl rfl (by exact congrArg Value.bool hq226) ?_
                            have h227 := (Ow.sm (L := [blk (.slice A193 n194 c195), blk (.slice A204 n205 c206), blk (.slice A136 n137 c138), blk (.slice A159 n160 c161), blk (.slice A17 n18 c19), blk (.slice A22 n23 c24)]) (O := O) h212 hc209 (i := 5) rfl (j := 1) rfl (by decide) g218 s219)
                            refine L_pu (P_len Try.underlying33 A22 n23 c24 h227.len rfl) ?_
                            refine L_run (dj := 100) rfl rfl (by exact congrArg Value.bool hq226) ?_
                            refine L_pu (P_cmp (r2.length : Int) 12 (decide ((r2.length : Int) ≥ 12)) rfl rfl rfl) ?_
                            refine L_run (dj := 100) rfl rfl (by exact congrArg Value.bool hq226) ?_
                            refine L_pu (P_move (vb (decide ((r2.length : Int) ≥ 12))) rfl) ?_
                            rcases bool_or (decide ((r2.length : Int) ≥ 12)) with hq228 | hq228
                            · have H := ite_t H hq228
                              refine L_pass (dj := 104) rfl rfl (.inl (by exact congrArg Value.bool hq228)) ?_
                              refine L_pass (dj := 104) rfl rfl (.inl (by exact congrArg Value.bool hq228)) ?_
                              refine L_pass (dj := 104) rfl rfl (.inl (by exact congrArg Value.bool hq228)) ?_
                              refine L_pass (dj := 104) rfl rfl (.inl (by exact congrArg Value.bool hq228)) ?_
                              refine L_pass (dj := 104) rfl rfl (.inl (by exact congrArg Value.bool hq228)) ?_
                              refine L_pass (dj := 104) rfl rfl (.inl (by exact congrArg Value.bool hq228)) ?_
                              refine L_pass (dj := 104) rfl rfl (.inl (by exact congrArg Value.bool hq228)) ?_
                              refine L_pass (dj := 104) rfl rfl (.inl (by exact congrArg Value.bool hq228)) ?_
                              refine L_pass (dj := 104) rfl rfl (.inl (by exact congrArg Value.bool hq228)) ?_
                              refine L_run (dj := 100) rfl rfl (by exact congrArg Value.bool hq226) ?_
                              refine L_pu (P_pick true (vb true) (by exact congrArg Value.bool hq228) rfl) ?_
                              refine L_pu (P_pick true (vb true) (by exact congrArg Value.bool hq226) rfl) ?_
                              refine L_pu (P_assign (vb true) rfl) ?_
                              refine L_nil ?_
                              refine W_ret ?_
                              have hc229 := hc220.drop 0 rfl
                              have hc230 := hc229.drop 0 rfl
                              have hc231 := hc230.drop 0 rfl
                              have hc232 := hc231.drop 0 rfl
                              have hc233 := hc232.drop 0 rfl
                              have hc234 := hc233.drop 0 rfl
                              exact ⟨[vb true], ⟨_, rfl, rfl⟩, true, rfl, H, hc234.gr⟩
                            · have H := ite_f H hq228
                              refine L_run (dj := 104) rfl rfl (by exact congrArg Value.bool hq228) ?_
                              refine L_pu (P_build (.agg #[vi 9, vi 9]) (fun _ => by kernel_rfl)) ?_
                              refine L_run (dj := 104) rfl rfl (by exact congrArg Value.bool hq228) ?_
                              refine L_lit (kd := kPt) ei33 hc220 ([(⟨9, 9⟩ : Pt)] : List Pt) (cells := [vi 9, vi 9]) ⟨[vi 9, vi 9], _, rfl, (kPt.mk _ _ (⟨9, 9⟩ : Pt)), rfl⟩ (fun _ => by kernel_rfl) fun w235 A236 n237 c238 g239 hr240 hc241 h242 => ?_
                              refine L_run (dj := 104) rfl rfl (by exact congrArg Value.bool hq228) ?_
                              refine L_pu (P_move (.slice A17 n18 c19) rfl) ?_
                              refine L_run (dj := 104) rfl rfl (by exact congrArg Value.bool hq228) ?_
                              have h244 := ((Ow.sm (L := [blk (.slice A193 n194 c195), blk (.slice A204 n205 c206), blk (.slice A136 n137 c138), blk (.slice A159 n160 c161), blk (.slice A17 n18 c19), blk (.slice A22 n23 c24)]) (O := O) (Ow.sm (L := [blk (.slice A193 n194 c195), blk (.slice A184 n185 c186), blk (.slice A136 n137 c138), blk (.slice A159 n160 c161), blk (.slice A17 n18 c19), blk (.slice A22 n23 c24)]) (O := O) ((((Ow.sm (L := [blk (.slice A136 n137 c138), blk (.slice A147 n148 c149), blk (.slice A17 n18 c19), blk (.slice A22 n23 c24)]) (O := O) h157 hc152 (i := 2) rfl (j := 1) rfl (by decide) g162 s163).sn g178).so _ g187 hr188).so _ g196 hr197) hc198 (i := 4) rfl (j := 1) rfl (by decide) g207 s208) hc209 (i := 4) rfl (j := 1) rfl (by decide) g218 s219).so _ g239 hr240)
                              obtain ⟨hb245, H⟩ := H
                              refine L_app ei33 hc241 (.slice A236 n237 c238) ([(⟨9, 9⟩ : Pt)] : List Pt) r rfl h242 (.slice A17 n18 c19) rfl h244.sx 0 rfl hb245 fun w246 A247 n248 c249 g250 s251 hc252 h253 => ?_
                              refine L_run (dj := 104) rfl rfl (by exact congrArg Value.bool hq228) ?_
                              refine L_pu (P_move (.slice A215 n216 c217) rfl) ?_
                              refine L_run (dj := 104) rfl rfl (by exact congrArg Value.bool hq228) ?_
                              have h255 := Ow.gv (L := [blk (.slice A247 n248 c249), blk (.slice A193 n194 c195), blk (.slice A215 n216 c217), blk (.slice A136 n137 c138), blk (.slice A159 n160 c161), blk (.slice A17 n18 c19), blk (.slice A22 n23 c24)]) (O := O) h253 hc252 (i := 0) rfl
                              have hc256 := hc252.drop 0 rfl
                              have h258 := (Ow.sd (L := [blk (.slice A247 n248 c249), blk (.slice A193 n194 c195), blk (.slice A215 n216 c217), blk (.slice A136 n137 c138), blk (.slice A159 n160 c161), blk (.slice A17 n18 c19), blk (.slice A22 n23 c24)]) (O := O) (Ow.sm (L := [blk (.slice A236 n237 c238), blk (.slice A193 n194 c195), blk (.slice A215 n216 c217), blk (.slice A136 n137 c138), blk (.slice A159 n160 c161), blk (.slice A17 n18 c19), blk (.slice A22 n23 c24)]) (O := O) (h221.so _ g239 hr240) hc241 (i := 2) rfl (j := 0) rfl (by decide) g250 s251) (i := 2) rfl (j := 0) rfl (by decide))
                              have h259 := Ow.gv (L := [blk (.slice A193 n194 c195), blk (.slice A215 n216 c217), blk (.slice A136 n137 c138), blk (.slice A159 n160 c161), blk (.slice A17 n18 c19), blk (.slice A22 n23 c24)]) (O := O) h258 hc256 (i := 1) rfl
                              have hc260 := hc256.drop 1 rfl
                              have h262 := (h255.st (.dr _ (L := [blk (.slice A193 n194 c195), blk (.slice A215 n216 c217), blk (.slice A136 n137 c138), blk (.slice A159 n160 c161), blk (.slice A17 n18 c19), blk (.slice A22 n23 c24)]) (O := O) (j := 1) rfl))
                              refine L_call go25 [.slice A247 n248 c249, .slice A215 n216 c217] rfl ((impl_SeqLong.calls w246 hc260.ok (([(⟨9, 9⟩ : Pt)] : List Pt) ++ r) A247 n248 c249 h262 ((([] : List Pt) ++ ([(⟨9, 9⟩ : Pt)] : List Pt)) ++ r2) A215 n216 c217 h259 _ H).mono ?_)
                              rintro _ w263 ⟨r7, rfl, H, g264⟩
                              have hc268 := hc252.k0 g264
                              refine L_run (dj := 104) rfl rfl (by exact congrArg Value.bool hq228) ?_
                              refine L_pu (P_move (vi r3) rfl) ?_
                              refine L_run (dj := 104) rfl rfl (by exact congrArg Value.bool hq228) ?_
                              obtain ⟨hb269, H⟩ := H
                              have hi270 := hb269 (len_le hl11) (len_le hl13) (len_le hl85) (len_le hl90)
                              refine L_pu (P_add r3 1 rfl rfl hi270) ?_
                              refine L_run (dj := 104) rfl rfl (by exact congrArg Value.bool hq228) ?_
                              refine L_pu (P_cmp r7 (r3 + 1) (r7 == (r3 + 1)) rfl rfl rfl) ?_
                              refine L_run (dj := 100) rfl rfl (by exact congrArg Value.bool hq226) ?_
                              refine L_pu (P_pick false (vb (r7 == (r3 + 1))) (by exact congrArg Value.bool hq228) rfl) ?_
                              refine L_pu (P_pick true (vb (r7 == (r3 + 1))) (by exact congrArg Value.bool hq226) rfl) ?_
                              refine L_pu (P_assign (vb (r7 == (r3 + 1))) rfl) ?_
                              refine L_nil ?_
                              refine W_ret ?_
                              have hc271 := hc268.drop 0 rfl
                              have hc272 := hc271.drop 0 rfl
                              have hc273 := hc272.drop 0 rfl
                              have hc274 := hc273.drop 0 rfl
                              have hc275 := hc274.drop 0 rfl
                              have hc276 := hc275.drop 0 rfl
                              have hc277 := hc276.drop 0 rfl
                              exact ⟨[vb (r7 == (r3 + 1))], ⟨_, rfl, rfl⟩, r7 == (r3 + 1), rfl, H, hc277.gr⟩
                          · have H := ite_f H hq226
                            refine L_pass (dj := 100) rfl rfl (.inl (by exact congrArg Value.bool hq226)) ?_
                            refine L_pass (dj := 100) rfl rfl (.inl (by exact congrArg Value.bool hq226)) ?_
                            refine L_pass (dj := 100) rfl rfl (.inl (by exact congrArg Value.bool hq226)) ?_
                            refine L_pass (dj := 100) rfl rfl (.inl (by exact congrArg Value.bool hq226)) ?_
                            refine L_pass (dj := 104) rfl rfl (.inr rfl) ?_
                            refine L_pass (dj := 104) rfl rfl (.inr rfl) ?_
                            refine L_pass (dj := 104) rfl rfl (.inr rfl) ?_
                            refine L_pass (dj := 104) rfl rfl (.inr rfl) ?_
                            refine L_pass (dj := 104) rfl rfl (.inr rfl) ?_
                            refine L_pass (dj := 104) rfl rfl (.inr rfl) ?_
                            refine L_pass (dj := 104) rfl rfl (.inr rfl) ?_
                            refine L_pass (dj := 104) rfl rfl (.inr rfl) ?_
                            refine L_pass (dj := 104) rfl rfl (.inr rfl) ?_
                            refine L_pass (dj := 100) rfl rfl (.inl (by exact congrArg Value.bool hq226)) ?_
                            refine L_pu (P_pick false (vb false) (by exact congrArg Value.bool hq226) rfl) ?_
                            refine L_pu (P_assign (vb false) rfl) ?_
                            refine L_nil ?_
                            refine W_ret ?_
                            have hc278 := hc220.drop 0 rfl
                            have hc279 := hc278.drop 0 rfl
                            have hc280 := hc279.drop 0 rfl
                            have hc281 := hc280.drop 0 rfl
                            have hc282 := hc281.drop 0 rfl
                            have hc283 := hc282.drop 0 rfl
                            exact ⟨[vb false], ⟨_, rfl, rfl⟩, false, rfl, H, hc283.gr⟩
                        · have H := ite_f H hq223
                          refine L_pass (dj := 94) rfl rfl (.inl (by exact congrArg Value.bool hq223)) ?_
                          refine L_pass (dj := 94) rfl rfl (.inl (by exact congrArg Value.bool hq223)) ?_
                          refine L_pass (dj := 94) rfl rfl (.inl (by exact congrArg Value.bool hq223)) ?_
                          refine L_pass (dj := 94) rfl rfl (.inl (by exact congrArg Value.bool hq223)) ?_
                          refine L_pu (P_pick false (vb false) (by exact congrArg Value.bool hq223) rfl) ?_
                          refine L_pu (P_move (vb false) rfl) ?_
                          refine L_pass (dj := 100) rfl rfl (.inl rfl) ?_
                          refine L_pass (dj := 100) rfl rfl (.inl rfl) ?_
                          refine L_pass (dj := 100) rfl rfl (.inl rfl) ?_
                          refine L_pass (dj := 100) rfl rfl (.inl rfl) ?_
                          refine L_pass (dj := 104) rfl rfl (.inr rfl) ?_
                          refine L_pass (dj := 104) rfl rfl (.inr rfl) ?_
                          refine L_pass (dj := 104) rfl rfl (.inr rfl) ?_
                          refine L_pass (dj := 104) rfl rfl (.inr rfl) ?_
                          refine L_pass (dj := 104) rfl rfl (.inr rfl) ?_
                          refine L_pass (dj := 104) rfl rfl (.inr rfl) ?_
                          refine L_pass (dj := 104) rfl rfl (.inr rfl) ?_
                          refine L_pass (dj := 104) rfl rfl (.inr rfl) ?_
                          refine L_pass (dj := 104) rfl rfl (.inr rfl) ?_
                          refine L_pass (dj := 100) rfl rfl (.inl rfl) ?_
                          refine L_pu (P_pick false (vb false) (by exact congrArg Value.bool rfl) rfl) ?_
                          refine L_pu (P_assign (vb false) rfl) ?_
                          refine L_nil ?_
                          refine W_ret ?_
                          have hc284 := hc220.drop 0 rfl
                          have hc285 := hc284.drop 0 rfl
                          have hc286 := hc285.drop 0 rfl
                          have hc287 := hc286.drop 0 rfl
                          have hc288 := hc287.drop 0 rfl
                          have hc289 := hc288.drop 0 rfl
                          exact ⟨[vb false], ⟨_, rfl, rfl⟩, false, rfl, H, hc289.gr⟩
                      · refine L_lit (kd := kPt) ei33 hc119 ([(⟨1, 1⟩ : Pt)] : List Pt) (cells := [vi 1, vi 1]) ⟨[vi 1, vi 1], _, rfl, (kPt.mk _ _ (⟨1, 1⟩ : Pt)), rfl⟩ (fun _ => by kernel_rfl) fun w123 A124 n125 c126 g127 hr128 hc129 h130 => ?_
                        have hM132 := Gr.tm hM122 g127
                        refine L_nil ⟨hM132, ?_⟩
                        refine M_any1 4 (by kernel_rfl) rfl ?_
                        have h133 := ((h112.so _ g117 hr118).so _ g127 hr128)
                        have h134 := (h120.so _ g127 hr128)
                        refine L_app ei33 hc129 (.slice A114 n115 c116) ([] : List Pt) ((r.drop (0 : Int).toNat).take (((more.length : Int) % ((r.length : Int) + 1)).toNat - (0 : Int).toNat)) rfl h134 (sliced A17 (0 : Int).toNat ((more.length : Int) % ((r.length : Int) + 1)).toNat c19 2) rfl (h133.sx.cut (0 : Int) ((more.length : Int) % ((r.length : Int) + 1)) hb107) 1 rfl hb109 fun w135 A136 n137 c138 g139 s140 hc141 h142 => ?_
                        have hM143 := Gr.tq hM132 g139 (hv_new hM105 hr118)
                        have hv144 := hv_app (L := [blk (.slice A124 n125 c126), blk (.slice A114 n115 c116), blk (.slice A17 n18 c19), blk (.slice A22 n23 c24)]) (O := O) (i := 1) hM132 rfl (hv_new hM105 hr118) s140 hc141
                        refine L_nil ⟨hM143, ?_⟩
                        refine M_any1 7 (by kernel_rfl) rfl ?_
                        have h146 := (Ow.sm (L := [blk (.slice A124 n125 c126), blk (.slice A114 n115 c116), blk (.slice A17 n18 c19), blk (.slice A22 n23 c24)]) (O := O) h130 hc129 (i := 0) rfl (j := 1) rfl (by decide) g139 s140)
                        refine L_app ei33 hc141 (.slice A136 n137 c138) (([] : List Pt) ++ ((r.drop (0 : Int).toNat).take (((more.length : Int) % ((r.length : Int) + 1)).toNat - (0 : Int).toNat))) ([(⟨1, 1⟩ : Pt)] : List Pt) rfl h142 (.slice A124 n125 c126) rfl h146.sx 1 rfl hb110 fun w147 A148 n149 c150 g151 s152 hc153 h154 => ?_
                        have hM155 := Gr.tq hM143 g151 hv144
                        have hv156 := hv_app (L := [blk (.slice A124 n125 c126), blk (.slice A136 n137 c138), blk (.slice A17 n18 c19), blk (.slice A22 n23 c24)]) (O := O) (i := 1) hM143 rfl hv144 s152 hc153
                        refine L_nil ⟨hM155, ?_⟩
                        refine M_any1 11 (by kernel_rfl) rfl ?_
                        have h158 := (Ow.sm (L := [blk (.slice A124 n125 c126), blk (.slice A136 n137 c138), blk (.slice A17 n18 c19), blk (.slice A22 n23 c24)]) (O := O) (Ow.sm (L := [blk (.slice A124 n125 c126), blk (.slice A114 n115 c116), blk (.slice A17 n18 c19), blk (.slice A22 n23 c24)]) (O := O) h133 hc129 (i := 2) rfl (j := 1) rfl (by decide) g139 s140) hc141 (i := 2) rfl (j := 1) rfl (by decide) g151 s152)
                        refine L_app ei33 hc153 (.slice A148 n149 c150) ((([] : List Pt) ++ ((r.drop (0 : Int).toNat).take (((more.length : Int) % ((r.length : Int) + 1)).toNat - (0 : Int).toNat))) ++ ([(⟨1, 1⟩ : Pt)] : List Pt)) ((r.drop ((more.length : Int) % ((r.length : Int) + 1)).toNat).take ((r.length : Int).toNat - ((more.length : Int) % ((r.length : Int) + 1)).toNat)) rfl h154 (sliced A17 ((more.length : Int) % ((r.length : Int) + 1)).toNat (r.length : Int).toNat c19 2) rfl (h158.sx.cut ((more.length : Int) % ((r.length : Int) + 1)) (r.length : Int) hb108) 1 rfl hb111 fun w159 A160 n161 c162 g163 s164 hc165 h166 => ?_
                        have hM167 := Gr.tq hM155 g163 hv156
                        have hv168 := hv_app (L := [blk (.slice A124 n125 c126), blk (.slice A148 n149 c150), blk (.slice A17 n18 c19), blk (.slice A22 n23 c24)]) (O := O) (i := 1) hM155 rfl hv156 s164 hc165
                        refine L_nil ⟨hM167, ?_⟩
                        refine M_pu 12 rfl (by kernel_rfl) hM167 (P_assign (.slice A160 n161 c162) rfl) ?_
                        refine M_nil (by kernel_rfl) ?_
                        refine W_seq ?_
                        refine W_reg ?_
                        refine L_pu (P_move (.slice A160 n161 c162) rfl) ?_
                        refine L_pu (P_move (.slice A22 n23 c24) rfl) ?_
                        have h170 := Ow.gv (L := [blk (.slice A124 n125 c126), blk (.slice A160 n161 c162), blk (.slice A17 n18 c19), blk (.slice A22 n23 c24)]) (O := O) h166 hc165 (i := 1) rfl
                        have hc171 := hc165.drop 1 rfl
                        have h173 := (Ow.sd (L := [blk (.slice A124 n125 c126), blk (.slice A160 n161 c162), blk (.slice A17 n18 c19), blk (.slice A22 n23 c24)]) (O := O) (Ow.sm (L := [blk (.slice A124 n125 c126), blk (.slice A148 n149 c150), blk (.slice A17 n18 c19), blk (.slice A22 n23 c24)]) (O := O) (Ow.sm (L := [blk (.slice A124 n125 c126), blk (.slice A136 n137 c138), blk (.slice A17 n18 c19), blk (.slice A22 n23 c24)]) (O := O) (Ow.sm (L := [blk (.slice A124 n125 c126), blk (.slice A114 n115 c116), blk (.slice A17 n18 c19), blk (.slice A22 n23 c24)]) (O := O) (((h89.sn g104).so _ g117 hr118).so _ g127 hr128) hc129 (i := 3) rfl (j := 1) rfl (by decide) g139 s140) hc141 (i := 3) rfl (j := 1) rfl (by decide) g151 s152) hc153 (i := 3) rfl (j := 1) rfl (by decide) g163 s164) (i := 3) rfl (j := 1) rfl (by decide))
                        have h174 := Ow.gv (L := [blk (.slice A124 n125 c126), blk (.slice A17 n18 c19), blk (.slice A22 n23 c24)]) (O := O) h173 hc171 (i := 2) rfl
                        have hc175 := hc171.drop 2 rfl
                        have h177 := (h170.st (.dr _ (L := [blk (.slice A124 n125 c126), blk (.slice A17 n18 c19), blk (.slice A22 n23 c24)]) (O := O) (j := 2) rfl))
                        refine L_call go25 [.slice A160 n161 c162, .slice A22 n23 c24] rfl ((impl_SeqLong.calls w159 hc175.ok (((([] : List Pt) ++ ((r.drop (0 : Int).toNat).take (((more.length : Int) % ((r.length : Int) + 1)).toNat - (0 : Int).toNat))) ++ ([(⟨1, 1⟩ : Pt)] : List Pt)) ++ ((r.drop ((more.length : Int) % ((r.length : Int) + 1)).toNat).take ((r.length : Int).toNat - ((more.length : Int) % ((r.length : Int) + 1)).toNat))) A160 n161 c162 h177 r2 A22 n23 c24 h174 _ H).mono ?_)
                        rintro _ w178 ⟨r6, rfl, H, g179⟩
                        have hc183 := hc165.k0 g179
                        refine L_pu (P_assign (vi r6) rfl) ?_
                        refine L_nil ?_
                        refine W_seq ?_
                        refine W_reg ?_
                        refine L_lit (kd := kPt) ei33 hc183 ([] : List Pt) (cells := []) rfl (fun _ => by kernel_rfl) fun w184 A185 n186 c187 g188 hr189 hc190 h191 => ?_
                        refine L_pu (P_build (.agg #[vi 9, vi 9]) (fun _ => by kernel_rfl)) ?_
                        refine L_lit (kd := kPt) ei33 hc190 ([(⟨9, 9⟩ : Pt)] : List Pt) (cells := [vi 9, vi 9]) ⟨[vi 9, vi 9], _, rfl, (kPt.mk _ _ (⟨9, 9⟩ : Pt)), rfl⟩ (fun _ => by kernel_rfl) fun w193 A194 n195 c196 g197 hr198 hc199 h200 => ?_
                        obtain ⟨hb202, H⟩ := H
                        have h203 := (h191.so _ g197 hr198)
                        refine L_app ei33 hc199 (.slice A185 n186 c187) ([] : List Pt) ([(⟨9, 9⟩ : Pt)] : List Pt) rfl h203 (.slice A194 n195 c196) rfl h200.sx 1 rfl hb202 fun w204 A205 n206 c207 g208 s209 hc210 h211 => ?_
                        refine L_pu (P_move (.slice A22 n23 c24) rfl) ?_
                        have h213 := (Ow.sm (L := [blk (.slice A194 n195 c196), blk (.slice A185 n186 c187), blk (.slice A124 n125 c126), blk (.slice A160 n161 c162), blk (.slice A17 n18 c19), blk (.slice A22 n23 c24)]) (O := O) ((((Ow.sm (L := [blk (.slice A124 n125 c126), blk (.slice A148 n149 c150), blk (.slice A17 n18 c19), blk (.slice A22 n23 c24)]) (O := O) (Ow.sm (L := [blk (.slice A124 n125 c126), blk (.slice A136 n137 c138), blk (.slice A17 n18 c19), blk (.slice A22 n23 c24)]) (O := O) (Ow.sm (L := [blk (.slice A124 n125 c126), blk (.slice A114 n115 c116), blk (.slice A17 n18 c19), blk (.slice A22 n23 c24)]) (O := O) (((h89.sn g104).so _ g117 hr118).so _ g127 hr128) hc129 (i := 3) rfl (j := 1) rfl (by decide) g139 s140) hc141 (i := 3) rfl (j := 1) rfl (by decide) g151 s152) hc153 (i := 3) rfl (j := 1) rfl (by decide) g163 s164).sn g179).so _ g188 hr189).so _ g197 hr198) hc199 (i := 5) rfl (j := 1) rfl (by decide) g208 s209)
                        obtain ⟨hb214, H⟩ := H
                        refine L_app ei33 hc210 (.slice A205 n206 c207) (([] : List Pt) ++ ([(⟨9, 9⟩ : Pt)] : List Pt)) r2 rfl h211 (.slice A22 n23 c24) rfl h213.sx 1 rfl hb214 fun w215 A216 n217 c218 g219 s220 hc221 h222 => ?_
                        refine L_pu (P_assign (.slice A216 n217 c218) rfl) ?_
                        refine L_nil ?_
                        refine W_seq ?_
                        refine W_reg ?_
                        refine L_pu (P_move (vi r6) rfl) ?_
                        refine L_pu (P_move (vi r3) rfl) ?_
                        refine L_pu (P_cmp r6 r3 (decide (r6 ≥ r3)) rfl rfl rfl) ?_
                        refine L_pu (P_move (vb (decide (r6 ≥ r3))) rfl) ?_
                        rcases bool_or (decide (r6 ≥ r3)) with hq224 | hq224
                        · have H := ite_t H hq224
                          refine L_run (dj := 94) rfl rfl (by exact congrArg Value.bool hq224) ?_
                          refine L_pu (P_move (vi r6) rfl) ?_
                          refine L_run (dj := 94) rfl rfl (by exact congrArg Value.bool hq224) ?_
                          refine L_pu (P_move (vi r3) rfl) ?_
                          refine L_run (dj := 94) rfl rfl (by exact congrArg Value.bool hq224) ?_
                          obtain ⟨hb225, H⟩ := H
                          have hi226 := hb225 (len_le hl11) (len_le hl13) (len_le hl85) (len_le hl90)
                          refine L_pu (P_add r3 1 rfl rfl hi226) ?_
                          refine L_run (dj := 94) rfl rfl (by exact congrArg Value.bool hq224) ?_
                          refine L_pu (P_cmp r6 (r3 + 1) (decide (r6 ≤ r3 + 1)) rfl rfl rfl) ?_
                          refine L_pu (P_pick true (vb (decide (r6 ≤ r3 + 1))) (by exact congrArg Value.bool hq224) rfl) ?_
                          refine L_pu (P_move (vb (decide (r6 ≤ r3 + 1))) rfl) ?_
                          rcases bool_or (decide (r6 ≤ r3 + 1)) with hq227 | hq227
                          · have H := ite_t H hq227
                            refine L_run (dj := 100) rfl rfl (by exact congrArg Value.bool hq227) ?_
                            refine L_pu (P_move (.slice A22 n23 c24) rfl) ?_
                            refine L_run (dj := 100) rfl rfl (by exact congrArg Value.bool hq227) ?_
                            have h228 := (Ow.sm (L := [blk (.slice A194 n195 c196), blk (.slice A205 n206 c207), blk (.slice A124 n125 c126), blk (.slice A160 n161 c162), blk (.slice A17 n18 c19), blk (.slice A22 n23 c24)]) (O := O) h213 hc210 (i := 5) rfl (j := 1) rfl (by decide) g219 s220)
                            refine L_pu (P_len Try.underlying33 A22 n23 c24 h228.len rfl) ?_
                            refine L_run (dj := 100) rfl rfl (by exact congrArg Value.bool hq227) ?_
                            refine L_pu (P_cmp (r2.length : Int) 12 (decide ((r2.length : Int) ≥ 12)) rfl rfl rfl) ?_
                            refine L_run (dj := 100) rfl rfl (by exact congrArg Value.bool hq227) ?_
                            refine L_pu (P_move (vb (decide ((r2.length : Int) ≥ 12))) rfl) ?_
                            rcases bool_or (decide ((r2.length : Int) ≥ 12)) with hq229 | hq229
                            · have H := ite_t H hq229
                              refine L_pass (dj := 104) rfl rfl (.inl (by exact congrArg Value.bool hq229)) ?_
                              refine L_pass (dj := 104) rfl rfl (.inl (by exact congrArg Value.bool hq229)) ?_
                              refine L_pass (dj := 104) rfl rfl (.inl (by exact congrArg Value.bool hq229)) ?_
                              refine L_pass (dj := 104) rfl rfl (.inl (by exact congrArg Value.bool hq229)) ?_
                              refine L_pass (dj := 104) rfl rfl (.inl (by exact congrArg Value.bool hq229)) ?_
                              refine L_pass (dj := 104) rfl rfl (.inl (by exact congrArg Value.bool hq229)) ?_
                              refine L_pass (dj := 104) rfl rfl (.inl (by exact congrArg Value.bool hq229)) ?_
                              refine L_pass (dj := 104) rfl rfl (.inl (by exact congrArg Value.bool hq229)) ?_
                              refine L_pass (dj := 104) rfl rfl (.inl (by exact congrArg Value.bool hq229)) ?_
                              refine L_run (dj := 100) rfl rfl (by exact congrArg Value.bool hq227) ?_
                              refine L_pu (P_pick true (vb true) (by exact congrArg Value.bool hq229) rfl) ?_
                              refine L_pu (P_pick true (vb true) (by exact congrArg Value.bool hq227) rfl) ?_
                              refine L_pu (P_assign (vb true) rfl) ?_
                              refine L_nil ?_
                              refine W_ret ?_
                              have hc230 := hc221.drop 0 rfl
                              have hc231 := hc230.drop 0 rfl
                              have hc232 := hc231.drop 0 rfl
                              have hc233 := hc232.drop 0 rfl
                              have hc234 := hc233.drop 0 rfl
                              have hc235 := hc234.drop 0 rfl
                              exact ⟨[vb true], ⟨_, rfl, rfl⟩, true, rfl, H, hc235.gr⟩
                            · have H := ite_f H hq229
                              refine L_run (dj := 104) rfl rfl (by exact congrArg Value.bool hq229) ?_
                              refine L_pu (P_build (.agg #[vi 9, vi 9]) (fun _ => by kernel_rfl)) ?_
                              refine L_run (dj := 104) rfl rfl (by exact congrArg Value.bool hq229) ?_
                              refine L_lit (kd := kPt) ei33 hc221 ([(⟨9, 9⟩ : Pt)] : List Pt) (cells := [vi 9, vi 9]) ⟨[vi 9, vi 9], _, rfl, (kPt.mk _ _ (⟨9, 9⟩ : Pt)), rfl⟩ (fun _ => by kernel_rfl) fun w236 A237 n238 c239 g240 hr241 hc242 h243 => ?_
                              refine L_run (dj := 104) rfl rfl (by exact congrArg Value.bool hq229) ?_
                              refine L_pu (P_move (.slice A17 n18 c19) rfl) ?_
                              refine L_run (dj := 104) rfl rfl (by exact congrArg Value.bool hq229) ?_
                              have h245 := ((Ow.sm (L := [blk (.slice A194 n195 c196), blk (.slice A205 n206 c207), blk (.slice A124 n125 c126), blk (.slice A160 n161 c162), blk (.slice A17 n18 c19), blk (.slice A22 n23 c24)]) (O := O) (Ow.sm (L := [blk (.slice A194 n195 c196), blk (.slice A185 n186 c187), blk (.slice A124 n125 c126), blk (.slice A160 n161 c162), blk (.slice A17 n18 c19), blk (.slice A22 n23 c24)]) (O := O) ((((Ow.sm (L := [blk (.slice A124 n125 c126), blk (.slice A148 n149 c150), blk (.slice A17 n18 c19), blk (.slice A22 n23 c24)]) (O := O) h158 hc153 (i := 2) rfl (j := 1) rfl (by decide) g163 s164).sn g179).so _ g188 hr189).so _ g197 hr198) hc199 (i := 4) rfl (j := 1) rfl (by decide) g208 s209) hc210 (i := 4) rfl (j := 1) rfl (by decide) g219 s220).so _ g240 hr241)
                              obtain ⟨hb246, H⟩ := H
                              refine L_app ei33 hc242 (.slice A237 n238 c239) ([(⟨9, 9⟩ : Pt)] : List Pt) r rfl h243 (.slice A17 n18 c19) rfl h245.sx 0 rfl hb246 fun w247 A248 n249 c250 g251 s252 hc253 h254 => ?_
                              refine L_run (dj := 104) rfl rfl (by exact congrArg Value.bool hq229) ?_
                              refine L_pu (P_move (.slice A216 n217 c218) rfl) ?_
                              refine L_run (dj := 104) rfl rfl (by exact congrArg Value.bool hq229) ?_
                              have h256 := Ow.gv (L := [blk (.slice A248 n249 c250), blk (.slice A194 n195 c196), blk (.slice A216 n217 c218), blk (.slice A124 n125 c126), blk (.slice A160 n161 c162), blk (.slice A17 n18 c19), blk (.slice A22 n23 c24)]) (O := O) h254 hc253 (i := 0) rfl
                              have hc257 := hc253.drop 0 rfl
                              have h259 := (Ow.sd (L := [blk (.slice A248 n249 c250), blk (.slice A194 n195 c196), blk (.slice A216 n217 c218), blk (.slice A124 n125 c126), blk (.slice A160 n161 c162), blk (.slice A17 n18 c19), blk (.slice A22 n23 c24)]) (O := O) (Ow.sm (L := [blk (.slice A237 n238 c239), blk (.slice A194 n195 c196), blk (.slice A216 n217 c218), blk (.slice A124 n125 c126), blk (.slice A160 n161 c162), blk (.slice A17 n18 c19), blk (.slice A22 n23 c24)]) (O := O) (h222.so _ g240 hr241) hc242 (i := 2) rfl (j := 0) rfl (by decide) g251 s252) (i := 2) rfl (j := 0) rfl (by decide))
                              have h260 := Ow.gv (L := [blk (.slice A194 n195 c196), blk (.slice A216 n217 c218), blk (.slice A124 n125 c126), blk (.slice A160 n161 c162), blk (.slice A17 n18 c19), blk (.slice A22 n23 c24)]) (O := O) h259 hc257 (i := 1) rfl
                              have hc261 := hc257.drop 1 rfl
                              have h263 := (h256.st (.dr _ (L := [blk (.slice A194 n195 c196), blk (.slice A216 n217 c218), blk (.slice A124 n125 c126), blk (.slice A160 n161 c162), blk (.slice A17 n18 c19), blk (.slice A22 n23 c24)]) (O := O) (j := 1) rfl))
                              refine L_call go25 [.slice A248 n249 c250, .slice A216 n217 c218] rfl ((impl_SeqLong.calls w247 hc261.ok (([(⟨9, 9⟩ : Pt)] : List Pt) ++ r) A248 n249 c250 h263 ((([] : List Pt) ++ ([(⟨9, 9⟩ : Pt)] : List Pt)) ++ r2) A216 n217 c218 h260 _ H).mono ?_)
                              rintro _ w264 ⟨r7, rfl, H, g265⟩
                              have hc269 := hc253.k0 g265
                              refine L_run (dj := 104) rfl rfl (by exact congrArg Value.bool hq229) ?_
                              refine L_pu (P_move (vi r3) rfl) ?_
                              refine L_run (dj := 104) rfl rfl (by exact congrArg Value.bool hq229) ?_
                              obtain ⟨hb270, H⟩ := H
                              have hi271 := hb270 (len_le hl11) (len_le hl13) (len_le hl85) (len_le hl90)
                              refine L_pu (P_add r3 1 rfl rfl hi271) ?_
                              refine L_run (dj := 104) rfl rfl (by exact congrArg Value.bool hq229) ?_
                              refine L_pu (P_cmp r7 (r3 + 1) (r7 == (r3 + 1)) rfl rfl rfl) ?_
                              refine L_run (dj := 100) rfl rfl (by exact congrArg Value.bool hq227) ?_
                              refine L_pu (P_pick false (vb (r7 == (r3 + 1))) (by exact congrArg Value.bool hq229) rfl) ?_
                              refine L_pu (P_pick true (vb (r7 == (r3 + 1))) (by exact congrArg Value.bool hq227) rfl) ?_
                              refine L_pu (P_assign (vb (r7 == (r3 + 1))) rfl) ?_
                              refine L_nil ?_
                              refine W_ret ?_
                              have hc272 := hc269.drop 0 rfl
                              have hc273 := hc272.drop 0 rfl
                              have hc274 := hc273.drop 0 rfl
                              have hc275 := hc274.drop 0 rfl
                              have hc276 := hc275.drop 0 rfl
                              have hc277 := hc276.drop 0 rfl
                              have hc278 := hc277.drop 0 rfl
                              exact ⟨[vb (r7 == (r3 + 1))], ⟨_, rfl, rfl⟩, r7 == (r3 + 1), rfl, H, hc278.gr⟩
                          · have H := ite_f H hq227
                            refine L_pass (dj := 100) rfl rfl (.inl (by exact congrArg Value.bool hq227)) ?_
                            refine L_pass (dj := 100) rfl rfl (.inl (by exact congrArg Value.bool hq227)) ?_
                            refine L_pass (dj := 100) rfl rfl (.inl (by exact congrArg Value.bool hq227)) ?_
                            refine L_pass (dj := 100) rfl rfl (.inl (by exact congrArg Value.bool hq227)) ?_
                            refine L_pass (dj := 104) rfl rfl (.inr rfl) ?_
                            refine L_pass (dj := 104) rfl rfl (.inr rfl) ?_
                            refine L_pass (dj := 104) rfl rfl (.inr rfl) ?_
                            refine L_pass (dj := 104) rfl rfl (.inr rfl) ?_
                            refine L_pass (dj := 104) rfl rfl (.inr rfl) ?_
                            refine L_pass (dj := 104) rfl rfl (.inr rfl) ?_
                            refine L_pass (dj := 104) rfl rfl (.inr rfl) ?_
                            refine L_pass (dj := 104) rfl rfl (.inr rfl) ?_
                            refine L_pass (dj := 104) rfl rfl (.inr rfl) ?_
                            refine L_pass (dj := 100) rfl rfl (.inl (by exact congrArg Value.bool hq227)) ?_
                            refine L_pu (P_pick false (vb false) (by exact congrArg Value.bool hq227) rfl) ?_
                            refine L_pu (P_assign (vb false) rfl) ?_
                            refine L_nil ?_
                            refine W_ret ?_
                            have hc279 := hc221.drop 0 rfl
                            have hc280 := hc279.drop 0 rfl
                            have hc281 := hc280.drop 0 rfl
                            have hc282 := hc281.drop 0 rfl
                            have hc283 := hc282.drop 0 rfl
                            have hc284 := hc283.drop 0 rfl
                            exact ⟨[vb false], ⟨_, rfl, rfl⟩, false, rfl, H, hc284.gr⟩
                        · have H := ite_f H hq224
                          refine L_pass (dj := 94) rfl rfl (.inl (by exact congrArg Value.bool hq224)) ?_
                          refine L_pass (dj := 94) rfl rfl (.inl (by exact congrArg Value.bool hq224)) ?_
                          refine L_pass (dj := 94) rfl rfl (.inl (by exact congrArg Value.bool hq224)) ?_
                          refine L_pass (dj := 94) rfl rfl (.inl (by exact congrArg Value.bool hq224)) ?_
                          refine L_pu (P_pick false (vb false) (by exact congrArg Value.bool hq224) rfl) ?_
                          refine L_pu (P_move (vb false) rfl) ?_
                          refine L_pass (dj := 100) rfl rfl (.inl rfl) ?_
                          refine L_pass (dj := 100) rfl rfl (.inl rfl) ?_
                          refine L_pass (dj := 100) rfl rfl (.inl rfl) ?_
                          refine L_pass (dj := 100) rfl rfl (.inl rfl) ?_
                          refine L_pass (dj := 104) rfl rfl (.inr rfl) ?_
                          refine L_pass (dj := 104) rfl rfl (.inr rfl) ?_
                          refine L_pass (dj := 104) rfl rfl (.inr rfl) ?_
                          refine L_pass (dj := 104) rfl rfl (.inr rfl) ?_
                          refine L_pass (dj := 104) rfl rfl (.inr rfl) ?_
                          refine L_pass (dj := 104) rfl rfl (.inr rfl) ?_
                          refine L_pass (dj := 104) rfl rfl (.inr rfl) ?_
                          refine L_pass (dj := 104) rfl rfl (.inr rfl) ?_
                          refine L_pass (dj := 104) rfl rfl (.inr rfl) ?_
                          refine L_pass (dj := 100) rfl rfl (.inl rfl) ?_
                          refine L_pu (P_pick false (vb false) (by exact congrArg Value.bool rfl) rfl) ?_
                          refine L_pu (P_assign (vb false) rfl) ?_
                          refine L_nil ?_
                          refine W_ret ?_
                          have hc285 := hc221.drop 0 rfl
                          have hc286 := hc285.drop 0 rfl
                          have hc287 := hc286.drop 0 rfl
                          have hc288 := hc287.drop 0 rfl
                          have hc289 := hc288.drop 0 rfl
                          have hc290 := hc289.drop 0 rfl
                          exact ⟨[vb false], ⟨_, rfl, rfl⟩, false, rfl, H, hc290.gr⟩
                    · refine L_lit (kd := kPt) ei33 hc106 ([(⟨1, 1⟩ : Pt)] : List Pt) (cells := [vi 1, vi 1]) ⟨[vi 1, vi 1], _, rfl, (kPt.mk _ _ (⟨1, 1⟩ : Pt)), rfl⟩ (fun _ => by kernel_rfl) fun w113 A114 n115 c116 g117 hr118 hc119 h120 => ?_
                      have hM122 := Gr.tm hM105 g117
                      refine L_nil ⟨hM122, ?_⟩
                      refine M_any1 0 (by kernel_rfl) rfl ?_
                      refine L_lit (kd := kPt) ei33 hc119 ([] : List Pt) (cells := []) rfl (fun _ => by kernel_rfl) fun w123 A124 n125 c126 g127 hr128 hc129 h130 => ?_
                      have hM132 := Gr.tm hM122 g127
                      refine L_nil ⟨hM132, ?_⟩
                      refine M_any1 4 (by kernel_rfl) rfl ?_
                      have h133 := ((h112.so _ g117 hr118).so _ g127 hr128)
                      refine L_app ei33 hc129 (.slice A124 n125 c126) ([] : List Pt) ((r.drop (0 : Int).toNat).take (((more.length : Int) % ((r.length : Int) + 1)).toNat - (0 : Int).toNat)) rfl h130 (sliced A17 (0 : Int).toNat ((more.length : Int) % ((r.length : Int) + 1)).toNat c19 2) rfl (h133.sx.cut (0 : Int) ((more.length : Int) % ((r.length : Int) + 1)) hb107) 0 rfl hb109 fun w134 A135 n136 c137 g138 s139 hc140 h141 => ?_
                      have hM142 := Gr.tq hM132 g138 (hv_new hM122 hr128)
                      have hv143 := hv_app (L := [blk (.slice A124 n125 c126), blk (.slice A114 n115 c116), blk (.slice A17 n18 c19), blk (.slice A22 n23 c24)]) (O := O) (i := 0) hM132 rfl (hv_new hM122 hr128) s139 hc140
                      refine L_nil ⟨hM142, ?_⟩
                      refine M_any1 7 (by kernel_rfl) rfl ?_
                      have h145 := (Ow.sm (L := [blk (.slice A124 n125 c126), blk (.slice A114 n115 c116), blk (.slice A17 n18 c19), blk (.slice A22 n23 c24)]) (O := O) (h120.so _ g127 hr128) hc129 (i := 1) rfl (j := 0) rfl (by decide) g138 s139)
                      refine L_app ei33 hc140 (.slice A135 n136 c137) (([] : List Pt) ++ ((r.drop (0 : Int).toNat).take (((more.length : Int) % ((r.length : Int) + 1)).toNat - (0 : Int).toNat))) ([(⟨1, 1⟩ : Pt)] : List Pt) rfl h141 (.slice A114 n115 c116) rfl h145.sx 0 rfl hb110 fun w146 A147 n148 c149 g150 s151 hc152 h153 => ?_
                      have hM154 := Gr.tq hM142 g150 hv143
                      have hv155 := hv_app (L := [blk (.slice A135 n136 c137), blk (.slice A114 n115 c116), blk (.slice A17 n18 c19), blk (.slice A22 n23 c24)]) (O := O) (i := 0) hM142 rfl hv143 s151 hc152
                      refine L_nil ⟨hM154, ?_⟩
                      refine M_any1 11 (by kernel_rfl) rfl ?_
                      have h157 := (Ow.sm (L := [blk (.slice A135 n136 c137), blk (.slice A114 n115 c116), blk (.slice A17 n18 c19), blk (.slice A22 n23 c24)]) (O := O) (Ow.sm (L := [blk (.slice A124 n125 c126), blk (.slice A114 n115 c116), blk (.slice A17 n18 c19), blk (.slice A22 n23 c24)]) (O := O) h133 hc129 (i := 2) rfl (j := 0) rfl (by decide) g138 s139) hc140 (i := 2) rfl (j := 0) rfl (by decide) g150 s151)
                      refine L_app ei33 hc152 (.slice A147 n148 c149) ((([] : List Pt) ++ ((r.drop (0 : Int).toNat).take (((more.length : Int) % ((r.length : Int) + 1)).toNat - (0 : Int).toNat))) ++ ([(⟨1, 1⟩ : Pt)] : List Pt)) ((r.drop ((more.length : Int) % ((r.length : Int) + 1)).toNat).take ((r.length : Int).toNat - ((more.length : Int) % ((r.length : Int) + 1)).toNat)) rfl h153 (sliced A17 ((more.length : Int) % ((r.length : Int) + 1)).toNat (r.length : Int).toNat c19 2) rfl (h157.sx.cut ((more.length : Int) % ((r.length : Int) + 1)) (r.length : Int) hb108) 0 rfl hb111 fun w158 A159 n160 c161 g162 s163 hc164 h165 => ?_
                      have hM166 := Gr.tq hM154 g162 hv155
                      have hv167 := hv_app (L := [blk (.slice A147 n148 c149), blk (.slice A114 n115 c116), blk (.slice A17 n18 c19), blk (.slice A22 n23 c24)]) (O := O) (i := 0) hM154 rfl hv155 s163 hc164
                      refine L_nil ⟨hM166, ?_⟩
                      refine M_pu 12 rfl (by kernel_rfl) hM166 (P_assign (.slice A159 n160 c161) rfl) ?_
                      refine M_nil (by kernel_rfl) ?_
                      refine W_seq ?_
                      refine W_reg ?_
                      refine L_pu (P_move (.slice A159 n160 c161) rfl) ?_
                      refine L_pu (P_move (.slice A22 n23 c24) rfl) ?_
                      have h169 := Ow.gv (L := [blk (.slice A159 n160 c161), blk (.slice A114 n115 c116), blk (.slice A17 n18 c19), blk (.slice A22 n23 c24)]) (O := O) h165 hc164 (i := 0) rfl
                      have hc170 := hc164.drop 0 rfl
                      have h172 := (Ow.sd (L := [blk (.slice A159 n160 c161), blk (.slice A114 n115 c116), blk (.slice A17 n18 c19), blk (.slice A22 n23 c24)]) (O := O) (Ow.sm (L := [blk (.slice A147 n148 c149), blk (.slice A114 n115 c116), blk (.slice A17 n18 c19), blk (.slice A22 n23 c24)]) (O := O) (Ow.sm (L := [blk (.slice A135 n136 c137), blk (.slice A114 n115 c116), blk (.slice A17 n18 c19), blk (.slice A22 n23 c24)]) (O := O) (Ow.sm (L := [blk (.slice A124 n125 c126), blk (.slice A114 n115 c116), blk (.slice A17 n18 c19), blk (.slice A22 n23 c24)]) (O := O) (((h89.sn g104).so _ g117 hr118).so _ g127 hr128) hc129 (i := 3) rfl (j := 0) rfl (by decide) g138 s139) hc140 (i := 3) rfl (j := 0) rfl (by decide) g150 s151) hc152 (i := 3) rfl (j := 0) rfl (by decide) g162 s163) (i := 3) rfl (j := 0) rfl (by decide))
                      have h173 := Ow.gv (L := [blk (.slice A114 n115 c116), blk (.slice A17 n18 c19), blk (.slice A22 n23 c24)]) (O := O) h172 hc170 (i := 2) rfl
                      have hc174 := hc170.drop 2 rfl
                      have h176 := (h169.st (.dr _ (L := [blk (.slice A114 n115 c116), blk (.slice A17 n18 c19), blk (.slice A22 n23 c24)]) (O := O) (j := 2) rfl))
                      refine L_call go25 [.slice A159 n160 c161, .slice A22 n23 c24] rfl ((impl_SeqLong.calls w158 hc174.ok (((([] : List Pt) ++ ((r.drop (0 : Int).toNat).take (((more.length : Int) % ((r.length : Int) + 1)).toNat - (0 : Int).toNat))) ++ ([(⟨1, 1⟩ : Pt)] : List Pt)) ++ ((r.drop ((more.length : Int) % ((r.length : Int) + 1)).toNat).take ((r.length : Int).toNat - ((more.length : Int) % ((r.length : Int) + 1)).toNat))) A159 n160 c161 h176 r2 A22 n23 c24 h173 _ H).mono ?_)
                      rintro _ w177 ⟨r6, rfl, H, g178⟩
                      have hc182 := hc164.k0 g178
                      refine L_pu (P_assign (vi r6) rfl) ?_
                      refine L_nil ?_
                      refine W_seq ?_
                      refine W_reg ?_
                      refine L_lit (kd := kPt) ei33 hc182 ([] : List Pt) (cells := []) rfl (fun _ => by kernel_rfl) fun w183 A184 n185 c186 g187 hr188 hc189 h190 => ?_
                      refine L_pu (P_build (.agg #[vi 9, vi 9]) (fun _ => by kernel_rfl)) ?_
                      refine L_lit (kd := kPt) ei33 hc189 ([(⟨9, 9⟩ : Pt)] : List Pt) (cells := [vi 9, vi 9]) ⟨[vi 9, vi 9], _, rfl, (kPt.mk _ _ (⟨9, 9⟩ : Pt)), rfl⟩ (fun _ => by kernel_rfl) fun w192 A193 n194 c195 g196 hr197 hc198 h199 => ?_
                      obtain ⟨hb201, H⟩ := H
                      have h202 := (h190.so _ g196 hr197)
                      refine L_app ei33 hc198 (.slice A184 n185 c186) ([] : List Pt) ([(⟨9, 9⟩ : Pt)] : List Pt) rfl h202 (.slice A193 n194 c195) rfl h199.sx 1 rfl hb201 fun w203 A204 n205 c206 g207 s208 hc209 h210 => ?_
                      refine L_pu (P_move (.slice A22 n23 c24) rfl) ?_
                      have h212 := (Ow.sm (L := [blk (.slice A193 n194 c195), blk (.slice A184 n185 c186), blk (.slice A159 n160 c161), blk (.slice A114 n115 c116), blk (.slice A17 n18 c19), blk (.slice A22 n23 c24)]) (O := O) ((((Ow.sm (L := [blk (.slice A147 n148 c149), blk (.slice A114 n115 c116), blk (.slice A17 n18 c19), blk (.slice A22 n23 c24)]) (O := O) (Ow.sm (L := [blk (.slice A135 n136 c137), blk (.slice A114 n115 c116), blk (.slice A17 n18 c19), blk (.slice A22 n23 c24)]) (O := O) (Ow.sm (L := [blk (.slice A124 n125 c126), blk (.slice A114 n115 c116), blk (.slice A17 n18 c19), blk (.slice A22 n23 c24)]) (O := O) (((h89.sn g104).so _ g117 hr118).so _ g127 hr128) hc129 (i := 3) rfl (j := 0) rfl (by decide) g138 s139) hc140 (i := 3) rfl (j := 0) rfl (by decide) g150 s151) hc152 (i := 3) rfl (j := 0) rfl (by decide) g162 s163).sn g178).so _ g187 hr188).so _ g196 hr197) hc198 (i := 5) rfl (j := 1) rfl (by decide) g207 s208)
                      obtain ⟨hb213, H⟩ := H
                      refine L_app ei33 hc209 (.slice A204 n205 c206) (([] : List Pt) ++ ([(⟨9, 9⟩ : Pt)] : List Pt)) r2 rfl h210 (.slice A22 n23 c24) rfl h212.sx 1 rfl hb213 fun w214 A215 n216 c217 g218 s219 hc220 h221 => ?_
                      refine L_pu (P_assign (.slice A215 n216 c217) rfl) ?_
                      refine L_nil ?_
                      refine W_seq ?_
                      refine W_reg ?_
                      refine L_pu (P_move (vi r6) rfl) ?_
                      refine L_pu (P_move (vi r3) rfl) ?_
                      refine L_pu (P_cmp r6 r3 (decide (r6 ≥ r3)) rfl rfl rfl) ?_
                      refine L_pu (P_move (vb (decide (r6 ≥ r3))) rfl) ?_
                      rcases bool_or (decide (r6 ≥ r3)) with hq223 | hq223
                      · have H := ite_t H hq223
                        refine L_run (dj := 94) rfl rfl (by exact congrArg Value.bool hq223) ?_
                        refine L_pu (P_move (vi r6) rfl) ?_
                        refine L_run (dj := 94) rfl rfl (by exact congrArg Value.bool hq223) ?_
                        refine L_pu (P_move (vi r3) rfl) ?_
                        refine L_run (dj := 94) rfl rfl (by exact congrArg Value.bool hq223) ?_
                        obtain ⟨hb224, H⟩ := H
                        have hi225 := hb224 (len_le hl11) (len_le hl13) (len_le hl85) (len_le hl90)
                        refine L_pu (P_add r3 1 rfl rfl hi225) ?_
                        refine L_run (dj := 94) rfl rfl (by exact congrArg Value.bool hq223) ?_
                        refine L_pu (P_cmp r6 (r3 + 1) (decide (r6 ≤ r3 + 1)) rfl rfl rfl) ?_
                        refine L_pu (P_pick true (vb (decide (r6 ≤ r3 + 1))) (by exact congrArg Value.bool hq223) rfl) ?_
                        refine L_pu (P_move (vb (decide (r6 ≤ r3 + 1))) rfl) ?_
                        rcases bool_or (decide (r6 ≤ r3 + 1)) with hq226 | hq226
                        · have H := ite_t H hq226
                          refine L_run (dj := 100) rfl rfl (by exact congrArg Value.bool hq226) ?_
                          refine L_pu (P_move (.slice A22 n23 c24) rfl) ?_
                          refine L_run (dj := 100) rfl rfl (by exact congrArg Value.bool hq226) ?_
                          have h227 := (Ow.sm (L := [blk (.slice A193 n194 c195), blk (.slice A204 n205 c206), blk (.slice A159 n160 c161), blk (.slice A114 n115 c116), blk (.slice A17 n18 c19), blk (.slice A22 n23 c24)]) (O := O) h212 hc209 (i := 5) rfl (j := 1) rfl (by decide) g218 s219)
                          refine L_pu (P_len Try.underlying33 A22 n23 c24 h227.len rfl) ?_
                          refine L_run (dj := 100) rfl rfl (by exact congrArg Value.bool hq226) ?_
                          refine L_pu (P_cmp (r2.length : Int) 12 (decide ((r2.length : Int) ≥ 12)) rfl rfl rfl) ?_
                          refine L_run (dj := 100) rfl rfl (by exact congrArg Value.bool hq226) ?_
                          refine L_pu (P_move (vb (decide ((r2.length : Int) ≥ 12))) rfl) ?_
                          rcases bool_or (decide ((r2.length : Int) ≥ 12)) with hq228 | hq228
                          · have H := ite_t H hq228
                            refine L_pass (dj := 104) rfl rfl (.inl (by exact congrArg Value.bool hq228)) ?_
                            refine L_pass (dj := 104) rfl rfl (.inl (by exact congrArg Value.bool hq228)) ?_
                            refine L_pass (dj := 104) rfl rfl (.inl (by exact congrArg Value.bool hq228)) ?_
                            refine L_pass (dj := 104) rfl rfl (.inl (by exact congrArg Value.bool hq228)) ?_
                            refine L_pass (dj := 104) rfl rfl (.inl (by exact congrArg Value.bool hq228)) ?_
                            refine L_pass (dj := 104) rfl rfl (.inl (by exact congrArg Value.bool hq228)) ?_
                            refine L_pass (dj := 104) rfl rfl (.inl (by exact congrArg Value.bool hq228)) ?_
                            refine L_pass (dj := 104) rfl rfl (.inl (by exact congrArg Value.bool hq228)) ?_
                            refine L_pass (dj := 104) rfl rfl (.inl (by exact congrArg Value.bool hq228)) ?_
                            refine L_run (dj := 100) rfl rfl (by exact congrArg Value.bool hq226) ?_
                            refine L_pu (P_pick true (vb true) (by exact congrArg Value.bool hq228) rfl) ?_
                            refine L_pu (P_pick true (vb true) (by exact congrArg Value.bool hq226) rfl) ?_
                            refine L_pu (P_assign (vb true) rfl) ?_
                            refine L_nil ?_
                            refine W_ret ?_
                            have hc229 := hc220.drop 0 rfl
                            have hc230 := hc229.drop 0 rfl
                            have hc231 := hc230.drop 0 rfl
                            have hc232 := hc231.drop 0 rfl
                            have hc233 := hc232.drop 0 rfl
                            have hc234 := hc233.drop 0 rfl
                            exact ⟨[vb true], ⟨_, rfl, rfl⟩, true, rfl, H, hc234.gr⟩
                          · have H := ite_f H hq228
                            refine L_run (dj := 104) rfl rfl (by exact congrArg Value.bool hq228) ?_
                            refine L_pu (P_build (.agg #[vi 9, vi 9]) (fun _ => by kernel_rfl)) ?_
                            refine L_run (dj := 104) rfl rfl (by exact congrArg Value.bool hq228) ?_
                            refine L_lit (kd := kPt) ei33 hc220 ([(⟨9, 9⟩ : Pt)] : List Pt) (cells := [vi 9, vi 9]) ⟨[vi 9, vi 9], _, rfl, (kPt.mk _ _ (⟨9, 9⟩ : Pt)), rfl⟩ (fun _ => by kernel_rfl) fun w235 A236 n237 c238 g239 hr240 hc241 h242 => ?_
                            refine L_run (dj := 104) rfl rfl (by exact congrArg Value.bool hq228) ?_
                            refine L_pu (P_move (.slice A17 n18 c19) rfl) ?_
                            refine L_run (dj := 104) rfl rfl (by exact congrArg Value.bool hq228) ?_
                            have h244 := ((Ow.sm (L := [blk (.slice A193 n194 c195), blk (.slice A204 n205 c206), blk (.slice A159 n160 c161), blk (.slice A114 n115 c116), blk (.slice A17 n18 c19), blk (.slice A22 n23 c24)]) (O := O) (Ow.sm (L := [blk (.slice A193 n194 c195), blk (.slice A184 n185 c186), blk (.slice A159 n160 c161), blk (.slice A114 n115 c116), blk (.slice A17 n18 c19), blk (.slice A22 n23 c24)]) (O := O) ((((Ow.sm (L := [blk (.slice A147 n148 c149), blk (.slice A114 n115 c116), blk (.slice A17 n18 c19), blk (.slice A22 n23 c24)]) (O := O) h157 hc152 (i := 2) rfl (j := 0) rfl (by decide) g162 s163).sn g178).so _ g187 hr188).so _ g196 hr197) hc198 (i := 4) rfl (j := 1) rfl (by decide) g207 s208) hc209 (i := 4) rfl (j := 1) rfl (by decide) g218 s219).so _ g239 hr240)
                            obtain ⟨hb245, H⟩ := H
                            refine L_app ei33 hc241 (.slice A236 n237 c238) ([(⟨9, 9⟩ : Pt)] : List Pt) r rfl h242 (.slice A17 n18 c19) rfl h244.sx 0 rfl hb245 fun w246 A247 n248 c249 g250 s251 hc252 h253 => ?_
                            refine L_run (dj := 104) rfl rfl (by exact congrArg Value.bool hq228) ?_
                            refine L_pu (P_move (.slice A215 n216 c217) rfl) ?_
                            refine L_run (dj := 104) rfl rfl (by exact congrArg Value.bool hq228) ?_
                            have h255 := Ow.gv (L := [blk (.slice A247 n248 c249), blk (.slice A193 n194 c195), blk (.slice A215 n216 c217), blk (.slice A159 n160 c161), blk (.slice A114 n115 c116), blk (.slice A17 n18 c19), blk (.slice A22 n23 c24)]) (O := O) h253 hc252 (i := 0) rfl
                            have hc256 := hc252.drop 0 rfl
                            have h258 := (Ow.sd (L := [blk (.slice A247 n248 c249), blk (.slice A193 n194 c195), blk (.slice A215 n216 c217), blk (.slice A159 n160 c161), blk (.slice A114 n115 c116), blk (.slice A17 n18 c19), blk (.slice A22 n23 c24)]) (O := O) (Ow.sm (L := [blk (.slice A236 n237 c238), blk (.slice A193 n194 c195), blk (.slice A215 n216 c217), blk (.slice A159 n160 c161), blk (.slice A114 n115 c116), blk (.slice A17 n18 c19), blk (.slice A22 n23 c24)]) (O := O) (h221.so _ g239 hr240) hc241 (i := 2) rfl (j := 0) rfl (by decide) g250 s251) (i := 2) rfl (j := 0) rfl (by decide))
                            have h259 := Ow.gv (L := [blk (.slice A193 n194 c195), blk (.slice A215 n216 c217), blk (.slice A159 n160 c161), blk (.slice A114 n115 c116), blk (.slice A17 n18 c19), blk (.slice A22 n23 c24)]) (O := O) h258 hc256 (i := 1) rfl
                            have hc260 := hc256.drop 1 rfl
                            have h262 := (h255.st (.dr _ (L := [blk (.slice A193 n194 c195), blk (.slice A215 n216 c217), blk (.slice A159 n160 c161), blk (.slice A114 n115 c116), blk (.slice A17 n18 c19), blk (.slice A22 n23 c24)]) (O := O) (j := 1) rfl))
                            refine L_call go25 [.slice A247 n248 c249, .slice A215 n216 c217] rfl ((impl_SeqLong.calls w246 hc260.ok (([(⟨9, 9⟩ : Pt)] : List Pt) ++ r) A247 n248 c249 h262 ((([] : List Pt) ++ ([(⟨9, 9⟩ : Pt)] : List Pt)) ++ r2) A215 n216 c217 h259 _ H).mono ?_)
                            rintro _ w263 ⟨r7, rfl, H, g264⟩
                            have hc268 := hc252.k0 g264
                            refine L_run (dj := 104) rfl rfl (by exact congrArg Value.bool hq228) ?_
                            refine L_pu (P_move (vi r3) rfl) ?_
                            refine L_run (dj := 104) rfl rfl (by exact congrArg Value.bool hq228) ?_
                            obtain ⟨hb269, H⟩ := H
                            have hi270 := hb269 (len_le hl11) (len_le hl13) (len_le hl85) (len_le hl90)
                            refine L_pu (P_add r3 1 rfl rfl hi270) ?_
                            refine L_run (dj := 104) rfl rfl (by exact congrArg Value.bool hq228) ?_
                            refine L_pu (P_cmp r7 (r3 + 1) (r7 == (r3 + 1)) rfl rfl rfl) ?_
                            refine L_run (dj := 100) rfl rfl (by exact congrArg Value.bool hq226) ?_
                            refine L_pu (P_pick false (vb (r7 == (r3 + 1))) (by exact congrArg Value.bool hq228) rfl) ?_
                            refine L_pu (P_pick true (vb (r7 == (r3 + 1))) (by exact congrArg Value.bool hq226) rfl) ?_
                            refine L_pu (P_assign (vb (r7 == (r3 + 1))) rfl) ?_
                            refine L_nil ?_
                            refine W_ret ?_
                            have hc271 := hc268.drop 0 rfl
                            have hc272 := hc271.drop 0 rfl
                            have hc273 := hc272.drop 0 rfl
                            have hc274 := hc273.drop 0 rfl
                            have hc275 := hc274.drop 0 rfl
                            have hc276 := hc275.drop 0 rfl
                            have hc277 := hc276.drop 0 rfl
                            exact ⟨[vb (r7 == (r3 + 1))], ⟨_, rfl, rfl⟩, r7 == (r3 + 1), rfl, H, hc277.gr⟩
                        · have H := ite_f H hq226
                          refine L_pass (dj := 100) rfl rfl (.inl (by exact congrArg Value.bool hq226)) ?_
                          refine L_pass (dj := 100) rfl rfl (.inl (by exact congrArg Value.bool hq226)) ?_
                          refine L_pass (dj := 100) rfl rfl (.inl (by exact congrArg Value.bool hq226)) ?_
                          refine L_pass (dj := 100) rfl rfl (.inl (by exact congrArg Value.bool hq226)) ?_
                          refine L_pass (dj := 104) rfl rfl (.inr rfl) ?_
                          refine L_pass (dj := 104) rfl rfl (.inr rfl) ?_
                          refine L_pass (dj := 104) rfl rfl (.inr rfl) ?_
                          refine L_pass (dj := 104) rfl rfl (.inr rfl) ?_
                          refine L_pass (dj := 104) rfl rfl (.inr rfl) ?_
                          refine L_pass (dj := 104) rfl rfl (.inr rfl) ?_
                          refine L_pass (dj := 104) rfl rfl (.inr rfl) ?_
                          refine L_pass (dj := 104) rfl rfl (.inr rfl) ?_
                          refine L_pass (dj := 104) rfl rfl (.inr rfl) ?_
                          refine L_pass (dj := 100) rfl rfl (.inl (by exact congrArg Value.bool hq226)) ?_
                          refine L_pu (P_pick false (vb false) (by exact congrArg Value.bool hq226) rfl) ?_
                          refine L_pu (P_assign (vb false) rfl) ?_
                          refine L_nil ?_
                          refine W_ret ?_
                          have hc278 := hc220.drop 0 rfl
                          have hc279 := hc278.drop 0 rfl
                          have hc280 := hc279.drop 0 rfl
                          have hc281 := hc280.drop 0 rfl
                          have hc282 := hc281.drop 0 rfl
                          have hc283 := hc282.drop 0 rfl
                          exact ⟨[vb false], ⟨_, rfl, rfl⟩, false, rfl, H, hc283.gr⟩
                      · have H := ite_f H hq223
                        refine L_pass (dj := 94) rfl rfl (.inl (by exact congrArg Value.bool hq223)) ?_
                        refine L_pass (dj := 94) rfl rfl (.inl (by exact congrArg Value.bool hq223)) ?_
                        refine L_pass (dj := 94) rfl rfl (.inl (by exact congrArg Value.bool hq223)) ?_
                        refine L_pass (dj := 94) rfl rfl (.inl (by exact congrArg Value.bool hq223)) ?_
                        refine L_pu (P_pick false (vb false) (by exact congrArg Value.bool hq223) rfl) ?_
                        refine L_pu (P_move (vb false) rfl) ?_
                        refine L_pass (dj := 100) rfl rfl (.inl rfl) ?_
                        refine L_pass (dj := 100) rfl rfl (.inl rfl) ?_
                        refine L_pass (dj := 100) rfl rfl (.inl rfl) ?_
                        refine L_pass (dj := 100) rfl rfl (.inl rfl) ?_
                        refine L_pass (dj := 104) rfl rfl (.inr rfl) ?_
                        refine L_pass (dj := 104) rfl rfl (.inr rfl) ?_
                        refine L_pass (dj := 104) rfl rfl (.inr rfl) ?_
                        refine L_pass (dj := 104) rfl rfl (.inr rfl) ?_
                        refine L_pass (dj := 104) rfl rfl (.inr rfl) ?_
                        refine L_pass (dj := 104) rfl rfl (.inr rfl) ?_
                        refine L_pass (dj := 104) rfl rfl (.inr rfl) ?_
                        refine L_pass (dj := 104) rfl rfl (.inr rfl) ?_
                        refine L_pass (dj := 104) rfl rfl (.inr rfl) ?_
                        refine L_pass (dj := 100) rfl rfl (.inl rfl) ?_
                        refine L_pu (P_pick false (vb false) (by exact congrArg Value.bool rfl) rfl) ?_
                        refine L_pu (P_assign (vb false) rfl) ?_
                        refine L_nil ?_
                        refine W_ret ?_
                        have hc284 := hc220.drop 0 rfl
                        have hc285 := hc284.drop 0 rfl
                        have hc286 := hc285.drop 0 rfl
                        have hc287 := hc286.drop 0 rfl
                        have hc288 := hc287.drop 0 rfl
                        have hc289 := hc288.drop 0 rfl
                        exact ⟨[vb false], ⟨_, rfl, rfl⟩, false, rfl, H, hc289.gr⟩
end Go.Proofs.Ytnliofcjplnboaa

namespace Go.Proofs.Ytnliofcjplnboaa
set_option linter.unusedVariables false
set_option linter.unusedSimpArgs false
theorem slen_comm (a b : List Pt) : slen a b = slen b a := by
  unfold slen few; rw [Bool.and_comm, lcs_comm]
theorem slen_few {a b : List Pt} (h1 : a.length ≤ 12) (h2 : b.length ≤ 12) : slen a b = (lcs a b : Nat) := by
  unfold slen; rw [if_pos (few_iff.2 ⟨h1, h2⟩)]
theorem laws_FnSeqLong.gen (code more : List UInt8) (Q : Bool → Prop) (hq : Q true) : laws_FnSeqLong.E code more Q := by
  unfold laws_FnSeqLong.E
  by_cases c1 : (code.length : Int) > 1048576
  · rw [if_pos (by simpa using c1)]; exact hq
  rw [if_neg (by simpa using c1)]
  by_cases c2 : (more.length : Int) > 1048576
  · rw [if_pos (by simpa using c2)]; exact hq
  rw [if_neg (by simpa using c2)]
  refine spec_DrawSeqLong.law _ _ fun a b ha hb _ _ => impl_SeqLong.law _ _ _ (spec_SeqLong.law _ _ _ ?_)
  rw [if_neg (by simp)]
  refine impl_SeqLong.law _ _ _ ?_
  have hl := slen_le a b
  rw [if_neg (by rw [slen_comm b a]; simp), if_neg (by simp; omega), if_neg (by simp; omega), if_neg (by simp; omega)]
  by_cases c3 : (a.length : Int) ≥ 12
  · rw [if_pos (by simpa using c3)]; exact hq
  rw [if_neg (by simpa using c3)]
  by_cases c4 : (b.length : Int) > 12
  · rw [if_pos (by simpa using c4)]; exact hq
  rw [if_neg (by simpa using c4)]
  have m1 := Int.emod_nonneg (more.length : Int) (show (a.length : Int) + 1 ≠ 0 by omega)
  have m2 := Int.emod_lt_of_pos (more.length : Int) (show (0 : Int) < (a.length : Int) + 1 by omega)
  generalize (more.length : Int) % ((a.length : Int) + 1) = k at *
  obtain ⟨n, rfl⟩ := Int.eq_ofNat_of_zero_le m1
  have e1 : (a.drop (0 : Int).toNat).take ((n : Int).toNat - (0 : Int).toNat) = a.take n := by simp
  have e2 : (a.drop (n : Int).toNat).take ((a.length : Int).toNat - (n : Int).toNat) = a.drop n := by
    rw [Int.toNat_natCast, Int.toNat_natCast]; exact List.take_of_length_le (by rw [List.length_drop]; omega)
  rw [e1, e2, List.nil_append, List.nil_append]
  have t1 : (a.take n).length = n := by rw [List.length_take]; omega
  have t2 : (a.drop n).length = a.length - n := List.length_drop
  have hc : a.take n ++ a.drop n = a := List.take_append_drop n a
  refine ⟨fun _ _ _ _ => by unfold I64; omega, by omega, by omega, by omega, by simp only [List.length_nil]; omega, by simp only [List.length_singleton]; omega, by simp only [List.length_append, List.length_singleton]; omega, impl_SeqLong.law _ _ _ ?_⟩
  have lt : (a.take n ++ [(⟨1, 1⟩ : Pt)] ++ a.drop n).length = a.length + 1 := by simp only [List.length_append, List.length_singleton]; omega
  have i1 := lcs_insert_le (a.take n) (a.drop n) b ⟨1, 1⟩
  have i2 := lcs_insert (a.take n) (a.drop n) b ⟨1, 1⟩
  rw [hc] at i1 i2
  have ea : a.take n ++ [(⟨1, 1⟩ : Pt)] ++ a.drop n = a.take n ++ ⟨1, 1⟩ :: a.drop n := by simp
  have s1 := slen_few (a := a) (b := b) (by omega) (by omega)
  have s2 := slen_few (a := a.take n ++ [(⟨1, 1⟩ : Pt)] ++ a.drop n) (b := b) (by omega) (by omega)
  rw [← ea] at i1 i2
  refine ⟨by simp, by simp only [List.length_singleton]; omega, ?_⟩
  rw [if_pos (by rw [decide_eq_true_eq]; omega)]
  refine ⟨fun _ _ _ _ => by unfold I64; omega, ?_⟩
  rw [if_pos (by rw [decide_eq_true_eq]; omega)]
  by_cases c5 : (b.length : Int) ≥ 12
  · rw [if_pos (by simpa using c5)]; exact hq
  rw [if_neg (by simpa using c5)]
  refine ⟨by simp only [List.length_singleton]; omega, impl_SeqLong.law _ _ _ ⟨fun _ _ _ _ => by unfold I64; omega, ?_⟩⟩
  have s3 := slen_few (a := [(⟨9, 9⟩ : Pt)] ++ a) (b := [(⟨9, 9⟩ : Pt)] ++ b) (by simp only [List.length_append, List.length_singleton]; omega) (by simp only [List.length_append, List.length_singleton]; omega)
  rw [List.singleton_append, List.singleton_append, lcs_cons, if_pos rfl] at s3
  have : (slen ([(⟨9, 9⟩ : Pt)] ++ a) ([(⟨9, 9⟩ : Pt)] ++ b) == slen a b + 1) = true := by
    rw [List.singleton_append, List.singleton_append, s3, s1]; simp
  rw [this]; exact hq
theorem laws_FnSeqLong.law (code : List UInt8) (_ : ∀ x ∈ code, True) (more : List UInt8) (_ : ∀ x ∈ more, True) : laws_FnSeqLong.E code more (fun r => r = true) := laws_FnSeqLong.gen code more _ rfl
end Go.Proofs.Ytnliofcjplnboaa

namespace Go.Proofs.Ytnliofcjplnboaa.rFnSeqLong
open Go.ChangeShapes Go.WideShapes Go.ChangeAt Go.RowKit
open Go.ChangeMaps (open_string shut_string)
set_option linter.unusedVariables false
theorem own : ownKnob Try.prog.godebug = none := by kernel_rfl
theorem laidOut : laidOutB Try.prog = true := by kernel_rfl
set_option maxRecDepth 100000 in
theorem lifted (os : Os) (started : os.Started) (H : Type) (enc : TypeId × Value → H) :
    ReturnsInHanded {} Try.checked os 6 .any (Rows.fnSeqLongSpec.pre6 enc Try.prog Try.f6 Rows.fnSeqLongRow.domain false) (Rows.fnSeqLongSpec.post enc Try.prog Try.f6 false true false false) := by
  refine returnsInHanded_of_change_sized (C := Try.checked) own started (by kernel_rfl) Try.func6
    (ChangeSpec.witness6 (enc := enc) (C := Try.checked) false ⟨#[], #[.slice none 0 0, .slice none 0 0], []⟩ 8 (by kernel_rfl) (by kernel_rfl) (by kernel_rfl) (by kernel_rfl)) ?_
  intro W base args ds gs before hval0 hW hcnd hsz0 _
  have hval : ∀ (j : Nat) t v, Try.f6.params[j]? = some t → args[j]? = some v → Value.okWide Try.prog W .any base t v := hval0
  have hW' := hW
  obtain ⟨p, q, hA0, hV, rfl, hfz, hnd⟩ := hW
  have hA : DataW.TrodAll enc Try.prog W 0 (fun _ => true) true Try.f6.params.toList args.toList ds p := hA0
  rw [Try.params6] at hA hval
  obtain ⟨v0, vs0, d0, ds0, p0, q0, hargs, rfl, rfl, h0, r0⟩ := trodAll_cons hA
  obtain ⟨v1, vs1, d1, ds1, p1, q1, rfl, rfl, rfl, h1, r1⟩ := trodAll_cons r0
  obtain ⟨rfl, rfl, rfl⟩ := trodAll_nil r1
  obtain rfl : args = #[v0, v1] := by cases args; simp_all
  obtain ⟨rfl, rfl⟩ := trodVars_none hV
  have k0 := h0
  have lt0 : ∀ x ∈ p0, x.block < W.heap.size := by obtain ⟨m, hm⟩ := k0; exact DataW.trod_lt m _ _ _ hm
  obtain ⟨x0, hv0, hx0⟩ : ∃ a : List UInt8, (∀ x ∈ a, True) ∧ (Kd.sl Kd.byte).R W (Fr []) a v0.cells.toList := by obtain ⟨fuel, hf⟩ := h0; exact (Tr.sl Try.underlying37 (by kernel_rfl) (Tr.byte Try.underlying5)) H enc W fuel _ _ hf
  obtain ⟨a0, n0, c0, rfl⟩ := okWide_slice Try.underlying37 (hval 0 37 v0 rfl rfl)
  have s0 : Sl Kd.byte W (Fr []) (.slice a0 n0 c0) x0 := by obtain ⟨_, e, h⟩ := hx0; simp [Value.cells] at e; subst e; exact h
  have k1 := h1
  have lt1 : ∀ x ∈ p1, x.block < W.heap.size := by obtain ⟨m, hm⟩ := k1; exact DataW.trod_lt m _ _ _ hm
  obtain ⟨x1, hv1, hx1⟩ : ∃ a : List UInt8, (∀ x ∈ a, True) ∧ (Kd.sl Kd.byte).R W (Fr []) a v1.cells.toList := by obtain ⟨fuel, hf⟩ := h1; exact (Tr.sl Try.underlying37 (by kernel_rfl) (Tr.byte Try.underlying5)) H enc W fuel _ _ hf
  obtain ⟨a1, n1, c1, rfl⟩ := okWide_slice Try.underlying37 (hval 1 37 v1 rfl rfl)
  have s1 : Sl Kd.byte W (Fr []) (.slice a1 n1 c1) x1 := by obtain ⟨_, e, h⟩ := hx1; simp [Value.cells] at e; subst e; exact h
  clear hA0 hval0 hsz0
  refine Calls.mono (laws_FnSeqLong.calls W (Ok.nil W) x0 a0 n0 c0 s0 x1 a1 n1 c1 s1 (fun r => r = true) (laws_FnSeqLong.law x0 hv0 x1 hv1)) fun e W' ⟨v, he, r, hr, hq, hg⟩ => ?_
  subst he; subst hr; subst hq
  have bel := Gr.below hg
  exact ⟨_, rfl, _, _, _, [], _, [], hW', trodAll_mk1 (shut_bool Try.underlying4 _), (trodAll_cons_mk (Below.trod laidOut (by kernel_rfl) (of_decide_eq_true (by kernel_rfl)) k0 bel lt0) (trodAll_cons_mk (Below.trod laidOut (by kernel_rfl) (of_decide_eq_true (by kernel_rfl)) k1 bel lt1) trodAll_mk0)), rfl, bel.frame _, fun h => by cases h⟩
theorem over : Rows.fnSeqLongRow.holds Try.pinned (OpenSpec.ofChange Rows.fnSeqLongSpec) :=
  OpenClaim.holds_of_wide 6 Try.f6 rfl rfl rfl rfl rfl rfl rfl ⟨rfl, rfl, rfl, rfl, rfl⟩ rfl rfl rfl rfl rfl (by kernel_rfl) Try.func6 (by kernel_rfl)
    (of_decide_eq_true (by kernel_rfl)) (by unfold Func.isWrapper; first | (rw [if_pos (by decide +kernel)]; kernel_rfl) | (rw [if_neg (by decide +kernel)]; exact ⟨rfl, rfl⟩))
    (fun os started H enc _ => lifted os started H enc)
theorem proved : Rows.FnSeqLongSaid := over
#print axioms proved
end Go.Proofs.Ytnliofcjplnboaa.rFnSeqLong
namespace Go.Proofs.Ytnliofcjplnboaa
theorem fnSeqLong_holds : Rows.FnSeqLongSaid := rFnSeqLong.proved
end Go.Proofs.Ytnliofcjplnboaa
