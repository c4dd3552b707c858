/- It is proved here that the law FnExactDiffOk of the given program holds whatever it is handed: the walks through the code, the plain laws and the row, in this order.
   Conditions: none. -/
import Derived.Below
import Derived.ChangeArms
import Derived.ChangeOld
import Derived.ChangeSlices
import Derived.DataReads
import Derived.Deep.Quiet
import Derived.KernelRfl
import Derived.Laws.Build
import Derived.Laws.OwnMore
import Derived.Laws.Slices
import Derived.Laws.StructEq
import Derived.OpenShut
import Derived.ProofKit
import Derived.ShutString
import Derived.SizedLaws
import Derived.StillTail
import Derived.Test.YthkeboifjlnjjaaProg
import Derived.Test.YthkeboifjlnjjaaRows
import Derived.WalkKit
import Derived.Test.YthkeboifjlnjjaaCExactDiffOka
import Derived.Test.YthkeboifjlnjjaaCExactDiffOkb
namespace Go.Proofs.Ythkeboifjlnjjaa
open Go.RowKit
set_option linter.unusedVariables false
def spec_l4One.E (c_ : Change) (Q : Bool → Prop) : Prop :=
  spec_WordOk.E c_.Id (fun r => (if !r then Q false else (if !c_.Had then (if !c_.Has then Q false else (if c_.Had then (if c_.Has then spec_FeatSame.E c_.Was c_.Now (fun r2 => (if r2 then Q false else spec_FeatSame.E c_.Was (⟨([] : Str), (⟨0, []⟩ : Shape), []⟩ : Feat) (fun r3 => (if !r3 then Q false else spec_FeatOk.E c_.Now (fun r4 => (if r4 then Q (c_.Now.Id == c_.Id) else Q false)))))) else spec_FeatSame.E c_.Was (⟨([] : Str), (⟨0, []⟩ : Shape), []⟩ : Feat) (fun r5 => (if !r5 then Q false else spec_FeatOk.E c_.Now (fun r6 => (if r6 then Q (c_.Now.Id == c_.Id) else Q false))))) else spec_FeatSame.E c_.Was (⟨([] : Str), (⟨0, []⟩ : Shape), []⟩ : Feat) (fun r7 => (if !r7 then Q false else spec_FeatOk.E c_.Now (fun r8 => (if r8 then Q (c_.Now.Id == c_.Id) else Q false)))))) else (if c_.Had then (if c_.Has then spec_FeatSame.E c_.Was c_.Now (fun r9 => (if r9 then Q false else (if !c_.Has then spec_FeatSame.E c_.Now (⟨([] : Str), (⟨0, []⟩ : Shape), []⟩ : Feat) (fun r10 => (if !r10 then Q false else spec_FeatOk.E c_.Was (fun r11 => (if r11 then (if c_.Was.Id == c_.Id then Q true else Q false) else Q false)))) else spec_FeatOk.E c_.Was (fun r12 => (if r12 then (if c_.Was.Id == c_.Id then spec_FeatOk.E c_.Now (fun r13 => (if r13 then Q (c_.Now.Id == c_.Id) else Q false)) else Q false) else Q false))))) else (if !c_.Has then spec_FeatSame.E c_.Now (⟨([] : Str), (⟨0, []⟩ : Shape), []⟩ : Feat) (fun r14 => (if !r14 then Q false else spec_FeatOk.E c_.Was (fun r15 => (if r15 then (if c_.Was.Id == c_.Id then Q true else Q false) else Q false)))) else spec_FeatOk.E c_.Was (fun r16 => (if r16 then (if c_.Was.Id == c_.Id then spec_FeatOk.E c_.Now (fun r17 => (if r17 then Q (c_.Now.Id == c_.Id) else Q false)) else Q false) else Q false)))) else (if !c_.Has then spec_FeatSame.E c_.Now (⟨([] : Str), (⟨0, []⟩ : Shape), []⟩ : Feat) (fun r18 => (if !r18 then Q false else spec_FeatOk.E c_.Was (fun r19 => (if r19 then (if c_.Was.Id == c_.Id then Q true else Q false) else Q false)))) else spec_FeatOk.E c_.Was (fun r20 => (if r20 then (if c_.Was.Id == c_.Id then spec_FeatOk.E c_.Now (fun r21 => (if r21 then Q (c_.Now.Id == c_.Id) else Q false)) else Q false) else Q false)))))))
set_option maxHeartbeats 8000000 in
set_option maxRecDepth 100000 in
theorem spec_l4One.calls {O : Ob} (w0 : World) (hO : Ok w0 O) (c_ : Change) (A3 : Option Addr) (n4 c5 : Nat) (A8 : Option Addr) (n9 c10 : Nat) (A14 : Option Addr) (n15 c16 : Nat) (A19 : Option Addr) (n20 c21 : Nat) (hs1 : Lim c_.Id) (hs2 : Lim c_.Was.Id) (hp6 : Sl kPt w0 (Fr O) (.slice A3 n4 c5) c_.Was.Shape.Pts) (hp11 : Sl kTag w0 (Fr O) (.slice A8 n9 c10) c_.Was.Tags) (hs13 : Lim c_.Now.Id) (hp17 : Sl kPt w0 (Fr O) (.slice A14 n15 c16) c_.Now.Shape.Pts) (hp22 : Sl kTag w0 (Fr O) (.slice A19 n20 c21) c_.Now.Tags) (Q : Bool → Prop) (h : spec_l4One.E c_ Q) :
    Ret Try.prog 39 [.agg #[vs c_.Id, vb c_.Had, vs c_.Was.Id, vi c_.Was.Shape.Kind, .slice A3 n4 c5, .slice A8 n9 c10, vb c_.Has, vs c_.Now.Id, vi c_.Now.Shape.Kind, .slice A14 n15 c16, .slice A19 n20 c21]] w0 (fun v w' => ∃ (r0 : Bool), v = vb r0 ∧ Q r0 ∧ Gr w0 w' none) := by
  have H : spec_WordOk.E c_.Id (fun r => (if !r then Q false else (if !c_.Had then (if !c_.Has then Q false else (if c_.Had then (if c_.Has then spec_FeatSame.E c_.Was c_.Now (fun r2 => (if r2 then Q false else spec_FeatSame.E c_.Was (⟨([] : Str), (⟨0, []⟩ : Shape), []⟩ : Feat) (fun r3 => (if !r3 then Q false else spec_FeatOk.E c_.Now (fun r4 => (if r4 then Q (c_.Now.Id == c_.Id) else Q false)))))) else spec_FeatSame.E c_.Was (⟨([] : Str), (⟨0, []⟩ : Shape), []⟩ : Feat) (fun r5 => (if !r5 then Q false else spec_FeatOk.E c_.Now (fun r6 => (if r6 then Q (c_.Now.Id == c_.Id) else Q false))))) else spec_FeatSame.E c_.Was (⟨([] : Str), (⟨0, []⟩ : Shape), []⟩ : Feat) (fun r7 => (if !r7 then Q false else spec_FeatOk.E c_.Now (fun r8 => (if r8 then Q (c_.Now.Id == c_.Id) else Q false)))))) else (if c_.Had then (if c_.Has then spec_FeatSame.E c_.Was c_.Now (fun r9 => (if r9 then Q false else (if !c_.Has then spec_FeatSame.E c_.Now (⟨([] : Str), (⟨0, []⟩ : Shape), []⟩ : Feat) (fun r10 => (if !r10 then Q false else spec_FeatOk.E c_.Was (fun r11 => (if r11 then (if c_.Was.Id == c_.Id then Q true else Q false) else Q false)))) else spec_FeatOk.E c_.Was (fun r12 => (if r12 then (if c_.Was.Id == c_.Id then spec_FeatOk.E c_.Now (fun r13 => (if r13 then Q (c_.Now.Id == c_.Id) else Q false)) else Q false) else Q false))))) else (if !c_.Has then spec_FeatSame.E c_.Now (⟨([] : Str), (⟨0, []⟩ : Shape), []⟩ : Feat) (fun r14 => (if !r14 then Q false else spec_FeatOk.E c_.Was (fun r15 => (if r15 then (if c_.Was.Id == c_.Id then Q true else Q false) else Q false)))) else spec_FeatOk.E c_.Was (fun r16 => (if r16 then (if c_.Was.Id == c_.Id then spec_FeatOk.E c_.Now (fun r17 => (if r17 then Q (c_.Now.Id == c_.Id) else Q false)) else Q false) else Q false)))) else (if !c_.Has then spec_FeatSame.E c_.Now (⟨([] : Str), (⟨0, []⟩ : Shape), []⟩ : Feat) (fun r18 => (if !r18 then Q false else spec_FeatOk.E c_.Was (fun r19 => (if r19 then (if c_.Was.Id == c_.Id then Q true else Q false) else Q false)))) else spec_FeatOk.E c_.Was (fun r20 => (if r20 then (if c_.Was.Id == c_.Id then spec_FeatOk.E c_.Now (fun r21 => (if r21 then Q (c_.Now.Id == c_.Id) else Q false)) else Q false) else Q false))))))) := h
  clear h
  have hc0 := Ct.init hO
  refine Ret_enter Try.func39 rfl 88 rfl [.tmp 2] rfl rfl ?_
  refine W_seq ?_
  refine W_reg ?_
  refine L_box [vs c_.Id, vb c_.Had, vs c_.Was.Id, vi c_.Was.Shape.Kind, .slice A3 n4 c5, .slice A8 n9 c10, vb c_.Has, vs c_.Now.Id, vi c_.Now.Shape.Kind, .slice A14 n15 c16, .slice A19 n20 c21] rfl fun w24 b25 hl27 hu28 g26 hx29 => ?_
  have h31 := Fb.mk hc0.ok hl27 hx29
  have hc32 := hc0.k0 g26
  refine L_pu (P_assign (vb false) rfl) ?_
  refine L_nil ?_
  refine W_seq ?_
  refine W_seq ?_
  refine W_reg ?_
  refine L_pu (P_fa fa81_0 ⟨b25, 0, none⟩ ⟨b25, 0, none⟩ rfl rfl) ?_
  refine L_pu (P_ld ag9 cL ⟨b25, 0, none⟩ (vs c_.Id) rfl (h31.cell rfl)) ?_
  refine L_call go57 [vs c_.Id] rfl ((spec_WordOk.calls w24 hc32.ok c_.Id hs1 _ H).mono ?_)
  rintro _ w33 ⟨r, rfl, H, g34⟩
  have hc38 := hc32.k0 g34
  refine L_pu (P_not r rfl) ?_
  refine L_pu (P_move (vb (!r)) rfl) ?_
  rcases bool_or (!r) with hq39 | hq39
  · have H := ite_t H hq39
    refine L_pass (dj := 7) rfl rfl (.inl (by exact congrArg Value.bool hq39)) ?_
    refine L_pass (dj := 7) rfl rfl (.inl (by exact congrArg Value.bool hq39)) ?_
    refine L_pass (dj := 7) rfl rfl (.inl (by exact congrArg Value.bool hq39)) ?_
    refine L_pass (dj := 7) rfl rfl (.inl (by exact congrArg Value.bool hq39)) ?_
    refine L_pass (dj := 11) rfl rfl (.inr rfl) ?_
    refine L_pass (dj := 11) rfl rfl (.inr rfl) ?_
    refine L_pass (dj := 11) rfl rfl (.inr rfl) ?_
    refine L_pass (dj := 7) rfl rfl (.inl (by exact congrArg Value.bool hq39)) ?_
    refine L_pu (P_pick true (vb true) (by exact congrArg Value.bool hq39) rfl) ?_
    refine L_pu (P_move (vb true) rfl) ?_
    refine L_pass (dj := 17) rfl rfl (.inl rfl) ?_
    refine L_pass (dj := 17) rfl rfl (.inl rfl) ?_
    refine L_pass (dj := 17) rfl rfl (.inl rfl) ?_
    refine L_pass (dj := 20) rfl rfl (.inr rfl) ?_
    refine L_pass (dj := 20) rfl rfl (.inr rfl) ?_
    refine L_pass (dj := 17) rfl rfl (.inl rfl) ?_
    refine L_pass (dj := 17) rfl rfl (.inl rfl) ?_
    refine L_pass (dj := 24) rfl rfl (.inr rfl) ?_
    refine L_pass (dj := 24) rfl rfl (.inr rfl) ?_
    refine L_pass (dj := 24) rfl rfl (.inr rfl) ?_
    refine L_pass (dj := 24) rfl rfl (.inr rfl) ?_
    refine L_pass (dj := 24) rfl rfl (.inr rfl) ?_
    refine L_pass (dj := 17) rfl rfl (.inl rfl) ?_
    refine L_pu (P_pick true (vb true) (by exact congrArg Value.bool rfl) rfl) ?_
    refine L_nil ?_
    refine W_ct (b := true) rfl rfl ?_
    refine W_seq ?_
    refine W_reg ?_
    refine L_pu (P_assign (vb false) rfl) ?_
    refine L_nil ?_
    refine W_ret ?_
    exact ⟨[vb false], ⟨_, rfl, rfl⟩, false, rfl, H, hc38.gr⟩
  · have H := ite_f H hq39
    refine L_run (dj := 7) rfl rfl (by exact congrArg Value.bool hq39) ?_
    refine L_pu (P_fa fa81_1 ⟨b25, 0, none⟩ ⟨b25, 1, none⟩ rfl rfl) ?_
    refine L_run (dj := 7) rfl rfl (by exact congrArg Value.bool hq39) ?_
    have h40 := (h31.st (.new _ g34))
    refine L_pu (P_ld ag4 cL ⟨b25, 1, none⟩ (vb c_.Had) rfl (h40.cell rfl)) ?_
    refine L_run (dj := 7) rfl rfl (by exact congrArg Value.bool hq39) ?_
    refine L_pu (P_not c_.Had rfl) ?_
    refine L_run (dj := 7) rfl rfl (by exact congrArg Value.bool hq39) ?_
    refine L_pu (P_move (vb (!c_.Had)) rfl) ?_
    rcases bool_or (!c_.Had) with hq41 | hq41
    · have H := ite_t H hq41
      refine L_run (dj := 11) rfl rfl (by exact congrArg Value.bool hq41) ?_
      refine L_pu (P_fa fa81_3 ⟨b25, 0, none⟩ ⟨b25, 6, none⟩ rfl rfl) ?_
      refine L_run (dj := 11) rfl rfl (by exact congrArg Value.bool hq41) ?_
      refine L_pu (P_ld ag4 cL ⟨b25, 6, none⟩ (vb c_.Has) rfl (h40.cell rfl)) ?_
      refine L_run (dj := 11) rfl rfl (by exact congrArg Value.bool hq41) ?_
      refine L_pu (P_not c_.Has rfl) ?_
      refine L_run (dj := 7) rfl rfl (by exact congrArg Value.bool hq39) ?_
      refine L_pu (P_pick true (vb (!c_.Has)) (by exact congrArg Value.bool hq41) rfl) ?_
      refine L_pu (P_pick false (vb (!c_.Has)) (by exact congrArg Value.bool hq39) rfl) ?_
      refine L_pu (P_move (vb (!c_.Has)) rfl) ?_
      rcases bool_or (!c_.Has) with hq42 | hq42
      · have H := ite_t H hq42
        refine L_pass (dj := 17) rfl rfl (.inl (by exact congrArg Value.bool hq42)) ?_
        refine L_pass (dj := 17) rfl rfl (.inl (by exact congrArg Value.bool hq42)) ?_
        refine L_pass (dj := 17) rfl rfl (.inl (by exact congrArg Value.bool hq42)) ?_
        refine L_pass (dj := 20) rfl rfl (.inr rfl) ?_
        refine L_pass (dj := 20) rfl rfl (.inr rfl) ?_
        refine L_pass (dj := 17) rfl rfl (.inl (by exact congrArg Value.bool hq42)) ?_
        refine L_pass (dj := 17) rfl rfl (.inl (by exact congrArg Value.bool hq42)) ?_
        refine L_pass (dj := 24) rfl rfl (.inr rfl) ?_
        refine L_pass (dj := 24) rfl rfl (.inr rfl) ?_
        refine L_pass (dj := 24) rfl rfl (.inr rfl) ?_
        refine L_pass (dj := 24) rfl rfl (.inr rfl) ?_
        refine L_pass (dj := 24) rfl rfl (.inr rfl) ?_
        refine L_pass (dj := 17) rfl rfl (.inl (by exact congrArg Value.bool hq42)) ?_
        refine L_pu (P_pick true (vb true) (by exact congrArg Value.bool hq42) rfl) ?_
        refine L_nil ?_
        refine W_ct (b := true) rfl rfl ?_
        refine W_seq ?_
        refine W_reg ?_
        refine L_pu (P_assign (vb false) rfl) ?_
        refine L_nil ?_
        refine W_ret ?_
        exact ⟨[vb false], ⟨_, rfl, rfl⟩, false, rfl, H, hc38.gr⟩
      · have H := ite_f H hq42
        refine L_run (dj := 17) rfl rfl (by exact congrArg Value.bool hq42) ?_
        refine L_pu (P_fa fa81_1 ⟨b25, 0, none⟩ ⟨b25, 1, none⟩ rfl rfl) ?_
        refine L_run (dj := 17) rfl rfl (by exact congrArg Value.bool hq42) ?_
        refine L_pu (P_ld ag4 cL ⟨b25, 1, none⟩ (vb c_.Had) rfl (h40.cell rfl)) ?_
        refine L_run (dj := 17) rfl rfl (by exact congrArg Value.bool hq42) ?_
        refine L_pu (P_move (vb c_.Had) rfl) ?_
        rcases bool_or c_.Had with hq43 | hq43
        · have H := ite_t H hq43
          refine L_run (dj := 20) rfl rfl (by exact congrArg Value.bool hq43) ?_
          refine L_pu (P_fa fa81_3 ⟨b25, 0, none⟩ ⟨b25, 6, none⟩ rfl rfl) ?_
          refine L_run (dj := 20) rfl rfl (by exact congrArg Value.bool hq43) ?_
          refine L_pu (P_ld ag4 cL ⟨b25, 6, none⟩ (vb c_.Has) rfl (h40.cell rfl)) ?_
          refine L_run (dj := 17) rfl rfl (by exact congrArg Value.bool hq42) ?_
          refine L_pu (P_pick true (vb c_.Has) (by exact congrArg Value.bool hq43) rfl) ?_
          refine L_run (dj := 17) rfl rfl (by exact congrArg Value.bool hq42) ?_
          refine L_pu (P_move (vb c_.Has) rfl) ?_
          rcases bool_or c_.Has with hq44 | hq44
          · have H := ite_t H hq44
            refine L_run (dj := 24) rfl rfl (by exact congrArg Value.bool hq44) ?_
            refine L_pu (P_fa fa81_2 ⟨b25, 0, none⟩ ⟨b25, 2, none⟩ rfl rfl) ?_
            refine L_run (dj := 24) rfl rfl (by exact congrArg Value.bool hq44) ?_
            refine L_pu (P_lda ag79 sz79 cL ⟨b25, 2, none⟩ [vs c_.Was.Id, vi c_.Was.Shape.Kind, .slice A3 n4 c5, .slice A8 n9 c10] rfl rfl (h40.cells (off := 2) rfl)) ?_
            refine L_run (dj := 24) rfl rfl (by exact congrArg Value.bool hq44) ?_
            refine L_pu (P_fa fa81_4 ⟨b25, 0, none⟩ ⟨b25, 7, none⟩ rfl rfl) ?_
            refine L_run (dj := 24) rfl rfl (by exact congrArg Value.bool hq44) ?_
            refine L_pu (P_lda ag79 sz79 cL ⟨b25, 7, none⟩ [vs c_.Now.Id, vi c_.Now.Shape.Kind, .slice A14 n15 c16, .slice A19 n20 c21] rfl rfl (h40.cells (off := 7) rfl)) ?_
            refine L_run (dj := 24) rfl rfl (by exact congrArg Value.bool hq44) ?_
            refine L_call go75 [.agg #[vs c_.Was.Id, vi c_.Was.Shape.Kind, .slice A3 n4 c5, .slice A8 n9 c10], .agg #[vs c_.Now.Id, vi c_.Now.Shape.Kind, .slice A14 n15 c16, .slice A19 n20 c21]] rfl ((spec_FeatSame.calls w33 hc38.ok c_.Was A3 n4 c5 A8 n9 c10 hs2 (hp6.st hc38.st) (hp11.st hc38.st) c_.Now A14 n15 c16 A19 n20 c21 hs13 (hp17.st hc38.st) (hp22.st hc38.st) _ H).mono ?_)
            rintro _ w45 ⟨r2, rfl, H, g46⟩
            have hc50 := hc38.k0 g46
            refine L_run (dj := 17) rfl rfl (by exact congrArg Value.bool hq42) ?_
            refine L_pu (P_pick true (vb r2) (by exact congrArg Value.bool hq44) rfl) ?_
            refine L_pu (P_pick false (vb r2) (by exact congrArg Value.bool hq42) rfl) ?_
            refine L_nil ?_
            refine W_cond r2 rfl (fun hq51 => ?_) (fun hq51 => ?_)
            · have H := ite_t H hq51
              refine W_seq ?_
              refine W_reg ?_
              refine L_pu (P_assign (vb false) rfl) ?_
              refine L_nil ?_
              refine W_ret ?_
              exact ⟨[vb false], ⟨_, rfl, rfl⟩, false, rfl, H, hc50.gr⟩
            · have H := ite_f H hq51
              refine W_skip ?_
              refine W_seq ?_
              refine W_seq ?_
              refine W_reg ?_
              refine L_pu (P_fa fa81_1 ⟨b25, 0, none⟩ ⟨b25, 1, none⟩ rfl rfl) ?_
              have h52 := (h40.st (.new _ g46))
              refine L_pu (P_ld ag4 cL ⟨b25, 1, none⟩ (vb c_.Had) rfl (h52.cell rfl)) ?_
              refine L_pu (P_not c_.Had rfl) ?_
              refine L_pu (P_move (vb (!c_.Had)) rfl) ?_
              refine L_run (dj := 35) rfl rfl (by exact congrArg Value.bool hq41) ?_
              refine L_pu (P_fa fa81_2 ⟨b25, 0, none⟩ ⟨b25, 2, none⟩ rfl rfl) ?_
              refine L_run (dj := 35) rfl rfl (by exact congrArg Value.bool hq41) ?_
              refine L_pu (P_lda ag79 sz79 cL ⟨b25, 2, none⟩ [vs c_.Was.Id, vi c_.Was.Shape.Kind, .slice A3 n4 c5, .slice A8 n9 c10] rfl rfl (h52.cells (off := 2) rfl)) ?_
              refine L_run (dj := 35) rfl rfl (by exact congrArg Value.bool hq41) ?_
              refine L_pu (P_build (.agg #[vs ([] : Str), vi 0, .slice none 0 0, .slice none 0 0]) (fun _ => by kernel_rfl)) ?_
              refine L_run (dj := 35) rfl rfl (by exact congrArg Value.bool hq41) ?_
              refine L_call go75 [.agg #[vs c_.Was.Id, vi c_.Was.Shape.Kind, .slice A3 n4 c5, .slice A8 n9 c10], .agg #[vs ([] : Str), vi 0, .slice none 0 0, .slice none 0 0]] rfl ((spec_FeatSame.calls w45 hc50.ok c_.Was A3 n4 c5 A8 n9 c10 hs2 (hp6.st hc50.st) (hp11.st hc50.st) (⟨([] : Str), (⟨0, []⟩ : Shape), []⟩ : Feat) none 0 0 none 0 0 (by decide) (Sl.nil _ _ _ none 0 (by decide)) (Sl.nil _ _ _ none 0 (by decide)) _ H).mono ?_)
              rintro _ w53 ⟨r3, rfl, H, g54⟩
              have hc58 := hc50.k0 g54
              refine L_run (dj := 35) rfl rfl (by exact congrArg Value.bool hq41) ?_
              refine L_pu (P_not r3 rfl) ?_
              refine L_pu (P_pick true (vb (!r3)) (by exact congrArg Value.bool hq41) rfl) ?_
              refine L_pu (P_move (vb (!r3)) rfl) ?_
              rcases bool_or (!r3) with hq59 | hq59
              · have H := ite_t H hq59
                refine L_pass (dj := 42) rfl rfl (.inl (by exact congrArg Value.bool hq59)) ?_
                refine L_pass (dj := 42) rfl rfl (.inl (by exact congrArg Value.bool hq59)) ?_
                refine L_pass (dj := 42) rfl rfl (.inl (by exact congrArg Value.bool hq59)) ?_
                refine L_pass (dj := 42) rfl rfl (.inl (by exact congrArg Value.bool hq59)) ?_
                refine L_pass (dj := 46) rfl rfl (.inr rfl) ?_
                refine L_pass (dj := 46) rfl rfl (.inr rfl) ?_
                refine L_pass (dj := 46) rfl rfl (.inr rfl) ?_
                refine L_pass (dj := 46) rfl rfl (.inr rfl) ?_
                refine L_pass (dj := 46) rfl rfl (.inr rfl) ?_
                refine L_pass (dj := 42) rfl rfl (.inl (by exact congrArg Value.bool hq59)) ?_
                refine L_pu (P_pick true (vb true) (by exact congrArg Value.bool hq59) rfl) ?_
                refine L_nil ?_
                refine W_ct (b := true) rfl rfl ?_
                refine W_seq ?_
                refine W_reg ?_
                refine L_pu (P_assign (vb false) rfl) ?_
                refine L_nil ?_
                refine W_ret ?_
                exact ⟨[vb false], ⟨_, rfl, rfl⟩, false, rfl, H, hc58.gr⟩
              · have H := ite_f H hq59
                refine L_run (dj := 42) rfl rfl (by exact congrArg Value.bool hq59) ?_
                refine L_pu (P_fa fa81_3 ⟨b25, 0, none⟩ ⟨b25, 6, none⟩ rfl rfl) ?_
                refine L_run (dj := 42) rfl rfl (by exact congrArg Value.bool hq59) ?_
                have h60 := (h52.st (.new _ g54))
                refine L_pu (P_ld ag4 cL ⟨b25, 6, none⟩ (vb c_.Has) rfl (h60.cell rfl)) ?_
                refine L_run (dj := 42) rfl rfl (by exact congrArg Value.bool hq59) ?_
                refine L_pu (P_not c_.Has rfl) ?_
                refine L_run (dj := 42) rfl rfl (by exact congrArg Value.bool hq59) ?_
                refine L_pu (P_move (vb (!c_.Has)) rfl) ?_
                refine L_pass (dj := 46) rfl rfl (.inl (by exact congrArg Value.bool hq42)) ?_
                refine L_pass (dj := 46) rfl rfl (.inl (by exact congrArg Value.bool hq42)) ?_
                refine L_pass (dj := 46) rfl rfl (.inl (by exact congrArg Value.bool hq42)) ?_
                refine L_pass (dj := 46) rfl rfl (.inl (by exact congrArg Value.bool hq42)) ?_
                refine L_pass (dj := 46) rfl rfl (.inl (by exact congrArg Value.bool hq42)) ?_
                refine L_run (dj := 42) rfl rfl (by exact congrArg Value.bool hq59) ?_
                refine L_pu (P_pick false (vb false) (by exact congrArg Value.bool hq42) rfl) ?_
                refine L_pu (P_pick false (vb false) (by exact congrArg Value.bool hq59) rfl) ?_
                refine L_nil ?_
                refine W_cf (b := false) rfl rfl ?_
                refine W_skip ?_
                refine W_seq ?_
                refine W_reg ?_
                refine L_pu (P_fa fa81_1 ⟨b25, 0, none⟩ ⟨b25, 1, none⟩ rfl rfl) ?_
                refine L_pu (P_ld ag4 cL ⟨b25, 1, none⟩ (vb c_.Had) rfl (h60.cell rfl)) ?_
                refine L_pu (P_not c_.Had rfl) ?_
                refine L_pu (P_move (vb (!c_.Had)) rfl) ?_
                refine L_pass (dj := 57) rfl rfl (.inl (by exact congrArg Value.bool hq41)) ?_
                refine L_pass (dj := 57) rfl rfl (.inl (by exact congrArg Value.bool hq41)) ?_
                refine L_pass (dj := 57) rfl rfl (.inl (by exact congrArg Value.bool hq41)) ?_
                refine L_pass (dj := 57) rfl rfl (.inl (by exact congrArg Value.bool hq41)) ?_
                refine L_pass (dj := 61) rfl rfl (.inr rfl) ?_
                refine L_pass (dj := 61) rfl rfl (.inr rfl) ?_
                refine L_pass (dj := 61) rfl rfl (.inr rfl) ?_
                refine L_pass (dj := 61) rfl rfl (.inr rfl) ?_
                refine L_pass (dj := 61) rfl rfl (.inr rfl) ?_
                refine L_pass (dj := 61) rfl rfl (.inr rfl) ?_
                refine L_pass (dj := 57) rfl rfl (.inl (by exact congrArg Value.bool hq41)) ?_
                refine L_pu (P_pick true (vb true) (by exact congrArg Value.bool hq41) rfl) ?_
                refine L_pu (P_move (vb true) rfl) ?_
                refine L_run (dj := 70) rfl rfl rfl ?_
                refine L_pu (P_fa fa81_3 ⟨b25, 0, none⟩ ⟨b25, 6, none⟩ rfl rfl) ?_
                refine L_run (dj := 70) rfl rfl rfl ?_
                refine L_pu (P_ld ag4 cL ⟨b25, 6, none⟩ (vb c_.Has) rfl (h60.cell rfl)) ?_
                refine L_run (dj := 70) rfl rfl rfl ?_
                refine L_pu (P_not c_.Has rfl) ?_
                refine L_run (dj := 70) rfl rfl rfl ?_
                refine L_pu (P_move (vb (!c_.Has)) rfl) ?_
                refine L_run (dj := 74) rfl rfl (by exact congrArg Value.bool hq42) ?_
                refine L_pu (P_fa fa81_4 ⟨b25, 0, none⟩ ⟨b25, 7, none⟩ rfl rfl) ?_
                refine L_run (dj := 74) rfl rfl (by exact congrArg Value.bool hq42) ?_
                refine L_pu (P_lda ag79 sz79 cL ⟨b25, 7, none⟩ [vs c_.Now.Id, vi c_.Now.Shape.Kind, .slice A14 n15 c16, .slice A19 n20 c21] rfl rfl (h60.cells (off := 7) rfl)) ?_
                refine L_run (dj := 74) rfl rfl (by exact congrArg Value.bool hq42) ?_
                refine L_call go76 [.agg #[vs c_.Now.Id, vi c_.Now.Shape.Kind, .slice A14 n15 c16, .slice A19 n20 c21]] rfl ((spec_FeatOk.calls w53 hc58.ok c_.Now A14 n15 c16 A19 n20 c21 hs13 (hp17.st hc58.st) (hp22.st hc58.st) _ H).mono ?_)
                rintro _ w61 ⟨r4, rfl, H, g62⟩
                have hc66 := hc58.k0 g62
                refine L_run (dj := 74) rfl rfl (by exact congrArg Value.bool hq42) ?_
                refine L_pu (P_move (vb r4) rfl) ?_
                rcases bool_or r4 with hq67 | hq67
                · have H := ite_t H hq67
                  refine L_run (dj := 78) rfl rfl (by exact congrArg Value.bool hq67) ?_
                  refine L_pu (P_fa fa81_4 ⟨b25, 0, none⟩ ⟨b25, 7, none⟩ rfl rfl) ?_
                  refine L_run (dj := 78) rfl rfl (by exact congrArg Value.bool hq67) ?_
                  refine L_pu (P_fa fa79_0 ⟨b25, 7, none⟩ ⟨b25, 7, none⟩ rfl rfl) ?_
                  refine L_run (dj := 78) rfl rfl (by exact congrArg Value.bool hq67) ?_
                  have h68 := (h60.st (.new _ g62))
                  refine L_pu (P_ld ag9 cL ⟨b25, 7, none⟩ (vs c_.Now.Id) rfl (h68.cell rfl)) ?_
                  refine L_run (dj := 78) rfl rfl (by exact congrArg Value.bool hq67) ?_
                  refine L_pu (P_fa fa81_0 ⟨b25, 0, none⟩ ⟨b25, 0, none⟩ rfl rfl) ?_
                  refine L_run (dj := 78) rfl rfl (by exact congrArg Value.bool hq67) ?_
                  refine L_pu (P_ld ag9 cL ⟨b25, 0, none⟩ (vs c_.Id) rfl (h68.cell rfl)) ?_
                  refine L_run (dj := 78) rfl rfl (by exact congrArg Value.bool hq67) ?_
                  refine L_pu (P_scmp c_.Now.Id c_.Id (c_.Now.Id == c_.Id) rfl rfl rfl) ?_
                  refine L_run (dj := 74) rfl rfl (by exact congrArg Value.bool hq42) ?_
                  refine L_pu (P_pick true (vb (c_.Now.Id == c_.Id)) (by exact congrArg Value.bool hq67) rfl) ?_
                  refine L_run (dj := 70) rfl rfl rfl ?_
                  refine L_pu (P_pick false (vb (c_.Now.Id == c_.Id)) (by exact congrArg Value.bool hq42) rfl) ?_
                  refine L_pu (P_pick true (vb (c_.Now.Id == c_.Id)) (by exact congrArg Value.bool rfl) rfl) ?_
                  refine L_pu (P_assign (vb (c_.Now.Id == c_.Id)) rfl) ?_
                  refine L_nil ?_
                  refine W_ret ?_
                  exact ⟨[vb (c_.Now.Id == c_.Id)], ⟨_, rfl, rfl⟩, c_.Now.Id == c_.Id, rfl, H, hc66.gr⟩
                · have H := ite_f H hq67
                  refine L_pass (dj := 78) rfl rfl (.inl (by exact congrArg Value.bool hq67)) ?_
                  refine L_pass (dj := 78) rfl rfl (.inl (by exact congrArg Value.bool hq67)) ?_
                  refine L_pass (dj := 78) rfl rfl (.inl (by exact congrArg Value.bool hq67)) ?_
                  refine L_pass (dj := 78) rfl rfl (.inl (by exact congrArg Value.bool hq67)) ?_
                  refine L_pass (dj := 78) rfl rfl (.inl (by exact congrArg Value.bool hq67)) ?_
                  refine L_pass (dj := 78) rfl rfl (.inl (by exact congrArg Value.bool hq67)) ?_
                  refine L_run (dj := 74) rfl rfl (by exact congrArg Value.bool hq42) ?_
                  refine L_pu (P_pick false (vb false) (by exact congrArg Value.bool hq67) rfl) ?_
                  refine L_run (dj := 70) rfl rfl rfl ?_
                  refine L_pu (P_pick false (vb false) (by exact congrArg Value.bool hq42) rfl) ?_
                  refine L_pu (P_pick true (vb false) (by exact congrArg Value.bool rfl) rfl) ?_
                  refine L_pu (P_assign (vb false) rfl) ?_
                  refine L_nil ?_
                  refine W_ret ?_
                  exact ⟨[vb false], ⟨_, rfl, rfl⟩, false, rfl, H, hc66.gr⟩
          · have H := ite_f H hq44
            refine L_pass (dj := 24) rfl rfl (.inl (by exact congrArg Value.bool hq44)) ?_
            refine L_pass (dj := 24) rfl rfl (.inl (by exact congrArg Value.bool hq44)) ?_
            refine L_pass (dj := 24) rfl rfl (.inl (by exact congrArg Value.bool hq44)) ?_
            refine L_pass (dj := 24) rfl rfl (.inl (by exact congrArg Value.bool hq44)) ?_
            refine L_pass (dj := 24) rfl rfl (.inl (by exact congrArg Value.bool hq44)) ?_
            refine L_run (dj := 17) rfl rfl (by exact congrArg Value.bool hq42) ?_
            refine L_pu (P_pick false (vb false) (by exact congrArg Value.bool hq44) rfl) ?_
            refine L_pu (P_pick false (vb false) (by exact congrArg Value.bool hq42) rfl) ?_
            refine L_nil ?_
            refine W_cf (b := false) rfl rfl ?_
            refine W_skip ?_
            refine W_seq ?_
            refine W_seq ?_
            refine W_reg ?_
            refine L_pu (P_fa fa81_1 ⟨b25, 0, none⟩ ⟨b25, 1, none⟩ rfl rfl) ?_
            refine L_pu (P_ld ag4 cL ⟨b25, 1, none⟩ (vb c_.Had) rfl (h40.cell rfl)) ?_
            refine L_pu (P_not c_.Had rfl) ?_
            refine L_pu (P_move (vb (!c_.Had)) rfl) ?_
            refine L_run (dj := 35) rfl rfl (by exact congrArg Value.bool hq41) ?_
            refine L_pu (P_fa fa81_2 ⟨b25, 0, none⟩ ⟨b25, 2, none⟩ rfl rfl) ?_
            refine L_run (dj := 35) rfl rfl (by exact congrArg Value.bool hq41) ?_
            refine L_pu (P_lda ag79 sz79 cL ⟨b25, 2, none⟩ [vs c_.Was.Id, vi c_.Was.Shape.Kind, .slice A3 n4 c5, .slice A8 n9 c10] rfl rfl (h40.cells (off := 2) rfl)) ?_
            refine L_run (dj := 35) rfl rfl (by exact congrArg Value.bool hq41) ?_
            refine L_pu (P_build (.agg #[vs ([] : Str), vi 0, .slice none 0 0, .slice none 0 0]) (fun _ => by kernel_rfl)) ?_
            refine L_run (dj := 35) rfl rfl (by exact congrArg Value.bool hq41) ?_
            refine L_call go75 [.agg #[vs c_.Was.Id, vi c_.Was.Shape.Kind, .slice A3 n4 c5, .slice A8 n9 c10], .agg #[vs ([] : Str), vi 0, .slice none 0 0, .slice none 0 0]] rfl ((spec_FeatSame.calls w33 hc38.ok c_.Was A3 n4 c5 A8 n9 c10 hs2 (hp6.st hc38.st) (hp11.st hc38.st) (⟨([] : Str), (⟨0, []⟩ : Shape), []⟩ : Feat) none 0 0 none 0 0 (by decide) (Sl.nil _ _ _ none 0 (by decide)) (Sl.nil _ _ _ none 0 (by decide)) _ H).mono ?_)
            rintro _ w69 ⟨r5, rfl, H, g70⟩
            have hc74 := hc38.k0 g70
            refine L_run (dj := 35) rfl rfl (by exact congrArg Value.bool hq41) ?_
            refine L_pu (P_not r5 rfl) ?_
            refine L_pu (P_pick true (vb (!r5)) (by exact congrArg Value.bool hq41) rfl) ?_
            refine L_pu (P_move (vb (!r5)) rfl) ?_
            rcases bool_or (!r5) with hq75 | hq75
            · have H := ite_t H hq75
              refine L_pass (dj := 42) rfl rfl (.inl (by exact congrArg Value.bool hq75)) ?_
              refine L_pass (dj := 42) rfl rfl (.inl (by exact congrArg Value.bool hq75)) ?_
              refine L_pass (dj := 42) rfl rfl (.inl (by exact congrArg Value.bool hq75)) ?_
              refine L_pass (dj := 42) rfl rfl (.inl (by exact congrArg Value.bool hq75)) ?_
              refine L_pass (dj := 46) rfl rfl (.inr rfl) ?_
              refine L_pass (dj := 46) rfl rfl (.inr rfl) ?_
              refine L_pass (dj := 46) rfl rfl (.inr rfl) ?_
              refine L_pass (dj := 46) rfl rfl (.inr rfl) ?_
              refine L_pass (dj := 46) rfl rfl (.inr rfl) ?_
              refine L_pass (dj := 42) rfl rfl (.inl (by exact congrArg Value.bool hq75)) ?_
              refine L_pu (P_pick true (vb true) (by exact congrArg Value.bool hq75) rfl) ?_
              refine L_nil ?_
              refine W_ct (b := true) rfl rfl ?_
              refine W_seq ?_
              refine W_reg ?_
              refine L_pu (P_assign (vb false) rfl) ?_
              refine L_nil ?_
              refine W_ret ?_
              exact ⟨[vb false], ⟨_, rfl, rfl⟩, false, rfl, H, hc74.gr⟩
            · have H := ite_f H hq75
              refine L_run (dj := 42) rfl rfl (by exact congrArg Value.bool hq75) ?_
              refine L_pu (P_fa fa81_3 ⟨b25, 0, none⟩ ⟨b25, 6, none⟩ rfl rfl) ?_
              refine L_run (dj := 42) rfl rfl (by exact congrArg Value.bool hq75) ?_
              have h76 := (h40.st (.new _ g70))
              refine L_pu (P_ld ag4 cL ⟨b25, 6, none⟩ (vb c_.Has) rfl (h76.cell rfl)) ?_
              refine L_run (dj := 42) rfl rfl (by exact congrArg Value.bool hq75) ?_
              refine L_pu (P_not c_.Has rfl) ?_
              refine L_run (dj := 42) rfl rfl (by exact congrArg Value.bool hq75) ?_
              refine L_pu (P_move (vb (!c_.Has)) rfl) ?_
              refine L_pass (dj := 46) rfl rfl (.inl (by exact congrArg Value.bool hq42)) ?_
              refine L_pass (dj := 46) rfl rfl (.inl (by exact congrArg Value.bool hq42)) ?_
              refine L_pass (dj := 46) rfl rfl (.inl (by exact congrArg Value.bool hq42)) ?_
              refine L_pass (dj := 46) rfl rfl (.inl (by exact congrArg Value.bool hq42)) ?_
              refine L_pass (dj := 46) rfl rfl (.inl (by exact congrArg Value.bool hq42)) ?_
              refine L_run (dj := 42) rfl rfl (by exact congrArg Value.bool hq75) ?_
              refine L_pu (P_pick false (vb false) (by exact congrArg Value.bool hq42) rfl) ?_
              refine L_pu (P_pick false (vb false) (by exact congrArg Value.bool hq75) rfl) ?_
              refine L_nil ?_
              refine W_cf (b := false) rfl rfl ?_
              refine W_skip ?_
              refine W_seq ?_
              refine W_reg ?_
              refine L_pu (P_fa fa81_1 ⟨b25, 0, none⟩ ⟨b25, 1, none⟩ rfl rfl) ?_
              refine L_pu (P_ld ag4 cL ⟨b25, 1, none⟩ (vb c_.Had) rfl (h76.cell rfl)) ?_
              refine L_pu (P_not c_.Had rfl) ?_
              refine L_pu (P_move (vb (!c_.Had)) rfl) ?_
              refine L_pass (dj := 57) rfl rfl (.inl (by exact congrArg Value.bool hq41)) ?_
              refine L_pass (dj := 57) rfl rfl (.inl (by exact congrArg Value.bool hq41)) ?_
              refine L_pass (dj := 57) rfl rfl (.inl (by exact congrArg Value.bool hq41)) ?_
              refine L_pass (dj := 57) rfl rfl (.inl (by exact congrArg Value.bool hq41)) ?_
              refine L_pass (dj := 61) rfl rfl (.inr rfl) ?_
              refine L_pass (dj := 61) rfl rfl (.inr rfl) ?_
              refine L_pass (dj := 61) rfl rfl (.inr rfl) ?_
              refine L_pass (dj := 61) rfl rfl (.inr rfl) ?_
              refine L_pass (dj := 61) rfl rfl (.inr rfl) ?_
              refine L_pass (dj := 61) rfl rfl (.inr rfl) ?_
              refine L_pass (dj := 57) rfl rfl (.inl (by exact congrArg Value.bool hq41)) ?_
              refine L_pu (P_pick true (vb true) (by exact congrArg Value.bool hq41) rfl) ?_
              refine L_pu (P_move (vb true) rfl) ?_
              refine L_run (dj := 70) rfl rfl rfl ?_
              refine L_pu (P_fa fa81_3 ⟨b25, 0, none⟩ ⟨b25, 6, none⟩ rfl rfl) ?_
              refine L_run (dj := 70) rfl rfl rfl ?_
              refine L_pu (P_ld ag4 cL ⟨b25, 6, none⟩ (vb c_.Has) rfl (h76.cell rfl)) ?_
              refine L_run (dj := 70) rfl rfl rfl ?_
              refine L_pu (P_not c_.Has rfl) ?_
              refine L_run (dj := 70) rfl rfl rfl ?_
              refine L_pu (P_move (vb (!c_.Has)) rfl) ?_
              refine L_run (dj := 74) rfl rfl (by exact congrArg Value.bool hq42) ?_
              refine L_pu (P_fa fa81_4 ⟨b25, 0, none⟩ ⟨b25, 7, none⟩ rfl rfl) ?_
              refine L_run (dj := 74) rfl rfl (by exact congrArg Value.bool hq42) ?_
              refine L_pu (P_lda ag79 sz79 cL ⟨b25, 7, none⟩ [vs c_.Now.Id, vi c_.Now.Shape.Kind, .slice A14 n15 c16, .slice A19 n20 c21] rfl rfl (h76.cells (off := 7) rfl)) ?_
              refine L_run (dj := 74) rfl rfl (by exact congrArg Value.bool hq42) ?_
              refine L_call go76 [.agg #[vs c_.Now.Id, vi c_.Now.Shape.Kind, .slice A14 n15 c16, .slice A19 n20 c21]] rfl ((spec_FeatOk.calls w69 hc74.ok c_.Now A14 n15 c16 A19 n20 c21 hs13 (hp17.st hc74.st) (hp22.st hc74.st) _ H).mono ?_)
              rintro _ w77 ⟨r6, rfl, H, g78⟩
              have hc82 := hc74.k0 g78
              refine L_run (dj := 74) rfl rfl (by exact congrArg Value.bool hq42) ?_
              refine L_pu (P_move (vb r6) rfl) ?_
              rcases bool_or r6 with hq83 | hq83
              · have H := ite_t H hq83
                refine L_run (dj := 78) rfl rfl (by exact congrArg Value.bool hq83) ?_
                refine L_pu (P_fa fa81_4 ⟨b25, 0, none⟩ ⟨b25, 7, none⟩ rfl rfl) ?_
                refine L_run (dj := 78) rfl rfl (by exact congrArg Value.bool hq83) ?_
                refine L_pu (P_fa fa79_0 ⟨b25, 7, none⟩ ⟨b25, 7, none⟩ rfl rfl) ?_
                refine L_run (dj := 78) rfl rfl (by exact congrArg Value.bool hq83) ?_
                have h84 := (h76.st (.new _ g78))
                refine L_pu (P_ld ag9 cL ⟨b25, 7, none⟩ (vs c_.Now.Id) rfl (h84.cell rfl)) ?_
                refine L_run (dj := 78) rfl rfl (by exact congrArg Value.bool hq83) ?_
                refine L_pu (P_fa fa81_0 ⟨b25, 0, none⟩ ⟨b25, 0, none⟩ rfl rfl) ?_
                refine L_run (dj := 78) rfl rfl (by exact congrArg Value.bool hq83) ?_
                refine L_pu (P_ld ag9 cL ⟨b25, 0, none⟩ (vs c_.Id) rfl (h84.cell rfl)) ?_
                refine L_run (dj := 78) rfl rfl (by exact congrArg Value.bool hq83) ?_
                refine L_pu (P_scmp c_.Now.Id c_.Id (c_.Now.Id == c_.Id) rfl rfl rfl) ?_
                refine L_run (dj := 74) rfl rfl (by exact congrArg Value.bool hq42) ?_
                refine L_pu (P_pick true (vb (c_.Now.Id == c_.Id)) (by exact congrArg Value.bool hq83) rfl) ?_
                refine L_run (dj := 70) rfl rfl rfl ?_
                refine L_pu (P_pick false (vb (c_.Now.Id == c_.Id)) (by exact congrArg Value.bool hq42) rfl) ?_
                refine L_pu (P_pick true (vb (c_.Now.Id == c_.Id)) (by exact congrArg Value.bool rfl) rfl) ?_
                refine L_pu (P_assign (vb (c_.Now.Id == c_.Id)) rfl) ?_
                refine L_nil ?_
                refine W_ret ?_
                exact ⟨[vb (c_.Now.Id == c_.Id)], ⟨_, rfl, rfl⟩, c_.Now.Id == c_.Id, rfl, H, hc82.gr⟩
              · have H := ite_f H hq83
                refine L_pass (dj := 78) rfl rfl (.inl (by exact congrArg Value.bool hq83)) ?_
                refine L_pass (dj := 78) rfl rfl (.inl (by exact congrArg Value.bool hq83)) ?_
                refine L_pass (dj := 78) rfl rfl (.inl (by exact congrArg Value.bool hq83)) ?_
                refine L_pass (dj := 78) rfl rfl (.inl (by exact congrArg Value.bool hq83)) ?_
                refine L_pass (dj := 78) rfl rfl (.inl (by exact congrArg Value.bool hq83)) ?_
                refine L_pass (dj := 78) rfl rfl (.inl (by exact congrArg Value.bool hq83)) ?_
                refine L_run (dj := 74) rfl rfl (by exact congrArg Value.bool hq42) ?_
                refine L_pu (P_pick false (vb false) (by exact congrArg Value.bool hq83) rfl) ?_
                refine L_run (dj := 70) rfl rfl rfl ?_
                refine L_pu (P_pick false (vb false) (by exact congrArg Value.bool hq42) rfl) ?_
                refine L_pu (P_pick true (vb false) (by exact congrArg Value.bool rfl) rfl) ?_
                refine L_pu (P_assign (vb false) rfl) ?_
                refine L_nil ?_
                refine W_ret ?_
                exact ⟨[vb false], ⟨_, rfl, rfl⟩, false, rfl, H, hc82.gr⟩
        · have H := ite_f H hq43
          refine L_pass (dj := 20) rfl rfl (.inl (by exact congrArg Value.bool hq43)) ?_
          refine L_pass (dj := 20) rfl rfl (.inl (by exact congrArg Value.bool hq43)) ?_
          refine L_run (dj := 17) rfl rfl (by exact congrArg Value.bool hq42) ?_
          refine L_pu (P_pick false (vb false) (by exact congrArg Value.bool hq43) rfl) ?_
          refine L_run (dj := 17) rfl rfl (by exact congrArg Value.bool hq42) ?_
          refine L_pu (P_move (vb false) rfl) ?_
          refine L_pass (dj := 24) rfl rfl (.inl rfl) ?_
          refine L_pass (dj := 24) rfl rfl (.inl rfl) ?_
          refine L_pass (dj := 24) rfl rfl (.inl rfl) ?_
          refine L_pass (dj := 24) rfl rfl (.inl rfl) ?_
          refine L_pass (dj := 24) rfl rfl (.inl rfl) ?_
          refine L_run (dj := 17) rfl rfl (by exact congrArg Value.bool hq42) ?_
          refine L_pu (P_pick false (vb false) (by exact congrArg Value.bool rfl) rfl) ?_
          refine L_pu (P_pick false (vb false) (by exact congrArg Value.bool hq42) rfl) ?_
          refine L_nil ?_
          refine W_cf (b := false) rfl rfl ?_
          refine W_skip ?_
          refine W_seq ?_
          refine W_seq ?_
          refine W_reg ?_
          refine L_pu (P_fa fa81_1 ⟨b25, 0, none⟩ ⟨b25, 1, none⟩ rfl rfl) ?_
          refine L_pu (P_ld ag4 cL ⟨b25, 1, none⟩ (vb c_.Had) rfl (h40.cell rfl)) ?_
          refine L_pu (P_not c_.Had rfl) ?_
          refine L_pu (P_move (vb (!c_.Had)) rfl) ?_
          refine L_run (dj := 35) rfl rfl (by exact congrArg Value.bool hq41) ?_
          refine L_pu (P_fa fa81_2 ⟨b25, 0, none⟩ ⟨b25, 2, none⟩ rfl rfl) ?_
          refine L_run (dj := 35) rfl rfl (by exact congrArg Value.bool hq41) ?_
          refine L_pu (P_lda ag79 sz79 cL ⟨b25, 2, none⟩ [vs c_.Was.Id, vi c_.Was.Shape.Kind, .slice A3 n4 c5, .slice A8 n9 c10] rfl rfl (h40.cells (off := 2) rfl)) ?_
          refine L_run (dj := 35) rfl rfl (by exact congrArg Value.bool hq41) ?_
          refine L_pu (P_build (.agg #[vs ([] : Str), vi 0, .slice none 0 0, .slice none 0 0]) (fun _ => by kernel_rfl)) ?_
          refine L_run (dj := 35) rfl rfl (by exact congrArg Value.bool hq41) ?_
          refine L_call go75 [.agg #[vs c_.Was.Id, vi c_.Was.Shape.Kind, .slice A3 n4 c5, .slice A8 n9 c10], .agg #[vs ([] : Str), vi 0, .slice none 0 0, .slice none 0 0]] rfl ((spec_FeatSame.calls w33 hc38.ok c_.Was A3 n4 c5 A8 n9 c10 hs2 (hp6.st hc38.st) (hp11.st hc38.st) (⟨([] : Str), (⟨0, []⟩ : Shape), []⟩ : Feat) none 0 0 none 0 0 (by decide) (Sl.nil _ _ _ none 0 (by decide)) (Sl.nil _ _ _ none 0 (by decide)) _ H).mono ?_)
          rintro _ w85 ⟨r7, rfl, H, g86⟩
          have hc90 := hc38.k0 g86
          refine L_run (dj := 35) rfl rfl (by exact congrArg Value.bool hq41) ?_
          refine L_pu (P_not r7 rfl) ?_
          refine L_pu (P_pick true (vb (!r7)) (by exact congrArg Value.bool hq41) rfl) ?_
          refine L_pu (P_move (vb (!r7)) rfl) ?_
          rcases bool_or (!r7) with hq91 | hq91
          · have H := ite_t H hq91
            refine L_pass (dj := 42) rfl rfl (.inl (by exact congrArg Value.bool hq91)) ?_
            refine L_pass (dj := 42) rfl rfl (.inl (by exact congrArg Value.bool hq91)) ?_
            refine L_pass (dj := 42) rfl rfl (.inl (by exact congrArg Value.bool hq91)) ?_
            refine L_pass (dj := 42) rfl rfl (.inl (by exact congrArg Value.bool hq91)) ?_
            refine L_pass (dj := 46) rfl rfl (.inr rfl) ?_
            refine L_pass (dj := 46) rfl rfl (.inr rfl) ?_
            refine L_pass (dj := 46) rfl rfl (.inr rfl) ?_
            refine L_pass (dj := 46) rfl rfl (.inr rfl) ?_
            refine L_pass (dj := 46) rfl rfl (.inr rfl) ?_
            refine L_pass (dj := 42) rfl rfl (.inl (by exact congrArg Value.bool hq91)) ?_
            refine L_pu (P_pick true (vb true) (by exact congrArg Value.bool hq91) rfl) ?_
            refine L_nil ?_
            refine W_ct (b := true) rfl rfl ?_
            refine W_seq ?_
            refine W_reg ?_
            refine L_pu (P_assign (vb false) rfl) ?_
            refine L_nil ?_
            refine W_ret ?_
            exact ⟨[vb false], ⟨_, rfl, rfl⟩, false, rfl, H, hc90.gr⟩
          · have H := ite_f H hq91
            refine L_run (dj := 42) rfl rfl (by exact congrArg Value.bool hq91) ?_
            refine L_pu (P_fa fa81_3 ⟨b25, 0, none⟩ ⟨b25, 6, none⟩ rfl rfl) ?_
            refine L_run (dj := 42) rfl rfl (by exact congrArg Value.bool hq91) ?_
            have h92 := (h40.st (.new _ g86))
            refine L_pu (P_ld ag4 cL ⟨b25, 6, none⟩ (vb c_.Has) rfl (h92.cell rfl)) ?_
            refine L_run (dj := 42) rfl rfl (by exact congrArg Value.bool hq91) ?_
            refine L_pu (P_not c_.Has rfl) ?_
            refine L_run (dj := 42) rfl rfl (by exact congrArg Value.bool hq91) ?_
            refine L_pu (P_move (vb (!c_.Has)) rfl) ?_
            refine L_pass (dj := 46) rfl rfl (.inl (by exact congrArg Value.bool hq42)) ?_
            refine L_pass (dj := 46) rfl rfl (.inl (by exact congrArg Value.bool hq42)) ?_
            refine L_pass (dj := 46) rfl rfl (.inl (by exact congrArg Value.bool hq42)) ?_
            refine L_pass (dj := 46) rfl rfl (.inl (by exact congrArg Value.bool hq42)) ?_
            refine L_pass (dj := 46) rfl rfl (.inl (by exact congrArg Value.bool hq42)) ?_
            refine L_run (dj := 42) rfl rfl (by exact congrArg Value.bool hq91) ?_
            refine L_pu (P_pick false (vb false) (by exact congrArg Value.bool hq42) rfl) ?_
            refine L_pu (P_pick false (vb false) (by exact congrArg Value.bool hq91) rfl) ?_
            refine L_nil ?_
            refine W_cf (b := false) rfl rfl ?_
            refine W_skip ?_
            refine W_seq ?_
            refine W_reg ?_
            refine L_pu (P_fa fa81_1 ⟨b25, 0, none⟩ ⟨b25, 1, none⟩ rfl rfl) ?_
            refine L_pu (P_ld ag4 cL ⟨b25, 1, none⟩ (vb c_.Had) rfl (h92.cell rfl)) ?_
            refine L_pu (P_not c_.Had rfl) ?_
            refine L_pu (P_move (vb (!c_.Had)) rfl) ?_
            refine L_pass (dj := 57) rfl rfl (.inl (by exact congrArg Value.bool hq41)) ?_
            refine L_pass (dj := 57) rfl rfl (.inl (by exact congrArg Value.bool hq41)) ?_
            refine L_pass (dj := 57) rfl rfl (.inl (by exact congrArg Value.bool hq41)) ?_
            refine L_pass (dj := 57) rfl rfl (.inl (by exact congrArg Value.bool hq41)) ?_
            refine L_pass (dj := 61) rfl rfl (.inr rfl) ?_
            refine L_pass (dj := 61) rfl rfl (.inr rfl) ?_
            refine L_pass (dj := 61) rfl rfl (.inr rfl) ?_
            refine L_pass (dj := 61) rfl rfl (.inr rfl) ?_
            refine L_pass (dj := 61) rfl rfl (.inr rfl) ?_
            refine L_pass (dj := 61) rfl rfl (.inr rfl) ?_
            refine L_pass (dj := 57) rfl rfl (.inl (by exact congrArg Value.bool hq41)) ?_
            refine L_pu (P_pick true (vb true) (by exact congrArg Value.bool hq41) rfl) ?_
            refine L_pu (P_move (vb true) rfl) ?_
            refine L_run (dj := 70) rfl rfl rfl ?_
            refine L_pu (P_fa fa81_3 ⟨b25, 0, none⟩ ⟨b25, 6, none⟩ rfl rfl) ?_
            refine L_run (dj := 70) rfl rfl rfl ?_
            refine L_pu (P_ld ag4 cL ⟨b25, 6, none⟩ (vb c_.Has) rfl (h92.cell rfl)) ?_
            refine L_run (dj := 70) rfl rfl rfl ?_
            refine L_pu (P_not c_.Has rfl) ?_
            refine L_run (dj := 70) rfl rfl rfl ?_
            refine L_pu (P_move (vb (!c_.Has)) rfl) ?_
            refine L_run (dj := 74) rfl rfl (by exact congrArg Value.bool hq42) ?_
            refine L_pu (P_fa fa81_4 ⟨b25, 0, none⟩ ⟨b25, 7, none⟩ rfl rfl) ?_
            refine L_run (dj := 74) rfl rfl (by exact congrArg Value.bool hq42) ?_
            refine L_pu (P_lda ag79 sz79 cL ⟨b25, 7, none⟩ [vs c_.Now.Id, vi c_.Now.Shape.Kind, .slice A14 n15 c16, .slice A19 n20 c21] rfl rfl (h92.cells (off := 7) rfl)) ?_
            refine L_run (dj := 74) rfl rfl (by exact congrArg Value.bool hq42) ?_
            refine L_call go76 [.agg #[vs c_.Now.Id, vi c_.Now.Shape.Kind, .slice A14 n15 c16, .slice A19 n20 c21]] rfl ((spec_FeatOk.calls w85 hc90.ok c_.Now A14 n15 c16 A19 n20 c21 hs13 (hp17.st hc90.st) (hp22.st hc90.st) _ H).mono ?_)
            rintro _ w93 ⟨r8, rfl, H, g94⟩
            have hc98 := hc90.k0 g94
            refine L_run (dj := 74) rfl rfl (by exact congrArg Value.bool hq42) ?_
            refine L_pu (P_move (vb r8) rfl) ?_
            rcases bool_or r8 with hq99 | hq99
            · have H := ite_t H hq99
              refine L_run (dj := 78) rfl rfl (by exact congrArg Value.bool hq99) ?_
              refine L_pu (P_fa fa81_4 ⟨b25, 0, none⟩ ⟨b25, 7, none⟩ rfl rfl) ?_
              refine L_run (dj := 78) rfl rfl (by exact congrArg Value.bool hq99) ?_
              refine L_pu (P_fa fa79_0 ⟨b25, 7, none⟩ ⟨b25, 7, none⟩ rfl rfl) ?_
              refine L_run (dj := 78) rfl rfl (by exact congrArg Value.bool hq99) ?_
              have h100 := (h92.st (.new _ g94))
              refine L_pu (P_ld ag9 cL ⟨b25, 7, none⟩ (vs c_.Now.Id) rfl (h100.cell rfl)) ?_
              refine L_run (dj := 78) rfl rfl (by exact congrArg Value.bool hq99) ?_
              refine L_pu (P_fa fa81_0 ⟨b25, 0, none⟩ ⟨b25, 0, none⟩ rfl rfl) ?_
              refine L_run (dj := 78) rfl rfl (by exact congrArg Value.bool hq99) ?_
              refine L_pu (P_ld ag9 cL ⟨b25, 0, none⟩ (vs c_.Id) rfl (h100.cell rfl)) ?_
              refine L_run (dj := 78) rfl rfl (by exact congrArg Value.bool hq99) ?_
              refine L_pu (P_scmp c_.Now.Id c_.Id (c_.Now.Id == c_.Id) rfl rfl rfl) ?_
              refine L_run (dj := 74) rfl rfl (by exact congrArg Value.bool hq42) ?_
              refine L_pu (P_pick true (vb (c_.Now.Id == c_.Id)) (by exact congrArg Value.bool hq99) rfl) ?_
              refine L_run (dj := 70) rfl rfl rfl ?_
              refine L_pu (P_pick false (vb (c_.Now.Id == c_.Id)) (by exact congrArg Value.bool hq42) rfl) ?_
              refine L_pu (P_pick true (vb (c_.Now.Id == c_.Id)) (by exact congrArg Value.bool rfl) rfl) ?_
              refine L_pu (P_assign (vb (c_.Now.Id == c_.Id)) rfl) ?_
              refine L_nil ?_
              refine W_ret ?_
              exact ⟨[vb (c_.Now.Id == c_.Id)], ⟨_, rfl, rfl⟩, c_.Now.Id == c_.Id, rfl, H, hc98.gr⟩
            · have H := ite_f H hq99
              refine L_pass (dj := 78) rfl rfl (.inl (by exact congrArg Value.bool hq99)) ?_
              refine L_pass (dj := 78) rfl rfl (.inl (by exact congrArg Value.bool hq99)) ?_
              refine L_pass (dj := 78) rfl rfl (.inl (by exact congrArg Value.bool hq99)) ?_
              refine L_pass (dj := 78) rfl rfl (.inl (by exact congrArg Value.bool hq99)) ?_
              refine L_pass (dj := 78) rfl rfl (.inl (by exact congrArg Value.bool hq99)) ?_
              refine L_pass (dj := 78) rfl rfl (.inl (by exact congrArg Value.bool hq99)) ?_
              refine L_run (dj := 74) rfl rfl (by exact congrArg Value.bool hq42) ?_
              refine L_pu (P_pick false (vb false) (by exact congrArg Value.bool hq99) rfl) ?_
              refine L_run (dj := 70) rfl rfl rfl ?_
              refine L_pu (P_pick false (vb false) (by exact congrArg Value.bool hq42) rfl) ?_
              refine L_pu (P_pick true (vb false) (by exact congrArg Value.bool rfl) rfl) ?_
              refine L_pu (P_assign (vb false) rfl) ?_
              refine L_nil ?_
              refine W_ret ?_
              exact ⟨[vb false], ⟨_, rfl, rfl⟩, false, rfl, H, hc98.gr⟩
    · have H := ite_f H hq41
      refine L_pass (dj := 11) rfl rfl (.inl (by exact congrArg Value.bool hq41)) ?_
      refine L_pass (dj := 11) rfl rfl (.inl (by exact congrArg Value.bool hq41)) ?_
      refine L_pass (dj := 11) rfl rfl (.inl (by exact congrArg Value.bool hq41)) ?_
      refine L_run (dj := 7) rfl rfl (by exact congrArg Value.bool hq39) ?_
      refine L_pu (P_pick false (vb false) (by exact congrArg Value.bool hq41) rfl) ?_
      refine L_pu (P_pick false (vb false) (by exact congrArg Value.bool hq39) rfl) ?_
      refine L_pu (P_move (vb false) rfl) ?_
      refine L_run (dj := 17) rfl rfl rfl ?_
      refine L_pu (P_fa fa81_1 ⟨b25, 0, none⟩ ⟨b25, 1, none⟩ rfl rfl) ?_
      refine L_run (dj := 17) rfl rfl rfl ?_
      refine L_pu (P_ld ag4 cL ⟨b25, 1, none⟩ (vb c_.Had) rfl (h40.cell rfl)) ?_
      refine L_run (dj := 17) rfl rfl rfl ?_
      refine L_pu (P_move (vb c_.Had) rfl) ?_
      rcases bool_or c_.Had with hq101 | hq101
      · have H := ite_t H hq101
        refine L_run (dj := 20) rfl rfl (by exact congrArg Value.bool hq101) ?_
        refine L_pu (P_fa fa81_3 ⟨b25, 0, none⟩ ⟨b25, 6, none⟩ rfl rfl) ?_
        refine L_run (dj := 20) rfl rfl (by exact congrArg Value.bool hq101) ?_
        refine L_pu (P_ld ag4 cL ⟨b25, 6, none⟩ (vb c_.Has) rfl (h40.cell rfl)) ?_
        refine L_run (dj := 17) rfl rfl rfl ?_
        refine L_pu (P_pick true (vb c_.Has) (by exact congrArg Value.bool hq101) rfl) ?_
        refine L_run (dj := 17) rfl rfl rfl ?_
        refine L_pu (P_move (vb c_.Has) rfl) ?_
        rcases bool_or c_.Has with hq102 | hq102
        · have H := ite_t H hq102
          refine L_run (dj := 24) rfl rfl (by exact congrArg Value.bool hq102) ?_
          refine L_pu (P_fa fa81_2 ⟨b25, 0, none⟩ ⟨b25, 2, none⟩ rfl rfl) ?_
          refine L_run (dj := 24) rfl rfl (by exact congrArg Value.bool hq102) ?_
          refine L_pu (P_lda ag79 sz79 cL ⟨b25, 2, none⟩ [vs c_.Was.Id, vi c_.Was.Shape.Kind, .slice A3 n4 c5, .slice A8 n9 c10] rfl rfl (h40.cells (off := 2) rfl)) ?_
          refine L_run (dj := 24) rfl rfl (by exact congrArg Value.bool hq102) ?_
          refine L_pu (P_fa fa81_4 ⟨b25, 0, none⟩ ⟨b25, 7, none⟩ rfl rfl) ?_
          refine L_run (dj := 24) rfl rfl (by exact congrArg Value.bool hq102) ?_
          refine L_pu (P_lda ag79 sz79 cL ⟨b25, 7, none⟩ [vs c_.Now.Id, vi c_.Now.Shape.Kind, .slice A14 n15 c16, .slice A19 n20 c21] rfl rfl (h40.cells (off := 7) rfl)) ?_
          refine L_run (dj := 24) rfl rfl (by exact congrArg Value.bool hq102) ?_
          refine L_call go75 [.agg #[vs c_.Was.Id, vi c_.Was.Shape.Kind, .slice A3 n4 c5, .slice A8 n9 c10], .agg #[vs c_.Now.Id, vi c_.Now.Shape.Kind, .slice A14 n15 c16, .slice A19 n20 c21]] rfl ((spec_FeatSame.calls w33 hc38.ok c_.Was A3 n4 c5 A8 n9 c10 hs2 (hp6.st hc38.st) (hp11.st hc38.st) c_.Now A14 n15 c16 A19 n20 c21 hs13 (hp17.st hc38.st) (hp22.st hc38.st) _ H).mono ?_)
          rintro _ w103 ⟨r9, rfl, H, g104⟩
          have hc108 := hc38.k0 g104
          refine L_run (dj := 17) rfl rfl rfl ?_
          refine L_pu (P_pick true (vb r9) (by exact congrArg Value.bool hq102) rfl) ?_
          refine L_pu (P_pick false (vb r9) (by exact congrArg Value.bool rfl) rfl) ?_
          refine L_nil ?_
          refine W_cond r9 rfl (fun hq109 => ?_) (fun hq109 => ?_)
          · have H := ite_t H hq109
            refine W_seq ?_
            refine W_reg ?_
            refine L_pu (P_assign (vb false) rfl) ?_
            refine L_nil ?_
            refine W_ret ?_
            exact ⟨[vb false], ⟨_, rfl, rfl⟩, false, rfl, H, hc108.gr⟩
          · have H := ite_f H hq109
            refine W_skip ?_
            refine W_seq ?_
            refine W_seq ?_
            refine W_reg ?_
            refine L_pu (P_fa fa81_1 ⟨b25, 0, none⟩ ⟨b25, 1, none⟩ rfl rfl) ?_
            have h110 := (h40.st (.new _ g104))
            refine L_pu (P_ld ag4 cL ⟨b25, 1, none⟩ (vb c_.Had) rfl (h110.cell rfl)) ?_
            refine L_pu (P_not c_.Had rfl) ?_
            refine L_pu (P_move (vb (!c_.Had)) rfl) ?_
            refine L_pass (dj := 35) rfl rfl (.inl (by exact congrArg Value.bool hq41)) ?_
            refine L_pass (dj := 35) rfl rfl (.inl (by exact congrArg Value.bool hq41)) ?_
            refine L_pass (dj := 35) rfl rfl (.inl (by exact congrArg Value.bool hq41)) ?_
            refine L_pass (dj := 35) rfl rfl (.inl (by exact congrArg Value.bool hq41)) ?_
            refine L_pass (dj := 35) rfl rfl (.inl (by exact congrArg Value.bool hq41)) ?_
            refine L_pu (P_pick false (vb false) (by exact congrArg Value.bool hq41) rfl) ?_
            refine L_pu (P_move (vb false) rfl) ?_
            refine L_run (dj := 42) rfl rfl rfl ?_
            refine L_pu (P_fa fa81_3 ⟨b25, 0, none⟩ ⟨b25, 6, none⟩ rfl rfl) ?_
            refine L_run (dj := 42) rfl rfl rfl ?_
            refine L_pu (P_ld ag4 cL ⟨b25, 6, none⟩ (vb c_.Has) rfl (h110.cell rfl)) ?_
            refine L_run (dj := 42) rfl rfl rfl ?_
            refine L_pu (P_not c_.Has rfl) ?_
            refine L_run (dj := 42) rfl rfl rfl ?_
            refine L_pu (P_move (vb (!c_.Has)) rfl) ?_
            rcases bool_or (!c_.Has) with hq111 | hq111
            · have H := ite_t H hq111
              refine L_run (dj := 46) rfl rfl (by exact congrArg Value.bool hq111) ?_
              refine L_pu (P_fa fa81_4 ⟨b25, 0, none⟩ ⟨b25, 7, none⟩ rfl rfl) ?_
              refine L_run (dj := 46) rfl rfl (by exact congrArg Value.bool hq111) ?_
              refine L_pu (P_lda ag79 sz79 cL ⟨b25, 7, none⟩ [vs c_.Now.Id, vi c_.Now.Shape.Kind, .slice A14 n15 c16, .slice A19 n20 c21] rfl rfl (h110.cells (off := 7) rfl)) ?_
              refine L_run (dj := 46) rfl rfl (by exact congrArg Value.bool hq111) ?_
              refine L_pu (P_build (.agg #[vs ([] : Str), vi 0, .slice none 0 0, .slice none 0 0]) (fun _ => by kernel_rfl)) ?_
              refine L_run (dj := 46) rfl rfl (by exact congrArg Value.bool hq111) ?_
              refine L_call go75 [.agg #[vs c_.Now.Id, vi c_.Now.Shape.Kind, .slice A14 n15 c16, .slice A19 n20 c21], .agg #[vs ([] : Str), vi 0, .slice none 0 0, .slice none 0 0]] rfl ((spec_FeatSame.calls w103 hc108.ok c_.Now A14 n15 c16 A19 n20 c21 hs13 (hp17.st hc108.st) (hp22.st hc108.st) (⟨([] : Str), (⟨0, []⟩ : Shape), []⟩ : Feat) none 0 0 none 0 0 (by decide) (Sl.nil _ _ _ none 0 (by decide)) (Sl.nil _ _ _ none 0 (by decide)) _ H).mono ?_)
              rintro _ w112 ⟨r10, rfl, H, g113⟩
              have hc117 := hc108.k0 g113
              refine L_run (dj := 46) rfl rfl (by exact congrArg Value.bool hq111) ?_
              refine L_pu (P_not r10 rfl) ?_
              refine L_run (dj := 42) rfl rfl rfl ?_
              refine L_pu (P_pick true (vb (!r10)) (by exact congrArg Value.bool hq111) rfl) ?_
              refine L_pu (P_pick false (vb (!r10)) (by exact congrArg Value.bool rfl) rfl) ?_
              refine L_nil ?_
              refine W_cond (!r10) rfl (fun hq118 => ?_) (fun hq118 => ?_)
              · have H := ite_t H hq118
                refine W_seq ?_
                refine W_reg ?_
                refine L_pu (P_assign (vb false) rfl) ?_
                refine L_nil ?_
                refine W_ret ?_
                exact ⟨[vb false], ⟨_, rfl, rfl⟩, false, rfl, H, hc117.gr⟩
              · have H := ite_f H hq118
                refine W_skip ?_
                refine W_seq ?_
                refine W_reg ?_
                refine L_pu (P_fa fa81_1 ⟨b25, 0, none⟩ ⟨b25, 1, none⟩ rfl rfl) ?_
                have h119 := (h110.st (.new _ g113))
                refine L_pu (P_ld ag4 cL ⟨b25, 1, none⟩ (vb c_.Had) rfl (h119.cell rfl)) ?_
                refine L_pu (P_not c_.Had rfl) ?_
                refine L_pu (P_move (vb (!c_.Had)) rfl) ?_
                refine L_run (dj := 57) rfl rfl (by exact congrArg Value.bool hq41) ?_
                refine L_pu (P_fa fa81_2 ⟨b25, 0, none⟩ ⟨b25, 2, none⟩ rfl rfl) ?_
                refine L_run (dj := 57) rfl rfl (by exact congrArg Value.bool hq41) ?_
                refine L_pu (P_lda ag79 sz79 cL ⟨b25, 2, none⟩ [vs c_.Was.Id, vi c_.Was.Shape.Kind, .slice A3 n4 c5, .slice A8 n9 c10] rfl rfl (h119.cells (off := 2) rfl)) ?_
                refine L_run (dj := 57) rfl rfl (by exact congrArg Value.bool hq41) ?_
                refine L_call go76 [.agg #[vs c_.Was.Id, vi c_.Was.Shape.Kind, .slice A3 n4 c5, .slice A8 n9 c10]] rfl ((spec_FeatOk.calls w112 hc117.ok c_.Was A3 n4 c5 A8 n9 c10 hs2 (hp6.st hc117.st) (hp11.st hc117.st) _ H).mono ?_)
                rintro _ w120 ⟨r11, rfl, H, g121⟩
                have hc125 := hc117.k0 g121
                refine L_run (dj := 57) rfl rfl (by exact congrArg Value.bool hq41) ?_
                refine L_pu (P_move (vb r11) rfl) ?_
                rcases bool_or r11 with hq126 | hq126
                · have H := ite_t H hq126
                  refine L_run (dj := 61) rfl rfl (by exact congrArg Value.bool hq126) ?_
                  refine L_pu (P_fa fa81_2 ⟨b25, 0, none⟩ ⟨b25, 2, none⟩ rfl rfl) ?_
                  refine L_run (dj := 61) rfl rfl (by exact congrArg Value.bool hq126) ?_
                  refine L_pu (P_fa fa79_0 ⟨b25, 2, none⟩ ⟨b25, 2, none⟩ rfl rfl) ?_
                  refine L_run (dj := 61) rfl rfl (by exact congrArg Value.bool hq126) ?_
                  have h127 := (h119.st (.new _ g121))
                  refine L_pu (P_ld ag9 cL ⟨b25, 2, none⟩ (vs c_.Was.Id) rfl (h127.cell rfl)) ?_
                  refine L_run (dj := 61) rfl rfl (by exact congrArg Value.bool hq126) ?_
                  refine L_pu (P_fa fa81_0 ⟨b25, 0, none⟩ ⟨b25, 0, none⟩ rfl rfl) ?_
                  refine L_run (dj := 61) rfl rfl (by exact congrArg Value.bool hq126) ?_
                  refine L_pu (P_ld ag9 cL ⟨b25, 0, none⟩ (vs c_.Id) rfl (h127.cell rfl)) ?_
                  refine L_run (dj := 61) rfl rfl (by exact congrArg Value.bool hq126) ?_
                  refine L_pu (P_scmp c_.Was.Id c_.Id (c_.Was.Id == c_.Id) rfl rfl rfl) ?_
                  refine L_run (dj := 57) rfl rfl (by exact congrArg Value.bool hq41) ?_
                  refine L_pu (P_pick true (vb (c_.Was.Id == c_.Id)) (by exact congrArg Value.bool hq126) rfl) ?_
                  refine L_pu (P_pick false (vb (c_.Was.Id == c_.Id)) (by exact congrArg Value.bool hq41) rfl) ?_
                  refine L_pu (P_move (vb (c_.Was.Id == c_.Id)) rfl) ?_
                  rcases bool_or (c_.Was.Id == c_.Id) with hq128 | hq128
                  · have H := ite_t H hq128
                    refine L_run (dj := 70) rfl rfl (by exact congrArg Value.bool hq128) ?_
                    refine L_pu (P_fa fa81_3 ⟨b25, 0, none⟩ ⟨b25, 6, none⟩ rfl rfl) ?_
                    refine L_run (dj := 70) rfl rfl (by exact congrArg Value.bool hq128) ?_
                    refine L_pu (P_ld ag4 cL ⟨b25, 6, none⟩ (vb c_.Has) rfl (h127.cell rfl)) ?_
                    refine L_run (dj := 70) rfl rfl (by exact congrArg Value.bool hq128) ?_
                    refine L_pu (P_not c_.Has rfl) ?_
                    refine L_run (dj := 70) rfl rfl (by exact congrArg Value.bool hq128) ?_
                    refine L_pu (P_move (vb (!c_.Has)) rfl) ?_
                    refine L_pass (dj := 74) rfl rfl (.inl (by exact congrArg Value.bool hq111)) ?_
                    refine L_pass (dj := 74) rfl rfl (.inl (by exact congrArg Value.bool hq111)) ?_
                    refine L_pass (dj := 74) rfl rfl (.inl (by exact congrArg Value.bool hq111)) ?_
                    refine L_pass (dj := 74) rfl rfl (.inl (by exact congrArg Value.bool hq111)) ?_
                    refine L_pass (dj := 78) rfl rfl (.inr rfl) ?_
                    refine L_pass (dj := 78) rfl rfl (.inr rfl) ?_
                    refine L_pass (dj := 78) rfl rfl (.inr rfl) ?_
                    refine L_pass (dj := 78) rfl rfl (.inr rfl) ?_
                    refine L_pass (dj := 78) rfl rfl (.inr rfl) ?_
                    refine L_pass (dj := 78) rfl rfl (.inr rfl) ?_
                    refine L_pass (dj := 74) rfl rfl (.inl (by exact congrArg Value.bool hq111)) ?_
                    refine L_run (dj := 70) rfl rfl (by exact congrArg Value.bool hq128) ?_
                    refine L_pu (P_pick true (vb true) (by exact congrArg Value.bool hq111) rfl) ?_
                    refine L_pu (P_pick true (vb true) (by exact congrArg Value.bool hq128) rfl) ?_
                    refine L_pu (P_assign (vb true) rfl) ?_
                    refine L_nil ?_
                    refine W_ret ?_
                    exact ⟨[vb true], ⟨_, rfl, rfl⟩, true, rfl, H, hc125.gr⟩
                  · have H := ite_f H hq128
                    refine L_pass (dj := 70) rfl rfl (.inl (by exact congrArg Value.bool hq128)) ?_
                    refine L_pass (dj := 70) rfl rfl (.inl (by exact congrArg Value.bool hq128)) ?_
                    refine L_pass (dj := 70) rfl rfl (.inl (by exact congrArg Value.bool hq128)) ?_
                    refine L_pass (dj := 70) rfl rfl (.inl (by exact congrArg Value.bool hq128)) ?_
                    refine L_pass (dj := 74) rfl rfl (.inr rfl) ?_
                    refine L_pass (dj := 74) rfl rfl (.inr rfl) ?_
                    refine L_pass (dj := 74) rfl rfl (.inr rfl) ?_
                    refine L_pass (dj := 74) rfl rfl (.inr rfl) ?_
                    refine L_pass (dj := 78) rfl rfl (.inr rfl) ?_
                    refine L_pass (dj := 78) rfl rfl (.inr rfl) ?_
                    refine L_pass (dj := 78) rfl rfl (.inr rfl) ?_
                    refine L_pass (dj := 78) rfl rfl (.inr rfl) ?_
                    refine L_pass (dj := 78) rfl rfl (.inr rfl) ?_
                    refine L_pass (dj := 78) rfl rfl (.inr rfl) ?_
                    refine L_pass (dj := 74) rfl rfl (.inr rfl) ?_
                    refine L_pass (dj := 70) rfl rfl (.inl (by exact congrArg Value.bool hq128)) ?_
                    refine L_pu (P_pick false (vb false) (by exact congrArg Value.bool hq128) rfl) ?_
                    refine L_pu (P_assign (vb false) rfl) ?_
                    refine L_nil ?_
                    refine W_ret ?_
                    exact ⟨[vb false], ⟨_, rfl, rfl⟩, false, rfl, H, hc125.gr⟩
                · have H := ite_f H hq126
                  refine L_pass (dj := 61) rfl rfl (.inl (by exact congrArg Value.bool hq126)) ?_
                  refine L_pass (dj := 61) rfl rfl (.inl (by exact congrArg Value.bool hq126)) ?_
                  refine L_pass (dj := 61) rfl rfl (.inl (by exact congrArg Value.bool hq126)) ?_
                  refine L_pass (dj := 61) rfl rfl (.inl (by exact congrArg Value.bool hq126)) ?_
                  refine L_pass (dj := 61) rfl rfl (.inl (by exact congrArg Value.bool hq126)) ?_
                  refine L_pass (dj := 61) rfl rfl (.inl (by exact congrArg Value.bool hq126)) ?_
                  refine L_run (dj := 57) rfl rfl (by exact congrArg Value.bool hq41) ?_
                  refine L_pu (P_pick false (vb false) (by exact congrArg Value.bool hq126) rfl) ?_
                  refine L_pu (P_pick false (vb false) (by exact congrArg Value.bool hq41) rfl) ?_
                  refine L_pu (P_move (vb false) rfl) ?_
                  refine L_pass (dj := 70) rfl rfl (.inl rfl) ?_
                  refine L_pass (dj := 70) rfl rfl (.inl rfl) ?_
                  refine L_pass (dj := 70) rfl rfl (.inl rfl) ?_
                  refine L_pass (dj := 70) rfl rfl (.inl rfl) ?_
                  refine L_pass (dj := 74) rfl rfl (.inr rfl) ?_
                  refine L_pass (dj := 74) rfl rfl (.inr rfl) ?_
                  refine L_pass (dj := 74) rfl rfl (.inr rfl) ?_
                  refine L_pass (dj := 74) rfl rfl (.inr rfl) ?_
                  refine L_pass (dj := 78) rfl rfl (.inr rfl) ?_
                  refine L_pass (dj := 78) rfl rfl (.inr rfl) ?_
                  refine L_pass (dj := 78) rfl rfl (.inr rfl) ?_
                  refine L_pass (dj := 78) rfl rfl (.inr rfl) ?_
                  refine L_pass (dj := 78) rfl rfl (.inr rfl) ?_
                  refine L_pass (dj := 78) rfl rfl (.inr rfl) ?_
                  refine L_pass (dj := 74) rfl rfl (.inr rfl) ?_
                  refine L_pass (dj := 70) rfl rfl (.inl rfl) ?_
                  refine L_pu (P_pick false (vb false) (by exact congrArg Value.bool rfl) rfl) ?_
                  refine L_pu (P_assign (vb false) rfl) ?_
                  refine L_nil ?_
                  refine W_ret ?_
                  exact ⟨[vb false], ⟨_, rfl, rfl⟩, false, rfl, H, hc125.gr⟩
            · have H := ite_f H hq111
              refine L_pass (dj := 46) rfl rfl (.inl (by exact congrArg Value.bool hq111)) ?_
              refine L_pass (dj := 46) rfl rfl (.inl (by exact congrArg Value.bool hq111)) ?_
              refine L_pass (dj := 46) rfl rfl (.inl (by exact congrArg Value.bool hq111)) ?_
              refine L_pass (dj := 46) rfl rfl (.inl (by exact congrArg Value.bool hq111)) ?_
              refine L_pass (dj := 46) rfl rfl (.inl (by exact congrArg Value.bool hq111)) ?_
              refine L_run (dj := 42) rfl rfl rfl ?_
              refine L_pu (P_pick false (vb false) (by exact congrArg Value.bool hq111) rfl) ?_
              refine L_pu (P_pick false (vb false) (by exact congrArg Value.bool rfl) rfl) ?_
              refine L_nil ?_
              refine W_cf (b := false) rfl rfl ?_
              refine W_skip ?_
              refine W_seq ?_
              refine W_reg ?_
              refine L_pu (P_fa fa81_1 ⟨b25, 0, none⟩ ⟨b25, 1, none⟩ rfl rfl) ?_
              refine L_pu (P_ld ag4 cL ⟨b25, 1, none⟩ (vb c_.Had) rfl (h110.cell rfl)) ?_
              refine L_pu (P_not c_.Had rfl) ?_
              refine L_pu (P_move (vb (!c_.Had)) rfl) ?_
              refine L_run (dj := 57) rfl rfl (by exact congrArg Value.bool hq41) ?_
              refine L_pu (P_fa fa81_2 ⟨b25, 0, none⟩ ⟨b25, 2, none⟩ rfl rfl) ?_
              refine L_run (dj := 57) rfl rfl (by exact congrArg Value.bool hq41) ?_
              refine L_pu (P_lda ag79 sz79 cL ⟨b25, 2, none⟩ [vs c_.Was.Id, vi c_.Was.Shape.Kind, .slice A3 n4 c5, .slice A8 n9 c10] rfl rfl (h110.cells (off := 2) rfl)) ?_
              refine L_run (dj := 57) rfl rfl (by exact congrArg Value.bool hq41) ?_
              refine L_call go76 [.agg #[vs c_.Was.Id, vi c_.Was.Shape.Kind, .slice A3 n4 c5, .slice A8 n9 c10]] rfl ((spec_FeatOk.calls w103 hc108.ok c_.Was A3 n4 c5 A8 n9 c10 hs2 (hp6.st hc108.st) (hp11.st hc108.st) _ H).mono ?_)
              rintro _ w129 ⟨r12, rfl, H, g130⟩
              have hc134 := hc108.k0 g130
              refine L_run (dj := 57) rfl rfl (by exact congrArg Value.bool hq41) ?_
              refine L_pu (P_move (vb r12) rfl) ?_
              rcases bool_or r12 with hq135 | hq135
              · have H := ite_t H hq135
                refine L_run (dj := 61) rfl rfl (by exact congrArg Value.bool hq135) ?_
                refine L_pu (P_fa fa81_2 ⟨b25, 0, none⟩ ⟨b25, 2, none⟩ rfl rfl) ?_
                refine L_run (dj := 61) rfl rfl (by exact congrArg Value.bool hq135) ?_
                refine L_pu (P_fa fa79_0 ⟨b25, 2, none⟩ ⟨b25, 2, none⟩ rfl rfl) ?_
                refine L_run (dj := 61) rfl rfl (by exact congrArg Value.bool hq135) ?_
                have h136 := (h110.st (.new _ g130))
                refine L_pu (P_ld ag9 cL ⟨b25, 2, none⟩ (vs c_.Was.Id) rfl (h136.cell rfl)) ?_
                refine L_run (dj := 61) rfl rfl (by exact congrArg Value.bool hq135) ?_
                refine L_pu (P_fa fa81_0 ⟨b25, 0, none⟩ ⟨b25, 0, none⟩ rfl rfl) ?_
                refine L_run (dj := 61) rfl rfl (by exact congrArg Value.bool hq135) ?_
                refine L_pu (P_ld ag9 cL ⟨b25, 0, none⟩ (vs c_.Id) rfl (h136.cell rfl)) ?_
                refine L_run (dj := 61) rfl rfl (by exact congrArg Value.bool hq135) ?_
                refine L_pu (P_scmp c_.Was.Id c_.Id (c_.Was.Id == c_.Id) rfl rfl rfl) ?_
                refine L_run (dj := 57) rfl rfl (by exact congrArg Value.bool hq41) ?_
                refine L_pu (P_pick true (vb (c_.Was.Id == c_.Id)) (by exact congrArg Value.bool hq135) rfl) ?_
                refine L_pu (P_pick false (vb (c_.Was.Id == c_.Id)) (by exact congrArg Value.bool hq41) rfl) ?_
                refine L_pu (P_move (vb (c_.Was.Id == c_.Id)) rfl) ?_
                rcases bool_or (c_.Was.Id == c_.Id) with hq137 | hq137
                · have H := ite_t H hq137
                  refine L_run (dj := 70) rfl rfl (by exact congrArg Value.bool hq137) ?_
                  refine L_pu (P_fa fa81_3 ⟨b25, 0, none⟩ ⟨b25, 6, none⟩ rfl rfl) ?_
                  refine L_run (dj := 70) rfl rfl (by exact congrArg Value.bool hq137) ?_
                  refine L_pu (P_ld ag4 cL ⟨b25, 6, none⟩ (vb c_.Has) rfl (h136.cell rfl)) ?_
                  refine L_run (dj := 70) rfl rfl (by exact congrArg Value.bool hq137) ?_
                  refine L_pu (P_not c_.Has rfl) ?_
                  refine L_run (dj := 70) rfl rfl (by exact congrArg Value.bool hq137) ?_
                  refine L_pu (P_move (vb (!c_.Has)) rfl) ?_
                  refine L_run (dj := 74) rfl rfl (by exact congrArg Value.bool hq111) ?_
                  refine L_pu (P_fa fa81_4 ⟨b25, 0, none⟩ ⟨b25, 7, none⟩ rfl rfl) ?_
                  refine L_run (dj := 74) rfl rfl (by exact congrArg Value.bool hq111) ?_
                  refine L_pu (P_lda ag79 sz79 cL ⟨b25, 7, none⟩ [vs c_.Now.Id, vi c_.Now.Shape.Kind, .slice A14 n15 c16, .slice A19 n20 c21] rfl rfl (h136.cells (off := 7) rfl)) ?_
                  refine L_run (dj := 74) rfl rfl (by exact congrArg Value.bool hq111) ?_
                  refine L_call go76 [.agg #[vs c_.Now.Id, vi c_.Now.Shape.Kind, .slice A14 n15 c16, .slice A19 n20 c21]] rfl ((spec_FeatOk.calls w129 hc134.ok c_.Now A14 n15 c16 A19 n20 c21 hs13 (hp17.st hc134.st) (hp22.st hc134.st) _ H).mono ?_)
                  rintro _ w138 ⟨r13, rfl, H, g139⟩
                  have hc143 := hc134.k0 g139
                  refine L_run (dj := 74) rfl rfl (by exact congrArg Value.bool hq111) ?_
                  refine L_pu (P_move (vb r13) rfl) ?_
                  rcases bool_or r13 with hq144 | hq144
                  · have H := ite_t H hq144
                    refine L_run (dj := 78) rfl rfl (by exact congrArg Value.bool hq144) ?_
                    refine L_pu (P_fa fa81_4 ⟨b25, 0, none⟩ ⟨b25, 7, none⟩ rfl rfl) ?_
                    refine L_run (dj := 78) rfl rfl (by exact congrArg Value.bool hq144) ?_
                    refine L_pu (P_fa fa79_0 ⟨b25, 7, none⟩ ⟨b25, 7, none⟩ rfl rfl) ?_
                    refine L_run (dj := 78) rfl rfl (by exact congrArg Value.bool hq144) ?_
                    have h145 := (h136.st (.new _ g139))
                    refine L_pu (P_ld ag9 cL ⟨b25, 7, none⟩ (vs c_.Now.Id) rfl (h145.cell rfl)) ?_
                    refine L_run (dj := 78) rfl rfl (by exact congrArg Value.bool hq144) ?_
                    refine L_pu (P_fa fa81_0 ⟨b25, 0, none⟩ ⟨b25, 0, none⟩ rfl rfl) ?_
                    refine L_run (dj := 78) rfl rfl (by exact congrArg Value.bool hq144) ?_
                    refine L_pu (P_ld ag9 cL ⟨b25, 0, none⟩ (vs c_.Id) rfl (h145.cell rfl)) ?_
                    refine L_run (dj := 78) rfl rfl (by exact congrArg Value.bool hq144) ?_
                    refine L_pu (P_scmp c_.Now.Id c_.Id (c_.Now.Id == c_.Id) rfl rfl rfl) ?_
                    refine L_run (dj := 74) rfl rfl (by exact congrArg Value.bool hq111) ?_
                    refine L_pu (P_pick true (vb (c_.Now.Id == c_.Id)) (by exact congrArg Value.bool hq144) rfl) ?_
                    refine L_run (dj := 70) rfl rfl (by exact congrArg Value.bool hq137) ?_
                    refine L_pu (P_pick false (vb (c_.Now.Id == c_.Id)) (by exact congrArg Value.bool hq111) rfl) ?_
                    refine L_pu (P_pick true (vb (c_.Now.Id == c_.Id)) (by exact congrArg Value.bool hq137) rfl) ?_
                    refine L_pu (P_assign (vb (c_.Now.Id == c_.Id)) rfl) ?_
                    refine L_nil ?_
                    refine W_ret ?_
                    exact ⟨[vb (c_.Now.Id == c_.Id)], ⟨_, rfl, rfl⟩, c_.Now.Id == c_.Id, rfl, H, hc143.gr⟩
                  · have H := ite_f H hq144
                    refine L_pass (dj := 78) rfl rfl (.inl (by exact congrArg Value.bool hq144)) ?_
                    refine L_pass (dj := 78) rfl rfl (.inl (by exact congrArg Value.bool hq144)) ?_
                    refine L_pass (dj := 78) rfl rfl (.inl (by exact congrArg Value.bool hq144)) ?_
                    refine L_pass (dj := 78) rfl rfl (.inl (by exact congrArg Value.bool hq144)) ?_
                    refine L_pass (dj := 78) rfl rfl (.inl (by exact congrArg Value.bool hq144)) ?_
                    refine L_pass (dj := 78) rfl rfl (.inl (by exact congrArg Value.bool hq144)) ?_
                    refine L_run (dj := 74) rfl rfl (by exact congrArg Value.bool hq111) ?_
                    refine L_pu (P_pick false (vb false) (by exact congrArg Value.bool hq144) rfl) ?_
                    refine L_run (dj := 70) rfl rfl (by exact congrArg Value.bool hq137) ?_
                    refine L_pu (P_pick false (vb false) (by exact congrArg Value.bool hq111) rfl) ?_
                    refine L_pu (P_pick true (vb false) (by exact congrArg Value.bool hq137) rfl) ?_
                    refine L_pu (P_assign (vb false) rfl) ?_
                    refine L_nil ?_
                    refine W_ret ?_
                    exact ⟨[vb false], ⟨_, rfl, rfl⟩, false, rfl, H, hc143.gr⟩
                · have H := ite_f H hq137
                  refine L_pass (dj := 70) rfl rfl (.inl (by exact congrArg Value.bool hq137)) ?_
                  refine L_pass (dj := 70) rfl rfl (.inl (by exact congrArg Value.bool hq137)) ?_
                  refine L_pass (dj := 70) rfl rfl (.inl (by exact congrArg Value.bool hq137)) ?_
                  refine L_pass (dj := 70) rfl rfl (.inl (by exact congrArg Value.bool hq137)) ?_
                  refine L_pass (dj := 74) rfl rfl (.inr rfl) ?_
                  refine L_pass (dj := 74) rfl rfl (.inr rfl) ?_
                  refine L_pass (dj := 74) rfl rfl (.inr rfl) ?_
                  refine L_pass (dj := 74) rfl rfl (.inr rfl) ?_
                  refine L_pass (dj := 78) rfl rfl (.inr rfl) ?_
                  refine L_pass (dj := 78) rfl rfl (.inr rfl) ?_
                  refine L_pass (dj := 78) rfl rfl (.inr rfl) ?_
                  refine L_pass (dj := 78) rfl rfl (.inr rfl) ?_
                  refine L_pass (dj := 78) rfl rfl (.inr rfl) ?_
                  refine L_pass (dj := 78) rfl rfl (.inr rfl) ?_
                  refine L_pass (dj := 74) rfl rfl (.inr rfl) ?_
                  refine L_pass (dj := 70) rfl rfl (.inl (by exact congrArg Value.bool hq137)) ?_
                  refine L_pu (P_pick false (vb false) (by exact congrArg Value.bool hq137) rfl) ?_
                  refine L_pu (P_assign (vb false) rfl) ?_
                  refine L_nil ?_
                  refine W_ret ?_
                  exact ⟨[vb false], ⟨_, rfl, rfl⟩, false, rfl, H, hc134.gr⟩
              · have H := ite_f H hq135
                refine L_pass (dj := 61) rfl rfl (.inl (by exact congrArg Value.bool hq135)) ?_
                refine L_pass (dj := 61) rfl rfl (.inl (by exact congrArg Value.bool hq135)) ?_
                refine L_pass (dj := 61) rfl rfl (.inl (by exact congrArg Value.bool hq135)) ?_
                refine L_pass (dj := 61) rfl rfl (.inl (by exact congrArg Value.bool hq135)) ?_
                refine L_pass (dj := 61) rfl rfl (.inl (by exact congrArg Value.bool hq135)) ?_
                refine L_pass (dj := 61) rfl rfl (.inl (by exact congrArg Value.bool hq135)) ?_
                refine L_run (dj := 57) rfl rfl (by exact congrArg Value.bool hq41) ?_
                refine L_pu (P_pick false (vb false) (by exact congrArg Value.bool hq135) rfl) ?_
                refine L_pu (P_pick false (vb false) (by exact congrArg Value.bool hq41) rfl) ?_
                refine L_pu (P_move (vb false) rfl) ?_
                refine L_pass (dj := 70) rfl rfl (.inl rfl) ?_
                refine L_pass (dj := 70) rfl rfl (.inl rfl) ?_
                refine L_pass (dj := 70) rfl rfl (.inl rfl) ?_
                refine L_pass (dj := 70) rfl rfl (.inl rfl) ?_
                refine L_pass (dj := 74) rfl rfl (.inr rfl) ?_
                refine L_pass (dj := 74) rfl rfl (.inr rfl) ?_
                refine L_pass (dj := 74) rfl rfl (.inr rfl) ?_
                refine L_pass (dj := 74) rfl rfl (.inr rfl) ?_
                refine L_pass (dj := 78) rfl rfl (.inr rfl) ?_
                refine L_pass (dj := 78) rfl rfl (.inr rfl) ?_
                refine L_pass (dj := 78) rfl rfl (.inr rfl) ?_
                refine L_pass (dj := 78) rfl rfl (.inr rfl) ?_
                refine L_pass (dj := 78) rfl rfl (.inr rfl) ?_
                refine L_pass (dj := 78) rfl rfl (.inr rfl) ?_
                refine L_pass (dj := 74) rfl rfl (.inr rfl) ?_
                refine L_pass (dj := 70) rfl rfl (.inl rfl) ?_
                refine L_pu (P_pick false (vb false) (by exact congrArg Value.bool rfl) rfl) ?_
                refine L_pu (P_assign (vb false) rfl) ?_
                refine L_nil ?_
                refine W_ret ?_
                exact ⟨[vb false], ⟨_, rfl, rfl⟩, false, rfl, H, hc134.gr⟩
        · have H := ite_f H hq102
          refine L_pass (dj := 24) rfl rfl (.inl (by exact congrArg Value.bool hq102)) ?_
          refine L_pass (dj := 24) rfl rfl (.inl (by exact congrArg Value.bool hq102)) ?_
          refine L_pass (dj := 24) rfl rfl (.inl (by exact congrArg Value.bool hq102)) ?_
          refine L_pass (dj := 24) rfl rfl (.inl (by exact congrArg Value.bool hq102)) ?_
          refine L_pass (dj := 24) rfl rfl (.inl (by exact congrArg Value.bool hq102)) ?_
          refine L_run (dj := 17) rfl rfl rfl ?_
          refine L_pu (P_pick false (vb false) (by exact congrArg Value.bool hq102) rfl) ?_
          refine L_pu (P_pick false (vb false) (by exact congrArg Value.bool rfl) rfl) ?_
          refine L_nil ?_
          refine W_cf (b := false) rfl rfl ?_
          refine W_skip ?_
          refine W_seq ?_
          refine W_seq ?_
          refine W_reg ?_
          refine L_pu (P_fa fa81_1 ⟨b25, 0, none⟩ ⟨b25, 1, none⟩ rfl rfl) ?_
          refine L_pu (P_ld ag4 cL ⟨b25, 1, none⟩ (vb c_.Had) rfl (h40.cell rfl)) ?_
          refine L_pu (P_not c_.Had rfl) ?_
          refine L_pu (P_move (vb (!c_.Had)) rfl) ?_
          refine L_pass (dj := 35) rfl rfl (.inl (by exact congrArg Value.bool hq41)) ?_
          refine L_pass (dj := 35) rfl rfl (.inl (by exact congrArg Value.bool hq41)) ?_
          refine L_pass (dj := 35) rfl rfl (.inl (by exact congrArg Value.bool hq41)) ?_
          refine L_pass (dj := 35) rfl rfl (.inl (by exact congrArg Value.bool hq41)) ?_
          refine L_pass (dj := 35) rfl rfl (.inl (by exact congrArg Value.bool hq41)) ?_
          refine L_pu (P_pick false (vb false) (by exact congrArg Value.bool hq41) rfl) ?_
          refine L_pu (P_move (vb false) rfl) ?_
          refine L_run (dj := 42) rfl rfl rfl ?_
          refine L_pu (P_fa fa81_3 ⟨b25, 0, none⟩ ⟨b25, 6, none⟩ rfl rfl) ?_
          refine L_run (dj := 42) rfl rfl rfl ?_
          refine L_pu (P_ld ag4 cL ⟨b25, 6, none⟩ (vb c_.Has) rfl (h40.cell rfl)) ?_
          refine L_run (dj := 42) rfl rfl rfl ?_
          refine L_pu (P_not c_.Has rfl) ?_
          refine L_run (dj := 42) rfl rfl rfl ?_
          refine L_pu (P_move (vb (!c_.Has)) rfl) ?_
          rcases bool_or (!c_.Has) with hq146 | hq146
          · have H := ite_t H hq146
            refine L_run (dj := 46) rfl rfl (by exact congrArg Value.bool hq146) ?_
            refine L_pu (P_fa fa81_4 ⟨b25, 0, none⟩ ⟨b25, 7, none⟩ rfl rfl) ?_
            refine L_run (dj := 46) rfl rfl (by exact congrArg Value.bool hq146) ?_
            refine L_pu (P_lda ag79 sz79 cL ⟨b25, 7, none⟩ [vs c_.Now.Id, vi c_.Now.Shape.Kind, .slice A14 n15 c16, .slice A19 n20 c21] rfl rfl (h40.cells (off := 7) rfl)) ?_
            refine L_run (dj := 46) rfl rfl (by exact congrArg Value.bool hq146) ?_
            refine L_pu (P_build (.agg #[vs ([] : Str), vi 0, .slice none 0 0, .slice none 0 0]) (fun _ => by kernel_rfl)) ?_
            refine L_run (dj := 46) rfl rfl (by exact congrArg Value.bool hq146) ?_
            refine L_call go75 [.agg #[vs c_.Now.Id, vi c_.Now.Shape.Kind, .slice A14 n15 c16, .slice A19 n20 c21], .agg #[vs ([] : Str), vi 0, .slice none 0 0, .slice none 0 0]] rfl ((spec_FeatSame.calls w33 hc38.ok c_.Now A14 n15 c16 A19 n20 c21 hs13 (hp17.st hc38.st) (hp22.st hc38.st) (⟨([] : Str), (⟨0, []⟩ : Shape), []⟩ : Feat) none 0 0 none 0 0 (by decide) (Sl.nil _ _ _ none 0 (by decide)) (Sl.nil _ _ _ none 0 (by decide)) _ H).mono ?_)
            rintro _ w147 ⟨r14, rfl, H, g148⟩
            have hc152 := hc38.k0 g148
            refine L_run (dj := 46) rfl rfl (by exact congrArg Value.bool hq146) ?_
            refine L_pu (P_not r14 rfl) ?_
            refine L_run (dj := 42) rfl rfl rfl ?_
            refine L_pu (P_pick true (vb (!r14)) (by exact congrArg Value.bool hq146) rfl) ?_
            refine L_pu (P_pick false (vb (!r14)) (by exact congrArg Value.bool rfl) rfl) ?_
            refine L_nil ?_
            refine W_cond (!r14) rfl (fun hq153 => ?_) (fun hq153 => ?_)
            · have H := ite_t H hq153
              refine W_seq ?_
              refine W_reg ?_
              refine L_pu (P_assign (vb false) rfl) ?_
              refine L_nil ?_
              refine W_ret ?_
              exact ⟨[vb false], ⟨_, rfl, rfl⟩, false, rfl, H, hc152.gr⟩
            · have H := ite_f H hq153
              refine W_skip ?_
              refine W_seq ?_
              refine W_reg ?_
              refine L_pu (P_fa fa81_1 ⟨b25, 0, none⟩ ⟨b25, 1, none⟩ rfl rfl) ?_
              have h154 := (h40.st (.new _ g148))
              refine L_pu (P_ld ag4 cL ⟨b25, 1, none⟩ (vb c_.Had) rfl (h154.cell rfl)) ?_
              refine L_pu (P_not c_.Had rfl) ?_
              refine L_pu (P_move (vb (!c_.Had)) rfl) ?_
              refine L_run (dj := 57) rfl rfl (by exact congrArg Value.bool hq41) ?_
              refine L_pu (P_fa fa81_2 ⟨b25, 0, none⟩ ⟨b25, 2, none⟩ rfl rfl) ?_
              refine L_run (dj := 57) rfl rfl (by exact congrArg Value.bool hq41) ?_
              refine L_pu (P_lda ag79 sz79 cL ⟨b25, 2, none⟩ [vs c_.Was.Id, vi c_.Was.Shape.Kind, .slice A3 n4 c5, .slice A8 n9 c10] rfl rfl (h154.cells (off := 2) rfl)) ?_
              refine L_run (dj := 57) rfl rfl (by exact congrArg Value.bool hq41) ?_
              refine L_call go76 [.agg #[vs c_.Was.Id, vi c_.Was.Shape.Kind, .slice A3 n4 c5, .slice A8 n9 c10]] rfl ((spec_FeatOk.calls w147 hc152.ok c_.Was A3 n4 c5 A8 n9 c10 hs2 (hp6.st hc152.st) (hp11.st hc152.st) _ H).mono ?_)
              rintro _ w155 ⟨r15, rfl, H, g156⟩
              have hc160 := hc152.k0 g156
              refine L_run (dj := 57) rfl rfl (by exact congrArg Value.bool hq41) ?_
              refine L_pu (P_move (vb r15) rfl) ?_
              rcases bool_or r15 with hq161 | hq161
              · have H := ite_t H hq161
                refine L_run (dj := 61) rfl rfl (by exact congrArg Value.bool hq161) ?_
                refine L_pu (P_fa fa81_2 ⟨b25, 0, none⟩ ⟨b25, 2, none⟩ rfl rfl) ?_
                refine L_run (dj := 61) rfl rfl (by exact congrArg Value.bool hq161) ?_
                refine L_pu (P_fa fa79_0 ⟨b25, 2, none⟩ ⟨b25, 2, none⟩ rfl rfl) ?_
                refine L_run (dj := 61) rfl rfl (by exact congrArg Value.bool hq161) ?_
                have h162 := (h154.st (.new _ g156))
                refine L_pu (P_ld ag9 cL ⟨b25, 2, none⟩ (vs c_.Was.Id) rfl (h162.cell rfl)) ?_
                refine L_run (dj := 61) rfl rfl (by exact congrArg Value.bool hq161) ?_
                refine L_pu (P_fa fa81_0 ⟨b25, 0, none⟩ ⟨b25, 0, none⟩ rfl rfl) ?_
                refine L_run (dj := 61) rfl rfl (by exact congrArg Value.bool hq161) ?_
                refine L_pu (P_ld ag9 cL ⟨b25, 0, none⟩ (vs c_.Id) rfl (h162.cell rfl)) ?_
                refine L_run (dj := 61) rfl rfl (by exact congrArg Value.bool hq161) ?_
                refine L_pu (P_scmp c_.Was.Id c_.Id (c_.Was.Id == c_.Id) rfl rfl rfl) ?_
                refine L_run (dj := 57) rfl rfl (by exact congrArg Value.bool hq41) ?_
                refine L_pu (P_pick true (vb (c_.Was.Id == c_.Id)) (by exact congrArg Value.bool hq161) rfl) ?_
                refine L_pu (P_pick false (vb (c_.Was.Id == c_.Id)) (by exact congrArg Value.bool hq41) rfl) ?_
                refine L_pu (P_move (vb (c_.Was.Id == c_.Id)) rfl) ?_
                rcases bool_or (c_.Was.Id == c_.Id) with hq163 | hq163
                · have H := ite_t H hq163
                  refine L_run (dj := 70) rfl rfl (by exact congrArg Value.bool hq163) ?_
                  refine L_pu (P_fa fa81_3 ⟨b25, 0, none⟩ ⟨b25, 6, none⟩ rfl rfl) ?_
                  refine L_run (dj := 70) rfl rfl (by exact congrArg Value.bool hq163) ?_
                  refine L_pu (P_ld ag4 cL ⟨b25, 6, none⟩ (vb c_.Has) rfl (h162.cell rfl)) ?_
                  refine L_run (dj := 70) rfl rfl (by exact congrArg Value.bool hq163) ?_
                  refine L_pu (P_not c_.Has rfl) ?_
                  refine L_run (dj := 70) rfl rfl (by exact congrArg Value.bool hq163) ?_
                  refine L_pu (P_move (vb (!c_.Has)) rfl) ?_
                  refine L_pass (dj := 74) rfl rfl (.inl (by exact congrArg Value.bool hq146)) ?_
                  refine L_pass (dj := 74) rfl rfl (.inl (by exact congrArg Value.bool hq146)) ?_
                  refine L_pass (dj := 74) rfl rfl (.inl (by exact congrArg Value.bool hq146)) ?_
                  refine L_pass (dj := 74) rfl rfl (.inl (by exact congrArg Value.bool hq146)) ?_
                  refine L_pass (dj := 78) rfl rfl (.inr rfl) ?_
                  refine L_pass (dj := 78) rfl rfl (.inr rfl) ?_
                  refine L_pass (dj := 78) rfl rfl (.inr rfl) ?_
                  refine L_pass (dj := 78) rfl rfl (.inr rfl) ?_
                  refine L_pass (dj := 78) rfl rfl (.inr rfl) ?_
                  refine L_pass (dj := 78) rfl rfl (.inr rfl) ?_
                  refine L_pass (dj := 74) rfl rfl (.inl (by exact congrArg Value.bool hq146)) ?_
                  refine L_run (dj := 70) rfl rfl (by exact congrArg Value.bool hq163) ?_
                  refine L_pu (P_pick true (vb true) (by exact congrArg Value.bool hq146) rfl) ?_
                  refine L_pu (P_pick true (vb true) (by exact congrArg Value.bool hq163) rfl) ?_
                  refine L_pu (P_assign (vb true) rfl) ?_
                  refine L_nil ?_
                  refine W_ret ?_
                  exact ⟨[vb true], ⟨_, rfl, rfl⟩, true, rfl, H, hc160.gr⟩
                · have H := ite_f H hq163
                  refine L_pass (dj := 70) rfl rfl (.inl (by exact congrArg Value.bool hq163)) ?_
                  refine L_pass (dj := 70) rfl rfl (.inl (by exact congrArg Value.bool hq163)) ?_
                  refine L_pass (dj := 70) rfl rfl (.inl (by exact congrArg Value.bool hq163)) ?_
                  refine L_pass (dj := 70) rfl rfl (.inl (by exact congrArg Value.bool hq163)) ?_
                  refine L_pass (dj := 74) rfl rfl (.inr rfl) ?_
                  refine L_pass (dj := 74) rfl rfl (.inr rfl) ?_
                  refine L_pass (dj := 74) rfl rfl (.inr rfl) ?_
                  refine L_pass (dj := 74) rfl rfl (.inr rfl) ?_
                  refine L_pass (dj := 78) rfl rfl (.inr rfl) ?_
                  refine L_pass (dj := 78) rfl rfl (.inr rfl) ?_
                  refine L_pass (dj := 78) rfl rfl (.inr rfl) ?_
                  refine L_pass (dj := 78) rfl rfl (.inr rfl) ?_
                  refine L_pass (dj := 78) rfl rfl (.inr rfl) ?_
                  refine L_pass (dj := 78) rfl rfl (.inr rfl) ?_
                  refine L_pass (dj := 74) rfl rfl (.inr rfl) ?_
                  refine L_pass (dj := 70) rfl rfl (.inl (by exact congrArg Value.bool hq163)) ?_
                  refine L_pu (P_pick false (vb false) (by exact congrArg Value.bool hq163) rfl) ?_
                  refine L_pu (P_assign (vb false) rfl) ?_
                  refine L_nil ?_
                  refine W_ret ?_
                  exact ⟨[vb false], ⟨_, rfl, rfl⟩, false, rfl, H, hc160.gr⟩
              · have H := ite_f H hq161
                refine L_pass (dj := 61) rfl rfl (.inl (by exact congrArg Value.bool hq161)) ?_
                refine L_pass (dj := 61) rfl rfl (.inl (by exact congrArg Value.bool hq161)) ?_
                refine L_pass (dj := 61) rfl rfl (.inl (by exact congrArg Value.bool hq161)) ?_
                refine L_pass (dj := 61) rfl rfl (.inl (by exact congrArg Value.bool hq161)) ?_
                refine L_pass (dj := 61) rfl rfl (.inl (by exact congrArg Value.bool hq161)) ?_
                refine L_pass (dj := 61) rfl rfl (.inl (by exact congrArg Value.bool hq161)) ?_
                refine L_run (dj := 57) rfl rfl (by exact congrArg Value.bool hq41) ?_
                refine L_pu (P_pick false (vb false) (by exact congrArg Value.bool hq161) rfl) ?_
                refine L_pu (P_pick false (vb false) (by exact congrArg Value.bool hq41) rfl) ?_
                refine L_pu (P_move (vb false) rfl) ?_
                refine L_pass (dj := 70) rfl rfl (.inl rfl) ?_
                refine L_pass (dj := 70) rfl rfl (.inl rfl) ?_
                refine L_pass (dj := 70) rfl rfl (.inl rfl) ?_
                refine L_pass (dj := 70) rfl rfl (.inl rfl) ?_
                refine L_pass (dj := 74) rfl rfl (.inr rfl) ?_
                refine L_pass (dj := 74) rfl rfl (.inr rfl) ?_
                refine L_pass (dj := 74) rfl rfl (.inr rfl) ?_
                refine L_pass (dj := 74) rfl rfl (.inr rfl) ?_
                refine L_pass (dj := 78) rfl rfl (.inr rfl) ?_
                refine L_pass (dj := 78) rfl rfl (.inr rfl) ?_
                refine L_pass (dj := 78) rfl rfl (.inr rfl) ?_
                refine L_pass (dj := 78) rfl rfl (.inr rfl) ?_
                refine L_pass (dj := 78) rfl rfl (.inr rfl) ?_
                refine L_pass (dj := 78) rfl rfl (.inr rfl) ?_
                refine L_pass (dj := 74) rfl rfl (.inr rfl) ?_
                refine L_pass (dj := 70) rfl rfl (.inl rfl) ?_
                refine L_pu (P_pick false (vb false) (by exact congrArg Value.bool rfl) rfl) ?_
                refine L_pu (P_assign (vb false) rfl) ?_
                refine L_nil ?_
                refine W_ret ?_
                exact ⟨[vb false], ⟨_, rfl, rfl⟩, false, rfl, H, hc160.gr⟩
          · have H := ite_f H hq146
            refine L_pass (dj := 46) rfl rfl (.inl (by exact congrArg Value.bool hq146)) ?_
            refine L_pass (dj := 46) rfl rfl (.inl (by exact congrArg Value.bool hq146)) ?_
            refine L_pass (dj := 46) rfl rfl (.inl (by exact congrArg Value.bool hq146)) ?_
            refine L_pass (dj := 46) rfl rfl (.inl (by exact congrArg Value.bool hq146)) ?_
            refine L_pass (dj := 46) rfl rfl (.inl (by exact congrArg Value.bool hq146)) ?_
            refine L_run (dj := 42) rfl rfl rfl ?_
            refine L_pu (P_pick false (vb false) (by exact congrArg Value.bool hq146) rfl) ?_
            refine L_pu (P_pick false (vb false) (by exact congrArg Value.bool rfl) rfl) ?_
            refine L_nil ?_
            refine W_cf (b := false) rfl rfl ?_
            refine W_skip ?_
            refine W_seq ?_
            refine W_reg ?_
            refine L_pu (P_fa fa81_1 ⟨b25, 0, none⟩ ⟨b25, 1, none⟩ rfl rfl) ?_
            refine L_pu (P_ld ag4 cL ⟨b25, 1, none⟩ (vb c_.Had) rfl (h40.cell rfl)) ?_
            refine L_pu (P_not c_.Had rfl) ?_
            refine L_pu (P_move (vb (!c_.Had)) rfl) ?_
            refine L_run (dj := 57) rfl rfl (by exact congrArg Value.bool hq41) ?_
            refine L_pu (P_fa fa81_2 ⟨b25, 0, none⟩ ⟨b25, 2, none⟩ rfl rfl) ?_
            refine L_run (dj := 57) rfl rfl (by exact congrArg Value.bool hq41) ?_
            refine L_pu (P_lda ag79 sz79 cL ⟨b25, 2, none⟩ [vs c_.Was.Id, vi c_.Was.Shape.Kind, .slice A3 n4 c5, .slice A8 n9 c10] rfl rfl (h40.cells (off := 2) rfl)) ?_
            refine L_run (dj := 57) rfl rfl (by exact congrArg Value.bool hq41) ?_
            refine L_call go76 [.agg #[vs c_.Was.Id, vi c_.Was.Shape.Kind, .slice A3 n4 c5, .slice A8 n9 c10]] rfl ((spec_FeatOk.calls w33 hc38.ok c_.Was A3 n4 c5 A8 n9 c10 hs2 (hp6.st hc38.st) (hp11.st hc38.st) _ H).mono ?_)
            rintro _ w164 ⟨r16, rfl, H, g165⟩
            have hc169 := hc38.k0 g165
            refine L_run (dj := 57) rfl rfl (by exact congrArg Value.bool hq41) ?_
            refine L_pu (P_move (vb r16) rfl) ?_
            rcases bool_or r16 with hq170 | hq170
            · have H := ite_t H hq170
              refine L_run (dj := 61) rfl rfl (by exact congrArg Value.bool hq170) ?_
              refine L_pu (P_fa fa81_2 ⟨b25, 0, none⟩ ⟨b25, 2, none⟩ rfl rfl) ?_
              refine L_run (dj := 61) rfl rfl (by exact congrArg Value.bool hq170) ?_
              refine L_pu (P_fa fa79_0 ⟨b25, 2, none⟩ ⟨b25, 2, none⟩ rfl rfl) ?_
              refine L_run (dj := 61) rfl rfl (by exact congrArg Value.bool hq170) ?_
              have h171 := (h40.st (.new _ g165))
              refine L_pu (P_ld ag9 cL ⟨b25, 2, none⟩ (vs c_.Was.Id) rfl (h171.cell rfl)) ?_
              refine L_run (dj := 61) rfl rfl (by exact congrArg Value.bool hq170) ?_
              refine L_pu (P_fa fa81_0 ⟨b25, 0, none⟩ ⟨b25, 0, none⟩ rfl rfl) ?_
              refine L_run (dj := 61) rfl rfl (by exact congrArg Value.bool hq170) ?_
              refine L_pu (P_ld ag9 cL ⟨b25, 0, none⟩ (vs c_.Id) rfl (h171.cell rfl)) ?_
              refine L_run (dj := 61) rfl rfl (by exact congrArg Value.bool hq170) ?_
              refine L_pu (P_scmp c_.Was.Id c_.Id (c_.Was.Id == c_.Id) rfl rfl rfl) ?_
              refine L_run (dj := 57) rfl rfl (by exact congrArg Value.bool hq41) ?_
              refine L_pu (P_pick true (vb (c_.Was.Id == c_.Id)) (by exact congrArg Value.bool hq170) rfl) ?_
              refine L_pu (P_pick false (vb (c_.Was.Id == c_.Id)) (by exact congrArg Value.bool hq41) rfl) ?_
              refine L_pu (P_move (vb (c_.Was.Id == c_.Id)) rfl) ?_
              rcases bool_or (c_.Was.Id == c_.Id) with hq172 | hq172
              · have H := ite_t H hq172
                refine L_run (dj := 70) rfl rfl (by exact congrArg Value.bool hq172) ?_
                refine L_pu (P_fa fa81_3 ⟨b25, 0, none⟩ ⟨b25, 6, none⟩ rfl rfl) ?_
                refine L_run (dj := 70) rfl rfl (by exact congrArg Value.bool hq172) ?_
                refine L_pu (P_ld ag4 cL ⟨b25, 6, none⟩ (vb c_.Has) rfl (h171.cell rfl)) ?_
                refine L_run (dj := 70) rfl rfl (by exact congrArg Value.bool hq172) ?_
                refine L_pu (P_not c_.Has rfl) ?_
                refine L_run (dj := 70) rfl rfl (by exact congrArg Value.bool hq172) ?_
                refine L_pu (P_move (vb (!c_.Has)) rfl) ?_
                refine L_run (dj := 74) rfl rfl (by exact congrArg Value.bool hq146) ?_
                refine L_pu (P_fa fa81_4 ⟨b25, 0, none⟩ ⟨b25, 7, none⟩ rfl rfl) ?_
                refine L_run (dj := 74) rfl rfl (by exact congrArg Value.bool hq146) ?_
                refine L_pu (P_lda ag79 sz79 cL ⟨b25, 7, none⟩ [vs c_.Now.Id, vi c_.Now.Shape.Kind, .slice A14 n15 c16, .slice A19 n20 c21] rfl rfl (h171.cells (off := 7) rfl)) ?_
                refine L_run (dj := 74) rfl rfl (by exact congrArg Value.bool hq146) ?_
                refine L_call go76 [.agg #[vs c_.Now.Id, vi c_.Now.Shape.Kind, .slice A14 n15 c16, .slice A19 n20 c21]] rfl ((spec_FeatOk.calls w164 hc169.ok c_.Now A14 n15 c16 A19 n20 c21 hs13 (hp17.st hc169.st) (hp22.st hc169.st) _ H).mono ?_)
                rintro _ w173 ⟨r17, rfl, H, g174⟩
                have hc178 := hc169.k0 g174
                refine L_run (dj := 74) rfl rfl (by exact congrArg Value.bool hq146) ?_
                refine L_pu (P_move (vb r17) rfl) ?_
                rcases bool_or r17 with hq179 | hq179
                · have H := ite_t H hq179
                  refine L_run (dj := 78) rfl rfl (by exact congrArg Value.bool hq179) ?_
                  refine L_pu (P_fa fa81_4 ⟨b25, 0, none⟩ ⟨b25, 7, none⟩ rfl rfl) ?_
                  refine L_run (dj := 78) rfl rfl (by exact congrArg Value.bool hq179) ?_
                  refine L_pu (P_fa fa79_0 ⟨b25, 7, none⟩ ⟨b25, 7, none⟩ rfl rfl) ?_
                  refine L_run (dj := 78) rfl rfl (by exact congrArg Value.bool hq179) ?_
                  have h180 := (h171.st (.new _ g174))
                  refine L_pu (P_ld ag9 cL ⟨b25, 7, none⟩ (vs c_.Now.Id) rfl (h180.cell rfl)) ?_
                  refine L_run (dj := 78) rfl rfl (by exact congrArg Value.bool hq179) ?_
                  refine L_pu (P_fa fa81_0 ⟨b25, 0, none⟩ ⟨b25, 0, none⟩ rfl rfl) ?_
                  refine L_run (dj := 78) rfl rfl (by exact congrArg Value.bool hq179) ?_
                  refine L_pu (P_ld ag9 cL ⟨b25, 0, none⟩ (vs c_.Id) rfl (h180.cell rfl)) ?_
                  refine L_run (dj := 78) rfl rfl (by exact congrArg Value.bool hq179) ?_
                  refine L_pu (P_scmp c_.Now.Id c_.Id (c_.Now.Id == c_.Id) rfl rfl rfl) ?_
                  refine L_run (dj := 74) rfl rfl (by exact congrArg Value.bool hq146) ?_
                  refine L_pu (P_pick true (vb (c_.Now.Id == c_.Id)) (by exact congrArg Value.bool hq179) rfl) ?_
                  refine L_run (dj := 70) rfl rfl (by exact congrArg Value.bool hq172) ?_
                  refine L_pu (P_pick false (vb (c_.Now.Id == c_.Id)) (by exact congrArg Value.bool hq146) rfl) ?_
                  refine L_pu (P_pick true (vb (c_.Now.Id == c_.Id)) (by exact congrArg Value.bool hq172) rfl) ?_
                  refine L_pu (P_assign (vb (c_.Now.Id == c_.Id)) rfl) ?_
                  refine L_nil ?_
                  refine W_ret ?_
                  exact ⟨[vb (c_.Now.Id == c_.Id)], ⟨_, rfl, rfl⟩, c_.Now.Id == c_.Id, rfl, H, hc178.gr⟩
                · have H := ite_f H hq179
                  refine L_pass (dj := 78) rfl rfl (.inl (by exact congrArg Value.bool hq179)) ?_
                  refine L_pass (dj := 78) rfl rfl (.inl (by exact congrArg Value.bool hq179)) ?_
                  refine L_pass (dj := 78) rfl rfl (.inl (by exact congrArg Value.bool hq179)) ?_
                  refine L_pass (dj := 78) rfl rfl (.inl (by exact congrArg Value.bool hq179)) ?_
                  refine L_pass (dj := 78) rfl rfl (.inl (by exact congrArg Value.bool hq179)) ?_
                  refine L_pass (dj := 78) rfl rfl (.inl (by exact congrArg Value.bool hq179)) ?_
                  refine L_run (dj := 74) rfl rfl (by exact congrArg Value.bool hq146) ?_
                  refine L_pu (P_pick false (vb false) (by exact congrArg Value.bool hq179) rfl) ?_
                  refine L_run (dj := 70) rfl rfl (by exact congrArg Value.bool hq172) ?_
                  refine L_pu (P_pick false (vb false) (by exact congrArg Value.bool hq146) rfl) ?_
                  refine L_pu (P_pick true (vb false) (by exact congrArg Value.bool hq172) rfl) ?_
                  refine L_pu (P_assign (vb false) rfl) ?_
                  refine L_nil ?_
                  refine W_ret ?_
                  exact ⟨[vb false], ⟨_, rfl, rfl⟩, false, rfl, H, hc178.gr⟩
              · have H := ite_f H hq172
                refine L_pass (dj := 70) rfl rfl (.inl (by exact congrArg Value.bool hq172)) ?_
                refine L_pass (dj := 70) rfl rfl (.inl (by exact congrArg Value.bool hq172)) ?_
                refine L_pass (dj := 70) rfl rfl (.inl (by exact congrArg Value.bool hq172)) ?_
                refine L_pass (dj := 70) rfl rfl (.inl (by exact congrArg Value.bool hq172)) ?_
                refine L_pass (dj := 74) rfl rfl (.inr rfl) ?_
                refine L_pass (dj := 74) rfl rfl (.inr rfl) ?_
                refine L_pass (dj := 74) rfl rfl (.inr rfl) ?_
                refine L_pass (dj := 74) rfl rfl (.inr rfl) ?_
                refine L_pass (dj := 78) rfl rfl (.inr rfl) ?_
                refine L_pass (dj := 78) rfl rfl (.inr rfl) ?_
                refine L_pass (dj := 78) rfl rfl (.inr rfl) ?_
                refine L_pass (dj := 78) rfl rfl (.inr rfl) ?_
                refine L_pass (dj := 78) rfl rfl (.inr rfl) ?_
                refine L_pass (dj := 78) rfl rfl (.inr rfl) ?_
                refine L_pass (dj := 74) rfl rfl (.inr rfl) ?_
                refine L_pass (dj := 70) rfl rfl (.inl (by exact congrArg Value.bool hq172)) ?_
                refine L_pu (P_pick false (vb false) (by exact congrArg Value.bool hq172) rfl) ?_
                refine L_pu (P_assign (vb false) rfl) ?_
                refine L_nil ?_
                refine W_ret ?_
                exact ⟨[vb false], ⟨_, rfl, rfl⟩, false, rfl, H, hc169.gr⟩
            · have H := ite_f H hq170
              refine L_pass (dj := 61) rfl rfl (.inl (by exact congrArg Value.bool hq170)) ?_
              refine L_pass (dj := 61) rfl rfl (.inl (by exact congrArg Value.bool hq170)) ?_
              refine L_pass (dj := 61) rfl rfl (.inl (by exact congrArg Value.bool hq170)) ?_
              refine L_pass (dj := 61) rfl rfl (.inl (by exact congrArg Value.bool hq170)) ?_
              refine L_pass (dj := 61) rfl rfl (.inl (by exact congrArg Value.bool hq170)) ?_
              refine L_pass (dj := 61) rfl rfl (.inl (by exact congrArg Value.bool hq170)) ?_
              refine L_run (dj := 57) rfl rfl (by exact congrArg Value.bool hq41) ?_
              refine L_pu (P_pick false (vb false) (by exact congrArg Value.bool hq170) rfl) ?_
              refine L_pu (P_pick false (vb false) (by exact congrArg Value.bool hq41) rfl) ?_
              refine L_pu (P_move (vb false) rfl) ?_
              refine L_pass (dj := 70) rfl rfl (.inl rfl) ?_
              refine L_pass (dj := 70) rfl rfl (.inl rfl) ?_
              refine L_pass (dj := 70) rfl rfl (.inl rfl) ?_
              refine L_pass (dj := 70) rfl rfl (.inl rfl) ?_
              refine L_pass (dj := 74) rfl rfl (.inr rfl) ?_
              refine L_pass (dj := 74) rfl rfl (.inr rfl) ?_
              refine L_pass (dj := 74) rfl rfl (.inr rfl) ?_
              refine L_pass (dj := 74) rfl rfl (.inr rfl) ?_
              refine L_pass (dj := 78) rfl rfl (.inr rfl) ?_
              refine L_pass (dj := 78) rfl rfl (.inr rfl) ?_
              refine L_pass (dj := 78) rfl rfl (.inr rfl) ?_
              refine L_pass (dj := 78) rfl rfl (.inr rfl) ?_
              refine L_pass (dj := 78) rfl rfl (.inr rfl) ?_
              refine L_pass (dj := 78) rfl rfl (.inr rfl) ?_
              refine L_pass (dj := 74) rfl rfl (.inr rfl) ?_
              refine L_pass (dj := 70) rfl rfl (.inl rfl) ?_
              refine L_pu (P_pick false (vb false) (by exact congrArg Value.bool rfl) rfl) ?_
              refine L_pu (P_assign (vb false) rfl) ?_
              refine L_nil ?_
              refine W_ret ?_
              exact ⟨[vb false], ⟨_, rfl, rfl⟩, false, rfl, H, hc169.gr⟩
      · have H := ite_f H hq101
        refine L_pass (dj := 20) rfl rfl (.inl (by exact congrArg Value.bool hq101)) ?_
        refine L_pass (dj := 20) rfl rfl (.inl (by exact congrArg Value.bool hq101)) ?_
        refine L_run (dj := 17) rfl rfl rfl ?_
        refine L_pu (P_pick false (vb false) (by exact congrArg Value.bool hq101) rfl) ?_
        refine L_run (dj := 17) rfl rfl rfl ?_
        refine L_pu (P_move (vb false) rfl) ?_
        refine L_pass (dj := 24) rfl rfl (.inl rfl) ?_
        refine L_pass (dj := 24) rfl rfl (.inl rfl) ?_
        refine L_pass (dj := 24) rfl rfl (.inl rfl) ?_
        refine L_pass (dj := 24) rfl rfl (.inl rfl) ?_
        refine L_pass (dj := 24) rfl rfl (.inl rfl) ?_
        refine L_run (dj := 17) rfl rfl rfl ?_
        refine L_pu (P_pick false (vb false) (by exact congrArg Value.bool rfl) rfl) ?_
        refine L_pu (P_pick false (vb false) (by exact congrArg Value.bool rfl) rfl) ?_
        refine L_nil ?_
        refine W_cf (b := false) rfl rfl ?_
        refine W_skip ?_
        refine W_seq ?_
        refine W_seq ?_
        refine W_reg ?_
        refine L_pu (P_fa fa81_1 ⟨b25, 0, none⟩ ⟨b25, 1, none⟩ rfl rfl) ?_
        refine L_pu (P_ld ag4 cL ⟨b25, 1, none⟩ (vb c_.Had) rfl (h40.cell rfl)) ?_
        refine L_pu (P_not c_.Had rfl) ?_
        refine L_pu (P_move (vb (!c_.Had)) rfl) ?_
        refine L_pass (dj := 35) rfl rfl (.inl (by exact congrArg Value.bool hq41)) ?_
        refine L_pass (dj := 35) rfl rfl (.inl (by exact congrArg Value.bool hq41)) ?_
        refine L_pass (dj := 35) rfl rfl (.inl (by exact congrArg Value.bool hq41)) ?_
        refine L_pass (dj := 35) rfl rfl (.inl (by exact congrArg Value.bool hq41)) ?_
        refine L_pass (dj := 35) rfl rfl (.inl (by exact congrArg Value.bool hq41)) ?_
        refine L_pu (P_pick false (vb false) (by exact congrArg Value.bool hq41) rfl) ?_
        refine L_pu (P_move (vb false) rfl) ?_
        refine L_run (dj := 42) rfl rfl rfl ?_
        refine L_pu (P_fa fa81_3 ⟨b25, 0, none⟩ ⟨b25, 6, none⟩ rfl rfl) ?_
        refine L_run (dj := 42) rfl rfl rfl ?_
        refine L_pu (P_ld ag4 cL ⟨b25, 6, none⟩ (vb c_.Has) rfl (h40.cell rfl)) ?_
        refine L_run (dj := 42) rfl rfl rfl ?_
        refine L_pu (P_not c_.Has rfl) ?_
        refine L_run (dj := 42) rfl rfl rfl ?_
        refine L_pu (P_move (vb (!c_.Has)) rfl) ?_
        rcases bool_or (!c_.Has) with hq181 | hq181
        · have H := ite_t H hq181
          refine L_run (dj := 46) rfl rfl (by exact congrArg Value.bool hq181) ?_
          refine L_pu (P_fa fa81_4 ⟨b25, 0, none⟩ ⟨b25, 7, none⟩ rfl rfl) ?_
          refine L_run (dj := 46) rfl rfl (by exact congrArg Value.bool hq181) ?_
          refine L_pu (P_lda ag79 sz79 cL ⟨b25, 7, none⟩ [vs c_.Now.Id, vi c_.Now.Shape.Kind, .slice A14 n15 c16, .slice A19 n20 c21] rfl rfl (h40.cells (off := 7) rfl)) ?_
          refine L_run (dj := 46) rfl rfl (by exact congrArg Value.bool hq181) ?_
          refine L_pu (P_build (.agg #[vs ([] : Str), vi 0, .slice none 0 0, .slice none 0 0]) (fun _ => by kernel_rfl)) ?_
          refine L_run (dj := 46) rfl rfl (by exact congrArg Value.bool hq181) ?_
          refine L_call go75 [.agg #[vs c_.Now.Id, vi c_.Now.Shape.Kind, .slice A14 n15 c16, .slice A19 n20 c21], .agg #[vs ([] : Str), vi 0, .slice none 0 0, .slice none 0 0]] rfl ((spec_FeatSame.calls w33 hc38.ok c_.Now A14 n15 c16 A19 n20 c21 hs13 (hp17.st hc38.st) (hp22.st hc38.st) (⟨([] : Str), (⟨0, []⟩ : Shape), []⟩ : Feat) none 0 0 none 0 0 (by decide) (Sl.nil _ _ _ none 0 (by decide)) (Sl.nil _ _ _ none 0 (by decide)) _ H).mono ?_)
          rintro _ w182 ⟨r18, rfl, H, g183⟩
          have hc187 := hc38.k0 g183
          refine L_run (dj := 46) rfl rfl (by exact congrArg Value.bool hq181) ?_
          refine L_pu (P_not r18 rfl) ?_
          refine L_run (dj := 42) rfl rfl rfl ?_
          refine L_pu (P_pick true (vb (!r18)) (by exact congrArg Value.bool hq181) rfl) ?_
          refine L_pu (P_pick false (vb (!r18)) (by exact congrArg Value.bool rfl) rfl) ?_
          refine L_nil ?_
          refine W_cond (!r18) rfl (fun hq188 => ?_) (fun hq188 => ?_)
          · have H := ite_t H hq188
            refine W_seq ?_
            refine W_reg ?_
            refine L_pu (P_assign (vb false) rfl) ?_
            refine L_nil ?_
            refine W_ret ?_
            exact ⟨[vb false], ⟨_, rfl, rfl⟩, false, rfl, H, hc187.gr⟩
          · have H := ite_f H hq188
            refine W_skip ?_
            refine W_seq ?_
            refine W_reg ?_
            refine L_pu (P_fa fa81_1 ⟨b25, 0, none⟩ ⟨b25, 1, none⟩ rfl rfl) ?_
            have h189 := (h40.st (.new _ g183))
            refine L_pu (P_ld ag4 cL ⟨b25, 1, none⟩ (vb c_.Had) rfl (h189.cell rfl)) ?_
            refine L_pu (P_not c_.Had rfl) ?_
            refine L_pu (P_move (vb (!c_.Had)) rfl) ?_
            refine L_run (dj := 57) rfl rfl (by exact congrArg Value.bool hq41) ?_
            refine L_pu (P_fa fa81_2 ⟨b25, 0, none⟩ ⟨b25, 2, none⟩ rfl rfl) ?_
            refine L_run (dj := 57) rfl rfl (by exact congrArg Value.bool hq41) ?_
            refine L_pu (P_lda ag79 sz79 cL ⟨b25, 2, none⟩ [vs c_.Was.Id, vi c_.Was.Shape.Kind, .slice A3 n4 c5, .slice A8 n9 c10] rfl rfl (h189.cells (off := 2) rfl)) ?_
            refine L_run (dj := 57) rfl rfl (by exact congrArg Value.bool hq41) ?_
            refine L_call go76 [.agg #[vs c_.Was.Id, vi c_.Was.Shape.Kind, .slice A3 n4 c5, .slice A8 n9 c10]] rfl ((spec_FeatOk.calls w182 hc187.ok c_.Was A3 n4 c5 A8 n9 c10 hs2 (hp6.st hc187.st) (hp11.st hc187.st) _ H).mono ?_)
            rintro _ w190 ⟨r19, rfl, H, g191⟩
            have hc195 := hc187.k0 g191
            refine L_run (dj := 57) rfl rfl (by exact congrArg Value.bool hq41) ?_
            refine L_pu (P_move (vb r19) rfl) ?_
            rcases bool_or r19 with hq196 | hq196
            · have H := ite_t H hq196
              refine L_run (dj := 61) rfl rfl (by exact congrArg Value.bool hq196) ?_
              refine L_pu (P_fa fa81_2 ⟨b25, 0, none⟩ ⟨b25, 2, none⟩ rfl rfl) ?_
              refine L_run (dj := 61) rfl rfl (by exact congrArg Value.bool hq196) ?_
              refine L_pu (P_fa fa79_0 ⟨b25, 2, none⟩ ⟨b25, 2, none⟩ rfl rfl) ?_
              refine L_run (dj := 61) rfl rfl (by exact congrArg Value.bool hq196) ?_
              have h197 := (h189.st (.new _ g191))
              refine L_pu (P_ld ag9 cL ⟨b25, 2, none⟩ (vs c_.Was.Id) rfl (h197.cell rfl)) ?_
              refine L_run (dj := 61) rfl rfl (by exact congrArg Value.bool hq196) ?_
              refine L_pu (P_fa fa81_0 ⟨b25, 0, none⟩ ⟨b25, 0, none⟩ rfl rfl) ?_
              refine L_run (dj := 61) rfl rfl (by exact congrArg Value.bool hq196) ?_
              refine L_pu (P_ld ag9 cL ⟨b25, 0, none⟩ (vs c_.Id) rfl (h197.cell rfl)) ?_
              refine L_run (dj := 61) rfl rfl (by exact congrArg Value.bool hq196) ?_
              refine L_pu (P_scmp c_.Was.Id c_.Id (c_.Was.Id == c_.Id) rfl rfl rfl) ?_
              refine L_run (dj := 57) rfl rfl (by exact congrArg Value.bool hq41) ?_
              refine L_pu (P_pick true (vb (c_.Was.Id == c_.Id)) (by exact congrArg Value.bool hq196) rfl) ?_
              refine L_pu (P_pick false (vb (c_.Was.Id == c_.Id)) (by exact congrArg Value.bool hq41) rfl) ?_
              refine L_pu (P_move (vb (c_.Was.Id == c_.Id)) rfl) ?_
              rcases bool_or (c_.Was.Id == c_.Id) with hq198 | hq198
              · have H := ite_t H hq198
                refine L_run (dj := 70) rfl rfl (by exact congrArg Value.bool hq198) ?_
                refine L_pu (P_fa fa81_3 ⟨b25, 0, none⟩ ⟨b25, 6, none⟩ rfl rfl) ?_
                refine L_run (dj := 70) rfl rfl (by exact congrArg Value.bool hq198) ?_
                refine L_pu (P_ld ag4 cL ⟨b25, 6, none⟩ (vb c_.Has) rfl (h197.cell rfl)) ?_
                refine L_run (dj := 70) rfl rfl (by exact congrArg Value.bool hq198) ?_
                refine L_pu (P_not c_.Has rfl) ?_
                refine L_run (dj := 70) rfl rfl (by exact congrArg Value.bool hq198) ?_
                refine L_pu (P_move (vb (!c_.Has)) rfl) ?_
                refine L_pass (dj := 74) rfl rfl (.inl (by exact congrArg Value.bool hq181)) ?_
                refine L_pass (dj := 74) rfl rfl (.inl (by exact congrArg Value.bool hq181)) ?_
                refine L_pass (dj := 74) rfl rfl (.inl (by exact congrArg Value.bool hq181)) ?_
                refine L_pass (dj := 74) rfl rfl (.inl (by exact congrArg Value.bool hq181)) ?_
                refine L_pass (dj := 78) rfl rfl (.inr rfl) ?_
                refine L_pass (dj := 78) rfl rfl (.inr rfl) ?_
                refine L_pass (dj := 78) rfl rfl (.inr rfl) ?_
                refine L_pass (dj := 78) rfl rfl (.inr rfl) ?_
                refine L_pass (dj := 78) rfl rfl (.inr rfl) ?_
                refine L_pass (dj := 78) rfl rfl (.inr rfl) ?_
                refine L_pass (dj := 74) rfl rfl (.inl (by exact congrArg Value.bool hq181)) ?_
                refine L_run (dj := 70) rfl rfl (by exact congrArg Value.bool hq198) ?_
                refine L_pu (P_pick true (vb true) (by exact congrArg Value.bool hq181) rfl) ?_
                refine L_pu (P_pick true (vb true) (by exact congrArg Value.bool hq198) rfl) ?_
                refine L_pu (P_assign (vb true) rfl) ?_
                refine L_nil ?_
                refine W_ret ?_
                exact ⟨[vb true], ⟨_, rfl, rfl⟩, true, rfl, H, hc195.gr⟩
              · have H := ite_f H hq198
                refine L_pass (dj := 70) rfl rfl (.inl (by exact congrArg Value.bool hq198)) ?_
                refine L_pass (dj := 70) rfl rfl (.inl (by exact congrArg Value.bool hq198)) ?_
                refine L_pass (dj := 70) rfl rfl (.inl (by exact congrArg Value.bool hq198)) ?_
                refine L_pass (dj := 70) rfl rfl (.inl (by exact congrArg Value.bool hq198)) ?_
                refine L_pass (dj := 74) rfl rfl (.inr rfl) ?_
                refine L_pass (dj := 74) rfl rfl (.inr rfl) ?_
                refine L_pass (dj := 74) rfl rfl (.inr rfl) ?_
                refine L_pass (dj := 74) rfl rfl (.inr rfl) ?_
                refine L_pass (dj := 78) rfl rfl (.inr rfl) ?_
                refine L_pass (dj := 78) rfl rfl (.inr rfl) ?_
                refine L_pass (dj := 78) rfl rfl (.inr rfl) ?_
                refine L_pass (dj := 78) rfl rfl (.inr rfl) ?_
                refine L_pass (dj := 78) rfl rfl (.inr rfl) ?_
                refine L_pass (dj := 78) rfl rfl (.inr rfl) ?_
                refine L_pass (dj := 74) rfl rfl (.inr rfl) ?_
                refine L_pass (dj := 70) rfl rfl (.inl (by exact congrArg Value.bool hq198)) ?_
                refine L_pu (P_pick false (vb false) (by exact congrArg Value.bool hq198) rfl) ?_
                refine L_pu (P_assign (vb false) rfl) ?_
                refine L_nil ?_
                refine W_ret ?_
                exact ⟨[vb false], ⟨_, rfl, rfl⟩, false, rfl, H, hc195.gr⟩
            · have H := ite_f H hq196
              refine L_pass (dj := 61) rfl rfl (.inl (by exact congrArg Value.bool hq196)) ?_
              refine L_pass (dj := 61) rfl rfl (.inl (by exact congrArg Value.bool hq196)) ?_
              refine L_pass (dj := 61) rfl rfl (.inl (by exact congrArg Value.bool hq196)) ?_
              refine L_pass (dj := 61) rfl rfl (.inl (by exact congrArg Value.bool hq196)) ?_
              refine L_pass (dj := 61) rfl rfl (.inl (by exact congrArg Value.bool hq196)) ?_
              refine L_pass (dj := 61) rfl rfl (.inl (by exact congrArg Value.bool hq196)) ?_
              refine L_run (dj := 57) rfl rfl (by exact congrArg Value.bool hq41) ?_
              refine L_pu (P_pick false (vb false) (by exact congrArg Value.bool hq196) rfl) ?_
              refine L_pu (P_pick false (vb false) (by exact congrArg Value.bool hq41) rfl) ?_
              refine L_pu (P_move (vb false) rfl) ?_
              refine L_pass (dj := 70) rfl rfl (.inl rfl) ?_
              refine L_pass (dj := 70) rfl rfl (.inl rfl) ?_
              refine L_pass (dj := 70) rfl rfl (.inl rfl) ?_
              refine L_pass (dj := 70) rfl rfl (.inl rfl) ?_
              refine L_pass (dj := 74) rfl rfl (.inr rfl) ?_
              refine L_pass (dj := 74) rfl rfl (.inr rfl) ?_
              refine L_pass (dj := 74) rfl rfl (.inr rfl) ?_
              refine L_pass (dj := 74) rfl rfl (.inr rfl) ?_
              refine L_pass (dj := 78) rfl rfl (.inr rfl) ?_
              refine L_pass (dj := 78) rfl rfl (.inr rfl) ?_
              refine L_pass (dj := 78) rfl rfl (.inr rfl) ?_
              refine L_pass (dj := 78) rfl rfl (.inr rfl) ?_
              refine L_pass (dj := 78) rfl rfl (.inr rfl) ?_
              refine L_pass (dj := 78) rfl rfl (.inr rfl) ?_
              refine L_pass (dj := 74) rfl rfl (.inr rfl) ?_
              refine L_pass (dj := 70) rfl rfl (.inl rfl) ?_
              refine L_pu (P_pick false (vb false) (by exact congrArg Value.bool rfl) rfl) ?_
              refine L_pu (P_assign (vb false) rfl) ?_
              refine L_nil ?_
              refine W_ret ?_
              exact ⟨[vb false], ⟨_, rfl, rfl⟩, false, rfl, H, hc195.gr⟩
        · have H := ite_f H hq181
          refine L_pass (dj := 46) rfl rfl (.inl (by exact congrArg Value.bool hq181)) ?_
          refine L_pass (dj := 46) rfl rfl (.inl (by exact congrArg Value.bool hq181)) ?_
          refine L_pass (dj := 46) rfl rfl (.inl (by exact congrArg Value.bool hq181)) ?_
          refine L_pass (dj := 46) rfl rfl (.inl (by exact congrArg Value.bool hq181)) ?_
          refine L_pass (dj := 46) rfl rfl (.inl (by exact congrArg Value.bool hq181)) ?_
          refine L_run (dj := 42) rfl rfl rfl ?_
          refine L_pu (P_pick false (vb false) (by exact congrArg Value.bool hq181) rfl) ?_
          refine L_pu (P_pick false (vb false) (by exact congrArg Value.bool rfl) rfl) ?_
          refine L_nil ?_
          refine W_cf (b := false) rfl rfl ?_
          refine W_skip ?_
          refine W_seq ?_
          refine W_reg ?_
          refine L_pu (P_fa fa81_1 ⟨b25, 0, none⟩ ⟨b25, 1, none⟩ rfl rfl) ?_
          refine L_pu (P_ld ag4 cL ⟨b25, 1, none⟩ (vb c_.Had) rfl (h40.cell rfl)) ?_
          refine L_pu (P_not c_.Had rfl) ?_
          refine L_pu (P_move (vb (!c_.Had)) rfl) ?_
          refine L_run (dj := 57) rfl rfl (by exact congrArg Value.bool hq41) ?_
          refine L_pu (P_fa fa81_2 ⟨b25, 0, none⟩ ⟨b25, 2, none⟩ rfl rfl) ?_
          refine L_run (dj := 57) rfl rfl (by exact congrArg Value.bool hq41) ?_
          refine L_pu (P_lda ag79 sz79 cL ⟨b25, 2, none⟩ [vs c_.Was.Id, vi c_.Was.Shape.Kind, .slice A3 n4 c5, .slice A8 n9 c10] rfl rfl (h40.cells (off := 2) rfl)) ?_
          refine L_run (dj := 57) rfl rfl (by exact congrArg Value.bool hq41) ?_
          refine L_call go76 [.agg #[vs c_.Was.Id, vi c_.Was.Shape.Kind, .slice A3 n4 c5, .slice A8 n9 c10]] rfl ((spec_FeatOk.calls w33 hc38.ok c_.Was A3 n4 c5 A8 n9 c10 hs2 (hp6.st hc38.st) (hp11.st hc38.st) _ H).mono ?_)
          rintro _ w199 ⟨r20, rfl, H, g200⟩
          have hc204 := hc38.k0 g200
          refine L_run (dj := 57) rfl rfl (by exact congrArg Value.bool hq41) ?_
          refine L_pu (P_move (vb r20) rfl) ?_
          rcases bool_or r20 with hq205 | hq205
          · have H := ite_t H hq205
            refine L_run (dj := 61) rfl rfl (by exact congrArg Value.bool hq205) ?_
            refine L_pu (P_fa fa81_2 ⟨b25, 0, none⟩ ⟨b25, 2, none⟩ rfl rfl) ?_
            refine L_run (dj := 61) rfl rfl (by exact congrArg Value.bool hq205) ?_
            refine L_pu (P_fa fa79_0 ⟨b25, 2, none⟩ ⟨b25, 2, none⟩ rfl rfl) ?_
            refine L_run (dj := 61) rfl rfl (by exact congrArg Value.bool hq205) ?_
            have h206 := (h40.st (.new _ g200))
            refine L_pu (P_ld ag9 cL ⟨b25, 2, none⟩ (vs c_.Was.Id) rfl (h206.cell rfl)) ?_
            refine L_run (dj := 61) rfl rfl (by exact congrArg Value.bool hq205) ?_
            refine L_pu (P_fa fa81_0 ⟨b25, 0, none⟩ ⟨b25, 0, none⟩ rfl rfl) ?_
            refine L_run (dj := 61) rfl rfl (by exact congrArg Value.bool hq205) ?_
            refine L_pu (P_ld ag9 cL ⟨b25, 0, none⟩ (vs c_.Id) rfl (h206.cell rfl)) ?_
            refine L_run (dj := 61) rfl rfl (by exact congrArg Value.bool hq205) ?_
            refine L_pu (P_scmp c_.Was.Id c_.Id (c_.Was.Id == c_.Id) rfl rfl rfl) ?_
            refine L_run (dj := 57) rfl rfl (by exact congrArg Value.bool hq41) ?_
            refine L_pu (P_pick true (vb (c_.Was.Id == c_.Id)) (by exact congrArg Value.bool hq205) rfl) ?_
            refine L_pu (P_pick false (vb (c_.Was.Id == c_.Id)) (by exact congrArg Value.bool hq41) rfl) ?_
            refine L_pu (P_move (vb (c_.Was.Id == c_.Id)) rfl) ?_
            rcases bool_or (c_.Was.Id == c_.Id) with hq207 | hq207
            · have H := ite_t H hq207
              refine L_run (dj := 70) rfl rfl (by exact congrArg Value.bool hq207) ?_
              refine L_pu (P_fa fa81_3 ⟨b25, 0, none⟩ ⟨b25, 6, none⟩ rfl rfl) ?_
              refine L_run (dj := 70) rfl rfl (by exact congrArg Value.bool hq207) ?_
              refine L_pu (P_ld ag4 cL ⟨b25, 6, none⟩ (vb c_.Has) rfl (h206.cell rfl)) ?_
              refine L_run (dj := 70) rfl rfl (by exact congrArg Value.bool hq207) ?_
              refine L_pu (P_not c_.Has rfl) ?_
              refine L_run (dj := 70) rfl rfl (by exact congrArg Value.bool hq207) ?_
              refine L_pu (P_move (vb (!c_.Has)) rfl) ?_
              refine L_run (dj := 74) rfl rfl (by exact congrArg Value.bool hq181) ?_
              refine L_pu (P_fa fa81_4 ⟨b25, 0, none⟩ ⟨b25, 7, none⟩ rfl rfl) ?_
              refine L_run (dj := 74) rfl rfl (by exact congrArg Value.bool hq181) ?_
              refine L_pu (P_lda ag79 sz79 cL ⟨b25, 7, none⟩ [vs c_.Now.Id, vi c_.Now.Shape.Kind, .slice A14 n15 c16, .slice A19 n20 c21] rfl rfl (h206.cells (off := 7) rfl)) ?_
              refine L_run (dj := 74) rfl rfl (by exact congrArg Value.bool hq181) ?_
              refine L_call go76 [.agg #[vs c_.Now.Id, vi c_.Now.Shape.Kind, .slice A14 n15 c16, .slice A19 n20 c21]] rfl ((spec_FeatOk.calls w199 hc204.ok c_.Now A14 n15 c16 A19 n20 c21 hs13 (hp17.st hc204.st) (hp22.st hc204.st) _ H).mono ?_)
              rintro _ w208 ⟨r21, rfl, H, g209⟩
              have hc213 := hc204.k0 g209
              refine L_run (dj := 74) rfl rfl (by exact congrArg Value.bool hq181) ?_
              refine L_pu (P_move (vb r21) rfl) ?_
              rcases bool_or r21 with hq214 | hq214
              · have H := ite_t H hq214
                refine L_run (dj := 78) rfl rfl (by exact congrArg Value.bool hq214) ?_
                refine L_pu (P_fa fa81_4 ⟨b25, 0, none⟩ ⟨b25, 7, none⟩ rfl rfl) ?_
                refine L_run (dj := 78) rfl rfl (by exact congrArg Value.bool hq214) ?_
                refine L_pu (P_fa fa79_0 ⟨b25, 7, none⟩ ⟨b25, 7, none⟩ rfl rfl) ?_
                refine L_run (dj := 78) rfl rfl (by exact congrArg Value.bool hq214) ?_
                have h215 := (h206.st (.new _ g209))
                refine L_pu (P_ld ag9 cL ⟨b25, 7, none⟩ (vs c_.Now.Id) rfl (h215.cell rfl)) ?_
                refine L_run (dj := 78) rfl rfl (by exact congrArg Value.bool hq214) ?_
                refine L_pu (P_fa fa81_0 ⟨b25, 0, none⟩ ⟨b25, 0, none⟩ rfl rfl) ?_
                refine L_run (dj := 78) rfl rfl (by exact congrArg Value.bool hq214) ?_
                refine L_pu (P_ld ag9 cL ⟨b25, 0, none⟩ (vs c_.Id) rfl (h215.cell rfl)) ?_
                refine L_run (dj := 78) rfl rfl (by exact congrArg Value.bool hq214) ?_
                refine L_pu (P_scmp c_.Now.Id c_.Id (c_.Now.Id == c_.Id) rfl rfl rfl) ?_
                refine L_run (dj := 74) rfl rfl (by exact congrArg Value.bool hq181) ?_
                refine L_pu (P_pick true (vb (c_.Now.Id == c_.Id)) (by exact congrArg Value.bool hq214) rfl) ?_
                refine L_run (dj := 70) rfl rfl (by exact congrArg Value.bool hq207) ?_
                refine L_pu (P_pick false (vb (c_.Now.Id == c_.Id)) (by exact congrArg Value.bool hq181) rfl) ?_
                refine L_pu (P_pick true (vb (c_.Now.Id == c_.Id)) (by exact congrArg Value.bool hq207) rfl) ?_
                refine L_pu (P_assign (vb (c_.Now.Id == c_.Id)) rfl) ?_
                refine L_nil ?_
                refine W_ret ?_
                exact ⟨[vb (c_.Now.Id == c_.Id)], ⟨_, rfl, rfl⟩, c_.Now.Id == c_.Id, rfl, H, hc213.gr⟩
              · have H := ite_f H hq214
                refine L_pass (dj := 78) rfl rfl (.inl (by exact congrArg Value.bool hq214)) ?_
                refine L_pass (dj := 78) rfl rfl (.inl (by exact congrArg Value.bool hq214)) ?_
                refine L_pass (dj := 78) rfl rfl (.inl (by exact congrArg Value.bool hq214)) ?_
                refine L_pass (dj := 78) rfl rfl (.inl (by exact congrArg Value.bool hq214)) ?_
                refine L_pass (dj := 78) rfl rfl (.inl (by exact congrArg Value.bool hq214)) ?_
                refine L_pass (dj := 78) rfl rfl (.inl (by exact congrArg Value.bool hq214)) ?_
                refine L_run (dj := 74) rfl rfl (by exact congrArg Value.bool hq181) ?_
                refine L_pu (P_pick false (vb false) (by exact congrArg Value.bool hq214) rfl) ?_
                refine L_run (dj := 70) rfl rfl (by exact congrArg Value.bool hq207) ?_
                refine L_pu (P_pick false (vb false) (by exact congrArg Value.bool hq181) rfl) ?_
                refine L_pu (P_pick true (vb false) (by exact congrArg Value.bool hq207) rfl) ?_
                refine L_pu (P_assign (vb false) rfl) ?_
                refine L_nil ?_
                refine W_ret ?_
                exact ⟨[vb false], ⟨_, rfl, rfl⟩, false, rfl, H, hc213.gr⟩
            · have H := ite_f H hq207
              refine L_pass (dj := 70) rfl rfl (.inl (by exact congrArg Value.bool hq207)) ?_
              refine L_pass (dj := 70) rfl rfl (.inl (by exact congrArg Value.bool hq207)) ?_
              refine L_pass (dj := 70) rfl rfl (.inl (by exact congrArg Value.bool hq207)) ?_
              refine L_pass (dj := 70) rfl rfl (.inl (by exact congrArg Value.bool hq207)) ?_
              refine L_pass (dj := 74) rfl rfl (.inr rfl) ?_
              refine L_pass (dj := 74) rfl rfl (.inr rfl) ?_
              refine L_pass (dj := 74) rfl rfl (.inr rfl) ?_
              refine L_pass (dj := 74) rfl rfl (.inr rfl) ?_
              refine L_pass (dj := 78) rfl rfl (.inr rfl) ?_
              refine L_pass (dj := 78) rfl rfl (.inr rfl) ?_
              refine L_pass (dj := 78) rfl rfl (.inr rfl) ?_
              refine L_pass (dj := 78) rfl rfl (.inr rfl) ?_
              refine L_pass (dj := 78) rfl rfl (.inr rfl) ?_
              refine L_pass (dj := 78) rfl rfl (.inr rfl) ?_
              refine L_pass (dj := 74) rfl rfl (.inr rfl) ?_
              refine L_pass (dj := 70) rfl rfl (.inl (by exact congrArg Value.bool hq207)) ?_
              refine L_pu (P_pick false (vb false) (by exact congrArg Value.bool hq207) rfl) ?_
              refine L_pu (P_assign (vb false) rfl) ?_
              refine L_nil ?_
              refine W_ret ?_
              exact ⟨[vb false], ⟨_, rfl, rfl⟩, false, rfl, H, hc204.gr⟩
          · have H := ite_f H hq205
            refine L_pass (dj := 61) rfl rfl (.inl (by exact congrArg Value.bool hq205)) ?_
            refine L_pass (dj := 61) rfl rfl (.inl (by exact congrArg Value.bool hq205)) ?_
            refine L_pass (dj := 61) rfl rfl (.inl (by exact congrArg Value.bool hq205)) ?_
            refine L_pass (dj := 61) rfl rfl (.inl (by exact congrArg Value.bool hq205)) ?_
            refine L_pass (dj := 61) rfl rfl (.inl (by exact congrArg Value.bool hq205)) ?_
            refine L_pass (dj := 61) rfl rfl (.inl (by exact congrArg Value.bool hq205)) ?_
            refine L_run (dj := 57) rfl rfl (by exact congrArg Value.bool hq41) ?_
            refine L_pu (P_pick false (vb false) (by exact congrArg Value.bool hq205) rfl) ?_
            refine L_pu (P_pick false (vb false) (by exact congrArg Value.bool hq41) rfl) ?_
            refine L_pu (P_move (vb false) rfl) ?_
            refine L_pass (dj := 70) rfl rfl (.inl rfl) ?_
            refine L_pass (dj := 70) rfl rfl (.inl rfl) ?_
            refine L_pass (dj := 70) rfl rfl (.inl rfl) ?_
            refine L_pass (dj := 70) rfl rfl (.inl rfl) ?_
            refine L_pass (dj := 74) rfl rfl (.inr rfl) ?_
            refine L_pass (dj := 74) rfl rfl (.inr rfl) ?_
            refine L_pass (dj := 74) rfl rfl (.inr rfl) ?_
            refine L_pass (dj := 74) rfl rfl (.inr rfl) ?_
            refine L_pass (dj := 78) rfl rfl (.inr rfl) ?_
            refine L_pass (dj := 78) rfl rfl (.inr rfl) ?_
            refine L_pass (dj := 78) rfl rfl (.inr rfl) ?_
            refine L_pass (dj := 78) rfl rfl (.inr rfl) ?_
            refine L_pass (dj := 78) rfl rfl (.inr rfl) ?_
            refine L_pass (dj := 78) rfl rfl (.inr rfl) ?_
            refine L_pass (dj := 74) rfl rfl (.inr rfl) ?_
            refine L_pass (dj := 70) rfl rfl (.inl rfl) ?_
            refine L_pu (P_pick false (vb false) (by exact congrArg Value.bool rfl) rfl) ?_
            refine L_pu (P_assign (vb false) rfl) ?_
            refine L_nil ?_
            refine W_ret ?_
            exact ⟨[vb false], ⟨_, rfl, rfl⟩, false, rfl, H, hc204.gr⟩
end Go.Proofs.Ythkeboifjlnjjaa

namespace Go.Proofs.Ythkeboifjlnjjaa
set_option linter.unusedVariables false
set_option linter.unusedSimpArgs false
theorem spec_l4One.law (c : Change) (Q : Bool → Prop) (hq : Q (changeOk c)) : spec_l4One.E c Q := by
  unfold spec_l4One.E
  unfold changeOk sideOk noF sameC at hq
  have eid : ∀ f : Feat, (f.Id == c.Id) = decide (f.Id = c.Id) := fun f => by rw [Bool.eq_iff_iff, beq_iff_eq, decide_eq_true_eq]
  refine spec_WordOk.law _ _ ?_
  cases hw : wordOk c.Id with
  | false => rw [hw] at hq; rw [if_pos (by decide)]; exact hq
  | true =>
    rw [hw, Bool.true_and] at hq
    rw [if_neg (by decide)]
    cases h1 : c.Had <;> cases h2 : c.Has
    · -- neither
      rw [h1, h2] at hq
      rw [if_pos (by decide), if_pos (by decide)]
      simp only [reduceIte, Bool.false_eq_true, Bool.true_eq_false, reduceCtorEq, if_false, if_true, eq_self, decide_true, decide_false, Bool.true_and, Bool.false_and, Bool.not_false, Bool.not_true, Bool.and_true] at hq
      have e : (decide (c.Was = (⟨[], ⟨0, []⟩, []⟩ : Feat)) && decide (c.Now = (⟨[], ⟨0, []⟩, []⟩ : Feat)) && !(decide (c.Was = c.Now))) = false := by
        by_cases a : c.Was = (⟨[], ⟨0, []⟩, []⟩ : Feat)
        · by_cases b : c.Now = (⟨[], ⟨0, []⟩, []⟩ : Feat)
          · rw [decide_eq_true (a.trans b.symm)]; simp
          · rw [decide_eq_false b]; simp
        · rw [decide_eq_false a]; rfl
      rw [e] at hq; exact hq
    · rw [h1, h2] at hq
      simp only [reduceIte, Bool.false_eq_true, Bool.true_eq_false, reduceCtorEq, if_false, if_true, eq_self, decide_true, decide_false, Bool.true_and, Bool.false_and, Bool.not_false, Bool.not_true, Bool.and_true] at hq
      rw [if_pos (by decide), if_neg (by decide), if_neg (by decide)]
      refine spec_FeatSame.law _ _ _ ?_
      cases ha : decide (c.Was = (⟨[], ⟨0, []⟩, []⟩ : Feat)) with
      | false => rw [ha] at hq; rw [if_pos (by decide)]; exact hq
      | true =>
        rw [ha, Bool.true_and] at hq
        rw [if_neg (by decide)]
        refine spec_FeatOk.law _ _ ?_
        cases hf : featOk c.Now with
        | false => rw [hf] at hq; rw [if_neg (by decide)]; exact hq
        | true => rw [hf, Bool.true_and] at hq; rw [if_pos rfl, eid]; exact hq
    · rw [h1, h2] at hq
      simp only [reduceIte, Bool.false_eq_true, Bool.true_eq_false, reduceCtorEq, if_false, if_true, eq_self, decide_true, decide_false, Bool.true_and, Bool.false_and, Bool.not_false, Bool.not_true, Bool.and_true] at hq
      rw [if_neg (by decide), if_pos rfl, if_neg (by decide), if_pos (by decide)]
      refine spec_FeatSame.law _ _ _ ?_
      cases ha : decide (c.Now = (⟨[], ⟨0, []⟩, []⟩ : Feat)) with
      | false => rw [ha, Bool.and_false] at hq; rw [if_pos (by decide)]; exact hq
      | true =>
        rw [ha, Bool.and_true] at hq
        rw [if_neg (by decide)]
        refine spec_FeatOk.law _ _ ?_
        cases hf : featOk c.Was with
        | false => rw [hf] at hq; rw [if_neg (by decide)]; exact hq
        | true =>
          rw [hf, Bool.true_and] at hq; rw [if_pos rfl, eid]
          cases hi : decide (c.Was.Id = c.Id) with
          | false => rw [hi] at hq; rw [if_neg (by decide)]; exact hq
          | true => rw [hi] at hq; rw [if_pos rfl]; exact hq
    · rw [h1, h2] at hq
      simp only [reduceIte, Bool.false_eq_true, Bool.true_eq_false, reduceCtorEq, if_false, if_true, eq_self, decide_true, decide_false, Bool.true_and, Bool.false_and, Bool.not_false, Bool.not_true, Bool.and_true] at hq
      rw [if_neg (by decide), if_pos rfl, if_pos rfl]
      refine spec_FeatSame.law _ _ _ ?_
      cases hs : decide (c.Was = c.Now) with
      | true => rw [hs, Bool.not_true, Bool.and_false] at hq; rw [if_pos rfl]; exact hq
      | false =>
        rw [hs, Bool.not_false, Bool.and_true] at hq
        rw [if_neg (by decide), if_neg (by decide)]
        refine spec_FeatOk.law _ _ ?_
        cases hf : featOk c.Was with
        | false => rw [hf] at hq; rw [if_neg (by decide)]; exact hq
        | true =>
          rw [hf, Bool.true_and] at hq; rw [if_pos rfl, eid]
          cases hi : decide (c.Was.Id = c.Id) with
          | false => rw [hi] at hq; rw [if_neg (by decide)]; exact hq
          | true =>
            rw [hi, Bool.true_and] at hq; rw [if_pos rfl]
            refine spec_FeatOk.law _ _ ?_
            cases hg : featOk c.Now with
            | false => rw [hg] at hq; rw [if_neg (by decide)]; exact hq
            | true => rw [hg, Bool.true_and] at hq; rw [if_pos rfl, eid]; exact hq
end Go.Proofs.Ythkeboifjlnjjaa

namespace Go.Proofs.Ythkeboifjlnjjaa
open Go.RowKit
set_option linter.unusedVariables false
def spec_DiffOk.E (d : List Change) (Q : Bool → Prop) : Prop :=
  (∃ (I18 : Int → Prop) (mu19 : Int → Nat), I18 0 ∧ ∀ (i2 : Int), I18 i2 → (if decide (i2 < (d.length : Int)) then ((0 : Int) ≤ i2 ∧ i2 < (d.length : Int)) ∧ (∃ q : Bool, spec_l4One.E (nth d i2) (fun x => x = q) ∧ (if !q then Q false else (if decide (i2 > 0) then ((0 : Int) ≤ i2 ∧ i2 < (d.length : Int)) ∧ ((d.length : Int) ≤ 9223372036854775807 → I64 (i2 - 1)) ∧ ((0 : Int) ≤ i2 - 1 ∧ i2 - 1 < (d.length : Int)) ∧ (if Op.bytesLess ((nth d i2).Id) ((nth d (i2 - 1)).Id) || ((nth d i2).Id) == ((nth d (i2 - 1)).Id) then Q false else (-9223372036854775808 ≤ i2) ∧ I18 (i2 + 1) ∧ mu19 (i2 + 1) < mu19 i2) else (-9223372036854775808 ≤ i2) ∧ I18 (i2 + 1) ∧ mu19 (i2 + 1) < mu19 i2))) else Q (decide ((d.length : Int) ≤ 16))))
set_option maxHeartbeats 8000000 in
set_option maxRecDepth 100000 in
theorem spec_DiffOk.calls {O : Ob} (w0 : World) (hO : Ok w0 O) (d : List Change) (A1 : Option Addr) (n2 c3 : Nat) (hp4 : Sl kChange w0 (Fr O) (.slice A1 n2 c3) d) (Q : Bool → Prop) (h : spec_DiffOk.E d Q) :
    Ret Try.prog 14 [.slice A1 n2 c3] w0 (fun v w' => ∃ (r0 : Bool), v = vb r0 ∧ Q r0 ∧ Gr w0 w' none) := by
  have H : (∃ (I18 : Int → Prop) (mu19 : Int → Nat), I18 0 ∧ ∀ (i2 : Int), I18 i2 → (if decide (i2 < (d.length : Int)) then ((0 : Int) ≤ i2 ∧ i2 < (d.length : Int)) ∧ (∃ q : Bool, spec_l4One.E (nth d i2) (fun x => x = q) ∧ (if !q then Q false else (if decide (i2 > 0) then ((0 : Int) ≤ i2 ∧ i2 < (d.length : Int)) ∧ ((d.length : Int) ≤ 9223372036854775807 → I64 (i2 - 1)) ∧ ((0 : Int) ≤ i2 - 1 ∧ i2 - 1 < (d.length : Int)) ∧ (if Op.bytesLess ((nth d i2).Id) ((nth d (i2 - 1)).Id) || ((nth d i2).Id) == ((nth d (i2 - 1)).Id) then Q false else (-9223372036854775808 ≤ i2) ∧ I18 (i2 + 1) ∧ mu19 (i2 + 1) < mu19 i2) else (-9223372036854775808 ≤ i2) ∧ I18 (i2 + 1) ∧ mu19 (i2 + 1) < mu19 i2))) else Q (decide ((d.length : Int) ≤ 16)))) := h
  clear h
  have hc0 := Ct.init hO
  refine Ret_enter Try.func14 rfl 37 rfl [.tmp 2] rfl rfl ?_
  refine W_seq ?_
  refine W_reg ?_
  refine L_pu (P_assign (vb false) rfl) ?_
  refine L_nil ?_
  refine W_seq ?_
  refine W_seq ?_
  refine W_reg ?_
  refine L_pu (P_assign (vi 0) rfl) ?_
  refine L_nil ?_
  refine W_block ?_
  obtain ⟨I18, mu19, hI20, H⟩ := H
  refine W_loop (α := Int) (fun (sv__ : Int) t w14 => match sv__ with | i2 => I18 i2 ∧ Has t [(0, .slice A1 n2 c3), (3, vi i2)] ∧ Ct none w0 w14 [] O ∧ Sl kChange w14 (Fr ([] ++ O)) (.slice A1 n2 c3) d) (fun (sv__ : Int) => match sv__ with | i2 => mu19 i2) 0 ⟨hI20, ⟨rfl, rfl, trivial⟩, hc0, hp4⟩ ?_
  rintro i2 _ w14 ⟨hI20, hh22, hc16, h17⟩
  obtain ⟨u23, rfl⟩ := Has.ins hh22
  have H := H i2 hI20
  refine W_seq ?_
  refine W_seq ?_
  refine W_reg ?_
  refine L_pu (P_move (vi i2) rfl) ?_
  refine L_pu (P_move (.slice A1 n2 c3) rfl) ?_
  have hl24 := h17.le
  refine L_pu (P_len Try.underlying33 A1 n2 c3 h17.len rfl) ?_
  refine L_pu (P_cmp i2 (d.length : Int) (decide (i2 < (d.length : Int))) rfl rfl rfl) ?_
  refine L_nil ?_
  refine W_cond (decide (i2 < (d.length : Int))) rfl (fun hq25 => ?_) (fun hq25 => ?_)
  · have H := ite_t H hq25
    refine W_skip ?_
    refine W_seq ?_
    refine W_block ?_
    refine W_seq ?_
    refine W_draw (fun x => Gr w14 x none) (by kernel_rfl) (by kernel_rfl) (Gr.drew _) ?_
    refine Q_pu (P_move (.slice A1 n2 c3) rfl) ?_
    refine Q_pu (P_move (vi i2) rfl) ?_
    obtain ⟨hb26, H⟩ := H
    obtain ⟨ad27, cs28, hA29, hS32, hR30, hcl31⟩ := h17.get default (by decide) i2 hb26
    obtain ⟨A35, n36, c37, A40, n41, c42, A46, n47, c48, A51, n52, c53, rfl, hs33, hs34, h38, h43, hs45, h49, h54⟩ := kChange.op hR30
    refine Q_pu (P_ia Try.underlying33 se33 A1 ad27 n2 c3 h17.len i2 rfl hA29 rfl hb26) ?_
    refine Q_pu (P_lda ag81 sz81 cQ (ad27.add (i2.toNat * 11)) [vs ((nth d i2).Id), vb ((nth d i2).Had), vs ((nth d i2).Was.Id), vi ((nth d i2).Was.Shape.Kind), .slice A35 n36 c37, .slice A40 n41 c42, vb ((nth d i2).Has), vs ((nth d i2).Now.Id), vi ((nth d i2).Now.Shape.Kind), .slice A46 n47 c48, .slice A51 n52 c53] rfl rfl hcl31) ?_
    obtain ⟨q, hE61, H⟩ := H
    refine Q_call go39 [.agg #[vs ((nth d i2).Id), vb ((nth d i2).Had), vs ((nth d i2).Was.Id), vi ((nth d i2).Was.Shape.Kind), .slice A35 n36 c37, .slice A40 n41 c42, vb ((nth d i2).Has), vs ((nth d i2).Now.Id), vi ((nth d i2).Now.Shape.Kind), .slice A46 n47 c48, .slice A51 n52 c53]] rfl (vb q) (fun w g => (spec_l4One.calls w (hc16.k0 g).ok (nth d i2) A35 n36 c37 A40 n41 c42 A46 n47 c48 A51 n52 c53 hs33 hs34 (h38.st (.new _ g)) (h43.st (.new _ g)) hs45 (h49.st (.new _ g)) (h54.st (.new _ g)) _ hE61).mono ?_) ?_
    · rintro _ w ⟨r, rfl, rfl, g2⟩
      exact ⟨rfl, Gr.t0 g g2⟩
    refine Q_pu (P_not q rfl) ?_
    refine Q_pu (P_move (vb (!q)) rfl) ?_
    rcases bool_or (!q) with hq63 | hq63
    · have H := ite_t H hq63
      refine Q_pass (dj := 16) rfl rfl (.inl (by exact congrArg Value.bool hq63)) ?_
      refine Q_pass (dj := 16) rfl rfl (.inl (by exact congrArg Value.bool hq63)) ?_
      refine Q_pass (dj := 16) rfl rfl (.inl (by exact congrArg Value.bool hq63)) ?_
      refine Q_pass (dj := 19) rfl rfl (.inr rfl) ?_
      refine Q_pass (dj := 19) rfl rfl (.inr rfl) ?_
      refine Q_pass (dj := 19) rfl rfl (.inr rfl) ?_
      refine Q_pass (dj := 19) rfl rfl (.inr rfl) ?_
      refine Q_pass (dj := 19) rfl rfl (.inr rfl) ?_
      refine Q_pass (dj := 19) rfl rfl (.inr rfl) ?_
      refine Q_pass (dj := 19) rfl rfl (.inr rfl) ?_
      refine Q_pass (dj := 19) rfl rfl (.inr rfl) ?_
      refine Q_pass (dj := 19) rfl rfl (.inr rfl) ?_
      refine Q_pass (dj := 19) rfl rfl (.inr rfl) ?_
      refine Q_pass (dj := 19) rfl rfl (.inr rfl) ?_
      refine Q_pass (dj := 19) rfl rfl (.inr rfl) ?_
      refine Q_pass (dj := 16) rfl rfl (.inl (by exact congrArg Value.bool hq63)) ?_
      refine Q_pu (P_pick true (vb true) (by exact congrArg Value.bool hq63) rfl) ?_
      refine Q_nil fun w64 g65 => ?_
      have hc67 := hc16.k0 g65
      refine W_ct (b := true) rfl rfl ?_
      refine W_seq ?_
      refine W_reg ?_
      refine L_pu (P_assign (vb false) rfl) ?_
      refine L_nil ?_
      refine W_ret ?_
      exact ⟨[vb false], ⟨_, rfl, rfl⟩, false, rfl, H, hc67.gr⟩
    · have H := ite_f H hq63
      refine Q_run (dj := 16) rfl rfl (by exact congrArg Value.bool hq63) ?_
      refine Q_pu (P_move (vi i2) rfl) ?_
      refine Q_run (dj := 16) rfl rfl (by exact congrArg Value.bool hq63) ?_
      refine Q_pu (P_cmp i2 0 (decide (i2 > 0)) rfl rfl rfl) ?_
      refine Q_run (dj := 16) rfl rfl (by exact congrArg Value.bool hq63) ?_
      refine Q_pu (P_move (vb (decide (i2 > 0))) rfl) ?_
      rcases bool_or (decide (i2 > 0)) with hq68 | hq68
      · have H := ite_t H hq68
        refine Q_run (dj := 19) rfl rfl (by exact congrArg Value.bool hq68) ?_
        refine Q_pu (P_move (.slice A1 n2 c3) rfl) ?_
        refine Q_run (dj := 19) rfl rfl (by exact congrArg Value.bool hq68) ?_
        refine Q_pu (P_move (vi i2) rfl) ?_
        refine Q_run (dj := 19) rfl rfl (by exact congrArg Value.bool hq68) ?_
        obtain ⟨hb69, H⟩ := H
        obtain ⟨ad70, cs71, hA72, hS75, hR73, hcl74⟩ := h17.get default (by decide) i2 hb69
        obtain ⟨A78, n79, c80, A83, n84, c85, A89, n90, c91, A94, n95, c96, rfl, hs76, hs77, h81, h86, hs88, h92, h97⟩ := kChange.op hR73
        refine Q_pu (P_ia Try.underlying33 se33 A1 ad70 n2 c3 h17.len i2 rfl hA72 rfl hb69) ?_
        refine Q_run (dj := 19) rfl rfl (by exact congrArg Value.bool hq68) ?_
        refine Q_pu (P_fa fa81_0 (ad70.add (i2.toNat * 11)) ((ad70.add (i2.toNat * 11)).add 0) rfl rfl) ?_
        refine Q_run (dj := 19) rfl rfl (by exact congrArg Value.bool hq68) ?_
        refine Q_pu (P_ld ag9 cQ ((ad70.add (i2.toNat * 11)).add 0) (vs ((nth d i2).Id)) rfl (hcl74 0 _ rfl)) ?_
        refine Q_run (dj := 19) rfl rfl (by exact congrArg Value.bool hq68) ?_
        refine Q_pu (P_move (.slice A1 n2 c3) rfl) ?_
        refine Q_run (dj := 19) rfl rfl (by exact congrArg Value.bool hq68) ?_
        refine Q_pu (P_move (vi i2) rfl) ?_
        refine Q_run (dj := 19) rfl rfl (by exact congrArg Value.bool hq68) ?_
        obtain ⟨hb99, H⟩ := H
        have hi100 := hb99 (len_le hl24)
        refine Q_pu (P_sub i2 1 rfl rfl hi100) ?_
        refine Q_run (dj := 19) rfl rfl (by exact congrArg Value.bool hq68) ?_
        obtain ⟨hb101, H⟩ := H
        obtain ⟨ad102, cs103, hA104, hS107, hR105, hcl106⟩ := h17.get default (by decide) (i2 - 1) hb101
        obtain ⟨A110, n111, c112, A115, n116, c117, A121, n122, c123, A126, n127, c128, rfl, hs108, hs109, h113, h118, hs120, h124, h129⟩ := kChange.op hR105
        refine Q_pu (P_ia Try.underlying33 se33 A1 ad102 n2 c3 h17.len (i2 - 1) rfl hA104 rfl hb101) ?_
        refine Q_run (dj := 19) rfl rfl (by exact congrArg Value.bool hq68) ?_
        refine Q_pu (P_fa fa81_0 (ad102.add ((i2 - 1).toNat * 11)) ((ad102.add ((i2 - 1).toNat * 11)).add 0) rfl rfl) ?_
        refine Q_run (dj := 19) rfl rfl (by exact congrArg Value.bool hq68) ?_
        refine Q_pu (P_ld ag9 cQ ((ad102.add ((i2 - 1).toNat * 11)).add 0) (vs ((nth d (i2 - 1)).Id)) rfl (hcl106 0 _ rfl)) ?_
        refine Q_run (dj := 19) rfl rfl (by exact congrArg Value.bool hq68) ?_
        refine Q_pu (P_scmp ((nth d i2).Id) ((nth d (i2 - 1)).Id) (Op.bytesLess ((nth d i2).Id) ((nth d (i2 - 1)).Id) || ((nth d i2).Id) == ((nth d (i2 - 1)).Id)) rfl rfl rfl) ?_
        refine Q_run (dj := 16) rfl rfl (by exact congrArg Value.bool hq63) ?_
        refine Q_pu (P_pick true (vb (Op.bytesLess ((nth d i2).Id) ((nth d (i2 - 1)).Id) || ((nth d i2).Id) == ((nth d (i2 - 1)).Id))) (by exact congrArg Value.bool hq68) rfl) ?_
        refine Q_pu (P_pick false (vb (Op.bytesLess ((nth d i2).Id) ((nth d (i2 - 1)).Id) || ((nth d i2).Id) == ((nth d (i2 - 1)).Id))) (by exact congrArg Value.bool hq63) rfl) ?_
        refine Q_nil fun w131 g132 => ?_
        have hc134 := hc16.k0 g132
        refine W_cond (Op.bytesLess ((nth d i2).Id) ((nth d (i2 - 1)).Id) || ((nth d i2).Id) == ((nth d (i2 - 1)).Id)) rfl (fun hq135 => ?_) (fun hq135 => ?_)
        · have H := ite_t H hq135
          refine W_seq ?_
          refine W_reg ?_
          refine L_pu (P_assign (vb false) rfl) ?_
          refine L_nil ?_
          refine W_ret ?_
          exact ⟨[vb false], ⟨_, rfl, rfl⟩, false, rfl, H, hc134.gr⟩
        · have H := ite_f H hq135
          refine W_skip ?_
          refine W_reg ?_
          refine L_pu (P_move (vi i2) rfl) ?_
          obtain ⟨hb137, H⟩ := H
          have hi136 : I64 (i2 + 1) := i64_succ (of_decide_eq_true hq25) hl24 hb137
          refine L_pu (P_add i2 1 rfl rfl hi136) ?_
          refine L_pu (P_assign (vi (i2 + 1)) rfl) ?_
          refine L_nil ?_
          obtain ⟨hI138, hm139⟩ := H
          exact ⟨i2 + 1, hm139, hI138, ⟨rfl, rfl, trivial⟩, hc134, (h17.st (.new _ g132))⟩
      · have H := ite_f H hq68
        refine Q_pass (dj := 19) rfl rfl (.inl (by exact congrArg Value.bool hq68)) ?_
        refine Q_pass (dj := 19) rfl rfl (.inl (by exact congrArg Value.bool hq68)) ?_
        refine Q_pass (dj := 19) rfl rfl (.inl (by exact congrArg Value.bool hq68)) ?_
        refine Q_pass (dj := 19) rfl rfl (.inl (by exact congrArg Value.bool hq68)) ?_
        refine Q_pass (dj := 19) rfl rfl (.inl (by exact congrArg Value.bool hq68)) ?_
        refine Q_pass (dj := 19) rfl rfl (.inl (by exact congrArg Value.bool hq68)) ?_
        refine Q_pass (dj := 19) rfl rfl (.inl (by exact congrArg Value.bool hq68)) ?_
        refine Q_pass (dj := 19) rfl rfl (.inl (by exact congrArg Value.bool hq68)) ?_
        refine Q_pass (dj := 19) rfl rfl (.inl (by exact congrArg Value.bool hq68)) ?_
        refine Q_pass (dj := 19) rfl rfl (.inl (by exact congrArg Value.bool hq68)) ?_
        refine Q_pass (dj := 19) rfl rfl (.inl (by exact congrArg Value.bool hq68)) ?_
        refine Q_pass (dj := 19) rfl rfl (.inl (by exact congrArg Value.bool hq68)) ?_
        refine Q_run (dj := 16) rfl rfl (by exact congrArg Value.bool hq63) ?_
        refine Q_pu (P_pick false (vb false) (by exact congrArg Value.bool hq68) rfl) ?_
        refine Q_pu (P_pick false (vb false) (by exact congrArg Value.bool hq63) rfl) ?_
        refine Q_nil fun w140 g141 => ?_
        have hc143 := hc16.k0 g141
        refine W_cf (b := false) rfl rfl ?_
        refine W_skip ?_
        refine W_reg ?_
        refine L_pu (P_move (vi i2) rfl) ?_
        obtain ⟨hb145, H⟩ := H
        have hi144 : I64 (i2 + 1) := i64_succ (of_decide_eq_true hq25) hl24 hb145
        refine L_pu (P_add i2 1 rfl rfl hi144) ?_
        refine L_pu (P_assign (vi (i2 + 1)) rfl) ?_
        refine L_nil ?_
        obtain ⟨hI146, hm147⟩ := H
        exact ⟨i2 + 1, hm147, hI146, ⟨rfl, rfl, trivial⟩, hc143, (h17.st (.new _ g141))⟩
  · have H := ite_f H hq25
    refine W_exit (xin_hit ?_)
    refine W_seq ?_
    refine W_reg ?_
    refine L_pu (P_move (.slice A1 n2 c3) rfl) ?_
    refine L_pu (P_len Try.underlying33 A1 n2 c3 h17.len rfl) ?_
    refine L_pu (P_cmp (d.length : Int) 16 (decide ((d.length : Int) ≤ 16)) rfl rfl rfl) ?_
    refine L_pu (P_assign (vb (decide ((d.length : Int) ≤ 16))) rfl) ?_
    refine L_nil ?_
    refine W_ret ?_
    exact ⟨[vb (decide ((d.length : Int) ≤ 16))], ⟨_, rfl, rfl⟩, decide ((d.length : Int) ≤ 16), rfl, H, hc16.gr⟩
end Go.Proofs.Ythkeboifjlnjjaa

namespace Go.Proofs.Ythkeboifjlnjjaa
set_option linter.unusedVariables false
set_option linter.unusedSimpArgs false
theorem spec_DiffOk.law (d : List Change) (Q : Bool → Prop) (hq : Q (diffOk d)) : spec_DiffOk.E d Q := by
  unfold spec_DiffOk.E
  unfold diffOk at hq
  refine loop_all d.length (fun k => changeOk (nth d (k : Int)) && (decide (k = 0) || Op.bytesLess (nth d ((k : Int) - 1)).Id (nth d (k : Int)).Id)) (fun I mu k hk hp hn => ?_) (fun ha => ?_)
  · have bad : (changeOk (nth d (k : Int)) && (decide (k = 0) || Op.bytesLess (nth d ((k : Int) - 1)).Id (nth d (k : Int)).Id)) = false → Q false := fun h => by
      rw [allN_false hk h, Bool.false_and] at hq; exact hq
    refine ⟨by omega, _, spec_l4One.law _ _ rfl, ?_⟩
    cases h1 : changeOk (nth d (k : Int)) with
    | false => rw [if_pos (by decide)]; exact bad (by rw [h1]; rfl)
    | true =>
      rw [if_neg (by decide)]
      by_cases hk0 : k = 0
      · rw [if_neg (by rw [decide_eq_true_eq]; omega)]
        obtain ⟨i1, i2⟩ := hn (by rw [h1, decide_eq_true hk0]; rfl)
        exact ⟨by omega, i1, i2⟩
      · rw [if_pos (by rw [decide_eq_true_eq]; omega)]
        refine ⟨by omega, fun _ => by unfold I64; omega, by omega, ?_⟩
        rw [← less_tri]
        cases h3 : Op.bytesLess (nth d ((k : Int) - 1)).Id (nth d (k : Int)).Id with
        | false => rw [if_pos (by decide)]; exact bad (by rw [h3, h1, decide_eq_false hk0]; rfl)
        | true =>
          rw [if_neg (by decide)]
          obtain ⟨i1, i2⟩ := hn (by rw [h3, h1, decide_eq_false hk0]; rfl)
          exact ⟨by omega, i1, i2⟩
  · rw [allN_true ha, Bool.true_and] at hq
    have e2 : decide ((d.length : Int) ≤ 16) = decide (d.length ≤ 16) := decide_eq_decide.2 (by omega)
    rw [e2]; exact hq
end Go.Proofs.Ythkeboifjlnjjaa

namespace Go.Proofs.Ythkeboifjlnjjaa
open Go.RowKit
set_option linter.unusedVariables false
def impl_within.E (n : Int) (low : Int) (high : Int) (Q : Bool → Prop) : Prop :=
  (if decide (n ≥ low) then Q (decide (n ≤ high)) else Q false)
set_option maxHeartbeats 8000000 in
set_option maxRecDepth 100000 in
theorem impl_within.calls {O : Ob} (w0 : World) (hO : Ok w0 O) (n : Int) (low : Int) (high : Int) (Q : Bool → Prop) (h : impl_within.E n low high Q) :
    Ret Try.prog 60 [vi n, vi low, vi high] w0 (fun v w' => ∃ (r0 : Bool), v = vb r0 ∧ Q r0 ∧ Gr w0 w' none ∧ w' = w0) := by
  have H : (if decide (n ≥ low) then Q (decide (n ≤ high)) else Q false) := h
  clear h
  have hc0 := Ct.init hO
  refine Ret_enter Try.func60 rfl 15 rfl [.tmp 6] rfl rfl ?_
  refine W_seq ?_
  refine W_reg ?_
  refine L_pu (P_assign (vb false) rfl) ?_
  refine L_nil ?_
  refine W_seq ?_
  refine W_reg ?_
  refine L_pu (P_move (vi n) rfl) ?_
  refine L_pu (P_move (vi low) rfl) ?_
  refine L_pu (P_cmp n low (decide (n ≥ low)) rfl rfl rfl) ?_
  refine L_pu (P_move (vb (decide (n ≥ low))) rfl) ?_
  rcases bool_or (decide (n ≥ low)) with hq1 | hq1
  · have H := ite_t H hq1
    refine L_run (dj := 10) rfl rfl (by exact congrArg Value.bool hq1) ?_
    refine L_pu (P_move (vi n) rfl) ?_
    refine L_run (dj := 10) rfl rfl (by exact congrArg Value.bool hq1) ?_
    refine L_pu (P_move (vi high) rfl) ?_
    refine L_run (dj := 10) rfl rfl (by exact congrArg Value.bool hq1) ?_
    refine L_pu (P_cmp n high (decide (n ≤ high)) rfl rfl rfl) ?_
    refine L_pu (P_pick true (vb (decide (n ≤ high))) (by exact congrArg Value.bool hq1) rfl) ?_
    refine L_pu (P_assign (vb (decide (n ≤ high))) rfl) ?_
    refine L_nil ?_
    refine W_ret ?_
    exact ⟨[vb (decide (n ≤ high))], ⟨_, rfl, rfl⟩, decide (n ≤ high), rfl, H, hc0.gr, rfl⟩
  · have H := ite_f H hq1
    refine L_pass (dj := 10) rfl rfl (.inl (by exact congrArg Value.bool hq1)) ?_
    refine L_pass (dj := 10) rfl rfl (.inl (by exact congrArg Value.bool hq1)) ?_
    refine L_pass (dj := 10) rfl rfl (.inl (by exact congrArg Value.bool hq1)) ?_
    refine L_pu (P_pick false (vb false) (by exact congrArg Value.bool hq1) rfl) ?_
    refine L_pu (P_assign (vb false) rfl) ?_
    refine L_nil ?_
    refine W_ret ?_
    exact ⟨[vb false], ⟨_, rfl, rfl⟩, false, rfl, H, hc0.gr, rfl⟩
def impl_within.m (n : Int) (low : Int) (high : Int) : Bool := (if decide (n ≥ low) then (decide (n ≤ high)) else false)
theorem impl_within.fn (n : Int) (low : Int) (high : Int) : impl_within.E n low high (fun r => r = impl_within.m n low high) := by
  unfold impl_within.E impl_within.m
  (repeat' split) <;> simp_all
end Go.Proofs.Ythkeboifjlnjjaa

namespace Go.Proofs.Ythkeboifjlnjjaa
set_option linter.unusedVariables false
set_option linter.unusedSimpArgs false
theorem impl_within.law (n lo hi : Int) (Q : Bool → Prop) (hq : Q (decide (lo ≤ n) && decide (n ≤ hi))) : impl_within.E n lo hi Q := by
  unfold impl_within.E
  by_cases h : lo ≤ n
  · rw [if_pos (by simpa using h)]; rw [decide_eq_true h, Bool.true_and] at hq; exact hq
  · rw [if_neg (by simpa using h)]; rw [decide_eq_false h, Bool.false_and] at hq; exact hq
theorem impl_within.m_is (n lo hi : Int) : impl_within.m n lo hi = (decide (lo ≤ n) && decide (n ≤ hi)) := by
  unfold impl_within.m
  by_cases h : lo ≤ n
  · rw [if_pos (by simpa using h), decide_eq_true h, Bool.true_and]
  · rw [if_neg (by simpa using h), decide_eq_false h, Bool.false_and]
end Go.Proofs.Ythkeboifjlnjjaa

namespace Go.Proofs.Ythkeboifjlnjjaa
open Go.RowKit
set_option linter.unusedVariables false
def impl_WordOk.E (s : Str) (Q : Bool → Prop) : Prop :=
  (∃ (I9 : Int → Prop) (mu10 : Int → Nat), I9 0 ∧ ∀ (v2 : Int), I9 v2 → (if decide (v2 < (s.length : Int)) then ((0 : Int) ≤ v2 ∧ v2 < (s.length : Int)) ∧ (if decide (((nth s v2).toNat : Int) < 97) then Q false else ((0 : Int) ≤ v2 ∧ v2 < (s.length : Int)) ∧ (if decide (((nth s v2).toNat : Int) > 122) then Q false else (I64 (v2 + 1)) ∧ I9 (v2 + 1) ∧ mu10 (v2 + 1) < mu10 v2)) else impl_within.E (s.length : Int) 1 6 (fun r => Q r)))
set_option maxHeartbeats 8000000 in
set_option maxRecDepth 100000 in
theorem impl_WordOk.calls {O : Ob} (w0 : World) (hO : Ok w0 O) (s : Str) (hs1 : Lim s) (Q : Bool → Prop) (h : impl_WordOk.E s Q) :
    Ret Try.prog 41 [vs s] w0 (fun v w' => ∃ (r0 : Bool), v = vb r0 ∧ Q r0 ∧ Gr w0 w' none) := by
  have H : (∃ (I9 : Int → Prop) (mu10 : Int → Nat), I9 0 ∧ ∀ (v2 : Int), I9 v2 → (if decide (v2 < (s.length : Int)) then ((0 : Int) ≤ v2 ∧ v2 < (s.length : Int)) ∧ (if decide (((nth s v2).toNat : Int) < 97) then Q false else ((0 : Int) ≤ v2 ∧ v2 < (s.length : Int)) ∧ (if decide (((nth s v2).toNat : Int) > 122) then Q false else (I64 (v2 + 1)) ∧ I9 (v2 + 1) ∧ mu10 (v2 + 1) < mu10 v2)) else impl_within.E (s.length : Int) 1 6 (fun r => Q r))) := h
  clear h
  have hc0 := Ct.init hO
  refine Ret_enter Try.func41 rfl 23 rfl [.tmp 2] rfl rfl ?_
  refine W_seq ?_
  refine W_reg ?_
  refine L_pu (P_assign (vb false) rfl) ?_
  refine L_nil ?_
  refine W_seq ?_
  refine W_seq ?_
  refine W_reg ?_
  refine L_pu (P_move (vs s) rfl) ?_
  have hl2 := hs1
  refine L_pu (P_lens Try.underlying9 s rfl) ?_
  refine L_pu (P_move (vi 0) rfl) ?_
  refine L_nil ?_
  refine W_block ?_
  obtain ⟨I9, mu10, hI11, H⟩ := H
  refine W_loop (α := Int) (fun (sv__ : Int) t w7 => match sv__ with | v2 => I9 v2 ∧ Has t [(0, vs s), (5, vi (s.length : Int)), (6, vi v2)] ∧ Ct none w0 w7 [] O) (fun (sv__ : Int) => match sv__ with | v2 => mu10 v2) 0 ⟨hI11, ⟨rfl, rfl, rfl, trivial⟩, hc0⟩ ?_
  rintro v2 _ w7 ⟨hI11, hh13, hc8⟩
  obtain ⟨u14, rfl⟩ := Has.ins hh13
  have H := H v2 hI11
  refine W_seq ?_
  refine W_reg ?_
  refine L_pu (P_cmp v2 (s.length : Int) (decide (v2 < (s.length : Int))) rfl rfl rfl) ?_
  refine L_nil ?_
  refine W_seq ?_
  refine W_cond (decide (v2 < (s.length : Int))) rfl (fun hq15 => ?_) (fun hq15 => ?_)
  · have H := ite_t H hq15
    refine W_skip ?_
    refine W_seq ?_
    refine W_block ?_
    refine W_seq ?_
    refine W_reg ?_
    refine L_pu (P_move (vi v2) rfl) ?_
    refine L_pu (P_assign (vi v2) rfl) ?_
    refine L_nil ?_
    refine W_seq ?_
    refine W_reg ?_
    refine L_pu (P_move (vs s) rfl) ?_
    refine L_pu (P_move (vi v2) rfl) ?_
    obtain ⟨hb16, H⟩ := H
    refine L_pu (P_index Try.underlying9 s v2 rfl rfl hb16) ?_
    refine L_pu (P_cmp ((nth s v2).toNat : Int) 97 (decide (((nth s v2).toNat : Int) < 97)) rfl rfl rfl) ?_
    refine L_pu (P_move (vb (decide (((nth s v2).toNat : Int) < 97))) rfl) ?_
    rcases bool_or (decide (((nth s v2).toNat : Int) < 97)) with hq17 | hq17
    · have H := ite_t H hq17
      refine L_pass (dj := 13) rfl rfl (.inl (by exact congrArg Value.bool hq17)) ?_
      refine L_pass (dj := 13) rfl rfl (.inl (by exact congrArg Value.bool hq17)) ?_
      refine L_pass (dj := 13) rfl rfl (.inl (by exact congrArg Value.bool hq17)) ?_
      refine L_pass (dj := 13) rfl rfl (.inl (by exact congrArg Value.bool hq17)) ?_
      refine L_pu (P_pick true (vb true) (by exact congrArg Value.bool hq17) rfl) ?_
      refine L_nil ?_
      refine W_ct (b := true) rfl rfl ?_
      refine W_seq ?_
      refine W_reg ?_
      refine L_pu (P_assign (vb false) rfl) ?_
      refine L_nil ?_
      refine W_ret ?_
      exact ⟨[vb false], ⟨_, rfl, rfl⟩, false, rfl, H, hc8.gr⟩
    · have H := ite_f H hq17
      refine L_run (dj := 13) rfl rfl (by exact congrArg Value.bool hq17) ?_
      refine L_pu (P_move (vs s) rfl) ?_
      refine L_run (dj := 13) rfl rfl (by exact congrArg Value.bool hq17) ?_
      refine L_pu (P_move (vi v2) rfl) ?_
      refine L_run (dj := 13) rfl rfl (by exact congrArg Value.bool hq17) ?_
      obtain ⟨hb18, H⟩ := H
      refine L_pu (P_index Try.underlying9 s v2 rfl rfl hb18) ?_
      refine L_run (dj := 13) rfl rfl (by exact congrArg Value.bool hq17) ?_
      refine L_pu (P_cmp ((nth s v2).toNat : Int) 122 (decide (((nth s v2).toNat : Int) > 122)) rfl rfl rfl) ?_
      refine L_pu (P_pick false (vb (decide (((nth s v2).toNat : Int) > 122))) (by exact congrArg Value.bool hq17) rfl) ?_
      refine L_nil ?_
      refine W_cond (decide (((nth s v2).toNat : Int) > 122)) rfl (fun hq19 => ?_) (fun hq19 => ?_)
      · have H := ite_t H hq19
        refine W_seq ?_
        refine W_reg ?_
        refine L_pu (P_assign (vb false) rfl) ?_
        refine L_nil ?_
        refine W_ret ?_
        exact ⟨[vb false], ⟨_, rfl, rfl⟩, false, rfl, H, hc8.gr⟩
      · have H := ite_f H hq19
        refine W_skip ?_
        refine W_reg ?_
        obtain ⟨hb20, H⟩ := H
        refine L_pu (P_add v2 1 rfl rfl hb20) ?_
        refine L_pu (P_move (vi (v2 + 1)) rfl) ?_
        refine L_nil ?_
        obtain ⟨hI21, hm22⟩ := H
        exact ⟨v2 + 1, hm22, hI21, ⟨rfl, rfl, rfl, trivial⟩, hc8⟩
  · have H := ite_f H hq15
    refine W_exit (xin_hit ?_)
    refine W_seq ?_
    refine W_reg ?_
    refine L_pu (P_move (vs s) rfl) ?_
    have hl23 := hs1
    refine L_pu (P_lens Try.underlying9 s rfl) ?_
    refine L_call go60 [vi (s.length : Int), vi 1, vi 6] rfl ((impl_within.calls w7 hc8.ok (s.length : Int) 1 6 _ H).mono ?_)
    rintro _ w24 ⟨r, rfl, H, g25, _⟩
    have hc29 := hc8.k0 g25
    refine L_pu (P_assign (vb r) rfl) ?_
    refine L_nil ?_
    refine W_ret ?_
    exact ⟨[vb r], ⟨_, rfl, rfl⟩, r, rfl, H, hc29.gr⟩
end Go.Proofs.Ythkeboifjlnjjaa

namespace Go.Proofs.Ythkeboifjlnjjaa
set_option linter.unusedVariables false
set_option linter.unusedSimpArgs false
theorem impl_WordOk.law (s : Str) (Q : Bool → Prop) (hl : s.length ≤ 1048576) (hq : Q (wordOk s)) : impl_WordOk.E s Q := by
  unfold impl_WordOk.E
  unfold wordOk at hq
  refine loop_all s.length (fun k => byteOk (nth s (k : Int))) (fun I mu k hk hp hn => ?_) (fun ha => ?_)
  · refine ⟨by omega, ?_⟩
    cases h1 : decide (((nth s (k : Int)).toNat : Int) < 97) with
    | true => rw [if_pos rfl]; rw [allN_false hk (by simp only [byteOk, h1]; rfl), Bool.false_and] at hq; exact hq
    | false =>
      rw [if_neg (by decide)]
      refine ⟨by omega, ?_⟩
      cases h2 : decide (((nth s (k : Int)).toNat : Int) > 122) with
      | true => rw [if_pos rfl]; rw [allN_false hk (by simp only [byteOk, h1, h2]; rfl), Bool.false_and] at hq; exact hq
      | false =>
        rw [if_neg (by decide)]
        obtain ⟨i1, i2⟩ := hn (by simp only [byteOk, h1, h2]; rfl)
        exact ⟨by unfold I64; omega, i1, i2⟩
  · rw [allN_true ha, Bool.true_and] at hq
    refine impl_within.law _ _ _ _ ?_
    have e1 : decide ((1 : Int) ≤ (s.length : Int)) = decide (1 ≤ s.length) := decide_eq_decide.2 (by omega)
    have e2 : decide ((s.length : Int) ≤ 6) = decide (s.length ≤ 6) := decide_eq_decide.2 (by omega)
    rw [e1, e2]; exact hq
end Go.Proofs.Ythkeboifjlnjjaa

namespace Go.Proofs.Ythkeboifjlnjjaa
open Go.RowKit
set_option linter.unusedVariables false
def impl_noFeat.E (f : Feat) (Q : Bool → Prop) : Prop :=
  (if f.Id == ([] : Str) then (if f.Shape.Kind == 0 then (if (f.Shape.Pts.length : Int) == 0 then Q ((f.Tags.length : Int) == 0) else Q false) else Q false) else Q false)
set_option maxHeartbeats 8000000 in
set_option maxRecDepth 100000 in
theorem impl_noFeat.calls {O : Ob} (w0 : World) (hO : Ok w0 O) (f : Feat) (A2 : Option Addr) (n3 c4 : Nat) (A7 : Option Addr) (n8 c9 : Nat) (hs1 : Lim f.Id) (hp5 : Sl kPt w0 (Fr O) (.slice A2 n3 c4) f.Shape.Pts) (hp10 : Sl kTag w0 (Fr O) (.slice A7 n8 c9) f.Tags) (Q : Bool → Prop) (h : impl_noFeat.E f Q) :
    Ret Try.prog 78 [.agg #[vs f.Id, vi f.Shape.Kind, .slice A2 n3 c4, .slice A7 n8 c9]] w0 (fun v w' => ∃ (r0 : Bool), v = vb r0 ∧ Q r0 ∧ Gr w0 w' none) := by
  have H : (if f.Id == ([] : Str) then (if f.Shape.Kind == 0 then (if (f.Shape.Pts.length : Int) == 0 then Q ((f.Tags.length : Int) == 0) else Q false) else Q false) else Q false) := h
  clear h
  have hc0 := Ct.init hO
  refine Ret_enter Try.func78 rfl 25 rfl [.tmp 2] rfl rfl ?_
  refine W_seq ?_
  refine W_reg ?_
  refine L_box [vs f.Id, vi f.Shape.Kind, .slice A2 n3 c4, .slice A7 n8 c9] rfl fun w12 b13 hl15 hu16 g14 hx17 => ?_
  have h19 := Fb.mk hc0.ok hl15 hx17
  have hc20 := hc0.k0 g14
  refine L_pu (P_assign (vb false) rfl) ?_
  refine L_nil ?_
  refine W_seq ?_
  refine W_reg ?_
  refine L_pu (P_fa fa79_0 ⟨b13, 0, none⟩ ⟨b13, 0, none⟩ rfl rfl) ?_
  refine L_pu (P_ld ag9 cL ⟨b13, 0, none⟩ (vs f.Id) rfl (h19.cell rfl)) ?_
  refine L_pu (P_scmp f.Id ([] : Str) (f.Id == ([] : Str)) rfl rfl rfl) ?_
  refine L_pu (P_move (vb (f.Id == ([] : Str))) rfl) ?_
  rcases bool_or (f.Id == ([] : Str)) with hq21 | hq21
  · have H := ite_t H hq21
    refine L_run (dj := 6) rfl rfl (by exact congrArg Value.bool hq21) ?_
    refine L_pu (P_fa fa79_1 ⟨b13, 0, none⟩ ⟨b13, 1, none⟩ rfl rfl) ?_
    refine L_run (dj := 6) rfl rfl (by exact congrArg Value.bool hq21) ?_
    refine L_pu (P_fa fa76_0 ⟨b13, 1, none⟩ ⟨b13, 1, none⟩ rfl rfl) ?_
    refine L_run (dj := 6) rfl rfl (by exact congrArg Value.bool hq21) ?_
    refine L_pu (P_ld ag3 cL ⟨b13, 1, none⟩ (vi f.Shape.Kind) rfl (h19.cell rfl)) ?_
    refine L_run (dj := 6) rfl rfl (by exact congrArg Value.bool hq21) ?_
    refine L_pu (P_cmp f.Shape.Kind 0 (f.Shape.Kind == 0) rfl rfl rfl) ?_
    refine L_pu (P_pick true (vb (f.Shape.Kind == 0)) (by exact congrArg Value.bool hq21) rfl) ?_
    refine L_pu (P_move (vb (f.Shape.Kind == 0)) rfl) ?_
    rcases bool_or (f.Shape.Kind == 0) with hq22 | hq22
    · have H := ite_t H hq22
      refine L_run (dj := 12) rfl rfl (by exact congrArg Value.bool hq22) ?_
      refine L_pu (P_fa fa79_1 ⟨b13, 0, none⟩ ⟨b13, 1, none⟩ rfl rfl) ?_
      refine L_run (dj := 12) rfl rfl (by exact congrArg Value.bool hq22) ?_
      refine L_pu (P_fa fa76_1 ⟨b13, 1, none⟩ ⟨b13, 2, none⟩ rfl rfl) ?_
      refine L_run (dj := 12) rfl rfl (by exact congrArg Value.bool hq22) ?_
      refine L_pu (P_ld ag23 cL ⟨b13, 2, none⟩ (.slice A2 n3 c4) rfl (h19.cell rfl)) ?_
      refine L_run (dj := 12) rfl rfl (by exact congrArg Value.bool hq22) ?_
      have hl23 := (hp5.st hc20.st).le
      refine L_pu (P_len Try.underlying23 A2 n3 c4 (hp5.st hc20.st).len rfl) ?_
      refine L_run (dj := 12) rfl rfl (by exact congrArg Value.bool hq22) ?_
      refine L_pu (P_cmp (f.Shape.Pts.length : Int) 0 ((f.Shape.Pts.length : Int) == 0) rfl rfl rfl) ?_
      refine L_pu (P_pick true (vb ((f.Shape.Pts.length : Int) == 0)) (by exact congrArg Value.bool hq22) rfl) ?_
      refine L_pu (P_move (vb ((f.Shape.Pts.length : Int) == 0)) rfl) ?_
      rcases bool_or ((f.Shape.Pts.length : Int) == 0) with hq24 | hq24
      · have H := ite_t H hq24
        refine L_run (dj := 19) rfl rfl (by exact congrArg Value.bool hq24) ?_
        refine L_pu (P_fa fa79_2 ⟨b13, 0, none⟩ ⟨b13, 3, none⟩ rfl rfl) ?_
        refine L_run (dj := 19) rfl rfl (by exact congrArg Value.bool hq24) ?_
        refine L_pu (P_ld ag77 cL ⟨b13, 3, none⟩ (.slice A7 n8 c9) rfl (h19.cell rfl)) ?_
        refine L_run (dj := 19) rfl rfl (by exact congrArg Value.bool hq24) ?_
        have hl25 := (hp10.st hc20.st).le
        refine L_pu (P_len Try.underlying77 A7 n8 c9 (hp10.st hc20.st).len rfl) ?_
        refine L_run (dj := 19) rfl rfl (by exact congrArg Value.bool hq24) ?_
        refine L_pu (P_cmp (f.Tags.length : Int) 0 ((f.Tags.length : Int) == 0) rfl rfl rfl) ?_
        refine L_pu (P_pick true (vb ((f.Tags.length : Int) == 0)) (by exact congrArg Value.bool hq24) rfl) ?_
        refine L_pu (P_assign (vb ((f.Tags.length : Int) == 0)) rfl) ?_
        refine L_nil ?_
        refine W_ret ?_
        exact ⟨[vb ((f.Tags.length : Int) == 0)], ⟨_, rfl, rfl⟩, (f.Tags.length : Int) == 0, rfl, H, hc20.gr⟩
      · have H := ite_f H hq24
        refine L_pass (dj := 19) rfl rfl (.inl (by exact congrArg Value.bool hq24)) ?_
        refine L_pass (dj := 19) rfl rfl (.inl (by exact congrArg Value.bool hq24)) ?_
        refine L_pass (dj := 19) rfl rfl (.inl (by exact congrArg Value.bool hq24)) ?_
        refine L_pass (dj := 19) rfl rfl (.inl (by exact congrArg Value.bool hq24)) ?_
        refine L_pu (P_pick false (vb false) (by exact congrArg Value.bool hq24) rfl) ?_
        refine L_pu (P_assign (vb false) rfl) ?_
        refine L_nil ?_
        refine W_ret ?_
        exact ⟨[vb false], ⟨_, rfl, rfl⟩, false, rfl, H, hc20.gr⟩
    · have H := ite_f H hq22
      refine L_pass (dj := 12) rfl rfl (.inl (by exact congrArg Value.bool hq22)) ?_
      refine L_pass (dj := 12) rfl rfl (.inl (by exact congrArg Value.bool hq22)) ?_
      refine L_pass (dj := 12) rfl rfl (.inl (by exact congrArg Value.bool hq22)) ?_
      refine L_pass (dj := 12) rfl rfl (.inl (by exact congrArg Value.bool hq22)) ?_
      refine L_pass (dj := 12) rfl rfl (.inl (by exact congrArg Value.bool hq22)) ?_
      refine L_pu (P_pick false (vb false) (by exact congrArg Value.bool hq22) rfl) ?_
      refine L_pu (P_move (vb false) rfl) ?_
      refine L_pass (dj := 19) rfl rfl (.inl rfl) ?_
      refine L_pass (dj := 19) rfl rfl (.inl rfl) ?_
      refine L_pass (dj := 19) rfl rfl (.inl rfl) ?_
      refine L_pass (dj := 19) rfl rfl (.inl rfl) ?_
      refine L_pu (P_pick false (vb false) (by exact congrArg Value.bool rfl) rfl) ?_
      refine L_pu (P_assign (vb false) rfl) ?_
      refine L_nil ?_
      refine W_ret ?_
      exact ⟨[vb false], ⟨_, rfl, rfl⟩, false, rfl, H, hc20.gr⟩
  · have H := ite_f H hq21
    refine L_pass (dj := 6) rfl rfl (.inl (by exact congrArg Value.bool hq21)) ?_
    refine L_pass (dj := 6) rfl rfl (.inl (by exact congrArg Value.bool hq21)) ?_
    refine L_pass (dj := 6) rfl rfl (.inl (by exact congrArg Value.bool hq21)) ?_
    refine L_pass (dj := 6) rfl rfl (.inl (by exact congrArg Value.bool hq21)) ?_
    refine L_pu (P_pick false (vb false) (by exact congrArg Value.bool hq21) rfl) ?_
    refine L_pu (P_move (vb false) rfl) ?_
    refine L_pass (dj := 12) rfl rfl (.inl rfl) ?_
    refine L_pass (dj := 12) rfl rfl (.inl rfl) ?_
    refine L_pass (dj := 12) rfl rfl (.inl rfl) ?_
    refine L_pass (dj := 12) rfl rfl (.inl rfl) ?_
    refine L_pass (dj := 12) rfl rfl (.inl rfl) ?_
    refine L_pu (P_pick false (vb false) (by exact congrArg Value.bool rfl) rfl) ?_
    refine L_pu (P_move (vb false) rfl) ?_
    refine L_pass (dj := 19) rfl rfl (.inl rfl) ?_
    refine L_pass (dj := 19) rfl rfl (.inl rfl) ?_
    refine L_pass (dj := 19) rfl rfl (.inl rfl) ?_
    refine L_pass (dj := 19) rfl rfl (.inl rfl) ?_
    refine L_pu (P_pick false (vb false) (by exact congrArg Value.bool rfl) rfl) ?_
    refine L_pu (P_assign (vb false) rfl) ?_
    refine L_nil ?_
    refine W_ret ?_
    exact ⟨[vb false], ⟨_, rfl, rfl⟩, false, rfl, H, hc20.gr⟩
def impl_noFeat.m (f : Feat) : Bool := (if f.Id == ([] : Str) then (if f.Shape.Kind == 0 then (if (f.Shape.Pts.length : Int) == 0 then ((f.Tags.length : Int) == 0) else false) else false) else false)
theorem impl_noFeat.fn (f : Feat) : impl_noFeat.E f (fun r => r = impl_noFeat.m f) := by
  unfold impl_noFeat.E impl_noFeat.m
  (repeat' split) <;> simp_all
end Go.Proofs.Ythkeboifjlnjjaa

namespace Go.Proofs.Ythkeboifjlnjjaa
set_option linter.unusedVariables false
set_option linter.unusedSimpArgs false
theorem impl_noFeat.law (f : Feat) (Q : Bool → Prop) (hq : Q (noF f)) : impl_noFeat.E f Q := by
  unfold impl_noFeat.E
  obtain ⟨i, ⟨k, p⟩, t⟩ := f
  unfold noF at hq
  dsimp only
  have e : decide ((⟨i, ⟨k, p⟩, t⟩ : Feat) = ⟨[], ⟨0, []⟩, []⟩) = (decide (i = []) && decide (k = 0) && decide (p = []) && decide (t = [])) := by
    rw [Bool.eq_iff_iff]; simp [and_assoc]
  rw [e] at hq
  cases h1 : decide (i = []) with
  | false => rw [h1] at hq; rw [if_neg (by rw [beq_iff_eq]; exact of_decide_eq_false h1)]; exact hq
  | true =>
    rw [if_pos (by rw [beq_iff_eq]; exact of_decide_eq_true h1)]
    cases h2 : decide (k = 0) with
    | false => rw [h1, h2] at hq; rw [if_neg (by rw [beq_iff_eq]; exact of_decide_eq_false h2)]; exact hq
    | true =>
      rw [if_pos (by rw [beq_iff_eq]; exact of_decide_eq_true h2)]
      cases h3 : decide (p = []) with
      | false => rw [h1, h2, h3] at hq; rw [if_neg (by rw [beq_iff_eq]; have := of_decide_eq_false h3; intro e; exact this (List.length_eq_zero_iff.1 (by omega)))]; exact hq
      | true =>
        rw [if_pos (by rw [beq_iff_eq, of_decide_eq_true h3]; rfl)]
        rw [h1, h2, h3] at hq
        have : ((t.length : Int) == 0) = decide (t = []) := by
          rw [Bool.eq_iff_iff, beq_iff_eq, decide_eq_true_eq]
          exact ⟨fun e => List.length_eq_zero_iff.1 (by omega), fun e => by rw [e]; rfl⟩
        rw [this]; exact hq
end Go.Proofs.Ythkeboifjlnjjaa

namespace Go.Proofs.Ythkeboifjlnjjaa
open Go.RowKit
set_option linter.unusedVariables false
def impl_ptOk.E (p : Pt) (Q : Bool → Prop) : Prop :=
  impl_within.E p.X (-1000) 1000 (fun r => (if r then impl_within.E p.Y (-1000) 1000 (fun r2 => Q r2) else Q false))
set_option maxHeartbeats 8000000 in
set_option maxRecDepth 100000 in
theorem impl_ptOk.calls {O : Ob} (w0 : World) (hO : Ok w0 O) (p : Pt) (Q : Bool → Prop) (h : impl_ptOk.E p Q) :
    Ret Try.prog 125 [.agg #[vi p.X, vi p.Y]] w0 (fun v w' => ∃ (r0 : Bool), v = vb r0 ∧ Q r0 ∧ Gr w0 w' none) := by
  have H : impl_within.E p.X (-1000) 1000 (fun r => (if r then impl_within.E p.Y (-1000) 1000 (fun r2 => Q r2) else Q false)) := h
  clear h
  have hc0 := Ct.init hO
  refine Ret_enter Try.func125 rfl 11 rfl [.tmp 2] rfl rfl ?_
  refine W_seq ?_
  refine W_reg ?_
  refine L_box [vi p.X, vi p.Y] rfl fun w1 b2 hl4 hu5 g3 hx6 => ?_
  have h8 := Fb.mk hc0.ok hl4 hx6
  have hc9 := hc0.k0 g3
  refine L_pu (P_assign (vb false) rfl) ?_
  refine L_nil ?_
  refine W_seq ?_
  refine W_reg ?_
  refine L_pu (P_fa fa64_0 ⟨b2, 0, none⟩ ⟨b2, 0, none⟩ rfl rfl) ?_
  refine L_pu (P_ld ag3 cL ⟨b2, 0, none⟩ (vi p.X) rfl (h8.cell rfl)) ?_
  refine L_call go60 [vi p.X, vi (-1000), vi 1000] rfl ((impl_within.calls w1 hc9.ok p.X (-1000) 1000 _ H).mono ?_)
  rintro _ w10 ⟨r, rfl, H, g11, _⟩
  have hc15 := hc9.k0 g11
  refine L_pu (P_move (vb r) rfl) ?_
  rcases bool_or r with hq16 | hq16
  · have H := ite_t H hq16
    refine L_run (dj := 6) rfl rfl (by exact congrArg Value.bool hq16) ?_
    refine L_pu (P_fa fa64_1 ⟨b2, 0, none⟩ ⟨b2, 1, none⟩ rfl rfl) ?_
    refine L_run (dj := 6) rfl rfl (by exact congrArg Value.bool hq16) ?_
    have h17 := (h8.st (.new _ g11))
    refine L_pu (P_ld ag3 cL ⟨b2, 1, none⟩ (vi p.Y) rfl (h17.cell rfl)) ?_
    refine L_run (dj := 6) rfl rfl (by exact congrArg Value.bool hq16) ?_
    refine L_call go60 [vi p.Y, vi (-1000), vi 1000] rfl ((impl_within.calls w10 hc15.ok p.Y (-1000) 1000 _ H).mono ?_)
    rintro _ w18 ⟨r2, rfl, H, g19, _⟩
    have hc23 := hc15.k0 g19
    refine L_pu (P_pick true (vb r2) (by exact congrArg Value.bool hq16) rfl) ?_
    refine L_pu (P_assign (vb r2) rfl) ?_
    refine L_nil ?_
    refine W_ret ?_
    exact ⟨[vb r2], ⟨_, rfl, rfl⟩, r2, rfl, H, hc23.gr⟩
  · have H := ite_f H hq16
    refine L_pass (dj := 6) rfl rfl (.inl (by exact congrArg Value.bool hq16)) ?_
    refine L_pass (dj := 6) rfl rfl (.inl (by exact congrArg Value.bool hq16)) ?_
    refine L_pass (dj := 6) rfl rfl (.inl (by exact congrArg Value.bool hq16)) ?_
    refine L_pu (P_pick false (vb false) (by exact congrArg Value.bool hq16) rfl) ?_
    refine L_pu (P_assign (vb false) rfl) ?_
    refine L_nil ?_
    refine W_ret ?_
    exact ⟨[vb false], ⟨_, rfl, rfl⟩, false, rfl, H, hc15.gr⟩
end Go.Proofs.Ythkeboifjlnjjaa

namespace Go.Proofs.Ythkeboifjlnjjaa
set_option linter.unusedVariables false
set_option linter.unusedSimpArgs false
theorem impl_ptOk.law (p : Pt) (Q : Bool → Prop) (hq : Q (ptOk p)) : impl_ptOk.E p Q := by
  unfold impl_ptOk.E
  unfold ptOk at hq
  refine impl_within.law _ _ _ _ ?_
  change if inR p.X = true then _ else _
  cases h : inR p.X with
  | true => rw [if_pos rfl]; rw [h, Bool.true_and] at hq; exact impl_within.law _ _ _ _ hq
  | false => rw [if_neg (by decide)]; rw [h, Bool.false_and] at hq; exact hq
end Go.Proofs.Ythkeboifjlnjjaa

namespace Go.Proofs.Ythkeboifjlnjjaa
open Go.RowKit
set_option linter.unusedVariables false
def impl_ShapeOk.E (s : Shape) (Q : Bool → Prop) : Prop :=
  (∃ (I31 : Int → Prop) (mu32 : Int → Nat), I31 0 ∧ ∀ (v2 : Int), I31 v2 → (if decide (v2 < (s.Pts.length : Int)) then ((0 : Int) ≤ v2 ∧ v2 < (s.Pts.length : Int)) ∧ (∃ q : Bool, impl_ptOk.E (nth s.Pts v2) (fun x => x = q) ∧ (if !q then Q false else (if decide (v2 > 0) then (I64 (v2 - 1)) ∧ ((0 : Int) ≤ v2 - 1 ∧ v2 - 1 < (s.Pts.length : Int)) ∧ (if eqPt (nth s.Pts (v2 - 1)) (nth s.Pts v2) then Q false else (I64 (v2 + 1)) ∧ I31 (v2 + 1) ∧ mu32 (v2 + 1) < mu32 v2) else (I64 (v2 + 1)) ∧ I31 (v2 + 1) ∧ mu32 (v2 + 1) < mu32 v2))) else (if s.Kind == 1 then Q ((s.Pts.length : Int) == 1) else (if s.Kind == 2 then impl_within.E (s.Pts.length : Int) 2 6 (fun r2 => Q r2) else (if s.Kind == 3 then (if (impl_within.m (s.Pts.length : Int) 3 6) then ((0 : Int) ≤ 0 ∧ 0 < (s.Pts.length : Int)) ∧ ((s.Pts.length : Int) ≤ 9223372036854775807 → I64 ((s.Pts.length : Int) - 1)) ∧ ((0 : Int) ≤ (s.Pts.length : Int) - 1 ∧ (s.Pts.length : Int) - 1 < (s.Pts.length : Int)) ∧ Q (!(eqPt (nth s.Pts 0) (nth s.Pts ((s.Pts.length : Int) - 1)))) else Q false) else Q false)))))
set_option maxHeartbeats 8000000 in
set_option maxRecDepth 100000 in
theorem impl_ShapeOk.calls {O : Ob} (w0 : World) (hO : Ok w0 O) (s : Shape) (A1 : Option Addr) (n2 c3 : Nat) (hp4 : Sl kPt w0 (Fr O) (.slice A1 n2 c3) s.Pts) (Q : Bool → Prop) (h : impl_ShapeOk.E s Q) :
    Ret Try.prog 107 [.agg #[vi s.Kind, .slice A1 n2 c3]] w0 (fun v w' => ∃ (r0 : Bool), v = vb r0 ∧ Q r0 ∧ Gr w0 w' none) := by
  have H : (∃ (I31 : Int → Prop) (mu32 : Int → Nat), I31 0 ∧ ∀ (v2 : Int), I31 v2 → (if decide (v2 < (s.Pts.length : Int)) then ((0 : Int) ≤ v2 ∧ v2 < (s.Pts.length : Int)) ∧ (∃ q : Bool, impl_ptOk.E (nth s.Pts v2) (fun x => x = q) ∧ (if !q then Q false else (if decide (v2 > 0) then (I64 (v2 - 1)) ∧ ((0 : Int) ≤ v2 - 1 ∧ v2 - 1 < (s.Pts.length : Int)) ∧ (if eqPt (nth s.Pts (v2 - 1)) (nth s.Pts v2) then Q false else (I64 (v2 + 1)) ∧ I31 (v2 + 1) ∧ mu32 (v2 + 1) < mu32 v2) else (I64 (v2 + 1)) ∧ I31 (v2 + 1) ∧ mu32 (v2 + 1) < mu32 v2))) else (if s.Kind == 1 then Q ((s.Pts.length : Int) == 1) else (if s.Kind == 2 then impl_within.E (s.Pts.length : Int) 2 6 (fun r2 => Q r2) else (if s.Kind == 3 then (if (impl_within.m (s.Pts.length : Int) 3 6) then ((0 : Int) ≤ 0 ∧ 0 < (s.Pts.length : Int)) ∧ ((s.Pts.length : Int) ≤ 9223372036854775807 → I64 ((s.Pts.length : Int) - 1)) ∧ ((0 : Int) ≤ (s.Pts.length : Int) - 1 ∧ (s.Pts.length : Int) - 1 < (s.Pts.length : Int)) ∧ Q (!(eqPt (nth s.Pts 0) (nth s.Pts ((s.Pts.length : Int) - 1)))) else Q false) else Q false))))) := h
  clear h
  have hc0 := Ct.init hO
  refine Ret_enter Try.func107 rfl 62 rfl [.tmp 2] rfl rfl ?_
  refine W_seq ?_
  refine W_reg ?_
  refine L_box [vi s.Kind, .slice A1 n2 c3] rfl fun w6 b7 hl9 hu10 g8 hx11 => ?_
  have h13 := Fb.mk hc0.ok hl9 hx11
  have hc14 := hc0.k0 g8
  refine L_pu (P_assign (vb false) rfl) ?_
  refine L_nil ?_
  refine W_seq ?_
  refine W_seq ?_
  refine W_reg ?_
  refine L_pu (P_fa fa76_1 ⟨b7, 0, none⟩ ⟨b7, 1, none⟩ rfl rfl) ?_
  refine L_pu (P_ld ag23 cL ⟨b7, 1, none⟩ (.slice A1 n2 c3) rfl (h13.cell rfl)) ?_
  have hl15 := (hp4.st hc14.st).le
  refine L_pu (P_len Try.underlying23 A1 n2 c3 (hp4.st hc14.st).len rfl) ?_
  refine L_pu (P_move (vi 0) rfl) ?_
  refine L_nil ?_
  refine W_block ?_
  obtain ⟨I31, mu32, hI33, H⟩ := H
  refine W_loop (α := Int) (fun (sv__ : Int) t w26 => match sv__ with | v2 => I31 v2 ∧ Has t [(1, .pointer (some ⟨b7, 0, none⟩)), (7, .slice A1 n2 c3), (8, vi (s.Pts.length : Int)), (9, vi v2)] ∧ Ct none w0 w26 [] O ∧ Sl kPt w26 (Fr ([] ++ O)) (.slice A1 n2 c3) s.Pts ∧ Fb w26 ([] ++ O) b7 [vi s.Kind, .slice A1 n2 c3]) (fun (sv__ : Int) => match sv__ with | v2 => mu32 v2) 0 ⟨hI33, ⟨rfl, rfl, rfl, rfl, trivial⟩, hc14, (hp4.st hc14.st), h13⟩ ?_
  rintro v2 _ w26 ⟨hI33, hh35, hc28, h29, h30⟩
  obtain ⟨u36, rfl⟩ := Has.ins hh35
  have H := H v2 hI33
  refine W_seq ?_
  refine W_reg ?_
  refine L_pu (P_cmp v2 (s.Pts.length : Int) (decide (v2 < (s.Pts.length : Int))) rfl rfl rfl) ?_
  refine L_nil ?_
  refine W_seq ?_
  refine W_cond (decide (v2 < (s.Pts.length : Int))) rfl (fun hq37 => ?_) (fun hq37 => ?_)
  · have H := ite_t H hq37
    refine W_skip ?_
    refine W_seq ?_
    refine W_block ?_
    refine W_seq ?_
    refine W_reg ?_
    refine L_pu (P_move (vi v2) rfl) ?_
    obtain ⟨hb38, H⟩ := H
    obtain ⟨ad39, cs40, hA41, hS44, hR42, hcl43⟩ := h29.get default (by decide) v2 hb38
    obtain rfl := kPt.op hR42
    refine L_pu (P_ia Try.underlying23 se23 A1 ad39 n2 c3 h29.len v2 rfl hA41 rfl hb38) ?_
    refine L_pu (P_lda ag64 sz64 cL (ad39.add (v2.toNat * 2)) [vi ((nth s.Pts v2).X), vi ((nth s.Pts v2).Y)] rfl rfl hcl43) ?_
    refine L_alloc [.int .i64 0, .int .i64 0] ze64 fun w45 b46 hl48 hu49 g47 hx50 => ?_
    have hc52 := hc28.own g47 (some b46) (oglt hl48 hu49)
    refine L_pu (P_assign (vi v2) rfl) ?_
    refine L_stb b46 0 [vi 0, vi 0] [vi ((nth s.Pts v2).X), vi ((nth s.Pts v2).Y)] [vi ((nth s.Pts v2).X), vi ((nth s.Pts v2).Y)] rfl hx50 rfl sz64 rfl rfl rfl fun w53 g54 hx55 => ?_
    have hc56 := hc52.wr 0 rfl g54
    refine L_nil ?_
    refine W_seq ?_
    refine W_draw (fun x => Gr w53 x none) (by kernel_rfl) (by kernel_rfl) (Gr.drew _) ?_
    refine Q_pu (P_lda ag64 sz64 cQ ⟨b46, 0, none⟩ [vi ((nth s.Pts v2).X), vi ((nth s.Pts v2).Y)] rfl rfl (hx55.cells (off := 0) rfl)) ?_
    obtain ⟨q, hE62, H⟩ := H
    refine Q_call go125 [.agg #[vi ((nth s.Pts v2).X), vi ((nth s.Pts v2).Y)]] rfl (vb q) (fun w g => (impl_ptOk.calls w (hc56.k0 g).ok (nth s.Pts v2) _ hE62).mono ?_) ?_
    · rintro _ w ⟨r, rfl, rfl, g2⟩
      exact ⟨rfl, Gr.t0 g g2⟩
    refine Q_pu (P_not q rfl) ?_
    refine Q_pu (P_move (vb (!q)) rfl) ?_
    rcases bool_or (!q) with hq64 | hq64
    · have H := ite_t H hq64
      refine Q_pass (dj := 17) rfl rfl (.inl (by exact congrArg Value.bool hq64)) ?_
      refine Q_pass (dj := 17) rfl rfl (.inl (by exact congrArg Value.bool hq64)) ?_
      refine Q_pass (dj := 17) rfl rfl (.inl (by exact congrArg Value.bool hq64)) ?_
      refine Q_pass (dj := 20) rfl rfl (.inr rfl) ?_
      refine Q_pass (dj := 20) rfl rfl (.inr rfl) ?_
      refine Q_pass (dj := 20) rfl rfl (.inr rfl) ?_
      refine Q_pass (dj := 20) rfl rfl (.inr rfl) ?_
      refine Q_pass (dj := 20) rfl rfl (.inr rfl) ?_
      refine Q_pass (dj := 20) rfl rfl (.inr rfl) ?_
      refine Q_pass (dj := 20) rfl rfl (.inr rfl) ?_
      refine Q_pass (dj := 20) rfl rfl (.inr rfl) ?_
      refine Q_pass (dj := 17) rfl rfl (.inl (by exact congrArg Value.bool hq64)) ?_
      refine Q_pu (P_pick true (vb true) (by exact congrArg Value.bool hq64) rfl) ?_
      refine Q_nil fun w65 g66 => ?_
      have hc68 := hc56.k0 g66
      refine W_ct (b := true) rfl rfl ?_
      refine W_seq ?_
      refine W_reg ?_
      refine L_pu (P_assign (vb false) rfl) ?_
      refine L_nil ?_
      refine W_ret ?_
      have hc69 := hc68.drop 0 rfl
      exact ⟨[vb false], ⟨_, rfl, rfl⟩, false, rfl, H, hc69.gr⟩
    · have H := ite_f H hq64
      refine Q_run (dj := 17) rfl rfl (by exact congrArg Value.bool hq64) ?_
      refine Q_pu (P_move (vi v2) rfl) ?_
      refine Q_run (dj := 17) rfl rfl (by exact congrArg Value.bool hq64) ?_
      refine Q_pu (P_cmp v2 0 (decide (v2 > 0)) rfl rfl rfl) ?_
      refine Q_run (dj := 17) rfl rfl (by exact congrArg Value.bool hq64) ?_
      refine Q_pu (P_move (vb (decide (v2 > 0))) rfl) ?_
      rcases bool_or (decide (v2 > 0)) with hq70 | hq70
      · have H := ite_t H hq70
        refine Q_run (dj := 20) rfl rfl (by exact congrArg Value.bool hq70) ?_
        refine Q_pu (P_fa fa76_1 ⟨b7, 0, none⟩ ⟨b7, 1, none⟩ rfl rfl) ?_
        refine Q_run (dj := 20) rfl rfl (by exact congrArg Value.bool hq70) ?_
        have h71 := ((h30.st (.own _ _ g47 (oge hl48))).st (.wl (L := [some b46]) (O := O) (j := 0) rfl g54))
        refine Q_pu (P_ld ag23 cQ ⟨b7, 1, none⟩ (.slice A1 n2 c3) rfl (h71.cell rfl)) ?_
        refine Q_run (dj := 20) rfl rfl (by exact congrArg Value.bool hq70) ?_
        refine Q_pu (P_move (vi v2) rfl) ?_
        refine Q_run (dj := 20) rfl rfl (by exact congrArg Value.bool hq70) ?_
        obtain ⟨hb72, H⟩ := H
        refine Q_pu (P_sub v2 1 rfl rfl hb72) ?_
        refine Q_run (dj := 20) rfl rfl (by exact congrArg Value.bool hq70) ?_
        obtain ⟨hb73, H⟩ := H
        have h80 := ((h29.st (.own _ _ g47 (oge hl48))).st (.wl (L := [some b46]) (O := O) (j := 0) rfl g54))
        obtain ⟨ad74, cs75, hA76, hS79, hR77, hcl78⟩ := h80.get default (by decide) (v2 - 1) hb73
        obtain rfl := kPt.op hR77
        refine Q_pu (P_ia Try.underlying23 se23 A1 ad74 n2 c3 h80.len (v2 - 1) rfl hA76 rfl hb73) ?_
        refine Q_run (dj := 20) rfl rfl (by exact congrArg Value.bool hq70) ?_
        refine Q_pu (P_lda ag64 sz64 cQ (ad74.add ((v2 - 1).toNat * 2)) [vi ((nth s.Pts (v2 - 1)).X), vi ((nth s.Pts (v2 - 1)).Y)] rfl rfl hcl78) ?_
        refine Q_run (dj := 20) rfl rfl (by exact congrArg Value.bool hq70) ?_
        refine Q_pu (P_lda ag64 sz64 cQ ⟨b46, 0, none⟩ [vi ((nth s.Pts v2).X), vi ((nth s.Pts v2).Y)] rfl rfl (hx55.cells (off := 0) rfl)) ?_
        refine Q_run (dj := 20) rfl rfl (by exact congrArg Value.bool hq70) ?_
        refine Q_pu (P_eq _ _ (eqPt (nth s.Pts (v2 - 1)) (nth s.Pts v2)) (qt64 (nth s.Pts (v2 - 1)) (nth s.Pts v2)) rfl rfl) ?_
        refine Q_run (dj := 17) rfl rfl (by exact congrArg Value.bool hq64) ?_
        refine Q_pu (P_pick true (vb (eqPt (nth s.Pts (v2 - 1)) (nth s.Pts v2))) (by exact congrArg Value.bool hq70) rfl) ?_
        refine Q_pu (P_pick false (vb (eqPt (nth s.Pts (v2 - 1)) (nth s.Pts v2))) (by exact congrArg Value.bool hq64) rfl) ?_
        refine Q_nil fun w81 g82 => ?_
        have hc84 := hc56.k0 g82
        refine W_cond (eqPt (nth s.Pts (v2 - 1)) (nth s.Pts v2)) rfl (fun hq85 => ?_) (fun hq85 => ?_)
        · have H := ite_t H hq85
          refine W_seq ?_
          refine W_reg ?_
          refine L_pu (P_assign (vb false) rfl) ?_
          refine L_nil ?_
          refine W_ret ?_
          have hc86 := hc84.drop 0 rfl
          exact ⟨[vb false], ⟨_, rfl, rfl⟩, false, rfl, H, hc86.gr⟩
        · have H := ite_f H hq85
          refine W_skip ?_
          refine W_reg ?_
          obtain ⟨hb87, H⟩ := H
          refine L_pu (P_add v2 1 rfl rfl hb87) ?_
          refine L_pu (P_move (vi (v2 + 1)) rfl) ?_
          refine L_nil ?_
          have hc88 := hc84.drop 0 rfl
          obtain ⟨hI89, hm90⟩ := H
          have h91 := ((h80.st (.new _ g82)).st (.dr _ (L := [some b46]) (O := O) (j := 0) rfl))
          have h92 := ((h71.st (.new _ g82)).st (.dr _ (L := [some b46]) (O := O) (j := 0) rfl))
          exact ⟨v2 + 1, hm90, hI89, ⟨rfl, rfl, rfl, rfl, trivial⟩, hc88, h91, h92⟩
      · have H := ite_f H hq70
        refine Q_pass (dj := 20) rfl rfl (.inl (by exact congrArg Value.bool hq70)) ?_
        refine Q_pass (dj := 20) rfl rfl (.inl (by exact congrArg Value.bool hq70)) ?_
        refine Q_pass (dj := 20) rfl rfl (.inl (by exact congrArg Value.bool hq70)) ?_
        refine Q_pass (dj := 20) rfl rfl (.inl (by exact congrArg Value.bool hq70)) ?_
        refine Q_pass (dj := 20) rfl rfl (.inl (by exact congrArg Value.bool hq70)) ?_
        refine Q_pass (dj := 20) rfl rfl (.inl (by exact congrArg Value.bool hq70)) ?_
        refine Q_pass (dj := 20) rfl rfl (.inl (by exact congrArg Value.bool hq70)) ?_
        refine Q_pass (dj := 20) rfl rfl (.inl (by exact congrArg Value.bool hq70)) ?_
        refine Q_run (dj := 17) rfl rfl (by exact congrArg Value.bool hq64) ?_
        refine Q_pu (P_pick false (vb false) (by exact congrArg Value.bool hq70) rfl) ?_
        refine Q_pu (P_pick false (vb false) (by exact congrArg Value.bool hq64) rfl) ?_
        refine Q_nil fun w93 g94 => ?_
        have hc96 := hc56.k0 g94
        refine W_cf (b := false) rfl rfl ?_
        refine W_skip ?_
        refine W_reg ?_
        obtain ⟨hb97, H⟩ := H
        refine L_pu (P_add v2 1 rfl rfl hb97) ?_
        refine L_pu (P_move (vi (v2 + 1)) rfl) ?_
        refine L_nil ?_
        have hc98 := hc96.drop 0 rfl
        obtain ⟨hI99, hm100⟩ := H
        have h101 := ((((h29.st (.own _ _ g47 (oge hl48))).st (.wl (L := [some b46]) (O := O) (j := 0) rfl g54)).st (.new _ g94)).st (.dr _ (L := [some b46]) (O := O) (j := 0) rfl))
        have h102 := ((((h30.st (.own _ _ g47 (oge hl48))).st (.wl (L := [some b46]) (O := O) (j := 0) rfl g54)).st (.new _ g94)).st (.dr _ (L := [some b46]) (O := O) (j := 0) rfl))
        exact ⟨v2 + 1, hm100, hI99, ⟨rfl, rfl, rfl, rfl, trivial⟩, hc98, h101, h102⟩
  · have H := ite_f H hq37
    refine W_exit (xin_hit ?_)
    refine W_seq ?_
    refine W_reg ?_
    refine L_pu (P_fa fa76_1 ⟨b7, 0, none⟩ ⟨b7, 1, none⟩ rfl rfl) ?_
    refine L_pu (P_ld ag23 cL ⟨b7, 1, none⟩ (.slice A1 n2 c3) rfl (h30.cell rfl)) ?_
    have hl103 := h29.le
    refine L_pu (P_len Try.underlying23 A1 n2 c3 h29.len rfl) ?_
    refine L_pu (P_assign (vi (s.Pts.length : Int)) rfl) ?_
    refine L_nil ?_
    refine W_seq ?_
    refine W_seq ?_
    refine W_reg ?_
    refine L_pu (P_fa fa76_0 ⟨b7, 0, none⟩ ⟨b7, 0, none⟩ rfl rfl) ?_
    refine L_pu (P_ld ag3 cL ⟨b7, 0, none⟩ (vi s.Kind) rfl (h30.cell rfl)) ?_
    refine L_nil ?_
    refine W_block ?_
    refine W_seq ?_
    refine W_reg ?_
    refine L_pu (P_cmp s.Kind 1 (s.Kind == 1) rfl rfl rfl) ?_
    refine L_pu (P_assign (vb (s.Kind == 1)) rfl) ?_
    refine L_nil ?_
    refine W_cond (s.Kind == 1) rfl (fun hq104 => ?_) (fun hq104 => ?_)
    · have H := ite_t H hq104
      refine W_seq ?_
      refine W_reg ?_
      refine L_pu (P_move (vi (s.Pts.length : Int)) rfl) ?_
      refine L_pu (P_cmp (s.Pts.length : Int) 1 ((s.Pts.length : Int) == 1) rfl rfl rfl) ?_
      refine L_pu (P_assign (vb ((s.Pts.length : Int) == 1)) rfl) ?_
      refine L_nil ?_
      refine W_ret ?_
      exact ⟨[vb ((s.Pts.length : Int) == 1)], ⟨_, rfl, rfl⟩, (s.Pts.length : Int) == 1, rfl, H, hc28.gr⟩
    · have H := ite_f H hq104
      refine W_seq ?_
      refine W_reg ?_
      refine L_pu (P_cmp s.Kind 2 (s.Kind == 2) rfl rfl rfl) ?_
      refine L_pu (P_assign (vb (s.Kind == 2)) rfl) ?_
      refine L_nil ?_
      refine W_cond (s.Kind == 2) rfl (fun hq105 => ?_) (fun hq105 => ?_)
      · have H := ite_t H hq105
        refine W_seq ?_
        refine W_reg ?_
        refine L_pu (P_move (vi (s.Pts.length : Int)) rfl) ?_
        refine L_call go60 [vi (s.Pts.length : Int), vi 2, vi 6] rfl ((impl_within.calls w26 hc28.ok (s.Pts.length : Int) 2 6 _ H).mono ?_)
        rintro _ w106 ⟨r2, rfl, H, g107, _⟩
        have hc111 := hc28.k0 g107
        refine L_pu (P_assign (vb r2) rfl) ?_
        refine L_nil ?_
        refine W_ret ?_
        exact ⟨[vb r2], ⟨_, rfl, rfl⟩, r2, rfl, H, hc111.gr⟩
      · have H := ite_f H hq105
        refine W_seq ?_
        refine W_reg ?_
        refine L_pu (P_cmp s.Kind 3 (s.Kind == 3) rfl rfl rfl) ?_
        refine L_pu (P_assign (vb (s.Kind == 3)) rfl) ?_
        refine L_nil ?_
        refine W_cond (s.Kind == 3) rfl (fun hq112 => ?_) (fun hq112 => ?_)
        · have H := ite_t H hq112
          refine W_seq ?_
          refine W_draw (fun x => Gr w26 x none) (by kernel_rfl) (by kernel_rfl) (Gr.drew _) ?_
          refine Q_pu (P_move (vi (s.Pts.length : Int)) rfl) ?_
          refine Q_call go60 [vi (s.Pts.length : Int), vi 3, vi 6] rfl (vb (impl_within.m (s.Pts.length : Int) 3 6)) (fun w g => (impl_within.calls w (hc28.k0 g).ok (s.Pts.length : Int) 3 6 _ (impl_within.fn (s.Pts.length : Int) 3 6)).mono ?_) ?_
          · rintro _ w ⟨r, rfl, rfl, g2, _⟩
            exact ⟨rfl, Gr.t0 g g2⟩
          refine Q_pu (P_move (vb (impl_within.m (s.Pts.length : Int) 3 6)) rfl) ?_
          rcases bool_or (impl_within.m (s.Pts.length : Int) 3 6) with hq118 | hq118
          · have H := ite_t H hq118
            refine Q_run (dj := 49) rfl rfl (by exact congrArg Value.bool hq118) ?_
            refine Q_pu (P_fa fa76_1 ⟨b7, 0, none⟩ ⟨b7, 1, none⟩ rfl rfl) ?_
            refine Q_run (dj := 49) rfl rfl (by exact congrArg Value.bool hq118) ?_
            refine Q_pu (P_ld ag23 cQ ⟨b7, 1, none⟩ (.slice A1 n2 c3) rfl (h30.cell rfl)) ?_
            refine Q_run (dj := 49) rfl rfl (by exact congrArg Value.bool hq118) ?_
            obtain ⟨hb119, H⟩ := H
            obtain ⟨ad120, cs121, hA122, hS125, hR123, hcl124⟩ := h29.get default (by decide) 0 hb119
            obtain rfl := kPt.op hR123
            refine Q_pu (P_ia Try.underlying23 se23 A1 ad120 n2 c3 h29.len 0 rfl hA122 rfl hb119) ?_
            refine Q_run (dj := 49) rfl rfl (by exact congrArg Value.bool hq118) ?_
            refine Q_pu (P_lda ag64 sz64 cQ (ad120.add ((0 : Int).toNat * 2)) [vi ((nth s.Pts 0).X), vi ((nth s.Pts 0).Y)] rfl rfl hcl124) ?_
            refine Q_run (dj := 49) rfl rfl (by exact congrArg Value.bool hq118) ?_
            refine Q_pu (P_fa fa76_1 ⟨b7, 0, none⟩ ⟨b7, 1, none⟩ rfl rfl) ?_
            refine Q_run (dj := 49) rfl rfl (by exact congrArg Value.bool hq118) ?_
            refine Q_pu (P_ld ag23 cQ ⟨b7, 1, none⟩ (.slice A1 n2 c3) rfl (h30.cell rfl)) ?_
            refine Q_run (dj := 49) rfl rfl (by exact congrArg Value.bool hq118) ?_
            refine Q_pu (P_move (vi (s.Pts.length : Int)) rfl) ?_
            refine Q_run (dj := 49) rfl rfl (by exact congrArg Value.bool hq118) ?_
            obtain ⟨hb126, H⟩ := H
            have hi127 := hb126 (len_le hl103)
            refine Q_pu (P_sub (s.Pts.length : Int) 1 rfl rfl hi127) ?_
            refine Q_run (dj := 49) rfl rfl (by exact congrArg Value.bool hq118) ?_
            obtain ⟨hb128, H⟩ := H
            obtain ⟨ad129, cs130, hA131, hS134, hR132, hcl133⟩ := h29.get default (by decide) ((s.Pts.length : Int) - 1) hb128
            obtain rfl := kPt.op hR132
            refine Q_pu (P_ia Try.underlying23 se23 A1 ad129 n2 c3 h29.len ((s.Pts.length : Int) - 1) rfl hA131 rfl hb128) ?_
            refine Q_run (dj := 49) rfl rfl (by exact congrArg Value.bool hq118) ?_
            refine Q_pu (P_lda ag64 sz64 cQ (ad129.add (((s.Pts.length : Int) - 1).toNat * 2)) [vi ((nth s.Pts ((s.Pts.length : Int) - 1)).X), vi ((nth s.Pts ((s.Pts.length : Int) - 1)).Y)] rfl rfl hcl133) ?_
            refine Q_run (dj := 49) rfl rfl (by exact congrArg Value.bool hq118) ?_
            refine Q_pu (P_ne _ _ (eqPt (nth s.Pts 0) (nth s.Pts ((s.Pts.length : Int) - 1))) (qt64 (nth s.Pts 0) (nth s.Pts ((s.Pts.length : Int) - 1))) rfl rfl) ?_
            refine Q_pu (P_pick true (vb (!(eqPt (nth s.Pts 0) (nth s.Pts ((s.Pts.length : Int) - 1))))) (by exact congrArg Value.bool hq118) rfl) ?_
            refine Q_pu (P_assign (vb (!(eqPt (nth s.Pts 0) (nth s.Pts ((s.Pts.length : Int) - 1))))) rfl) ?_
            refine Q_nil fun w135 g136 => ?_
            have hc138 := hc28.k0 g136
            refine W_ret ?_
            exact ⟨[vb (!(eqPt (nth s.Pts 0) (nth s.Pts ((s.Pts.length : Int) - 1))))], ⟨_, rfl, rfl⟩, !(eqPt (nth s.Pts 0) (nth s.Pts ((s.Pts.length : Int) - 1))), rfl, H, hc138.gr⟩
          · have H := ite_f H hq118
            refine Q_pass (dj := 49) rfl rfl (.inl (by exact congrArg Value.bool hq118)) ?_
            refine Q_pass (dj := 49) rfl rfl (.inl (by exact congrArg Value.bool hq118)) ?_
            refine Q_pass (dj := 49) rfl rfl (.inl (by exact congrArg Value.bool hq118)) ?_
            refine Q_pass (dj := 49) rfl rfl (.inl (by exact congrArg Value.bool hq118)) ?_
            refine Q_pass (dj := 49) rfl rfl (.inl (by exact congrArg Value.bool hq118)) ?_
            refine Q_pass (dj := 49) rfl rfl (.inl (by exact congrArg Value.bool hq118)) ?_
            refine Q_pass (dj := 49) rfl rfl (.inl (by exact congrArg Value.bool hq118)) ?_
            refine Q_pass (dj := 49) rfl rfl (.inl (by exact congrArg Value.bool hq118)) ?_
            refine Q_pass (dj := 49) rfl rfl (.inl (by exact congrArg Value.bool hq118)) ?_
            refine Q_pass (dj := 49) rfl rfl (.inl (by exact congrArg Value.bool hq118)) ?_
            refine Q_pass (dj := 49) rfl rfl (.inl (by exact congrArg Value.bool hq118)) ?_
            refine Q_pu (P_pick false (vb false) (by exact congrArg Value.bool hq118) rfl) ?_
            refine Q_pu (P_assign (vb false) rfl) ?_
            refine Q_nil fun w139 g140 => ?_
            have hc142 := hc28.k0 g140
            refine W_ret ?_
            exact ⟨[vb false], ⟨_, rfl, rfl⟩, false, rfl, H, hc142.gr⟩
        · have H := ite_f H hq112
          refine W_skip ?_
          refine W_seq ?_
          refine W_reg ?_
          refine L_pu (P_assign (vb false) rfl) ?_
          refine L_nil ?_
          refine W_ret ?_
          exact ⟨[vb false], ⟨_, rfl, rfl⟩, false, rfl, H, hc28.gr⟩
end Go.Proofs.Ythkeboifjlnjjaa

namespace Go.Proofs.Ythkeboifjlnjjaa
set_option linter.unusedVariables false
set_option linter.unusedSimpArgs false
theorem impl_ShapeOk.law (s : Shape) (Q : Bool → Prop) (hl : s.Pts.length ≤ 1048576) (hq : Q (shapeOk s)) : impl_ShapeOk.E s Q := by
  unfold impl_ShapeOk.E
  unfold shapeOk ptsOk at hq
  refine loop_all s.Pts.length (fun k => ptOk (nth s.Pts (k : Int)) && (decide (k = 0) || !(decide (nth s.Pts ((k : Int) - 1) = nth s.Pts (k : Int))))) (fun I mu k hk hp hn => ?_) (fun ha => ?_)
  · refine ⟨by omega, _, impl_ptOk.law _ _ rfl, ?_⟩
    have bad : (ptOk (nth s.Pts (k : Int)) && (decide (k = 0) || !(decide (nth s.Pts ((k : Int) - 1) = nth s.Pts (k : Int))))) = false → Q false := fun h => by
      rw [allN_false hk h, Bool.false_and] at hq; exact hq
    cases h1 : ptOk (nth s.Pts (k : Int)) with
    | false => rw [if_pos (by decide)]; exact bad (by rw [h1]; rfl)
    | true =>
      rw [if_neg (by decide)]
      by_cases hk0 : k = 0
      · rw [if_neg (by rw [decide_eq_true_eq]; omega)]
        obtain ⟨i1, i2⟩ := hn (by rw [h1, decide_eq_true hk0]; rfl)
        exact ⟨by unfold I64; omega, i1, i2⟩
      · rw [if_pos (by rw [decide_eq_true_eq]; omega)]
        refine ⟨by unfold I64; omega, by omega, ?_⟩
        rw [eqPt_is]
        by_cases he : nth s.Pts ((k : Int) - 1) = nth s.Pts (k : Int)
        · rw [if_pos (by rw [decide_eq_true_eq]; exact he)]
          exact bad (by rw [h1, decide_eq_false hk0, decide_eq_true he]; rfl)
        · rw [if_neg (by rw [decide_eq_true_eq]; exact he)]
          obtain ⟨i1, i2⟩ := hn (by simp only [h1, decide_eq_false hk0, decide_eq_false he]; rfl)
          exact ⟨by unfold I64; omega, i1, i2⟩
  · rw [allN_true ha, Bool.true_and] at hq
    unfold kindOk at hq
    by_cases k1 : s.Kind = 1
    · rw [if_pos k1] at hq
      rw [if_pos (by rw [beq_iff_eq]; exact k1)]
      have : ((s.Pts.length : Int) == 1) = decide (s.Pts.length = 1) := by rw [Bool.eq_iff_iff, beq_iff_eq, decide_eq_true_eq]; omega
      rw [this]; exact hq
    rw [if_neg k1] at hq
    rw [if_neg (by rw [beq_iff_eq]; exact k1)]
    have e2 : decide ((2 : Int) ≤ (s.Pts.length : Int)) = decide (2 ≤ s.Pts.length) := decide_eq_decide.2 (by omega)
    have e3 : decide ((3 : Int) ≤ (s.Pts.length : Int)) = decide (3 ≤ s.Pts.length) := decide_eq_decide.2 (by omega)
    have e6 : decide ((s.Pts.length : Int) ≤ 6) = decide (s.Pts.length ≤ 6) := decide_eq_decide.2 (by omega)
    by_cases k2 : s.Kind = 2
    · rw [if_pos k2] at hq
      rw [if_pos (by rw [beq_iff_eq]; exact k2)]
      refine impl_within.law _ _ _ _ ?_
      rw [e2, e6]; exact hq
    rw [if_neg k2] at hq
    rw [if_neg (by rw [beq_iff_eq]; exact k2)]
    by_cases k3 : s.Kind = 3
    · rw [if_pos k3] at hq
      rw [if_pos (by rw [beq_iff_eq]; exact k3), impl_within.m_is, e3, e6]
      cases hc : decide (3 ≤ s.Pts.length) && decide (s.Pts.length ≤ 6) with
      | true =>
        rw [hc, Bool.true_and] at hq
        rw [Bool.and_eq_true, decide_eq_true_eq, decide_eq_true_eq] at hc
        rw [if_pos rfl, eqPt_is]
        exact ⟨by omega, fun _ => by unfold I64; omega, by omega, hq⟩
      | false =>
        rw [hc, Bool.false_and] at hq
        rw [if_neg (by decide)]; exact hq
    · rw [if_neg k3] at hq
      rw [if_neg (by rw [beq_iff_eq]; exact k3)]; exact hq
end Go.Proofs.Ythkeboifjlnjjaa

namespace Go.Proofs.Ythkeboifjlnjjaa
open Go.RowKit
set_option linter.unusedVariables false
def impl_FeatOk.E (f : Feat) (Q : Bool → Prop) : Prop :=
  (∃ (I43 : Int → Prop) (mu44 : Int → Nat), I43 0 ∧ ∀ (v2 : Int), I43 v2 → (if decide (v2 < (f.Tags.length : Int)) then ((0 : Int) ≤ v2 ∧ v2 < (f.Tags.length : Int)) ∧ (∃ q : Bool, impl_WordOk.E ((nth f.Tags v2).Key) (fun x => x = q) ∧ (if !q then Q false else (∃ q2 : Bool, impl_WordOk.E ((nth f.Tags v2).Val) (fun x => x = q2) ∧ (if !q2 then Q false else (if decide (v2 > 0) then (I64 (v2 - 1)) ∧ ((0 : Int) ≤ v2 - 1 ∧ v2 - 1 < (f.Tags.length : Int)) ∧ (if !(Op.bytesLess ((nth f.Tags (v2 - 1)).Key) ((nth f.Tags v2).Key)) then Q false else (I64 (v2 + 1)) ∧ I43 (v2 + 1) ∧ mu44 (v2 + 1) < mu44 v2) else (I64 (v2 + 1)) ∧ I43 (v2 + 1) ∧ mu44 (v2 + 1) < mu44 v2))))) else impl_WordOk.E f.Id (fun r3 => (if r3 then impl_ShapeOk.E f.Shape (fun r4 => (if r4 then Q (decide ((f.Tags.length : Int) ≤ 4)) else Q false)) else Q false))))
set_option maxHeartbeats 8000000 in
set_option maxRecDepth 100000 in
theorem impl_FeatOk.calls {O : Ob} (w0 : World) (hO : Ok w0 O) (f : Feat) (A2 : Option Addr) (n3 c4 : Nat) (A7 : Option Addr) (n8 c9 : Nat) (hs1 : Lim f.Id) (hp5 : Sl kPt w0 (Fr O) (.slice A2 n3 c4) f.Shape.Pts) (hp10 : Sl kTag w0 (Fr O) (.slice A7 n8 c9) f.Tags) (Q : Bool → Prop) (h : impl_FeatOk.E f Q) :
    Ret Try.prog 79 [.agg #[vs f.Id, vi f.Shape.Kind, .slice A2 n3 c4, .slice A7 n8 c9]] w0 (fun v w' => ∃ (r0 : Bool), v = vb r0 ∧ Q r0 ∧ Gr w0 w' none) := by
  have H : (∃ (I43 : Int → Prop) (mu44 : Int → Nat), I43 0 ∧ ∀ (v2 : Int), I43 v2 → (if decide (v2 < (f.Tags.length : Int)) then ((0 : Int) ≤ v2 ∧ v2 < (f.Tags.length : Int)) ∧ (∃ q : Bool, impl_WordOk.E ((nth f.Tags v2).Key) (fun x => x = q) ∧ (if !q then Q false else (∃ q2 : Bool, impl_WordOk.E ((nth f.Tags v2).Val) (fun x => x = q2) ∧ (if !q2 then Q false else (if decide (v2 > 0) then (I64 (v2 - 1)) ∧ ((0 : Int) ≤ v2 - 1 ∧ v2 - 1 < (f.Tags.length : Int)) ∧ (if !(Op.bytesLess ((nth f.Tags (v2 - 1)).Key) ((nth f.Tags v2).Key)) then Q false else (I64 (v2 + 1)) ∧ I43 (v2 + 1) ∧ mu44 (v2 + 1) < mu44 v2) else (I64 (v2 + 1)) ∧ I43 (v2 + 1) ∧ mu44 (v2 + 1) < mu44 v2))))) else impl_WordOk.E f.Id (fun r3 => (if r3 then impl_ShapeOk.E f.Shape (fun r4 => (if r4 then Q (decide ((f.Tags.length : Int) ≤ 4)) else Q false)) else Q false)))) := h
  clear h
  have hc0 := Ct.init hO
  refine Ret_enter Try.func79 rfl 54 rfl [.tmp 2] rfl rfl ?_
  refine W_seq ?_
  refine W_reg ?_
  refine L_box [vs f.Id, vi f.Shape.Kind, .slice A2 n3 c4, .slice A7 n8 c9] rfl fun w12 b13 hl15 hu16 g14 hx17 => ?_
  have h19 := Fb.mk hc0.ok hl15 hx17
  have hc20 := hc0.k0 g14
  refine L_pu (P_assign (vb false) rfl) ?_
  refine L_nil ?_
  refine W_seq ?_
  refine W_seq ?_
  refine W_reg ?_
  refine L_pu (P_fa fa79_2 ⟨b13, 0, none⟩ ⟨b13, 3, none⟩ rfl rfl) ?_
  refine L_pu (P_ld ag77 cL ⟨b13, 3, none⟩ (.slice A7 n8 c9) rfl (h19.cell rfl)) ?_
  have hl21 := (hp10.st hc20.st).le
  refine L_pu (P_len Try.underlying77 A7 n8 c9 (hp10.st hc20.st).len rfl) ?_
  refine L_pu (P_move (vi 0) rfl) ?_
  refine L_nil ?_
  refine W_block ?_
  obtain ⟨I43, mu44, hI45, H⟩ := H
  refine W_loop (α := Int) (fun (sv__ : Int) t w36 => match sv__ with | v2 => I43 v2 ∧ Has t [(1, .pointer (some ⟨b13, 0, none⟩)), (6, .slice A7 n8 c9), (7, vi (f.Tags.length : Int)), (8, vi v2)] ∧ Ct none w0 w36 [] O ∧ Sl kTag w36 (Fr ([] ++ O)) (.slice A7 n8 c9) f.Tags ∧ Sl kPt w36 (Fr ([] ++ O)) (.slice A2 n3 c4) f.Shape.Pts ∧ Fb w36 ([] ++ O) b13 [vs f.Id, vi f.Shape.Kind, .slice A2 n3 c4, .slice A7 n8 c9]) (fun (sv__ : Int) => match sv__ with | v2 => mu44 v2) 0 ⟨hI45, ⟨rfl, rfl, rfl, rfl, trivial⟩, hc20, (hp10.st hc20.st), (hp5.st hc20.st), h19⟩ ?_
  rintro v2 _ w36 ⟨hI45, hh47, hc39, h40, h41, h42⟩
  obtain ⟨u48, rfl⟩ := Has.ins hh47
  have H := H v2 hI45
  refine W_seq ?_
  refine W_reg ?_
  refine L_pu (P_cmp v2 (f.Tags.length : Int) (decide (v2 < (f.Tags.length : Int))) rfl rfl rfl) ?_
  refine L_nil ?_
  refine W_seq ?_
  refine W_cond (decide (v2 < (f.Tags.length : Int))) rfl (fun hq49 => ?_) (fun hq49 => ?_)
  · have H := ite_t H hq49
    refine W_skip ?_
    refine W_seq ?_
    refine W_block ?_
    refine W_seq ?_
    refine W_reg ?_
    refine L_pu (P_move (vi v2) rfl) ?_
    obtain ⟨hb50, H⟩ := H
    obtain ⟨ad51, cs52, hA53, hS56, hR54, hcl55⟩ := h40.get default (by decide) v2 hb50
    obtain ⟨rfl, hs57, hs58⟩ := kTag.op hR54
    refine L_pu (P_ia Try.underlying77 se77 A7 ad51 n8 c9 h40.len v2 rfl hA53 rfl hb50) ?_
    refine L_pu (P_lda ag149 sz149 cL (ad51.add (v2.toNat * 2)) [vs ((nth f.Tags v2).Key), vs ((nth f.Tags v2).Val)] rfl rfl hcl55) ?_
    refine L_alloc [vs [], vs []] ze149 fun w59 b60 hl62 hu63 g61 hx64 => ?_
    have hc66 := hc39.own g61 (some b60) (oglt hl62 hu63)
    refine L_pu (P_assign (vi v2) rfl) ?_
    refine L_stb b60 0 [vs ([] : Str), vs ([] : Str)] [vs ((nth f.Tags v2).Key), vs ((nth f.Tags v2).Val)] [vs ((nth f.Tags v2).Key), vs ((nth f.Tags v2).Val)] rfl hx64 rfl sz149 rfl rfl rfl fun w67 g68 hx69 => ?_
    have hc70 := hc66.wr 0 rfl g68
    refine L_nil ?_
    refine W_seq ?_
    refine W_draw (fun x => Gr w67 x none) (by kernel_rfl) (by kernel_rfl) (Gr.drew _) ?_
    refine Q_pu (P_fa fa149_0 ⟨b60, 0, none⟩ ⟨b60, 0, none⟩ rfl rfl) ?_
    refine Q_pu (P_ld ag9 cQ ⟨b60, 0, none⟩ (vs ((nth f.Tags v2).Key)) rfl (hx69.cell rfl)) ?_
    obtain ⟨q, hE76, H⟩ := H
    refine Q_call go41 [vs ((nth f.Tags v2).Key)] rfl (vb q) (fun w g => (impl_WordOk.calls w (hc70.k0 g).ok ((nth f.Tags v2).Key) hs57 _ hE76).mono ?_) ?_
    · rintro _ w ⟨r, rfl, rfl, g2⟩
      exact ⟨rfl, Gr.t0 g g2⟩
    refine Q_pu (P_not q rfl) ?_
    refine Q_pu (P_move (vb (!q)) rfl) ?_
    rcases bool_or (!q) with hq78 | hq78
    · have H := ite_t H hq78
      refine Q_pass (dj := 17) rfl rfl (.inl (by exact congrArg Value.bool hq78)) ?_
      refine Q_pass (dj := 17) rfl rfl (.inl (by exact congrArg Value.bool hq78)) ?_
      refine Q_pass (dj := 17) rfl rfl (.inl (by exact congrArg Value.bool hq78)) ?_
      refine Q_pass (dj := 17) rfl rfl (.inl (by exact congrArg Value.bool hq78)) ?_
      refine Q_pu (P_pick true (vb true) (by exact congrArg Value.bool hq78) rfl) ?_
      refine Q_pu (P_move (vb true) rfl) ?_
      refine Q_pass (dj := 23) rfl rfl (.inl rfl) ?_
      refine Q_pass (dj := 23) rfl rfl (.inl rfl) ?_
      refine Q_pass (dj := 23) rfl rfl (.inl rfl) ?_
      refine Q_pass (dj := 26) rfl rfl (.inr rfl) ?_
      refine Q_pass (dj := 26) rfl rfl (.inr rfl) ?_
      refine Q_pass (dj := 26) rfl rfl (.inr rfl) ?_
      refine Q_pass (dj := 26) rfl rfl (.inr rfl) ?_
      refine Q_pass (dj := 26) rfl rfl (.inr rfl) ?_
      refine Q_pass (dj := 26) rfl rfl (.inr rfl) ?_
      refine Q_pass (dj := 26) rfl rfl (.inr rfl) ?_
      refine Q_pass (dj := 26) rfl rfl (.inr rfl) ?_
      refine Q_pass (dj := 26) rfl rfl (.inr rfl) ?_
      refine Q_pass (dj := 26) rfl rfl (.inr rfl) ?_
      refine Q_pass (dj := 23) rfl rfl (.inl rfl) ?_
      refine Q_pu (P_pick true (vb true) (by exact congrArg Value.bool rfl) rfl) ?_
      refine Q_nil fun w79 g80 => ?_
      have hc82 := hc70.k0 g80
      refine W_ct (b := true) rfl rfl ?_
      refine W_seq ?_
      refine W_reg ?_
      refine L_pu (P_assign (vb false) rfl) ?_
      refine L_nil ?_
      refine W_ret ?_
      have hc83 := hc82.drop 0 rfl
      exact ⟨[vb false], ⟨_, rfl, rfl⟩, false, rfl, H, hc83.gr⟩
    · have H := ite_f H hq78
      refine Q_run (dj := 17) rfl rfl (by exact congrArg Value.bool hq78) ?_
      refine Q_pu (P_fa fa149_1 ⟨b60, 0, none⟩ ⟨b60, 1, none⟩ rfl rfl) ?_
      refine Q_run (dj := 17) rfl rfl (by exact congrArg Value.bool hq78) ?_
      refine Q_pu (P_ld ag9 cQ ⟨b60, 1, none⟩ (vs ((nth f.Tags v2).Val)) rfl (hx69.cell rfl)) ?_
      refine Q_run (dj := 17) rfl rfl (by exact congrArg Value.bool hq78) ?_
      obtain ⟨q2, hE89, H⟩ := H
      refine Q_call go41 [vs ((nth f.Tags v2).Val)] rfl (vb q2) (fun w g => (impl_WordOk.calls w (hc70.k0 g).ok ((nth f.Tags v2).Val) hs58 _ hE89).mono ?_) ?_
      · rintro _ w ⟨r, rfl, rfl, g2⟩
        exact ⟨rfl, Gr.t0 g g2⟩
      refine Q_run (dj := 17) rfl rfl (by exact congrArg Value.bool hq78) ?_
      refine Q_pu (P_not q2 rfl) ?_
      refine Q_pu (P_pick false (vb (!q2)) (by exact congrArg Value.bool hq78) rfl) ?_
      refine Q_pu (P_move (vb (!q2)) rfl) ?_
      rcases bool_or (!q2) with hq91 | hq91
      · have H := ite_t H hq91
        refine Q_pass (dj := 23) rfl rfl (.inl (by exact congrArg Value.bool hq91)) ?_
        refine Q_pass (dj := 23) rfl rfl (.inl (by exact congrArg Value.bool hq91)) ?_
        refine Q_pass (dj := 23) rfl rfl (.inl (by exact congrArg Value.bool hq91)) ?_
        refine Q_pass (dj := 26) rfl rfl (.inr rfl) ?_
        refine Q_pass (dj := 26) rfl rfl (.inr rfl) ?_
        refine Q_pass (dj := 26) rfl rfl (.inr rfl) ?_
        refine Q_pass (dj := 26) rfl rfl (.inr rfl) ?_
        refine Q_pass (dj := 26) rfl rfl (.inr rfl) ?_
        refine Q_pass (dj := 26) rfl rfl (.inr rfl) ?_
        refine Q_pass (dj := 26) rfl rfl (.inr rfl) ?_
        refine Q_pass (dj := 26) rfl rfl (.inr rfl) ?_
        refine Q_pass (dj := 26) rfl rfl (.inr rfl) ?_
        refine Q_pass (dj := 26) rfl rfl (.inr rfl) ?_
        refine Q_pass (dj := 23) rfl rfl (.inl (by exact congrArg Value.bool hq91)) ?_
        refine Q_pu (P_pick true (vb true) (by exact congrArg Value.bool hq91) rfl) ?_
        refine Q_nil fun w92 g93 => ?_
        have hc95 := hc70.k0 g93
        refine W_ct (b := true) rfl rfl ?_
        refine W_seq ?_
        refine W_reg ?_
        refine L_pu (P_assign (vb false) rfl) ?_
        refine L_nil ?_
        refine W_ret ?_
        have hc96 := hc95.drop 0 rfl
        exact ⟨[vb false], ⟨_, rfl, rfl⟩, false, rfl, H, hc96.gr⟩
      · have H := ite_f H hq91
        refine Q_run (dj := 23) rfl rfl (by exact congrArg Value.bool hq91) ?_
        refine Q_pu (P_move (vi v2) rfl) ?_
        refine Q_run (dj := 23) rfl rfl (by exact congrArg Value.bool hq91) ?_
        refine Q_pu (P_cmp v2 0 (decide (v2 > 0)) rfl rfl rfl) ?_
        refine Q_run (dj := 23) rfl rfl (by exact congrArg Value.bool hq91) ?_
        refine Q_pu (P_move (vb (decide (v2 > 0))) rfl) ?_
        rcases bool_or (decide (v2 > 0)) with hq97 | hq97
        · have H := ite_t H hq97
          refine Q_run (dj := 26) rfl rfl (by exact congrArg Value.bool hq97) ?_
          refine Q_pu (P_fa fa79_2 ⟨b13, 0, none⟩ ⟨b13, 3, none⟩ rfl rfl) ?_
          refine Q_run (dj := 26) rfl rfl (by exact congrArg Value.bool hq97) ?_
          have h98 := ((h42.st (.own _ _ g61 (oge hl62))).st (.wl (L := [some b60]) (O := O) (j := 0) rfl g68))
          refine Q_pu (P_ld ag77 cQ ⟨b13, 3, none⟩ (.slice A7 n8 c9) rfl (h98.cell rfl)) ?_
          refine Q_run (dj := 26) rfl rfl (by exact congrArg Value.bool hq97) ?_
          refine Q_pu (P_move (vi v2) rfl) ?_
          refine Q_run (dj := 26) rfl rfl (by exact congrArg Value.bool hq97) ?_
          obtain ⟨hb99, H⟩ := H
          refine Q_pu (P_sub v2 1 rfl rfl hb99) ?_
          refine Q_run (dj := 26) rfl rfl (by exact congrArg Value.bool hq97) ?_
          obtain ⟨hb100, H⟩ := H
          have h107 := ((h40.st (.own _ _ g61 (oge hl62))).st (.wl (L := [some b60]) (O := O) (j := 0) rfl g68))
          obtain ⟨ad101, cs102, hA103, hS106, hR104, hcl105⟩ := h107.get default (by decide) (v2 - 1) hb100
          obtain ⟨rfl, hs108, hs109⟩ := kTag.op hR104
          refine Q_pu (P_ia Try.underlying77 se77 A7 ad101 n8 c9 h107.len (v2 - 1) rfl hA103 rfl hb100) ?_
          refine Q_run (dj := 26) rfl rfl (by exact congrArg Value.bool hq97) ?_
          refine Q_pu (P_fa fa149_0 (ad101.add ((v2 - 1).toNat * 2)) ((ad101.add ((v2 - 1).toNat * 2)).add 0) rfl rfl) ?_
          refine Q_run (dj := 26) rfl rfl (by exact congrArg Value.bool hq97) ?_
          refine Q_pu (P_ld ag9 cQ ((ad101.add ((v2 - 1).toNat * 2)).add 0) (vs ((nth f.Tags (v2 - 1)).Key)) rfl (hcl105 0 _ rfl)) ?_
          refine Q_run (dj := 26) rfl rfl (by exact congrArg Value.bool hq97) ?_
          refine Q_pu (P_fa fa149_0 ⟨b60, 0, none⟩ ⟨b60, 0, none⟩ rfl rfl) ?_
          refine Q_run (dj := 26) rfl rfl (by exact congrArg Value.bool hq97) ?_
          refine Q_pu (P_ld ag9 cQ ⟨b60, 0, none⟩ (vs ((nth f.Tags v2).Key)) rfl (hx69.cell rfl)) ?_
          refine Q_run (dj := 26) rfl rfl (by exact congrArg Value.bool hq97) ?_
          refine Q_pu (P_scmp ((nth f.Tags (v2 - 1)).Key) ((nth f.Tags v2).Key) (!(Op.bytesLess ((nth f.Tags (v2 - 1)).Key) ((nth f.Tags v2).Key))) rfl rfl rfl) ?_
          refine Q_run (dj := 23) rfl rfl (by exact congrArg Value.bool hq91) ?_
          refine Q_pu (P_pick true (vb (!(Op.bytesLess ((nth f.Tags (v2 - 1)).Key) ((nth f.Tags v2).Key)))) (by exact congrArg Value.bool hq97) rfl) ?_
          refine Q_pu (P_pick false (vb (!(Op.bytesLess ((nth f.Tags (v2 - 1)).Key) ((nth f.Tags v2).Key)))) (by exact congrArg Value.bool hq91) rfl) ?_
          refine Q_nil fun w110 g111 => ?_
          have hc113 := hc70.k0 g111
          refine W_cond (!(Op.bytesLess ((nth f.Tags (v2 - 1)).Key) ((nth f.Tags v2).Key))) rfl (fun hq114 => ?_) (fun hq114 => ?_)
          · have H := ite_t H hq114
            refine W_seq ?_
            refine W_reg ?_
            refine L_pu (P_assign (vb false) rfl) ?_
            refine L_nil ?_
            refine W_ret ?_
            have hc115 := hc113.drop 0 rfl
            exact ⟨[vb false], ⟨_, rfl, rfl⟩, false, rfl, H, hc115.gr⟩
          · have H := ite_f H hq114
            refine W_skip ?_
            refine W_reg ?_
            obtain ⟨hb116, H⟩ := H
            refine L_pu (P_add v2 1 rfl rfl hb116) ?_
            refine L_pu (P_move (vi (v2 + 1)) rfl) ?_
            refine L_nil ?_
            have hc117 := hc113.drop 0 rfl
            obtain ⟨hI118, hm119⟩ := H
            have h120 := ((h107.st (.new _ g111)).st (.dr _ (L := [some b60]) (O := O) (j := 0) rfl))
            have h121 := ((((h41.st (.own _ _ g61 (oge hl62))).st (.wl (L := [some b60]) (O := O) (j := 0) rfl g68)).st (.new _ g111)).st (.dr _ (L := [some b60]) (O := O) (j := 0) rfl))
            have h122 := ((h98.st (.new _ g111)).st (.dr _ (L := [some b60]) (O := O) (j := 0) rfl))
            exact ⟨v2 + 1, hm119, hI118, ⟨rfl, rfl, rfl, rfl, trivial⟩, hc117, h120, h121, h122⟩
        · have H := ite_f H hq97
          refine Q_pass (dj := 26) rfl rfl (.inl (by exact congrArg Value.bool hq97)) ?_
          refine Q_pass (dj := 26) rfl rfl (.inl (by exact congrArg Value.bool hq97)) ?_
          refine Q_pass (dj := 26) rfl rfl (.inl (by exact congrArg Value.bool hq97)) ?_
          refine Q_pass (dj := 26) rfl rfl (.inl (by exact congrArg Value.bool hq97)) ?_
          refine Q_pass (dj := 26) rfl rfl (.inl (by exact congrArg Value.bool hq97)) ?_
          refine Q_pass (dj := 26) rfl rfl (.inl (by exact congrArg Value.bool hq97)) ?_
          refine Q_pass (dj := 26) rfl rfl (.inl (by exact congrArg Value.bool hq97)) ?_
          refine Q_pass (dj := 26) rfl rfl (.inl (by exact congrArg Value.bool hq97)) ?_
          refine Q_pass (dj := 26) rfl rfl (.inl (by exact congrArg Value.bool hq97)) ?_
          refine Q_pass (dj := 26) rfl rfl (.inl (by exact congrArg Value.bool hq97)) ?_
          refine Q_run (dj := 23) rfl rfl (by exact congrArg Value.bool hq91) ?_
          refine Q_pu (P_pick false (vb false) (by exact congrArg Value.bool hq97) rfl) ?_
          refine Q_pu (P_pick false (vb false) (by exact congrArg Value.bool hq91) rfl) ?_
          refine Q_nil fun w123 g124 => ?_
          have hc126 := hc70.k0 g124
          refine W_cf (b := false) rfl rfl ?_
          refine W_skip ?_
          refine W_reg ?_
          obtain ⟨hb127, H⟩ := H
          refine L_pu (P_add v2 1 rfl rfl hb127) ?_
          refine L_pu (P_move (vi (v2 + 1)) rfl) ?_
          refine L_nil ?_
          have hc128 := hc126.drop 0 rfl
          obtain ⟨hI129, hm130⟩ := H
          have h131 := ((((h40.st (.own _ _ g61 (oge hl62))).st (.wl (L := [some b60]) (O := O) (j := 0) rfl g68)).st (.new _ g124)).st (.dr _ (L := [some b60]) (O := O) (j := 0) rfl))
          have h132 := ((((h41.st (.own _ _ g61 (oge hl62))).st (.wl (L := [some b60]) (O := O) (j := 0) rfl g68)).st (.new _ g124)).st (.dr _ (L := [some b60]) (O := O) (j := 0) rfl))
          have h133 := ((((h42.st (.own _ _ g61 (oge hl62))).st (.wl (L := [some b60]) (O := O) (j := 0) rfl g68)).st (.new _ g124)).st (.dr _ (L := [some b60]) (O := O) (j := 0) rfl))
          exact ⟨v2 + 1, hm130, hI129, ⟨rfl, rfl, rfl, rfl, trivial⟩, hc128, h131, h132, h133⟩
  · have H := ite_f H hq49
    refine W_exit (xin_hit ?_)
    refine W_seq ?_
    refine W_reg ?_
    refine L_pu (P_fa fa79_0 ⟨b13, 0, none⟩ ⟨b13, 0, none⟩ rfl rfl) ?_
    refine L_pu (P_ld ag9 cL ⟨b13, 0, none⟩ (vs f.Id) rfl (h42.cell rfl)) ?_
    refine L_call go41 [vs f.Id] rfl ((impl_WordOk.calls w36 hc39.ok f.Id hs1 _ H).mono ?_)
    rintro _ w134 ⟨r3, rfl, H, g135⟩
    have hc139 := hc39.k0 g135
    refine L_pu (P_move (vb r3) rfl) ?_
    rcases bool_or r3 with hq140 | hq140
    · have H := ite_t H hq140
      refine L_run (dj := 43) rfl rfl (by exact congrArg Value.bool hq140) ?_
      refine L_pu (P_fa fa79_1 ⟨b13, 0, none⟩ ⟨b13, 1, none⟩ rfl rfl) ?_
      refine L_run (dj := 43) rfl rfl (by exact congrArg Value.bool hq140) ?_
      have h141 := (h42.st (.new _ g135))
      refine L_pu (P_lda ag76 sz76 cL ⟨b13, 1, none⟩ [vi f.Shape.Kind, .slice A2 n3 c4] rfl rfl (h141.cells (off := 1) rfl)) ?_
      refine L_run (dj := 43) rfl rfl (by exact congrArg Value.bool hq140) ?_
      refine L_call go107 [.agg #[vi f.Shape.Kind, .slice A2 n3 c4]] rfl ((impl_ShapeOk.calls w134 hc139.ok f.Shape A2 n3 c4 (h41.st (.new _ g135)) _ H).mono ?_)
      rintro _ w142 ⟨r4, rfl, H, g143⟩
      have hc147 := hc139.k0 g143
      refine L_pu (P_pick true (vb r4) (by exact congrArg Value.bool hq140) rfl) ?_
      refine L_pu (P_move (vb r4) rfl) ?_
      rcases bool_or r4 with hq148 | hq148
      · have H := ite_t H hq148
        refine L_run (dj := 48) rfl rfl (by exact congrArg Value.bool hq148) ?_
        refine L_pu (P_fa fa79_2 ⟨b13, 0, none⟩ ⟨b13, 3, none⟩ rfl rfl) ?_
        refine L_run (dj := 48) rfl rfl (by exact congrArg Value.bool hq148) ?_
        have h149 := (h141.st (.new _ g143))
        refine L_pu (P_ld ag77 cL ⟨b13, 3, none⟩ (.slice A7 n8 c9) rfl (h149.cell rfl)) ?_
        refine L_run (dj := 48) rfl rfl (by exact congrArg Value.bool hq148) ?_
        have h150 := ((h40.st (.new _ g135)).st (.new _ g143))
        have hl151 := h150.le
        refine L_pu (P_len Try.underlying77 A7 n8 c9 h150.len rfl) ?_
        refine L_run (dj := 48) rfl rfl (by exact congrArg Value.bool hq148) ?_
        refine L_pu (P_cmp (f.Tags.length : Int) 4 (decide ((f.Tags.length : Int) ≤ 4)) rfl rfl rfl) ?_
        refine L_pu (P_pick true (vb (decide ((f.Tags.length : Int) ≤ 4))) (by exact congrArg Value.bool hq148) rfl) ?_
        refine L_pu (P_assign (vb (decide ((f.Tags.length : Int) ≤ 4))) rfl) ?_
        refine L_nil ?_
        refine W_ret ?_
        exact ⟨[vb (decide ((f.Tags.length : Int) ≤ 4))], ⟨_, rfl, rfl⟩, decide ((f.Tags.length : Int) ≤ 4), rfl, H, hc147.gr⟩
      · have H := ite_f H hq148
        refine L_pass (dj := 48) rfl rfl (.inl (by exact congrArg Value.bool hq148)) ?_
        refine L_pass (dj := 48) rfl rfl (.inl (by exact congrArg Value.bool hq148)) ?_
        refine L_pass (dj := 48) rfl rfl (.inl (by exact congrArg Value.bool hq148)) ?_
        refine L_pass (dj := 48) rfl rfl (.inl (by exact congrArg Value.bool hq148)) ?_
        refine L_pu (P_pick false (vb false) (by exact congrArg Value.bool hq148) rfl) ?_
        refine L_pu (P_assign (vb false) rfl) ?_
        refine L_nil ?_
        refine W_ret ?_
        exact ⟨[vb false], ⟨_, rfl, rfl⟩, false, rfl, H, hc147.gr⟩
    · have H := ite_f H hq140
      refine L_pass (dj := 43) rfl rfl (.inl (by exact congrArg Value.bool hq140)) ?_
      refine L_pass (dj := 43) rfl rfl (.inl (by exact congrArg Value.bool hq140)) ?_
      refine L_pass (dj := 43) rfl rfl (.inl (by exact congrArg Value.bool hq140)) ?_
      refine L_pu (P_pick false (vb false) (by exact congrArg Value.bool hq140) rfl) ?_
      refine L_pu (P_move (vb false) rfl) ?_
      refine L_pass (dj := 48) rfl rfl (.inl rfl) ?_
      refine L_pass (dj := 48) rfl rfl (.inl rfl) ?_
      refine L_pass (dj := 48) rfl rfl (.inl rfl) ?_
      refine L_pass (dj := 48) rfl rfl (.inl rfl) ?_
      refine L_pu (P_pick false (vb false) (by exact congrArg Value.bool rfl) rfl) ?_
      refine L_pu (P_assign (vb false) rfl) ?_
      refine L_nil ?_
      refine W_ret ?_
      exact ⟨[vb false], ⟨_, rfl, rfl⟩, false, rfl, H, hc139.gr⟩
end Go.Proofs.Ythkeboifjlnjjaa

namespace Go.Proofs.Ythkeboifjlnjjaa
set_option linter.unusedVariables false
set_option linter.unusedSimpArgs false
theorem impl_FeatOk.law (f : Feat) (Q : Bool → Prop) (hb : bulk f ≤ 1048576) (hq : Q (featOk f)) : impl_FeatOk.E f Q := by
  unfold impl_FeatOk.E
  unfold featOk at hq
  have b1 : bulk f = bulk f.Id + bulk f.Shape + bulk f.Tags := rfl
  have b2 : bulk f.Shape = bulk f.Shape.Kind + bulk f.Shape.Pts := rfl
  have l1 := bulk_len f.Tags; have l2 := bulk_len f.Shape.Pts; have l3 := bulk_len f.Id
  have core : (tagsOk f.Tags = true → impl_WordOk.E f.Id (fun r3 => (if r3 then impl_ShapeOk.E f.Shape (fun r4 => (if r4 then Q (decide ((f.Tags.length : Int) ≤ 4)) else Q false)) else Q false))) := fun ha => by
    rw [ha, Bool.true_and] at hq
    refine impl_WordOk.law _ _ (by omega) ?_
    cases h1 : wordOk f.Id with
    | false => rw [h1, Bool.and_false, Bool.false_and] at hq; rw [if_neg (by decide)]; exact hq
    | true =>
      rw [h1, Bool.and_true] at hq
      rw [if_pos rfl]
      refine impl_ShapeOk.law _ _ (by omega) ?_
      cases h2 : shapeOk f.Shape with
      | false => rw [h2, Bool.and_false] at hq; rw [if_neg (by decide)]; exact hq
      | true =>
        rw [h2, Bool.and_true] at hq; rw [if_pos rfl]
        have e2 : decide ((f.Tags.length : Int) ≤ 4) = decide (f.Tags.length ≤ 4) := decide_eq_decide.2 (by omega)
        rw [e2]; exact hq
  have bad : tagsOk f.Tags = false → Q false := fun h => by
    rw [h, Bool.false_and, Bool.false_and, Bool.false_and] at hq; exact hq
  unfold tagsOk at core bad
  refine loop_all f.Tags.length (fun k => wordOk (nth f.Tags (k : Int)).Key && wordOk (nth f.Tags (k : Int)).Val && (decide (k = 0) || Op.bytesLess (nth f.Tags ((k : Int) - 1)).Key (nth f.Tags (k : Int)).Key)) (fun I mu k hk hp hn => ?_) (fun ha => core (allN_true ha))
  have bad := fun h => bad (allN_false hk h)
  have m1 := bulk_mem (nth_mem f.Tags hk)
  have m2 : bulk (nth f.Tags (k : Int)) = bulk (nth f.Tags (k : Int)).Key + bulk (nth f.Tags (k : Int)).Val := rfl
  have m3 := bulk_len (nth f.Tags (k : Int)).Key; have m4 := bulk_len (nth f.Tags (k : Int)).Val
  refine ⟨by omega, _, impl_WordOk.law _ _ (by omega) rfl, ?_⟩
  cases h1 : wordOk (nth f.Tags (k : Int)).Key with
  | false => rw [if_pos (by decide)]; exact bad (by rw [h1]; rfl)
  | true =>
    rw [if_neg (by decide)]
    refine ⟨_, impl_WordOk.law _ _ (by omega) rfl, ?_⟩
    cases h2 : wordOk (nth f.Tags (k : Int)).Val with
    | false => rw [if_pos (by decide)]; exact bad (by rw [h2, Bool.and_false]; rfl)
    | true =>
      rw [if_neg (by decide)]
      by_cases hk0 : k = 0
      · rw [if_neg (by rw [decide_eq_true_eq]; omega)]
        obtain ⟨i1, i2⟩ := hn (by rw [h1, h2, decide_eq_true hk0]; rfl)
        exact ⟨by unfold I64; omega, i1, i2⟩
      · rw [if_pos (by rw [decide_eq_true_eq]; omega)]
        refine ⟨by unfold I64; omega, by omega, ?_⟩
        cases h3 : Op.bytesLess (nth f.Tags ((k : Int) - 1)).Key (nth f.Tags (k : Int)).Key with
        | false => rw [if_pos (by decide)]; exact bad (by rw [h3, h1, h2, decide_eq_false hk0]; rfl)
        | true =>
          rw [if_neg (by decide)]
          obtain ⟨i1, i2⟩ := hn (by rw [h3, h1, h2, decide_eq_false hk0]; rfl)
          exact ⟨by unfold I64; omega, i1, i2⟩
end Go.Proofs.Ythkeboifjlnjjaa

namespace Go.Proofs.Ythkeboifjlnjjaa
open Go.RowKit
set_option linter.unusedVariables false
def impl_sideOk.E (id : Str) (has : Bool) (f : Feat) (Q : Bool → Prop) : Prop :=
  (if !has then impl_noFeat.E f (fun r => Q r) else impl_FeatOk.E f (fun r2 => (if r2 then Q (f.Id == id) else Q false)))
set_option maxHeartbeats 8000000 in
set_option maxRecDepth 100000 in
theorem impl_sideOk.calls {O : Ob} (w0 : World) (hO : Ok w0 O) (id : Str) (hs1 : Lim id) (has : Bool) (f : Feat) (A3 : Option Addr) (n4 c5 : Nat) (A8 : Option Addr) (n9 c10 : Nat) (hs2 : Lim f.Id) (hp6 : Sl kPt w0 (Fr O) (.slice A3 n4 c5) f.Shape.Pts) (hp11 : Sl kTag w0 (Fr O) (.slice A8 n9 c10) f.Tags) (Q : Bool → Prop) (h : impl_sideOk.E id has f Q) :
    Ret Try.prog 42 [vs id, vb has, .agg #[vs f.Id, vi f.Shape.Kind, .slice A3 n4 c5, .slice A8 n9 c10]] w0 (fun v w' => ∃ (r0 : Bool), v = vb r0 ∧ Q r0 ∧ Gr w0 w' none) := by
  have H : (if !has then impl_noFeat.E f (fun r => Q r) else impl_FeatOk.E f (fun r2 => (if r2 then Q (f.Id == id) else Q false))) := h
  clear h
  have hc0 := Ct.init hO
  refine Ret_enter Try.func42 rfl 19 rfl [.tmp 6] rfl rfl ?_
  refine W_seq ?_
  refine W_reg ?_
  refine L_box [vs f.Id, vi f.Shape.Kind, .slice A3 n4 c5, .slice A8 n9 c10] rfl fun w13 b14 hl16 hu17 g15 hx18 => ?_
  have h20 := Fb.mk hc0.ok hl16 hx18
  have hc21 := hc0.k0 g15
  refine L_pu (P_assign (vb false) rfl) ?_
  refine L_nil ?_
  refine W_seq ?_
  refine W_seq ?_
  refine W_reg ?_
  refine L_pu (P_move (vb has) rfl) ?_
  refine L_pu (P_not has rfl) ?_
  refine L_nil ?_
  refine W_cond (!has) rfl (fun hq22 => ?_) (fun hq22 => ?_)
  · have H := ite_t H hq22
    refine W_seq ?_
    refine W_reg ?_
    refine L_pu (P_lda ag79 sz79 cL ⟨b14, 0, none⟩ [vs f.Id, vi f.Shape.Kind, .slice A3 n4 c5, .slice A8 n9 c10] rfl rfl (h20.cells (off := 0) rfl)) ?_
    refine L_call go78 [.agg #[vs f.Id, vi f.Shape.Kind, .slice A3 n4 c5, .slice A8 n9 c10]] rfl ((impl_noFeat.calls w13 hc21.ok f A3 n4 c5 A8 n9 c10 hs2 (hp6.st hc21.st) (hp11.st hc21.st) _ H).mono ?_)
    rintro _ w23 ⟨r, rfl, H, g24⟩
    have hc28 := hc21.k0 g24
    refine L_pu (P_assign (vb r) rfl) ?_
    refine L_nil ?_
    refine W_ret ?_
    exact ⟨[vb r], ⟨_, rfl, rfl⟩, r, rfl, H, hc28.gr⟩
  · have H := ite_f H hq22
    refine W_skip ?_
    refine W_seq ?_
    refine W_reg ?_
    refine L_pu (P_lda ag79 sz79 cL ⟨b14, 0, none⟩ [vs f.Id, vi f.Shape.Kind, .slice A3 n4 c5, .slice A8 n9 c10] rfl rfl (h20.cells (off := 0) rfl)) ?_
    refine L_call go79 [.agg #[vs f.Id, vi f.Shape.Kind, .slice A3 n4 c5, .slice A8 n9 c10]] rfl ((impl_FeatOk.calls w13 hc21.ok f A3 n4 c5 A8 n9 c10 hs2 (hp6.st hc21.st) (hp11.st hc21.st) _ H).mono ?_)
    rintro _ w29 ⟨r2, rfl, H, g30⟩
    have hc34 := hc21.k0 g30
    refine L_pu (P_move (vb r2) rfl) ?_
    rcases bool_or r2 with hq35 | hq35
    · have H := ite_t H hq35
      refine L_run (dj := 13) rfl rfl (by exact congrArg Value.bool hq35) ?_
      refine L_pu (P_fa fa79_0 ⟨b14, 0, none⟩ ⟨b14, 0, none⟩ rfl rfl) ?_
      refine L_run (dj := 13) rfl rfl (by exact congrArg Value.bool hq35) ?_
      have h36 := (h20.st (.new _ g30))
      refine L_pu (P_ld ag9 cL ⟨b14, 0, none⟩ (vs f.Id) rfl (h36.cell rfl)) ?_
      refine L_run (dj := 13) rfl rfl (by exact congrArg Value.bool hq35) ?_
      refine L_pu (P_move (vs id) rfl) ?_
      refine L_run (dj := 13) rfl rfl (by exact congrArg Value.bool hq35) ?_
      refine L_pu (P_scmp f.Id id (f.Id == id) rfl rfl rfl) ?_
      refine L_pu (P_pick true (vb (f.Id == id)) (by exact congrArg Value.bool hq35) rfl) ?_
      refine L_pu (P_assign (vb (f.Id == id)) rfl) ?_
      refine L_nil ?_
      refine W_ret ?_
      exact ⟨[vb (f.Id == id)], ⟨_, rfl, rfl⟩, f.Id == id, rfl, H, hc34.gr⟩
    · have H := ite_f H hq35
      refine L_pass (dj := 13) rfl rfl (.inl (by exact congrArg Value.bool hq35)) ?_
      refine L_pass (dj := 13) rfl rfl (.inl (by exact congrArg Value.bool hq35)) ?_
      refine L_pass (dj := 13) rfl rfl (.inl (by exact congrArg Value.bool hq35)) ?_
      refine L_pass (dj := 13) rfl rfl (.inl (by exact congrArg Value.bool hq35)) ?_
      refine L_pu (P_pick false (vb false) (by exact congrArg Value.bool hq35) rfl) ?_
      refine L_pu (P_assign (vb false) rfl) ?_
      refine L_nil ?_
      refine W_ret ?_
      exact ⟨[vb false], ⟨_, rfl, rfl⟩, false, rfl, H, hc34.gr⟩
end Go.Proofs.Ythkeboifjlnjjaa

namespace Go.Proofs.Ythkeboifjlnjjaa
set_option linter.unusedVariables false
set_option linter.unusedSimpArgs false
theorem impl_sideOk.law (id : Str) (has : Bool) (f : Feat) (Q : Bool → Prop) (hb : bulk f ≤ 1048576) (hq : Q (sideOk id has f)) : impl_sideOk.E id has f Q := by
  unfold impl_sideOk.E
  unfold sideOk at hq
  cases has with
  | false => rw [if_pos (by decide)]; rw [if_neg (by decide)] at hq; exact impl_noFeat.law _ _ hq
  | true =>
    rw [if_neg (by decide)]; rw [if_pos rfl] at hq
    refine impl_FeatOk.law _ _ hb ?_
    cases h : featOk f with
    | false => rw [h] at hq; rw [if_neg (by decide)]; exact hq
    | true =>
      rw [h, Bool.true_and] at hq; rw [if_pos rfl]
      have : (f.Id == id) = decide (f.Id = id) := by rw [Bool.eq_iff_iff, beq_iff_eq, decide_eq_true_eq]
      rw [this]; exact hq
end Go.Proofs.Ythkeboifjlnjjaa

namespace Go.Proofs.Ythkeboifjlnjjaa
open Go.RowKit
set_option linter.unusedVariables false
def slices_Equal_Pt.E (s1 : List Pt) (s2 : List Pt) (Q : Bool → Prop) : Prop :=
  (if (s1.length : Int) != (s2.length : Int) then Q false else (∃ (I32 : Int → Prop) (mu33 : Int → Nat), I32 0 ∧ ∀ (v2 : Int), I32 v2 → (if decide (v2 < (s1.length : Int)) then ((0 : Int) ≤ v2 ∧ v2 < (s1.length : Int)) ∧ ((0 : Int) ≤ v2 ∧ v2 < (s2.length : Int)) ∧ (if !(eqPt (nth s1 v2) (nth s2 v2)) then Q false else (I64 (v2 + 1)) ∧ I32 (v2 + 1) ∧ mu33 (v2 + 1) < mu33 v2) else Q true)))
set_option maxHeartbeats 8000000 in
set_option maxRecDepth 100000 in
theorem slices_Equal_Pt.calls {O : Ob} (w0 : World) (hO : Ok w0 O) (s1 : List Pt) (A1 : Option Addr) (n2 c3 : Nat) (hp4 : Sl kPt w0 (Fr O) (.slice A1 n2 c3) s1) (s2 : List Pt) (A6 : Option Addr) (n7 c8 : Nat) (hp9 : Sl kPt w0 (Fr O) (.slice A6 n7 c8) s2) (Q : Bool → Prop) (h : slices_Equal_Pt.E s1 s2 Q) :
    Ret Try.prog 35 [.slice A1 n2 c3, .slice A6 n7 c8] w0 (fun v w' => ∃ (r0 : Bool), v = vb r0 ∧ Q r0 ∧ Gr w0 w' none) := by
  have H : (if (s1.length : Int) != (s2.length : Int) then Q false else (∃ (I32 : Int → Prop) (mu33 : Int → Nat), I32 0 ∧ ∀ (v2 : Int), I32 v2 → (if decide (v2 < (s1.length : Int)) then ((0 : Int) ≤ v2 ∧ v2 < (s1.length : Int)) ∧ ((0 : Int) ≤ v2 ∧ v2 < (s2.length : Int)) ∧ (if !(eqPt (nth s1 v2) (nth s2 v2)) then Q false else (I64 (v2 + 1)) ∧ I32 (v2 + 1) ∧ mu33 (v2 + 1) < mu33 v2) else Q true))) := h
  clear h
  have hc0 := Ct.init hO
  refine Ret_enter Try.func35 rfl 26 rfl [.tmp 4] rfl rfl ?_
  refine W_seq ?_
  refine W_reg ?_
  refine L_pu (P_assign (vb false) rfl) ?_
  refine L_nil ?_
  refine W_seq ?_
  refine W_seq ?_
  refine W_reg ?_
  refine L_pu (P_move (.slice A1 n2 c3) rfl) ?_
  have hl11 := hp4.le
  refine L_pu (P_len Try.underlying23 A1 n2 c3 hp4.len rfl) ?_
  refine L_pu (P_move (.slice A6 n7 c8) rfl) ?_
  have hl12 := hp9.le
  refine L_pu (P_len Try.underlying23 A6 n7 c8 hp9.len rfl) ?_
  refine L_pu (P_cmp (s1.length : Int) (s2.length : Int) ((s1.length : Int) != (s2.length : Int)) rfl rfl rfl) ?_
  refine L_nil ?_
  refine W_cond ((s1.length : Int) != (s2.length : Int)) rfl (fun hq13 => ?_) (fun hq13 => ?_)
  · have H := ite_t H hq13
    refine W_seq ?_
    refine W_reg ?_
    refine L_pu (P_assign (vb false) rfl) ?_
    refine L_nil ?_
    refine W_ret ?_
    exact ⟨[vb false], ⟨_, rfl, rfl⟩, false, rfl, H, hc0.gr⟩
  · have H := ite_f H hq13
    refine W_skip ?_
    refine W_seq ?_
    refine W_seq ?_
    refine W_reg ?_
    refine L_pu (P_move (.slice A1 n2 c3) rfl) ?_
    refine L_pu (P_len Try.underlying23 A1 n2 c3 hp4.len rfl) ?_
    refine L_pu (P_move (vi 0) rfl) ?_
    refine L_nil ?_
    refine W_block ?_
    obtain ⟨I32, mu33, hI34, H⟩ := H
    refine W_loop (α := Int) (fun (sv__ : Int) t w26 => match sv__ with | v2 => I32 v2 ∧ Has t [(0, .slice A1 n2 c3), (1, .slice A6 n7 c8), (12, vi (s1.length : Int)), (13, vi v2)] ∧ Ct none w0 w26 [] O ∧ Sl kPt w26 (Fr ([] ++ O)) (.slice A1 n2 c3) s1 ∧ Sl kPt w26 (Fr ([] ++ O)) (.slice A6 n7 c8) s2) (fun (sv__ : Int) => match sv__ with | v2 => mu33 v2) 0 ⟨hI34, ⟨rfl, rfl, rfl, rfl, trivial⟩, hc0, hp4, hp9⟩ ?_
    rintro v2 _ w26 ⟨hI34, hh36, hc29, h30, h31⟩
    obtain ⟨u37, rfl⟩ := Has.ins hh36
    have H := H v2 hI34
    refine W_seq ?_
    refine W_reg ?_
    refine L_pu (P_cmp v2 (s1.length : Int) (decide (v2 < (s1.length : Int))) rfl rfl rfl) ?_
    refine L_nil ?_
    refine W_seq ?_
    refine W_cond (decide (v2 < (s1.length : Int))) rfl (fun hq38 => ?_) (fun hq38 => ?_)
    · have H := ite_t H hq38
      refine W_skip ?_
      refine W_seq ?_
      refine W_block ?_
      refine W_seq ?_
      refine W_reg ?_
      refine L_pu (P_move (vi v2) rfl) ?_
      refine L_pu (P_assign (vi v2) rfl) ?_
      refine L_nil ?_
      refine W_seq ?_
      refine W_draw (fun x => Gr w26 x none) (by kernel_rfl) (by kernel_rfl) (Gr.drew _) ?_
      refine Q_pu (P_move (.slice A1 n2 c3) rfl) ?_
      refine Q_pu (P_move (vi v2) rfl) ?_
      obtain ⟨hb39, H⟩ := H
      obtain ⟨ad40, cs41, hA42, hS45, hR43, hcl44⟩ := h30.get default (by decide) v2 hb39
      obtain rfl := kPt.op hR43
      refine Q_pu (P_ia Try.underlying23 se23 A1 ad40 n2 c3 h30.len v2 rfl hA42 rfl hb39) ?_
      refine Q_pu (P_lda ag64 sz64 cQ (ad40.add (v2.toNat * 2)) [vi ((nth s1 v2).X), vi ((nth s1 v2).Y)] rfl rfl hcl44) ?_
      refine Q_pu (P_move (.slice A6 n7 c8) rfl) ?_
      refine Q_pu (P_move (vi v2) rfl) ?_
      obtain ⟨hb46, H⟩ := H
      obtain ⟨ad47, cs48, hA49, hS52, hR50, hcl51⟩ := h31.get default (by decide) v2 hb46
      obtain rfl := kPt.op hR50
      refine Q_pu (P_ia Try.underlying23 se23 A6 ad47 n7 c8 h31.len v2 rfl hA49 rfl hb46) ?_
      refine Q_pu (P_lda ag64 sz64 cQ (ad47.add (v2.toNat * 2)) [vi ((nth s2 v2).X), vi ((nth s2 v2).Y)] rfl rfl hcl51) ?_
      refine Q_pu (P_ne _ _ (eqPt (nth s1 v2) (nth s2 v2)) (qt64 (nth s1 v2) (nth s2 v2)) rfl rfl) ?_
      refine Q_nil fun w53 g54 => ?_
      have hc56 := hc29.k0 g54
      refine W_cond (!(eqPt (nth s1 v2) (nth s2 v2))) rfl (fun hq57 => ?_) (fun hq57 => ?_)
      · have H := ite_t H hq57
        refine W_seq ?_
        refine W_reg ?_
        refine L_pu (P_assign (vb false) rfl) ?_
        refine L_nil ?_
        refine W_ret ?_
        exact ⟨[vb false], ⟨_, rfl, rfl⟩, false, rfl, H, hc56.gr⟩
      · have H := ite_f H hq57
        refine W_skip ?_
        refine W_reg ?_
        obtain ⟨hb58, H⟩ := H
        refine L_pu (P_add v2 1 rfl rfl hb58) ?_
        refine L_pu (P_move (vi (v2 + 1)) rfl) ?_
        refine L_nil ?_
        obtain ⟨hI59, hm60⟩ := H
        exact ⟨v2 + 1, hm60, hI59, ⟨rfl, rfl, rfl, rfl, trivial⟩, hc56, (h30.st (.new _ g54)), (h31.st (.new _ g54))⟩
    · have H := ite_f H hq38
      refine W_exit (xin_hit ?_)
      refine W_seq ?_
      refine W_reg ?_
      refine L_pu (P_assign (vb true) rfl) ?_
      refine L_nil ?_
      refine W_ret ?_
      exact ⟨[vb true], ⟨_, rfl, rfl⟩, true, rfl, H, hc29.gr⟩
end Go.Proofs.Ythkeboifjlnjjaa

namespace Go.Proofs.Ythkeboifjlnjjaa
set_option linter.unusedVariables false
set_option linter.unusedSimpArgs false
theorem slices_Equal_Pt.law (a b : List Pt) (Q : Bool → Prop) (hb : a.length ≤ 1048576) (hq : Q (decide (a = b))) : slices_Equal_Pt.E a b Q := by
  unfold slices_Equal_Pt.E
  exact eqI_shape eqPt eqPt_is a b Q hb hq
end Go.Proofs.Ythkeboifjlnjjaa

namespace Go.Proofs.Ythkeboifjlnjjaa
open Go.RowKit
set_option linter.unusedVariables false
def impl_ShapeSame.E (a : Shape) (b : Shape) (Q : Bool → Prop) : Prop :=
  (if a.Kind == b.Kind then slices_Equal_Pt.E a.Pts b.Pts (fun r => Q r) else Q false)
set_option maxHeartbeats 8000000 in
set_option maxRecDepth 100000 in
theorem impl_ShapeSame.calls {O : Ob} (w0 : World) (hO : Ok w0 O) (a : Shape) (A1 : Option Addr) (n2 c3 : Nat) (hp4 : Sl kPt w0 (Fr O) (.slice A1 n2 c3) a.Pts) (b : Shape) (A6 : Option Addr) (n7 c8 : Nat) (hp9 : Sl kPt w0 (Fr O) (.slice A6 n7 c8) b.Pts) (Q : Bool → Prop) (h : impl_ShapeSame.E a b Q) :
    Ret Try.prog 108 [.agg #[vi a.Kind, .slice A1 n2 c3], .agg #[vi b.Kind, .slice A6 n7 c8]] w0 (fun v w' => ∃ (r0 : Bool), v = vb r0 ∧ Q r0 ∧ Gr w0 w' none) := by
  have H : (if a.Kind == b.Kind then slices_Equal_Pt.E a.Pts b.Pts (fun r => Q r) else Q false) := h
  clear h
  have hc0 := Ct.init hO
  refine Ret_enter Try.func108 rfl 17 rfl [.tmp 4] rfl rfl ?_
  refine W_seq ?_
  refine W_reg ?_
  refine L_box [vi a.Kind, .slice A1 n2 c3] rfl fun w11 b12 hl14 hu15 g13 hx16 => ?_
  have h18 := Fb.mk hc0.ok hl14 hx16
  have hc19 := hc0.k0 g13
  refine L_box [vi b.Kind, .slice A6 n7 c8] rfl fun w20 b21 hl23 hu24 g22 hx25 => ?_
  have h27 := Fb.mk hc19.ok hl23 hx25
  have hc28 := hc19.k0 g22
  refine L_pu (P_assign (vb false) rfl) ?_
  refine L_nil ?_
  refine W_seq ?_
  refine W_reg ?_
  refine L_pu (P_fa fa76_0 ⟨b12, 0, none⟩ ⟨b12, 0, none⟩ rfl rfl) ?_
  have h29 := (h18.st (.new _ g22))
  refine L_pu (P_ld ag3 cL ⟨b12, 0, none⟩ (vi a.Kind) rfl (h29.cell rfl)) ?_
  refine L_pu (P_fa fa76_0 ⟨b21, 0, none⟩ ⟨b21, 0, none⟩ rfl rfl) ?_
  refine L_pu (P_ld ag3 cL ⟨b21, 0, none⟩ (vi b.Kind) rfl (h27.cell rfl)) ?_
  refine L_pu (P_cmp a.Kind b.Kind (a.Kind == b.Kind) rfl rfl rfl) ?_
  refine L_pu (P_move (vb (a.Kind == b.Kind)) rfl) ?_
  rcases bool_or (a.Kind == b.Kind) with hq30 | hq30
  · have H := ite_t H hq30
    refine L_run (dj := 10) rfl rfl (by exact congrArg Value.bool hq30) ?_
    refine L_pu (P_fa fa76_1 ⟨b12, 0, none⟩ ⟨b12, 1, none⟩ rfl rfl) ?_
    refine L_run (dj := 10) rfl rfl (by exact congrArg Value.bool hq30) ?_
    refine L_pu (P_ld ag23 cL ⟨b12, 1, none⟩ (.slice A1 n2 c3) rfl (h29.cell rfl)) ?_
    refine L_run (dj := 10) rfl rfl (by exact congrArg Value.bool hq30) ?_
    refine L_pu (P_fa fa76_1 ⟨b21, 0, none⟩ ⟨b21, 1, none⟩ rfl rfl) ?_
    refine L_run (dj := 10) rfl rfl (by exact congrArg Value.bool hq30) ?_
    refine L_pu (P_ld ag23 cL ⟨b21, 1, none⟩ (.slice A6 n7 c8) rfl (h27.cell rfl)) ?_
    refine L_run (dj := 10) rfl rfl (by exact congrArg Value.bool hq30) ?_
    refine L_call go35 [.slice A1 n2 c3, .slice A6 n7 c8] rfl ((slices_Equal_Pt.calls w20 hc28.ok a.Pts A1 n2 c3 (hp4.st hc28.st) b.Pts A6 n7 c8 (hp9.st hc28.st) _ H).mono ?_)
    rintro _ w31 ⟨r, rfl, H, g32⟩
    have hc36 := hc28.k0 g32
    refine L_pu (P_pick true (vb r) (by exact congrArg Value.bool hq30) rfl) ?_
    refine L_pu (P_assign (vb r) rfl) ?_
    refine L_nil ?_
    refine W_ret ?_
    exact ⟨[vb r], ⟨_, rfl, rfl⟩, r, rfl, H, hc36.gr⟩
  · have H := ite_f H hq30
    refine L_pass (dj := 10) rfl rfl (.inl (by exact congrArg Value.bool hq30)) ?_
    refine L_pass (dj := 10) rfl rfl (.inl (by exact congrArg Value.bool hq30)) ?_
    refine L_pass (dj := 10) rfl rfl (.inl (by exact congrArg Value.bool hq30)) ?_
    refine L_pass (dj := 10) rfl rfl (.inl (by exact congrArg Value.bool hq30)) ?_
    refine L_pass (dj := 10) rfl rfl (.inl (by exact congrArg Value.bool hq30)) ?_
    refine L_pu (P_pick false (vb false) (by exact congrArg Value.bool hq30) rfl) ?_
    refine L_pu (P_assign (vb false) rfl) ?_
    refine L_nil ?_
    refine W_ret ?_
    exact ⟨[vb false], ⟨_, rfl, rfl⟩, false, rfl, H, hc28.gr⟩
end Go.Proofs.Ythkeboifjlnjjaa

namespace Go.Proofs.Ythkeboifjlnjjaa
set_option linter.unusedVariables false
set_option linter.unusedSimpArgs false
theorem impl_ShapeSame.law (a b : Shape) (Q : Bool → Prop) (hl : a.Pts.length ≤ 1048576) (hq : Q (decide (a = b))) : impl_ShapeSame.E a b Q := by
  unfold impl_ShapeSame.E
  by_cases h : a.Kind = b.Kind
  · rw [if_pos (by rw [beq_iff_eq]; exact h)]
    refine slices_Equal_Pt.law _ _ _ (by omega) ?_
    have : decide (a.Pts = b.Pts) = decide (a = b) := decide_eq_decide.2 (by rw [Shape.ext_iff']; exact ⟨fun e => ⟨h, e⟩, fun e => e.2⟩)
    rw [this]; exact hq
  · rw [if_neg (by rw [beq_iff_eq]; exact h)]
    rw [decide_eq_false (by rw [Shape.ext_iff']; exact fun e => h e.1)] at hq; exact hq
end Go.Proofs.Ythkeboifjlnjjaa

namespace Go.Proofs.Ythkeboifjlnjjaa
open Go.RowKit
set_option linter.unusedVariables false
def slices_Equal_Tag.E (s1 : List Tag) (s2 : List Tag) (Q : Bool → Prop) : Prop :=
  (if (s1.length : Int) != (s2.length : Int) then Q false else (∃ (I32 : Int → Prop) (mu33 : Int → Nat), I32 0 ∧ ∀ (v2 : Int), I32 v2 → (if decide (v2 < (s1.length : Int)) then ((0 : Int) ≤ v2 ∧ v2 < (s1.length : Int)) ∧ ((0 : Int) ≤ v2 ∧ v2 < (s2.length : Int)) ∧ (if !(eqTag (nth s1 v2) (nth s2 v2)) then Q false else (I64 (v2 + 1)) ∧ I32 (v2 + 1) ∧ mu33 (v2 + 1) < mu33 v2) else Q true)))
set_option maxHeartbeats 8000000 in
set_option maxRecDepth 100000 in
theorem slices_Equal_Tag.calls {O : Ob} (w0 : World) (hO : Ok w0 O) (s1 : List Tag) (A1 : Option Addr) (n2 c3 : Nat) (hp4 : Sl kTag w0 (Fr O) (.slice A1 n2 c3) s1) (s2 : List Tag) (A6 : Option Addr) (n7 c8 : Nat) (hp9 : Sl kTag w0 (Fr O) (.slice A6 n7 c8) s2) (Q : Bool → Prop) (h : slices_Equal_Tag.E s1 s2 Q) :
    Ret Try.prog 109 [.slice A1 n2 c3, .slice A6 n7 c8] w0 (fun v w' => ∃ (r0 : Bool), v = vb r0 ∧ Q r0 ∧ Gr w0 w' none) := by
  have H : (if (s1.length : Int) != (s2.length : Int) then Q false else (∃ (I32 : Int → Prop) (mu33 : Int → Nat), I32 0 ∧ ∀ (v2 : Int), I32 v2 → (if decide (v2 < (s1.length : Int)) then ((0 : Int) ≤ v2 ∧ v2 < (s1.length : Int)) ∧ ((0 : Int) ≤ v2 ∧ v2 < (s2.length : Int)) ∧ (if !(eqTag (nth s1 v2) (nth s2 v2)) then Q false else (I64 (v2 + 1)) ∧ I32 (v2 + 1) ∧ mu33 (v2 + 1) < mu33 v2) else Q true))) := h
  clear h
  have hc0 := Ct.init hO
  refine Ret_enter Try.func109 rfl 26 rfl [.tmp 4] rfl rfl ?_
  refine W_seq ?_
  refine W_reg ?_
  refine L_pu (P_assign (vb false) rfl) ?_
  refine L_nil ?_
  refine W_seq ?_
  refine W_seq ?_
  refine W_reg ?_
  refine L_pu (P_move (.slice A1 n2 c3) rfl) ?_
  have hl11 := hp4.le
  refine L_pu (P_len Try.underlying77 A1 n2 c3 hp4.len rfl) ?_
  refine L_pu (P_move (.slice A6 n7 c8) rfl) ?_
  have hl12 := hp9.le
  refine L_pu (P_len Try.underlying77 A6 n7 c8 hp9.len rfl) ?_
  refine L_pu (P_cmp (s1.length : Int) (s2.length : Int) ((s1.length : Int) != (s2.length : Int)) rfl rfl rfl) ?_
  refine L_nil ?_
  refine W_cond ((s1.length : Int) != (s2.length : Int)) rfl (fun hq13 => ?_) (fun hq13 => ?_)
  · have H := ite_t H hq13
    refine W_seq ?_
    refine W_reg ?_
    refine L_pu (P_assign (vb false) rfl) ?_
    refine L_nil ?_
    refine W_ret ?_
    exact ⟨[vb false], ⟨_, rfl, rfl⟩, false, rfl, H, hc0.gr⟩
  · have H := ite_f H hq13
    refine W_skip ?_
    refine W_seq ?_
    refine W_seq ?_
    refine W_reg ?_
    refine L_pu (P_move (.slice A1 n2 c3) rfl) ?_
    refine L_pu (P_len Try.underlying77 A1 n2 c3 hp4.len rfl) ?_
    refine L_pu (P_move (vi 0) rfl) ?_
    refine L_nil ?_
    refine W_block ?_
    obtain ⟨I32, mu33, hI34, H⟩ := H
    refine W_loop (α := Int) (fun (sv__ : Int) t w26 => match sv__ with | v2 => I32 v2 ∧ Has t [(0, .slice A1 n2 c3), (1, .slice A6 n7 c8), (12, vi (s1.length : Int)), (13, vi v2)] ∧ Ct none w0 w26 [] O ∧ Sl kTag w26 (Fr ([] ++ O)) (.slice A1 n2 c3) s1 ∧ Sl kTag w26 (Fr ([] ++ O)) (.slice A6 n7 c8) s2) (fun (sv__ : Int) => match sv__ with | v2 => mu33 v2) 0 ⟨hI34, ⟨rfl, rfl, rfl, rfl, trivial⟩, hc0, hp4, hp9⟩ ?_
    rintro v2 _ w26 ⟨hI34, hh36, hc29, h30, h31⟩
    obtain ⟨u37, rfl⟩ := Has.ins hh36
    have H := H v2 hI34
    refine W_seq ?_
    refine W_reg ?_
    refine L_pu (P_cmp v2 (s1.length : Int) (decide (v2 < (s1.length : Int))) rfl rfl rfl) ?_
    refine L_nil ?_
    refine W_seq ?_
    refine W_cond (decide (v2 < (s1.length : Int))) rfl (fun hq38 => ?_) (fun hq38 => ?_)
    · have H := ite_t H hq38
      refine W_skip ?_
      refine W_seq ?_
      refine W_block ?_
      refine W_seq ?_
      refine W_reg ?_
      refine L_pu (P_move (vi v2) rfl) ?_
      refine L_pu (P_assign (vi v2) rfl) ?_
      refine L_nil ?_
      refine W_seq ?_
      refine W_draw (fun x => Gr w26 x none) (by kernel_rfl) (by kernel_rfl) (Gr.drew _) ?_
      refine Q_pu (P_move (.slice A1 n2 c3) rfl) ?_
      refine Q_pu (P_move (vi v2) rfl) ?_
      obtain ⟨hb39, H⟩ := H
      obtain ⟨ad40, cs41, hA42, hS45, hR43, hcl44⟩ := h30.get default (by decide) v2 hb39
      obtain ⟨rfl, hs46, hs47⟩ := kTag.op hR43
      refine Q_pu (P_ia Try.underlying77 se77 A1 ad40 n2 c3 h30.len v2 rfl hA42 rfl hb39) ?_
      refine Q_pu (P_lda ag149 sz149 cQ (ad40.add (v2.toNat * 2)) [vs ((nth s1 v2).Key), vs ((nth s1 v2).Val)] rfl rfl hcl44) ?_
      refine Q_pu (P_move (.slice A6 n7 c8) rfl) ?_
      refine Q_pu (P_move (vi v2) rfl) ?_
      obtain ⟨hb48, H⟩ := H
      obtain ⟨ad49, cs50, hA51, hS54, hR52, hcl53⟩ := h31.get default (by decide) v2 hb48
      obtain ⟨rfl, hs55, hs56⟩ := kTag.op hR52
      refine Q_pu (P_ia Try.underlying77 se77 A6 ad49 n7 c8 h31.len v2 rfl hA51 rfl hb48) ?_
      refine Q_pu (P_lda ag149 sz149 cQ (ad49.add (v2.toNat * 2)) [vs ((nth s2 v2).Key), vs ((nth s2 v2).Val)] rfl rfl hcl53) ?_
      refine Q_pu (P_ne _ _ (eqTag (nth s1 v2) (nth s2 v2)) (qt149 (nth s1 v2) (nth s2 v2)) rfl rfl) ?_
      refine Q_nil fun w57 g58 => ?_
      have hc60 := hc29.k0 g58
      refine W_cond (!(eqTag (nth s1 v2) (nth s2 v2))) rfl (fun hq61 => ?_) (fun hq61 => ?_)
      · have H := ite_t H hq61
        refine W_seq ?_
        refine W_reg ?_
        refine L_pu (P_assign (vb false) rfl) ?_
        refine L_nil ?_
        refine W_ret ?_
        exact ⟨[vb false], ⟨_, rfl, rfl⟩, false, rfl, H, hc60.gr⟩
      · have H := ite_f H hq61
        refine W_skip ?_
        refine W_reg ?_
        obtain ⟨hb62, H⟩ := H
        refine L_pu (P_add v2 1 rfl rfl hb62) ?_
        refine L_pu (P_move (vi (v2 + 1)) rfl) ?_
        refine L_nil ?_
        obtain ⟨hI63, hm64⟩ := H
        exact ⟨v2 + 1, hm64, hI63, ⟨rfl, rfl, rfl, rfl, trivial⟩, hc60, (h30.st (.new _ g58)), (h31.st (.new _ g58))⟩
    · have H := ite_f H hq38
      refine W_exit (xin_hit ?_)
      refine W_seq ?_
      refine W_reg ?_
      refine L_pu (P_assign (vb true) rfl) ?_
      refine L_nil ?_
      refine W_ret ?_
      exact ⟨[vb true], ⟨_, rfl, rfl⟩, true, rfl, H, hc29.gr⟩
end Go.Proofs.Ythkeboifjlnjjaa

namespace Go.Proofs.Ythkeboifjlnjjaa
set_option linter.unusedVariables false
set_option linter.unusedSimpArgs false
theorem slices_Equal_Tag.law (a b : List Tag) (Q : Bool → Prop) (hb : a.length ≤ 1048576) (hq : Q (decide (a = b))) : slices_Equal_Tag.E a b Q := by
  unfold slices_Equal_Tag.E
  exact eqI_shape eqTag eqTag_is a b Q hb hq
end Go.Proofs.Ythkeboifjlnjjaa
