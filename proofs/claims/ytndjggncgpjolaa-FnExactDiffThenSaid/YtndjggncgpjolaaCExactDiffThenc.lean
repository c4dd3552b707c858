/- It is proved here that the law FnExactDiffThen of the given program holds whatever it is handed: the walks through the code, the plain laws and the row, in this order.
   Conditions: none. -/
import Derived.Below
import Derived.ChangeArms
import Derived.ChangeOld
import Derived.ChangeSlices
import Derived.DataReads
import Derived.Deep.Quiet
import Derived.KernelRfl
import Derived.Laws.Build
import Derived.Laws.IdiomStrings
import Derived.Laws.OwnMore
import Derived.Laws.Slices
import Derived.Laws.StructEq
import Derived.OpenShut
import Derived.ProofKit
import Derived.Shelf.Slices.Cells
import Derived.Shelf.Slices.CompactS
import Derived.Shelf.Slices.In.SortNone
import Derived.Shelf.Small.Bits
import Derived.Shelf.Sort.Plain
import Derived.Shelf.Strconv.Itoa0
import Derived.ShutString
import Derived.SizedLaws
import Derived.StillTail
import Derived.Test.YtndjggncgpjolaaProg
import Derived.Test.YtndjggncgpjolaaRows
import Derived.WalkKit
import Derived.Test.YtndjggncgpjolaaCExactDiffThena
import Derived.Test.YtndjggncgpjolaaCExactDiffThenb
namespace Go.Proofs.Ytndjggncgpjolaa
open Go.RowKit
set_option linter.unusedVariables false
set_option linter.unusedSimpArgs false
def spec_l4One.E (c_ : Change) (Q : Bool → Prop) : Prop :=
 spec_WordOk.E c_.Id (fun r => (if !r then Q false else (if !c_.Had then (if !c_.Has then Q false else (if c_.Had then (if c_.Has then spec_FeatSame.E c_.Was c_.Now (fun r2 => (if r2 then Q false else spec_FeatSame.E c_.Was (⟨([] : Str), (⟨0, []⟩ : Shape), []⟩ : Feat) (fun r3 => (if !r3 then Q false else spec_FeatOk.E c_.Now (fun r4 => (if r4 then Q (c_.Now.Id == c_.Id) else Q false)))))) else spec_FeatSame.E c_.Was (⟨([] : Str), (⟨0, []⟩ : Shape), []⟩ : Feat) (fun r5 => (if !r5 then Q false else spec_FeatOk.E c_.Now (fun r6 => (if r6 then Q (c_.Now.Id == c_.Id) else Q false))))) else spec_FeatSame.E c_.Was (⟨([] : Str), (⟨0, []⟩ : Shape), []⟩ : Feat) (fun r7 => (if !r7 then Q false else spec_FeatOk.E c_.Now (fun r8 => (if r8 then Q (c_.Now.Id == c_.Id) else Q false)))))) else (if c_.Had then (if c_.Has then spec_FeatSame.E c_.Was c_.Now (fun r9 => (if r9 then Q false else (if !c_.Has then spec_FeatSame.E c_.Now (⟨([] : Str), (⟨0, []⟩ : Shape), []⟩ : Feat) (fun r10 => (if !r10 then Q false else spec_FeatOk.E c_.Was (fun r11 => (if r11 then (if c_.Was.Id == c_.Id then Q true else Q false) else Q false)))) else spec_FeatOk.E c_.Was (fun r12 => (if r12 then (if c_.Was.Id == c_.Id then spec_FeatOk.E c_.Now (fun r13 => (if r13 then Q (c_.Now.Id == c_.Id) else Q false)) else Q false) else Q false))))) else (if !c_.Has then spec_FeatSame.E c_.Now (⟨([] : Str), (⟨0, []⟩ : Shape), []⟩ : Feat) (fun r14 => (if !r14 then Q false else spec_FeatOk.E c_.Was (fun r15 => (if r15 then (if c_.Was.Id == c_.Id then Q true else Q false) else Q false)))) else spec_FeatOk.E c_.Was (fun r16 => (if r16 then (if c_.Was.Id == c_.Id then spec_FeatOk.E c_.Now (fun r17 => (if r17 then Q (c_.Now.Id == c_.Id) else Q false)) else Q false) else Q false)))) else (if !c_.Has then spec_FeatSame.E c_.Now (⟨([] : Str), (⟨0, []⟩ : Shape), []⟩ : Feat) (fun r18 => (if !r18 then Q false else spec_FeatOk.E c_.Was (fun r19 => (if r19 then (if c_.Was.Id == c_.Id then Q true else Q false) else Q false)))) else spec_FeatOk.E c_.Was (fun r20 => (if r20 then (if c_.Was.Id == c_.Id then spec_FeatOk.E c_.Now (fun r21 => (if r21 then Q (c_.Now.Id == c_.Id) else Q false)) else Q false) else Q false)))))))
set_option maxHeartbeats 8000000 in
set_option maxRecDepth 100000 in
theorem spec_l4One.calls {O : Ob} (w0 : World) (hO : Ok w0 O) (c_ : Change) (A3 : Option Addr) (n4 c5 : Nat) (A8 : Option Addr) (n9 c10 : Nat) (A14 : Option Addr) (n15 c16 : Nat) (A19 : Option Addr) (n20 c21 : Nat) (hs1 : Lim c_.Id) (hs2 : Lim c_.Was.Id) (hp6 : Sl kPt w0 (Fr O) (.slice A3 n4 c5) c_.Was.Shape.Pts) (hp11 : Sl kTag w0 (Fr O) (.slice A8 n9 c10) c_.Was.Tags) (hs13 : Lim c_.Now.Id) (hp17 : Sl kPt w0 (Fr O) (.slice A14 n15 c16) c_.Now.Shape.Pts) (hp22 : Sl kTag w0 (Fr O) (.slice A19 n20 c21) c_.Now.Tags) (Q : Bool → Prop) (h : spec_l4One.E c_ Q) :
  Ret Try.prog 118 [.agg #[vs c_.Id, vb c_.Had, vs c_.Was.Id, vi c_.Was.Shape.Kind, .slice A3 n4 c5, .slice A8 n9 c10, vb c_.Has, vs c_.Now.Id, vi c_.Now.Shape.Kind, .slice A14 n15 c16, .slice A19 n20 c21]] w0 (fun v w' => ∃ (r0 : Bool), v = vb r0 ∧ Q r0 ∧ Gr w0 w' none) := by
 have H : spec_WordOk.E c_.Id (fun r => (if !r then Q false else (if !c_.Had then (if !c_.Has then Q false else (if c_.Had then (if c_.Has then spec_FeatSame.E c_.Was c_.Now (fun r2 => (if r2 then Q false else spec_FeatSame.E c_.Was (⟨([] : Str), (⟨0, []⟩ : Shape), []⟩ : Feat) (fun r3 => (if !r3 then Q false else spec_FeatOk.E c_.Now (fun r4 => (if r4 then Q (c_.Now.Id == c_.Id) else Q false)))))) else spec_FeatSame.E c_.Was (⟨([] : Str), (⟨0, []⟩ : Shape), []⟩ : Feat) (fun r5 => (if !r5 then Q false else spec_FeatOk.E c_.Now (fun r6 => (if r6 then Q (c_.Now.Id == c_.Id) else Q false))))) else spec_FeatSame.E c_.Was (⟨([] : Str), (⟨0, []⟩ : Shape), []⟩ : Feat) (fun r7 => (if !r7 then Q false else spec_FeatOk.E c_.Now (fun r8 => (if r8 then Q (c_.Now.Id == c_.Id) else Q false)))))) else (if c_.Had then (if c_.Has then spec_FeatSame.E c_.Was c_.Now (fun r9 => (if r9 then Q false else (if !c_.Has then spec_FeatSame.E c_.Now (⟨([] : Str), (⟨0, []⟩ : Shape), []⟩ : Feat) (fun r10 => (if !r10 then Q false else spec_FeatOk.E c_.Was (fun r11 => (if r11 then (if c_.Was.Id == c_.Id then Q true else Q false) else Q false)))) else spec_FeatOk.E c_.Was (fun r12 => (if r12 then (if c_.Was.Id == c_.Id then spec_FeatOk.E c_.Now (fun r13 => (if r13 then Q (c_.Now.Id == c_.Id) else Q false)) else Q false) else Q false))))) else (if !c_.Has then spec_FeatSame.E c_.Now (⟨([] : Str), (⟨0, []⟩ : Shape), []⟩ : Feat) (fun r14 => (if !r14 then Q false else spec_FeatOk.E c_.Was (fun r15 => (if r15 then (if c_.Was.Id == c_.Id then Q true else Q false) else Q false)))) else spec_FeatOk.E c_.Was (fun r16 => (if r16 then (if c_.Was.Id == c_.Id then spec_FeatOk.E c_.Now (fun r17 => (if r17 then Q (c_.Now.Id == c_.Id) else Q false)) else Q false) else Q false)))) else (if !c_.Has then spec_FeatSame.E c_.Now (⟨([] : Str), (⟨0, []⟩ : Shape), []⟩ : Feat) (fun r18 => (if !r18 then Q false else spec_FeatOk.E c_.Was (fun r19 => (if r19 then (if c_.Was.Id == c_.Id then Q true else Q false) else Q false)))) else spec_FeatOk.E c_.Was (fun r20 => (if r20 then (if c_.Was.Id == c_.Id then spec_FeatOk.E c_.Now (fun r21 => (if r21 then Q (c_.Now.Id == c_.Id) else Q false)) else Q false) else Q false))))))) := h
 clear h
 have hc0 := Ct.init hO
 refine Ret_enter Try.func118 rfl 88 rfl [.tmp 2] rfl rfl ?_
 refine W_seq ?_
 refine W_reg ?_
 refine L_box [vs c_.Id, vb c_.Had, vs c_.Was.Id, vi c_.Was.Shape.Kind, .slice A3 n4 c5, .slice A8 n9 c10, vb c_.Has, vs c_.Now.Id, vi c_.Now.Shape.Kind, .slice A14 n15 c16, .slice A19 n20 c21] rfl fun w24 b25 hl27 hu28 g26 hx29 => ?_
 have h31 := Fb.mk hc0.ok hl27 hx29
 have hc32 := hc0.k0 g26
 refine L_pu (P_assign (vb false) rfl) ?_
 refine L_nil ?_
 refine W_seq ?_
 refine W_seq ?_
 refine W_reg ?_
 refine L_pu (P_fa fa103_0 ⟨b25, 0, none⟩ ⟨b25, 0, none⟩ rfl rfl) ?_
 refine L_pu (P_ld ag9 cL ⟨b25, 0, none⟩ (vs c_.Id) rfl (h31.cell rfl)) ?_
 refine L_call go52 [vs c_.Id] rfl ((spec_WordOk.calls w24 hc32.ok c_.Id hs1 _ H).mono ?_)
 rintro _ w33 ⟨r, rfl, H, g34⟩
 have hc38 := hc32.k0 g34
 refine L_pu (P_not r rfl) ?_
 refine L_pu (P_move (vb (!r)) rfl) ?_
 rcases bool_or (!r) with hq39 | hq39
 ·have H := ite_t H hq39
  refine L_pass (dj := 7) rfl rfl (.inl (by exact congrArg Value.bool hq39)) ?_
  refine L_pass (dj := 7) rfl rfl (.inl (by exact congrArg Value.bool hq39)) ?_
  refine L_pass (dj := 7) rfl rfl (.inl (by exact congrArg Value.bool hq39)) ?_
  refine L_pass (dj := 7) rfl rfl (.inl (by exact congrArg Value.bool hq39)) ?_
  refine L_pass (dj := 11) rfl rfl (.inr rfl) ?_
  refine L_pass (dj := 11) rfl rfl (.inr rfl) ?_
  refine L_pass (dj := 11) rfl rfl (.inr rfl) ?_
  refine L_pass (dj := 7) rfl rfl (.inl (by exact congrArg Value.bool hq39)) ?_
  refine L_pu (P_pick true (vb true) (by exact congrArg Value.bool hq39) rfl) ?_
  refine L_pu (P_move (vb true) rfl) ?_
  refine L_pass (dj := 17) rfl rfl (.inl rfl) ?_
  refine L_pass (dj := 17) rfl rfl (.inl rfl) ?_
  refine L_pass (dj := 17) rfl rfl (.inl rfl) ?_
  refine L_pass (dj := 20) rfl rfl (.inr rfl) ?_
  refine L_pass (dj := 20) rfl rfl (.inr rfl) ?_
  refine L_pass (dj := 17) rfl rfl (.inl rfl) ?_
  refine L_pass (dj := 17) rfl rfl (.inl rfl) ?_
  refine L_pass (dj := 24) rfl rfl (.inr rfl) ?_
  refine L_pass (dj := 24) rfl rfl (.inr rfl) ?_
  refine L_pass (dj := 24) rfl rfl (.inr rfl) ?_
  refine L_pass (dj := 24) rfl rfl (.inr rfl) ?_
  refine L_pass (dj := 24) rfl rfl (.inr rfl) ?_
  refine L_pass (dj := 17) rfl rfl (.inl rfl) ?_
  refine L_pu (P_pick true (vb true) (by exact congrArg Value.bool rfl) rfl) ?_
  refine L_nil ?_
  refine W_ct (b := true) rfl rfl ?_
  refine W_seq ?_
  refine W_reg ?_
  refine L_pu (P_assign (vb false) rfl) ?_
  refine L_nil ?_
  refine W_ret ?_
  exact ⟨[vb false], ⟨_, rfl, rfl⟩, false, rfl, H, hc38.gr.g0⟩
 ·have H := ite_f H hq39
  refine L_run (dj := 7) rfl rfl (by exact congrArg Value.bool hq39) ?_
  refine L_pu (P_fa fa103_1 ⟨b25, 0, none⟩ ⟨b25, 1, none⟩ rfl rfl) ?_
  refine L_run (dj := 7) rfl rfl (by exact congrArg Value.bool hq39) ?_
  have h40 := (h31.st (.new _ g34))
  refine L_pu (P_ld ag4 cL ⟨b25, 1, none⟩ (vb c_.Had) rfl (h40.cell rfl)) ?_
  refine L_run (dj := 7) rfl rfl (by exact congrArg Value.bool hq39) ?_
  refine L_pu (P_not c_.Had rfl) ?_
  refine L_run (dj := 7) rfl rfl (by exact congrArg Value.bool hq39) ?_
  refine L_pu (P_move (vb (!c_.Had)) rfl) ?_
  rcases bool_or (!c_.Had) with hq41 | hq41
  ·have H := ite_t H hq41
   refine L_run (dj := 11) rfl rfl (by exact congrArg Value.bool hq41) ?_
   refine L_pu (P_fa fa103_3 ⟨b25, 0, none⟩ ⟨b25, 6, none⟩ rfl rfl) ?_
   refine L_run (dj := 11) rfl rfl (by exact congrArg Value.bool hq41) ?_
   refine L_pu (P_ld ag4 cL ⟨b25, 6, none⟩ (vb c_.Has) rfl (h40.cell rfl)) ?_
   refine L_run (dj := 11) rfl rfl (by exact congrArg Value.bool hq41) ?_
   refine L_pu (P_not c_.Has rfl) ?_
   refine L_run (dj := 7) rfl rfl (by exact congrArg Value.bool hq39) ?_
   refine L_pu (P_pick true (vb (!c_.Has)) (by exact congrArg Value.bool hq41) rfl) ?_
   refine L_pu (P_pick false (vb (!c_.Has)) (by exact congrArg Value.bool hq39) rfl) ?_
   refine L_pu (P_move (vb (!c_.Has)) rfl) ?_
   rcases bool_or (!c_.Has) with hq42 | hq42
   ·have H := ite_t H hq42
    refine L_pass (dj := 17) rfl rfl (.inl (by exact congrArg Value.bool hq42)) ?_
    refine L_pass (dj := 17) rfl rfl (.inl (by exact congrArg Value.bool hq42)) ?_
    refine L_pass (dj := 17) rfl rfl (.inl (by exact congrArg Value.bool hq42)) ?_
    refine L_pass (dj := 20) rfl rfl (.inr rfl) ?_
    refine L_pass (dj := 20) rfl rfl (.inr rfl) ?_
    refine L_pass (dj := 17) rfl rfl (.inl (by exact congrArg Value.bool hq42)) ?_
    refine L_pass (dj := 17) rfl rfl (.inl (by exact congrArg Value.bool hq42)) ?_
    refine L_pass (dj := 24) rfl rfl (.inr rfl) ?_
    refine L_pass (dj := 24) rfl rfl (.inr rfl) ?_
    refine L_pass (dj := 24) rfl rfl (.inr rfl) ?_
    refine L_pass (dj := 24) rfl rfl (.inr rfl) ?_
    refine L_pass (dj := 24) rfl rfl (.inr rfl) ?_
    refine L_pass (dj := 17) rfl rfl (.inl (by exact congrArg Value.bool hq42)) ?_
    refine L_pu (P_pick true (vb true) (by exact congrArg Value.bool hq42) rfl) ?_
    refine L_nil ?_
    refine W_ct (b := true) rfl rfl ?_
    refine W_seq ?_
    refine W_reg ?_
    refine L_pu (P_assign (vb false) rfl) ?_
    refine L_nil ?_
    refine W_ret ?_
    exact ⟨[vb false], ⟨_, rfl, rfl⟩, false, rfl, H, hc38.gr.g0⟩
   ·have H := ite_f H hq42
    refine L_run (dj := 17) rfl rfl (by exact congrArg Value.bool hq42) ?_
    refine L_pu (P_fa fa103_1 ⟨b25, 0, none⟩ ⟨b25, 1, none⟩ rfl rfl) ?_
    refine L_run (dj := 17) rfl rfl (by exact congrArg Value.bool hq42) ?_
    refine L_pu (P_ld ag4 cL ⟨b25, 1, none⟩ (vb c_.Had) rfl (h40.cell rfl)) ?_
    refine L_run (dj := 17) rfl rfl (by exact congrArg Value.bool hq42) ?_
    refine L_pu (P_move (vb c_.Had) rfl) ?_
    rcases bool_or c_.Had with hq43 | hq43
    ·have H := ite_t H hq43
     refine L_run (dj := 20) rfl rfl (by exact congrArg Value.bool hq43) ?_
     refine L_pu (P_fa fa103_3 ⟨b25, 0, none⟩ ⟨b25, 6, none⟩ rfl rfl) ?_
     refine L_run (dj := 20) rfl rfl (by exact congrArg Value.bool hq43) ?_
     refine L_pu (P_ld ag4 cL ⟨b25, 6, none⟩ (vb c_.Has) rfl (h40.cell rfl)) ?_
     refine L_run (dj := 17) rfl rfl (by exact congrArg Value.bool hq42) ?_
     refine L_pu (P_pick true (vb c_.Has) (by exact congrArg Value.bool hq43) rfl) ?_
     refine L_run (dj := 17) rfl rfl (by exact congrArg Value.bool hq42) ?_
     refine L_pu (P_move (vb c_.Has) rfl) ?_
     rcases bool_or c_.Has with hq44 | hq44
     ·have H := ite_t H hq44
      refine L_run (dj := 24) rfl rfl (by exact congrArg Value.bool hq44) ?_
      refine L_pu (P_fa fa103_2 ⟨b25, 0, none⟩ ⟨b25, 2, none⟩ rfl rfl) ?_
      refine L_run (dj := 24) rfl rfl (by exact congrArg Value.bool hq44) ?_
      refine L_pu (P_lda ag71 sz71 cL ⟨b25, 2, none⟩ [vs c_.Was.Id, vi c_.Was.Shape.Kind, .slice A3 n4 c5, .slice A8 n9 c10] rfl rfl (h40.cells (off := 2) rfl)) ?_
      refine L_run (dj := 24) rfl rfl (by exact congrArg Value.bool hq44) ?_
      refine L_pu (P_fa fa103_4 ⟨b25, 0, none⟩ ⟨b25, 7, none⟩ rfl rfl) ?_
      refine L_run (dj := 24) rfl rfl (by exact congrArg Value.bool hq44) ?_
      refine L_pu (P_lda ag71 sz71 cL ⟨b25, 7, none⟩ [vs c_.Now.Id, vi c_.Now.Shape.Kind, .slice A14 n15 c16, .slice A19 n20 c21] rfl rfl (h40.cells (off := 7) rfl)) ?_
      refine L_run (dj := 24) rfl rfl (by exact congrArg Value.bool hq44) ?_
      refine L_call go79 [.agg #[vs c_.Was.Id, vi c_.Was.Shape.Kind, .slice A3 n4 c5, .slice A8 n9 c10], .agg #[vs c_.Now.Id, vi c_.Now.Shape.Kind, .slice A14 n15 c16, .slice A19 n20 c21]] rfl ((spec_FeatSame.calls w33 hc38.ok c_.Was A3 n4 c5 A8 n9 c10 hs2 (hp6.st hc38.st) (hp11.st hc38.st) c_.Now A14 n15 c16 A19 n20 c21 hs13 (hp17.st hc38.st) (hp22.st hc38.st) _ H).mono ?_)
      rintro _ w45 ⟨r2, rfl, H, g46⟩
      have hc50 := hc38.k0 g46
      refine L_run (dj := 17) rfl rfl (by exact congrArg Value.bool hq42) ?_
      refine L_pu (P_pick true (vb r2) (by exact congrArg Value.bool hq44) rfl) ?_
      refine L_pu (P_pick false (vb r2) (by exact congrArg Value.bool hq42) rfl) ?_
      refine L_nil ?_
      refine W_cond r2 rfl (fun hq51 => ?_) (fun hq51 => ?_)
      ·have H := ite_t H hq51
       refine W_seq ?_
       refine W_reg ?_
       refine L_pu (P_assign (vb false) rfl) ?_
       refine L_nil ?_
       refine W_ret ?_
       exact ⟨[vb false], ⟨_, rfl, rfl⟩, false, rfl, H, hc50.gr.g0⟩
      ·have H := ite_f H hq51
       refine W_skip ?_
       refine W_seq ?_
       refine W_seq ?_
       refine W_reg ?_
       refine L_pu (P_fa fa103_1 ⟨b25, 0, none⟩ ⟨b25, 1, none⟩ rfl rfl) ?_
       have h52 := (h40.st (.new _ g46))
       refine L_pu (P_ld ag4 cL ⟨b25, 1, none⟩ (vb c_.Had) rfl (h52.cell rfl)) ?_
       refine L_pu (P_not c_.Had rfl) ?_
       refine L_pu (P_move (vb (!c_.Had)) rfl) ?_
       refine L_run (dj := 35) rfl rfl (by exact congrArg Value.bool hq41) ?_
       refine L_pu (P_fa fa103_2 ⟨b25, 0, none⟩ ⟨b25, 2, none⟩ rfl rfl) ?_
       refine L_run (dj := 35) rfl rfl (by exact congrArg Value.bool hq41) ?_
       refine L_pu (P_lda ag71 sz71 cL ⟨b25, 2, none⟩ [vs c_.Was.Id, vi c_.Was.Shape.Kind, .slice A3 n4 c5, .slice A8 n9 c10] rfl rfl (h52.cells (off := 2) rfl)) ?_
       refine L_run (dj := 35) rfl rfl (by exact congrArg Value.bool hq41) ?_
       refine L_pu (P_build (.agg #[vs ([] : Str), vi 0, .slice none 0 0, .slice none 0 0]) (fun _ => by kernel_rfl)) ?_
       refine L_run (dj := 35) rfl rfl (by exact congrArg Value.bool hq41) ?_
       refine L_call go79 [.agg #[vs c_.Was.Id, vi c_.Was.Shape.Kind, .slice A3 n4 c5, .slice A8 n9 c10], .agg #[vs ([] : Str), vi 0, .slice none 0 0, .slice none 0 0]] rfl ((spec_FeatSame.calls w45 hc50.ok c_.Was A3 n4 c5 A8 n9 c10 hs2 (hp6.st hc50.st) (hp11.st hc50.st) (⟨([] : Str), (⟨0, []⟩ : Shape), []⟩ : Feat) none 0 0 none 0 0 (by decide) (Sl.nil _ _ _ none 0 (by decide)) (Sl.nil _ _ _ none 0 (by decide)) _ H).mono ?_)
       rintro _ w53 ⟨r3, rfl, H, g54⟩
       have hc58 := hc50.k0 g54
       refine L_run (dj := 35) rfl rfl (by exact congrArg Value.bool hq41) ?_
       refine L_pu (P_not r3 rfl) ?_
       refine L_pu (P_pick true (vb (!r3)) (by exact congrArg Value.bool hq41) rfl) ?_
       refine L_pu (P_move (vb (!r3)) rfl) ?_
       rcases bool_or (!r3) with hq59 | hq59
       ·have H := ite_t H hq59
        refine L_pass (dj := 42) rfl rfl (.inl (by exact congrArg Value.bool hq59)) ?_
        refine L_pass (dj := 42) rfl rfl (.inl (by exact congrArg Value.bool hq59)) ?_
        refine L_pass (dj := 42) rfl rfl (.inl (by exact congrArg Value.bool hq59)) ?_
        refine L_pass (dj := 42) rfl rfl (.inl (by exact congrArg Value.bool hq59)) ?_
        refine L_pass (dj := 46) rfl rfl (.inr rfl) ?_
        refine L_pass (dj := 46) rfl rfl (.inr rfl) ?_
        refine L_pass (dj := 46) rfl rfl (.inr rfl) ?_
        refine L_pass (dj := 46) rfl rfl (.inr rfl) ?_
        refine L_pass (dj := 46) rfl rfl (.inr rfl) ?_
        refine L_pass (dj := 42) rfl rfl (.inl (by exact congrArg Value.bool hq59)) ?_
        refine L_pu (P_pick true (vb true) (by exact congrArg Value.bool hq59) rfl) ?_
        refine L_nil ?_
        refine W_ct (b := true) rfl rfl ?_
        refine W_seq ?_
        refine W_reg ?_
        refine L_pu (P_assign (vb false) rfl) ?_
        refine L_nil ?_
        refine W_ret ?_
        exact ⟨[vb false], ⟨_, rfl, rfl⟩, false, rfl, H, hc58.gr.g0⟩
       ·have H := ite_f H hq59
        refine L_run (dj := 42) rfl rfl (by exact congrArg Value.bool hq59) ?_
        refine L_pu (P_fa fa103_3 ⟨b25, 0, none⟩ ⟨b25, 6, none⟩ rfl rfl) ?_
        refine L_run (dj := 42) rfl rfl (by exact congrArg Value.bool hq59) ?_
        have h60 := (h52.st (.new _ g54))
        refine L_pu (P_ld ag4 cL ⟨b25, 6, none⟩ (vb c_.Has) rfl (h60.cell rfl)) ?_
        refine L_run (dj := 42) rfl rfl (by exact congrArg Value.bool hq59) ?_
        refine L_pu (P_not c_.Has rfl) ?_
        refine L_run (dj := 42) rfl rfl (by exact congrArg Value.bool hq59) ?_
        refine L_pu (P_move (vb (!c_.Has)) rfl) ?_
        refine L_pass (dj := 46) rfl rfl (.inl (by exact congrArg Value.bool hq42)) ?_
        refine L_pass (dj := 46) rfl rfl (.inl (by exact congrArg Value.bool hq42)) ?_
        refine L_pass (dj := 46) rfl rfl (.inl (by exact congrArg Value.bool hq42)) ?_
        refine L_pass (dj := 46) rfl rfl (.inl (by exact congrArg Value.bool hq42)) ?_
        refine L_pass (dj := 46) rfl rfl (.inl (by exact congrArg Value.bool hq42)) ?_
        refine L_run (dj := 42) rfl rfl (by exact congrArg Value.bool hq59) ?_
        refine L_pu (P_pick false (vb false) (by exact congrArg Value.bool hq42) rfl) ?_
        refine L_pu (P_pick false (vb false) (by exact congrArg Value.bool hq59) rfl) ?_
        refine L_nil ?_
        refine W_cf (b := false) rfl rfl ?_
        refine W_skip ?_
        refine W_seq ?_
        refine W_reg ?_
        refine L_pu (P_fa fa103_1 ⟨b25, 0, none⟩ ⟨b25, 1, none⟩ rfl rfl) ?_
        refine L_pu (P_ld ag4 cL ⟨b25, 1, none⟩ (vb c_.Had) rfl (h60.cell rfl)) ?_
        refine L_pu (P_not c_.Had rfl) ?_
        refine L_pu (P_move (vb (!c_.Had)) rfl) ?_
        refine L_pass (dj := 57) rfl rfl (.inl (by exact congrArg Value.bool hq41)) ?_
        refine L_pass (dj := 57) rfl rfl (.inl (by exact congrArg Value.bool hq41)) ?_
        refine L_pass (dj := 57) rfl rfl (.inl (by exact congrArg Value.bool hq41)) ?_
        refine L_pass (dj := 57) rfl rfl (.inl (by exact congrArg Value.bool hq41)) ?_
        refine L_pass (dj := 61) rfl rfl (.inr rfl) ?_
        refine L_pass (dj := 61) rfl rfl (.inr rfl) ?_
        refine L_pass (dj := 61) rfl rfl (.inr rfl) ?_
        refine L_pass (dj := 61) rfl rfl (.inr rfl) ?_
        refine L_pass (dj := 61) rfl rfl (.inr rfl) ?_
        refine L_pass (dj := 61) rfl rfl (.inr rfl) ?_
        refine L_pass (dj := 57) rfl rfl (.inl (by exact congrArg Value.bool hq41)) ?_
        refine L_pu (P_pick true (vb true) (by exact congrArg Value.bool hq41) rfl) ?_
        refine L_pu (P_move (vb true) rfl) ?_
        refine L_run (dj := 70) rfl rfl rfl ?_
        refine L_pu (P_fa fa103_3 ⟨b25, 0, none⟩ ⟨b25, 6, none⟩ rfl rfl) ?_
        refine L_run (dj := 70) rfl rfl rfl ?_
        refine L_pu (P_ld ag4 cL ⟨b25, 6, none⟩ (vb c_.Has) rfl (h60.cell rfl)) ?_
        refine L_run (dj := 70) rfl rfl rfl ?_
        refine L_pu (P_not c_.Has rfl) ?_
        refine L_run (dj := 70) rfl rfl rfl ?_
        refine L_pu (P_move (vb (!c_.Has)) rfl) ?_
        refine L_run (dj := 74) rfl rfl (by exact congrArg Value.bool hq42) ?_
        refine L_pu (P_fa fa103_4 ⟨b25, 0, none⟩ ⟨b25, 7, none⟩ rfl rfl) ?_
        refine L_run (dj := 74) rfl rfl (by exact congrArg Value.bool hq42) ?_
        refine L_pu (P_lda ag71 sz71 cL ⟨b25, 7, none⟩ [vs c_.Now.Id, vi c_.Now.Shape.Kind, .slice A14 n15 c16, .slice A19 n20 c21] rfl rfl (h60.cells (off := 7) rfl)) ?_
        refine L_run (dj := 74) rfl rfl (by exact congrArg Value.bool hq42) ?_
        refine L_call go89 [.agg #[vs c_.Now.Id, vi c_.Now.Shape.Kind, .slice A14 n15 c16, .slice A19 n20 c21]] rfl ((spec_FeatOk.calls w53 hc58.ok c_.Now A14 n15 c16 A19 n20 c21 hs13 (hp17.st hc58.st) (hp22.st hc58.st) _ H).mono ?_)
        rintro _ w61 ⟨r4, rfl, H, g62⟩
        have hc66 := hc58.k0 g62
        refine L_run (dj := 74) rfl rfl (by exact congrArg Value.bool hq42) ?_
        refine L_pu (P_move (vb r4) rfl) ?_
        rcases bool_or r4 with hq67 | hq67
        ·have H := ite_t H hq67
         refine L_run (dj := 78) rfl rfl (by exact congrArg Value.bool hq67) ?_
         refine L_pu (P_fa fa103_4 ⟨b25, 0, none⟩ ⟨b25, 7, none⟩ rfl rfl) ?_
         refine L_run (dj := 78) rfl rfl (by exact congrArg Value.bool hq67) ?_
         refine L_pu (P_fa fa71_0 ⟨b25, 7, none⟩ ⟨b25, 7, none⟩ rfl rfl) ?_
         refine L_run (dj := 78) rfl rfl (by exact congrArg Value.bool hq67) ?_
         have h68 := (h60.st (.new _ g62))
         refine L_pu (P_ld ag9 cL ⟨b25, 7, none⟩ (vs c_.Now.Id) rfl (h68.cell rfl)) ?_
         refine L_run (dj := 78) rfl rfl (by exact congrArg Value.bool hq67) ?_
         refine L_pu (P_fa fa103_0 ⟨b25, 0, none⟩ ⟨b25, 0, none⟩ rfl rfl) ?_
         refine L_run (dj := 78) rfl rfl (by exact congrArg Value.bool hq67) ?_
         refine L_pu (P_ld ag9 cL ⟨b25, 0, none⟩ (vs c_.Id) rfl (h68.cell rfl)) ?_
         refine L_run (dj := 78) rfl rfl (by exact congrArg Value.bool hq67) ?_
         refine L_pu (P_scmp c_.Now.Id c_.Id (c_.Now.Id == c_.Id) rfl rfl rfl) ?_
         refine L_run (dj := 74) rfl rfl (by exact congrArg Value.bool hq42) ?_
         refine L_pu (P_pick true (vb (c_.Now.Id == c_.Id)) (by exact congrArg Value.bool hq67) rfl) ?_
         refine L_run (dj := 70) rfl rfl rfl ?_
         refine L_pu (P_pick false (vb (c_.Now.Id == c_.Id)) (by exact congrArg Value.bool hq42) rfl) ?_
         refine L_pu (P_pick true (vb (c_.Now.Id == c_.Id)) (by exact congrArg Value.bool rfl) rfl) ?_
         refine L_pu (P_assign (vb (c_.Now.Id == c_.Id)) rfl) ?_
         refine L_nil ?_
         refine W_ret ?_
         exact ⟨[vb (c_.Now.Id == c_.Id)], ⟨_, rfl, rfl⟩, c_.Now.Id == c_.Id, rfl, H, hc66.gr.g0⟩
        ·have H := ite_f H hq67
         refine L_pass (dj := 78) rfl rfl (.inl (by exact congrArg Value.bool hq67)) ?_
         refine L_pass (dj := 78) rfl rfl (.inl (by exact congrArg Value.bool hq67)) ?_
         refine L_pass (dj := 78) rfl rfl (.inl (by exact congrArg Value.bool hq67)) ?_
         refine L_pass (dj := 78) rfl rfl (.inl (by exact congrArg Value.bool hq67)) ?_
         refine L_pass (dj := 78) rfl rfl (.inl (by exact congrArg Value.bool hq67)) ?_
         refine L_pass (dj := 78) rfl rfl (.inl (by exact congrArg Value.bool hq67)) ?_
         refine L_run (dj := 74) rfl rfl (by exact congrArg Value.bool hq42) ?_
         refine L_pu (P_pick false (vb false) (by exact congrArg Value.bool hq67) rfl) ?_
         refine L_run (dj := 70) rfl rfl rfl ?_
         refine L_pu (P_pick false (vb false) (by exact congrArg Value.bool hq42) rfl) ?_
         refine L_pu (P_pick true (vb false) (by exact congrArg Value.bool rfl) rfl) ?_
         refine L_pu (P_assign (vb false) rfl) ?_
         refine L_nil ?_
         refine W_ret ?_
         exact ⟨[vb false], ⟨_, rfl, rfl⟩, false, rfl, H, hc66.gr.g0⟩
     ·have H := ite_f H hq44
      refine L_pass (dj := 24) rfl rfl (.inl (by exact congrArg Value.bool hq44)) ?_
      refine L_pass (dj := 24) rfl rfl (.inl (by exact congrArg Value.bool hq44)) ?_
      refine L_pass (dj := 24) rfl rfl (.inl (by exact congrArg Value.bool hq44)) ?_
      refine L_pass (dj := 24) rfl rfl (.inl (by exact congrArg Value.bool hq44)) ?_
      refine L_pass (dj := 24) rfl rfl (.inl (by exact congrArg Value.bool hq44)) ?_
      refine L_run (dj := 17) rfl rfl (by exact congrArg Value.bool hq42) ?_
      refine L_pu (P_pick false (vb false) (by exact congrArg Value.bool hq44) rfl) ?_
      refine L_pu (P_pick false (vb false) (by exact congrArg Value.bool hq42) rfl) ?_
      refine L_nil ?_
      refine W_cf (b := false) rfl rfl ?_
      refine W_skip ?_
      refine W_seq ?_
      refine W_seq ?_
      refine W_reg ?_
      refine L_pu (P_fa fa103_1 ⟨b25, 0, none⟩ ⟨b25, 1, none⟩ rfl rfl) ?_
      refine L_pu (P_ld ag4 cL ⟨b25, 1, none⟩ (vb c_.Had) rfl (h40.cell rfl)) ?_
      refine L_pu (P_not c_.Had rfl) ?_
      refine L_pu (P_move (vb (!c_.Had)) rfl) ?_
      refine L_run (dj := 35) rfl rfl (by exact congrArg Value.bool hq41) ?_
      refine L_pu (P_fa fa103_2 ⟨b25, 0, none⟩ ⟨b25, 2, none⟩ rfl rfl) ?_
      refine L_run (dj := 35) rfl rfl (by exact congrArg Value.bool hq41) ?_
      refine L_pu (P_lda ag71 sz71 cL ⟨b25, 2, none⟩ [vs c_.Was.Id, vi c_.Was.Shape.Kind, .slice A3 n4 c5, .slice A8 n9 c10] rfl rfl (h40.cells (off := 2) rfl)) ?_
      refine L_run (dj := 35) rfl rfl (by exact congrArg Value.bool hq41) ?_
      refine L_pu (P_build (.agg #[vs ([] : Str), vi 0, .slice none 0 0, .slice none 0 0]) (fun _ => by kernel_rfl)) ?_
      refine L_run (dj := 35) rfl rfl (by exact congrArg Value.bool hq41) ?_
      refine L_call go79 [.agg #[vs c_.Was.Id, vi c_.Was.Shape.Kind, .slice A3 n4 c5, .slice A8 n9 c10], .agg #[vs ([] : Str), vi 0, .slice none 0 0, .slice none 0 0]] rfl ((spec_FeatSame.calls w33 hc38.ok c_.Was A3 n4 c5 A8 n9 c10 hs2 (hp6.st hc38.st) (hp11.st hc38.st) (⟨([] : Str), (⟨0, []⟩ : Shape), []⟩ : Feat) none 0 0 none 0 0 (by decide) (Sl.nil _ _ _ none 0 (by decide)) (Sl.nil _ _ _ none 0 (by decide)) _ H).mono ?_)
      rintro _ w69 ⟨r5, rfl, H, g70⟩
      have hc74 := hc38.k0 g70
      refine L_run (dj := 35) rfl rfl (by exact congrArg Value.bool hq41) ?_
      refine L_pu (P_not r5 rfl) ?_
      refine L_pu (P_pick true (vb (!r5)) (by exact congrArg Value.bool hq41) rfl) ?_
      refine L_pu (P_move (vb (!r5)) rfl) ?_
      rcases bool_or (!r5) with hq75 | hq75
      ·have H := ite_t H hq75
       refine L_pass (dj := 42) rfl rfl (.inl (by exact congrArg Value.bool hq75)) ?_
       refine L_pass (dj := 42) rfl rfl (.inl (by exact congrArg Value.bool hq75)) ?_
       refine L_pass (dj := 42) rfl rfl (.inl (by exact congrArg Value.bool hq75)) ?_
       refine L_pass (dj := 42) rfl rfl (.inl (by exact congrArg Value.bool hq75)) ?_
       refine L_pass (dj := 46) rfl rfl (.inr rfl) ?_
       refine L_pass (dj := 46) rfl rfl (.inr rfl) ?_
       refine L_pass (dj := 46) rfl rfl (.inr rfl) ?_
       refine L_pass (dj := 46) rfl rfl (.inr rfl) ?_
       refine L_pass (dj := 46) rfl rfl (.inr rfl) ?_
       refine L_pass (dj := 42) rfl rfl (.inl (by exact congrArg Value.bool hq75)) ?_
       refine L_pu (P_pick true (vb true) (by exact congrArg Value.bool hq75) rfl) ?_
       refine L_nil ?_
       refine W_ct (b := true) rfl rfl ?_
       refine W_seq ?_
       refine W_reg ?_
       refine L_pu (P_assign (vb false) rfl) ?_
       refine L_nil ?_
       refine W_ret ?_
       exact ⟨[vb false], ⟨_, rfl, rfl⟩, false, rfl, H, hc74.gr.g0⟩
      ·have H := ite_f H hq75
       refine L_run (dj := 42) rfl rfl (by exact congrArg Value.bool hq75) ?_
       refine L_pu (P_fa fa103_3 ⟨b25, 0, none⟩ ⟨b25, 6, none⟩ rfl rfl) ?_
       refine L_run (dj := 42) rfl rfl (by exact congrArg Value.bool hq75) ?_
       have h76 := (h40.st (.new _ g70))
       refine L_pu (P_ld ag4 cL ⟨b25, 6, none⟩ (vb c_.Has) rfl (h76.cell rfl)) ?_
       refine L_run (dj := 42) rfl rfl (by exact congrArg Value.bool hq75) ?_
       refine L_pu (P_not c_.Has rfl) ?_
       refine L_run (dj := 42) rfl rfl (by exact congrArg Value.bool hq75) ?_
       refine L_pu (P_move (vb (!c_.Has)) rfl) ?_
       refine L_pass (dj := 46) rfl rfl (.inl (by exact congrArg Value.bool hq42)) ?_
       refine L_pass (dj := 46) rfl rfl (.inl (by exact congrArg Value.bool hq42)) ?_
       refine L_pass (dj := 46) rfl rfl (.inl (by exact congrArg Value.bool hq42)) ?_
       refine L_pass (dj := 46) rfl rfl (.inl (by exact congrArg Value.bool hq42)) ?_
       refine L_pass (dj := 46) rfl rfl (.inl (by exact congrArg Value.bool hq42)) ?_
       refine L_run (dj := 42) rfl rfl (by exact congrArg Value.bool hq75) ?_
       refine L_pu (P_pick false (vb false) (by exact congrArg Value.bool hq42) rfl) ?_
       refine L_pu (P_pick false (vb false) (by exact congrArg Value.bool hq75) rfl) ?_
       refine L_nil ?_
       refine W_cf (b := false) rfl rfl ?_
       refine W_skip ?_
       refine W_seq ?_
       refine W_reg ?_
       refine L_pu (P_fa fa103_1 ⟨b25, 0, none⟩ ⟨b25, 1, none⟩ rfl rfl) ?_
       refine L_pu (P_ld ag4 cL ⟨b25, 1, none⟩ (vb c_.Had) rfl (h76.cell rfl)) ?_
       refine L_pu (P_not c_.Had rfl) ?_
       refine L_pu (P_move (vb (!c_.Had)) rfl) ?_
       refine L_pass (dj := 57) rfl rfl (.inl (by exact congrArg Value.bool hq41)) ?_
       refine L_pass (dj := 57) rfl rfl (.inl (by exact congrArg Value.bool hq41)) ?_
       refine L_pass (dj := 57) rfl rfl (.inl (by exact congrArg Value.bool hq41)) ?_
       refine L_pass (dj := 57) rfl rfl (.inl (by exact congrArg Value.bool hq41)) ?_
       refine L_pass (dj := 61) rfl rfl (.inr rfl) ?_
       refine L_pass (dj := 61) rfl rfl (.inr rfl) ?_
       refine L_pass (dj := 61) rfl rfl (.inr rfl) ?_
       refine L_pass (dj := 61) rfl rfl (.inr rfl) ?_
       refine L_pass (dj := 61) rfl rfl (.inr rfl) ?_
       refine L_pass (dj := 61) rfl rfl (.inr rfl) ?_
       refine L_pass (dj := 57) rfl rfl (.inl (by exact congrArg Value.bool hq41)) ?_
       refine L_pu (P_pick true (vb true) (by exact congrArg Value.bool hq41) rfl) ?_
       refine L_pu (P_move (vb true) rfl) ?_
       refine L_run (dj := 70) rfl rfl rfl ?_
       refine L_pu (P_fa fa103_3 ⟨b25, 0, none⟩ ⟨b25, 6, none⟩ rfl rfl) ?_
       refine L_run (dj := 70) rfl rfl rfl ?_
       refine L_pu (P_ld ag4 cL ⟨b25, 6, none⟩ (vb c_.Has) rfl (h76.cell rfl)) ?_
       refine L_run (dj := 70) rfl rfl rfl ?_
       refine L_pu (P_not c_.Has rfl) ?_
       refine L_run (dj := 70) rfl rfl rfl ?_
       refine L_pu (P_move (vb (!c_.Has)) rfl) ?_
       refine L_run (dj := 74) rfl rfl (by exact congrArg Value.bool hq42) ?_
       refine L_pu (P_fa fa103_4 ⟨b25, 0, none⟩ ⟨b25, 7, none⟩ rfl rfl) ?_
       refine L_run (dj := 74) rfl rfl (by exact congrArg Value.bool hq42) ?_
       refine L_pu (P_lda ag71 sz71 cL ⟨b25, 7, none⟩ [vs c_.Now.Id, vi c_.Now.Shape.Kind, .slice A14 n15 c16, .slice A19 n20 c21] rfl rfl (h76.cells (off := 7) rfl)) ?_
       refine L_run (dj := 74) rfl rfl (by exact congrArg Value.bool hq42) ?_
       refine L_call go89 [.agg #[vs c_.Now.Id, vi c_.Now.Shape.Kind, .slice A14 n15 c16, .slice A19 n20 c21]] rfl ((spec_FeatOk.calls w69 hc74.ok c_.Now A14 n15 c16 A19 n20 c21 hs13 (hp17.st hc74.st) (hp22.st hc74.st) _ H).mono ?_)
       rintro _ w77 ⟨r6, rfl, H, g78⟩
       have hc82 := hc74.k0 g78
       refine L_run (dj := 74) rfl rfl (by exact congrArg Value.bool hq42) ?_
       refine L_pu (P_move (vb r6) rfl) ?_
       rcases bool_or r6 with hq83 | hq83
       ·have H := ite_t H hq83
        refine L_run (dj := 78) rfl rfl (by exact congrArg Value.bool hq83) ?_
        refine L_pu (P_fa fa103_4 ⟨b25, 0, none⟩ ⟨b25, 7, none⟩ rfl rfl) ?_
        refine L_run (dj := 78) rfl rfl (by exact congrArg Value.bool hq83) ?_
        refine L_pu (P_fa fa71_0 ⟨b25, 7, none⟩ ⟨b25, 7, none⟩ rfl rfl) ?_
        refine L_run (dj := 78) rfl rfl (by exact congrArg Value.bool hq83) ?_
        have h84 := (h76.st (.new _ g78))
        refine L_pu (P_ld ag9 cL ⟨b25, 7, none⟩ (vs c_.Now.Id) rfl (h84.cell rfl)) ?_
        refine L_run (dj := 78) rfl rfl (by exact congrArg Value.bool hq83) ?_
        refine L_pu (P_fa fa103_0 ⟨b25, 0, none⟩ ⟨b25, 0, none⟩ rfl rfl) ?_
        refine L_run (dj := 78) rfl rfl (by exact congrArg Value.bool hq83) ?_
        refine L_pu (P_ld ag9 cL ⟨b25, 0, none⟩ (vs c_.Id) rfl (h84.cell rfl)) ?_
        refine L_run (dj := 78) rfl rfl (by exact congrArg Value.bool hq83) ?_
        refine L_pu (P_scmp c_.Now.Id c_.Id (c_.Now.Id == c_.Id) rfl rfl rfl) ?_
        refine L_run (dj := 74) rfl rfl (by exact congrArg Value.bool hq42) ?_
        refine L_pu (P_pick true (vb (c_.Now.Id == c_.Id)) (by exact congrArg Value.bool hq83) rfl) ?_
        refine L_run (dj := 70) rfl rfl rfl ?_
        refine L_pu (P_pick false (vb (c_.Now.Id == c_.Id)) (by exact congrArg Value.bool hq42) rfl) ?_
        refine L_pu (P_pick true (vb (c_.Now.Id == c_.Id)) (by exact congrArg Value.bool rfl) rfl) ?_
        refine L_pu (P_assign (vb (c_.Now.Id == c_.Id)) rfl) ?_
        refine L_nil ?_
        refine W_ret ?_
        exact ⟨[vb (c_.Now.Id == c_.Id)], ⟨_, rfl, rfl⟩, c_.Now.Id == c_.Id, rfl, H, hc82.gr.g0⟩
       ·have H := ite_f H hq83
        refine L_pass (dj := 78) rfl rfl (.inl (by exact congrArg Value.bool hq83)) ?_
        refine L_pass (dj := 78) rfl rfl (.inl (by exact congrArg Value.bool hq83)) ?_
        refine L_pass (dj := 78) rfl rfl (.inl (by exact congrArg Value.bool hq83)) ?_
        refine L_pass (dj := 78) rfl rfl (.inl (by exact congrArg Value.bool hq83)) ?_
        refine L_pass (dj := 78) rfl rfl (.inl (by exact congrArg Value.bool hq83)) ?_
        refine L_pass (dj := 78) rfl rfl (.inl (by exact congrArg Value.bool hq83)) ?_
        refine L_run (dj := 74) rfl rfl (by exact congrArg Value.bool hq42) ?_
        refine L_pu (P_pick false (vb false) (by exact congrArg Value.bool hq83) rfl) ?_
        refine L_run (dj := 70) rfl rfl rfl ?_
        refine L_pu (P_pick false (vb false) (by exact congrArg Value.bool hq42) rfl) ?_
        refine L_pu (P_pick true (vb false) (by exact congrArg Value.bool rfl) rfl) ?_
        refine L_pu (P_assign (vb false) rfl) ?_
        refine L_nil ?_
        refine W_ret ?_
        exact ⟨[vb false], ⟨_, rfl, rfl⟩, false, rfl, H, hc82.gr.g0⟩
    ·have H := ite_f H hq43
     refine L_pass (dj := 20) rfl rfl (.inl (by exact congrArg Value.bool hq43)) ?_
     refine L_pass (dj := 20) rfl rfl (.inl (by exact congrArg Value.bool hq43)) ?_
     refine L_run (dj := 17) rfl rfl (by exact congrArg Value.bool hq42) ?_
     refine L_pu (P_pick false (vb false) (by exact congrArg Value.bool hq43) rfl) ?_
     refine L_run (dj := 17) rfl rfl (by exact congrArg Value.bool hq42) ?_
     refine L_pu (P_move (vb false) rfl) ?_
     refine L_pass (dj := 24) rfl rfl (.inl rfl) ?_
     refine L_pass (dj := 24) rfl rfl (.inl rfl) ?_
     refine L_pass (dj := 24) rfl rfl (.inl rfl) ?_
     refine L_pass (dj := 24) rfl rfl (.inl rfl) ?_
     refine L_pass (dj := 24) rfl rfl (.inl rfl) ?_
     refine L_run (dj := 17) rfl rfl (by exact congrArg Value.bool hq42) ?_
     refine L_pu (P_pick false (vb false) (by exact congrArg Value.bool rfl) rfl) ?_
     refine L_pu (P_pick false (vb false) (by exact congrArg Value.bool hq42) rfl) ?_
     refine L_nil ?_
     refine W_cf (b := false) rfl rfl ?_
     refine W_skip ?_
     refine W_seq ?_
     refine W_seq ?_
     refine W_reg ?_
     refine L_pu (P_fa fa103_1 ⟨b25, 0, none⟩ ⟨b25, 1, none⟩ rfl rfl) ?_
     refine L_pu (P_ld ag4 cL ⟨b25, 1, none⟩ (vb c_.Had) rfl (h40.cell rfl)) ?_
     refine L_pu (P_not c_.Had rfl) ?_
     refine L_pu (P_move (vb (!c_.Had)) rfl) ?_
     refine L_run (dj := 35) rfl rfl (by exact congrArg Value.bool hq41) ?_
     refine L_pu (P_fa fa103_2 ⟨b25, 0, none⟩ ⟨b25, 2, none⟩ rfl rfl) ?_
     refine L_run (dj := 35) rfl rfl (by exact congrArg Value.bool hq41) ?_
     refine L_pu (P_lda ag71 sz71 cL ⟨b25, 2, none⟩ [vs c_.Was.Id, vi c_.Was.Shape.Kind, .slice A3 n4 c5, .slice A8 n9 c10] rfl rfl (h40.cells (off := 2) rfl)) ?_
     refine L_run (dj := 35) rfl rfl (by exact congrArg Value.bool hq41) ?_
     refine L_pu (P_build (.agg #[vs ([] : Str), vi 0, .slice none 0 0, .slice none 0 0]) (fun _ => by kernel_rfl)) ?_
     refine L_run (dj := 35) rfl rfl (by exact congrArg Value.bool hq41) ?_
     refine L_call go79 [.agg #[vs c_.Was.Id, vi c_.Was.Shape.Kind, .slice A3 n4 c5, .slice A8 n9 c10], .agg #[vs ([] : Str), vi 0, .slice none 0 0, .slice none 0 0]] rfl ((spec_FeatSame.calls w33 hc38.ok c_.Was A3 n4 c5 A8 n9 c10 hs2 (hp6.st hc38.st) (hp11.st hc38.st) (⟨([] : Str), (⟨0, []⟩ : Shape), []⟩ : Feat) none 0 0 none 0 0 (by decide) (Sl.nil _ _ _ none 0 (by decide)) (Sl.nil _ _ _ none 0 (by decide)) _ H).mono ?_)
     rintro _ w85 ⟨r7, rfl, H, g86⟩
     have hc90 := hc38.k0 g86
     refine L_run (dj := 35) rfl rfl (by exact congrArg Value.bool hq41) ?_
     refine L_pu (P_not r7 rfl) ?_
     refine L_pu (P_pick true (vb (!r7)) (by exact congrArg Value.bool hq41) rfl) ?_
     refine L_pu (P_move (vb (!r7)) rfl) ?_
     rcases bool_or (!r7) with hq91 | hq91
     ·have H := ite_t H hq91
      refine L_pass (dj := 42) rfl rfl (.inl (by exact congrArg Value.bool hq91)) ?_
      refine L_pass (dj := 42) rfl rfl (.inl (by exact congrArg Value.bool hq91)) ?_
      refine L_pass (dj := 42) rfl rfl (.inl (by exact congrArg Value.bool hq91)) ?_
      refine L_pass (dj := 42) rfl rfl (.inl (by exact congrArg Value.bool hq91)) ?_
      refine L_pass (dj := 46) rfl rfl (.inr rfl) ?_
      refine L_pass (dj := 46) rfl rfl (.inr rfl) ?_
      refine L_pass (dj := 46) rfl rfl (.inr rfl) ?_
      refine L_pass (dj := 46) rfl rfl (.inr rfl) ?_
      refine L_pass (dj := 46) rfl rfl (.inr rfl) ?_
      refine L_pass (dj := 42) rfl rfl (.inl (by exact congrArg Value.bool hq91)) ?_
      refine L_pu (P_pick true (vb true) (by exact congrArg Value.bool hq91) rfl) ?_
      refine L_nil ?_
      refine W_ct (b := true) rfl rfl ?_
      refine W_seq ?_
      refine W_reg ?_
      refine L_pu (P_assign (vb false) rfl) ?_
      refine L_nil ?_
      refine W_ret ?_
      exact ⟨[vb false], ⟨_, rfl, rfl⟩, false, rfl, H, hc90.gr.g0⟩
     ·have H := ite_f H hq91
      refine L_run (dj := 42) rfl rfl (by exact congrArg Value.bool hq91) ?_
      refine L_pu (P_fa fa103_3 ⟨b25, 0, none⟩ ⟨b25, 6, none⟩ rfl rfl) ?_
      refine L_run (dj := 42) rfl rfl (by exact congrArg Value.bool hq91) ?_
      have h92 := (h40.st (.new _ g86))
      refine L_pu (P_ld ag4 cL ⟨b25, 6, none⟩ (vb c_.Has) rfl (h92.cell rfl)) ?_
      refine L_run (dj := 42) rfl rfl (by exact congrArg Value.bool hq91) ?_
      refine L_pu (P_not c_.Has rfl) ?_
      refine L_run (dj := 42) rfl rfl (by exact congrArg Value.bool hq91) ?_
      refine L_pu (P_move (vb (!c_.Has)) rfl) ?_
      refine L_pass (dj := 46) rfl rfl (.inl (by exact congrArg Value.bool hq42)) ?_
      refine L_pass (dj := 46) rfl rfl (.inl (by exact congrArg Value.bool hq42)) ?_
      refine L_pass (dj := 46) rfl rfl (.inl (by exact congrArg Value.bool hq42)) ?_
      refine L_pass (dj := 46) rfl rfl (.inl (by exact congrArg Value.bool hq42)) ?_
      refine L_pass (dj := 46) rfl rfl (.inl (by exact congrArg Value.bool hq42)) ?_
      refine L_run (dj := 42) rfl rfl (by exact congrArg Value.bool hq91) ?_
      refine L_pu (P_pick false (vb false) (by exact congrArg Value.bool hq42) rfl) ?_
      refine L_pu (P_pick false (vb false) (by exact congrArg Value.bool hq91) rfl) ?_
      refine L_nil ?_
      refine W_cf (b := false) rfl rfl ?_
      refine W_skip ?_
      refine W_seq ?_
      refine W_reg ?_
      refine L_pu (P_fa fa103_1 ⟨b25, 0, none⟩ ⟨b25, 1, none⟩ rfl rfl) ?_
      refine L_pu (P_ld ag4 cL ⟨b25, 1, none⟩ (vb c_.Had) rfl (h92.cell rfl)) ?_
      refine L_pu (P_not c_.Had rfl) ?_
      refine L_pu (P_move (vb (!c_.Had)) rfl) ?_
      refine L_pass (dj := 57) rfl rfl (.inl (by exact congrArg Value.bool hq41)) ?_
      refine L_pass (dj := 57) rfl rfl (.inl (by exact congrArg Value.bool hq41)) ?_
      refine L_pass (dj := 57) rfl rfl (.inl (by exact congrArg Value.bool hq41)) ?_
      refine L_pass (dj := 57) rfl rfl (.inl (by exact congrArg Value.bool hq41)) ?_
      refine L_pass (dj := 61) rfl rfl (.inr rfl) ?_
      refine L_pass (dj := 61) rfl rfl (.inr rfl) ?_
      refine L_pass (dj := 61) rfl rfl (.inr rfl) ?_
      refine L_pass (dj := 61) rfl rfl (.inr rfl) ?_
      refine L_pass (dj := 61) rfl rfl (.inr rfl) ?_
      refine L_pass (dj := 61) rfl rfl (.inr rfl) ?_
      refine L_pass (dj := 57) rfl rfl (.inl (by exact congrArg Value.bool hq41)) ?_
      refine L_pu (P_pick true (vb true) (by exact congrArg Value.bool hq41) rfl) ?_
      refine L_pu (P_move (vb true) rfl) ?_
      refine L_run (dj := 70) rfl rfl rfl ?_
      refine L_pu (P_fa fa103_3 ⟨b25, 0, none⟩ ⟨b25, 6, none⟩ rfl rfl) ?_
      refine L_run (dj := 70) rfl rfl rfl ?_
      refine L_pu (P_ld ag4 cL ⟨b25, 6, none⟩ (vb c_.Has) rfl (h92.cell rfl)) ?_
      refine L_run (dj := 70) rfl rfl rfl ?_
      refine L_pu (P_not c_.Has rfl) ?_
      refine L_run (dj := 70) rfl rfl rfl ?_
      refine L_pu (P_move (vb (!c_.Has)) rfl) ?_
      refine L_run (dj := 74) rfl rfl (by exact congrArg Value.bool hq42) ?_
      refine L_pu (P_fa fa103_4 ⟨b25, 0, none⟩ ⟨b25, 7, none⟩ rfl rfl) ?_
      refine L_run (dj := 74) rfl rfl (by exact congrArg Value.bool hq42) ?_
      refine L_pu (P_lda ag71 sz71 cL ⟨b25, 7, none⟩ [vs c_.Now.Id, vi c_.Now.Shape.Kind, .slice A14 n15 c16, .slice A19 n20 c21] rfl rfl (h92.cells (off := 7) rfl)) ?_
      refine L_run (dj := 74) rfl rfl (by exact congrArg Value.bool hq42) ?_
      refine L_call go89 [.agg #[vs c_.Now.Id, vi c_.Now.Shape.Kind, .slice A14 n15 c16, .slice A19 n20 c21]] rfl ((spec_FeatOk.calls w85 hc90.ok c_.Now A14 n15 c16 A19 n20 c21 hs13 (hp17.st hc90.st) (hp22.st hc90.st) _ H).mono ?_)
      rintro _ w93 ⟨r8, rfl, H, g94⟩
      have hc98 := hc90.k0 g94
      refine L_run (dj := 74) rfl rfl (by exact congrArg Value.bool hq42) ?_
      refine L_pu (P_move (vb r8) rfl) ?_
      rcases bool_or r8 with hq99 | hq99
      ·have H := ite_t H hq99
       refine L_run (dj := 78) rfl rfl (by exact congrArg Value.bool hq99) ?_
       refine L_pu (P_fa fa103_4 ⟨b25, 0, none⟩ ⟨b25, 7, none⟩ rfl rfl) ?_
       refine L_run (dj := 78) rfl rfl (by exact congrArg Value.bool hq99) ?_
       refine L_pu (P_fa fa71_0 ⟨b25, 7, none⟩ ⟨b25, 7, none⟩ rfl rfl) ?_
       refine L_run (dj := 78) rfl rfl (by exact congrArg Value.bool hq99) ?_
       have h100 := (h92.st (.new _ g94))
       refine L_pu (P_ld ag9 cL ⟨b25, 7, none⟩ (vs c_.Now.Id) rfl (h100.cell rfl)) ?_
       refine L_run (dj := 78) rfl rfl (by exact congrArg Value.bool hq99) ?_
       refine L_pu (P_fa fa103_0 ⟨b25, 0, none⟩ ⟨b25, 0, none⟩ rfl rfl) ?_
       refine L_run (dj := 78) rfl rfl (by exact congrArg Value.bool hq99) ?_
       refine L_pu (P_ld ag9 cL ⟨b25, 0, none⟩ (vs c_.Id) rfl (h100.cell rfl)) ?_
       refine L_run (dj := 78) rfl rfl (by exact congrArg Value.bool hq99) ?_
       refine L_pu (P_scmp c_.Now.Id c_.Id (c_.Now.Id == c_.Id) rfl rfl rfl) ?_
       refine L_run (dj := 74) rfl rfl (by exact congrArg Value.bool hq42) ?_
       refine L_pu (P_pick true (vb (c_.Now.Id == c_.Id)) (by exact congrArg Value.bool hq99) rfl) ?_
       refine L_run (dj := 70) rfl rfl rfl ?_
       refine L_pu (P_pick false (vb (c_.Now.Id == c_.Id)) (by exact congrArg Value.bool hq42) rfl) ?_
       refine L_pu (P_pick true (vb (c_.Now.Id == c_.Id)) (by exact congrArg Value.bool rfl) rfl) ?_
       refine L_pu (P_assign (vb (c_.Now.Id == c_.Id)) rfl) ?_
       refine L_nil ?_
       refine W_ret ?_
       exact ⟨[vb (c_.Now.Id == c_.Id)], ⟨_, rfl, rfl⟩, c_.Now.Id == c_.Id, rfl, H, hc98.gr.g0⟩
      ·have H := ite_f H hq99
       refine L_pass (dj := 78) rfl rfl (.inl (by exact congrArg Value.bool hq99)) ?_
       refine L_pass (dj := 78) rfl rfl (.inl (by exact congrArg Value.bool hq99)) ?_
       refine L_pass (dj := 78) rfl rfl (.inl (by exact congrArg Value.bool hq99)) ?_
       refine L_pass (dj := 78) rfl rfl (.inl (by exact congrArg Value.bool hq99)) ?_
       refine L_pass (dj := 78) rfl rfl (.inl (by exact congrArg Value.bool hq99)) ?_
       refine L_pass (dj := 78) rfl rfl (.inl (by exact congrArg Value.bool hq99)) ?_
       refine L_run (dj := 74) rfl rfl (by exact congrArg Value.bool hq42) ?_
       refine L_pu (P_pick false (vb false) (by exact congrArg Value.bool hq99) rfl) ?_
       refine L_run (dj := 70) rfl rfl rfl ?_
       refine L_pu (P_pick false (vb false) (by exact congrArg Value.bool hq42) rfl) ?_
       refine L_pu (P_pick true (vb false) (by exact congrArg Value.bool rfl) rfl) ?_
       refine L_pu (P_assign (vb false) rfl) ?_
       refine L_nil ?_
       refine W_ret ?_
       exact ⟨[vb false], ⟨_, rfl, rfl⟩, false, rfl, H, hc98.gr.g0⟩
  ·have H := ite_f H hq41
   refine L_pass (dj := 11) rfl rfl (.inl (by exact congrArg Value.bool hq41)) ?_
   refine L_pass (dj := 11) rfl rfl (.inl (by exact congrArg Value.bool hq41)) ?_
   refine L_pass (dj := 11) rfl rfl (.inl (by exact congrArg Value.bool hq41)) ?_
   refine L_run (dj := 7) rfl rfl (by exact congrArg Value.bool hq39) ?_
   refine L_pu (P_pick false (vb false) (by exact congrArg Value.bool hq41) rfl) ?_
   refine L_pu (P_pick false (vb false) (by exact congrArg Value.bool hq39) rfl) ?_
   refine L_pu (P_move (vb false) rfl) ?_
   refine L_run (dj := 17) rfl rfl rfl ?_
   refine L_pu (P_fa fa103_1 ⟨b25, 0, none⟩ ⟨b25, 1, none⟩ rfl rfl) ?_
   refine L_run (dj := 17) rfl rfl rfl ?_
   refine L_pu (P_ld ag4 cL ⟨b25, 1, none⟩ (vb c_.Had) rfl (h40.cell rfl)) ?_
   refine L_run (dj := 17) rfl rfl rfl ?_
   refine L_pu (P_move (vb c_.Had) rfl) ?_
   rcases bool_or c_.Had with hq101 | hq101
   ·have H := ite_t H hq101
    refine L_run (dj := 20) rfl rfl (by exact congrArg Value.bool hq101) ?_
    refine L_pu (P_fa fa103_3 ⟨b25, 0, none⟩ ⟨b25, 6, none⟩ rfl rfl) ?_
    refine L_run (dj := 20) rfl rfl (by exact congrArg Value.bool hq101) ?_
    refine L_pu (P_ld ag4 cL ⟨b25, 6, none⟩ (vb c_.Has) rfl (h40.cell rfl)) ?_
    refine L_run (dj := 17) rfl rfl rfl ?_
    refine L_pu (P_pick true (vb c_.Has) (by exact congrArg Value.bool hq101) rfl) ?_
    refine L_run (dj := 17) rfl rfl rfl ?_
    refine L_pu (P_move (vb c_.Has) rfl) ?_
    rcases bool_or c_.Has with hq102 | hq102
    ·have H := ite_t H hq102
     refine L_run (dj := 24) rfl rfl (by exact congrArg Value.bool hq102) ?_
     refine L_pu (P_fa fa103_2 ⟨b25, 0, none⟩ ⟨b25, 2, none⟩ rfl rfl) ?_
     refine L_run (dj := 24) rfl rfl (by exact congrArg Value.bool hq102) ?_
     refine L_pu (P_lda ag71 sz71 cL ⟨b25, 2, none⟩ [vs c_.Was.Id, vi c_.Was.Shape.Kind, .slice A3 n4 c5, .slice A8 n9 c10] rfl rfl (h40.cells (off := 2) rfl)) ?_
     refine L_run (dj := 24) rfl rfl (by exact congrArg Value.bool hq102) ?_
     refine L_pu (P_fa fa103_4 ⟨b25, 0, none⟩ ⟨b25, 7, none⟩ rfl rfl) ?_
     refine L_run (dj := 24) rfl rfl (by exact congrArg Value.bool hq102) ?_
     refine L_pu (P_lda ag71 sz71 cL ⟨b25, 7, none⟩ [vs c_.Now.Id, vi c_.Now.Shape.Kind, .slice A14 n15 c16, .slice A19 n20 c21] rfl rfl (h40.cells (off := 7) rfl)) ?_
     refine L_run (dj := 24) rfl rfl (by exact congrArg Value.bool hq102) ?_
     refine L_call go79 [.agg #[vs c_.Was.Id, vi c_.Was.Shape.Kind, .slice A3 n4 c5, .slice A8 n9 c10], .agg #[vs c_.Now.Id, vi c_.Now.Shape.Kind, .slice A14 n15 c16, .slice A19 n20 c21]] rfl ((spec_FeatSame.calls w33 hc38.ok c_.Was A3 n4 c5 A8 n9 c10 hs2 (hp6.st hc38.st) (hp11.st hc38.st) c_.Now A14 n15 c16 A19 n20 c21 hs13 (hp17.st hc38.st) (hp22.st hc38.st) _ H).mono ?_)
     rintro _ w103 ⟨r9, rfl, H, g104⟩
     have hc108 := hc38.k0 g104
     refine L_run (dj := 17) rfl rfl rfl ?_
     refine L_pu (P_pick true (vb r9) (by exact congrArg Value.bool hq102) rfl) ?_
     refine L_pu (P_pick false (vb r9) (by exact congrArg Value.bool rfl) rfl) ?_
     refine L_nil ?_
     refine W_cond r9 rfl (fun hq109 => ?_) (fun hq109 => ?_)
     ·have H := ite_t H hq109
      refine W_seq ?_
      refine W_reg ?_
      refine L_pu (P_assign (vb false) rfl) ?_
      refine L_nil ?_
      refine W_ret ?_
      exact ⟨[vb false], ⟨_, rfl, rfl⟩, false, rfl, H, hc108.gr.g0⟩
     ·have H := ite_f H hq109
      refine W_skip ?_
      refine W_seq ?_
      refine W_seq ?_
      refine W_reg ?_
      refine L_pu (P_fa fa103_1 ⟨b25, 0, none⟩ ⟨b25, 1, none⟩ rfl rfl) ?_
      have h110 := (h40.st (.new _ g104))
      refine L_pu (P_ld ag4 cL ⟨b25, 1, none⟩ (vb c_.Had) rfl (h110.cell rfl)) ?_
      refine L_pu (P_not c_.Had rfl) ?_
      refine L_pu (P_move (vb (!c_.Had)) rfl) ?_
      refine L_pass (dj := 35) rfl rfl (.inl (by exact congrArg Value.bool hq41)) ?_
      refine L_pass (dj := 35) rfl rfl (.inl (by exact congrArg Value.bool hq41)) ?_
      refine L_pass (dj := 35) rfl rfl (.inl (by exact congrArg Value.bool hq41)) ?_
      refine L_pass (dj := 35) rfl rfl (.inl (by exact congrArg Value.bool hq41)) ?_
      refine L_pass (dj := 35) rfl rfl (.inl (by exact congrArg Value.bool hq41)) ?_
      refine L_pu (P_pick false (vb false) (by exact congrArg Value.bool hq41) rfl) ?_
      refine L_pu (P_move (vb false) rfl) ?_
      refine L_run (dj := 42) rfl rfl rfl ?_
      refine L_pu (P_fa fa103_3 ⟨b25, 0, none⟩ ⟨b25, 6, none⟩ rfl rfl) ?_
      refine L_run (dj := 42) rfl rfl rfl ?_
      refine L_pu (P_ld ag4 cL ⟨b25, 6, none⟩ (vb c_.Has) rfl (h110.cell rfl)) ?_
      refine L_run (dj := 42) rfl rfl rfl ?_
      refine L_pu (P_not c_.Has rfl) ?_
      refine L_run (dj := 42) rfl rfl rfl ?_
      refine L_pu (P_move (vb (!c_.Has)) rfl) ?_
      rcases bool_or (!c_.Has) with hq111 | hq111
      ·have H := ite_t H hq111
       refine L_run (dj := 46) rfl rfl (by exact congrArg Value.bool hq111) ?_
       refine L_pu (P_fa fa103_4 ⟨b25, 0, none⟩ ⟨b25, 7, none⟩ rfl rfl) ?_
       refine L_run (dj := 46) rfl rfl (by exact congrArg Value.bool hq111) ?_
       refine L_pu (P_lda ag71 sz71 cL ⟨b25, 7, none⟩ [vs c_.Now.Id, vi c_.Now.Shape.Kind, .slice A14 n15 c16, .slice A19 n20 c21] rfl rfl (h110.cells (off := 7) rfl)) ?_
       refine L_run (dj := 46) rfl rfl (by exact congrArg Value.bool hq111) ?_
       refine L_pu (P_build (.agg #[vs ([] : Str), vi 0, .slice none 0 0, .slice none 0 0]) (fun _ => by kernel_rfl)) ?_
       refine L_run (dj := 46) rfl rfl (by exact congrArg Value.bool hq111) ?_
       refine L_call go79 [.agg #[vs c_.Now.Id, vi c_.Now.Shape.Kind, .slice A14 n15 c16, .slice A19 n20 c21], .agg #[vs ([] : Str), vi 0, .slice none 0 0, .slice none 0 0]] rfl ((spec_FeatSame.calls w103 hc108.ok c_.Now A14 n15 c16 A19 n20 c21 hs13 (hp17.st hc108.st) (hp22.st hc108.st) (⟨([] : Str), (⟨0, []⟩ : Shape), []⟩ : Feat) none 0 0 none 0 0 (by decide) (Sl.nil _ _ _ none 0 (by decide)) (Sl.nil _ _ _ none 0 (by decide)) _ H).mono ?_)
       rintro _ w112 ⟨r10, rfl, H, g113⟩
       have hc117 := hc108.k0 g113
       refine L_run (dj := 46) rfl rfl (by exact congrArg Value.bool hq111) ?_
       refine L_pu (P_not r10 rfl) ?_
       refine L_run (dj := 42) rfl rfl rfl ?_
       refine L_pu (P_pick true (vb (!r10)) (by exact congrArg Value.bool hq111) rfl) ?_
       refine L_pu (P_pick false (vb (!r10)) (by exact congrArg Value.bool rfl) rfl) ?_
       refine L_nil ?_
       refine W_cond (!r10) rfl (fun hq118 => ?_) (fun hq118 => ?_)
       ·have H := ite_t H hq118
        refine W_seq ?_
        refine W_reg ?_
        refine L_pu (P_assign (vb false) rfl) ?_
        refine L_nil ?_
        refine W_ret ?_
        exact ⟨[vb false], ⟨_, rfl, rfl⟩, false, rfl, H, hc117.gr.g0⟩
       ·have H := ite_f H hq118
        refine W_skip ?_
        refine W_seq ?_
        refine W_reg ?_
        refine L_pu (P_fa fa103_1 ⟨b25, 0, none⟩ ⟨b25, 1, none⟩ rfl rfl) ?_
        have h119 := (h110.st (.new _ g113))
        refine L_pu (P_ld ag4 cL ⟨b25, 1, none⟩ (vb c_.Had) rfl (h119.cell rfl)) ?_
        refine L_pu (P_not c_.Had rfl) ?_
        refine L_pu (P_move (vb (!c_.Had)) rfl) ?_
        refine L_run (dj := 57) rfl rfl (by exact congrArg Value.bool hq41) ?_
        refine L_pu (P_fa fa103_2 ⟨b25, 0, none⟩ ⟨b25, 2, none⟩ rfl rfl) ?_
        refine L_run (dj := 57) rfl rfl (by exact congrArg Value.bool hq41) ?_
        refine L_pu (P_lda ag71 sz71 cL ⟨b25, 2, none⟩ [vs c_.Was.Id, vi c_.Was.Shape.Kind, .slice A3 n4 c5, .slice A8 n9 c10] rfl rfl (h119.cells (off := 2) rfl)) ?_
        refine L_run (dj := 57) rfl rfl (by exact congrArg Value.bool hq41) ?_
        refine L_call go89 [.agg #[vs c_.Was.Id, vi c_.Was.Shape.Kind, .slice A3 n4 c5, .slice A8 n9 c10]] rfl ((spec_FeatOk.calls w112 hc117.ok c_.Was A3 n4 c5 A8 n9 c10 hs2 (hp6.st hc117.st) (hp11.st hc117.st) _ H).mono ?_)
        rintro _ w120 ⟨r11, rfl, H, g121⟩
        have hc125 := hc117.k0 g121
        refine L_run (dj := 57) rfl rfl (by exact congrArg Value.bool hq41) ?_
        refine L_pu (P_move (vb r11) rfl) ?_
        rcases bool_or r11 with hq126 | hq126
        ·have H := ite_t H hq126
         refine L_run (dj := 61) rfl rfl (by exact congrArg Value.bool hq126) ?_
         refine L_pu (P_fa fa103_2 ⟨b25, 0, none⟩ ⟨b25, 2, none⟩ rfl rfl) ?_
         refine L_run (dj := 61) rfl rfl (by exact congrArg Value.bool hq126) ?_
         refine L_pu (P_fa fa71_0 ⟨b25, 2, none⟩ ⟨b25, 2, none⟩ rfl rfl) ?_
         refine L_run (dj := 61) rfl rfl (by exact congrArg Value.bool hq126) ?_
         have h127 := (h119.st (.new _ g121))
         refine L_pu (P_ld ag9 cL ⟨b25, 2, none⟩ (vs c_.Was.Id) rfl (h127.cell rfl)) ?_
         refine L_run (dj := 61) rfl rfl (by exact congrArg Value.bool hq126) ?_
         refine L_pu (P_fa fa103_0 ⟨b25, 0, none⟩ ⟨b25, 0, none⟩ rfl rfl) ?_
         refine L_run (dj := 61) rfl rfl (by exact congrArg Value.bool hq126) ?_
         refine L_pu (P_ld ag9 cL ⟨b25, 0, none⟩ (vs c_.Id) rfl (h127.cell rfl)) ?_
         refine L_run (dj := 61) rfl rfl (by exact congrArg Value.bool hq126) ?_
         refine L_pu (P_scmp c_.Was.Id c_.Id (c_.Was.Id == c_.Id) rfl rfl rfl) ?_
         refine L_run (dj := 57) rfl rfl (by exact congrArg Value.bool hq41) ?_
         refine L_pu (P_pick true (vb (c_.Was.Id == c_.Id)) (by exact congrArg Value.bool hq126) rfl) ?_
         refine L_pu (P_pick false (vb (c_.Was.Id == c_.Id)) (by exact congrArg Value.bool hq41) rfl) ?_
         refine L_pu (P_move (vb (c_.Was.Id == c_.Id)) rfl) ?_
         rcases bool_or (c_.Was.Id == c_.Id) with hq128 | hq128
         ·have H := ite_t H hq128
          refine L_run (dj := 70) rfl rfl (by exact congrArg Value.bool hq128) ?_
          refine L_pu (P_fa fa103_3 ⟨b25, 0, none⟩ ⟨b25, 6, none⟩ rfl rfl) ?_
          refine L_run (dj := 70) rfl rfl (by exact congrArg Value.bool hq128) ?_
          refine L_pu (P_ld ag4 cL ⟨b25, 6, none⟩ (vb c_.Has) rfl (h127.cell rfl)) ?_
          refine L_run (dj := 70) rfl rfl (by exact congrArg Value.bool hq128) ?_
          refine L_pu (P_not c_.Has rfl) ?_
          refine L_run (dj := 70) rfl rfl (by exact congrArg Value.bool hq128) ?_
          refine L_pu (P_move (vb (!c_.Has)) rfl) ?_
          refine L_pass (dj := 74) rfl rfl (.inl (by exact congrArg Value.bool hq111)) ?_
          refine L_pass (dj := 74) rfl rfl (.inl (by exact congrArg Value.bool hq111)) ?_
          refine L_pass (dj := 74) rfl rfl (.inl (by exact congrArg Value.bool hq111)) ?_
          refine L_pass (dj := 74) rfl rfl (.inl (by exact congrArg Value.bool hq111)) ?_
          refine L_pass (dj := 78) rfl rfl (.inr rfl) ?_
          refine L_pass (dj := 78) rfl rfl (.inr rfl) ?_
          refine L_pass (dj := 78) rfl rfl (.inr rfl) ?_
          refine L_pass (dj := 78) rfl rfl (.inr rfl) ?_
          refine L_pass (dj := 78) rfl rfl (.inr rfl) ?_
          refine L_pass (dj := 78) rfl rfl (.inr rfl) ?_
          refine L_pass (dj := 74) rfl rfl (.inl (by exact congrArg Value.bool hq111)) ?_
          refine L_run (dj := 70) rfl rfl (by exact congrArg Value.bool hq128) ?_
          refine L_pu (P_pick true (vb true) (by exact congrArg Value.bool hq111) rfl) ?_
          refine L_pu (P_pick true (vb true) (by exact congrArg Value.bool hq128) rfl) ?_
          refine L_pu (P_assign (vb true) rfl) ?_
          refine L_nil ?_
          refine W_ret ?_
          exact ⟨[vb true], ⟨_, rfl, rfl⟩, true, rfl, H, hc125.gr.g0⟩
         ·have H := ite_f H hq128
          refine L_pass (dj := 70) rfl rfl (.inl (by exact congrArg Value.bool hq128)) ?_
          refine L_pass (dj := 70) rfl rfl (.inl (by exact congrArg Value.bool hq128)) ?_
          refine L_pass (dj := 70) rfl rfl (.inl (by exact congrArg Value.bool hq128)) ?_
          refine L_pass (dj := 70) rfl rfl (.inl (by exact congrArg Value.bool hq128)) ?_
          refine L_pass (dj := 74) rfl rfl (.inr rfl) ?_
          refine L_pass (dj := 74) rfl rfl (.inr rfl) ?_
          refine L_pass (dj := 74) rfl rfl (.inr rfl) ?_
          refine L_pass (dj := 74) rfl rfl (.inr rfl) ?_
          refine L_pass (dj := 78) rfl rfl (.inr rfl) ?_
          refine L_pass (dj := 78) rfl rfl (.inr rfl) ?_
          refine L_pass (dj := 78) rfl rfl (.inr rfl) ?_
          refine L_pass (dj := 78) rfl rfl (.inr rfl) ?_
          refine L_pass (dj := 78) rfl rfl (.inr rfl) ?_
          refine L_pass (dj := 78) rfl rfl (.inr rfl) ?_
          refine L_pass (dj := 74) rfl rfl (.inr rfl) ?_
          refine L_pass (dj := 70) rfl rfl (.inl (by exact congrArg Value.bool hq128)) ?_
          refine L_pu (P_pick false (vb false) (by exact congrArg Value.bool hq128) rfl) ?_
          refine L_pu (P_assign (vb false) rfl) ?_
          refine L_nil ?_
          refine W_ret ?_
          exact ⟨[vb false], ⟨_, rfl, rfl⟩, false, rfl, H, hc125.gr.g0⟩
        ·have H := ite_f H hq126
         refine L_pass (dj := 61) rfl rfl (.inl (by exact congrArg Value.bool hq126)) ?_
         refine L_pass (dj := 61) rfl rfl (.inl (by exact congrArg Value.bool hq126)) ?_
         refine L_pass (dj := 61) rfl rfl (.inl (by exact congrArg Value.bool hq126)) ?_
         refine L_pass (dj := 61) rfl rfl (.inl (by exact congrArg Value.bool hq126)) ?_
         refine L_pass (dj := 61) rfl rfl (.inl (by exact congrArg Value.bool hq126)) ?_
         refine L_pass (dj := 61) rfl rfl (.inl (by exact congrArg Value.bool hq126)) ?_
         refine L_run (dj := 57) rfl rfl (by exact congrArg Value.bool hq41) ?_
         refine L_pu (P_pick false (vb false) (by exact congrArg Value.bool hq126) rfl) ?_
         refine L_pu (P_pick false (vb false) (by exact congrArg Value.bool hq41) rfl) ?_
         refine L_pu (P_move (vb false) rfl) ?_
         refine L_pass (dj := 70) rfl rfl (.inl rfl) ?_
         refine L_pass (dj := 70) rfl rfl (.inl rfl) ?_
         refine L_pass (dj := 70) rfl rfl (.inl rfl) ?_
         refine L_pass (dj := 70) rfl rfl (.inl rfl) ?_
         refine L_pass (dj := 74) rfl rfl (.inr rfl) ?_
         refine L_pass (dj := 74) rfl rfl (.inr rfl) ?_
         refine L_pass (dj := 74) rfl rfl (.inr rfl) ?_
         refine L_pass (dj := 74) rfl rfl (.inr rfl) ?_
         refine L_pass (dj := 78) rfl rfl (.inr rfl) ?_
         refine L_pass (dj := 78) rfl rfl (.inr rfl) ?_
         refine L_pass (dj := 78) rfl rfl (.inr rfl) ?_
         refine L_pass (dj := 78) rfl rfl (.inr rfl) ?_
         refine L_pass (dj := 78) rfl rfl (.inr rfl) ?_
         refine L_pass (dj := 78) rfl rfl (.inr rfl) ?_
         refine L_pass (dj := 74) rfl rfl (.inr rfl) ?_
         refine L_pass (dj := 70) rfl rfl (.inl rfl) ?_
         refine L_pu (P_pick false (vb false) (by exact congrArg Value.bool rfl) rfl) ?_
         refine L_pu (P_assign (vb false) rfl) ?_
         refine L_nil ?_
         refine W_ret ?_
         exact ⟨[vb false], ⟨_, rfl, rfl⟩, false, rfl, H, hc125.gr.g0⟩
      ·have H := ite_f H hq111
       refine L_pass (dj := 46) rfl rfl (.inl (by exact congrArg Value.bool hq111)) ?_
       refine L_pass (dj := 46) rfl rfl (.inl (by exact congrArg Value.bool hq111)) ?_
       refine L_pass (dj := 46) rfl rfl (.inl (by exact congrArg Value.bool hq111)) ?_
       refine L_pass (dj := 46) rfl rfl (.inl (by exact congrArg Value.bool hq111)) ?_
       refine L_pass (dj := 46) rfl rfl (.inl (by exact congrArg Value.bool hq111)) ?_
       refine L_run (dj := 42) rfl rfl rfl ?_
       refine L_pu (P_pick false (vb false) (by exact congrArg Value.bool hq111) rfl) ?_
       refine L_pu (P_pick false (vb false) (by exact congrArg Value.bool rfl) rfl) ?_
       refine L_nil ?_
       refine W_cf (b := false) rfl rfl ?_
       refine W_skip ?_
       refine W_seq ?_
       refine W_reg ?_
       refine L_pu (P_fa fa103_1 ⟨b25, 0, none⟩ ⟨b25, 1, none⟩ rfl rfl) ?_
       refine L_pu (P_ld ag4 cL ⟨b25, 1, none⟩ (vb c_.Had) rfl (h110.cell rfl)) ?_
       refine L_pu (P_not c_.Had rfl) ?_
       refine L_pu (P_move (vb (!c_.Had)) rfl) ?_
       refine L_run (dj := 57) rfl rfl (by exact congrArg Value.bool hq41) ?_
       refine L_pu (P_fa fa103_2 ⟨b25, 0, none⟩ ⟨b25, 2, none⟩ rfl rfl) ?_
       refine L_run (dj := 57) rfl rfl (by exact congrArg Value.bool hq41) ?_
       refine L_pu (P_lda ag71 sz71 cL ⟨b25, 2, none⟩ [vs c_.Was.Id, vi c_.Was.Shape.Kind, .slice A3 n4 c5, .slice A8 n9 c10] rfl rfl (h110.cells (off := 2) rfl)) ?_
       refine L_run (dj := 57) rfl rfl (by exact congrArg Value.bool hq41) ?_
       refine L_call go89 [.agg #[vs c_.Was.Id, vi c_.Was.Shape.Kind, .slice A3 n4 c5, .slice A8 n9 c10]] rfl ((spec_FeatOk.calls w103 hc108.ok c_.Was A3 n4 c5 A8 n9 c10 hs2 (hp6.st hc108.st) (hp11.st hc108.st) _ H).mono ?_)
       rintro _ w129 ⟨r12, rfl, H, g130⟩
       have hc134 := hc108.k0 g130
       refine L_run (dj := 57) rfl rfl (by exact congrArg Value.bool hq41) ?_
       refine L_pu (P_move (vb r12) rfl) ?_
       rcases bool_or r12 with hq135 | hq135
       ·have H := ite_t H hq135
        refine L_run (dj := 61) rfl rfl (by exact congrArg Value.bool hq135) ?_
        refine L_pu (P_fa fa103_2 ⟨b25, 0, none⟩ ⟨b25, 2, none⟩ rfl rfl) ?_
        refine L_run (dj := 61) rfl rfl (by exact congrArg Value.bool hq135) ?_
        refine L_pu (P_fa fa71_0 ⟨b25, 2, none⟩ ⟨b25, 2, none⟩ rfl rfl) ?_
        refine L_run (dj := 61) rfl rfl (by exact congrArg Value.bool hq135) ?_
        have h136 := (h110.st (.new _ g130))
        refine L_pu (P_ld ag9 cL ⟨b25, 2, none⟩ (vs c_.Was.Id) rfl (h136.cell rfl)) ?_
        refine L_run (dj := 61) rfl rfl (by exact congrArg Value.bool hq135) ?_
        refine L_pu (P_fa fa103_0 ⟨b25, 0, none⟩ ⟨b25, 0, none⟩ rfl rfl) ?_
        refine L_run (dj := 61) rfl rfl (by exact congrArg Value.bool hq135) ?_
        refine L_pu (P_ld ag9 cL ⟨b25, 0, none⟩ (vs c_.Id) rfl (h136.cell rfl)) ?_
        refine L_run (dj := 61) rfl rfl (by exact congrArg Value.bool hq135) ?_
        refine L_pu (P_scmp c_.Was.Id c_.Id (c_.Was.Id == c_.Id) rfl rfl rfl) ?_
        refine L_run (dj := 57) rfl rfl (by exact congrArg Value.bool hq41) ?_
        refine L_pu (P_pick true (vb (c_.Was.Id == c_.Id)) (by exact congrArg Value.bool hq135) rfl) ?_
        refine L_pu (P_pick false (vb (c_.Was.Id == c_.Id)) (by exact congrArg Value.bool hq41) rfl) ?_
        refine L_pu (P_move (vb (c_.Was.Id == c_.Id)) rfl) ?_
        rcases bool_or (c_.Was.Id == c_.Id) with hq137 | hq137
        ·have H := ite_t H hq137
         refine L_run (dj := 70) rfl rfl (by exact congrArg Value.bool hq137) ?_
         refine L_pu (P_fa fa103_3 ⟨b25, 0, none⟩ ⟨b25, 6, none⟩ rfl rfl) ?_
         refine L_run (dj := 70) rfl rfl (by exact congrArg Value.bool hq137) ?_
         refine L_pu (P_ld ag4 cL ⟨b25, 6, none⟩ (vb c_.Has) rfl (h136.cell rfl)) ?_
         refine L_run (dj := 70) rfl rfl (by exact congrArg Value.bool hq137) ?_
         refine L_pu (P_not c_.Has rfl) ?_
         refine L_run (dj := 70) rfl rfl (by exact congrArg Value.bool hq137) ?_
         refine L_pu (P_move (vb (!c_.Has)) rfl) ?_
         refine L_run (dj := 74) rfl rfl (by exact congrArg Value.bool hq111) ?_
         refine L_pu (P_fa fa103_4 ⟨b25, 0, none⟩ ⟨b25, 7, none⟩ rfl rfl) ?_
         refine L_run (dj := 74) rfl rfl (by exact congrArg Value.bool hq111) ?_
         refine L_pu (P_lda ag71 sz71 cL ⟨b25, 7, none⟩ [vs c_.Now.Id, vi c_.Now.Shape.Kind, .slice A14 n15 c16, .slice A19 n20 c21] rfl rfl (h136.cells (off := 7) rfl)) ?_
         refine L_run (dj := 74) rfl rfl (by exact congrArg Value.bool hq111) ?_
         refine L_call go89 [.agg #[vs c_.Now.Id, vi c_.Now.Shape.Kind, .slice A14 n15 c16, .slice A19 n20 c21]] rfl ((spec_FeatOk.calls w129 hc134.ok c_.Now A14 n15 c16 A19 n20 c21 hs13 (hp17.st hc134.st) (hp22.st hc134.st) _ H).mono ?_)
         rintro _ w138 ⟨r13, rfl, H, g139⟩
         have hc143 := hc134.k0 g139
         refine L_run (dj := 74) rfl rfl (by exact congrArg Value.bool hq111) ?_
         refine L_pu (P_move (vb r13) rfl) ?_
         rcases bool_or r13 with hq144 | hq144
         ·have H := ite_t H hq144
          refine L_run (dj := 78) rfl rfl (by exact congrArg Value.bool hq144) ?_
          refine L_pu (P_fa fa103_4 ⟨b25, 0, none⟩ ⟨b25, 7, none⟩ rfl rfl) ?_
          refine L_run (dj := 78) rfl rfl (by exact congrArg Value.bool hq144) ?_
          refine L_pu (P_fa fa71_0 ⟨b25, 7, none⟩ ⟨b25, 7, none⟩ rfl rfl) ?_
          refine L_run (dj := 78) rfl rfl (by exact congrArg Value.bool hq144) ?_
          have h145 := (h136.st (.new _ g139))
          refine L_pu (P_ld ag9 cL ⟨b25, 7, none⟩ (vs c_.Now.Id) rfl (h145.cell rfl)) ?_
          refine L_run (dj := 78) rfl rfl (by exact congrArg Value.bool hq144) ?_
          refine L_pu (P_fa fa103_0 ⟨b25, 0, none⟩ ⟨b25, 0, none⟩ rfl rfl) ?_
          refine L_run (dj := 78) rfl rfl (by exact congrArg Value.bool hq144) ?_
          refine L_pu (P_ld ag9 cL ⟨b25, 0, none⟩ (vs c_.Id) rfl (h145.cell rfl)) ?_
          refine L_run (dj := 78) rfl rfl (by exact congrArg Value.bool hq144) ?_
          refine L_pu (P_scmp c_.Now.Id c_.Id (c_.Now.Id == c_.Id) rfl rfl rfl) ?_
          refine L_run (dj := 74) rfl rfl (by exact congrArg Value.bool hq111) ?_
          refine L_pu (P_pick true (vb (c_.Now.Id == c_.Id)) (by exact congrArg Value.bool hq144) rfl) ?_
          refine L_run (dj := 70) rfl rfl (by exact congrArg Value.bool hq137) ?_
          refine L_pu (P_pick false (vb (c_.Now.Id == c_.Id)) (by exact congrArg Value.bool hq111) rfl) ?_
          refine L_pu (P_pick true (vb (c_.Now.Id == c_.Id)) (by exact congrArg Value.bool hq137) rfl) ?_
          refine L_pu (P_assign (vb (c_.Now.Id == c_.Id)) rfl) ?_
          refine L_nil ?_
          refine W_ret ?_
          exact ⟨[vb (c_.Now.Id == c_.Id)], ⟨_, rfl, rfl⟩, c_.Now.Id == c_.Id, rfl, H, hc143.gr.g0⟩
         ·have H := ite_f H hq144
          refine L_pass (dj := 78) rfl rfl (.inl (by exact congrArg Value.bool hq144)) ?_
          refine L_pass (dj := 78) rfl rfl (.inl (by exact congrArg Value.bool hq144)) ?_
          refine L_pass (dj := 78) rfl rfl (.inl (by exact congrArg Value.bool hq144)) ?_
          refine L_pass (dj := 78) rfl rfl (.inl (by exact congrArg Value.bool hq144)) ?_
          refine L_pass (dj := 78) rfl rfl (.inl (by exact congrArg Value.bool hq144)) ?_
          refine L_pass (dj := 78) rfl rfl (.inl (by exact congrArg Value.bool hq144)) ?_
          refine L_run (dj := 74) rfl rfl (by exact congrArg Value.bool hq111) ?_
          refine L_pu (P_pick false (vb false) (by exact congrArg Value.bool hq144) rfl) ?_
          refine L_run (dj := 70) rfl rfl (by exact congrArg Value.bool hq137) ?_
          refine L_pu (P_pick false (vb false) (by exact congrArg Value.bool hq111) rfl) ?_
          refine L_pu (P_pick true (vb false) (by exact congrArg Value.bool hq137) rfl) ?_
          refine L_pu (P_assign (vb false) rfl) ?_
          refine L_nil ?_
          refine W_ret ?_
          exact ⟨[vb false], ⟨_, rfl, rfl⟩, false, rfl, H, hc143.gr.g0⟩
        ·have H := ite_f H hq137
         refine L_pass (dj := 70) rfl rfl (.inl (by exact congrArg Value.bool hq137)) ?_
         refine L_pass (dj := 70) rfl rfl (.inl (by exact congrArg Value.bool hq137)) ?_
         refine L_pass (dj := 70) rfl rfl (.inl (by exact congrArg Value.bool hq137)) ?_
         refine L_pass (dj := 70) rfl rfl (.inl (by exact congrArg Value.bool hq137)) ?_
         refine L_pass (dj := 74) rfl rfl (.inr rfl) ?_
         refine L_pass (dj := 74) rfl rfl (.inr rfl) ?_
         refine L_pass (dj := 74) rfl rfl (.inr rfl) ?_
         refine L_pass (dj := 74) rfl rfl (.inr rfl) ?_
         refine L_pass (dj := 78) rfl rfl (.inr rfl) ?_
         refine L_pass (dj := 78) rfl rfl (.inr rfl) ?_
         refine L_pass (dj := 78) rfl rfl (.inr rfl) ?_
         refine L_pass (dj := 78) rfl rfl (.inr rfl) ?_
         refine L_pass (dj := 78) rfl rfl (.inr rfl) ?_
         refine L_pass (dj := 78) rfl rfl (.inr rfl) ?_
         refine L_pass (dj := 74) rfl rfl (.inr rfl) ?_
         refine L_pass (dj := 70) rfl rfl (.inl (by exact congrArg Value.bool hq137)) ?_
         refine L_pu (P_pick false (vb false) (by exact congrArg Value.bool hq137) rfl) ?_
         refine L_pu (P_assign (vb false) rfl) ?_
         refine L_nil ?_
         refine W_ret ?_
         exact ⟨[vb false], ⟨_, rfl, rfl⟩, false, rfl, H, hc134.gr.g0⟩
       ·have H := ite_f H hq135
        refine L_pass (dj := 61) rfl rfl (.inl (by exact congrArg Value.bool hq135)) ?_
        refine L_pass (dj := 61) rfl rfl (.inl (by exact congrArg Value.bool hq135)) ?_
        refine L_pass (dj := 61) rfl rfl (.inl (by exact congrArg Value.bool hq135)) ?_
        refine L_pass (dj := 61) rfl rfl (.inl (by exact congrArg Value.bool hq135)) ?_
        refine L_pass (dj := 61) rfl rfl (.inl (by exact congrArg Value.bool hq135)) ?_
        refine L_pass (dj := 61) rfl rfl (.inl (by exact congrArg Value.bool hq135)) ?_
        refine L_run (dj := 57) rfl rfl (by exact congrArg Value.bool hq41) ?_
        refine L_pu (P_pick false (vb false) (by exact congrArg Value.bool hq135) rfl) ?_
        refine L_pu (P_pick false (vb false) (by exact congrArg Value.bool hq41) rfl) ?_
        refine L_pu (P_move (vb false) rfl) ?_
        refine L_pass (dj := 70) rfl rfl (.inl rfl) ?_
        refine L_pass (dj := 70) rfl rfl (.inl rfl) ?_
        refine L_pass (dj := 70) rfl rfl (.inl rfl) ?_
        refine L_pass (dj := 70) rfl rfl (.inl rfl) ?_
        refine L_pass (dj := 74) rfl rfl (.inr rfl) ?_
        refine L_pass (dj := 74) rfl rfl (.inr rfl) ?_
        refine L_pass (dj := 74) rfl rfl (.inr rfl) ?_
        refine L_pass (dj := 74) rfl rfl (.inr rfl) ?_
        refine L_pass (dj := 78) rfl rfl (.inr rfl) ?_
        refine L_pass (dj := 78) rfl rfl (.inr rfl) ?_
        refine L_pass (dj := 78) rfl rfl (.inr rfl) ?_
        refine L_pass (dj := 78) rfl rfl (.inr rfl) ?_
        refine L_pass (dj := 78) rfl rfl (.inr rfl) ?_
        refine L_pass (dj := 78) rfl rfl (.inr rfl) ?_
        refine L_pass (dj := 74) rfl rfl (.inr rfl) ?_
        refine L_pass (dj := 70) rfl rfl (.inl rfl) ?_
        refine L_pu (P_pick false (vb false) (by exact congrArg Value.bool rfl) rfl) ?_
        refine L_pu (P_assign (vb false) rfl) ?_
        refine L_nil ?_
        refine W_ret ?_
        exact ⟨[vb false], ⟨_, rfl, rfl⟩, false, rfl, H, hc134.gr.g0⟩
    ·have H := ite_f H hq102
     refine L_pass (dj := 24) rfl rfl (.inl (by exact congrArg Value.bool hq102)) ?_
     refine L_pass (dj := 24) rfl rfl (.inl (by exact congrArg Value.bool hq102)) ?_
     refine L_pass (dj := 24) rfl rfl (.inl (by exact congrArg Value.bool hq102)) ?_
     refine L_pass (dj := 24) rfl rfl (.inl (by exact congrArg Value.bool hq102)) ?_
     refine L_pass (dj := 24) rfl rfl (.inl (by exact congrArg Value.bool hq102)) ?_
     refine L_run (dj := 17) rfl rfl rfl ?_
     refine L_pu (P_pick false (vb false) (by exact congrArg Value.bool hq102) rfl) ?_
     refine L_pu (P_pick false (vb false) (by exact congrArg Value.bool rfl) rfl) ?_
     refine L_nil ?_
     refine W_cf (b := false) rfl rfl ?_
     refine W_skip ?_
     refine W_seq ?_
     refine W_seq ?_
     refine W_reg ?_
     refine L_pu (P_fa fa103_1 ⟨b25, 0, none⟩ ⟨b25, 1, none⟩ rfl rfl) ?_
     refine L_pu (P_ld ag4 cL ⟨b25, 1, none⟩ (vb c_.Had) rfl (h40.cell rfl)) ?_
     refine L_pu (P_not c_.Had rfl) ?_
     refine L_pu (P_move (vb (!c_.Had)) rfl) ?_
     refine L_pass (dj := 35) rfl rfl (.inl (by exact congrArg Value.bool hq41)) ?_
     refine L_pass (dj := 35) rfl rfl (.inl (by exact congrArg Value.bool hq41)) ?_
     refine L_pass (dj := 35) rfl rfl (.inl (by exact congrArg Value.bool hq41)) ?_
     refine L_pass (dj := 35) rfl rfl (.inl (by exact congrArg Value.bool hq41)) ?_
     refine L_pass (dj := 35) rfl rfl (.inl (by exact congrArg Value.bool hq41)) ?_
     refine L_pu (P_pick false (vb false) (by exact congrArg Value.bool hq41) rfl) ?_
     refine L_pu (P_move (vb false) rfl) ?_
     refine L_run (dj := 42) rfl rfl rfl ?_
     refine L_pu (P_fa fa103_3 ⟨b25, 0, none⟩ ⟨b25, 6, none⟩ rfl rfl) ?_
     refine L_run (dj := 42) rfl rfl rfl ?_
     refine L_pu (P_ld ag4 cL ⟨b25, 6, none⟩ (vb c_.Has) rfl (h40.cell rfl)) ?_
     refine L_run (dj := 42) rfl rfl rfl ?_
     refine L_pu (P_not c_.Has rfl) ?_
     refine L_run (dj := 42) rfl rfl rfl ?_
     refine L_pu (P_move (vb (!c_.Has)) rfl) ?_
     rcases bool_or (!c_.Has) with hq146 | hq146
     ·have H := ite_t H hq146
      refine L_run (dj := 46) rfl rfl (by exact congrArg Value.bool hq146) ?_
      refine L_pu (P_fa fa103_4 ⟨b25, 0, none⟩ ⟨b25, 7, none⟩ rfl rfl) ?_
      refine L_run (dj := 46) rfl rfl (by exact congrArg Value.bool hq146) ?_
      refine L_pu (P_lda ag71 sz71 cL ⟨b25, 7, none⟩ [vs c_.Now.Id, vi c_.Now.Shape.Kind, .slice A14 n15 c16, .slice A19 n20 c21] rfl rfl (h40.cells (off := 7) rfl)) ?_
      refine L_run (dj := 46) rfl rfl (by exact congrArg Value.bool hq146) ?_
      refine L_pu (P_build (.agg #[vs ([] : Str), vi 0, .slice none 0 0, .slice none 0 0]) (fun _ => by kernel_rfl)) ?_
      refine L_run (dj := 46) rfl rfl (by exact congrArg Value.bool hq146) ?_
      refine L_call go79 [.agg #[vs c_.Now.Id, vi c_.Now.Shape.Kind, .slice A14 n15 c16, .slice A19 n20 c21], .agg #[vs ([] : Str), vi 0, .slice none 0 0, .slice none 0 0]] rfl ((spec_FeatSame.calls w33 hc38.ok c_.Now A14 n15 c16 A19 n20 c21 hs13 (hp17.st hc38.st) (hp22.st hc38.st) (⟨([] : Str), (⟨0, []⟩ : Shape), []⟩ : Feat) none 0 0 none 0 0 (by decide) (Sl.nil _ _ _ none 0 (by decide)) (Sl.nil _ _ _ none 0 (by decide)) _ H).mono ?_)
      rintro _ w147 ⟨r14, rfl, H, g148⟩
      have hc152 := hc38.k0 g148
      refine L_run (dj := 46) rfl rfl (by exact congrArg Value.bool hq146) ?_
      refine L_pu (P_not r14 rfl) ?_
      refine L_run (dj := 42) rfl rfl rfl ?_
      refine L_pu (P_pick true (vb (!r14)) (by exact congrArg Value.bool hq146) rfl) ?_
      refine L_pu (P_pick false (vb (!r14)) (by exact congrArg Value.bool rfl) rfl) ?_
      refine L_nil ?_
      refine W_cond (!r14) rfl (fun hq153 => ?_) (fun hq153 => ?_)
      ·have H := ite_t H hq153
       refine W_seq ?_
       refine W_reg ?_
       refine L_pu (P_assign (vb false) rfl) ?_
       refine L_nil ?_
       refine W_ret ?_
       exact ⟨[vb false], ⟨_, rfl, rfl⟩, false, rfl, H, hc152.gr.g0⟩
      ·have H := ite_f H hq153
       refine W_skip ?_
       refine W_seq ?_
       refine W_reg ?_
       refine L_pu (P_fa fa103_1 ⟨b25, 0, none⟩ ⟨b25, 1, none⟩ rfl rfl) ?_
       have h154 := (h40.st (.new _ g148))
       refine L_pu (P_ld ag4 cL ⟨b25, 1, none⟩ (vb c_.Had) rfl (h154.cell rfl)) ?_
       refine L_pu (P_not c_.Had rfl) ?_
       refine L_pu (P_move (vb (!c_.Had)) rfl) ?_
       refine L_run (dj := 57) rfl rfl (by exact congrArg Value.bool hq41) ?_
       refine L_pu (P_fa fa103_2 ⟨b25, 0, none⟩ ⟨b25, 2, none⟩ rfl rfl) ?_
       refine L_run (dj := 57) rfl rfl (by exact congrArg Value.bool hq41) ?_
       refine L_pu (P_lda ag71 sz71 cL ⟨b25, 2, none⟩ [vs c_.Was.Id, vi c_.Was.Shape.Kind, .slice A3 n4 c5, .slice A8 n9 c10] rfl rfl (h154.cells (off := 2) rfl)) ?_
       refine L_run (dj := 57) rfl rfl (by exact congrArg Value.bool hq41) ?_
       refine L_call go89 [.agg #[vs c_.Was.Id, vi c_.Was.Shape.Kind, .slice A3 n4 c5, .slice A8 n9 c10]] rfl ((spec_FeatOk.calls w147 hc152.ok c_.Was A3 n4 c5 A8 n9 c10 hs2 (hp6.st hc152.st) (hp11.st hc152.st) _ H).mono ?_)
       rintro _ w155 ⟨r15, rfl, H, g156⟩
       have hc160 := hc152.k0 g156
       refine L_run (dj := 57) rfl rfl (by exact congrArg Value.bool hq41) ?_
       refine L_pu (P_move (vb r15) rfl) ?_
       rcases bool_or r15 with hq161 | hq161
       ·have H := ite_t H hq161
        refine L_run (dj := 61) rfl rfl (by exact congrArg Value.bool hq161) ?_
        refine L_pu (P_fa fa103_2 ⟨b25, 0, none⟩ ⟨b25, 2, none⟩ rfl rfl) ?_
        refine L_run (dj := 61) rfl rfl (by exact congrArg Value.bool hq161) ?_
        refine L_pu (P_fa fa71_0 ⟨b25, 2, none⟩ ⟨b25, 2, none⟩ rfl rfl) ?_
        refine L_run (dj := 61) rfl rfl (by exact congrArg Value.bool hq161) ?_
        have h162 := (h154.st (.new _ g156))
        refine L_pu (P_ld ag9 cL ⟨b25, 2, none⟩ (vs c_.Was.Id) rfl (h162.cell rfl)) ?_
        refine L_run (dj := 61) rfl rfl (by exact congrArg Value.bool hq161) ?_
        refine L_pu (P_fa fa103_0 ⟨b25, 0, none⟩ ⟨b25, 0, none⟩ rfl rfl) ?_
        refine L_run (dj := 61) rfl rfl (by exact congrArg Value.bool hq161) ?_
        refine L_pu (P_ld ag9 cL ⟨b25, 0, none⟩ (vs c_.Id) rfl (h162.cell rfl)) ?_
        refine L_run (dj := 61) rfl rfl (by exact congrArg Value.bool hq161) ?_
        refine L_pu (P_scmp c_.Was.Id c_.Id (c_.Was.Id == c_.Id) rfl rfl rfl) ?_
        refine L_run (dj := 57) rfl rfl (by exact congrArg Value.bool hq41) ?_
        refine L_pu (P_pick true (vb (c_.Was.Id == c_.Id)) (by exact congrArg Value.bool hq161) rfl) ?_
        refine L_pu (P_pick false (vb (c_.Was.Id == c_.Id)) (by exact congrArg Value.bool hq41) rfl) ?_
        refine L_pu (P_move (vb (c_.Was.Id == c_.Id)) rfl) ?_
        rcases bool_or (c_.Was.Id == c_.Id) with hq163 | hq163
        ·have H := ite_t H hq163
         refine L_run (dj := 70) rfl rfl (by exact congrArg Value.bool hq163) ?_
         refine L_pu (P_fa fa103_3 ⟨b25, 0, none⟩ ⟨b25, 6, none⟩ rfl rfl) ?_
         refine L_run (dj := 70) rfl rfl (by exact congrArg Value.bool hq163) ?_
         refine L_pu (P_ld ag4 cL ⟨b25, 6, none⟩ (vb c_.Has) rfl (h162.cell rfl)) ?_
         refine L_run (dj := 70) rfl rfl (by exact congrArg Value.bool hq163) ?_
         refine L_pu (P_not c_.Has rfl) ?_
         refine L_run (dj := 70) rfl rfl (by exact congrArg Value.bool hq163) ?_
         refine L_pu (P_move (vb (!c_.Has)) rfl) ?_
         refine L_pass (dj := 74) rfl rfl (.inl (by exact congrArg Value.bool hq146)) ?_
         refine L_pass (dj := 74) rfl rfl (.inl (by exact congrArg Value.bool hq146)) ?_
         refine L_pass (dj := 74) rfl rfl (.inl (by exact congrArg Value.bool hq146)) ?_
         refine L_pass (dj := 74) rfl rfl (.inl (by exact congrArg Value.bool hq146)) ?_
         refine L_pass (dj := 78) rfl rfl (.inr rfl) ?_
         refine L_pass (dj := 78) rfl rfl (.inr rfl) ?_
         refine L_pass (dj := 78) rfl rfl (.inr rfl) ?_
         refine L_pass (dj := 78) rfl rfl (.inr rfl) ?_
         refine L_pass (dj := 78) rfl rfl (.inr rfl) ?_
         refine L_pass (dj := 78) rfl rfl (.inr rfl) ?_
         refine L_pass (dj := 74) rfl rfl (.inl (by exact congrArg Value.bool hq146)) ?_
         refine L_run (dj := 70) rfl rfl (by exact congrArg Value.bool hq163) ?_
         refine L_pu (P_pick true (vb true) (by exact congrArg Value.bool hq146) rfl) ?_
         refine L_pu (P_pick true (vb true) (by exact congrArg Value.bool hq163) rfl) ?_
         refine L_pu (P_assign (vb true) rfl) ?_
         refine L_nil ?_
         refine W_ret ?_
         exact ⟨[vb true], ⟨_, rfl, rfl⟩, true, rfl, H, hc160.gr.g0⟩
        ·have H := ite_f H hq163
         refine L_pass (dj := 70) rfl rfl (.inl (by exact congrArg Value.bool hq163)) ?_
         refine L_pass (dj := 70) rfl rfl (.inl (by exact congrArg Value.bool hq163)) ?_
         refine L_pass (dj := 70) rfl rfl (.inl (by exact congrArg Value.bool hq163)) ?_
         refine L_pass (dj := 70) rfl rfl (.inl (by exact congrArg Value.bool hq163)) ?_
         refine L_pass (dj := 74) rfl rfl (.inr rfl) ?_
         refine L_pass (dj := 74) rfl rfl (.inr rfl) ?_
         refine L_pass (dj := 74) rfl rfl (.inr rfl) ?_
         refine L_pass (dj := 74) rfl rfl (.inr rfl) ?_
         refine L_pass (dj := 78) rfl rfl (.inr rfl) ?_
         refine L_pass (dj := 78) rfl rfl (.inr rfl) ?_
         refine L_pass (dj := 78) rfl rfl (.inr rfl) ?_
         refine L_pass (dj := 78) rfl rfl (.inr rfl) ?_
         refine L_pass (dj := 78) rfl rfl (.inr rfl) ?_
         refine L_pass (dj := 78) rfl rfl (.inr rfl) ?_
         refine L_pass (dj := 74) rfl rfl (.inr rfl) ?_
         refine L_pass (dj := 70) rfl rfl (.inl (by exact congrArg Value.bool hq163)) ?_
         refine L_pu (P_pick false (vb false) (by exact congrArg Value.bool hq163) rfl) ?_
         refine L_pu (P_assign (vb false) rfl) ?_
         refine L_nil ?_
         refine W_ret ?_
         exact ⟨[vb false], ⟨_, rfl, rfl⟩, false, rfl, H, hc160.gr.g0⟩
       ·have H := ite_f H hq161
        refine L_pass (dj := 61) rfl rfl (.inl (by exact congrArg Value.bool hq161)) ?_
        refine L_pass (dj := 61) rfl rfl (.inl (by exact congrArg Value.bool hq161)) ?_
        refine L_pass (dj := 61) rfl rfl (.inl (by exact congrArg Value.bool hq161)) ?_
        refine L_pass (dj := 61) rfl rfl (.inl (by exact congrArg Value.bool hq161)) ?_
        refine L_pass (dj := 61) rfl rfl (.inl (by exact congrArg Value.bool hq161)) ?_
        refine L_pass (dj := 61) rfl rfl (.inl (by exact congrArg Value.bool hq161)) ?_
        refine L_run (dj := 57) rfl rfl (by exact congrArg Value.bool hq41) ?_
        refine L_pu (P_pick false (vb false) (by exact congrArg Value.bool hq161) rfl) ?_
        refine L_pu (P_pick false (vb false) (by exact congrArg Value.bool hq41) rfl) ?_
        refine L_pu (P_move (vb false) rfl) ?_
        refine L_pass (dj := 70) rfl rfl (.inl rfl) ?_
        refine L_pass (dj := 70) rfl rfl (.inl rfl) ?_
        refine L_pass (dj := 70) rfl rfl (.inl rfl) ?_
        refine L_pass (dj := 70) rfl rfl (.inl rfl) ?_
        refine L_pass (dj := 74) rfl rfl (.inr rfl) ?_
        refine L_pass (dj := 74) rfl rfl (.inr rfl) ?_
        refine L_pass (dj := 74) rfl rfl (.inr rfl) ?_
        refine L_pass (dj := 74) rfl rfl (.inr rfl) ?_
        refine L_pass (dj := 78) rfl rfl (.inr rfl) ?_
        refine L_pass (dj := 78) rfl rfl (.inr rfl) ?_
        refine L_pass (dj := 78) rfl rfl (.inr rfl) ?_
        refine L_pass (dj := 78) rfl rfl (.inr rfl) ?_
        refine L_pass (dj := 78) rfl rfl (.inr rfl) ?_
        refine L_pass (dj := 78) rfl rfl (.inr rfl) ?_
        refine L_pass (dj := 74) rfl rfl (.inr rfl) ?_
        refine L_pass (dj := 70) rfl rfl (.inl rfl) ?_
        refine L_pu (P_pick false (vb false) (by exact congrArg Value.bool rfl) rfl) ?_
        refine L_pu (P_assign (vb false) rfl) ?_
        refine L_nil ?_
        refine W_ret ?_
        exact ⟨[vb false], ⟨_, rfl, rfl⟩, false, rfl, H, hc160.gr.g0⟩
     ·have H := ite_f H hq146
      refine L_pass (dj := 46) rfl rfl (.inl (by exact congrArg Value.bool hq146)) ?_
      refine L_pass (dj := 46) rfl rfl (.inl (by exact congrArg Value.bool hq146)) ?_
      refine L_pass (dj := 46) rfl rfl (.inl (by exact congrArg Value.bool hq146)) ?_
      refine L_pass (dj := 46) rfl rfl (.inl (by exact congrArg Value.bool hq146)) ?_
      refine L_pass (dj := 46) rfl rfl (.inl (by exact congrArg Value.bool hq146)) ?_
      refine L_run (dj := 42) rfl rfl rfl ?_
      refine L_pu (P_pick false (vb false) (by exact congrArg Value.bool hq146) rfl) ?_
      refine L_pu (P_pick false (vb false) (by exact congrArg Value.bool rfl) rfl) ?_
      refine L_nil ?_
      refine W_cf (b := false) rfl rfl ?_
      refine W_skip ?_
      refine W_seq ?_
      refine W_reg ?_
      refine L_pu (P_fa fa103_1 ⟨b25, 0, none⟩ ⟨b25, 1, none⟩ rfl rfl) ?_
      refine L_pu (P_ld ag4 cL ⟨b25, 1, none⟩ (vb c_.Had) rfl (h40.cell rfl)) ?_
      refine L_pu (P_not c_.Had rfl) ?_
      refine L_pu (P_move (vb (!c_.Had)) rfl) ?_
      refine L_run (dj := 57) rfl rfl (by exact congrArg Value.bool hq41) ?_
      refine L_pu (P_fa fa103_2 ⟨b25, 0, none⟩ ⟨b25, 2, none⟩ rfl rfl) ?_
      refine L_run (dj := 57) rfl rfl (by exact congrArg Value.bool hq41) ?_
      refine L_pu (P_lda ag71 sz71 cL ⟨b25, 2, none⟩ [vs c_.Was.Id, vi c_.Was.Shape.Kind, .slice A3 n4 c5, .slice A8 n9 c10] rfl rfl (h40.cells (off := 2) rfl)) ?_
      refine L_run (dj := 57) rfl rfl (by exact congrArg Value.bool hq41) ?_
      refine L_call go89 [.agg #[vs c_.Was.Id, vi c_.Was.Shape.Kind, .slice A3 n4 c5, .slice A8 n9 c10]] rfl ((spec_FeatOk.calls w33 hc38.ok c_.Was A3 n4 c5 A8 n9 c10 hs2 (hp6.st hc38.st) (hp11.st hc38.st) _ H).mono ?_)
      rintro _ w164 ⟨r16, rfl, H, g165⟩
      have hc169 := hc38.k0 g165
      refine L_run (dj := 57) rfl rfl (by exact congrArg Value.bool hq41) ?_
      refine L_pu (P_move (vb r16) rfl) ?_
      rcases bool_or r16 with hq170 | hq170
      ·have H := ite_t H hq170
       refine L_run (dj := 61) rfl rfl (by exact congrArg Value.bool hq170) ?_
       refine L_pu (P_fa fa103_2 ⟨b25, 0, none⟩ ⟨b25, 2, none⟩ rfl rfl) ?_
       refine L_run (dj := 61) rfl rfl (by exact congrArg Value.bool hq170) ?_
       refine L_pu (P_fa fa71_0 ⟨b25, 2, none⟩ ⟨b25, 2, none⟩ rfl rfl) ?_
       refine L_run (dj := 61) rfl rfl (by exact congrArg Value.bool hq170) ?_
       have h171 := (h40.st (.new _ g165))
       refine L_pu (P_ld ag9 cL ⟨b25, 2, none⟩ (vs c_.Was.Id) rfl (h171.cell rfl)) ?_
       refine L_run (dj := 61) rfl rfl (by exact congrArg Value.bool hq170) ?_
       refine L_pu (P_fa fa103_0 ⟨b25, 0, none⟩ ⟨b25, 0, none⟩ rfl rfl) ?_
       refine L_run (dj := 61) rfl rfl (by exact congrArg Value.bool hq170) ?_
       refine L_pu (P_ld ag9 cL ⟨b25, 0, none⟩ (vs c_.Id) rfl (h171.cell rfl)) ?_
       refine L_run (dj := 61) rfl rfl (by exact congrArg Value.bool hq170) ?_
       refine L_pu (P_scmp c_.Was.Id c_.Id (c_.Was.Id == c_.Id) rfl rfl rfl) ?_
       refine L_run (dj := 57) rfl rfl (by exact congrArg Value.bool hq41) ?_
       refine L_pu (P_pick true (vb (c_.Was.Id == c_.Id)) (by exact congrArg Value.bool hq170) rfl) ?_
       refine L_pu (P_pick false (vb (c_.Was.Id == c_.Id)) (by exact congrArg Value.bool hq41) rfl) ?_
       refine L_pu (P_move (vb (c_.Was.Id == c_.Id)) rfl) ?_
       rcases bool_or (c_.Was.Id == c_.Id) with hq172 | hq172
       ·have H := ite_t H hq172
        refine L_run (dj := 70) rfl rfl (by exact congrArg Value.bool hq172) ?_
        refine L_pu (P_fa fa103_3 ⟨b25, 0, none⟩ ⟨b25, 6, none⟩ rfl rfl) ?_
        refine L_run (dj := 70) rfl rfl (by exact congrArg Value.bool hq172) ?_
        refine L_pu (P_ld ag4 cL ⟨b25, 6, none⟩ (vb c_.Has) rfl (h171.cell rfl)) ?_
        refine L_run (dj := 70) rfl rfl (by exact congrArg Value.bool hq172) ?_
        refine L_pu (P_not c_.Has rfl) ?_
        refine L_run (dj := 70) rfl rfl (by exact congrArg Value.bool hq172) ?_
        refine L_pu (P_move (vb (!c_.Has)) rfl) ?_
        refine L_run (dj := 74) rfl rfl (by exact congrArg Value.bool hq146) ?_
        refine L_pu (P_fa fa103_4 ⟨b25, 0, none⟩ ⟨b25, 7, none⟩ rfl rfl) ?_
        refine L_run (dj := 74) rfl rfl (by exact congrArg Value.bool hq146) ?_
        refine L_pu (P_lda ag71 sz71 cL ⟨b25, 7, none⟩ [vs c_.Now.Id, vi c_.Now.Shape.Kind, .slice A14 n15 c16, .slice A19 n20 c21] rfl rfl (h171.cells (off := 7) rfl)) ?_
        refine L_run (dj := 74) rfl rfl (by exact congrArg Value.bool hq146) ?_
        refine L_call go89 [.agg #[vs c_.Now.Id, vi c_.Now.Shape.Kind, .slice A14 n15 c16, .slice A19 n20 c21]] rfl ((spec_FeatOk.calls w164 hc169.ok c_.Now A14 n15 c16 A19 n20 c21 hs13 (hp17.st hc169.st) (hp22.st hc169.st) _ H).mono ?_)
        rintro _ w173 ⟨r17, rfl, H, g174⟩
        have hc178 := hc169.k0 g174
        refine L_run (dj := 74) rfl rfl (by exact congrArg Value.bool hq146) ?_
        refine L_pu (P_move (vb r17) rfl) ?_
        rcases bool_or r17 with hq179 | hq179
        ·have H := ite_t H hq179
         refine L_run (dj := 78) rfl rfl (by exact congrArg Value.bool hq179) ?_
         refine L_pu (P_fa fa103_4 ⟨b25, 0, none⟩ ⟨b25, 7, none⟩ rfl rfl) ?_
         refine L_run (dj := 78) rfl rfl (by exact congrArg Value.bool hq179) ?_
         refine L_pu (P_fa fa71_0 ⟨b25, 7, none⟩ ⟨b25, 7, none⟩ rfl rfl) ?_
         refine L_run (dj := 78) rfl rfl (by exact congrArg Value.bool hq179) ?_
         have h180 := (h171.st (.new _ g174))
         refine L_pu (P_ld ag9 cL ⟨b25, 7, none⟩ (vs c_.Now.Id) rfl (h180.cell rfl)) ?_
         refine L_run (dj := 78) rfl rfl (by exact congrArg Value.bool hq179) ?_
         refine L_pu (P_fa fa103_0 ⟨b25, 0, none⟩ ⟨b25, 0, none⟩ rfl rfl) ?_
         refine L_run (dj := 78) rfl rfl (by exact congrArg Value.bool hq179) ?_
         refine L_pu (P_ld ag9 cL ⟨b25, 0, none⟩ (vs c_.Id) rfl (h180.cell rfl)) ?_
         refine L_run (dj := 78) rfl rfl (by exact congrArg Value.bool hq179) ?_
         refine L_pu (P_scmp c_.Now.Id c_.Id (c_.Now.Id == c_.Id) rfl rfl rfl) ?_
         refine L_run (dj := 74) rfl rfl (by exact congrArg Value.bool hq146) ?_
         refine L_pu (P_pick true (vb (c_.Now.Id == c_.Id)) (by exact congrArg Value.bool hq179) rfl) ?_
         refine L_run (dj := 70) rfl rfl (by exact congrArg Value.bool hq172) ?_
         refine L_pu (P_pick false (vb (c_.Now.Id == c_.Id)) (by exact congrArg Value.bool hq146) rfl) ?_
         refine L_pu (P_pick true (vb (c_.Now.Id == c_.Id)) (by exact congrArg Value.bool hq172) rfl) ?_
         refine L_pu (P_assign (vb (c_.Now.Id == c_.Id)) rfl) ?_
         refine L_nil ?_
         refine W_ret ?_
         exact ⟨[vb (c_.Now.Id == c_.Id)], ⟨_, rfl, rfl⟩, c_.Now.Id == c_.Id, rfl, H, hc178.gr.g0⟩
        ·have H := ite_f H hq179
         refine L_pass (dj := 78) rfl rfl (.inl (by exact congrArg Value.bool hq179)) ?_
         refine L_pass (dj := 78) rfl rfl (.inl (by exact congrArg Value.bool hq179)) ?_
         refine L_pass (dj := 78) rfl rfl (.inl (by exact congrArg Value.bool hq179)) ?_
         refine L_pass (dj := 78) rfl rfl (.inl (by exact congrArg Value.bool hq179)) ?_
         refine L_pass (dj := 78) rfl rfl (.inl (by exact congrArg Value.bool hq179)) ?_
         refine L_pass (dj := 78) rfl rfl (.inl (by exact congrArg Value.bool hq179)) ?_
         refine L_run (dj := 74) rfl rfl (by exact congrArg Value.bool hq146) ?_
         refine L_pu (P_pick false (vb false) (by exact congrArg Value.bool hq179) rfl) ?_
         refine L_run (dj := 70) rfl rfl (by exact congrArg Value.bool hq172) ?_
         refine L_pu (P_pick false (vb false) (by exact congrArg Value.bool hq146) rfl) ?_
         refine L_pu (P_pick true (vb false) (by exact congrArg Value.bool hq172) rfl) ?_
         refine L_pu (P_assign (vb false) rfl) ?_
         refine L_nil ?_
         refine W_ret ?_
         exact ⟨[vb false], ⟨_, rfl, rfl⟩, false, rfl, H, hc178.gr.g0⟩
       ·have H := ite_f H hq172
        refine L_pass (dj := 70) rfl rfl (.inl (by exact congrArg Value.bool hq172)) ?_
        refine L_pass (dj := 70) rfl rfl (.inl (by exact congrArg Value.bool hq172)) ?_
        refine L_pass (dj := 70) rfl rfl (.inl (by exact congrArg Value.bool hq172)) ?_
        refine L_pass (dj := 70) rfl rfl (.inl (by exact congrArg Value.bool hq172)) ?_
        refine L_pass (dj := 74) rfl rfl (.inr rfl) ?_
        refine L_pass (dj := 74) rfl rfl (.inr rfl) ?_
        refine L_pass (dj := 74) rfl rfl (.inr rfl) ?_
        refine L_pass (dj := 74) rfl rfl (.inr rfl) ?_
        refine L_pass (dj := 78) rfl rfl (.inr rfl) ?_
        refine L_pass (dj := 78) rfl rfl (.inr rfl) ?_
        refine L_pass (dj := 78) rfl rfl (.inr rfl) ?_
        refine L_pass (dj := 78) rfl rfl (.inr rfl) ?_
        refine L_pass (dj := 78) rfl rfl (.inr rfl) ?_
        refine L_pass (dj := 78) rfl rfl (.inr rfl) ?_
        refine L_pass (dj := 74) rfl rfl (.inr rfl) ?_
        refine L_pass (dj := 70) rfl rfl (.inl (by exact congrArg Value.bool hq172)) ?_
        refine L_pu (P_pick false (vb false) (by exact congrArg Value.bool hq172) rfl) ?_
        refine L_pu (P_assign (vb false) rfl) ?_
        refine L_nil ?_
        refine W_ret ?_
        exact ⟨[vb false], ⟨_, rfl, rfl⟩, false, rfl, H, hc169.gr.g0⟩
      ·have H := ite_f H hq170
       refine L_pass (dj := 61) rfl rfl (.inl (by exact congrArg Value.bool hq170)) ?_
       refine L_pass (dj := 61) rfl rfl (.inl (by exact congrArg Value.bool hq170)) ?_
       refine L_pass (dj := 61) rfl rfl (.inl (by exact congrArg Value.bool hq170)) ?_
       refine L_pass (dj := 61) rfl rfl (.inl (by exact congrArg Value.bool hq170)) ?_
       refine L_pass (dj := 61) rfl rfl (.inl (by exact congrArg Value.bool hq170)) ?_
       refine L_pass (dj := 61) rfl rfl (.inl (by exact congrArg Value.bool hq170)) ?_
       refine L_run (dj := 57) rfl rfl (by exact congrArg Value.bool hq41) ?_
       refine L_pu (P_pick false (vb false) (by exact congrArg Value.bool hq170) rfl) ?_
       refine L_pu (P_pick false (vb false) (by exact congrArg Value.bool hq41) rfl) ?_
       refine L_pu (P_move (vb false) rfl) ?_
       refine L_pass (dj := 70) rfl rfl (.inl rfl) ?_
       refine L_pass (dj := 70) rfl rfl (.inl rfl) ?_
       refine L_pass (dj := 70) rfl rfl (.inl rfl) ?_
       refine L_pass (dj := 70) rfl rfl (.inl rfl) ?_
       refine L_pass (dj := 74) rfl rfl (.inr rfl) ?_
       refine L_pass (dj := 74) rfl rfl (.inr rfl) ?_
       refine L_pass (dj := 74) rfl rfl (.inr rfl) ?_
       refine L_pass (dj := 74) rfl rfl (.inr rfl) ?_
       refine L_pass (dj := 78) rfl rfl (.inr rfl) ?_
       refine L_pass (dj := 78) rfl rfl (.inr rfl) ?_
       refine L_pass (dj := 78) rfl rfl (.inr rfl) ?_
       refine L_pass (dj := 78) rfl rfl (.inr rfl) ?_
       refine L_pass (dj := 78) rfl rfl (.inr rfl) ?_
       refine L_pass (dj := 78) rfl rfl (.inr rfl) ?_
       refine L_pass (dj := 74) rfl rfl (.inr rfl) ?_
       refine L_pass (dj := 70) rfl rfl (.inl rfl) ?_
       refine L_pu (P_pick false (vb false) (by exact congrArg Value.bool rfl) rfl) ?_
       refine L_pu (P_assign (vb false) rfl) ?_
       refine L_nil ?_
       refine W_ret ?_
       exact ⟨[vb false], ⟨_, rfl, rfl⟩, false, rfl, H, hc169.gr.g0⟩
   ·have H := ite_f H hq101
    refine L_pass (dj := 20) rfl rfl (.inl (by exact congrArg Value.bool hq101)) ?_
    refine L_pass (dj := 20) rfl rfl (.inl (by exact congrArg Value.bool hq101)) ?_
    refine L_run (dj := 17) rfl rfl rfl ?_
    refine L_pu (P_pick false (vb false) (by exact congrArg Value.bool hq101) rfl) ?_
    refine L_run (dj := 17) rfl rfl rfl ?_
    refine L_pu (P_move (vb false) rfl) ?_
    refine L_pass (dj := 24) rfl rfl (.inl rfl) ?_
    refine L_pass (dj := 24) rfl rfl (.inl rfl) ?_
    refine L_pass (dj := 24) rfl rfl (.inl rfl) ?_
    refine L_pass (dj := 24) rfl rfl (.inl rfl) ?_
    refine L_pass (dj := 24) rfl rfl (.inl rfl) ?_
    refine L_run (dj := 17) rfl rfl rfl ?_
    refine L_pu (P_pick false (vb false) (by exact congrArg Value.bool rfl) rfl) ?_
    refine L_pu (P_pick false (vb false) (by exact congrArg Value.bool rfl) rfl) ?_
    refine L_nil ?_
    refine W_cf (b := false) rfl rfl ?_
    refine W_skip ?_
    refine W_seq ?_
    refine W_seq ?_
    refine W_reg ?_
    refine L_pu (P_fa fa103_1 ⟨b25, 0, none⟩ ⟨b25, 1, none⟩ rfl rfl) ?_
    refine L_pu (P_ld ag4 cL ⟨b25, 1, none⟩ (vb c_.Had) rfl (h40.cell rfl)) ?_
    refine L_pu (P_not c_.Had rfl) ?_
    refine L_pu (P_move (vb (!c_.Had)) rfl) ?_
    refine L_pass (dj := 35) rfl rfl (.inl (by exact congrArg Value.bool hq41)) ?_
    refine L_pass (dj := 35) rfl rfl (.inl (by exact congrArg Value.bool hq41)) ?_
    refine L_pass (dj := 35) rfl rfl (.inl (by exact congrArg Value.bool hq41)) ?_
    refine L_pass (dj := 35) rfl rfl (.inl (by exact congrArg Value.bool hq41)) ?_
    refine L_pass (dj := 35) rfl rfl (.inl (by exact congrArg Value.bool hq41)) ?_
    refine L_pu (P_pick false (vb false) (by exact congrArg Value.bool hq41) rfl) ?_
    refine L_pu (P_move (vb false) rfl) ?_
    refine L_run (dj := 42) rfl rfl rfl ?_
    refine L_pu (P_fa fa103_3 ⟨b25, 0, none⟩ ⟨b25, 6, none⟩ rfl rfl) ?_
    refine L_run (dj := 42) rfl rfl rfl ?_
    refine L_pu (P_ld ag4 cL ⟨b25, 6, none⟩ (vb c_.Has) rfl (h40.cell rfl)) ?_
    refine L_run (dj := 42) rfl rfl rfl ?_
    refine L_pu (P_not c_.Has rfl) ?_
    refine L_run (dj := 42) rfl rfl rfl ?_
    refine L_pu (P_move (vb (!c_.Has)) rfl) ?_
    rcases bool_or (!c_.Has) with hq181 | hq181
    ·have H := ite_t H hq181
     refine L_run (dj := 46) rfl rfl (by exact congrArg Value.bool hq181) ?_
     refine L_pu (P_fa fa103_4 ⟨b25, 0, none⟩ ⟨b25, 7, none⟩ rfl rfl) ?_
     refine L_run (dj := 46) rfl rfl (by exact congrArg Value.bool hq181) ?_
     refine L_pu (P_lda ag71 sz71 cL ⟨b25, 7, none⟩ [vs c_.Now.Id, vi c_.Now.Shape.Kind, .slice A14 n15 c16, .slice A19 n20 c21] rfl rfl (h40.cells (off := 7) rfl)) ?_
     refine L_run (dj := 46) rfl rfl (by exact congrArg Value.bool hq181) ?_
     refine L_pu (P_build (.agg #[vs ([] : Str), vi 0, .slice none 0 0, .slice none 0 0]) (fun _ => by kernel_rfl)) ?_
     refine L_run (dj := 46) rfl rfl (by exact congrArg Value.bool hq181) ?_
     refine L_call go79 [.agg #[vs c_.Now.Id, vi c_.Now.Shape.Kind, .slice A14 n15 c16, .slice A19 n20 c21], .agg #[vs ([] : Str), vi 0, .slice none 0 0, .slice none 0 0]] rfl ((spec_FeatSame.calls w33 hc38.ok c_.Now A14 n15 c16 A19 n20 c21 hs13 (hp17.st hc38.st) (hp22.st hc38.st) (⟨([] : Str), (⟨0, []⟩ : Shape), []⟩ : Feat) none 0 0 none 0 0 (by decide) (Sl.nil _ _ _ none 0 (by decide)) (Sl.nil _ _ _ none 0 (by decide)) _ H).mono ?_)
     rintro _ w182 ⟨r18, rfl, H, g183⟩
     have hc187 := hc38.k0 g183
     refine L_run (dj := 46) rfl rfl (by exact congrArg Value.bool hq181) ?_
     refine L_pu (P_not r18 rfl) ?_
     refine L_run (dj := 42) rfl rfl rfl ?_
     refine L_pu (P_pick true (vb (!r18)) (by exact congrArg Value.bool hq181) rfl) ?_
     refine L_pu (P_pick false (vb (!r18)) (by exact congrArg Value.bool rfl) rfl) ?_
     refine L_nil ?_
     refine W_cond (!r18) rfl (fun hq188 => ?_) (fun hq188 => ?_)
     ·have H := ite_t H hq188
      refine W_seq ?_
      refine W_reg ?_
      refine L_pu (P_assign (vb false) rfl) ?_
      refine L_nil ?_
      refine W_ret ?_
      exact ⟨[vb false], ⟨_, rfl, rfl⟩, false, rfl, H, hc187.gr.g0⟩
     ·have H := ite_f H hq188
      refine W_skip ?_
      refine W_seq ?_
      refine W_reg ?_
      refine L_pu (P_fa fa103_1 ⟨b25, 0, none⟩ ⟨b25, 1, none⟩ rfl rfl) ?_
      have h189 := (h40.st (.new _ g183))
      refine L_pu (P_ld ag4 cL ⟨b25, 1, none⟩ (vb c_.Had) rfl (h189.cell rfl)) ?_
      refine L_pu (P_not c_.Had rfl) ?_
      refine L_pu (P_move (vb (!c_.Had)) rfl) ?_
      refine L_run (dj := 57) rfl rfl (by exact congrArg Value.bool hq41) ?_
      refine L_pu (P_fa fa103_2 ⟨b25, 0, none⟩ ⟨b25, 2, none⟩ rfl rfl) ?_
      refine L_run (dj := 57) rfl rfl (by exact congrArg Value.bool hq41) ?_
      refine L_pu (P_lda ag71 sz71 cL ⟨b25, 2, none⟩ [vs c_.Was.Id, vi c_.Was.Shape.Kind, .slice A3 n4 c5, .slice A8 n9 c10] rfl rfl (h189.cells (off := 2) rfl)) ?_
      refine L_run (dj := 57) rfl rfl (by exact congrArg Value.bool hq41) ?_
      refine L_call go89 [.agg #[vs c_.Was.Id, vi c_.Was.Shape.Kind, .slice A3 n4 c5, .slice A8 n9 c10]] rfl ((spec_FeatOk.calls w182 hc187.ok c_.Was A3 n4 c5 A8 n9 c10 hs2 (hp6.st hc187.st) (hp11.st hc187.st) _ H).mono ?_)
      rintro _ w190 ⟨r19, rfl, H, g191⟩
      have hc195 := hc187.k0 g191
      refine L_run (dj := 57) rfl rfl (by exact congrArg Value.bool hq41) ?_
      refine L_pu (P_move (vb r19) rfl) ?_
      rcases bool_or r19 with hq196 | hq196
      ·have H := ite_t H hq196
       refine L_run (dj := 61) rfl rfl (by exact congrArg Value.bool hq196) ?_
       refine L_pu (P_fa fa103_2 ⟨b25, 0, none⟩ ⟨b25, 2, none⟩ rfl rfl) ?_
       refine L_run (dj := 61) rfl rfl (by exact congrArg Value.bool hq196) ?_
       refine L_pu (P_fa fa71_0 ⟨b25, 2, none⟩ ⟨b25, 2, none⟩ rfl rfl) ?_
       refine L_run (dj := 61) rfl rfl (by exact congrArg Value.bool hq196) ?_
       have h197 := (h189.st (.new _ g191))
       refine L_pu (P_ld ag9 cL ⟨b25, 2, none⟩ (vs c_.Was.Id) rfl (h197.cell rfl)) ?_
       refine L_run (dj := 61) rfl rfl (by exact congrArg Value.bool hq196) ?_
       refine L_pu (P_fa fa103_0 ⟨b25, 0, none⟩ ⟨b25, 0, none⟩ rfl rfl) ?_
       refine L_run (dj := 61) rfl rfl (by exact congrArg Value.bool hq196) ?_
       refine L_pu (P_ld ag9 cL ⟨b25, 0, none⟩ (vs c_.Id) rfl (h197.cell rfl)) ?_
       refine L_run (dj := 61) rfl rfl (by exact congrArg Value.bool hq196) ?_
       refine L_pu (P_scmp c_.Was.Id c_.Id (c_.Was.Id == c_.Id) rfl rfl rfl) ?_
       refine L_run (dj := 57) rfl rfl (by exact congrArg Value.bool hq41) ?_
       refine L_pu (P_pick true (vb (c_.Was.Id == c_.Id)) (by exact congrArg Value.bool hq196) rfl) ?_
       refine L_pu (P_pick false (vb (c_.Was.Id == c_.Id)) (by exact congrArg Value.bool hq41) rfl) ?_
       refine L_pu (P_move (vb (c_.Was.Id == c_.Id)) rfl) ?_
       rcases bool_or (c_.Was.Id == c_.Id) with hq198 | hq198
       ·have H := ite_t H hq198
        refine L_run (dj := 70) rfl rfl (by exact congrArg Value.bool hq198) ?_
        refine L_pu (P_fa fa103_3 ⟨b25, 0, none⟩ ⟨b25, 6, none⟩ rfl rfl) ?_
        refine L_run (dj := 70) rfl rfl (by exact congrArg Value.bool hq198) ?_
        refine L_pu (P_ld ag4 cL ⟨b25, 6, none⟩ (vb c_.Has) rfl (h197.cell rfl)) ?_
        refine L_run (dj := 70) rfl rfl (by exact congrArg Value.bool hq198) ?_
        refine L_pu (P_not c_.Has rfl) ?_
        refine L_run (dj := 70) rfl rfl (by exact congrArg Value.bool hq198) ?_
        refine L_pu (P_move (vb (!c_.Has)) rfl) ?_
        refine L_pass (dj := 74) rfl rfl (.inl (by exact congrArg Value.bool hq181)) ?_
        refine L_pass (dj := 74) rfl rfl (.inl (by exact congrArg Value.bool hq181)) ?_
        refine L_pass (dj := 74) rfl rfl (.inl (by exact congrArg Value.bool hq181)) ?_
        refine L_pass (dj := 74) rfl rfl (.inl (by exact congrArg Value.bool hq181)) ?_
        refine L_pass (dj := 78) rfl rfl (.inr rfl) ?_
        refine L_pass (dj := 78) rfl rfl (.inr rfl) ?_
        refine L_pass (dj := 78) rfl rfl (.inr rfl) ?_
        refine L_pass (dj := 78) rfl rfl (.inr rfl) ?_
        refine L_pass (dj := 78) rfl rfl (.inr rfl) ?_
        refine L_pass (dj := 78) rfl rfl (.inr rfl) ?_
        refine L_pass (dj := 74) rfl rfl (.inl (by exact congrArg Value.bool hq181)) ?_
        refine L_run (dj := 70) rfl rfl (by exact congrArg Value.bool hq198) ?_
        refine L_pu (P_pick true (vb true) (by exact congrArg Value.bool hq181) rfl) ?_
        refine L_pu (P_pick true (vb true) (by exact congrArg Value.bool hq198) rfl) ?_
        refine L_pu (P_assign (vb true) rfl) ?_
        refine L_nil ?_
        refine W_ret ?_
        exact ⟨[vb true], ⟨_, rfl, rfl⟩, true, rfl, H, hc195.gr.g0⟩
       ·have H := ite_f H hq198
        refine L_pass (dj := 70) rfl rfl (.inl (by exact congrArg Value.bool hq198)) ?_
        refine L_pass (dj := 70) rfl rfl (.inl (by exact congrArg Value.bool hq198)) ?_
        refine L_pass (dj := 70) rfl rfl (.inl (by exact congrArg Value.bool hq198)) ?_
        refine L_pass (dj := 70) rfl rfl (.inl (by exact congrArg Value.bool hq198)) ?_
        refine L_pass (dj := 74) rfl rfl (.inr rfl) ?_
        refine L_pass (dj := 74) rfl rfl (.inr rfl) ?_
        refine L_pass (dj := 74) rfl rfl (.inr rfl) ?_
        refine L_pass (dj := 74) rfl rfl (.inr rfl) ?_
        refine L_pass (dj := 78) rfl rfl (.inr rfl) ?_
        refine L_pass (dj := 78) rfl rfl (.inr rfl) ?_
        refine L_pass (dj := 78) rfl rfl (.inr rfl) ?_
        refine L_pass (dj := 78) rfl rfl (.inr rfl) ?_
        refine L_pass (dj := 78) rfl rfl (.inr rfl) ?_
        refine L_pass (dj := 78) rfl rfl (.inr rfl) ?_
        refine L_pass (dj := 74) rfl rfl (.inr rfl) ?_
        refine L_pass (dj := 70) rfl rfl (.inl (by exact congrArg Value.bool hq198)) ?_
        refine L_pu (P_pick false (vb false) (by exact congrArg Value.bool hq198) rfl) ?_
        refine L_pu (P_assign (vb false) rfl) ?_
        refine L_nil ?_
        refine W_ret ?_
        exact ⟨[vb false], ⟨_, rfl, rfl⟩, false, rfl, H, hc195.gr.g0⟩
      ·have H := ite_f H hq196
       refine L_pass (dj := 61) rfl rfl (.inl (by exact congrArg Value.bool hq196)) ?_
       refine L_pass (dj := 61) rfl rfl (.inl (by exact congrArg Value.bool hq196)) ?_
       refine L_pass (dj := 61) rfl rfl (.inl (by exact congrArg Value.bool hq196)) ?_
       refine L_pass (dj := 61) rfl rfl (.inl (by exact congrArg Value.bool hq196)) ?_
       refine L_pass (dj := 61) rfl rfl (.inl (by exact congrArg Value.bool hq196)) ?_
       refine L_pass (dj := 61) rfl rfl (.inl (by exact congrArg Value.bool hq196)) ?_
       refine L_run (dj := 57) rfl rfl (by exact congrArg Value.bool hq41) ?_
       refine L_pu (P_pick false (vb false) (by exact congrArg Value.bool hq196) rfl) ?_
       refine L_pu (P_pick false (vb false) (by exact congrArg Value.bool hq41) rfl) ?_
       refine L_pu (P_move (vb false) rfl) ?_
       refine L_pass (dj := 70) rfl rfl (.inl rfl) ?_
       refine L_pass (dj := 70) rfl rfl (.inl rfl) ?_
       refine L_pass (dj := 70) rfl rfl (.inl rfl) ?_
       refine L_pass (dj := 70) rfl rfl (.inl rfl) ?_
       refine L_pass (dj := 74) rfl rfl (.inr rfl) ?_
       refine L_pass (dj := 74) rfl rfl (.inr rfl) ?_
       refine L_pass (dj := 74) rfl rfl (.inr rfl) ?_
       refine L_pass (dj := 74) rfl rfl (.inr rfl) ?_
       refine L_pass (dj := 78) rfl rfl (.inr rfl) ?_
       refine L_pass (dj := 78) rfl rfl (.inr rfl) ?_
       refine L_pass (dj := 78) rfl rfl (.inr rfl) ?_
       refine L_pass (dj := 78) rfl rfl (.inr rfl) ?_
       refine L_pass (dj := 78) rfl rfl (.inr rfl) ?_
       refine L_pass (dj := 78) rfl rfl (.inr rfl) ?_
       refine L_pass (dj := 74) rfl rfl (.inr rfl) ?_
       refine L_pass (dj := 70) rfl rfl (.inl rfl) ?_
       refine L_pu (P_pick false (vb false) (by exact congrArg Value.bool rfl) rfl) ?_
       refine L_pu (P_assign (vb false) rfl) ?_
       refine L_nil ?_
       refine W_ret ?_
       exact ⟨[vb false], ⟨_, rfl, rfl⟩, false, rfl, H, hc195.gr.g0⟩
    ·have H := ite_f H hq181
     refine L_pass (dj := 46) rfl rfl (.inl (by exact congrArg Value.bool hq181)) ?_
     refine L_pass (dj := 46) rfl rfl (.inl (by exact congrArg Value.bool hq181)) ?_
     refine L_pass (dj := 46) rfl rfl (.inl (by exact congrArg Value.bool hq181)) ?_
     refine L_pass (dj := 46) rfl rfl (.inl (by exact congrArg Value.bool hq181)) ?_
     refine L_pass (dj := 46) rfl rfl (.inl (by exact congrArg Value.bool hq181)) ?_
     refine L_run (dj := 42) rfl rfl rfl ?_
     refine L_pu (P_pick false (vb false) (by exact congrArg Value.bool hq181) rfl) ?_
     refine L_pu (P_pick false (vb false) (by exact congrArg Value.bool rfl) rfl) ?_
     refine L_nil ?_
     refine W_cf (b := false) rfl rfl ?_
     refine W_skip ?_
     refine W_seq ?_
     refine W_reg ?_
     refine L_pu (P_fa fa103_1 ⟨b25, 0, none⟩ ⟨b25, 1, none⟩ rfl rfl) ?_
     refine L_pu (P_ld ag4 cL ⟨b25, 1, none⟩ (vb c_.Had) rfl (h40.cell rfl)) ?_
     refine L_pu (P_not c_.Had rfl) ?_
     refine L_pu (P_move (vb (!c_.Had)) rfl) ?_
     refine L_run (dj := 57) rfl rfl (by exact congrArg Value.bool hq41) ?_
     refine L_pu (P_fa fa103_2 ⟨b25, 0, none⟩ ⟨b25, 2, none⟩ rfl rfl) ?_
     refine L_run (dj := 57) rfl rfl (by exact congrArg Value.bool hq41) ?_
     refine L_pu (P_lda ag71 sz71 cL ⟨b25, 2, none⟩ [vs c_.Was.Id, vi c_.Was.Shape.Kind, .slice A3 n4 c5, .slice A8 n9 c10] rfl rfl (h40.cells (off := 2) rfl)) ?_
     refine L_run (dj := 57) rfl rfl (by exact congrArg Value.bool hq41) ?_
     refine L_call go89 [.agg #[vs c_.Was.Id, vi c_.Was.Shape.Kind, .slice A3 n4 c5, .slice A8 n9 c10]] rfl ((spec_FeatOk.calls w33 hc38.ok c_.Was A3 n4 c5 A8 n9 c10 hs2 (hp6.st hc38.st) (hp11.st hc38.st) _ H).mono ?_)
     rintro _ w199 ⟨r20, rfl, H, g200⟩
     have hc204 := hc38.k0 g200
     refine L_run (dj := 57) rfl rfl (by exact congrArg Value.bool hq41) ?_
     refine L_pu (P_move (vb r20) rfl) ?_
     rcases bool_or r20 with hq205 | hq205
     ·have H := ite_t H hq205
      refine L_run (dj := 61) rfl rfl (by exact congrArg Value.bool hq205) ?_
      refine L_pu (P_fa fa103_2 ⟨b25, 0, none⟩ ⟨b25, 2, none⟩ rfl rfl) ?_
      refine L_run (dj := 61) rfl rfl (by exact congrArg Value.bool hq205) ?_
      refine L_pu (P_fa fa71_0 ⟨b25, 2, none⟩ ⟨b25, 2, none⟩ rfl rfl) ?_
      refine L_run (dj := 61) rfl rfl (by exact congrArg Value.bool hq205) ?_
      have h206 := (h40.st (.new _ g200))
      refine L_pu (P_ld ag9 cL ⟨b25, 2, none⟩ (vs c_.Was.Id) rfl (h206.cell rfl)) ?_
      refine L_run (dj := 61) rfl rfl (by exact congrArg Value.bool hq205) ?_
      refine L_pu (P_fa fa103_0 ⟨b25, 0, none⟩ ⟨b25, 0, none⟩ rfl rfl) ?_
      refine L_run (dj := 61) rfl rfl (by exact congrArg Value.bool hq205) ?_
      refine L_pu (P_ld ag9 cL ⟨b25, 0, none⟩ (vs c_.Id) rfl (h206.cell rfl)) ?_
      refine L_run (dj := 61) rfl rfl (by exact congrArg Value.bool hq205) ?_
      refine L_pu (P_scmp c_.Was.Id c_.Id (c_.Was.Id == c_.Id) rfl rfl rfl) ?_
      refine L_run (dj := 57) rfl rfl (by exact congrArg Value.bool hq41) ?_
      refine L_pu (P_pick true (vb (c_.Was.Id == c_.Id)) (by exact congrArg Value.bool hq205) rfl) ?_
      refine L_pu (P_pick false (vb (c_.Was.Id == c_.Id)) (by exact congrArg Value.bool hq41) rfl) ?_
      refine L_pu (P_move (vb (c_.Was.Id == c_.Id)) rfl) ?_
      rcases bool_or (c_.Was.Id == c_.Id) with hq207 | hq207
      ·have H := ite_t H hq207
       refine L_run (dj := 70) rfl rfl (by exact congrArg Value.bool hq207) ?_
       refine L_pu (P_fa fa103_3 ⟨b25, 0, none⟩ ⟨b25, 6, none⟩ rfl rfl) ?_
       refine L_run (dj := 70) rfl rfl (by exact congrArg Value.bool hq207) ?_
       refine L_pu (P_ld ag4 cL ⟨b25, 6, none⟩ (vb c_.Has) rfl (h206.cell rfl)) ?_
       refine L_run (dj := 70) rfl rfl (by exact congrArg Value.bool hq207) ?_
       refine L_pu (P_not c_.Has rfl) ?_
       refine L_run (dj := 70) rfl rfl (by exact congrArg Value.bool hq207) ?_
       refine L_pu (P_move (vb (!c_.Has)) rfl) ?_
       refine L_run (dj := 74) rfl rfl (by exact congrArg Value.bool hq181) ?_
       refine L_pu (P_fa fa103_4 ⟨b25, 0, none⟩ ⟨b25, 7, none⟩ rfl rfl) ?_
       refine L_run (dj := 74) rfl rfl (by exact congrArg Value.bool hq181) ?_
       refine L_pu (P_lda ag71 sz71 cL ⟨b25, 7, none⟩ [vs c_.Now.Id, vi c_.Now.Shape.Kind, .slice A14 n15 c16, .slice A19 n20 c21] rfl rfl (h206.cells (off := 7) rfl)) ?_
       refine L_run (dj := 74) rfl rfl (by exact congrArg Value.bool hq181) ?_
       refine L_call go89 [.agg #[vs c_.Now.Id, vi c_.Now.Shape.Kind, .slice A14 n15 c16, .slice A19 n20 c21]] rfl ((spec_FeatOk.calls w199 hc204.ok c_.Now A14 n15 c16 A19 n20 c21 hs13 (hp17.st hc204.st) (hp22.st hc204.st) _ H).mono ?_)
       rintro _ w208 ⟨r21, rfl, H, g209⟩
       have hc213 := hc204.k0 g209
       refine L_run (dj := 74) rfl rfl (by exact congrArg Value.bool hq181) ?_
       refine L_pu (P_move (vb r21) rfl) ?_
       rcases bool_or r21 with hq214 | hq214
       ·have H := ite_t H hq214
        refine L_run (dj := 78) rfl rfl (by exact congrArg Value.bool hq214) ?_
        refine L_pu (P_fa fa103_4 ⟨b25, 0, none⟩ ⟨b25, 7, none⟩ rfl rfl) ?_
        refine L_run (dj := 78) rfl rfl (by exact congrArg Value.bool hq214) ?_
        refine L_pu (P_fa fa71_0 ⟨b25, 7, none⟩ ⟨b25, 7, none⟩ rfl rfl) ?_
        refine L_run (dj := 78) rfl rfl (by exact congrArg Value.bool hq214) ?_
        have h215 := (h206.st (.new _ g209))
        refine L_pu (P_ld ag9 cL ⟨b25, 7, none⟩ (vs c_.Now.Id) rfl (h215.cell rfl)) ?_
        refine L_run (dj := 78) rfl rfl (by exact congrArg Value.bool hq214) ?_
        refine L_pu (P_fa fa103_0 ⟨b25, 0, none⟩ ⟨b25, 0, none⟩ rfl rfl) ?_
        refine L_run (dj := 78) rfl rfl (by exact congrArg Value.bool hq214) ?_
        refine L_pu (P_ld ag9 cL ⟨b25, 0, none⟩ (vs c_.Id) rfl (h215.cell rfl)) ?_
        refine L_run (dj := 78) rfl rfl (by exact congrArg Value.bool hq214) ?_
        refine L_pu (P_scmp c_.Now.Id c_.Id (c_.Now.Id == c_.Id) rfl rfl rfl) ?_
        refine L_run (dj := 74) rfl rfl (by exact congrArg Value.bool hq181) ?_
        refine L_pu (P_pick true (vb (c_.Now.Id == c_.Id)) (by exact congrArg Value.bool hq214) rfl) ?_
        refine L_run (dj := 70) rfl rfl (by exact congrArg Value.bool hq207) ?_
        refine L_pu (P_pick false (vb (c_.Now.Id == c_.Id)) (by exact congrArg Value.bool hq181) rfl) ?_
        refine L_pu (P_pick true (vb (c_.Now.Id == c_.Id)) (by exact congrArg Value.bool hq207) rfl) ?_
        refine L_pu (P_assign (vb (c_.Now.Id == c_.Id)) rfl) ?_
        refine L_nil ?_
        refine W_ret ?_
        exact ⟨[vb (c_.Now.Id == c_.Id)], ⟨_, rfl, rfl⟩, c_.Now.Id == c_.Id, rfl, H, hc213.gr.g0⟩
       ·have H := ite_f H hq214
        refine L_pass (dj := 78) rfl rfl (.inl (by exact congrArg Value.bool hq214)) ?_
        refine L_pass (dj := 78) rfl rfl (.inl (by exact congrArg Value.bool hq214)) ?_
        refine L_pass (dj := 78) rfl rfl (.inl (by exact congrArg Value.bool hq214)) ?_
        refine L_pass (dj := 78) rfl rfl (.inl (by exact congrArg Value.bool hq214)) ?_
        refine L_pass (dj := 78) rfl rfl (.inl (by exact congrArg Value.bool hq214)) ?_
        refine L_pass (dj := 78) rfl rfl (.inl (by exact congrArg Value.bool hq214)) ?_
        refine L_run (dj := 74) rfl rfl (by exact congrArg Value.bool hq181) ?_
        refine L_pu (P_pick false (vb false) (by exact congrArg Value.bool hq214) rfl) ?_
        refine L_run (dj := 70) rfl rfl (by exact congrArg Value.bool hq207) ?_
        refine L_pu (P_pick false (vb false) (by exact congrArg Value.bool hq181) rfl) ?_
        refine L_pu (P_pick true (vb false) (by exact congrArg Value.bool hq207) rfl) ?_
        refine L_pu (P_assign (vb false) rfl) ?_
        refine L_nil ?_
        refine W_ret ?_
        exact ⟨[vb false], ⟨_, rfl, rfl⟩, false, rfl, H, hc213.gr.g0⟩
      ·have H := ite_f H hq207
       refine L_pass (dj := 70) rfl rfl (.inl (by exact congrArg Value.bool hq207)) ?_
       refine L_pass (dj := 70) rfl rfl (.inl (by exact congrArg Value.bool hq207)) ?_
       refine L_pass (dj := 70) rfl rfl (.inl (by exact congrArg Value.bool hq207)) ?_
       refine L_pass (dj := 70) rfl rfl (.inl (by exact congrArg Value.bool hq207)) ?_
       refine L_pass (dj := 74) rfl rfl (.inr rfl) ?_
       refine L_pass (dj := 74) rfl rfl (.inr rfl) ?_
       refine L_pass (dj := 74) rfl rfl (.inr rfl) ?_
       refine L_pass (dj := 74) rfl rfl (.inr rfl) ?_
       refine L_pass (dj := 78) rfl rfl (.inr rfl) ?_
       refine L_pass (dj := 78) rfl rfl (.inr rfl) ?_
       refine L_pass (dj := 78) rfl rfl (.inr rfl) ?_
       refine L_pass (dj := 78) rfl rfl (.inr rfl) ?_
       refine L_pass (dj := 78) rfl rfl (.inr rfl) ?_
       refine L_pass (dj := 78) rfl rfl (.inr rfl) ?_
       refine L_pass (dj := 74) rfl rfl (.inr rfl) ?_
       refine L_pass (dj := 70) rfl rfl (.inl (by exact congrArg Value.bool hq207)) ?_
       refine L_pu (P_pick false (vb false) (by exact congrArg Value.bool hq207) rfl) ?_
       refine L_pu (P_assign (vb false) rfl) ?_
       refine L_nil ?_
       refine W_ret ?_
       exact ⟨[vb false], ⟨_, rfl, rfl⟩, false, rfl, H, hc204.gr.g0⟩
     ·have H := ite_f H hq205
      refine L_pass (dj := 61) rfl rfl (.inl (by exact congrArg Value.bool hq205)) ?_
      refine L_pass (dj := 61) rfl rfl (.inl (by exact congrArg Value.bool hq205)) ?_
      refine L_pass (dj := 61) rfl rfl (.inl (by exact congrArg Value.bool hq205)) ?_
      refine L_pass (dj := 61) rfl rfl (.inl (by exact congrArg Value.bool hq205)) ?_
      refine L_pass (dj := 61) rfl rfl (.inl (by exact congrArg Value.bool hq205)) ?_
      refine L_pass (dj := 61) rfl rfl (.inl (by exact congrArg Value.bool hq205)) ?_
      refine L_run (dj := 57) rfl rfl (by exact congrArg Value.bool hq41) ?_
      refine L_pu (P_pick false (vb false) (by exact congrArg Value.bool hq205) rfl) ?_
      refine L_pu (P_pick false (vb false) (by exact congrArg Value.bool hq41) rfl) ?_
      refine L_pu (P_move (vb false) rfl) ?_
      refine L_pass (dj := 70) rfl rfl (.inl rfl) ?_
      refine L_pass (dj := 70) rfl rfl (.inl rfl) ?_
      refine L_pass (dj := 70) rfl rfl (.inl rfl) ?_
      refine L_pass (dj := 70) rfl rfl (.inl rfl) ?_
      refine L_pass (dj := 74) rfl rfl (.inr rfl) ?_
      refine L_pass (dj := 74) rfl rfl (.inr rfl) ?_
      refine L_pass (dj := 74) rfl rfl (.inr rfl) ?_
      refine L_pass (dj := 74) rfl rfl (.inr rfl) ?_
      refine L_pass (dj := 78) rfl rfl (.inr rfl) ?_
      refine L_pass (dj := 78) rfl rfl (.inr rfl) ?_
      refine L_pass (dj := 78) rfl rfl (.inr rfl) ?_
      refine L_pass (dj := 78) rfl rfl (.inr rfl) ?_
      refine L_pass (dj := 78) rfl rfl (.inr rfl) ?_
      refine L_pass (dj := 78) rfl rfl (.inr rfl) ?_
      refine L_pass (dj := 74) rfl rfl (.inr rfl) ?_
      refine L_pass (dj := 70) rfl rfl (.inl rfl) ?_
      refine L_pu (P_pick false (vb false) (by exact congrArg Value.bool rfl) rfl) ?_
      refine L_pu (P_assign (vb false) rfl) ?_
      refine L_nil ?_
      refine W_ret ?_
      exact ⟨[vb false], ⟨_, rfl, rfl⟩, false, rfl, H, hc204.gr.g0⟩
end Go.Proofs.Ytndjggncgpjolaa

namespace Go.Proofs.Ytndjggncgpjolaa
set_option linter.unusedVariables false
set_option linter.unusedSimpArgs false
set_option linter.unusedSectionVars false
theorem spec_l4One.law (c : Change) (Q : Bool → Prop) (hq : Q (changeOk c)) : spec_l4One.E c Q := by
 unfold spec_l4One.E
 unfold changeOk sideOk noF sameC at hq
 have eid : ∀ f : Feat, (f.Id == c.Id) = decide (f.Id = c.Id) := fun f => by rw [Bool.eq_iff_iff, beq_iff_eq, decide_eq_true_eq]
 refine spec_WordOk.law _ _ ?_
 cases hw : wordOk c.Id with
 | false => rw [hw] at hq; rw [if_pos (by decide)]; exact hq
 | true =>
  rw [hw, Bool.true_and] at hq
  rw [if_neg (by decide)]
  cases h1 : c.Had <;> cases h2 : c.Has
  ·-- neither
   rw [h1, h2] at hq
   rw [if_pos (by decide), if_pos (by decide)]
   simp only [reduceIte, Bool.false_eq_true, Bool.true_eq_false, reduceCtorEq, if_false, if_true, eq_self, decide_true, decide_false, Bool.true_and, Bool.false_and, Bool.not_false, Bool.not_true, Bool.and_true] at hq
   have e : (decide (c.Was = (⟨[], ⟨0, []⟩, []⟩ : Feat)) && decide (c.Now = (⟨[], ⟨0, []⟩, []⟩ : Feat)) && !(decide (c.Was = c.Now))) = false := by
    by_cases a : c.Was = (⟨[], ⟨0, []⟩, []⟩ : Feat)
    ·by_cases b : c.Now = (⟨[], ⟨0, []⟩, []⟩ : Feat)
     ·rw [decide_eq_true (a.trans b.symm)]; simp
     ·rw [decide_eq_false b]; simp
    ·rw [decide_eq_false a]; rfl
   rw [e] at hq; exact hq
  ·rw [h1, h2] at hq
   simp only [reduceIte, Bool.false_eq_true, Bool.true_eq_false, reduceCtorEq, if_false, if_true, eq_self, decide_true, decide_false, Bool.true_and, Bool.false_and, Bool.not_false, Bool.not_true, Bool.and_true] at hq
   rw [if_pos (by decide), if_neg (by decide), if_neg (by decide)]
   refine spec_FeatSame.law _ _ _ ?_
   cases ha : decide (c.Was = (⟨[], ⟨0, []⟩, []⟩ : Feat)) with
   | false => rw [ha] at hq; rw [if_pos (by decide)]; exact hq
   | true =>
    rw [ha, Bool.true_and] at hq
    rw [if_neg (by decide)]
    refine spec_FeatOk.law _ _ ?_
    cases hf : featOk c.Now with
    | false => rw [hf] at hq; rw [if_neg (by decide)]; exact hq
    | true => rw [hf, Bool.true_and] at hq; rw [if_pos rfl, eid]; exact hq
  ·rw [h1, h2] at hq
   simp only [reduceIte, Bool.false_eq_true, Bool.true_eq_false, reduceCtorEq, if_false, if_true, eq_self, decide_true, decide_false, Bool.true_and, Bool.false_and, Bool.not_false, Bool.not_true, Bool.and_true] at hq
   rw [if_neg (by decide), if_pos rfl, if_neg (by decide), if_pos (by decide)]
   refine spec_FeatSame.law _ _ _ ?_
   cases ha : decide (c.Now = (⟨[], ⟨0, []⟩, []⟩ : Feat)) with
   | false => rw [ha, Bool.and_false] at hq; rw [if_pos (by decide)]; exact hq
   | true =>
    rw [ha, Bool.and_true] at hq
    rw [if_neg (by decide)]
    refine spec_FeatOk.law _ _ ?_
    cases hf : featOk c.Was with
    | false => rw [hf] at hq; rw [if_neg (by decide)]; exact hq
    | true =>
     rw [hf, Bool.true_and] at hq; rw [if_pos rfl, eid]
     cases hi : decide (c.Was.Id = c.Id) with
     | false => rw [hi] at hq; rw [if_neg (by decide)]; exact hq
     | true => rw [hi] at hq; rw [if_pos rfl]; exact hq
  ·rw [h1, h2] at hq
   simp only [reduceIte, Bool.false_eq_true, Bool.true_eq_false, reduceCtorEq, if_false, if_true, eq_self, decide_true, decide_false, Bool.true_and, Bool.false_and, Bool.not_false, Bool.not_true, Bool.and_true] at hq
   rw [if_neg (by decide), if_pos rfl, if_pos rfl]
   refine spec_FeatSame.law _ _ _ ?_
   cases hs : decide (c.Was = c.Now) with
   | true => rw [hs, Bool.not_true, Bool.and_false] at hq; rw [if_pos rfl]; exact hq
   | false =>
    rw [hs, Bool.not_false, Bool.and_true] at hq
    rw [if_neg (by decide), if_neg (by decide)]
    refine spec_FeatOk.law _ _ ?_
    cases hf : featOk c.Was with
    | false => rw [hf] at hq; rw [if_neg (by decide)]; exact hq
    | true =>
     rw [hf, Bool.true_and] at hq; rw [if_pos rfl, eid]
     cases hi : decide (c.Was.Id = c.Id) with
     | false => rw [hi] at hq; rw [if_neg (by decide)]; exact hq
     | true =>
      rw [hi, Bool.true_and] at hq; rw [if_pos rfl]
      refine spec_FeatOk.law _ _ ?_
      cases hg : featOk c.Now with
      | false => rw [hg] at hq; rw [if_neg (by decide)]; exact hq
      | true => rw [hg, Bool.true_and] at hq; rw [if_pos rfl, eid]; exact hq
end Go.Proofs.Ytndjggncgpjolaa

namespace Go.Proofs.Ytndjggncgpjolaa
open Go.RowKit
set_option linter.unusedVariables false
set_option linter.unusedSimpArgs false
def spec_DiffOk.E (d : List Change) (Q : Bool → Prop) : Prop :=
 (∃ (I18 : Int → Prop) (mu19 : Int → Nat), I18 0 ∧ ∀ (i2 : Int), I18 i2 → (if decide (i2 < (d.length : Int)) then ((0 : Int) ≤ i2 ∧ i2 < (d.length : Int)) ∧ (∃ q : Bool, spec_l4One.E (nth d i2) (fun x => x = q) ∧ (if !q then Q false else (if decide (i2 > 0) then ((0 : Int) ≤ i2 ∧ i2 < (d.length : Int)) ∧ ((d.length : Int) ≤ 9223372036854775807 → I64 (i2 - 1)) ∧ ((0 : Int) ≤ i2 - 1 ∧ i2 - 1 < (d.length : Int)) ∧ (if Op.bytesLess ((nth d i2).Id) ((nth d (i2 - 1)).Id) || ((nth d i2).Id) == ((nth d (i2 - 1)).Id) then Q false else (-9223372036854775808 ≤ i2) ∧ I18 (i2 + 1) ∧ mu19 (i2 + 1) < mu19 i2) else (-9223372036854775808 ≤ i2) ∧ I18 (i2 + 1) ∧ mu19 (i2 + 1) < mu19 i2))) else Q (decide ((d.length : Int) ≤ 16))))
set_option maxHeartbeats 8000000 in
set_option maxRecDepth 100000 in
theorem spec_DiffOk.calls {O : Ob} (w0 : World) (hO : Ok w0 O) (d : List Change) (A1 : Option Addr) (n2 c3 : Nat) (hp4 : Sl kChange w0 (Fr O) (.slice A1 n2 c3) d) (Q : Bool → Prop) (h : spec_DiffOk.E d Q) :
  Ret Try.prog 61 [.slice A1 n2 c3] w0 (fun v w' => ∃ (r0 : Bool), v = vb r0 ∧ Q r0 ∧ Gr w0 w' none) := by
 have H : (∃ (I18 : Int → Prop) (mu19 : Int → Nat), I18 0 ∧ ∀ (i2 : Int), I18 i2 → (if decide (i2 < (d.length : Int)) then ((0 : Int) ≤ i2 ∧ i2 < (d.length : Int)) ∧ (∃ q : Bool, spec_l4One.E (nth d i2) (fun x => x = q) ∧ (if !q then Q false else (if decide (i2 > 0) then ((0 : Int) ≤ i2 ∧ i2 < (d.length : Int)) ∧ ((d.length : Int) ≤ 9223372036854775807 → I64 (i2 - 1)) ∧ ((0 : Int) ≤ i2 - 1 ∧ i2 - 1 < (d.length : Int)) ∧ (if Op.bytesLess ((nth d i2).Id) ((nth d (i2 - 1)).Id) || ((nth d i2).Id) == ((nth d (i2 - 1)).Id) then Q false else (-9223372036854775808 ≤ i2) ∧ I18 (i2 + 1) ∧ mu19 (i2 + 1) < mu19 i2) else (-9223372036854775808 ≤ i2) ∧ I18 (i2 + 1) ∧ mu19 (i2 + 1) < mu19 i2))) else Q (decide ((d.length : Int) ≤ 16)))) := h
 clear h
 have hc0 := Ct.init hO
 refine Ret_enter Try.func61 rfl 37 rfl [.tmp 2] rfl rfl ?_
 refine W_seq ?_
 refine W_reg ?_
 refine L_pu (P_assign (vb false) rfl) ?_
 refine L_nil ?_
 refine W_seq ?_
 refine W_seq ?_
 refine W_reg ?_
 refine L_pu (P_assign (vi 0) rfl) ?_
 refine L_nil ?_
 refine W_block ?_
 obtain ⟨I18, mu19, hI20, H⟩ := H
 refine W_loop (α := Int) (fun (sv__ : Int) t w14 => match sv__ with | i2 => I18 i2 ∧ Has t [(0, .slice A1 n2 c3), (3, vi i2)] ∧ Ct [] w0 w14 [] O ∧ Sl kChange w14 (Fr ([] ++ O)) (.slice A1 n2 c3) d) (fun (sv__ : Int) => match sv__ with | i2 => mu19 i2) 0 ⟨hI20, ⟨rfl, rfl, trivial⟩, hc0, hp4⟩ ?_
 rintro i2 _ w14 ⟨hI20, hh22, hc16, h17⟩
 obtain ⟨u23, rfl⟩ := Has.ins hh22
 have H := H i2 hI20
 refine W_seq ?_
 refine W_seq ?_
 refine W_reg ?_
 refine L_pu (P_move (vi i2) rfl) ?_
 refine L_pu (P_move (.slice A1 n2 c3) rfl) ?_
 have hl24 := h17.le
 refine L_pu (P_len Try.underlying43 A1 n2 c3 h17.len rfl) ?_
 refine L_pu (P_cmp i2 (d.length : Int) (decide (i2 < (d.length : Int))) rfl rfl rfl) ?_
 refine L_nil ?_
 refine W_cond (decide (i2 < (d.length : Int))) rfl (fun hq25 => ?_) (fun hq25 => ?_)
 ·have H := ite_t H hq25
  refine W_skip ?_
  refine W_seq ?_
  refine W_block ?_
  refine W_seq ?_
  refine W_draw (fun x => Gr w14 x none) (by kernel_rfl) (by kernel_rfl) (Gr.drew _) ?_
  refine Q_pu (P_move (.slice A1 n2 c3) rfl) ?_
  refine Q_pu (P_move (vi i2) rfl) ?_
  obtain ⟨hb26, H⟩ := H
  obtain ⟨ad27, cs28, hA29, hS32, hR30, hcl31⟩ := h17.get default (by decide) i2 hb26
  obtain ⟨A35, n36, c37, A40, n41, c42, A46, n47, c48, A51, n52, c53, rfl, hs33, hs34, h38, h43, hs45, h49, h54⟩ := kChange.op hR30
  refine Q_pu (P_ia Try.underlying43 se43 A1 ad27 n2 c3 h17.len i2 rfl hA29 rfl hb26) ?_
  refine Q_pu (P_lda ag103 sz103 cQ (ad27.add (i2.toNat * 11)) [vs ((nth d i2).Id), vb ((nth d i2).Had), vs ((nth d i2).Was.Id), vi ((nth d i2).Was.Shape.Kind), .slice A35 n36 c37, .slice A40 n41 c42, vb ((nth d i2).Has), vs ((nth d i2).Now.Id), vi ((nth d i2).Now.Shape.Kind), .slice A46 n47 c48, .slice A51 n52 c53] rfl rfl hcl31) ?_
  obtain ⟨q, hE61, H⟩ := H
  refine Q_call go118 [.agg #[vs ((nth d i2).Id), vb ((nth d i2).Had), vs ((nth d i2).Was.Id), vi ((nth d i2).Was.Shape.Kind), .slice A35 n36 c37, .slice A40 n41 c42, vb ((nth d i2).Has), vs ((nth d i2).Now.Id), vi ((nth d i2).Now.Shape.Kind), .slice A46 n47 c48, .slice A51 n52 c53]] rfl (vb q) (fun w g => (spec_l4One.calls w (hc16.k0 g).ok (nth d i2) A35 n36 c37 A40 n41 c42 A46 n47 c48 A51 n52 c53 hs33 hs34 (h38.st (.new _ g)) (h43.st (.new _ g)) hs45 (h49.st (.new _ g)) (h54.st (.new _ g)) _ hE61).mono ?_) ?_
  ·rintro _ w ⟨r, rfl, rfl, g2⟩
   exact ⟨rfl, Gr.t0 g g2⟩
  refine Q_pu (P_not q rfl) ?_
  refine Q_pu (P_move (vb (!q)) rfl) ?_
  rcases bool_or (!q) with hq63 | hq63
  ·have H := ite_t H hq63
   refine Q_pass (dj := 16) rfl rfl (.inl (by exact congrArg Value.bool hq63)) ?_
   refine Q_pass (dj := 16) rfl rfl (.inl (by exact congrArg Value.bool hq63)) ?_
   refine Q_pass (dj := 16) rfl rfl (.inl (by exact congrArg Value.bool hq63)) ?_
   refine Q_pass (dj := 19) rfl rfl (.inr rfl) ?_
   refine Q_pass (dj := 19) rfl rfl (.inr rfl) ?_
   refine Q_pass (dj := 19) rfl rfl (.inr rfl) ?_
   refine Q_pass (dj := 19) rfl rfl (.inr rfl) ?_
   refine Q_pass (dj := 19) rfl rfl (.inr rfl) ?_
   refine Q_pass (dj := 19) rfl rfl (.inr rfl) ?_
   refine Q_pass (dj := 19) rfl rfl (.inr rfl) ?_
   refine Q_pass (dj := 19) rfl rfl (.inr rfl) ?_
   refine Q_pass (dj := 19) rfl rfl (.inr rfl) ?_
   refine Q_pass (dj := 19) rfl rfl (.inr rfl) ?_
   refine Q_pass (dj := 19) rfl rfl (.inr rfl) ?_
   refine Q_pass (dj := 19) rfl rfl (.inr rfl) ?_
   refine Q_pass (dj := 16) rfl rfl (.inl (by exact congrArg Value.bool hq63)) ?_
   refine Q_pu (P_pick true (vb true) (by exact congrArg Value.bool hq63) rfl) ?_
   refine Q_nil fun w64 g65 => ?_
   have hc67 := hc16.k0 g65
   refine W_ct (b := true) rfl rfl ?_
   refine W_seq ?_
   refine W_reg ?_
   refine L_pu (P_assign (vb false) rfl) ?_
   refine L_nil ?_
   refine W_ret ?_
   exact ⟨[vb false], ⟨_, rfl, rfl⟩, false, rfl, H, hc67.gr.g0⟩
  ·have H := ite_f H hq63
   refine Q_run (dj := 16) rfl rfl (by exact congrArg Value.bool hq63) ?_
   refine Q_pu (P_move (vi i2) rfl) ?_
   refine Q_run (dj := 16) rfl rfl (by exact congrArg Value.bool hq63) ?_
   refine Q_pu (P_cmp i2 0 (decide (i2 > 0)) rfl rfl rfl) ?_
   refine Q_run (dj := 16) rfl rfl (by exact congrArg Value.bool hq63) ?_
   refine Q_pu (P_move (vb (decide (i2 > 0))) rfl) ?_
   rcases bool_or (decide (i2 > 0)) with hq68 | hq68
   ·have H := ite_t H hq68
    refine Q_run (dj := 19) rfl rfl (by exact congrArg Value.bool hq68) ?_
    refine Q_pu (P_move (.slice A1 n2 c3) rfl) ?_
    refine Q_run (dj := 19) rfl rfl (by exact congrArg Value.bool hq68) ?_
    refine Q_pu (P_move (vi i2) rfl) ?_
    refine Q_run (dj := 19) rfl rfl (by exact congrArg Value.bool hq68) ?_
    obtain ⟨hb69, H⟩ := H
    obtain ⟨ad70, cs71, hA72, hS75, hR73, hcl74⟩ := h17.get default (by decide) i2 hb69
    obtain ⟨A78, n79, c80, A83, n84, c85, A89, n90, c91, A94, n95, c96, rfl, hs76, hs77, h81, h86, hs88, h92, h97⟩ := kChange.op hR73
    refine Q_pu (P_ia Try.underlying43 se43 A1 ad70 n2 c3 h17.len i2 rfl hA72 rfl hb69) ?_
    refine Q_run (dj := 19) rfl rfl (by exact congrArg Value.bool hq68) ?_
    refine Q_pu (P_fa fa103_0 (ad70.add (i2.toNat * 11)) ((ad70.add (i2.toNat * 11)).add 0) rfl rfl) ?_
    refine Q_run (dj := 19) rfl rfl (by exact congrArg Value.bool hq68) ?_
    refine Q_pu (P_ld ag9 cQ ((ad70.add (i2.toNat * 11)).add 0) (vs ((nth d i2).Id)) rfl (hcl74 0 _ rfl)) ?_
    refine Q_run (dj := 19) rfl rfl (by exact congrArg Value.bool hq68) ?_
    refine Q_pu (P_move (.slice A1 n2 c3) rfl) ?_
    refine Q_run (dj := 19) rfl rfl (by exact congrArg Value.bool hq68) ?_
    refine Q_pu (P_move (vi i2) rfl) ?_
    refine Q_run (dj := 19) rfl rfl (by exact congrArg Value.bool hq68) ?_
    obtain ⟨hb99, H⟩ := H
    have hi100 := hb99 (len_le hl24)
    refine Q_pu (P_sub i2 1 rfl rfl hi100) ?_
    refine Q_run (dj := 19) rfl rfl (by exact congrArg Value.bool hq68) ?_
    obtain ⟨hb101, H⟩ := H
    obtain ⟨ad102, cs103, hA104, hS107, hR105, hcl106⟩ := h17.get default (by decide) (i2 - 1) hb101
    obtain ⟨A110, n111, c112, A115, n116, c117, A121, n122, c123, A126, n127, c128, rfl, hs108, hs109, h113, h118, hs120, h124, h129⟩ := kChange.op hR105
    refine Q_pu (P_ia Try.underlying43 se43 A1 ad102 n2 c3 h17.len (i2 - 1) rfl hA104 rfl hb101) ?_
    refine Q_run (dj := 19) rfl rfl (by exact congrArg Value.bool hq68) ?_
    refine Q_pu (P_fa fa103_0 (ad102.add ((i2 - 1).toNat * 11)) ((ad102.add ((i2 - 1).toNat * 11)).add 0) rfl rfl) ?_
    refine Q_run (dj := 19) rfl rfl (by exact congrArg Value.bool hq68) ?_
    refine Q_pu (P_ld ag9 cQ ((ad102.add ((i2 - 1).toNat * 11)).add 0) (vs ((nth d (i2 - 1)).Id)) rfl (hcl106 0 _ rfl)) ?_
    refine Q_run (dj := 19) rfl rfl (by exact congrArg Value.bool hq68) ?_
    refine Q_pu (P_scmp ((nth d i2).Id) ((nth d (i2 - 1)).Id) (Op.bytesLess ((nth d i2).Id) ((nth d (i2 - 1)).Id) || ((nth d i2).Id) == ((nth d (i2 - 1)).Id)) rfl rfl rfl) ?_
    refine Q_run (dj := 16) rfl rfl (by exact congrArg Value.bool hq63) ?_
    refine Q_pu (P_pick true (vb (Op.bytesLess ((nth d i2).Id) ((nth d (i2 - 1)).Id) || ((nth d i2).Id) == ((nth d (i2 - 1)).Id))) (by exact congrArg Value.bool hq68) rfl) ?_
    refine Q_pu (P_pick false (vb (Op.bytesLess ((nth d i2).Id) ((nth d (i2 - 1)).Id) || ((nth d i2).Id) == ((nth d (i2 - 1)).Id))) (by exact congrArg Value.bool hq63) rfl) ?_
    refine Q_nil fun w131 g132 => ?_
    have hc134 := hc16.k0 g132
    refine W_cond (Op.bytesLess ((nth d i2).Id) ((nth d (i2 - 1)).Id) || ((nth d i2).Id) == ((nth d (i2 - 1)).Id)) rfl (fun hq135 => ?_) (fun hq135 => ?_)
    ·have H := ite_t H hq135
     refine W_seq ?_
     refine W_reg ?_
     refine L_pu (P_assign (vb false) rfl) ?_
     refine L_nil ?_
     refine W_ret ?_
     exact ⟨[vb false], ⟨_, rfl, rfl⟩, false, rfl, H, hc134.gr.g0⟩
    ·have H := ite_f H hq135
     refine W_skip ?_
     refine W_reg ?_
     refine L_pu (P_move (vi i2) rfl) ?_
     obtain ⟨hb137, H⟩ := H
     have hi136 : I64 (i2 + 1) := i64_succ (of_decide_eq_true hq25) hl24 hb137
     refine L_pu (P_add i2 1 rfl rfl hi136) ?_
     refine L_pu (P_assign (vi (i2 + 1)) rfl) ?_
     refine L_nil ?_
     obtain ⟨hI138, hm139⟩ := H
     exact ⟨i2 + 1, hm139, hI138, ⟨rfl, rfl, trivial⟩, hc134, (h17.st (.new _ g132))⟩
   ·have H := ite_f H hq68
    refine Q_pass (dj := 19) rfl rfl (.inl (by exact congrArg Value.bool hq68)) ?_
    refine Q_pass (dj := 19) rfl rfl (.inl (by exact congrArg Value.bool hq68)) ?_
    refine Q_pass (dj := 19) rfl rfl (.inl (by exact congrArg Value.bool hq68)) ?_
    refine Q_pass (dj := 19) rfl rfl (.inl (by exact congrArg Value.bool hq68)) ?_
    refine Q_pass (dj := 19) rfl rfl (.inl (by exact congrArg Value.bool hq68)) ?_
    refine Q_pass (dj := 19) rfl rfl (.inl (by exact congrArg Value.bool hq68)) ?_
    refine Q_pass (dj := 19) rfl rfl (.inl (by exact congrArg Value.bool hq68)) ?_
    refine Q_pass (dj := 19) rfl rfl (.inl (by exact congrArg Value.bool hq68)) ?_
    refine Q_pass (dj := 19) rfl rfl (.inl (by exact congrArg Value.bool hq68)) ?_
    refine Q_pass (dj := 19) rfl rfl (.inl (by exact congrArg Value.bool hq68)) ?_
    refine Q_pass (dj := 19) rfl rfl (.inl (by exact congrArg Value.bool hq68)) ?_
    refine Q_pass (dj := 19) rfl rfl (.inl (by exact congrArg Value.bool hq68)) ?_
    refine Q_run (dj := 16) rfl rfl (by exact congrArg Value.bool hq63) ?_
    refine Q_pu (P_pick false (vb false) (by exact congrArg Value.bool hq68) rfl) ?_
    refine Q_pu (P_pick false (vb false) (by exact congrArg Value.bool hq63) rfl) ?_
    refine Q_nil fun w140 g141 => ?_
    have hc143 := hc16.k0 g141
    refine W_cf (b := false) rfl rfl ?_
    refine W_skip ?_
    refine W_reg ?_
    refine L_pu (P_move (vi i2) rfl) ?_
    obtain ⟨hb145, H⟩ := H
    have hi144 : I64 (i2 + 1) := i64_succ (of_decide_eq_true hq25) hl24 hb145
    refine L_pu (P_add i2 1 rfl rfl hi144) ?_
    refine L_pu (P_assign (vi (i2 + 1)) rfl) ?_
    refine L_nil ?_
    obtain ⟨hI146, hm147⟩ := H
    exact ⟨i2 + 1, hm147, hI146, ⟨rfl, rfl, trivial⟩, hc143, (h17.st (.new _ g141))⟩
 ·have H := ite_f H hq25
  refine W_exit (xin_hit ?_)
  refine W_seq ?_
  refine W_reg ?_
  refine L_pu (P_move (.slice A1 n2 c3) rfl) ?_
  refine L_pu (P_len Try.underlying43 A1 n2 c3 h17.len rfl) ?_
  refine L_pu (P_cmp (d.length : Int) 16 (decide ((d.length : Int) ≤ 16)) rfl rfl rfl) ?_
  refine L_pu (P_assign (vb (decide ((d.length : Int) ≤ 16))) rfl) ?_
  refine L_nil ?_
  refine W_ret ?_
  exact ⟨[vb (decide ((d.length : Int) ≤ 16))], ⟨_, rfl, rfl⟩, decide ((d.length : Int) ≤ 16), rfl, H, hc16.gr.g0⟩
end Go.Proofs.Ytndjggncgpjolaa

namespace Go.Proofs.Ytndjggncgpjolaa
set_option linter.unusedVariables false
set_option linter.unusedSimpArgs false
set_option linter.unusedSectionVars false
theorem spec_DiffOk.law (d : List Change) (Q : Bool → Prop) (hq : Q (diffOk d)) : spec_DiffOk.E d Q := by
 unfold spec_DiffOk.E
 unfold diffOk at hq
 refine loop_all d.length (fun k => changeOk (nth d (k : Int)) && (decide (k = 0) || Op.bytesLess (nth d ((k : Int) - 1)).Id (nth d (k : Int)).Id)) (fun I mu k hk hp hn => ?_) (fun ha => ?_)
 ·have bad : (changeOk (nth d (k : Int)) && (decide (k = 0) || Op.bytesLess (nth d ((k : Int) - 1)).Id (nth d (k : Int)).Id)) = false → Q false := fun h => by
   rw [allN_false hk h, Bool.false_and] at hq; exact hq
  refine ⟨by omega, _, spec_l4One.law _ _ rfl, ?_⟩
  cases h1 : changeOk (nth d (k : Int)) with
  | false => rw [if_pos (by decide)]; exact bad (by rw [h1]; rfl)
  | true =>
   rw [if_neg (by decide)]
   by_cases hk0 : k = 0
   ·rw [if_neg (by rw [decide_eq_true_eq]; omega)]
    obtain ⟨i1, i2⟩ := hn (by rw [h1, decide_eq_true hk0]; rfl)
    exact ⟨by omega, i1, i2⟩
   ·rw [if_pos (by rw [decide_eq_true_eq]; omega)]
    refine ⟨by omega, fun _ => by unfold I64; omega, by omega, ?_⟩
    rw [← less_tri]
    cases h3 : Op.bytesLess (nth d ((k : Int) - 1)).Id (nth d (k : Int)).Id with
    | false => rw [if_pos (by decide)]; exact bad (by rw [h3, h1, decide_eq_false hk0]; rfl)
    | true =>
     rw [if_neg (by decide)]
     obtain ⟨i1, i2⟩ := hn (by rw [h3, h1, decide_eq_false hk0]; rfl)
     exact ⟨by omega, i1, i2⟩
 ·rw [allN_true ha, Bool.true_and] at hq
  have e2 : decide ((d.length : Int) ≤ 16) = decide (d.length ≤ 16) := decide_eq_decide.2 (by omega)
  rw [e2]; exact hq
end Go.Proofs.Ytndjggncgpjolaa

namespace Go.Proofs.Ytndjggncgpjolaa
open Go.RowKit
set_option linter.unusedVariables false
set_option linter.unusedSimpArgs false
def spec_l4Find.E (d : List Change) (id : Str) (Q : Int → Prop) : Prop :=
 (∃ (I19 : Int → Prop) (mu20 : Int → Nat), I19 0 ∧ ∀ (i2 : Int), I19 i2 → (if decide (i2 < (d.length : Int)) then ((0 : Int) ≤ i2 ∧ i2 < (d.length : Int)) ∧ (if ((nth d i2).Id) == id then Q i2 else (-9223372036854775808 ≤ i2) ∧ I19 (i2 + 1) ∧ mu20 (i2 + 1) < mu20 i2) else Q (-1)))
set_option maxHeartbeats 8000000 in
set_option maxRecDepth 100000 in
theorem spec_l4Find.calls {O : Ob} (w0 : World) (hO : Ok w0 O) (d : List Change) (A1 : Option Addr) (n2 c3 : Nat) (hp4 : Sl kChange w0 (Fr O) (.slice A1 n2 c3) d) (id : Str) (hs6 : Lim id) (Q : Int → Prop) (h : spec_l4Find.E d id Q) :
  Ret Try.prog 78 [.slice A1 n2 c3, vs id] w0 (fun v w' => ∃ (r0 : Int), v = vi r0 ∧ Q r0 ∧ Gr w0 w' none) := by
 have H : (∃ (I19 : Int → Prop) (mu20 : Int → Nat), I19 0 ∧ ∀ (i2 : Int), I19 i2 → (if decide (i2 < (d.length : Int)) then ((0 : Int) ≤ i2 ∧ i2 < (d.length : Int)) ∧ (if ((nth d i2).Id) == id then Q i2 else (-9223372036854775808 ≤ i2) ∧ I19 (i2 + 1) ∧ mu20 (i2 + 1) < mu20 i2) else Q (-1))) := h
 clear h
 have hc0 := Ct.init hO
 refine Ret_enter Try.func78 rfl 20 rfl [.tmp 4] rfl rfl ?_
 refine W_seq ?_
 refine W_reg ?_
 refine L_pu (P_assign (vi 0) rfl) ?_
 refine L_nil ?_
 refine W_seq ?_
 refine W_seq ?_
 refine W_reg ?_
 refine L_pu (P_assign (vi 0) rfl) ?_
 refine L_nil ?_
 refine W_block ?_
 obtain ⟨I19, mu20, hI21, H⟩ := H
 refine W_loop (α := Int) (fun (sv__ : Int) t w15 => match sv__ with | i2 => I19 i2 ∧ Has t [(0, .slice A1 n2 c3), (1, vs id), (5, vi i2)] ∧ Ct [] w0 w15 [] O ∧ Sl kChange w15 (Fr ([] ++ O)) (.slice A1 n2 c3) d) (fun (sv__ : Int) => match sv__ with | i2 => mu20 i2) 0 ⟨hI21, ⟨rfl, rfl, rfl, trivial⟩, hc0, hp4⟩ ?_
 rintro i2 _ w15 ⟨hI21, hh23, hc17, h18⟩
 obtain ⟨u24, rfl⟩ := Has.ins hh23
 have H := H i2 hI21
 refine W_seq ?_
 refine W_seq ?_
 refine W_reg ?_
 refine L_pu (P_move (vi i2) rfl) ?_
 refine L_pu (P_move (.slice A1 n2 c3) rfl) ?_
 have hl25 := h18.le
 refine L_pu (P_len Try.underlying43 A1 n2 c3 h18.len rfl) ?_
 refine L_pu (P_cmp i2 (d.length : Int) (decide (i2 < (d.length : Int))) rfl rfl rfl) ?_
 refine L_nil ?_
 refine W_cond (decide (i2 < (d.length : Int))) rfl (fun hq26 => ?_) (fun hq26 => ?_)
 ·have H := ite_t H hq26
  refine W_skip ?_
  refine W_seq ?_
  refine W_block ?_
  refine W_seq ?_
  refine W_reg ?_
  refine L_pu (P_move (.slice A1 n2 c3) rfl) ?_
  refine L_pu (P_move (vi i2) rfl) ?_
  obtain ⟨hb27, H⟩ := H
  obtain ⟨ad28, cs29, hA30, hS33, hR31, hcl32⟩ := h18.get default (by decide) i2 hb27
  obtain ⟨A36, n37, c38, A41, n42, c43, A47, n48, c49, A52, n53, c54, rfl, hs34, hs35, h39, h44, hs46, h50, h55⟩ := kChange.op hR31
  refine L_pu (P_ia Try.underlying43 se43 A1 ad28 n2 c3 h18.len i2 rfl hA30 rfl hb27) ?_
  refine L_pu (P_fa fa103_0 (ad28.add (i2.toNat * 11)) ((ad28.add (i2.toNat * 11)).add 0) rfl rfl) ?_
  refine L_pu (P_ld ag9 cL ((ad28.add (i2.toNat * 11)).add 0) (vs ((nth d i2).Id)) rfl (hcl32 0 _ rfl)) ?_
  refine L_pu (P_move (vs id) rfl) ?_
  refine L_pu (P_scmp ((nth d i2).Id) id (((nth d i2).Id) == id) rfl rfl rfl) ?_
  refine L_nil ?_
  refine W_cond (((nth d i2).Id) == id) rfl (fun hq57 => ?_) (fun hq57 => ?_)
  ·have H := ite_t H hq57
   refine W_seq ?_
   refine W_reg ?_
   refine L_pu (P_move (vi i2) rfl) ?_
   refine L_pu (P_assign (vi i2) rfl) ?_
   refine L_nil ?_
   refine W_ret ?_
   exact ⟨[vi i2], ⟨_, rfl, rfl⟩, i2, rfl, H, hc17.gr.g0⟩
  ·have H := ite_f H hq57
   refine W_skip ?_
   refine W_reg ?_
   refine L_pu (P_move (vi i2) rfl) ?_
   obtain ⟨hb59, H⟩ := H
   have hi58 : I64 (i2 + 1) := i64_succ (of_decide_eq_true hq26) hl25 hb59
   refine L_pu (P_add i2 1 rfl rfl hi58) ?_
   refine L_pu (P_assign (vi (i2 + 1)) rfl) ?_
   refine L_nil ?_
   obtain ⟨hI60, hm61⟩ := H
   exact ⟨i2 + 1, hm61, hI60, ⟨rfl, rfl, rfl, trivial⟩, hc17, h18⟩
 ·have H := ite_f H hq26
  refine W_exit (xin_hit ?_)
  refine W_seq ?_
  refine W_reg ?_
  refine L_pu (P_assign (vi (-1)) rfl) ?_
  refine L_nil ?_
  refine W_ret ?_
  exact ⟨[vi (-1)], ⟨_, rfl, rfl⟩, (-1), rfl, H, hc17.gr.g0⟩
end Go.Proofs.Ytndjggncgpjolaa

namespace Go.Proofs.Ytndjggncgpjolaa
set_option linter.unusedVariables false
set_option linter.unusedSimpArgs false
set_option linter.unusedSectionVars false
def findN (n : Nat) (c : Nat → Bool) : Int := match (List.range n).find? c with | some k => (k : Int) | none => -1
theorem findN_hit {n k : Nat} {c : Nat → Bool} (hk : k < n) (h : c k = true) (hp : ∀ j, j < k → c j = false) : findN n c = (k : Int) := by
  unfold findN
  have : (List.range n).find? c = some k := by
    rw [List.find?_range_eq_some]
    exact ⟨h, List.mem_range.2 hk, fun j hj => by rw [hp j hj]; rfl⟩
  rw [this]
theorem findN_none {n : Nat} {c : Nat → Bool} (h : ∀ j, j < n → c j = false) : findN n c = -1 := by
  unfold findN
  have : (List.range n).find? c = none := by
    rw [List.find?_eq_none]; intro j hj; rw [h j (List.mem_range.1 hj)]; exact Bool.false_ne_true
  rw [this]
theorem findN_le (n : Nat) (c : Nat → Bool) : -1 ≤ findN n c ∧ findN n c < n := by
  unfold findN
  cases h : (List.range n).find? c with
  | none => exact ⟨Int.le_refl _, by dsimp only; omega⟩
  | some k => have := List.mem_range.1 (List.mem_of_find?_eq_some h); exact ⟨by dsimp only; omega, by dsimp only; omega⟩
theorem loop_find (n : Nat) (c : Nat → Bool) {B : (Int → Prop) → (Int → Nat) → Int → Prop} {Q : Int → Prop} (hq : Q (findN n c))
    (hs : ∀ (I : Int → Prop) (mu : Int → Nat) (k : Nat), k < n → (c k = true → Q (k : Int)) → (c k = false → I ((k : Int) + 1) ∧ mu ((k : Int) + 1) < mu (k : Int)) → B I mu (k : Int)) :
    ∃ (I : Int → Prop) (mu : Int → Nat), I 0 ∧ ∀ (i : Int), I i → (if decide (i < (n : Int)) then B I mu i else Q (-1)) := by
  refine loop_all n (fun k => !(c k)) (fun I mu k hk hp hn => hs I mu k hk (fun h => ?_) (fun h => hn (by rw [h]; rfl))) (fun ha => ?_)
  · rw [findN_hit hk h (fun j hj => by have := hp j hj; rwa [Bool.not_eq_true'] at this)] at hq; exact hq
  · rw [findN_none (fun j hj => by have := ha j hj; rwa [Bool.not_eq_true'] at this)] at hq; exact hq
section
variable {α : Type} [Inhabited α] [DecidableEq α]
end
end Go.Proofs.Ytndjggncgpjolaa

namespace Go.Proofs.Ytndjggncgpjolaa
open Go.RowKit Go.Shelf Go.Sort Go.Lib
set_option linter.unusedSimpArgs false
set_option linter.unusedVariables false
theorem strs_arr {w : World} {S : Sp} : ∀ {xs : List Str} {cs : List Value}, Arr Kd.str w S xs cs → cs = xs.map vs ∧ ∀ x ∈ xs, Lim x
  | [], _, h => ⟨h, fun x hx => by cases hx⟩
  | x :: xs, _, ⟨c1, c2, e, h1, h2⟩ => by
    obtain ⟨e2, h3⟩ := strs_arr h2
    refine ⟨by rw [e, h1.1, e2]; rfl, fun y hy => ?_⟩
    rcases List.mem_cons.1 hy with rfl | hy
    · exact h1.2
    · exact h3 y hy
theorem arr_strs {w : World} {S : Sp} : ∀ {xs : List Str}, (∀ x ∈ xs, Lim x) → Arr Kd.str w S xs (xs.map vs)
  | [], _ => rfl
  | x :: xs, h => ⟨[vs x], xs.map vs, rfl, ⟨rfl, h x List.mem_cons_self⟩, arr_strs fun y hy => h y (List.mem_cons_of_mem _ hy)⟩
theorem heap_put (w : World) (q g : Nat) (ys : List Str) (os : Array Obj) (b : Nat) (hb : b < w.heap.size) (hne : b ≠ g) : (grow (putRow encStr (Sort.ahead w q) g 0 ys.toArray) os).heap[b]? = w.heap[b]? := by
  have h1 : (w.heap.modify g (onCells (putCells encStr 0 ys.toArray))).size = w.heap.size := Array.size_modify
  simp only [grow, putRow, mapBlock, Sort.ahead]
  rw [Array.getElem?_append_left (by rw [h1]; exact hb), Array.getElem?_modify, if_neg (fun e => hne e.symm)]
theorem Ow.putS {e : TypeId} {w : World} {O : Ob} {g n c : Nat} {xs : List Str} (h : Ow Kd.str e w O (.slice (some ⟨g, 0, none⟩) n c) xs) (ys : List Str) (hl : ys.length = xs.length) (hy : ∀ y ∈ ys, Lim y) (q : Nat) (os : Array Obj) (hx : 0 < xs.length) :
    Gr w (grow (putRow encStr (Sort.ahead w q) g 0 ys.toArray) os) (some g) ∧ Ow Kd.str e (grow (putRow encStr (Sort.ahead w q) g 0 ys.toArray) os) O (.slice (some ⟨g, 0, none⟩) n c) ys := by
  have hgl := h.ltb g rfl
  have h1 : (w.heap.modify g (onCells (putCells encStr 0 ys.toArray))).size = w.heap.size := Array.size_modify
  refine ⟨⟨rfl, rfl, rfl, ?_, fun b hb hn => heap_put w q g ys os b hb fun e => hn (by rw [e])⟩, ?_⟩
  · simp only [grow, putRow, mapBlock, Sort.ahead, Array.size_append, h1]; omega
  obtain ⟨cells, o1, o2, o3⟩ := h
  rcases o1.2 with ⟨_, e'⟩ | ⟨g', cap, cur, ev, h0, hg, hle, hmx, hcur, htake⟩
  · omega
  · cases ev
    have hk : Kd.str.sz = 1 := rfl
    refine ⟨ys.map vs, ⟨by rw [List.length_map, hk, Nat.mul_one], .inr ⟨g, c, putCells encStr 0 ys.toArray cur, by rw [hl], h0, ?_, by rw [hl]; exact hle, hmx, ?_, ?_⟩⟩, arr_strs hy, o3⟩
    · simp only [grow, putRow, mapBlock, Sort.ahead]
      rw [Array.getElem?_append_left (by rw [h1]; exact hgl), Array.getElem?_modify, if_pos rfl, hg]; rfl
    · rw [putCells, Array.size_mapIdx]; exact hcur
    · rw [hk, Nat.mul_one]
      have hc1 : xs.length ≤ cur.size := by rw [hcur, hk, Nat.mul_one]; exact hle
      apply List.ext_getElem?
      intro j
      rw [List.getElem?_take, List.getElem?_map]
      by_cases hj : j < ys.length
      · rw [if_pos hj, putCells, Array.getElem?_toList, Array.getElem?_mapIdx, Array.getElem?_eq_getElem (by omega), List.getElem?_eq_getElem hj]
        simp only [Option.map_some, Nat.zero_le, true_and, Nat.zero_add, List.size_toArray, hj, if_true, Nat.sub_zero]
        simp [hj]
      · rw [if_neg hj, List.getElem?_eq_none (by omega)]; rfl
theorem Ow.holds {e : TypeId} {w : World} {O : Ob} {g n c : Nat} {xs : List Str} (h : Ow Kd.str e w O (.slice (some ⟨g, 0, none⟩) n c) xs) : Holds encStr w g 0 xs.toArray := by
  obtain ⟨cells, o1, o2, o3⟩ := h
  obtain ⟨e2, _⟩ := strs_arr o2
  intro j hj
  simp only [List.size_toArray] at hj
  rcases o1.2 with ⟨_, e'⟩ | ⟨g', cap, cur, ev, h0, hg, hle, hmx, hcur, htake⟩
  · omega
  · cases ev
    have hc := World.ownsRow.cells o1 (g := g) rfl j (vs xs[j]) (by rw [e2]; simp [hj])
    have ha : (⟨g, 0, none⟩ : Addr).add j = ⟨g, 0 + j, none⟩ := by unfold Addr.add; split <;> simp_all
    rw [ha] at hc
    refine ⟨by rw [hc]; simp [hj], ?_⟩
    simp [World.frozen?, hg]
def sortS (xs : List Str) : List Str := xs.mergeSort fun x y => decide (x ≤ y)
theorem Ow.form {e : TypeId} {w : World} {O : Ob} {A : Option Addr} {n c : Nat} {xs : List Str} (h : Ow Kd.str e w O (.slice A n c) xs) (hx : 0 < xs.length) : ∃ g, A = some ⟨g, 0, none⟩ ∧ n = xs.length ∧ xs.length ≤ c ∧ g < w.heap.size := by
  obtain ⟨cells, o1, o2, o3⟩ := h
  rcases o1.2 with ⟨_, e'⟩ | ⟨g', cap, cur, ev, h0, hg, hle, hmx, hcur, htake⟩
  · omega
  · cases ev; exact ⟨g', rfl, rfl, hle, (Array.getElem?_eq_some_iff.1 hg).1⟩
theorem Ow.lims {e : TypeId} {w : World} {O : Ob} {v : Value} {xs : List Str} (h : Ow Kd.str e w O v xs) : ∀ x ∈ xs, Lim x := by
  obtain ⟨cells, o1, o2, o3⟩ := h
  exact (strs_arr o2).2
end Go.Proofs.Ytndjggncgpjolaa

namespace Go.Proofs
open Go.Shelf
def Try.lays190_ren : Go.Shelf.Ren := ⟨fun | 190 => 83 | 125 => 128 | 258 => 127 | 128 => 163 | 129 => 164 | 302 => 154 | 303 => 155 | 304 => 156 | 305 => 157 | 306 => 158 | 307 => 159 | 308 => 160 | 309 => 161 | 310 => 162 | 333 => 173 | 329 => 174 | 330 => 175 | 334 => 176 | 335 => 177 | 336 => 178 | 344 => 180 | n => n, fun | 31 => 72 | 9 => 9 | 3 => 3 | 46 => 162 | 0 => 0 | 51 => 193 | 53 => 195 | 4 => 4 | 183 => 185 | 182 => 184 | 131 => 190 | 5 => 5 | 218 => 205 | 222 => 209 | 228 => 212 | 229 => 213 | n => n, fun | n => n⟩
theorem Try.lays190 : Go.Proofs.Lays.n190 Try.prog Try.lays190_ren := {
  mixed := by kernel_rfl
  f125 := Try.func128.trans (congrArg some (by kernel_rfl))
  f128 := Try.func163.trans (congrArg some (by kernel_rfl))
  f129 := Try.func164.trans (congrArg some (by kernel_rfl))
  f190 := Try.func83.trans (congrArg some (by kernel_rfl))
  f258 := Try.func127.trans (congrArg some (by kernel_rfl))
  f302 := Try.func154.trans (congrArg some (by kernel_rfl))
  f303 := Try.func155.trans (congrArg some (by kernel_rfl))
  f304 := Try.func156.trans (congrArg some (by kernel_rfl))
  f305 := Try.func157.trans (congrArg some (by kernel_rfl))
  f306 := Try.func158.trans (congrArg some (by kernel_rfl))
  f307 := Try.func159.trans (congrArg some (by kernel_rfl))
  f308 := Try.func160.trans (congrArg some (by kernel_rfl))
  f309 := Try.func161.trans (congrArg some (by kernel_rfl))
  f310 := Try.func162.trans (congrArg some (by kernel_rfl))
  f329 := Try.func174.trans (congrArg some (by kernel_rfl))
  f330 := Try.func175.trans (congrArg some (by kernel_rfl))
  f333 := Try.func173.trans (congrArg some (by kernel_rfl))
  f334 := Try.func176.trans (congrArg some (by kernel_rfl))
  f335 := Try.func177.trans (congrArg some (by kernel_rfl))
  f336 := Try.func178.trans (congrArg some (by kernel_rfl))
  f344 := Try.func180.trans (congrArg some (by kernel_rfl))
  t0 := Try.underlying0
  a0 := Try.isAgg0
  z0 := Try.sizeOf0
  v0 := Try.zeroValue0
  t3 := Try.underlying3
  a3 := Try.isAgg3
  z3 := Try.sizeOf3
  v3 := Try.zeroValue3
  t4 := Try.underlying4
  a4 := Try.isAgg4
  z4 := Try.sizeOf4
  v4 := Try.zeroValue4
  t5 := Try.underlying5
  a5 := Try.isAgg5
  z5 := Try.sizeOf5
  v5 := Try.zeroValue5
  t9 := Try.underlying9
  a9 := Try.isAgg9
  z9 := Try.sizeOf9
  v9 := Try.zeroValue9
  t31 := Try.underlying72
  a31 := Try.isAgg72
  z31 := Try.sizeOf72
  v31 := Try.zeroValue72
  t46 := Try.underlying162
  a46 := Try.isAgg162
  z46 := Try.sizeOf162
  v46 := Try.zeroValue162
  t51 := Try.underlying193
  a51 := Try.isAgg193
  z51 := Try.sizeOf193
  v51 := Try.zeroValue193
  t53 := Try.underlying195
  a53 := Try.isAgg195
  z53 := Try.sizeOf195
  v53 := Try.zeroValue195
  t131 := Try.underlying190
  a131 := Try.isAgg190
  z131 := Try.sizeOf190
  v131 := Try.zeroValue190
  t182 := Try.underlying184
  a182 := Try.isAgg184
  z182 := Try.sizeOf184
  v182 := Try.zeroValue184
  t183 := Try.underlying185
  a183 := Try.isAgg185
  z183 := Try.sizeOf185
  v183 := Try.zeroValue185
  t218 := Try.underlying205
  a218 := Try.isAgg205
  z218 := Try.sizeOf205
  v218 := Try.zeroValue205
  t222 := Try.underlying209
  a222 := Try.isAgg209
  z222 := Try.sizeOf209
  v222 := Try.zeroValue209
  t228 := Try.underlying212
  a228 := Try.isAgg212
  z228 := Try.sizeOf212
  v228 := Try.zeroValue212
  t229 := Try.underlying213
  a229 := Try.isAgg213
  z229 := Try.sizeOf213
  v229 := Try.zeroValue213 }
open Go.Sort Go.RowKit in
theorem Try.slices_Sort_string (blk off cap : Nat) (ss : List (List UInt8)) (w : World) (hH : Holds encStr w blk off ss.toArray) (hblk : blk < w.heap.size) (hsz : ss.length < 4611686018427387904) :
    Calls Try.prog 83 #[.slice (some ⟨blk, off, none⟩) ss.length cap] w fun e w' =>
      e = .returned (.tuple #[]) ∧ ∃ n os, w' = grow (putRow encStr (Sort.ahead w n) blk off (ss.mergeSort fun x y => decide (x ≤ y)).toArray) os := Any.slices_Sort_string Try.lays190 blk off cap ss w hH hblk hsz
def Try.lays194_ren : Go.Shelf.Ren := ⟨fun | 194 => 84 | n => n, fun | 31 => 72 | 9 => 9 | 3 => 3 | 4 => 4 | 0 => 0 | n => n, fun | n => n⟩
theorem Try.lays194 : Go.Proofs.Lays.n194 Try.prog Try.lays194_ren := {
  mixed := by kernel_rfl
  f194 := Try.func84.trans (congrArg some (by kernel_rfl))
  t0 := Try.underlying0
  a0 := Try.isAgg0
  z0 := Try.sizeOf0
  v0 := Try.zeroValue0
  t3 := Try.underlying3
  a3 := Try.isAgg3
  z3 := Try.sizeOf3
  v3 := Try.zeroValue3
  t4 := Try.underlying4
  a4 := Try.isAgg4
  z4 := Try.sizeOf4
  v4 := Try.zeroValue4
  t9 := Try.underlying9
  a9 := Try.isAgg9
  z9 := Try.sizeOf9
  v9 := Try.zeroValue9
  t31 := Try.underlying72
  a31 := Try.isAgg72
  z31 := Try.sizeOf72
  v31 := Try.zeroValue72 }
open Go.RowKit Go.Lib Go.Sort in
open Go.RowKit Go.Lib Go.Sort in
theorem Try.slices_Compact_string (blk off cap : Nat) (zs : List (List UInt8)) (w : World) (hH : Holds encStr w blk off zs.toArray) (hsz : zs.length ≤ 9223372036854775807) (hcap : zs.length ≤ cap) :
    Calls Try.prog 84 #[.slice (some ⟨blk, off, none⟩) zs.length cap] w fun e w' => e = .returned (.slice (some ⟨blk, off, none⟩) (Lib.compact zs).length cap) ∧ ∃ q, w' = putRow encStr (Sort.ahead w q) blk off (Lib.compact zs ++ List.replicate (zs.length - (Lib.compact zs).length) []).toArray := Any.slices_Compact_string Try.lays194 blk off cap zs w hH hsz hcap
open Go.RowKit Go.Lib Go.Sort in
theorem Try.slices_Compact_string_empty (a : Option Addr) (cap : Nat) (w : World) :
    Calls Try.prog 84 #[.slice a 0 cap] w fun e w' => e = .returned (.slice a 0 cap) ∧ w' = w := Any.slices_Compact_string_empty Try.lays194 a cap w
open Go.RowKit Go.Lib Go.Sort in
open Go.RowKit Go.Sort in
theorem Try.slices_Sort_string_none (p : Option Addr) (cap : Nat) (w : World) :
    Calls Try.prog 83 #[.slice p 0 cap] w fun e w' => e = .returned (.tuple #[]) ∧ w' = w := Any.slices_Sort_string_none Try.lays190 p cap w
end Go.Proofs

namespace Go.Proofs.Ytndjggncgpjolaa
open Go.RowKit
set_option linter.unusedVariables false
set_option linter.unusedSimpArgs false
open Go.Shelf Go.Sort Go.Lib
def slices_Compact_string.E (x : List Str) (Q : List Str → Prop) : Prop := x.length ≤ 268435456 ∧ Q (Lib.compact x)
theorem compact_le (x : List Str) : (Lib.compact x).length ≤ x.length := by
 unfold Lib.compact Lib.compactUpTo
 rw [List.length_map]
 exact Nat.le_trans (List.length_filter_le _ _) (by rw [List.length_range]; exact Nat.le_refl _)
theorem compact_mem {x : List Str} {y : Str} (h : y ∈ Lib.compact x) : y ∈ x := by
 unfold Lib.compact Lib.compactUpTo at h
 obtain ⟨j, hj, rfl⟩ := List.mem_map.1 h
 have hl : j < x.length := List.mem_range.1 (List.mem_filter.1 hj).1
 simp [hl]
theorem slices_Compact_string.calls {O : Ob} (w0 : World) (hO : Ok w0 O) (A : Option Addr) (n c : Nat) (x : List Str) (hp : Ow Kd.str 9 w0 O (.slice A n c) x) (Q : List Str → Prop) (h : slices_Compact_string.E x Q) :
  Ret Try.prog 84 [.slice A n c] w0 (fun v w' => ∃ (m0 : List Str) (l : Nat), v = .slice A l c ∧ Q m0 ∧ Gr w0 w' (blk (.slice A n c)) ∧ Ow Kd.str 9 w' O (.slice A l c) m0) := by
 obtain ⟨hl, hq⟩ := h
 by_cases hx : 0 < x.length
 ·obtain ⟨g, rfl, rfl, hc, hg⟩ := hp.form hx
  refine Calls.mono (Try.slices_Compact_string g 0 c x w0 hp.holds (by omega) hc) fun e w' ⟨he, q, hw⟩ => ?_
  have hcl := compact_le x
  rw [← grow_empty (putRow encStr (Sort.ahead w0 q) g 0 _)] at hw
  subst he; subst hw
  obtain ⟨h1, h2⟩ := hp.putS (Lib.compact x ++ List.replicate (x.length - (Lib.compact x).length) []) (by rw [List.length_append, List.length_replicate]; omega) (fun y hy => by
   rcases List.mem_append.1 hy with hy | hy
   ·exact hp.lims y (compact_mem hy)
   ·rw [List.eq_of_mem_replicate hy]; decide) q #[] hx
  have h3 := h2.cut (Lib.compact x).length (by rw [List.length_append]; omega)
  rw [List.take_left'] at h3
  ·exact ⟨_, rfl, Lib.compact x, _, rfl, hq, h1, h3⟩
  ·rfl
 ·have e0 : x = [] := List.length_eq_zero_iff.1 (by omega)
  subst e0
  obtain rfl : n = 0 := hp.len
  refine Calls.mono (Try.slices_Compact_string_empty A c w0) fun e w' ⟨he, hw⟩ => ?_
  subst he; subst hw
  exact ⟨_, rfl, [], _, rfl, hq, Gr.refl _ _, hp⟩
end Go.Proofs.Ytndjggncgpjolaa

namespace Go.Proofs.Ytndjggncgpjolaa
set_option linter.unusedVariables false
set_option linter.unusedSimpArgs false
set_option linter.unusedSectionVars false
theorem less_trans : ∀ {a b c : Str}, Op.bytesLess a b = true → Op.bytesLess b c = true → Op.bytesLess a c = true
  | _, _, [], _, h => by rename_i b _; cases b <;> simp [Op.bytesLess] at h
  | _, [], _ :: _, h, _ => by rename_i a _ _ _; cases a <;> simp [Op.bytesLess] at h
  | [], _ :: _, _ :: _, _, _ => by simp [Op.bytesLess]
  | x :: a, y :: b, z :: c, h1, h2 => by
    rw [Op.bytesLess] at h1 h2 ⊢
    simp only [Bool.or_eq_true, Bool.and_eq_true, decide_eq_true_eq, beq_iff_eq] at h1 h2 ⊢
    rcases h1 with h1 | ⟨rfl, h1⟩
    · rcases h2 with h2 | ⟨rfl, h2⟩
      · exact .inl (UInt8.lt_trans h1 h2)
      · exact .inl h1
    · rcases h2 with h2 | ⟨rfl, h2⟩
      · exact .inl h2
      · exact .inr ⟨rfl, less_trans h1 h2⟩
theorem less_asym {a b : Str} (h : Op.bytesLess a b = true) : Op.bytesLess b a = false := by
  cases e : Op.bytesLess b a with
  | false => rfl
  | true => have := less_trans h e; rw [less_irr] at this; cases this
theorem less_or {a b : Str} (h : Op.bytesLess a b = false) : Op.bytesLess b a = true ∨ b = a := by
  have := less_tri a b
  rw [h] at this
  simpa using this.symm
def SS (l : List Str) : Prop := l.Pairwise fun x y => Op.bytesLess x y = true
theorem SS.ext : ∀ {l m : List Str}, SS l → SS m → (∀ x, x ∈ l ↔ x ∈ m) → l = m
  | [], [], _, _, _ => rfl
  | [], y :: m, _, _, h => by have := (h y).2 List.mem_cons_self; cases this
  | x :: l, [], _, _, h => by have := (h x).1 List.mem_cons_self; cases this
  | x :: l, y :: m, hl, hm, h => by
    obtain ⟨l1, l2⟩ := List.pairwise_cons.1 hl
    obtain ⟨m1, m2⟩ := List.pairwise_cons.1 hm
    have e : x = y := by
      rcases List.mem_cons.1 ((h x).1 List.mem_cons_self) with e | e
      · exact e
      · rcases List.mem_cons.1 ((h y).2 List.mem_cons_self) with e' | e'
        · exact e'.symm
        · have := less_trans (m1 x e) (l1 y e'); rw [less_irr] at this; cases this
    subst e
    rw [SS.ext l2 m2 fun z => ⟨fun hz => ?_, fun hz => ?_⟩]
    · rcases List.mem_cons.1 ((h z).1 (List.mem_cons_of_mem _ hz)) with e | e
      · subst e; have := l1 z hz; rw [less_irr] at this; cases this
      · exact e
    · rcases List.mem_cons.1 ((h z).2 (List.mem_cons_of_mem _ hz)) with e | e
      · subst e; have := m1 z hz; rw [less_irr] at this; cases this
      · exact e
theorem le_less (x y : Str) : decide (x ≤ y) = !(Op.bytesLess y x) := by
  rw [bytesLess_eq]
  by_cases h : y < x
  · rw [decide_eq_true h, decide_eq_false (by rw [List.not_le]; exact h)]; rfl
  · rw [decide_eq_false h, decide_eq_true (List.not_lt.1 h)]; rfl
theorem sortS_le (l : List Str) : (sortS l).Pairwise fun x y => Op.bytesLess y x = false := by
  have h := List.pairwise_mergeSort (le := fun x y : Str => decide (x ≤ y)) (fun a b c h1 h2 => by
    rw [le_less, Bool.not_eq_true'] at h1 h2 ⊢
    cases e : Op.bytesLess c a with
    | false => rfl
    | true =>
      rcases less_or h1 with h3 | h3
      · have := less_trans e h3; rw [h2] at this; cases this
      · subst h3; rw [h2] at e; cases e) (fun a b => by
    rw [le_less, le_less]
    cases e : Op.bytesLess b a with
    | false => rfl
    | true => rw [less_asym e]; rfl) l
  exact h.imp fun {x y} h => by rw [le_less, Bool.not_eq_true'] at h; exact h
theorem sortS_mem {l : List Str} {x : Str} : x ∈ sortS l ↔ x ∈ l := List.mem_mergeSort
section
open Go.Lib
theorem compact_of (l : List Str) (h : l.Pairwise fun x y => Op.bytesLess y x = false) : SS (compact l) ∧ ∀ x, x ∈ compact l ↔ x ∈ l := by
  have hle : ∀ i j, i ≤ j → j < l.length → Op.bytesLess (l.toArray[j]!) (l.toArray[i]!) = false := fun i j hij hj => by
    have hi : i < l.length := by omega
    simp only [List.getElem!_toArray, getElem!_pos l i hi, getElem!_pos l j hj]
    rcases Nat.lt_or_eq_of_le hij with hlt | rfl
    · exact List.pairwise_iff_getElem.1 h i j hi hj hlt
    · exact less_irr _
  constructor
  · unfold compact compactUpTo SS
    rw [List.pairwise_map, List.pairwise_filter]
    refine List.pairwise_iff_getElem.2 fun i j hi hj hij => ?_
    simp only [List.length_range] at hi hj
    simp only [List.getElem_range]
    intro _ hk
    have hj0 : 0 < j := by omega
    have hne : l.toArray[j]! ≠ l.toArray[j - 1]! := fun e => by rw [keeps_neg hj0 e] at hk; cases hk
    have h1 : Op.bytesLess (l.toArray[j - 1]!) (l.toArray[j]!) = true := by
      rcases less_or (hle (j - 1) j (by omega) hj) with h2 | h2
      · exact h2
      · exact absurd h2.symm hne
    rcases less_or (hle i (j - 1) (by omega) (by omega)) with h3 | h3
    · exact less_trans h3 h1
    · rw [h3]; exact h1
  · intro x
    constructor
    · exact compact_mem
    · intro hx
      obtain ⟨k, hk, rfl⟩ := List.getElem_of_mem hx
      have key : ∀ k, k < l.length → l.toArray[k]! ∈ compact l := by
        intro k
        induction k using Nat.strongRecOn with
        | _ k ih =>
          intro hk
          cases e : keeps l.toArray k with
          | true =>
            unfold compact compactUpTo
            exact List.mem_map.2 ⟨k, List.mem_filter.2 ⟨List.mem_range.2 hk, e⟩, rfl⟩
          | false =>
            have hk0 : 0 < k := by
              rcases Nat.eq_zero_or_pos k with h0 | h0
              · subst h0; rw [keeps_lt_one _ 0 (by omega)] at e; cases e
              · exact h0
            have he : l.toArray[k]! = l.toArray[k - 1]! := Classical.byContradiction fun hne => by rw [keeps_pos hne] at e; cases e
            rw [he]; exact ih (k - 1) (by omega) (by omega)
      have := key k hk
      simpa [getElem!_pos l k hk] using this
end
def uniq (l : List Str) : List Str := Lib.compact (sortS l)
theorem uniq_ss (l : List Str) : SS (uniq l) := (compact_of _ (sortS_le l)).1
theorem uniq_mem {l : List Str} {x : Str} : x ∈ uniq l ↔ x ∈ l := ((compact_of _ (sortS_le l)).2 x).trans sortS_mem
def ids (s : List Feat) : List Str := s.map (·.Id)
theorem word_len {s : Str} (h : wordOk s = true) : s.length ≤ 6 := by
  unfold wordOk at h
  simp only [Bool.and_eq_true, decide_eq_true_eq] at h
  exact h.2.2
theorem bulk_small {α : Type} [Bulk α] (l : List α) (m : Nat) (h : ∀ x ∈ l, bulk x ≤ m) : bulk l ≤ l.length * (m + 1) := by
  induction l with
  | nil => exact Nat.zero_le _
  | cons x l ih =>
    have h1 := h x List.mem_cons_self
    have h2 := ih fun y hy => h y (List.mem_cons_of_mem _ hy)
    rw [bulk_cons, List.length_cons, Nat.add_mul]
    omega
theorem feat_small {f : Feat} (h : featOk f = true) : bulk f ≤ 100 ∧ f.Id.length ≤ 6 := by
  unfold featOk at h
  simp only [Bool.and_eq_true, decide_eq_true_eq] at h
  obtain ⟨⟨⟨h1, h2⟩, h3⟩, h4⟩ := h
  have hi := word_len h3
  have e1 : bulk f = bulk f.Id + (bulk f.Shape.Kind + bulk f.Shape.Pts) + bulk f.Tags := rfl
  have e2 : bulk f.Id = f.Id.length := bulk_str _
  have e3 : bulk f.Shape.Kind = 0 := rfl
  have e4 : bulk f.Shape.Pts = f.Shape.Pts.length := bulk_flat (fun _ => rfl) _
  have ht : bulk f.Tags ≤ f.Tags.length * (12 + 1) := bulk_small _ 12 fun t hm => by
    unfold tagsOk at h1
    obtain ⟨k, hk, rfl⟩ := List.getElem_of_mem hm
    have := allN_iff.1 h1 k hk
    rw [nth_nat _ hk] at this
    simp only [Bool.and_eq_true] at this
    have a1 := word_len this.1.1
    have a2 := word_len this.1.2
    have b0 : bulk f.Tags[k] = bulk f.Tags[k].Key + bulk f.Tags[k].Val := rfl
    have b1 : bulk f.Tags[k].Key = f.Tags[k].Key.length := bulk_str _
    have b2 : bulk f.Tags[k].Val = f.Tags[k].Val.length := bulk_str _
    omega
  have hp : f.Shape.Pts.length ≤ 6 := by
    unfold shapeOk kindOk at h4
    simp only [Bool.and_eq_true] at h4
    have := h4.2
    split at this
    · simp only [decide_eq_true_eq] at this; omega
    · split at this
      · simp only [Bool.and_eq_true, decide_eq_true_eq] at this; omega
      · split at this
        · simp only [Bool.and_eq_true, decide_eq_true_eq] at this; omega
        · cases this
  have : f.Tags.length * (12 + 1) ≤ 52 := by omega
  omega
theorem uniq_len (l : List Str) : (uniq l).length ≤ l.length := by
  unfold uniq
  have := compact_le (sortS l)
  have h2 : (sortS l).length = l.length := List.length_mergeSort _
  omega
end Go.Proofs.Ytndjggncgpjolaa

namespace Go.Proofs.Ytndjggncgpjolaa
set_option linter.unusedVariables false
set_option linter.unusedSimpArgs false
set_option linter.unusedSectionVars false
def decA : Nat → Int → Str → Str
  | 0, _, out => out
  | f + 1, k, out => if 0 < k then decA f (k / 10) (UInt8.ofNat (48 + k % 10).toNat :: out) else out
theorem decA_stop (f : Nat) {k : Int} (h : ¬ 0 < k) (out : Str) : decA f k out = out := by
  cases f with
  | zero => rfl
  | succ f => unfold decA; rw [if_neg h]
def tx (k : Int) : Str := if k ≤ 0 then [109, 48] else [109] ++ decA k.toNat k []
def mkL {α : Type} (g : α → Int → α × Int) : List α → Int → List α × Int
  | [], k => ([], k)
  | x :: l, k => ((g x k).1 :: (mkL g l (g x k).2).1, (mkL g l (g x k).2).2)
section
variable {α : Type} {g : α → Int → α × Int}
theorem mkL_snoc (x : α) : ∀ (l : List α) (k : Int), mkL g (l ++ [x]) k = ((mkL g l k).1 ++ [(g x (mkL g l k).2).1], (g x (mkL g l k).2).2)
  | [], k => rfl
  | y :: l, k => by
    rw [List.cons_append, mkL, mkL_snoc x l]; rfl
theorem mkL_len : ∀ (l : List α) (k : Int), (mkL g l k).1.length = l.length
  | [], k => rfl
  | y :: l, k => by rw [mkL, List.length_cons, List.length_cons, mkL_len l]
theorem mkL_bd [Bulk α] (hb : ∀ x k, k ≤ (g x k).2 ∧ (g x k).2 ≤ k + 8 * (1 + (bulk x : Nat))) : ∀ (l : List α) (k : Int), k ≤ (mkL g l k).2 ∧ (mkL g l k).2 ≤ k + 8 * (bulk l : Nat)
  | [], k => ⟨Int.le_refl _, by simp [mkL, bulk_nil]⟩
  | y :: l, k => by
    have h1 := hb y k
    have h2 := mkL_bd hb l (g y k).2
    rw [bulk_cons, mkL]
    exact ⟨by dsimp only; omega, by dsimp only; omega⟩
theorem mkL_app : ∀ (l m : List α) (k : Int), mkL g (l ++ m) k = ((mkL g l k).1 ++ (mkL g m (mkL g l k).2).1, (mkL g m (mkL g l k).2).2)
  | [], m, k => rfl
  | y :: l, m, k => by rw [List.cons_append, mkL, mkL_app l]; rfl
variable [Inhabited α]
def Mk (g : α → Int → α × Int) (a : List α) (k : Int) (u : Nat) (xs : List α) (k' : Int) : Prop := u ≤ a.length ∧ xs = (mkL g (a.take u) k).1 ++ a.drop u ∧ k' = (mkL g (a.take u) k).2
variable {a xs : List α} {k k' : Int} {u : Nat}
theorem Mk.zero (a : List α) (k : Int) : Mk g a k 0 a k := ⟨Nat.zero_le _, by simp [mkL], by simp [mkL]⟩
theorem Mk.len (h : Mk g a k u xs k') : xs.length = a.length := by
  rw [h.2.1, List.length_append, mkL_len, List.length_take, List.length_drop]; have := h.1; omega
theorem Mk.nth (h : Mk g a k u xs k') (hu : u < a.length) : nth xs (u : Int) = Go.Proofs.Ytndjggncgpjolaa.nth a (u : Int) := by
  rw [nth_nat xs (by rw [h.len]; exact hu), nth_nat a hu]
  have hl : (mkL g (a.take u) k).1.length = u := by rw [mkL_len, List.length_take]; omega
  have := h.2.1
  subst this
  rw [List.getElem_append_right (by omega)]
  simp [hl]
theorem Mk.next (h : Mk g a k u xs k') (hu : u < a.length) {y : α} {k'' : Int} (e : g (Go.Proofs.Ytndjggncgpjolaa.nth a (u : Int)) k' = (y, k'')) : Mk g a k (u + 1) (xs.set u y) k'' := by
  have hl : (mkL g (a.take u) k).1.length = u := by rw [mkL_len, List.length_take]; omega
  have h1 : mkL g (a.take (u + 1)) k = ((mkL g (a.take u) k).1 ++ [y], k'') := by
    rw [take_nth a hu, mkL_snoc, ← h.2.2, e]
  refine ⟨hu, ?_, by rw [h1]⟩
  rw [h1, h.2.1, List.set_append_right _ _ (by omega), hl, Nat.sub_self, List.drop_eq_getElem_cons hu, List.set_cons_zero]
  dsimp only
  rw [List.append_assoc]; rfl
theorem Mk.bd [Bulk α] (h : Mk g a k u xs k') (hb : ∀ x k, k ≤ (g x k).2 ∧ (g x k).2 ≤ k + 8 * (1 + (bulk x : Nat))) : k ≤ k' ∧ k' ≤ k + 8 * (bulk a : Nat) := by
  have h1 := mkL_bd hb (a.take u) k
  have h2 := bulk_take a u
  rw [h.2.2]
  exact ⟨h1.1, by omega⟩
theorem Mk.full (h : Mk g a k u xs k') (hu : ¬ u < a.length) : xs = (mkL g a k).1 ∧ k' = (mkL g a k).2 := by
  have : u = a.length := by have := h.1; omega
  subst this
  obtain ⟨_, h1, h2⟩ := h
  simpa using And.intro h1 h2
def Hd (g : α → Int → α × Int) (a : List α) (k : Int) (u : Nat) (k' : Int) : Prop := u ≤ a.length ∧ k' = (mkL g (a.take u) k).2
theorem Hd.zero (a : List α) (k : Int) : Hd g a k 0 k := ⟨Nat.zero_le _, by simp [mkL]⟩
theorem Hd.nth (h : Hd g a k u k') (hu : u < a.length) : nth (mkL g a k).1 (u : Int) = (g (Go.Proofs.Ytndjggncgpjolaa.nth a (u : Int)) k').1 := by
  have e : a = (a.take u ++ [Go.Proofs.Ytndjggncgpjolaa.nth a (u : Int)]) ++ a.drop (u + 1) := by rw [← take_nth a hu, List.take_append_drop]
  have hl : (mkL g (a.take u) k).1.length = u := by rw [mkL_len, List.length_take]; omega
  rw [nth_nat _ (by rw [mkL_len]; exact hu)]
  have h1 : (mkL g a k).1[u]? = some (g (Go.Proofs.Ytndjggncgpjolaa.nth a (u : Int)) k').1 := by
    conv => lhs; rw [e]
    rw [mkL_app, mkL_snoc]
    dsimp only
    rw [List.append_assoc, List.getElem?_append_right (by omega), hl, Nat.sub_self, h.2]; rfl
  rw [List.getElem?_eq_getElem (by rw [mkL_len]; exact hu)] at h1
  exact Option.some.inj h1
theorem Hd.next (h : Hd g a k u k') (hu : u < a.length) : Hd g a k (u + 1) (g (Go.Proofs.Ytndjggncgpjolaa.nth a (u : Int)) k').2 := ⟨hu, by rw [take_nth a hu, mkL_snoc, h.2]⟩
theorem Hd.bd [Bulk α] (h : Hd g a k u k') (hb : ∀ x k, k ≤ (g x k).2 ∧ (g x k).2 ≤ k + 8 * (1 + (bulk x : Nat))) : k ≤ k' ∧ k' ≤ k + 8 * (bulk a : Nat) := by
  have h1 := mkL_bd hb (a.take u) k
  have h2 := bulk_take a u
  rw [h.2]
  exact ⟨h1.1, by omega⟩
theorem Hd.full (h : Hd g a k u k') (hu : ¬ u < a.length) : k' = (mkL g a k).2 := by
  have : u = a.length := by have := h.1; omega
  subst this
  simpa using h.2
end
theorem set_facts {α : Type} [Inhabited α] {xs ys : List α} {u : Nat} {y : α} (hu : u < xs.length) (e : ys = xs.set (Int.toNat (u : Int)) y) : nth ys (u : Int) = y ∧ ys.length = xs.length ∧ (∀ z, ys.set (Int.toNat (u : Int)) z = xs.set (Int.toNat (u : Int)) z) := by
  subst e
  rw [Int.toNat_natCast]
  exact ⟨by rw [nth_set _ hu, if_pos rfl], List.length_set, fun z => List.set_set ..⟩
def gPt (_ : Pt) (k : Int) : Pt × Int := (⟨k, k + 1⟩, k + 2)
def gTag (_ : Tag) (k : Int) : Tag × Int := (⟨tx k, tx (k + 1)⟩, k + 2)
theorem gPt_bd (x : Pt) (k : Int) : k ≤ (gPt x k).2 ∧ (gPt x k).2 ≤ k + 8 * (1 + (bulk x : Nat)) := by unfold gPt; exact ⟨by dsimp only; omega, by dsimp only; omega⟩
theorem gTag_bd (x : Tag) (k : Int) : k ≤ (gTag x k).2 ∧ (gTag x k).2 ≤ k + 8 * (1 + (bulk x : Nat)) := by unfold gTag; exact ⟨by dsimp only; omega, by dsimp only; omega⟩
def gChange (x : Change) (k : Int) : Change × Int :=
  (⟨tx k, (k + 1) % 3 == 0, ⟨tx (k + 2), ⟨k + 3, (mkL gPt x.Was.Shape.Pts (k + 4)).1⟩, (mkL gTag x.Was.Tags (mkL gPt x.Was.Shape.Pts (k + 4)).2).1⟩,
    (mkL gTag x.Was.Tags (mkL gPt x.Was.Shape.Pts (k + 4)).2).2 % 3 == 0,
    ⟨tx ((mkL gTag x.Was.Tags (mkL gPt x.Was.Shape.Pts (k + 4)).2).2 + 1), ⟨(mkL gTag x.Was.Tags (mkL gPt x.Was.Shape.Pts (k + 4)).2).2 + 2, (mkL gPt x.Now.Shape.Pts ((mkL gTag x.Was.Tags (mkL gPt x.Was.Shape.Pts (k + 4)).2).2 + 3)).1⟩,
      (mkL gTag x.Now.Tags (mkL gPt x.Now.Shape.Pts ((mkL gTag x.Was.Tags (mkL gPt x.Was.Shape.Pts (k + 4)).2).2 + 3)).2).1⟩⟩,
    (mkL gTag x.Now.Tags (mkL gPt x.Now.Shape.Pts ((mkL gTag x.Was.Tags (mkL gPt x.Was.Shape.Pts (k + 4)).2).2 + 3)).2).2)
theorem bulk_feat (x : Feat) : bulk x = bulk x.Id + (bulk x.Shape.Kind + bulk x.Shape.Pts) + bulk x.Tags := rfl
theorem bulk_change (x : Change) : bulk x = bulk x.Id + bulk x.Had + bulk x.Was + bulk x.Has + bulk x.Now := rfl
theorem gChange_bd (x : Change) (k : Int) : k ≤ (gChange x k).2 ∧ (gChange x k).2 ≤ k + 8 * (1 + (bulk x : Nat)) := by
  have hb := bulk_change x
  have hb1 := bulk_feat x.Was
  have hb2 := bulk_feat x.Now
  have h1 := mkL_bd gPt_bd x.Was.Shape.Pts (k + 4)
  have h2 := mkL_bd gTag_bd x.Was.Tags (mkL gPt x.Was.Shape.Pts (k + 4)).2
  have h3 := mkL_bd gPt_bd x.Now.Shape.Pts ((mkL gTag x.Was.Tags (mkL gPt x.Was.Shape.Pts (k + 4)).2).2 + 3)
  have h4 := mkL_bd gTag_bd x.Now.Tags (mkL gPt x.Now.Shape.Pts ((mkL gTag x.Was.Tags (mkL gPt x.Was.Shape.Pts (k + 4)).2).2 + 3)).2
  unfold gChange
  exact ⟨by dsimp only; omega, by dsimp only; omega⟩
end Go.Proofs.Ytndjggncgpjolaa

namespace Go.Proofs.Ytndjggncgpjolaa
set_option linter.unusedVariables false
set_option linter.unusedSimpArgs false
set_option linter.unusedSectionVars false
theorem pw_ext {α : Type} {R : α → α → Prop} (irr : ∀ x, ¬ R x x) (tr : ∀ x y z, R x y → R y z → R x z) : ∀ {l m : List α}, l.Pairwise R → m.Pairwise R → (∀ x, x ∈ l ↔ x ∈ m) → l = m
  | [], [], _, _, _ => rfl
  | [], y :: m, _, _, h => by have := (h y).2 List.mem_cons_self; cases this
  | x :: l, [], _, _, h => by have := (h x).1 List.mem_cons_self; cases this
  | x :: l, y :: m, hl, hm, h => by
    obtain ⟨l1, l2⟩ := List.pairwise_cons.1 hl
    obtain ⟨m1, m2⟩ := List.pairwise_cons.1 hm
    have e : x = y := by
      rcases List.mem_cons.1 ((h x).1 List.mem_cons_self) with e | e
      · exact e
      · rcases List.mem_cons.1 ((h y).2 List.mem_cons_self) with e' | e'
        · exact e'.symm
        · exact absurd (tr _ _ _ (m1 x e) (l1 y e')) (irr _)
    subst e
    rw [pw_ext irr tr l2 m2 fun z => ⟨fun hz => ?_, fun hz => ?_⟩]
    · rcases List.mem_cons.1 ((h z).1 (List.mem_cons_of_mem _ hz)) with e | e
      · subst e; exact absurd (l1 z hz) (irr _)
      · exact e
    · rcases List.mem_cons.1 ((h z).2 (List.mem_cons_of_mem _ hz)) with e | e
      · subst e; exact absurd (m1 z hz) (irr _)
      · exact e
def idsC (d : List Change) : List Str := d.map (·.Id)
theorem idsC_app (s t : List Change) : idsC (s ++ t) = idsC s ++ idsC t := List.map_append
def CS (d : List Change) : Prop := d.Pairwise fun x y => Op.bytesLess x.Id y.Id = true
theorem CS.ext {l m : List Change} (hl : CS l) (hm : CS m) (h : ∀ x, x ∈ l ↔ x ∈ m) : l = m :=
  pw_ext (R := fun x y : Change => Op.bytesLess x.Id y.Id = true) (fun x e => by rw [less_irr] at e; cases e) (fun x y z h1 h2 => less_trans h1 h2) hl hm h
theorem CS.ids {d : List Change} (h : CS d) : SS (idsC d) := List.pairwise_map.2 h
theorem diff_cs {d : List Change} (h : diffOk d = true) : CS d ∧ d.length ≤ 16 ∧ ∀ c ∈ d, changeOk c = true := by
  unfold diffOk at h
  simp only [Bool.and_eq_true, decide_eq_true_eq] at h
  obtain ⟨h1, h2⟩ := h
  have h1 := allN_iff.1 h1
  have hadj : ∀ k, 0 < k → k < d.length → Op.bytesLess (nth d ((k : Int) - 1)).Id (nth d (k : Int)).Id = true := fun k h0 hk => by
    have := h1 k hk
    simp only [Bool.and_eq_true, Bool.or_eq_true, decide_eq_true_eq] at this
    rcases this.2 with h | h
    · omega
    · exact h
  refine ⟨?_, h2, fun f hf => ?_⟩
  · refine List.pairwise_iff_getElem.2 fun i j hi hj hij => ?_
    have key : ∀ q, i + q + 1 < d.length → Op.bytesLess d[i].Id (nth d ((i + q + 1 : Nat) : Int)).Id = true := by
      intro q
      induction q with
      | zero =>
        intro hd
        have := hadj (i + 0 + 1) (by omega) hd
        rw [show (((i + 0 + 1 : Nat) : Int) - 1) = (i : Int) by omega, nth_nat d hi] at this
        exact this
      | succ q ih =>
        intro hd
        have := hadj (i + (q + 1) + 1) (by omega) hd
        rw [show (((i + (q + 1) + 1 : Nat) : Int) - 1) = ((i + q + 1 : Nat) : Int) by omega] at this
        exact less_trans (ih (by omega)) this
    have := key (j - i - 1) (by omega)
    rw [show i + (j - i - 1) + 1 = j by omega, nth_nat d hj] at this
    exact this
  · obtain ⟨k, hk, rfl⟩ := List.getElem_of_mem hf
    have := h1 k hk
    rw [nth_nat d hk] at this
    simp only [Bool.and_eq_true] at this
    exact this.1
theorem side_small {id : Str} {has : Bool} {f : Feat} (h : sideOk id has f = true) : bulk f ≤ 100 := by
  unfold sideOk at h
  cases has with
  | true =>
    rw [if_pos rfl] at h
    simp only [Bool.and_eq_true] at h
    exact (feat_small h.1).1
  | false =>
    rw [if_neg (by decide)] at h
    unfold noF at h
    rw [of_decide_eq_true h]; decide
theorem change_small {c : Change} (h : changeOk c = true) : bulk c ≤ 206 ∧ sameC c = false ∧ bulk c.Was ≤ 100 ∧ bulk c.Now ≤ 100 ∧ c.Id.length ≤ 6 := by
  unfold changeOk at h
  simp only [Bool.and_eq_true, Bool.not_eq_true'] at h
  obtain ⟨⟨⟨h1, h2⟩, h3⟩, h4⟩ := h
  have a1 := word_len h1
  have a2 := side_small h2
  have a3 := side_small h3
  have e := bulk_change c
  have e1 : bulk c.Id = c.Id.length := bulk_str _
  have e2 : bulk c.Had = 0 := rfl
  have e3 : bulk c.Has = 0 := rfl
  exact ⟨by omega, h4, a2, a3, a1⟩
def atC (d : List Change) (id : Str) : Int := findN d.length fun j => (nth d (j : Int)).Id == id
theorem findN_true {n : Nat} {c : Nat → Bool} {k : Nat} (h : findN n c = (k : Int)) : k < n ∧ c k = true := by
  unfold findN at h
  cases e : (List.range n).find? c with
  | none => rw [e] at h; dsimp only at h; omega
  | some j =>
    rw [e] at h; dsimp only at h
    have : j = k := by omega
    subst this
    exact ⟨List.mem_range.1 (List.mem_of_find?_eq_some e), List.find?_some e⟩
theorem findN_neg {n : Nat} {c : Nat → Bool} (h : findN n c < 0) : ∀ j, j < n → c j = false := fun j hj => by
  unfold findN at h
  cases e : (List.range n).find? c with
  | some k => rw [e] at h; dsimp only at h; omega
  | none =>
    have := List.find?_eq_none.1 e j (List.mem_range.2 hj)
    simpa using this
theorem atC_le (d : List Change) (id : Str) : -1 ≤ atC d id ∧ atC d id < d.length := findN_le _ _
theorem atC_hit {d : List Change} {id : Str} (h : ¬ atC d id < 0) : nth d (atC d id) ∈ d ∧ (nth d (atC d id)).Id = id := by
  obtain ⟨k, hk⟩ : ∃ k : Nat, atC d id = (k : Int) := ⟨(atC d id).toNat, by omega⟩
  obtain ⟨h1, h2⟩ := findN_true hk
  rw [hk]
  exact ⟨nth_mem d h1, by simpa using h2⟩
theorem atC_miss {d : List Change} {id : Str} (h : atC d id < 0) : id ∉ idsC d := fun hm => by
  obtain ⟨c, hc, rfl⟩ := List.mem_map.1 hm
  obtain ⟨k, hk, rfl⟩ := List.getElem_of_mem hc
  have := findN_neg h k hk
  rw [nth_nat d hk] at this
  simp at this
theorem atC_mem {d : List Change} {id : Str} (h : ¬ atC d id < 0) : id ∈ idsC d := by
  obtain ⟨h1, h2⟩ := atC_hit h
  exact List.mem_map.2 ⟨_, h1, h2⟩
theorem CS.inj {d : List Change} (h : CS d) {x y : Change} (hx : x ∈ d) (hy : y ∈ d) (e : x.Id = y.Id) : x = y := by
  obtain ⟨i, hi, rfl⟩ := List.getElem_of_mem hx
  obtain ⟨j, hj, rfl⟩ := List.getElem_of_mem hy
  rcases Nat.lt_trichotomy i j with g | g | g
  · have := List.pairwise_iff_getElem.1 h i j hi hj g
    rw [e, less_irr] at this; cases this
  · subst g; rfl
  · have := List.pairwise_iff_getElem.1 h j i hj hi g
    rw [e, less_irr] at this; cases this
theorem atC_of {d : List Change} (h : CS d) {c : Change} (hc : c ∈ d) : ¬ atC d c.Id < 0 ∧ nth d (atC d c.Id) = c := by
  have h0 : ¬ atC d c.Id < 0 := fun e => atC_miss e (List.mem_map.2 ⟨c, hc, rfl⟩)
  obtain ⟨h1, h2⟩ := atC_hit h0
  exact ⟨h0, h.inj h1 hc h2⟩
def compC (a b : List Change) (id : Str) : Change :=
  if atC b id < 0 then nth a (atC a id) else if atC a id < 0 then nth b (atC b id)
  else ⟨id, (nth a (atC a id)).Had, (nth a (atC a id)).Was, (nth b (atC b id)).Has, (nth b (atC b id)).Now⟩
def clashAt (a b : List Change) (id : Str) : Bool :=
  decide (¬ atC a id < 0) && decide (¬ atC b id < 0) && ((nth a (atC a id)).Has != (nth b (atC b id)).Had || !(decide ((nth a (atC a id)).Now = (nth b (atC b id)).Was)))
def thenL (a b : List Change) (l : List Str) : List Change := (l.map (compC a b)).filter fun c => !(sameC c)
def thenOut (a b : List Change) : List Change := thenL a b (uniq (idsC a ++ idsC b))
def thenOk (a b : List Change) : Bool := diffOk a && diffOk b && !((uniq (idsC a ++ idsC b)).any (clashAt a b)) && diffOk (thenOut a b)
def thenR (a b : List Change) : List Change := if thenOk a b then thenOut a b else []
theorem thenL_snoc (a b : List Change) (l : List Str) (x : Str) : thenL a b (l ++ [x]) = thenL a b l ++ (if sameC (compC a b x) then [] else [compC a b x]) := by
  unfold thenL
  rw [List.map_append, List.filter_append]
  congr 1
  cases h : sameC (compC a b x) <;> simp [h]
theorem thenL_len (a b : List Change) (l : List Str) : (thenL a b l).length ≤ l.length := by
  unfold thenL
  exact Nat.le_trans (List.length_filter_le _ _) (by rw [List.length_map]; exact Nat.le_refl _)
theorem thenL_mem {a b : List Change} {l : List Str} {x : Change} : x ∈ thenL a b l ↔ (∃ id ∈ l, compC a b id = x) ∧ sameC x = false := by
  unfold thenL
  rw [List.mem_filter, List.mem_map, Bool.not_eq_true']
theorem compC_id {a b : List Change} {id : Str} (h : id ∈ idsC a ∨ id ∈ idsC b) : (compC a b id).Id = id := by
  unfold compC
  by_cases hb : atC b id < 0
  · rw [if_pos hb]
    have ha : ¬ atC a id < 0 := fun e => by
      rcases h with h | h
      · exact atC_miss e h
      · exact atC_miss hb h
    exact (atC_hit ha).2
  · rw [if_neg hb]
    by_cases ha : atC a id < 0
    · rw [if_pos ha]; exact (atC_hit hb).2
    · rw [if_neg ha]
theorem thenL_cs {a b : List Change} {l : List Str} (h : SS l) (hm : ∀ id ∈ l, id ∈ idsC a ∨ id ∈ idsC b) : CS (thenL a b l) := by
  unfold CS thenL
  refine List.Pairwise.filter _ (List.pairwise_map.2 ?_)
  refine List.Pairwise.imp_of_mem (fun {x y} hx hy hxy => ?_) h
  rw [compC_id (hm x hx), compC_id (hm y hy)]; exact hxy
theorem compC_small {a b : List Change} (ha : ∀ c ∈ a, changeOk c = true) (hb : ∀ c ∈ b, changeOk c = true) {id : Str} (h : id ∈ idsC a ∨ id ∈ idsC b) : bulk (compC a b id) ≤ 206 := by
  unfold compC
  by_cases kb : atC b id < 0
  · rw [if_pos kb]
    have ka : ¬ atC a id < 0 := fun e => by
      rcases h with h | h
      · exact atC_miss e h
      · exact atC_miss kb h
    exact (change_small (ha _ (atC_hit ka).1)).1
  · rw [if_neg kb]
    by_cases ka : atC a id < 0
    · rw [if_pos ka]; exact (change_small (hb _ (atC_hit kb).1)).1
    · rw [if_neg ka]
      have a1 := (change_small (ha _ (atC_hit ka).1)).2.2.1
      have b1 := (change_small (hb _ (atC_hit kb).1)).2.2.2.1
      have b2 := (change_small (hb _ (atC_hit kb).1)).2.2.2.2
      rw [(atC_hit kb).2] at b2
      have e := bulk_change ⟨id, (nth a (atC a id)).Had, (nth a (atC a id)).Was, (nth b (atC b id)).Has, (nth b (atC b id)).Now⟩
      have e1 : bulk id = id.length := bulk_str _
      have e2 : bulk (nth a (atC a id)).Had = 0 := rfl
      have e3 : bulk (nth b (atC b id)).Has = 0 := rfl
      dsimp only at e
      omega
theorem uniqC_mem {a b : List Change} {id : Str} : id ∈ uniq (idsC a ++ idsC b) ↔ id ∈ idsC a ∨ id ∈ idsC b := uniq_mem.trans List.mem_append
theorem thenOut_len {a b : List Change} (ha : a.length ≤ 16) (hb : b.length ≤ 16) : (thenOut a b).length ≤ 32 ∧ (uniq (idsC a ++ idsC b)).length ≤ 32 := by
  have h1 := thenL_len a b (uniq (idsC a ++ idsC b))
  have h2 := uniq_len (idsC a ++ idsC b)
  have h3 : (idsC a ++ idsC b).length = a.length + b.length := by unfold idsC; simp
  exact ⟨by unfold thenOut; omega, by omega⟩
theorem thenL_small {a b : List Change} (ha : ∀ c ∈ a, changeOk c = true) (hb : ∀ c ∈ b, changeOk c = true) {l : List Str} (hm : ∀ id ∈ l, id ∈ idsC a ∨ id ∈ idsC b) (hl : l.length ≤ 1000) : bulk (thenL a b l) ≤ 1048576 := by
  have h1 := bulk_small (thenL a b l) 206 fun c hc => by
    obtain ⟨⟨id, hid, rfl⟩, _⟩ := thenL_mem.1 hc
    exact compC_small ha hb (hm id hid)
  have h2 := thenL_len a b l
  have : (thenL a b l).length * (206 + 1) ≤ 1000 * 207 := Nat.mul_le_mul (by omega) (Nat.le_refl _)
  omega
theorem thenR_small (a b : List Change) : bulk (thenR a b) ≤ 1048576 := by
  unfold thenR
  cases h : thenOk a b with
  | false => rw [if_neg (by decide)]; exact Nat.zero_le _
  | true =>
    rw [if_pos rfl]
    unfold thenOk at h
    simp only [Bool.and_eq_true] at h
    have ha := diff_cs h.1.1.1
    have hb := diff_cs h.1.1.2
    exact thenL_small ha.2.2 hb.2.2 (fun id hid => uniqC_mem.1 hid) (by have := (thenOut_len ha.2.1 hb.2.1).2; omega)
end Go.Proofs.Ytndjggncgpjolaa

namespace Go.Proofs.Ytndjggncgpjolaa
set_option linter.unusedVariables false
set_option linter.unusedSimpArgs false
set_option linter.unusedSectionVars false
theorem spec_l4Find.law (s : List Change) (id : Str) (Q : Int → Prop) (hq : Q (atC s id)) : spec_l4Find.E s id Q := by
 unfold spec_l4Find.E
 unfold atC at hq
 refine loop_find s.length (fun j => (nth s (j : Int)).Id == id) hq (fun I mu k hk h1 h2 => ⟨by omega, ?_⟩)
 cases h : (nth s (k : Int)).Id == id with
 | true => rw [if_pos rfl]; exact h1 h
 | false => rw [if_neg (by decide)]; obtain ⟨i1, i2⟩ := h2 h; exact ⟨by omega, i1, i2⟩
end Go.Proofs.Ytndjggncgpjolaa

namespace Go.Proofs.Ytndjggncgpjolaa
open Go.RowKit
set_option linter.unusedVariables false
set_option linter.unusedSimpArgs false
def spec_l1Copy.E (s : Shape) (Q : Shape → Prop) : Prop :=
 (([] : List Pt).length + s.Pts.length ≤ 268435456) ∧ Q (⟨s.Kind, (([] : List Pt) ++ s.Pts)⟩ : Shape)
set_option maxHeartbeats 8000000 in
set_option maxRecDepth 100000 in
theorem spec_l1Copy.calls {O : Ob} (w0 : World) (hO : Ok w0 O) (s : Shape) (A1 : Option Addr) (n2 c3 : Nat) (hp4 : Sl kPt w0 (Fr O) (.slice A1 n2 c3) s.Pts) (Q : Shape → Prop) (h : spec_l1Copy.E s Q) :
  Ret Try.prog 125 [.agg #[vi s.Kind, .slice A1 n2 c3]] w0 (fun v w' => ∃ (r0 : Shape) (A0 : Option Addr) (n0 c0 : Nat), v = .agg #[vi r0.Kind, .slice A0 n0 c0] ∧ Q r0 ∧ Gr w0 w' none ∧ Ok w' ([blk (.slice A0 n0 c0)] ++ O) ∧ (∀ b, some b ∈ [blk (.slice A0 n0 c0)] → w0.heap.size ≤ b) ∧ Ow kPt 29 w' ([blk (.slice A0 n0 c0)] ++ O) (.slice A0 n0 c0) r0.Pts) := by
 have H : (([] : List Pt).length + s.Pts.length ≤ 268435456) ∧ Q (⟨s.Kind, (([] : List Pt) ++ s.Pts)⟩ : Shape) := h
 clear h
 have hc0 := Ct.init hO
 refine Ret_enter Try.func125 rfl 10 rfl [.cell 2 68] rfl rfl ?_
 refine W_seq ?_
 refine W_reg ?_
 refine L_box [vi s.Kind, .slice A1 n2 c3] rfl fun w6 b7 hl9 hu10 g8 hx11 => ?_
 have h13 := Fb.mk hc0.ok hl9 hx11
 have hc14 := hc0.k0 g8
 refine L_alloc [.int .i64 0, .slice none 0 0] ze68 fun w15 b16 hl18 hu19 g17 hx20 => ?_
 have hc22 := hc14.own g17 (some b16) (oglt hl18 hu19)
 refine L_nil ?_
 refine W_seq ?_
 refine W_mixr 8 [some b16] (by kernel_rfl) rfl fun w23 g24 hM25 => ?_
 have hc26 := hc22.k0 g24
 refine M_pu 0 rfl (by kernel_rfl) hM25 (P_fa fa68_0 ⟨b7, 0, none⟩ ⟨b7, 0, none⟩ rfl rfl) ?_
 have h27 := ((h13.st (.own _ _ g17 (oge hl18))).st (.new _ g24))
 refine M_pu 1 rfl (by kernel_rfl) hM25 (P_ldr ag3 cR ⟨b7, 0, none⟩ (vi s.Kind) rfl (h27.cell rfl) (nm_cons (fr_ne (L := [some b16]) (O := O) (i := 0) h27.2 rfl) nm_nil)) ?_
 refine M_pu 3 rfl (by kernel_rfl) hM25 (P_fa fa68_1 ⟨b7, 0, none⟩ ⟨b7, 1, none⟩ rfl rfl) ?_
 refine M_pu 4 rfl (by kernel_rfl) hM25 (P_ldr ag23 cR ⟨b7, 1, none⟩ (.slice A1 n2 c3) rfl (h27.cell rfl) (nm_cons (fr_ne (L := [some b16]) (O := O) (i := 0) h27.2 rfl) nm_nil)) ?_
 refine M_any1 2 (by kernel_rfl) rfl ?_
 refine L_lit (kd := kPt) ei23 hc26 ([] : List Pt) (cells := []) rfl (fun _ => by kernel_rfl) fun w28 A29 n30 c31 g32 hr33 hc34 h35 => ?_
 have hM37 := Gm.tm hM25 g32
 refine L_nil ⟨hM37, ?_⟩
 refine M_any1 5 (by kernel_rfl) rfl ?_
 obtain ⟨hb38, H⟩ := H
 refine L_app ei23 hc34 (.slice A29 n30 c31) ([] : List Pt) s.Pts rfl h35 (.slice A1 n2 c3) rfl (hp4.st hc34.st).sx 0 rfl hb38 fun w39 A40 n41 c42 g43 s44 hc45 h46 => ?_
 have hM47 := Gm.tq hM37 g43 (hv_new hM25 hr33)
 have hv48 := hv_app (L := [blk (.slice A29 n30 c31), some b16]) (O := O) (i := 0) hM37 rfl (hv_new hM25 hr33) s44 hc45
 refine L_nil ⟨hM47, ?_⟩
 refine M_pu 6 rfl (by kernel_rfl) hM47 (P_build (.agg #[vi s.Kind, .slice A40 n41 c42]) (fun _ => by kernel_rfl)) ?_
 refine M_any1 7 (by kernel_rfl) rfl ?_
 have h53 := (Bx.sm (L := [blk (.slice A29 n30 c31), some b16]) (O := O) ((hx20.k0 g24).k0 g32) hc34 (i := 1) rfl (j := 0) rfl (by decide) g43)
 refine L_stb b16 0 [vi 0, .slice none 0 0] [vi s.Kind, .slice A40 n41 c42] [vi s.Kind, .slice A40 n41 c42] rfl h53 rfl sz68 rfl rfl rfl fun w50 g51 hx52 => ?_
 have hc54 := hc45.wr 1 rfl g51
 have hM55 := Gm.tq hM47 g51 (hv_mem 0 rfl)
 refine L_nil ⟨hM55, ?_⟩
 refine M_nil (by kernel_rfl) ?_
 refine W_ret ?_
 have h56 := Bx.gv (L := [blk (.slice A40 n41 c42), some b16]) (O := O) hx52 hc54 (i := 1) rfl
 have hc57 := hc54.drop 1 rfl
 have h58 := (Ow.sd (L := [blk (.slice A40 n41 c42), some b16]) (O := O) (Ow.sw (L := [blk (.slice A40 n41 c42), some b16]) (O := O) h46 hc45 (i := 0) rfl (j := 1) rfl (by decide) g51) (i := 0) rfl (j := 1) rfl (by decide))
 exact ⟨[.agg #[vi s.Kind, .slice A40 n41 c42]], ⟨_, _, rfl, h56.1.res rfl ag68 sz68, rfl⟩, (⟨s.Kind, (([] : List Pt) ++ s.Pts)⟩ : Shape), A40, n41, c42, rfl, H, hc57.gr.g0, hc57.ok, hc57.ge, h58⟩
end Go.Proofs.Ytndjggncgpjolaa

namespace Go.Proofs.Ytndjggncgpjolaa
open Go.RowKit
set_option linter.unusedVariables false
set_option linter.unusedSimpArgs false
def spec_l2Copy.E (f : Feat) (Q : Feat → Prop) : Prop :=
 (([] : List Tag).length + f.Tags.length ≤ 268435456) ∧ spec_l1Copy.E f.Shape (fun r => Q (⟨f.Id, r, (([] : List Tag) ++ f.Tags)⟩ : Feat))
set_option maxHeartbeats 8000000 in
set_option maxRecDepth 100000 in
theorem spec_l2Copy.calls {O : Ob} (w0 : World) (hO : Ok w0 O) (f : Feat) (A2 : Option Addr) (n3 c4 : Nat) (A7 : Option Addr) (n8 c9 : Nat) (hs1 : Lim f.Id) (hp5 : Sl kPt w0 (Fr O) (.slice A2 n3 c4) f.Shape.Pts) (hp10 : Sl kTag w0 (Fr O) (.slice A7 n8 c9) f.Tags) (Q : Feat → Prop) (h : spec_l2Copy.E f Q) :
  Ret Try.prog 80 [.agg #[vs f.Id, vi f.Shape.Kind, .slice A2 n3 c4, .slice A7 n8 c9]] w0 (fun v w' => ∃ (r0 : Feat) (A0 : Option Addr) (n0 c0 : Nat) (A2 : Option Addr) (n2 c2 : Nat), v = .agg #[vs r0.Id, vi r0.Shape.Kind, .slice A0 n0 c0, .slice A2 n2 c2] ∧ Q r0 ∧ Gr w0 w' none ∧ Ok w' ([blk (.slice A0 n0 c0), blk (.slice A2 n2 c2)] ++ O) ∧ (∀ b, some b ∈ [blk (.slice A0 n0 c0), blk (.slice A2 n2 c2)] → w0.heap.size ≤ b) ∧ Lim r0.Id ∧ Ow kPt 29 w' ([blk (.slice A0 n0 c0), blk (.slice A2 n2 c2)] ++ O) (.slice A0 n0 c0) r0.Shape.Pts ∧ Ow kTag 133 w' ([blk (.slice A0 n0 c0), blk (.slice A2 n2 c2)] ++ O) (.slice A2 n2 c2) r0.Tags) := by
 have H : (([] : List Tag).length + f.Tags.length ≤ 268435456) ∧ spec_l1Copy.E f.Shape (fun r => Q (⟨f.Id, r, (([] : List Tag) ++ f.Tags)⟩ : Feat)) := h
 clear h
 have hc0 := Ct.init hO
 refine Ret_enter Try.func80 rfl 13 rfl [.cell 2 71] rfl rfl ?_
 refine W_seq ?_
 refine W_reg ?_
 refine L_box [vs f.Id, vi f.Shape.Kind, .slice A2 n3 c4, .slice A7 n8 c9] rfl fun w12 b13 hl15 hu16 g14 hx17 => ?_
 have h19 := Fb.mk hc0.ok hl15 hx17
 have hc20 := hc0.k0 g14
 refine L_alloc [vs [], .int .i64 0, .slice none 0 0, .slice none 0 0] ze71 fun w21 b22 hl24 hu25 g23 hx26 => ?_
 have hc28 := hc20.own g23 (some b22) (oglt hl24 hu25)
 refine L_nil ?_
 refine W_seq ?_
 refine W_mixr 11 [some b22] (by kernel_rfl) rfl fun w29 g30 hM31 => ?_
 have hc32 := hc28.k0 g30
 obtain ⟨hb33, H⟩ := H
 refine M_pu 0 rfl (by kernel_rfl) hM31 (P_fa fa71_0 ⟨b13, 0, none⟩ ⟨b13, 0, none⟩ rfl rfl) ?_
 have h34 := ((h19.st (.own _ _ g23 (oge hl24))).st (.new _ g30))
 refine M_pu 1 rfl (by kernel_rfl) hM31 (P_ldr ag9 cR ⟨b13, 0, none⟩ (vs f.Id) rfl (h34.cell rfl) (nm_cons (fr_ne (L := [some b22]) (O := O) (i := 0) h34.2 rfl) nm_nil)) ?_
 refine M_pu 2 rfl (by kernel_rfl) hM31 (P_fa fa71_1 ⟨b13, 0, none⟩ ⟨b13, 1, none⟩ rfl rfl) ?_
 refine M_pu 3 rfl (by kernel_rfl) hM31 (P_ldar ag68 sz68 cR ⟨b13, 1, none⟩ [vi f.Shape.Kind, .slice A2 n3 c4] rfl rfl (h34.cells (off := 1) rfl) (nm_cons (fr_ne (L := [some b22]) (O := O) (i := 0) h34.2 rfl) nm_nil)) ?_
 refine M_pu 6 rfl (by kernel_rfl) hM31 (P_fa fa71_2 ⟨b13, 0, none⟩ ⟨b13, 3, none⟩ rfl rfl) ?_
 refine M_pu 7 rfl (by kernel_rfl) hM31 (P_ldr ag69 cR ⟨b13, 3, none⟩ (.slice A7 n8 c9) rfl (h34.cell rfl) (nm_cons (fr_ne (L := [some b22]) (O := O) (i := 0) h34.2 rfl) nm_nil)) ?_
 refine M_any2 4 5 (by kernel_rfl) rfl rfl ?_ ?_
 ·refine L_call go125 [.agg #[vi f.Shape.Kind, .slice A2 n3 c4]] rfl ((spec_l1Copy.calls w29 hc32.ok f.Shape A2 n3 c4 (hp5.st hc32.st) _ H).mono ?_)
  rintro _ w35 ⟨r, A37, n38, c39, rfl, H, g36, hk43, hk44, h40⟩
  have hc45 := hc32.owns g36 hk43 hk44
  have hM46 := Gm.tm hM31 g36
  refine L_nil ⟨hM46, ?_⟩
  refine M_any1 5 (by kernel_rfl) rfl ?_
  refine L_lit (kd := kTag) ei69 hc45 ([] : List Tag) (cells := []) rfl (fun _ => by kernel_rfl) fun w47 A48 n49 c50 g51 hr52 hc53 h54 => ?_
  have hM56 := Gm.tm hM46 g51
  refine L_nil ⟨hM56, ?_⟩
  refine M_any1 8 (by kernel_rfl) rfl ?_
  refine L_app ei69 hc53 (.slice A48 n49 c50) ([] : List Tag) f.Tags rfl h54 (.slice A7 n8 c9) rfl (hp10.st hc53.st).sx 0 rfl hb33 fun w57 A58 n59 c60 g61 s62 hc63 h64 => ?_
  have hM65 := Gm.tq hM56 g61 (hv_new hM46 hr52)
  have hv66 := hv_app (L := [blk (.slice A48 n49 c50), blk (.slice A37 n38 c39), some b22]) (O := O) (i := 0) hM56 rfl (hv_new hM46 hr52) s62 hc63
  refine L_nil ⟨hM65, ?_⟩
  refine M_pu 9 rfl (by kernel_rfl) hM65 (P_build (.agg #[vs f.Id, vi r.Kind, .slice A37 n38 c39, .slice A58 n59 c60]) (fun _ => by kernel_rfl)) ?_
  refine M_any1 10 (by kernel_rfl) rfl ?_
  have h71 := (Bx.sm (L := [blk (.slice A48 n49 c50), blk (.slice A37 n38 c39), some b22]) (O := O) (((hx26.k0 g30).k0 g36).k0 g51) hc53 (i := 2) rfl (j := 0) rfl (by decide) g61)
  refine L_stb b22 0 [vs ([] : Str), vi 0, .slice none 0 0, .slice none 0 0] [vs f.Id, vi r.Kind, .slice A37 n38 c39, .slice A58 n59 c60] [vs f.Id, vi r.Kind, .slice A37 n38 c39, .slice A58 n59 c60] rfl h71 rfl sz71 rfl rfl rfl fun w68 g69 hx70 => ?_
  have hc72 := hc63.wr 2 rfl g69
  have hM73 := Gm.tq hM65 g69 (hv_mem 0 rfl)
  refine L_nil ⟨hM73, ?_⟩
  refine M_nil (by kernel_rfl) ?_
  refine W_ret ?_
  have h74 := Bx.gv (L := [blk (.slice A58 n59 c60), blk (.slice A37 n38 c39), some b22]) (O := O) hx70 hc72 (i := 2) rfl
  have hc75 := hc72.drop 2 rfl
  have hc76 := hc75.perm (.swap _ _ _)
  have h77 := (h74.st (.perm (L := [blk (.slice A58 n59 c60), blk (.slice A37 n38 c39)]) (O := O) (.swap _ _ _)))
  have h78 := (Ow.sp (L := [blk (.slice A58 n59 c60), blk (.slice A37 n38 c39)]) (O := O) (Ow.sd (L := [blk (.slice A58 n59 c60), blk (.slice A37 n38 c39), some b22]) (O := O) (Ow.sw (L := [blk (.slice A58 n59 c60), blk (.slice A37 n38 c39), some b22]) (O := O) (Ow.sm (L := [blk (.slice A48 n49 c50), blk (.slice A37 n38 c39), some b22]) (O := O) (h40.so _ g51 hr52) hc53 (i := 1) rfl (j := 0) rfl (by decide) g61 s62) hc63 (i := 1) rfl (j := 2) rfl (by decide) g69) (i := 1) rfl (j := 2) rfl (by decide)) (.swap _ _ _))
  have h79 := (Ow.sp (L := [blk (.slice A58 n59 c60), blk (.slice A37 n38 c39)]) (O := O) (Ow.sd (L := [blk (.slice A58 n59 c60), blk (.slice A37 n38 c39), some b22]) (O := O) (Ow.sw (L := [blk (.slice A58 n59 c60), blk (.slice A37 n38 c39), some b22]) (O := O) h64 hc63 (i := 0) rfl (j := 2) rfl (by decide) g69) (i := 0) rfl (j := 2) rfl (by decide)) (.swap _ _ _))
  exact ⟨[.agg #[vs f.Id, vi r.Kind, .slice A37 n38 c39, .slice A58 n59 c60]], ⟨_, _, rfl, h77.1.res rfl ag71 sz71, rfl⟩, (⟨f.Id, r, (([] : List Tag) ++ f.Tags)⟩ : Feat), A37, n38, c39, A58, n59, c60, rfl, H, hc76.gr.g0, hc76.ok, hc76.ge, hs1, h78, h79⟩
 ·refine L_lit (kd := kTag) ei69 hc32 ([] : List Tag) (cells := []) rfl (fun _ => by kernel_rfl) fun w35 A36 n37 c38 g39 hr40 hc41 h42 => ?_
  have hM44 := Gm.tm hM31 g39
  refine L_nil ⟨hM44, ?_⟩
  refine M_any1 4 (by kernel_rfl) rfl ?_
  refine L_call go125 [.agg #[vi f.Shape.Kind, .slice A2 n3 c4]] rfl ((spec_l1Copy.calls w35 hc41.ok f.Shape A2 n3 c4 (hp5.st hc41.st) _ H).mono ?_)
  rintro _ w45 ⟨r, A47, n48, c49, rfl, H, g46, hk53, hk54, h50⟩
  have hc55 := hc41.owns g46 hk53 hk54
  have hM56 := Gm.tm hM44 g46
  refine L_nil ⟨hM56, ?_⟩
  refine M_any1 8 (by kernel_rfl) rfl ?_
  have h57 := (h42.sos g46 hk54)
  refine L_app ei69 hc55 (.slice A36 n37 c38) ([] : List Tag) f.Tags rfl h57 (.slice A7 n8 c9) rfl (hp10.st hc55.st).sx 1 rfl hb33 fun w58 A59 n60 c61 g62 s63 hc64 h65 => ?_
  have hM66 := Gm.tq hM56 g62 (hv_new hM31 hr40)
  have hv67 := hv_app (L := [blk (.slice A47 n48 c49), blk (.slice A36 n37 c38), some b22]) (O := O) (i := 1) hM56 rfl (hv_new hM31 hr40) s63 hc64
  refine L_nil ⟨hM66, ?_⟩
  refine M_pu 9 rfl (by kernel_rfl) hM66 (P_build (.agg #[vs f.Id, vi r.Kind, .slice A47 n48 c49, .slice A59 n60 c61]) (fun _ => by kernel_rfl)) ?_
  refine M_any1 10 (by kernel_rfl) rfl ?_
  have h72 := (Bx.sm (L := [blk (.slice A47 n48 c49), blk (.slice A36 n37 c38), some b22]) (O := O) (((hx26.k0 g30).k0 g39).k0 g46) hc55 (i := 2) rfl (j := 1) rfl (by decide) g62)
  refine L_stb b22 0 [vs ([] : Str), vi 0, .slice none 0 0, .slice none 0 0] [vs f.Id, vi r.Kind, .slice A47 n48 c49, .slice A59 n60 c61] [vs f.Id, vi r.Kind, .slice A47 n48 c49, .slice A59 n60 c61] rfl h72 rfl sz71 rfl rfl rfl fun w69 g70 hx71 => ?_
  have hc73 := hc64.wr 2 rfl g70
  have hM74 := Gm.tq hM66 g70 (hv_mem 0 rfl)
  refine L_nil ⟨hM74, ?_⟩
  refine M_nil (by kernel_rfl) ?_
  refine W_ret ?_
  have h75 := Bx.gv (L := [blk (.slice A47 n48 c49), blk (.slice A59 n60 c61), some b22]) (O := O) hx71 hc73 (i := 2) rfl
  have hc76 := hc73.drop 2 rfl
  have h77 := (Ow.sd (L := [blk (.slice A47 n48 c49), blk (.slice A59 n60 c61), some b22]) (O := O) (Ow.sw (L := [blk (.slice A47 n48 c49), blk (.slice A59 n60 c61), some b22]) (O := O) (Ow.sm (L := [blk (.slice A47 n48 c49), blk (.slice A36 n37 c38), some b22]) (O := O) h50 hc55 (i := 0) rfl (j := 1) rfl (by decide) g62 s63) hc64 (i := 0) rfl (j := 2) rfl (by decide) g70) (i := 0) rfl (j := 2) rfl (by decide))
  have h78 := (Ow.sd (L := [blk (.slice A47 n48 c49), blk (.slice A59 n60 c61), some b22]) (O := O) (Ow.sw (L := [blk (.slice A47 n48 c49), blk (.slice A59 n60 c61), some b22]) (O := O) h65 hc64 (i := 1) rfl (j := 2) rfl (by decide) g70) (i := 1) rfl (j := 2) rfl (by decide))
  exact ⟨[.agg #[vs f.Id, vi r.Kind, .slice A47 n48 c49, .slice A59 n60 c61]], ⟨_, _, rfl, h75.1.res rfl ag71 sz71, rfl⟩, (⟨f.Id, r, (([] : List Tag) ++ f.Tags)⟩ : Feat), A47, n48, c49, A59, n60, c61, rfl, H, hc76.gr.g0, hc76.ok, hc76.ge, hs1, h77, h78⟩
end Go.Proofs.Ytndjggncgpjolaa

namespace Go.Proofs.Ytndjggncgpjolaa
set_option linter.unusedVariables false
set_option linter.unusedSimpArgs false
set_option linter.unusedSectionVars false
theorem spec_l2Copy.law (f : Feat) (Q : Feat → Prop) (hb : bulk f ≤ 1048576) (hq : Q f) : spec_l2Copy.E f Q := by
 unfold spec_l2Copy.E spec_l1Copy.E
 have h := bulk_feat f
 have h1 := bulk_len f.Tags
 have h2 := bulk_len f.Shape.Pts
 exact ⟨by simp only [List.length_nil]; omega, by simp only [List.length_nil]; omega, hq⟩
end Go.Proofs.Ytndjggncgpjolaa

namespace Go.Proofs.Ytndjggncgpjolaa
open Go.RowKit
set_option linter.unusedVariables false
set_option linter.unusedSimpArgs false
def spec_l4Copy.E (c_ : Change) (Q : Change → Prop) : Prop :=
 spec_l2Copy.E c_.Was (fun r => spec_l2Copy.E c_.Now (fun r2 => Q (⟨c_.Id, c_.Had, r, c_.Has, r2⟩ : Change)))
set_option maxHeartbeats 8000000 in
set_option maxRecDepth 100000 in
theorem spec_l4Copy.calls {O : Ob} (w0 : World) (hO : Ok w0 O) (c_ : Change) (A3 : Option Addr) (n4 c5 : Nat) (A8 : Option Addr) (n9 c10 : Nat) (A14 : Option Addr) (n15 c16 : Nat) (A19 : Option Addr) (n20 c21 : Nat) (hs1 : Lim c_.Id) (hs2 : Lim c_.Was.Id) (hp6 : Sl kPt w0 (Fr O) (.slice A3 n4 c5) c_.Was.Shape.Pts) (hp11 : Sl kTag w0 (Fr O) (.slice A8 n9 c10) c_.Was.Tags) (hs13 : Lim c_.Now.Id) (hp17 : Sl kPt w0 (Fr O) (.slice A14 n15 c16) c_.Now.Shape.Pts) (hp22 : Sl kTag w0 (Fr O) (.slice A19 n20 c21) c_.Now.Tags) (Q : Change → Prop) (h : spec_l4Copy.E c_ Q) :
  Ret Try.prog 62 [.agg #[vs c_.Id, vb c_.Had, vs c_.Was.Id, vi c_.Was.Shape.Kind, .slice A3 n4 c5, .slice A8 n9 c10, vb c_.Has, vs c_.Now.Id, vi c_.Now.Shape.Kind, .slice A14 n15 c16, .slice A19 n20 c21]] w0 (fun v w' => ∃ (r0 : Change) (A0 : Option Addr) (n0 c0 : Nat) (A2 : Option Addr) (n2 c2 : Nat) (A4 : Option Addr) (n4 c4 : Nat) (A6 : Option Addr) (n6 c6 : Nat), v = .agg #[vs r0.Id, vb r0.Had, vs r0.Was.Id, vi r0.Was.Shape.Kind, .slice A0 n0 c0, .slice A2 n2 c2, vb r0.Has, vs r0.Now.Id, vi r0.Now.Shape.Kind, .slice A4 n4 c4, .slice A6 n6 c6] ∧ Q r0 ∧ Gr w0 w' none ∧ Ok w' ([blk (.slice A0 n0 c0), blk (.slice A2 n2 c2), blk (.slice A4 n4 c4), blk (.slice A6 n6 c6)] ++ O) ∧ (∀ b, some b ∈ [blk (.slice A0 n0 c0), blk (.slice A2 n2 c2), blk (.slice A4 n4 c4), blk (.slice A6 n6 c6)] → w0.heap.size ≤ b) ∧ Lim r0.Id ∧ Lim r0.Was.Id ∧ Ow kPt 29 w' ([blk (.slice A0 n0 c0), blk (.slice A2 n2 c2), blk (.slice A4 n4 c4), blk (.slice A6 n6 c6)] ++ O) (.slice A0 n0 c0) r0.Was.Shape.Pts ∧ Ow kTag 133 w' ([blk (.slice A0 n0 c0), blk (.slice A2 n2 c2), blk (.slice A4 n4 c4), blk (.slice A6 n6 c6)] ++ O) (.slice A2 n2 c2) r0.Was.Tags ∧ Lim r0.Now.Id ∧ Ow kPt 29 w' ([blk (.slice A0 n0 c0), blk (.slice A2 n2 c2), blk (.slice A4 n4 c4), blk (.slice A6 n6 c6)] ++ O) (.slice A4 n4 c4) r0.Now.Shape.Pts ∧ Ow kTag 133 w' ([blk (.slice A0 n0 c0), blk (.slice A2 n2 c2), blk (.slice A4 n4 c4), blk (.slice A6 n6 c6)] ++ O) (.slice A6 n6 c6) r0.Now.Tags) := by
 have H : spec_l2Copy.E c_.Was (fun r => spec_l2Copy.E c_.Now (fun r2 => Q (⟨c_.Id, c_.Had, r, c_.Has, r2⟩ : Change))) := h
 clear h
 have hc0 := Ct.init hO
 refine Ret_enter Try.func62 rfl 16 rfl [.cell 2 103] rfl rfl ?_
 refine W_seq ?_
 refine W_reg ?_
 refine L_box [vs c_.Id, vb c_.Had, vs c_.Was.Id, vi c_.Was.Shape.Kind, .slice A3 n4 c5, .slice A8 n9 c10, vb c_.Has, vs c_.Now.Id, vi c_.Now.Shape.Kind, .slice A14 n15 c16, .slice A19 n20 c21] rfl fun w24 b25 hl27 hu28 g26 hx29 => ?_
 have h31 := Fb.mk hc0.ok hl27 hx29
 have hc32 := hc0.k0 g26
 refine L_alloc [vs [], vb false, vs [], .int .i64 0, .slice none 0 0, .slice none 0 0, vb false, vs [], .int .i64 0, .slice none 0 0, .slice none 0 0] ze103 fun w33 b34 hl36 hu37 g35 hx38 => ?_
 have hc40 := hc32.own g35 (some b34) (oglt hl36 hu37)
 refine L_nil ?_
 refine W_seq ?_
 refine W_mixr 14 [some b34] (by kernel_rfl) rfl fun w41 g42 hM43 => ?_
 have hc44 := hc40.k0 g42
 refine M_pu 0 rfl (by kernel_rfl) hM43 (P_fa fa103_0 ⟨b25, 0, none⟩ ⟨b25, 0, none⟩ rfl rfl) ?_
 have h45 := ((h31.st (.own _ _ g35 (oge hl36))).st (.new _ g42))
 refine M_pu 1 rfl (by kernel_rfl) hM43 (P_ldr ag9 cR ⟨b25, 0, none⟩ (vs c_.Id) rfl (h45.cell rfl) (nm_cons (fr_ne (L := [some b34]) (O := O) (i := 0) h45.2 rfl) nm_nil)) ?_
 refine M_pu 2 rfl (by kernel_rfl) hM43 (P_fa fa103_1 ⟨b25, 0, none⟩ ⟨b25, 1, none⟩ rfl rfl) ?_
 refine M_pu 3 rfl (by kernel_rfl) hM43 (P_ldr ag4 cR ⟨b25, 1, none⟩ (vb c_.Had) rfl (h45.cell rfl) (nm_cons (fr_ne (L := [some b34]) (O := O) (i := 0) h45.2 rfl) nm_nil)) ?_
 refine M_pu 4 rfl (by kernel_rfl) hM43 (P_fa fa103_2 ⟨b25, 0, none⟩ ⟨b25, 2, none⟩ rfl rfl) ?_
 refine M_pu 5 rfl (by kernel_rfl) hM43 (P_ldar ag71 sz71 cR ⟨b25, 2, none⟩ [vs c_.Was.Id, vi c_.Was.Shape.Kind, .slice A3 n4 c5, .slice A8 n9 c10] rfl rfl (h45.cells (off := 2) rfl) (nm_cons (fr_ne (L := [some b34]) (O := O) (i := 0) h45.2 rfl) nm_nil)) ?_
 refine M_pu 7 rfl (by kernel_rfl) hM43 (P_fa fa103_3 ⟨b25, 0, none⟩ ⟨b25, 6, none⟩ rfl rfl) ?_
 refine M_pu 8 rfl (by kernel_rfl) hM43 (P_ldr ag4 cR ⟨b25, 6, none⟩ (vb c_.Has) rfl (h45.cell rfl) (nm_cons (fr_ne (L := [some b34]) (O := O) (i := 0) h45.2 rfl) nm_nil)) ?_
 refine M_pu 9 rfl (by kernel_rfl) hM43 (P_fa fa103_4 ⟨b25, 0, none⟩ ⟨b25, 7, none⟩ rfl rfl) ?_
 refine M_pu 10 rfl (by kernel_rfl) hM43 (P_ldar ag71 sz71 cR ⟨b25, 7, none⟩ [vs c_.Now.Id, vi c_.Now.Shape.Kind, .slice A14 n15 c16, .slice A19 n20 c21] rfl rfl (h45.cells (off := 7) rfl) (nm_cons (fr_ne (L := [some b34]) (O := O) (i := 0) h45.2 rfl) nm_nil)) ?_
 refine M_any1 6 (by kernel_rfl) rfl ?_
 refine L_call go80 [.agg #[vs c_.Was.Id, vi c_.Was.Shape.Kind, .slice A3 n4 c5, .slice A8 n9 c10]] rfl ((spec_l2Copy.calls w41 hc44.ok c_.Was A3 n4 c5 A8 n9 c10 hs2 (hp6.st hc44.st) (hp11.st hc44.st) _ H).mono ?_)
 rintro _ w46 ⟨r, A49, n50, c51, A54, n55, c56, rfl, H, g47, hk60, hk61, hs48, h52, h57⟩
 have hc62 := hc44.owns g47 hk60 hk61
 have hM63 := Gm.tm hM43 g47
 refine L_nil ⟨hM63, ?_⟩
 refine M_any1 11 (by kernel_rfl) rfl ?_
 refine L_call go80 [.agg #[vs c_.Now.Id, vi c_.Now.Shape.Kind, .slice A14 n15 c16, .slice A19 n20 c21]] rfl ((spec_l2Copy.calls w46 hc62.ok c_.Now A14 n15 c16 A19 n20 c21 hs13 (hp17.st hc62.st) (hp22.st hc62.st) _ H).mono ?_)
 rintro _ w64 ⟨r2, A67, n68, c69, A72, n73, c74, rfl, H, g65, hk78, hk79, hs66, h70, h75⟩
 have hc80 := hc62.owns g65 hk78 hk79
 have hM81 := Gm.tm hM63 g65
 refine L_nil ⟨hM81, ?_⟩
 refine M_pu 12 rfl (by kernel_rfl) hM81 (P_build (.agg #[vs c_.Id, vb c_.Had, vs r.Id, vi r.Shape.Kind, .slice A49 n50 c51, .slice A54 n55 c56, vb c_.Has, vs r2.Id, vi r2.Shape.Kind, .slice A67 n68 c69, .slice A72 n73 c74]) (fun _ => by kernel_rfl)) ?_
 refine M_any1 13 (by kernel_rfl) rfl ?_
 have h85 := (((hx38.k0 g42).k0 g47).k0 g65)
 refine L_stb b34 0 [vs ([] : Str), vb false, vs ([] : Str), vi 0, .slice none 0 0, .slice none 0 0, vb false, vs ([] : Str), vi 0, .slice none 0 0, .slice none 0 0] [vs c_.Id, vb c_.Had, vs r.Id, vi r.Shape.Kind, .slice A49 n50 c51, .slice A54 n55 c56, vb c_.Has, vs r2.Id, vi r2.Shape.Kind, .slice A67 n68 c69, .slice A72 n73 c74] [vs c_.Id, vb c_.Had, vs r.Id, vi r.Shape.Kind, .slice A49 n50 c51, .slice A54 n55 c56, vb c_.Has, vs r2.Id, vi r2.Shape.Kind, .slice A67 n68 c69, .slice A72 n73 c74] rfl h85 rfl sz103 rfl rfl rfl fun w82 g83 hx84 => ?_
 have hc86 := hc80.wr 4 rfl g83
 have hM87 := Gm.tq hM81 g83 (hv_mem 0 rfl)
 refine L_nil ⟨hM87, ?_⟩
 refine M_nil (by kernel_rfl) ?_
 refine W_ret ?_
 have h88 := Bx.gv (L := [blk (.slice A67 n68 c69), blk (.slice A72 n73 c74), blk (.slice A49 n50 c51), blk (.slice A54 n55 c56), some b34]) (O := O) hx84 hc86 (i := 4) rfl
 have hc89 := hc86.drop 4 rfl
 have hc90 := hc89.perm (.cons _ (.swap _ _ _))
 have hc91 := hc90.perm (.swap _ _ _)
 have hc92 := hc91.perm (.cons _ (.cons _ (.swap _ _ _)))
 have hc93 := hc92.perm (.cons _ (.swap _ _ _))
 have h94 := ((((h88.st (.perm (L := [blk (.slice A67 n68 c69), blk (.slice A72 n73 c74), blk (.slice A49 n50 c51), blk (.slice A54 n55 c56)]) (O := O) (.cons _ (.swap _ _ _)))).st (.perm (L := [blk (.slice A67 n68 c69), blk (.slice A49 n50 c51), blk (.slice A72 n73 c74), blk (.slice A54 n55 c56)]) (O := O) (.swap _ _ _))).st (.perm (L := [blk (.slice A49 n50 c51), blk (.slice A67 n68 c69), blk (.slice A72 n73 c74), blk (.slice A54 n55 c56)]) (O := O) (.cons _ (.cons _ (.swap _ _ _))))).st (.perm (L := [blk (.slice A49 n50 c51), blk (.slice A67 n68 c69), blk (.slice A54 n55 c56), blk (.slice A72 n73 c74)]) (O := O) (.cons _ (.swap _ _ _))))
 have h95 := (Ow.sp (L := [blk (.slice A49 n50 c51), blk (.slice A67 n68 c69), blk (.slice A54 n55 c56), blk (.slice A72 n73 c74)]) (O := O) (Ow.sp (L := [blk (.slice A49 n50 c51), blk (.slice A67 n68 c69), blk (.slice A72 n73 c74), blk (.slice A54 n55 c56)]) (O := O) (Ow.sp (L := [blk (.slice A67 n68 c69), blk (.slice A49 n50 c51), blk (.slice A72 n73 c74), blk (.slice A54 n55 c56)]) (O := O) (Ow.sp (L := [blk (.slice A67 n68 c69), blk (.slice A72 n73 c74), blk (.slice A49 n50 c51), blk (.slice A54 n55 c56)]) (O := O) (Ow.sd (L := [blk (.slice A67 n68 c69), blk (.slice A72 n73 c74), blk (.slice A49 n50 c51), blk (.slice A54 n55 c56), some b34]) (O := O) (Ow.sw (L := [blk (.slice A67 n68 c69), blk (.slice A72 n73 c74), blk (.slice A49 n50 c51), blk (.slice A54 n55 c56), some b34]) (O := O) (h52.sos g65 hk79) hc80 (i := 2) rfl (j := 4) rfl (by decide) g83) (i := 2) rfl (j := 4) rfl (by decide)) (.cons _ (.swap _ _ _))) (.swap _ _ _)) (.cons _ (.cons _ (.swap _ _ _)))) (.cons _ (.swap _ _ _)))
 have h96 := (Ow.sp (L := [blk (.slice A49 n50 c51), blk (.slice A67 n68 c69), blk (.slice A54 n55 c56), blk (.slice A72 n73 c74)]) (O := O) (Ow.sp (L := [blk (.slice A49 n50 c51), blk (.slice A67 n68 c69), blk (.slice A72 n73 c74), blk (.slice A54 n55 c56)]) (O := O) (Ow.sp (L := [blk (.slice A67 n68 c69), blk (.slice A49 n50 c51), blk (.slice A72 n73 c74), blk (.slice A54 n55 c56)]) (O := O) (Ow.sp (L := [blk (.slice A67 n68 c69), blk (.slice A72 n73 c74), blk (.slice A49 n50 c51), blk (.slice A54 n55 c56)]) (O := O) (Ow.sd (L := [blk (.slice A67 n68 c69), blk (.slice A72 n73 c74), blk (.slice A49 n50 c51), blk (.slice A54 n55 c56), some b34]) (O := O) (Ow.sw (L := [blk (.slice A67 n68 c69), blk (.slice A72 n73 c74), blk (.slice A49 n50 c51), blk (.slice A54 n55 c56), some b34]) (O := O) (h57.sos g65 hk79) hc80 (i := 3) rfl (j := 4) rfl (by decide) g83) (i := 3) rfl (j := 4) rfl (by decide)) (.cons _ (.swap _ _ _))) (.swap _ _ _)) (.cons _ (.cons _ (.swap _ _ _)))) (.cons _ (.swap _ _ _)))
 have h97 := (Ow.sp (L := [blk (.slice A49 n50 c51), blk (.slice A67 n68 c69), blk (.slice A54 n55 c56), blk (.slice A72 n73 c74)]) (O := O) (Ow.sp (L := [blk (.slice A49 n50 c51), blk (.slice A67 n68 c69), blk (.slice A72 n73 c74), blk (.slice A54 n55 c56)]) (O := O) (Ow.sp (L := [blk (.slice A67 n68 c69), blk (.slice A49 n50 c51), blk (.slice A72 n73 c74), blk (.slice A54 n55 c56)]) (O := O) (Ow.sp (L := [blk (.slice A67 n68 c69), blk (.slice A72 n73 c74), blk (.slice A49 n50 c51), blk (.slice A54 n55 c56)]) (O := O) (Ow.sd (L := [blk (.slice A67 n68 c69), blk (.slice A72 n73 c74), blk (.slice A49 n50 c51), blk (.slice A54 n55 c56), some b34]) (O := O) (Ow.sw (L := [blk (.slice A67 n68 c69), blk (.slice A72 n73 c74), blk (.slice A49 n50 c51), blk (.slice A54 n55 c56), some b34]) (O := O) h70 hc80 (i := 0) rfl (j := 4) rfl (by decide) g83) (i := 0) rfl (j := 4) rfl (by decide)) (.cons _ (.swap _ _ _))) (.swap _ _ _)) (.cons _ (.cons _ (.swap _ _ _)))) (.cons _ (.swap _ _ _)))
 have h98 := (Ow.sp (L := [blk (.slice A49 n50 c51), blk (.slice A67 n68 c69), blk (.slice A54 n55 c56), blk (.slice A72 n73 c74)]) (O := O) (Ow.sp (L := [blk (.slice A49 n50 c51), blk (.slice A67 n68 c69), blk (.slice A72 n73 c74), blk (.slice A54 n55 c56)]) (O := O) (Ow.sp (L := [blk (.slice A67 n68 c69), blk (.slice A49 n50 c51), blk (.slice A72 n73 c74), blk (.slice A54 n55 c56)]) (O := O) (Ow.sp (L := [blk (.slice A67 n68 c69), blk (.slice A72 n73 c74), blk (.slice A49 n50 c51), blk (.slice A54 n55 c56)]) (O := O) (Ow.sd (L := [blk (.slice A67 n68 c69), blk (.slice A72 n73 c74), blk (.slice A49 n50 c51), blk (.slice A54 n55 c56), some b34]) (O := O) (Ow.sw (L := [blk (.slice A67 n68 c69), blk (.slice A72 n73 c74), blk (.slice A49 n50 c51), blk (.slice A54 n55 c56), some b34]) (O := O) h75 hc80 (i := 1) rfl (j := 4) rfl (by decide) g83) (i := 1) rfl (j := 4) rfl (by decide)) (.cons _ (.swap _ _ _))) (.swap _ _ _)) (.cons _ (.cons _ (.swap _ _ _)))) (.cons _ (.swap _ _ _)))
 exact ⟨[.agg #[vs c_.Id, vb c_.Had, vs r.Id, vi r.Shape.Kind, .slice A49 n50 c51, .slice A54 n55 c56, vb c_.Has, vs r2.Id, vi r2.Shape.Kind, .slice A67 n68 c69, .slice A72 n73 c74]], ⟨_, _, rfl, h94.1.res rfl ag103 sz103, rfl⟩, (⟨c_.Id, c_.Had, r, c_.Has, r2⟩ : Change), A49, n50, c51, A54, n55, c56, A67, n68, c69, A72, n73, c74, rfl, H, hc93.gr.g0, hc93.ok, hc93.ge, hs1, hs48, h95, h96, hs66, h97, h98⟩
end Go.Proofs.Ytndjggncgpjolaa

namespace Go.Proofs.Ytndjggncgpjolaa
set_option linter.unusedVariables false
set_option linter.unusedSimpArgs false
set_option linter.unusedSectionVars false
theorem spec_l4Copy.law (c : Change) (Q : Change → Prop) (hb : bulk c ≤ 1048576) (hq : Q c) : spec_l4Copy.E c Q := by
 unfold spec_l4Copy.E
 have h := bulk_change c
 exact spec_l2Copy.law _ _ (by omega) (spec_l2Copy.law _ _ (by omega) hq)
end Go.Proofs.Ytndjggncgpjolaa
