/- It is proved here that the law FnExactDiffBack of the given program holds whatever it is handed: the walks through the code, the plain laws and the row, in this order.
   Conditions: none. -/
import Derived.Below
import Derived.ChangeArms
import Derived.ChangeOld
import Derived.ChangeSlices
import Derived.DataReads
import Derived.Deep.Quiet
import Derived.KernelRfl
import Derived.Laws.Build
import Derived.Laws.IdiomStrings
import Derived.Laws.OwnMore
import Derived.Laws.Slices
import Derived.Laws.StructEq
import Derived.OpenShut
import Derived.ProofKit
import Derived.ShutString
import Derived.SizedLaws
import Derived.StillTail
import Derived.Test.YtndjggncgpjolaaProg
import Derived.Test.YtndjggncgpjolaaRows
import Derived.WalkKit
import Derived.Test.YtndjggncgpjolaaCExactDiffBacka
import Derived.Test.YtndjggncgpjolaaCExactDiffBackb
import Derived.Test.YtndjggncgpjolaaCExactDiffBackc
namespace Go.Proofs.Ytndjggncgpjolaa
open Go.RowKit
set_option linter.unusedVariables false
def spec_DiffBack.E (d : List Change) (Q : List Change → Prop) : Prop :=
  (∃ (I39 : (List Change) → Int → Prop) (mu40 : (List Change) → Int → Nat), I39 ([] : List Change) 0 ∧ ∀ (xs2 : List Change) (i2 : Int), I39 xs2 i2 → (if decide (i2 < (d.length : Int)) then spec_DiffOk.E d (fun r => (if r then ((0 : Int) ≤ i2 ∧ i2 < (d.length : Int)) ∧ spec_l4Copy.E (nth d i2) (fun r2 => (xs2.length + ([(⟨r2.Id, r2.Has, r2.Now, r2.Had, r2.Was⟩ : Change)] : List Change).length ≤ 268435456) ∧ (-9223372036854775808 ≤ i2) ∧ I39 (xs2 ++ ([(⟨r2.Id, r2.Has, r2.Now, r2.Had, r2.Was⟩ : Change)] : List Change)) (i2 + 1) ∧ mu40 (xs2 ++ ([(⟨r2.Id, r2.Has, r2.Now, r2.Had, r2.Was⟩ : Change)] : List Change)) (i2 + 1) < mu40 xs2 i2) else Q xs2)) else Q xs2))
set_option maxHeartbeats 8000000 in
set_option maxRecDepth 100000 in
theorem spec_DiffBack.calls {O : Ob} (w0 : World) (hO : Ok w0 O) (d : List Change) (A1 : Option Addr) (n2 c3 : Nat) (hp4 : Sl kChange w0 (Fr O) (.slice A1 n2 c3) d) (Q : List Change → Prop) (h : spec_DiffBack.E d Q) :
    Ret Try.prog 19 [.slice A1 n2 c3] w0 (fun v w' => ∃ (r0 : List Change) (A0 : Option Addr) (n0 c0 : Nat), v = .slice A0 n0 c0 ∧ Q r0 ∧ Gr w0 w' none ∧ Ok w' ([blk (.slice A0 n0 c0)] ++ O) ∧ (∀ b, some b ∈ [blk (.slice A0 n0 c0)] → w0.heap.size ≤ b) ∧ Ow kChange 103 w' ([blk (.slice A0 n0 c0)] ++ O) (.slice A0 n0 c0) r0) := by
  have H : (∃ (I39 : (List Change) → Int → Prop) (mu40 : (List Change) → Int → Nat), I39 ([] : List Change) 0 ∧ ∀ (xs2 : List Change) (i2 : Int), I39 xs2 i2 → (if decide (i2 < (d.length : Int)) then spec_DiffOk.E d (fun r => (if r then ((0 : Int) ≤ i2 ∧ i2 < (d.length : Int)) ∧ spec_l4Copy.E (nth d i2) (fun r2 => (xs2.length + ([(⟨r2.Id, r2.Has, r2.Now, r2.Had, r2.Was⟩ : Change)] : List Change).length ≤ 268435456) ∧ (-9223372036854775808 ≤ i2) ∧ I39 (xs2 ++ ([(⟨r2.Id, r2.Has, r2.Now, r2.Had, r2.Was⟩ : Change)] : List Change)) (i2 + 1) ∧ mu40 (xs2 ++ ([(⟨r2.Id, r2.Has, r2.Now, r2.Had, r2.Was⟩ : Change)] : List Change)) (i2 + 1) < mu40 xs2 i2) else Q xs2)) else Q xs2)) := h
  clear h
  have hc0 := Ct.init hO
  refine Ret_enter Try.func19 rfl 37 rfl [.tmp 2] rfl rfl ?_
  refine W_seq ?_
  refine W_reg ?_
  refine L_pu (P_assign (.slice none 0 0) rfl) ?_
  refine L_nil ?_
  refine W_seq ?_
  refine W_reg ?_
  refine L_lit (kd := kChange) ei43 hc0 ([] : List Change) (cells := []) rfl (fun _ => by kernel_rfl) fun w6 A7 n8 c9 g10 hr11 hc12 h13 => ?_
  refine L_pu (P_assign (.slice A7 n8 c9) rfl) ?_
  refine L_nil ?_
  refine W_seq ?_
  refine W_seq ?_
  refine W_reg ?_
  refine L_pu (P_assign (vi 0) rfl) ?_
  refine L_nil ?_
  refine W_block ?_
  obtain ⟨I39, mu40, hI41, H⟩ := H
  refine W_loop (α := (List Change) × (Option Addr) × Nat × Nat × Int) (fun (sv__ : (List Change) × (Option Addr) × Nat × Nat × Int) t w30 => match sv__ with | (xs2, A32, n33, c34, i2) => I39 xs2 i2 ∧ Has t [(0, .slice A1 n2 c3), (3, .slice A32 n33 c34), (4, vi i2)] ∧ Ct [] w0 w30 [blk (.slice A32 n33 c34)] O ∧ Sl kChange w30 (Fr ([blk (.slice A32 n33 c34)] ++ O)) (.slice A1 n2 c3) d ∧ Ow kChange 103 w30 ([blk (.slice A32 n33 c34)] ++ O) (.slice A32 n33 c34) xs2) (fun (sv__ : (List Change) × (Option Addr) × Nat × Nat × Int) => match sv__ with | (xs2, _, _, _, i2) => mu40 xs2 i2) (([] : List Change), A7, n8, c9, 0) ⟨hI41, ⟨rfl, rfl, rfl, trivial⟩, hc12, (hp4.st hc12.st), h13⟩ ?_
  rintro ⟨xs2, A32, n33, c34, i2⟩ _ w30 ⟨hI41, hh43, hc36, h37, h38⟩
  obtain ⟨u44, rfl⟩ := Has.ins hh43
  have H := H xs2 i2 hI41
  refine W_seq ?_
  refine W_seq ?_
  refine W_reg ?_
  refine L_pu (P_move (vi i2) rfl) ?_
  refine L_pu (P_move (.slice A1 n2 c3) rfl) ?_
  have hl45 := h37.le
  refine L_pu (P_len Try.underlying43 A1 n2 c3 h37.len rfl) ?_
  refine L_pu (P_cmp i2 (d.length : Int) (decide (i2 < (d.length : Int))) rfl rfl rfl) ?_
  refine L_pu (P_move (vb (decide (i2 < (d.length : Int)))) rfl) ?_
  rcases bool_or (decide (i2 < (d.length : Int))) with hq46 | hq46
  · have H := ite_t H hq46
    refine L_run (dj := 11) rfl rfl (by exact congrArg Value.bool hq46) ?_
    refine L_pu (P_move (.slice A1 n2 c3) rfl) ?_
    refine L_run (dj := 11) rfl rfl (by exact congrArg Value.bool hq46) ?_
    refine L_call go61 [.slice A1 n2 c3] rfl ((spec_DiffOk.calls w30 hc36.ok d A1 n2 c3 h37 _ H).mono ?_)
    rintro _ w47 ⟨r, rfl, H, g48⟩
    have hc52 := hc36.k0 g48
    refine L_pu (P_pick true (vb r) (by exact congrArg Value.bool hq46) rfl) ?_
    refine L_nil ?_
    refine W_cond r rfl (fun hq53 => ?_) (fun hq53 => ?_)
    · have H := ite_t H hq53
      refine W_skip ?_
      refine W_seq ?_
      refine W_block ?_
      refine W_seq ?_
      refine W_reg ?_
      refine L_pu (P_move (.slice A1 n2 c3) rfl) ?_
      refine L_pu (P_move (vi i2) rfl) ?_
      obtain ⟨hb54, H⟩ := H
      obtain ⟨ad55, cs56, hA57, hS60, hR58, hcl59⟩ := (h37.st (.new _ g48)).get default (by decide) i2 hb54
      obtain ⟨A63, n64, c65, A68, n69, c70, A74, n75, c76, A79, n80, c81, rfl, hs61, hs62, h66, h71, hs73, h77, h82⟩ := kChange.op hR58
      refine L_pu (P_ia Try.underlying43 se43 A1 ad55 n2 c3 (h37.st (.new _ g48)).len i2 rfl hA57 rfl hb54) ?_
      refine L_pu (P_lda ag103 sz103 cL (ad55.add (i2.toNat * 11)) [vs ((nth d i2).Id), vb ((nth d i2).Had), vs ((nth d i2).Was.Id), vi ((nth d i2).Was.Shape.Kind), .slice A63 n64 c65, .slice A68 n69 c70, vb ((nth d i2).Has), vs ((nth d i2).Now.Id), vi ((nth d i2).Now.Shape.Kind), .slice A74 n75 c76, .slice A79 n80 c81] rfl rfl hcl59) ?_
      refine L_call go62 [.agg #[vs ((nth d i2).Id), vb ((nth d i2).Had), vs ((nth d i2).Was.Id), vi ((nth d i2).Was.Shape.Kind), .slice A63 n64 c65, .slice A68 n69 c70, vb ((nth d i2).Has), vs ((nth d i2).Now.Id), vi ((nth d i2).Now.Shape.Kind), .slice A74 n75 c76, .slice A79 n80 c81]] rfl ((spec_l4Copy.calls w47 hc52.ok (nth d i2) A63 n64 c65 A68 n69 c70 A74 n75 c76 A79 n80 c81 hs61 hs62 h66 h71 hs73 h77 h82 _ H).mono ?_)
      rintro _ w84 ⟨r2, A88, n89, c90, A93, n94, c95, A99, n100, c101, A104, n105, c106, rfl, H, g85, hk110, hk111, hs86, hs87, h91, h96, hs98, h102, h107⟩
      have hc112 := hc52.owns g85 hk110 hk111
      refine L_alloc [vs [], vb false, vs [], .int .i64 0, .slice none 0 0, .slice none 0 0, vb false, vs [], .int .i64 0, .slice none 0 0, .slice none 0 0] ze103 fun w113 b114 hl116 hu117 g115 hx118 => ?_
      have hc120 := hc112.own g115 (some b114) (oglt hl116 hu117)
      refine L_stb b114 0 [vs ([] : Str), vb false, vs ([] : Str), vi 0, .slice none 0 0, .slice none 0 0, vb false, vs ([] : Str), vi 0, .slice none 0 0, .slice none 0 0] [vs r2.Id, vb r2.Had, vs r2.Was.Id, vi r2.Was.Shape.Kind, .slice A88 n89 c90, .slice A93 n94 c95, vb r2.Has, vs r2.Now.Id, vi r2.Now.Shape.Kind, .slice A99 n100 c101, .slice A104 n105 c106] [vs r2.Id, vb r2.Had, vs r2.Was.Id, vi r2.Was.Shape.Kind, .slice A88 n89 c90, .slice A93 n94 c95, vb r2.Has, vs r2.Now.Id, vi r2.Now.Shape.Kind, .slice A99 n100 c101, .slice A104 n105 c106] rfl hx118 rfl sz103 rfl rfl rfl fun w121 g122 hx123 => ?_
      have hc124 := hc120.wr 0 rfl g122
      refine L_nil ?_
      refine W_reg ?_
      refine L_pu (P_move (.slice A32 n33 c34) rfl) ?_
      refine L_pu (P_fa fa103_0 ⟨b114, 0, none⟩ ⟨b114, 0, none⟩ rfl rfl) ?_
      refine L_pu (P_ld ag9 cL ⟨b114, 0, none⟩ (vs r2.Id) rfl (hx123.cell rfl)) ?_
      refine L_pu (P_fa fa103_3 ⟨b114, 0, none⟩ ⟨b114, 6, none⟩ rfl rfl) ?_
      refine L_pu (P_ld ag4 cL ⟨b114, 6, none⟩ (vb r2.Has) rfl (hx123.cell rfl)) ?_
      refine L_pu (P_fa fa103_4 ⟨b114, 0, none⟩ ⟨b114, 7, none⟩ rfl rfl) ?_
      refine L_pu (P_lda ag71 sz71 cL ⟨b114, 7, none⟩ [vs r2.Now.Id, vi r2.Now.Shape.Kind, .slice A99 n100 c101, .slice A104 n105 c106] rfl rfl (hx123.cells (off := 7) rfl)) ?_
      refine L_pu (P_fa fa103_1 ⟨b114, 0, none⟩ ⟨b114, 1, none⟩ rfl rfl) ?_
      refine L_pu (P_ld ag4 cL ⟨b114, 1, none⟩ (vb r2.Had) rfl (hx123.cell rfl)) ?_
      refine L_pu (P_fa fa103_2 ⟨b114, 0, none⟩ ⟨b114, 2, none⟩ rfl rfl) ?_
      refine L_pu (P_lda ag71 sz71 cL ⟨b114, 2, none⟩ [vs r2.Was.Id, vi r2.Was.Shape.Kind, .slice A88 n89 c90, .slice A93 n94 c95] rfl rfl (hx123.cells (off := 2) rfl)) ?_
      refine L_pu (P_build (.agg #[vs r2.Id, vb r2.Has, vs r2.Now.Id, vi r2.Now.Shape.Kind, .slice A99 n100 c101, .slice A104 n105 c106, vb r2.Had, vs r2.Was.Id, vi r2.Was.Shape.Kind, .slice A88 n89 c90, .slice A93 n94 c95]) (fun _ => by kernel_rfl)) ?_
      have h125 := (Ow.sw (L := [some b114, blk (.slice A88 n89 c90), blk (.slice A93 n94 c95), blk (.slice A99 n100 c101), blk (.slice A104 n105 c106), blk (.slice A32 n33 c34)]) (O := O) (h102.so _ g115 (oge hl116)) hc120 (i := 3) rfl (j := 0) rfl (by decide) g122)
      have h126 := Ow.gv (L := [some b114, blk (.slice A88 n89 c90), blk (.slice A93 n94 c95), blk (.slice A99 n100 c101), blk (.slice A104 n105 c106), blk (.slice A32 n33 c34)]) (O := O) h125 hc124 (i := 3) rfl
      have hc127 := hc124.drop 3 rfl
      have h129 := (Ow.sd (L := [some b114, blk (.slice A88 n89 c90), blk (.slice A93 n94 c95), blk (.slice A99 n100 c101), blk (.slice A104 n105 c106), blk (.slice A32 n33 c34)]) (O := O) (Ow.sw (L := [some b114, blk (.slice A88 n89 c90), blk (.slice A93 n94 c95), blk (.slice A99 n100 c101), blk (.slice A104 n105 c106), blk (.slice A32 n33 c34)]) (O := O) (h107.so _ g115 (oge hl116)) hc120 (i := 4) rfl (j := 0) rfl (by decide) g122) (i := 4) rfl (j := 3) rfl (by decide))
      have h130 := Ow.gv (L := [some b114, blk (.slice A88 n89 c90), blk (.slice A93 n94 c95), blk (.slice A104 n105 c106), blk (.slice A32 n33 c34)]) (O := O) h129 hc127 (i := 3) rfl
      have hc131 := hc127.drop 3 rfl
      have h133 := (Ow.sd (L := [some b114, blk (.slice A88 n89 c90), blk (.slice A93 n94 c95), blk (.slice A104 n105 c106), blk (.slice A32 n33 c34)]) (O := O) (Ow.sd (L := [some b114, blk (.slice A88 n89 c90), blk (.slice A93 n94 c95), blk (.slice A99 n100 c101), blk (.slice A104 n105 c106), blk (.slice A32 n33 c34)]) (O := O) (Ow.sw (L := [some b114, blk (.slice A88 n89 c90), blk (.slice A93 n94 c95), blk (.slice A99 n100 c101), blk (.slice A104 n105 c106), blk (.slice A32 n33 c34)]) (O := O) (h91.so _ g115 (oge hl116)) hc120 (i := 1) rfl (j := 0) rfl (by decide) g122) (i := 1) rfl (j := 3) rfl (by decide)) (i := 1) rfl (j := 3) rfl (by decide))
      have h134 := Ow.gv (L := [some b114, blk (.slice A88 n89 c90), blk (.slice A93 n94 c95), blk (.slice A32 n33 c34)]) (O := O) h133 hc131 (i := 1) rfl
      have hc135 := hc131.drop 1 rfl
      have h137 := (Ow.sd (L := [some b114, blk (.slice A88 n89 c90), blk (.slice A93 n94 c95), blk (.slice A32 n33 c34)]) (O := O) (Ow.sd (L := [some b114, blk (.slice A88 n89 c90), blk (.slice A93 n94 c95), blk (.slice A104 n105 c106), blk (.slice A32 n33 c34)]) (O := O) (Ow.sd (L := [some b114, blk (.slice A88 n89 c90), blk (.slice A93 n94 c95), blk (.slice A99 n100 c101), blk (.slice A104 n105 c106), blk (.slice A32 n33 c34)]) (O := O) (Ow.sw (L := [some b114, blk (.slice A88 n89 c90), blk (.slice A93 n94 c95), blk (.slice A99 n100 c101), blk (.slice A104 n105 c106), blk (.slice A32 n33 c34)]) (O := O) (h96.so _ g115 (oge hl116)) hc120 (i := 2) rfl (j := 0) rfl (by decide) g122) (i := 2) rfl (j := 3) rfl (by decide)) (i := 2) rfl (j := 3) rfl (by decide)) (i := 2) rfl (j := 1) rfl (by decide))
      have h138 := Ow.gv (L := [some b114, blk (.slice A93 n94 c95), blk (.slice A32 n33 c34)]) (O := O) h137 hc135 (i := 1) rfl
      have hc139 := hc135.drop 1 rfl
      have h149 := (((h126.st (.dr _ (L := [some b114, blk (.slice A88 n89 c90), blk (.slice A93 n94 c95), blk (.slice A104 n105 c106), blk (.slice A32 n33 c34)]) (O := O) (j := 3) rfl)).st (.dr _ (L := [some b114, blk (.slice A88 n89 c90), blk (.slice A93 n94 c95), blk (.slice A32 n33 c34)]) (O := O) (j := 1) rfl)).st (.dr _ (L := [some b114, blk (.slice A93 n94 c95), blk (.slice A32 n33 c34)]) (O := O) (j := 1) rfl))
      have h150 := ((h130.st (.dr _ (L := [some b114, blk (.slice A88 n89 c90), blk (.slice A93 n94 c95), blk (.slice A32 n33 c34)]) (O := O) (j := 1) rfl)).st (.dr _ (L := [some b114, blk (.slice A93 n94 c95), blk (.slice A32 n33 c34)]) (O := O) (j := 1) rfl))
      have h151 := (h134.st (.dr _ (L := [some b114, blk (.slice A93 n94 c95), blk (.slice A32 n33 c34)]) (O := O) (j := 1) rfl))
      refine L_lit (kd := kChange) ei43 hc139 ([(⟨r2.Id, r2.Has, r2.Now, r2.Had, r2.Was⟩ : Change)] : List Change) (cells := [vs r2.Id, vb r2.Has, vs r2.Now.Id, vi r2.Now.Shape.Kind, .slice A99 n100 c101, .slice A104 n105 c106, vb r2.Had, vs r2.Was.Id, vi r2.Was.Shape.Kind, .slice A88 n89 c90, .slice A93 n94 c95]) ⟨[vs r2.Id, vb r2.Has, vs r2.Now.Id, vi r2.Now.Shape.Kind, .slice A99 n100 c101, .slice A104 n105 c106, vb r2.Had, vs r2.Was.Id, vi r2.Was.Shape.Kind, .slice A88 n89 c90, .slice A93 n94 c95], _, rfl, (kChange.mk _ _ (⟨r2.Id, r2.Has, r2.Now, r2.Had, r2.Was⟩ : Change) hs86 hs98 h149 h150 hs87 h151 h138), rfl⟩ (fun _ => by kernel_rfl) fun w141 A142 n143 c144 g145 hr146 hc147 h148 => ?_
      obtain ⟨hb153, H⟩ := H
      have h154 := ((Ow.sd (L := [some b114, blk (.slice A93 n94 c95), blk (.slice A32 n33 c34)]) (O := O) (Ow.sd (L := [some b114, blk (.slice A88 n89 c90), blk (.slice A93 n94 c95), blk (.slice A32 n33 c34)]) (O := O) (Ow.sd (L := [some b114, blk (.slice A88 n89 c90), blk (.slice A93 n94 c95), blk (.slice A104 n105 c106), blk (.slice A32 n33 c34)]) (O := O) (Ow.sd (L := [some b114, blk (.slice A88 n89 c90), blk (.slice A93 n94 c95), blk (.slice A99 n100 c101), blk (.slice A104 n105 c106), blk (.slice A32 n33 c34)]) (O := O) (Ow.sw (L := [some b114, blk (.slice A88 n89 c90), blk (.slice A93 n94 c95), blk (.slice A99 n100 c101), blk (.slice A104 n105 c106), blk (.slice A32 n33 c34)]) (O := O) (((h38.sn g48).sos g85 hk111).so _ g115 (oge hl116)) hc120 (i := 5) rfl (j := 0) rfl (by decide) g122) (i := 5) rfl (j := 3) rfl (by decide)) (i := 4) rfl (j := 3) rfl (by decide)) (i := 3) rfl (j := 1) rfl (by decide)) (i := 2) rfl (j := 1) rfl (by decide)).so _ g145 hr146)
      refine L_app ei43 hc147 (.slice A32 n33 c34) xs2 ([(⟨r2.Id, r2.Has, r2.Now, r2.Had, r2.Was⟩ : Change)] : List Change) rfl h154 (.slice A142 n143 c144) rfl h148.sx 2 rfl hb153 fun w155 A156 n157 c158 g159 s160 hc161 h162 => ?_
      refine L_pu (P_assign (.slice A156 n157 c158) rfl) ?_
      refine L_nil ?_
      refine W_reg ?_
      refine L_pu (P_move (vi i2) rfl) ?_
      obtain ⟨hb165, H⟩ := H
      have hi164 : I64 (i2 + 1) := i64_succ (of_decide_eq_true hq46) hl45 hb165
      refine L_pu (P_add i2 1 rfl rfl hi164) ?_
      refine L_pu (P_assign (vi (i2 + 1)) rfl) ?_
      refine L_nil ?_
      have hc166 := hc161.drop 0 rfl
      have hc167 := hc166.drop 0 rfl
      obtain ⟨hI168, hm169⟩ := H
      have h170 := ((((((((((((h37.st (.new _ g48)).st (.owns _ g85 hk111)).st (.own _ _ g115 (oge hl116))).st (.wl (L := [some b114, blk (.slice A88 n89 c90), blk (.slice A93 n94 c95), blk (.slice A99 n100 c101), blk (.slice A104 n105 c106), blk (.slice A32 n33 c34)]) (O := O) (j := 0) rfl g122)).st (.dr _ (L := [some b114, blk (.slice A88 n89 c90), blk (.slice A93 n94 c95), blk (.slice A99 n100 c101), blk (.slice A104 n105 c106), blk (.slice A32 n33 c34)]) (O := O) (j := 3) rfl)).st (.dr _ (L := [some b114, blk (.slice A88 n89 c90), blk (.slice A93 n94 c95), blk (.slice A104 n105 c106), blk (.slice A32 n33 c34)]) (O := O) (j := 3) rfl)).st (.dr _ (L := [some b114, blk (.slice A88 n89 c90), blk (.slice A93 n94 c95), blk (.slice A32 n33 c34)]) (O := O) (j := 1) rfl)).st (.dr _ (L := [some b114, blk (.slice A93 n94 c95), blk (.slice A32 n33 c34)]) (O := O) (j := 1) rfl)).st (.own _ _ g145 hr146)).st s160).st (.dr _ (L := [blk (.slice A142 n143 c144), some b114, blk (.slice A156 n157 c158)]) (O := O) (j := 0) rfl)).st (.dr _ (L := [some b114, blk (.slice A156 n157 c158)]) (O := O) (j := 0) rfl))
      have h171 := (Ow.sd (L := [some b114, blk (.slice A156 n157 c158)]) (O := O) (Ow.sd (L := [blk (.slice A142 n143 c144), some b114, blk (.slice A156 n157 c158)]) (O := O) h162 (i := 2) rfl (j := 0) rfl (by decide)) (i := 1) rfl (j := 0) rfl (by decide))
      exact ⟨((xs2 ++ ([(⟨r2.Id, r2.Has, r2.Now, r2.Had, r2.Was⟩ : Change)] : List Change)), A156, n157, c158, i2 + 1), hm169, hI168, ⟨rfl, rfl, rfl, trivial⟩, hc167, h170, h171⟩
    · have H := ite_f H hq53
      refine W_exit (xin_hit ?_)
      refine W_seq ?_
      refine W_reg ?_
      refine L_pu (P_move (.slice A32 n33 c34) rfl) ?_
      refine L_pu (P_assign (.slice A32 n33 c34) rfl) ?_
      refine L_nil ?_
      refine W_ret ?_
      have h172 := (h38.sn g48)
      exact ⟨[.slice A32 n33 c34], ⟨_, rfl, rfl⟩, xs2, A32, n33, c34, rfl, H, hc52.gr.g0, hc52.ok, hc52.ge, h172⟩
  · have H := ite_f H hq46
    refine L_pass (dj := 11) rfl rfl (.inl (by exact congrArg Value.bool hq46)) ?_
    refine L_pass (dj := 11) rfl rfl (.inl (by exact congrArg Value.bool hq46)) ?_
    refine L_pu (P_pick false (vb false) (by exact congrArg Value.bool hq46) rfl) ?_
    refine L_nil ?_
    refine W_cf (b := false) rfl rfl ?_
    refine W_exit (xin_hit ?_)
    refine W_seq ?_
    refine W_reg ?_
    refine L_pu (P_move (.slice A32 n33 c34) rfl) ?_
    refine L_pu (P_assign (.slice A32 n33 c34) rfl) ?_
    refine L_nil ?_
    refine W_ret ?_
    exact ⟨[.slice A32 n33 c34], ⟨_, rfl, rfl⟩, xs2, A32, n33, c34, rfl, H, hc36.gr.g0, hc36.ok, hc36.ge, h38⟩
end Go.Proofs.Ytndjggncgpjolaa

namespace Go.Proofs.Ytndjggncgpjolaa
open Go.RowKit
set_option linter.unusedVariables false
def impl_within.E (n : Int) (low : Int) (high : Int) (Q : Bool → Prop) : Prop :=
  (if decide (n ≥ low) then Q (decide (n ≤ high)) else Q false)
set_option maxHeartbeats 8000000 in
set_option maxRecDepth 100000 in
theorem impl_within.calls {O : Ob} (w0 : World) (hO : Ok w0 O) (n : Int) (low : Int) (high : Int) (Q : Bool → Prop) (h : impl_within.E n low high Q) :
    Ret Try.prog 112 [vi n, vi low, vi high] w0 (fun v w' => ∃ (r0 : Bool), v = vb r0 ∧ Q r0 ∧ Gr w0 w' none ∧ w' = w0) := by
  have H : (if decide (n ≥ low) then Q (decide (n ≤ high)) else Q false) := h
  clear h
  have hc0 := Ct.init hO
  refine Ret_enter Try.func112 rfl 15 rfl [.tmp 6] rfl rfl ?_
  refine W_seq ?_
  refine W_reg ?_
  refine L_pu (P_assign (vb false) rfl) ?_
  refine L_nil ?_
  refine W_seq ?_
  refine W_reg ?_
  refine L_pu (P_move (vi n) rfl) ?_
  refine L_pu (P_move (vi low) rfl) ?_
  refine L_pu (P_cmp n low (decide (n ≥ low)) rfl rfl rfl) ?_
  refine L_pu (P_move (vb (decide (n ≥ low))) rfl) ?_
  rcases bool_or (decide (n ≥ low)) with hq1 | hq1
  · have H := ite_t H hq1
    refine L_run (dj := 10) rfl rfl (by exact congrArg Value.bool hq1) ?_
    refine L_pu (P_move (vi n) rfl) ?_
    refine L_run (dj := 10) rfl rfl (by exact congrArg Value.bool hq1) ?_
    refine L_pu (P_move (vi high) rfl) ?_
    refine L_run (dj := 10) rfl rfl (by exact congrArg Value.bool hq1) ?_
    refine L_pu (P_cmp n high (decide (n ≤ high)) rfl rfl rfl) ?_
    refine L_pu (P_pick true (vb (decide (n ≤ high))) (by exact congrArg Value.bool hq1) rfl) ?_
    refine L_pu (P_assign (vb (decide (n ≤ high))) rfl) ?_
    refine L_nil ?_
    refine W_ret ?_
    exact ⟨[vb (decide (n ≤ high))], ⟨_, rfl, rfl⟩, decide (n ≤ high), rfl, H, hc0.gr.g0, rfl⟩
  · have H := ite_f H hq1
    refine L_pass (dj := 10) rfl rfl (.inl (by exact congrArg Value.bool hq1)) ?_
    refine L_pass (dj := 10) rfl rfl (.inl (by exact congrArg Value.bool hq1)) ?_
    refine L_pass (dj := 10) rfl rfl (.inl (by exact congrArg Value.bool hq1)) ?_
    refine L_pu (P_pick false (vb false) (by exact congrArg Value.bool hq1) rfl) ?_
    refine L_pu (P_assign (vb false) rfl) ?_
    refine L_nil ?_
    refine W_ret ?_
    exact ⟨[vb false], ⟨_, rfl, rfl⟩, false, rfl, H, hc0.gr.g0, rfl⟩
def impl_within.m (n : Int) (low : Int) (high : Int) : Bool := (if decide (n ≥ low) then (decide (n ≤ high)) else false)
theorem impl_within.fn (n : Int) (low : Int) (high : Int) : impl_within.E n low high (fun r => r = impl_within.m n low high) := by
  unfold impl_within.E impl_within.m
  (repeat' split) <;> simp_all
end Go.Proofs.Ytndjggncgpjolaa

namespace Go.Proofs.Ytndjggncgpjolaa
set_option linter.unusedVariables false
set_option linter.unusedSimpArgs false
set_option linter.unusedSectionVars false
theorem impl_within.law (n lo hi : Int) (Q : Bool → Prop) (hq : Q (decide (lo ≤ n) && decide (n ≤ hi))) : impl_within.E n lo hi Q := by
  unfold impl_within.E
  by_cases h : lo ≤ n
  · rw [if_pos (by simpa using h)]; rw [decide_eq_true h, Bool.true_and] at hq; exact hq
  · rw [if_neg (by simpa using h)]; rw [decide_eq_false h, Bool.false_and] at hq; exact hq
theorem impl_within.m_is (n lo hi : Int) : impl_within.m n lo hi = (decide (lo ≤ n) && decide (n ≤ hi)) := by
  unfold impl_within.m
  by_cases h : lo ≤ n
  · rw [if_pos (by simpa using h), decide_eq_true h, Bool.true_and]
  · rw [if_neg (by simpa using h), decide_eq_false h, Bool.false_and]
end Go.Proofs.Ytndjggncgpjolaa

namespace Go.Proofs.Ytndjggncgpjolaa
open Go.RowKit
set_option linter.unusedVariables false
def impl_WordOk.E (s : Str) (Q : Bool → Prop) : Prop :=
  (∃ (I9 : Int → Prop) (mu10 : Int → Nat), I9 0 ∧ ∀ (v2 : Int), I9 v2 → (if decide (v2 < (s.length : Int)) then ((0 : Int) ≤ v2 ∧ v2 < (s.length : Int)) ∧ (if decide (((nth s v2).toNat : Int) < 97) then Q false else ((0 : Int) ≤ v2 ∧ v2 < (s.length : Int)) ∧ (if decide (((nth s v2).toNat : Int) > 122) then Q false else (I64 (v2 + 1)) ∧ I9 (v2 + 1) ∧ mu10 (v2 + 1) < mu10 v2)) else impl_within.E (s.length : Int) 1 6 (fun r => Q r)))
set_option maxHeartbeats 8000000 in
set_option maxRecDepth 100000 in
theorem impl_WordOk.calls {O : Ob} (w0 : World) (hO : Ok w0 O) (s : Str) (hs1 : Lim s) (Q : Bool → Prop) (h : impl_WordOk.E s Q) :
    Ret Try.prog 53 [vs s] w0 (fun v w' => ∃ (r0 : Bool), v = vb r0 ∧ Q r0 ∧ Gr w0 w' none) := by
  have H : (∃ (I9 : Int → Prop) (mu10 : Int → Nat), I9 0 ∧ ∀ (v2 : Int), I9 v2 → (if decide (v2 < (s.length : Int)) then ((0 : Int) ≤ v2 ∧ v2 < (s.length : Int)) ∧ (if decide (((nth s v2).toNat : Int) < 97) then Q false else ((0 : Int) ≤ v2 ∧ v2 < (s.length : Int)) ∧ (if decide (((nth s v2).toNat : Int) > 122) then Q false else (I64 (v2 + 1)) ∧ I9 (v2 + 1) ∧ mu10 (v2 + 1) < mu10 v2)) else impl_within.E (s.length : Int) 1 6 (fun r => Q r))) := h
  clear h
  have hc0 := Ct.init hO
  refine Ret_enter Try.func53 rfl 23 rfl [.tmp 2] rfl rfl ?_
  refine W_seq ?_
  refine W_reg ?_
  refine L_pu (P_assign (vb false) rfl) ?_
  refine L_nil ?_
  refine W_seq ?_
  refine W_seq ?_
  refine W_reg ?_
  refine L_pu (P_move (vs s) rfl) ?_
  have hl2 := hs1
  refine L_pu (P_lens Try.underlying9 s rfl) ?_
  refine L_pu (P_move (vi 0) rfl) ?_
  refine L_nil ?_
  refine W_block ?_
  obtain ⟨I9, mu10, hI11, H⟩ := H
  refine W_loop (α := Int) (fun (sv__ : Int) t w7 => match sv__ with | v2 => I9 v2 ∧ Has t [(0, vs s), (5, vi (s.length : Int)), (6, vi v2)] ∧ Ct [] w0 w7 [] O) (fun (sv__ : Int) => match sv__ with | v2 => mu10 v2) 0 ⟨hI11, ⟨rfl, rfl, rfl, trivial⟩, hc0⟩ ?_
  rintro v2 _ w7 ⟨hI11, hh13, hc8⟩
  obtain ⟨u14, rfl⟩ := Has.ins hh13
  have H := H v2 hI11
  refine W_seq ?_
  refine W_reg ?_
  refine L_pu (P_cmp v2 (s.length : Int) (decide (v2 < (s.length : Int))) rfl rfl rfl) ?_
  refine L_nil ?_
  refine W_seq ?_
  refine W_cond (decide (v2 < (s.length : Int))) rfl (fun hq15 => ?_) (fun hq15 => ?_)
  · have H := ite_t H hq15
    refine W_skip ?_
    refine W_seq ?_
    refine W_block ?_
    refine W_seq ?_
    refine W_reg ?_
    refine L_pu (P_move (vi v2) rfl) ?_
    refine L_pu (P_assign (vi v2) rfl) ?_
    refine L_nil ?_
    refine W_seq ?_
    refine W_reg ?_
    refine L_pu (P_move (vs s) rfl) ?_
    refine L_pu (P_move (vi v2) rfl) ?_
    obtain ⟨hb16, H⟩ := H
    refine L_pu (P_index Try.underlying9 s v2 rfl rfl hb16) ?_
    refine L_pu (P_cmp ((nth s v2).toNat : Int) 97 (decide (((nth s v2).toNat : Int) < 97)) rfl rfl rfl) ?_
    refine L_pu (P_move (vb (decide (((nth s v2).toNat : Int) < 97))) rfl) ?_
    rcases bool_or (decide (((nth s v2).toNat : Int) < 97)) with hq17 | hq17
    · have H := ite_t H hq17
      refine L_pass (dj := 13) rfl rfl (.inl (by exact congrArg Value.bool hq17)) ?_
      refine L_pass (dj := 13) rfl rfl (.inl (by exact congrArg Value.bool hq17)) ?_
      refine L_pass (dj := 13) rfl rfl (.inl (by exact congrArg Value.bool hq17)) ?_
      refine L_pass (dj := 13) rfl rfl (.inl (by exact congrArg Value.bool hq17)) ?_
      refine L_pu (P_pick true (vb true) (by exact congrArg Value.bool hq17) rfl) ?_
      refine L_nil ?_
      refine W_ct (b := true) rfl rfl ?_
      refine W_seq ?_
      refine W_reg ?_
      refine L_pu (P_assign (vb false) rfl) ?_
      refine L_nil ?_
      refine W_ret ?_
      exact ⟨[vb false], ⟨_, rfl, rfl⟩, false, rfl, H, hc8.gr.g0⟩
    · have H := ite_f H hq17
      refine L_run (dj := 13) rfl rfl (by exact congrArg Value.bool hq17) ?_
      refine L_pu (P_move (vs s) rfl) ?_
      refine L_run (dj := 13) rfl rfl (by exact congrArg Value.bool hq17) ?_
      refine L_pu (P_move (vi v2) rfl) ?_
      refine L_run (dj := 13) rfl rfl (by exact congrArg Value.bool hq17) ?_
      obtain ⟨hb18, H⟩ := H
      refine L_pu (P_index Try.underlying9 s v2 rfl rfl hb18) ?_
      refine L_run (dj := 13) rfl rfl (by exact congrArg Value.bool hq17) ?_
      refine L_pu (P_cmp ((nth s v2).toNat : Int) 122 (decide (((nth s v2).toNat : Int) > 122)) rfl rfl rfl) ?_
      refine L_pu (P_pick false (vb (decide (((nth s v2).toNat : Int) > 122))) (by exact congrArg Value.bool hq17) rfl) ?_
      refine L_nil ?_
      refine W_cond (decide (((nth s v2).toNat : Int) > 122)) rfl (fun hq19 => ?_) (fun hq19 => ?_)
      · have H := ite_t H hq19
        refine W_seq ?_
        refine W_reg ?_
        refine L_pu (P_assign (vb false) rfl) ?_
        refine L_nil ?_
        refine W_ret ?_
        exact ⟨[vb false], ⟨_, rfl, rfl⟩, false, rfl, H, hc8.gr.g0⟩
      · have H := ite_f H hq19
        refine W_skip ?_
        refine W_reg ?_
        obtain ⟨hb20, H⟩ := H
        refine L_pu (P_add v2 1 rfl rfl hb20) ?_
        refine L_pu (P_move (vi (v2 + 1)) rfl) ?_
        refine L_nil ?_
        obtain ⟨hI21, hm22⟩ := H
        exact ⟨v2 + 1, hm22, hI21, ⟨rfl, rfl, rfl, trivial⟩, hc8⟩
  · have H := ite_f H hq15
    refine W_exit (xin_hit ?_)
    refine W_seq ?_
    refine W_reg ?_
    refine L_pu (P_move (vs s) rfl) ?_
    have hl23 := hs1
    refine L_pu (P_lens Try.underlying9 s rfl) ?_
    refine L_call go112 [vi (s.length : Int), vi 1, vi 6] rfl ((impl_within.calls w7 hc8.ok (s.length : Int) 1 6 _ H).mono ?_)
    rintro _ w24 ⟨r, rfl, H, g25, _⟩
    have hc29 := hc8.k0 g25
    refine L_pu (P_assign (vb r) rfl) ?_
    refine L_nil ?_
    refine W_ret ?_
    exact ⟨[vb r], ⟨_, rfl, rfl⟩, r, rfl, H, hc29.gr.g0⟩
end Go.Proofs.Ytndjggncgpjolaa

namespace Go.Proofs.Ytndjggncgpjolaa
set_option linter.unusedVariables false
set_option linter.unusedSimpArgs false
set_option linter.unusedSectionVars false
theorem impl_WordOk.law (s : Str) (Q : Bool → Prop) (hl : s.length ≤ 1048576) (hq : Q (wordOk s)) : impl_WordOk.E s Q := by
  unfold impl_WordOk.E
  unfold wordOk at hq
  refine loop_all s.length (fun k => byteOk (nth s (k : Int))) (fun I mu k hk hp hn => ?_) (fun ha => ?_)
  · refine ⟨by omega, ?_⟩
    cases h1 : decide (((nth s (k : Int)).toNat : Int) < 97) with
    | true => rw [if_pos rfl]; rw [allN_false hk (by simp only [byteOk, h1]; rfl), Bool.false_and] at hq; exact hq
    | false =>
      rw [if_neg (by decide)]
      refine ⟨by omega, ?_⟩
      cases h2 : decide (((nth s (k : Int)).toNat : Int) > 122) with
      | true => rw [if_pos rfl]; rw [allN_false hk (by simp only [byteOk, h1, h2]; rfl), Bool.false_and] at hq; exact hq
      | false =>
        rw [if_neg (by decide)]
        obtain ⟨i1, i2⟩ := hn (by simp only [byteOk, h1, h2]; rfl)
        exact ⟨by unfold I64; omega, i1, i2⟩
  · rw [allN_true ha, Bool.true_and] at hq
    refine impl_within.law _ _ _ _ ?_
    have e1 : decide ((1 : Int) ≤ (s.length : Int)) = decide (1 ≤ s.length) := decide_eq_decide.2 (by omega)
    have e2 : decide ((s.length : Int) ≤ 6) = decide (s.length ≤ 6) := decide_eq_decide.2 (by omega)
    rw [e1, e2]; exact hq
end Go.Proofs.Ytndjggncgpjolaa

namespace Go.Proofs.Ytndjggncgpjolaa
open Go.RowKit
set_option linter.unusedVariables false
def impl_noFeat.E (f : Feat) (Q : Bool → Prop) : Prop :=
  (if f.Id == ([] : Str) then (if f.Shape.Kind == 0 then (if (f.Shape.Pts.length : Int) == 0 then Q ((f.Tags.length : Int) == 0) else Q false) else Q false) else Q false)
set_option maxHeartbeats 8000000 in
set_option maxRecDepth 100000 in
theorem impl_noFeat.calls {O : Ob} (w0 : World) (hO : Ok w0 O) (f : Feat) (A2 : Option Addr) (n3 c4 : Nat) (A7 : Option Addr) (n8 c9 : Nat) (hs1 : Lim f.Id) (hp5 : Sl kPt w0 (Fr O) (.slice A2 n3 c4) f.Shape.Pts) (hp10 : Sl kTag w0 (Fr O) (.slice A7 n8 c9) f.Tags) (Q : Bool → Prop) (h : impl_noFeat.E f Q) :
    Ret Try.prog 149 [.agg #[vs f.Id, vi f.Shape.Kind, .slice A2 n3 c4, .slice A7 n8 c9]] w0 (fun v w' => ∃ (r0 : Bool), v = vb r0 ∧ Q r0 ∧ Gr w0 w' none) := by
  have H : (if f.Id == ([] : Str) then (if f.Shape.Kind == 0 then (if (f.Shape.Pts.length : Int) == 0 then Q ((f.Tags.length : Int) == 0) else Q false) else Q false) else Q false) := h
  clear h
  have hc0 := Ct.init hO
  refine Ret_enter Try.func149 rfl 25 rfl [.tmp 2] rfl rfl ?_
  refine W_seq ?_
  refine W_reg ?_
  refine L_box [vs f.Id, vi f.Shape.Kind, .slice A2 n3 c4, .slice A7 n8 c9] rfl fun w12 b13 hl15 hu16 g14 hx17 => ?_
  have h19 := Fb.mk hc0.ok hl15 hx17
  have hc20 := hc0.k0 g14
  refine L_pu (P_assign (vb false) rfl) ?_
  refine L_nil ?_
  refine W_seq ?_
  refine W_reg ?_
  refine L_pu (P_fa fa71_0 ⟨b13, 0, none⟩ ⟨b13, 0, none⟩ rfl rfl) ?_
  refine L_pu (P_ld ag9 cL ⟨b13, 0, none⟩ (vs f.Id) rfl (h19.cell rfl)) ?_
  refine L_pu (P_scmp f.Id ([] : Str) (f.Id == ([] : Str)) rfl rfl rfl) ?_
  refine L_pu (P_move (vb (f.Id == ([] : Str))) rfl) ?_
  rcases bool_or (f.Id == ([] : Str)) with hq21 | hq21
  · have H := ite_t H hq21
    refine L_run (dj := 6) rfl rfl (by exact congrArg Value.bool hq21) ?_
    refine L_pu (P_fa fa71_1 ⟨b13, 0, none⟩ ⟨b13, 1, none⟩ rfl rfl) ?_
    refine L_run (dj := 6) rfl rfl (by exact congrArg Value.bool hq21) ?_
    refine L_pu (P_fa fa68_0 ⟨b13, 1, none⟩ ⟨b13, 1, none⟩ rfl rfl) ?_
    refine L_run (dj := 6) rfl rfl (by exact congrArg Value.bool hq21) ?_
    refine L_pu (P_ld ag3 cL ⟨b13, 1, none⟩ (vi f.Shape.Kind) rfl (h19.cell rfl)) ?_
    refine L_run (dj := 6) rfl rfl (by exact congrArg Value.bool hq21) ?_
    refine L_pu (P_cmp f.Shape.Kind 0 (f.Shape.Kind == 0) rfl rfl rfl) ?_
    refine L_pu (P_pick true (vb (f.Shape.Kind == 0)) (by exact congrArg Value.bool hq21) rfl) ?_
    refine L_pu (P_move (vb (f.Shape.Kind == 0)) rfl) ?_
    rcases bool_or (f.Shape.Kind == 0) with hq22 | hq22
    · have H := ite_t H hq22
      refine L_run (dj := 12) rfl rfl (by exact congrArg Value.bool hq22) ?_
      refine L_pu (P_fa fa71_1 ⟨b13, 0, none⟩ ⟨b13, 1, none⟩ rfl rfl) ?_
      refine L_run (dj := 12) rfl rfl (by exact congrArg Value.bool hq22) ?_
      refine L_pu (P_fa fa68_1 ⟨b13, 1, none⟩ ⟨b13, 2, none⟩ rfl rfl) ?_
      refine L_run (dj := 12) rfl rfl (by exact congrArg Value.bool hq22) ?_
      refine L_pu (P_ld ag23 cL ⟨b13, 2, none⟩ (.slice A2 n3 c4) rfl (h19.cell rfl)) ?_
      refine L_run (dj := 12) rfl rfl (by exact congrArg Value.bool hq22) ?_
      have hl23 := (hp5.st hc20.st).le
      refine L_pu (P_len Try.underlying23 A2 n3 c4 (hp5.st hc20.st).len rfl) ?_
      refine L_run (dj := 12) rfl rfl (by exact congrArg Value.bool hq22) ?_
      refine L_pu (P_cmp (f.Shape.Pts.length : Int) 0 ((f.Shape.Pts.length : Int) == 0) rfl rfl rfl) ?_
      refine L_pu (P_pick true (vb ((f.Shape.Pts.length : Int) == 0)) (by exact congrArg Value.bool hq22) rfl) ?_
      refine L_pu (P_move (vb ((f.Shape.Pts.length : Int) == 0)) rfl) ?_
      rcases bool_or ((f.Shape.Pts.length : Int) == 0) with hq24 | hq24
      · have H := ite_t H hq24
        refine L_run (dj := 19) rfl rfl (by exact congrArg Value.bool hq24) ?_
        refine L_pu (P_fa fa71_2 ⟨b13, 0, none⟩ ⟨b13, 3, none⟩ rfl rfl) ?_
        refine L_run (dj := 19) rfl rfl (by exact congrArg Value.bool hq24) ?_
        refine L_pu (P_ld ag69 cL ⟨b13, 3, none⟩ (.slice A7 n8 c9) rfl (h19.cell rfl)) ?_
        refine L_run (dj := 19) rfl rfl (by exact congrArg Value.bool hq24) ?_
        have hl25 := (hp10.st hc20.st).le
        refine L_pu (P_len Try.underlying69 A7 n8 c9 (hp10.st hc20.st).len rfl) ?_
        refine L_run (dj := 19) rfl rfl (by exact congrArg Value.bool hq24) ?_
        refine L_pu (P_cmp (f.Tags.length : Int) 0 ((f.Tags.length : Int) == 0) rfl rfl rfl) ?_
        refine L_pu (P_pick true (vb ((f.Tags.length : Int) == 0)) (by exact congrArg Value.bool hq24) rfl) ?_
        refine L_pu (P_assign (vb ((f.Tags.length : Int) == 0)) rfl) ?_
        refine L_nil ?_
        refine W_ret ?_
        exact ⟨[vb ((f.Tags.length : Int) == 0)], ⟨_, rfl, rfl⟩, (f.Tags.length : Int) == 0, rfl, H, hc20.gr.g0⟩
      · have H := ite_f H hq24
        refine L_pass (dj := 19) rfl rfl (.inl (by exact congrArg Value.bool hq24)) ?_
        refine L_pass (dj := 19) rfl rfl (.inl (by exact congrArg Value.bool hq24)) ?_
        refine L_pass (dj := 19) rfl rfl (.inl (by exact congrArg Value.bool hq24)) ?_
        refine L_pass (dj := 19) rfl rfl (.inl (by exact congrArg Value.bool hq24)) ?_
        refine L_pu (P_pick false (vb false) (by exact congrArg Value.bool hq24) rfl) ?_
        refine L_pu (P_assign (vb false) rfl) ?_
        refine L_nil ?_
        refine W_ret ?_
        exact ⟨[vb false], ⟨_, rfl, rfl⟩, false, rfl, H, hc20.gr.g0⟩
    · have H := ite_f H hq22
      refine L_pass (dj := 12) rfl rfl (.inl (by exact congrArg Value.bool hq22)) ?_
      refine L_pass (dj := 12) rfl rfl (.inl (by exact congrArg Value.bool hq22)) ?_
      refine L_pass (dj := 12) rfl rfl (.inl (by exact congrArg Value.bool hq22)) ?_
      refine L_pass (dj := 12) rfl rfl (.inl (by exact congrArg Value.bool hq22)) ?_
      refine L_pass (dj := 12) rfl rfl (.inl (by exact congrArg Value.bool hq22)) ?_
      refine L_pu (P_pick false (vb false) (by exact congrArg Value.bool hq22) rfl) ?_
      refine L_pu (P_move (vb false) rfl) ?_
      refine L_pass (dj := 19) rfl rfl (.inl rfl) ?_
      refine L_pass (dj := 19) rfl rfl (.inl rfl) ?_
      refine L_pass (dj := 19) rfl rfl (.inl rfl) ?_
      refine L_pass (dj := 19) rfl rfl (.inl rfl) ?_
      refine L_pu (P_pick false (vb false) (by exact congrArg Value.bool rfl) rfl) ?_
      refine L_pu (P_assign (vb false) rfl) ?_
      refine L_nil ?_
      refine W_ret ?_
      exact ⟨[vb false], ⟨_, rfl, rfl⟩, false, rfl, H, hc20.gr.g0⟩
  · have H := ite_f H hq21
    refine L_pass (dj := 6) rfl rfl (.inl (by exact congrArg Value.bool hq21)) ?_
    refine L_pass (dj := 6) rfl rfl (.inl (by exact congrArg Value.bool hq21)) ?_
    refine L_pass (dj := 6) rfl rfl (.inl (by exact congrArg Value.bool hq21)) ?_
    refine L_pass (dj := 6) rfl rfl (.inl (by exact congrArg Value.bool hq21)) ?_
    refine L_pu (P_pick false (vb false) (by exact congrArg Value.bool hq21) rfl) ?_
    refine L_pu (P_move (vb false) rfl) ?_
    refine L_pass (dj := 12) rfl rfl (.inl rfl) ?_
    refine L_pass (dj := 12) rfl rfl (.inl rfl) ?_
    refine L_pass (dj := 12) rfl rfl (.inl rfl) ?_
    refine L_pass (dj := 12) rfl rfl (.inl rfl) ?_
    refine L_pass (dj := 12) rfl rfl (.inl rfl) ?_
    refine L_pu (P_pick false (vb false) (by exact congrArg Value.bool rfl) rfl) ?_
    refine L_pu (P_move (vb false) rfl) ?_
    refine L_pass (dj := 19) rfl rfl (.inl rfl) ?_
    refine L_pass (dj := 19) rfl rfl (.inl rfl) ?_
    refine L_pass (dj := 19) rfl rfl (.inl rfl) ?_
    refine L_pass (dj := 19) rfl rfl (.inl rfl) ?_
    refine L_pu (P_pick false (vb false) (by exact congrArg Value.bool rfl) rfl) ?_
    refine L_pu (P_assign (vb false) rfl) ?_
    refine L_nil ?_
    refine W_ret ?_
    exact ⟨[vb false], ⟨_, rfl, rfl⟩, false, rfl, H, hc20.gr.g0⟩
def impl_noFeat.m (f : Feat) : Bool := (if f.Id == ([] : Str) then (if f.Shape.Kind == 0 then (if (f.Shape.Pts.length : Int) == 0 then ((f.Tags.length : Int) == 0) else false) else false) else false)
theorem impl_noFeat.fn (f : Feat) : impl_noFeat.E f (fun r => r = impl_noFeat.m f) := by
  unfold impl_noFeat.E impl_noFeat.m
  (repeat' split) <;> simp_all
end Go.Proofs.Ytndjggncgpjolaa

namespace Go.Proofs.Ytndjggncgpjolaa
set_option linter.unusedVariables false
set_option linter.unusedSimpArgs false
set_option linter.unusedSectionVars false
theorem impl_noFeat.law (f : Feat) (Q : Bool → Prop) (hq : Q (noF f)) : impl_noFeat.E f Q := by
  unfold impl_noFeat.E
  obtain ⟨i, ⟨k, p⟩, t⟩ := f
  unfold noF at hq
  dsimp only
  have e : decide ((⟨i, ⟨k, p⟩, t⟩ : Feat) = ⟨[], ⟨0, []⟩, []⟩) = (decide (i = []) && decide (k = 0) && decide (p = []) && decide (t = [])) := by
    rw [Bool.eq_iff_iff]; simp [and_assoc]
  rw [e] at hq
  cases h1 : decide (i = []) with
  | false => rw [h1] at hq; rw [if_neg (by rw [beq_iff_eq]; exact of_decide_eq_false h1)]; exact hq
  | true =>
    rw [if_pos (by rw [beq_iff_eq]; exact of_decide_eq_true h1)]
    cases h2 : decide (k = 0) with
    | false => rw [h1, h2] at hq; rw [if_neg (by rw [beq_iff_eq]; exact of_decide_eq_false h2)]; exact hq
    | true =>
      rw [if_pos (by rw [beq_iff_eq]; exact of_decide_eq_true h2)]
      cases h3 : decide (p = []) with
      | false => rw [h1, h2, h3] at hq; rw [if_neg (by rw [beq_iff_eq]; have := of_decide_eq_false h3; intro e; exact this (List.length_eq_zero_iff.1 (by omega)))]; exact hq
      | true =>
        rw [if_pos (by rw [beq_iff_eq, of_decide_eq_true h3]; rfl)]
        rw [h1, h2, h3] at hq
        have : ((t.length : Int) == 0) = decide (t = []) := by
          rw [Bool.eq_iff_iff, beq_iff_eq, decide_eq_true_eq]
          exact ⟨fun e => List.length_eq_zero_iff.1 (by omega), fun e => by rw [e]; rfl⟩
        rw [this]; exact hq
end Go.Proofs.Ytndjggncgpjolaa

namespace Go.Proofs.Ytndjggncgpjolaa
open Go.RowKit
set_option linter.unusedVariables false
def impl_ptOk.E (p : Pt) (Q : Bool → Prop) : Prop :=
  impl_within.E p.X (-1000) 1000 (fun r => (if r then impl_within.E p.Y (-1000) 1000 (fun r2 => Q r2) else Q false))
set_option maxHeartbeats 8000000 in
set_option maxRecDepth 100000 in
theorem impl_ptOk.calls {O : Ob} (w0 : World) (hO : Ok w0 O) (p : Pt) (Q : Bool → Prop) (h : impl_ptOk.E p Q) :
    Ret Try.prog 141 [.agg #[vi p.X, vi p.Y]] w0 (fun v w' => ∃ (r0 : Bool), v = vb r0 ∧ Q r0 ∧ Gr w0 w' none) := by
  have H : impl_within.E p.X (-1000) 1000 (fun r => (if r then impl_within.E p.Y (-1000) 1000 (fun r2 => Q r2) else Q false)) := h
  clear h
  have hc0 := Ct.init hO
  refine Ret_enter Try.func141 rfl 11 rfl [.tmp 2] rfl rfl ?_
  refine W_seq ?_
  refine W_reg ?_
  refine L_box [vi p.X, vi p.Y] rfl fun w1 b2 hl4 hu5 g3 hx6 => ?_
  have h8 := Fb.mk hc0.ok hl4 hx6
  have hc9 := hc0.k0 g3
  refine L_pu (P_assign (vb false) rfl) ?_
  refine L_nil ?_
  refine W_seq ?_
  refine W_reg ?_
  refine L_pu (P_fa fa29_0 ⟨b2, 0, none⟩ ⟨b2, 0, none⟩ rfl rfl) ?_
  refine L_pu (P_ld ag3 cL ⟨b2, 0, none⟩ (vi p.X) rfl (h8.cell rfl)) ?_
  refine L_call go112 [vi p.X, vi (-1000), vi 1000] rfl ((impl_within.calls w1 hc9.ok p.X (-1000) 1000 _ H).mono ?_)
  rintro _ w10 ⟨r, rfl, H, g11, _⟩
  have hc15 := hc9.k0 g11
  refine L_pu (P_move (vb r) rfl) ?_
  rcases bool_or r with hq16 | hq16
  · have H := ite_t H hq16
    refine L_run (dj := 6) rfl rfl (by exact congrArg Value.bool hq16) ?_
    refine L_pu (P_fa fa29_1 ⟨b2, 0, none⟩ ⟨b2, 1, none⟩ rfl rfl) ?_
    refine L_run (dj := 6) rfl rfl (by exact congrArg Value.bool hq16) ?_
    have h17 := (h8.st (.new _ g11))
    refine L_pu (P_ld ag3 cL ⟨b2, 1, none⟩ (vi p.Y) rfl (h17.cell rfl)) ?_
    refine L_run (dj := 6) rfl rfl (by exact congrArg Value.bool hq16) ?_
    refine L_call go112 [vi p.Y, vi (-1000), vi 1000] rfl ((impl_within.calls w10 hc15.ok p.Y (-1000) 1000 _ H).mono ?_)
    rintro _ w18 ⟨r2, rfl, H, g19, _⟩
    have hc23 := hc15.k0 g19
    refine L_pu (P_pick true (vb r2) (by exact congrArg Value.bool hq16) rfl) ?_
    refine L_pu (P_assign (vb r2) rfl) ?_
    refine L_nil ?_
    refine W_ret ?_
    exact ⟨[vb r2], ⟨_, rfl, rfl⟩, r2, rfl, H, hc23.gr.g0⟩
  · have H := ite_f H hq16
    refine L_pass (dj := 6) rfl rfl (.inl (by exact congrArg Value.bool hq16)) ?_
    refine L_pass (dj := 6) rfl rfl (.inl (by exact congrArg Value.bool hq16)) ?_
    refine L_pass (dj := 6) rfl rfl (.inl (by exact congrArg Value.bool hq16)) ?_
    refine L_pu (P_pick false (vb false) (by exact congrArg Value.bool hq16) rfl) ?_
    refine L_pu (P_assign (vb false) rfl) ?_
    refine L_nil ?_
    refine W_ret ?_
    exact ⟨[vb false], ⟨_, rfl, rfl⟩, false, rfl, H, hc15.gr.g0⟩
end Go.Proofs.Ytndjggncgpjolaa

namespace Go.Proofs.Ytndjggncgpjolaa
set_option linter.unusedVariables false
set_option linter.unusedSimpArgs false
set_option linter.unusedSectionVars false
theorem impl_ptOk.law (p : Pt) (Q : Bool → Prop) (hq : Q (ptOk p)) : impl_ptOk.E p Q := by
  unfold impl_ptOk.E
  unfold ptOk at hq
  refine impl_within.law _ _ _ _ ?_
  change if inR p.X = true then _ else _
  cases h : inR p.X with
  | true => rw [if_pos rfl]; rw [h, Bool.true_and] at hq; exact impl_within.law _ _ _ _ hq
  | false => rw [if_neg (by decide)]; rw [h, Bool.false_and] at hq; exact hq
end Go.Proofs.Ytndjggncgpjolaa

namespace Go.Proofs.Ytndjggncgpjolaa
open Go.RowKit
set_option linter.unusedVariables false
def impl_ShapeOk.E (s : Shape) (Q : Bool → Prop) : Prop :=
  (∃ (I31 : Int → Prop) (mu32 : Int → Nat), I31 0 ∧ ∀ (v2 : Int), I31 v2 → (if decide (v2 < (s.Pts.length : Int)) then ((0 : Int) ≤ v2 ∧ v2 < (s.Pts.length : Int)) ∧ (∃ q : Bool, impl_ptOk.E (nth s.Pts v2) (fun x => x = q) ∧ (if !q then Q false else (if decide (v2 > 0) then (I64 (v2 - 1)) ∧ ((0 : Int) ≤ v2 - 1 ∧ v2 - 1 < (s.Pts.length : Int)) ∧ (if eqPt (nth s.Pts (v2 - 1)) (nth s.Pts v2) then Q false else (I64 (v2 + 1)) ∧ I31 (v2 + 1) ∧ mu32 (v2 + 1) < mu32 v2) else (I64 (v2 + 1)) ∧ I31 (v2 + 1) ∧ mu32 (v2 + 1) < mu32 v2))) else (if s.Kind == 1 then Q ((s.Pts.length : Int) == 1) else (if s.Kind == 2 then impl_within.E (s.Pts.length : Int) 2 6 (fun r2 => Q r2) else (if s.Kind == 3 then (if (impl_within.m (s.Pts.length : Int) 3 6) then ((0 : Int) ≤ 0 ∧ 0 < (s.Pts.length : Int)) ∧ ((s.Pts.length : Int) ≤ 9223372036854775807 → I64 ((s.Pts.length : Int) - 1)) ∧ ((0 : Int) ≤ (s.Pts.length : Int) - 1 ∧ (s.Pts.length : Int) - 1 < (s.Pts.length : Int)) ∧ Q (!(eqPt (nth s.Pts 0) (nth s.Pts ((s.Pts.length : Int) - 1)))) else Q false) else Q false)))))
set_option maxHeartbeats 8000000 in
set_option maxRecDepth 100000 in
theorem impl_ShapeOk.calls {O : Ob} (w0 : World) (hO : Ok w0 O) (s : Shape) (A1 : Option Addr) (n2 c3 : Nat) (hp4 : Sl kPt w0 (Fr O) (.slice A1 n2 c3) s.Pts) (Q : Bool → Prop) (h : impl_ShapeOk.E s Q) :
    Ret Try.prog 96 [.agg #[vi s.Kind, .slice A1 n2 c3]] w0 (fun v w' => ∃ (r0 : Bool), v = vb r0 ∧ Q r0 ∧ Gr w0 w' none) := by
  have H : (∃ (I31 : Int → Prop) (mu32 : Int → Nat), I31 0 ∧ ∀ (v2 : Int), I31 v2 → (if decide (v2 < (s.Pts.length : Int)) then ((0 : Int) ≤ v2 ∧ v2 < (s.Pts.length : Int)) ∧ (∃ q : Bool, impl_ptOk.E (nth s.Pts v2) (fun x => x = q) ∧ (if !q then Q false else (if decide (v2 > 0) then (I64 (v2 - 1)) ∧ ((0 : Int) ≤ v2 - 1 ∧ v2 - 1 < (s.Pts.length : Int)) ∧ (if eqPt (nth s.Pts (v2 - 1)) (nth s.Pts v2) then Q false else (I64 (v2 + 1)) ∧ I31 (v2 + 1) ∧ mu32 (v2 + 1) < mu32 v2) else (I64 (v2 + 1)) ∧ I31 (v2 + 1) ∧ mu32 (v2 + 1) < mu32 v2))) else (if s.Kind == 1 then Q ((s.Pts.length : Int) == 1) else (if s.Kind == 2 then impl_within.E (s.Pts.length : Int) 2 6 (fun r2 => Q r2) else (if s.Kind == 3 then (if (impl_within.m (s.Pts.length : Int) 3 6) then ((0 : Int) ≤ 0 ∧ 0 < (s.Pts.length : Int)) ∧ ((s.Pts.length : Int) ≤ 9223372036854775807 → I64 ((s.Pts.length : Int) - 1)) ∧ ((0 : Int) ≤ (s.Pts.length : Int) - 1 ∧ (s.Pts.length : Int) - 1 < (s.Pts.length : Int)) ∧ Q (!(eqPt (nth s.Pts 0) (nth s.Pts ((s.Pts.length : Int) - 1)))) else Q false) else Q false))))) := h
  clear h
  have hc0 := Ct.init hO
  refine Ret_enter Try.func96 rfl 62 rfl [.tmp 2] rfl rfl ?_
  refine W_seq ?_
  refine W_reg ?_
  refine L_box [vi s.Kind, .slice A1 n2 c3] rfl fun w6 b7 hl9 hu10 g8 hx11 => ?_
  have h13 := Fb.mk hc0.ok hl9 hx11
  have hc14 := hc0.k0 g8
  refine L_pu (P_assign (vb false) rfl) ?_
  refine L_nil ?_
  refine W_seq ?_
  refine W_seq ?_
  refine W_reg ?_
  refine L_pu (P_fa fa68_1 ⟨b7, 0, none⟩ ⟨b7, 1, none⟩ rfl rfl) ?_
  refine L_pu (P_ld ag23 cL ⟨b7, 1, none⟩ (.slice A1 n2 c3) rfl (h13.cell rfl)) ?_
  have hl15 := (hp4.st hc14.st).le
  refine L_pu (P_len Try.underlying23 A1 n2 c3 (hp4.st hc14.st).len rfl) ?_
  refine L_pu (P_move (vi 0) rfl) ?_
  refine L_nil ?_
  refine W_block ?_
  obtain ⟨I31, mu32, hI33, H⟩ := H
  refine W_loop (α := Int) (fun (sv__ : Int) t w26 => match sv__ with | v2 => I31 v2 ∧ Has t [(1, .pointer (some ⟨b7, 0, none⟩)), (7, .slice A1 n2 c3), (8, vi (s.Pts.length : Int)), (9, vi v2)] ∧ Ct [] w0 w26 [] O ∧ Sl kPt w26 (Fr ([] ++ O)) (.slice A1 n2 c3) s.Pts ∧ Fb w26 ([] ++ O) b7 [vi s.Kind, .slice A1 n2 c3]) (fun (sv__ : Int) => match sv__ with | v2 => mu32 v2) 0 ⟨hI33, ⟨rfl, rfl, rfl, rfl, trivial⟩, hc14, (hp4.st hc14.st), h13⟩ ?_
  rintro v2 _ w26 ⟨hI33, hh35, hc28, h29, h30⟩
  obtain ⟨u36, rfl⟩ := Has.ins hh35
  have H := H v2 hI33
  refine W_seq ?_
  refine W_reg ?_
  refine L_pu (P_cmp v2 (s.Pts.length : Int) (decide (v2 < (s.Pts.length : Int))) rfl rfl rfl) ?_
  refine L_nil ?_
  refine W_seq ?_
  refine W_cond (decide (v2 < (s.Pts.length : Int))) rfl (fun hq37 => ?_) (fun hq37 => ?_)
  · have H := ite_t H hq37
    refine W_skip ?_
    refine W_seq ?_
    refine W_block ?_
    refine W_seq ?_
    refine W_reg ?_
    refine L_pu (P_move (vi v2) rfl) ?_
    obtain ⟨hb38, H⟩ := H
    obtain ⟨ad39, cs40, hA41, hS44, hR42, hcl43⟩ := h29.get default (by decide) v2 hb38
    obtain rfl := kPt.op hR42
    refine L_pu (P_ia Try.underlying23 se23 A1 ad39 n2 c3 h29.len v2 rfl hA41 rfl hb38) ?_
    refine L_pu (P_lda ag29 sz29 cL (ad39.add (v2.toNat * 2)) [vi ((nth s.Pts v2).X), vi ((nth s.Pts v2).Y)] rfl rfl hcl43) ?_
    refine L_alloc [.int .i64 0, .int .i64 0] ze29 fun w45 b46 hl48 hu49 g47 hx50 => ?_
    have hc52 := hc28.own g47 (some b46) (oglt hl48 hu49)
    refine L_pu (P_assign (vi v2) rfl) ?_
    refine L_stb b46 0 [vi 0, vi 0] [vi ((nth s.Pts v2).X), vi ((nth s.Pts v2).Y)] [vi ((nth s.Pts v2).X), vi ((nth s.Pts v2).Y)] rfl hx50 rfl sz29 rfl rfl rfl fun w53 g54 hx55 => ?_
    have hc56 := hc52.wr 0 rfl g54
    refine L_nil ?_
    refine W_seq ?_
    refine W_draw (fun x => Gr w53 x none) (by kernel_rfl) (by kernel_rfl) (Gr.drew _) ?_
    refine Q_pu (P_lda ag29 sz29 cQ ⟨b46, 0, none⟩ [vi ((nth s.Pts v2).X), vi ((nth s.Pts v2).Y)] rfl rfl (hx55.cells (off := 0) rfl)) ?_
    obtain ⟨q, hE62, H⟩ := H
    refine Q_call go141 [.agg #[vi ((nth s.Pts v2).X), vi ((nth s.Pts v2).Y)]] rfl (vb q) (fun w g => (impl_ptOk.calls w (hc56.k0 g).ok (nth s.Pts v2) _ hE62).mono ?_) ?_
    · rintro _ w ⟨r, rfl, rfl, g2⟩
      exact ⟨rfl, Gr.t0 g g2⟩
    refine Q_pu (P_not q rfl) ?_
    refine Q_pu (P_move (vb (!q)) rfl) ?_
    rcases bool_or (!q) with hq64 | hq64
    · have H := ite_t H hq64
      refine Q_pass (dj := 17) rfl rfl (.inl (by exact congrArg Value.bool hq64)) ?_
      refine Q_pass (dj := 17) rfl rfl (.inl (by exact congrArg Value.bool hq64)) ?_
      refine Q_pass (dj := 17) rfl rfl (.inl (by exact congrArg Value.bool hq64)) ?_
      refine Q_pass (dj := 20) rfl rfl (.inr rfl) ?_
      refine Q_pass (dj := 20) rfl rfl (.inr rfl) ?_
      refine Q_pass (dj := 20) rfl rfl (.inr rfl) ?_
      refine Q_pass (dj := 20) rfl rfl (.inr rfl) ?_
      refine Q_pass (dj := 20) rfl rfl (.inr rfl) ?_
      refine Q_pass (dj := 20) rfl rfl (.inr rfl) ?_
      refine Q_pass (dj := 20) rfl rfl (.inr rfl) ?_
      refine Q_pass (dj := 20) rfl rfl (.inr rfl) ?_
      refine Q_pass (dj := 17) rfl rfl (.inl (by exact congrArg Value.bool hq64)) ?_
      refine Q_pu (P_pick true (vb true) (by exact congrArg Value.bool hq64) rfl) ?_
      refine Q_nil fun w65 g66 => ?_
      have hc68 := hc56.k0 g66
      refine W_ct (b := true) rfl rfl ?_
      refine W_seq ?_
      refine W_reg ?_
      refine L_pu (P_assign (vb false) rfl) ?_
      refine L_nil ?_
      refine W_ret ?_
      have hc69 := hc68.drop 0 rfl
      exact ⟨[vb false], ⟨_, rfl, rfl⟩, false, rfl, H, hc69.gr.g0⟩
    · have H := ite_f H hq64
      refine Q_run (dj := 17) rfl rfl (by exact congrArg Value.bool hq64) ?_
      refine Q_pu (P_move (vi v2) rfl) ?_
      refine Q_run (dj := 17) rfl rfl (by exact congrArg Value.bool hq64) ?_
      refine Q_pu (P_cmp v2 0 (decide (v2 > 0)) rfl rfl rfl) ?_
      refine Q_run (dj := 17) rfl rfl (by exact congrArg Value.bool hq64) ?_
      refine Q_pu (P_move (vb (decide (v2 > 0))) rfl) ?_
      rcases bool_or (decide (v2 > 0)) with hq70 | hq70
      · have H := ite_t H hq70
        refine Q_run (dj := 20) rfl rfl (by exact congrArg Value.bool hq70) ?_
        refine Q_pu (P_fa fa68_1 ⟨b7, 0, none⟩ ⟨b7, 1, none⟩ rfl rfl) ?_
        refine Q_run (dj := 20) rfl rfl (by exact congrArg Value.bool hq70) ?_
        have h71 := ((h30.st (.own _ _ g47 (oge hl48))).st (.wl (L := [some b46]) (O := O) (j := 0) rfl g54))
        refine Q_pu (P_ld ag23 cQ ⟨b7, 1, none⟩ (.slice A1 n2 c3) rfl (h71.cell rfl)) ?_
        refine Q_run (dj := 20) rfl rfl (by exact congrArg Value.bool hq70) ?_
        refine Q_pu (P_move (vi v2) rfl) ?_
        refine Q_run (dj := 20) rfl rfl (by exact congrArg Value.bool hq70) ?_
        obtain ⟨hb72, H⟩ := H
        refine Q_pu (P_sub v2 1 rfl rfl hb72) ?_
        refine Q_run (dj := 20) rfl rfl (by exact congrArg Value.bool hq70) ?_
        obtain ⟨hb73, H⟩ := H
        have h80 := ((h29.st (.own _ _ g47 (oge hl48))).st (.wl (L := [some b46]) (O := O) (j := 0) rfl g54))
        obtain ⟨ad74, cs75, hA76, hS79, hR77, hcl78⟩ := h80.get default (by decide) (v2 - 1) hb73
        obtain rfl := kPt.op hR77
        refine Q_pu (P_ia Try.underlying23 se23 A1 ad74 n2 c3 h80.len (v2 - 1) rfl hA76 rfl hb73) ?_
        refine Q_run (dj := 20) rfl rfl (by exact congrArg Value.bool hq70) ?_
        refine Q_pu (P_lda ag29 sz29 cQ (ad74.add ((v2 - 1).toNat * 2)) [vi ((nth s.Pts (v2 - 1)).X), vi ((nth s.Pts (v2 - 1)).Y)] rfl rfl hcl78) ?_
        refine Q_run (dj := 20) rfl rfl (by exact congrArg Value.bool hq70) ?_
        refine Q_pu (P_lda ag29 sz29 cQ ⟨b46, 0, none⟩ [vi ((nth s.Pts v2).X), vi ((nth s.Pts v2).Y)] rfl rfl (hx55.cells (off := 0) rfl)) ?_
        refine Q_run (dj := 20) rfl rfl (by exact congrArg Value.bool hq70) ?_
        refine Q_pu (P_eq _ _ (eqPt (nth s.Pts (v2 - 1)) (nth s.Pts v2)) (qt29 (nth s.Pts (v2 - 1)) (nth s.Pts v2)) rfl rfl) ?_
        refine Q_run (dj := 17) rfl rfl (by exact congrArg Value.bool hq64) ?_
        refine Q_pu (P_pick true (vb (eqPt (nth s.Pts (v2 - 1)) (nth s.Pts v2))) (by exact congrArg Value.bool hq70) rfl) ?_
        refine Q_pu (P_pick false (vb (eqPt (nth s.Pts (v2 - 1)) (nth s.Pts v2))) (by exact congrArg Value.bool hq64) rfl) ?_
        refine Q_nil fun w81 g82 => ?_
        have hc84 := hc56.k0 g82
        refine W_cond (eqPt (nth s.Pts (v2 - 1)) (nth s.Pts v2)) rfl (fun hq85 => ?_) (fun hq85 => ?_)
        · have H := ite_t H hq85
          refine W_seq ?_
          refine W_reg ?_
          refine L_pu (P_assign (vb false) rfl) ?_
          refine L_nil ?_
          refine W_ret ?_
          have hc86 := hc84.drop 0 rfl
          exact ⟨[vb false], ⟨_, rfl, rfl⟩, false, rfl, H, hc86.gr.g0⟩
        · have H := ite_f H hq85
          refine W_skip ?_
          refine W_reg ?_
          obtain ⟨hb87, H⟩ := H
          refine L_pu (P_add v2 1 rfl rfl hb87) ?_
          refine L_pu (P_move (vi (v2 + 1)) rfl) ?_
          refine L_nil ?_
          have hc88 := hc84.drop 0 rfl
          obtain ⟨hI89, hm90⟩ := H
          have h91 := ((h80.st (.new _ g82)).st (.dr _ (L := [some b46]) (O := O) (j := 0) rfl))
          have h92 := ((h71.st (.new _ g82)).st (.dr _ (L := [some b46]) (O := O) (j := 0) rfl))
          exact ⟨v2 + 1, hm90, hI89, ⟨rfl, rfl, rfl, rfl, trivial⟩, hc88, h91, h92⟩
      · have H := ite_f H hq70
        refine Q_pass (dj := 20) rfl rfl (.inl (by exact congrArg Value.bool hq70)) ?_
        refine Q_pass (dj := 20) rfl rfl (.inl (by exact congrArg Value.bool hq70)) ?_
        refine Q_pass (dj := 20) rfl rfl (.inl (by exact congrArg Value.bool hq70)) ?_
        refine Q_pass (dj := 20) rfl rfl (.inl (by exact congrArg Value.bool hq70)) ?_
        refine Q_pass (dj := 20) rfl rfl (.inl (by exact congrArg Value.bool hq70)) ?_
        refine Q_pass (dj := 20) rfl rfl (.inl (by exact congrArg Value.bool hq70)) ?_
        refine Q_pass (dj := 20) rfl rfl (.inl (by exact congrArg Value.bool hq70)) ?_
        refine Q_pass (dj := 20) rfl rfl (.inl (by exact congrArg Value.bool hq70)) ?_
        refine Q_run (dj := 17) rfl rfl (by exact congrArg Value.bool hq64) ?_
        refine Q_pu (P_pick false (vb false) (by exact congrArg Value.bool hq70) rfl) ?_
        refine Q_pu (P_pick false (vb false) (by exact congrArg Value.bool hq64) rfl) ?_
        refine Q_nil fun w93 g94 => ?_
        have hc96 := hc56.k0 g94
        refine W_cf (b := false) rfl rfl ?_
        refine W_skip ?_
        refine W_reg ?_
        obtain ⟨hb97, H⟩ := H
        refine L_pu (P_add v2 1 rfl rfl hb97) ?_
        refine L_pu (P_move (vi (v2 + 1)) rfl) ?_
        refine L_nil ?_
        have hc98 := hc96.drop 0 rfl
        obtain ⟨hI99, hm100⟩ := H
        have h101 := ((((h29.st (.own _ _ g47 (oge hl48))).st (.wl (L := [some b46]) (O := O) (j := 0) rfl g54)).st (.new _ g94)).st (.dr _ (L := [some b46]) (O := O) (j := 0) rfl))
        have h102 := ((((h30.st (.own _ _ g47 (oge hl48))).st (.wl (L := [some b46]) (O := O) (j := 0) rfl g54)).st (.new _ g94)).st (.dr _ (L := [some b46]) (O := O) (j := 0) rfl))
        exact ⟨v2 + 1, hm100, hI99, ⟨rfl, rfl, rfl, rfl, trivial⟩, hc98, h101, h102⟩
  · have H := ite_f H hq37
    refine W_exit (xin_hit ?_)
    refine W_seq ?_
    refine W_reg ?_
    refine L_pu (P_fa fa68_1 ⟨b7, 0, none⟩ ⟨b7, 1, none⟩ rfl rfl) ?_
    refine L_pu (P_ld ag23 cL ⟨b7, 1, none⟩ (.slice A1 n2 c3) rfl (h30.cell rfl)) ?_
    have hl103 := h29.le
    refine L_pu (P_len Try.underlying23 A1 n2 c3 h29.len rfl) ?_
    refine L_pu (P_assign (vi (s.Pts.length : Int)) rfl) ?_
    refine L_nil ?_
    refine W_seq ?_
    refine W_seq ?_
    refine W_reg ?_
    refine L_pu (P_fa fa68_0 ⟨b7, 0, none⟩ ⟨b7, 0, none⟩ rfl rfl) ?_
    refine L_pu (P_ld ag3 cL ⟨b7, 0, none⟩ (vi s.Kind) rfl (h30.cell rfl)) ?_
    refine L_nil ?_
    refine W_block ?_
    refine W_seq ?_
    refine W_reg ?_
    refine L_pu (P_cmp s.Kind 1 (s.Kind == 1) rfl rfl rfl) ?_
    refine L_pu (P_assign (vb (s.Kind == 1)) rfl) ?_
    refine L_nil ?_
    refine W_cond (s.Kind == 1) rfl (fun hq104 => ?_) (fun hq104 => ?_)
    · have H := ite_t H hq104
      refine W_seq ?_
      refine W_reg ?_
      refine L_pu (P_move (vi (s.Pts.length : Int)) rfl) ?_
      refine L_pu (P_cmp (s.Pts.length : Int) 1 ((s.Pts.length : Int) == 1) rfl rfl rfl) ?_
      refine L_pu (P_assign (vb ((s.Pts.length : Int) == 1)) rfl) ?_
      refine L_nil ?_
      refine W_ret ?_
      exact ⟨[vb ((s.Pts.length : Int) == 1)], ⟨_, rfl, rfl⟩, (s.Pts.length : Int) == 1, rfl, H, hc28.gr.g0⟩
    · have H := ite_f H hq104
      refine W_seq ?_
      refine W_reg ?_
      refine L_pu (P_cmp s.Kind 2 (s.Kind == 2) rfl rfl rfl) ?_
      refine L_pu (P_assign (vb (s.Kind == 2)) rfl) ?_
      refine L_nil ?_
      refine W_cond (s.Kind == 2) rfl (fun hq105 => ?_) (fun hq105 => ?_)
      · have H := ite_t H hq105
        refine W_seq ?_
        refine W_reg ?_
        refine L_pu (P_move (vi (s.Pts.length : Int)) rfl) ?_
        refine L_call go112 [vi (s.Pts.length : Int), vi 2, vi 6] rfl ((impl_within.calls w26 hc28.ok (s.Pts.length : Int) 2 6 _ H).mono ?_)
        rintro _ w106 ⟨r2, rfl, H, g107, _⟩
        have hc111 := hc28.k0 g107
        refine L_pu (P_assign (vb r2) rfl) ?_
        refine L_nil ?_
        refine W_ret ?_
        exact ⟨[vb r2], ⟨_, rfl, rfl⟩, r2, rfl, H, hc111.gr.g0⟩
      · have H := ite_f H hq105
        refine W_seq ?_
        refine W_reg ?_
        refine L_pu (P_cmp s.Kind 3 (s.Kind == 3) rfl rfl rfl) ?_
        refine L_pu (P_assign (vb (s.Kind == 3)) rfl) ?_
        refine L_nil ?_
        refine W_cond (s.Kind == 3) rfl (fun hq112 => ?_) (fun hq112 => ?_)
        · have H := ite_t H hq112
          refine W_seq ?_
          refine W_draw (fun x => Gr w26 x none) (by kernel_rfl) (by kernel_rfl) (Gr.drew _) ?_
          refine Q_pu (P_move (vi (s.Pts.length : Int)) rfl) ?_
          refine Q_call go112 [vi (s.Pts.length : Int), vi 3, vi 6] rfl (vb (impl_within.m (s.Pts.length : Int) 3 6)) (fun w g => (impl_within.calls w (hc28.k0 g).ok (s.Pts.length : Int) 3 6 _ (impl_within.fn (s.Pts.length : Int) 3 6)).mono ?_) ?_
          · rintro _ w ⟨r, rfl, rfl, g2, _⟩
            exact ⟨rfl, Gr.t0 g g2⟩
          refine Q_pu (P_move (vb (impl_within.m (s.Pts.length : Int) 3 6)) rfl) ?_
          rcases bool_or (impl_within.m (s.Pts.length : Int) 3 6) with hq118 | hq118
          · have H := ite_t H hq118
            refine Q_run (dj := 49) rfl rfl (by exact congrArg Value.bool hq118) ?_
            refine Q_pu (P_fa fa68_1 ⟨b7, 0, none⟩ ⟨b7, 1, none⟩ rfl rfl) ?_
            refine Q_run (dj := 49) rfl rfl (by exact congrArg Value.bool hq118) ?_
            refine Q_pu (P_ld ag23 cQ ⟨b7, 1, none⟩ (.slice A1 n2 c3) rfl (h30.cell rfl)) ?_
            refine Q_run (dj := 49) rfl rfl (by exact congrArg Value.bool hq118) ?_
            obtain ⟨hb119, H⟩ := H
            obtain ⟨ad120, cs121, hA122, hS125, hR123, hcl124⟩ := h29.get default (by decide) 0 hb119
            obtain rfl := kPt.op hR123
            refine Q_pu (P_ia Try.underlying23 se23 A1 ad120 n2 c3 h29.len 0 rfl hA122 rfl hb119) ?_
            refine Q_run (dj := 49) rfl rfl (by exact congrArg Value.bool hq118) ?_
            refine Q_pu (P_lda ag29 sz29 cQ (ad120.add ((0 : Int).toNat * 2)) [vi ((nth s.Pts 0).X), vi ((nth s.Pts 0).Y)] rfl rfl hcl124) ?_
            refine Q_run (dj := 49) rfl rfl (by exact congrArg Value.bool hq118) ?_
            refine Q_pu (P_fa fa68_1 ⟨b7, 0, none⟩ ⟨b7, 1, none⟩ rfl rfl) ?_
            refine Q_run (dj := 49) rfl rfl (by exact congrArg Value.bool hq118) ?_
            refine Q_pu (P_ld ag23 cQ ⟨b7, 1, none⟩ (.slice A1 n2 c3) rfl (h30.cell rfl)) ?_
            refine Q_run (dj := 49) rfl rfl (by exact congrArg Value.bool hq118) ?_
            refine Q_pu (P_move (vi (s.Pts.length : Int)) rfl) ?_
            refine Q_run (dj := 49) rfl rfl (by exact congrArg Value.bool hq118) ?_
            obtain ⟨hb126, H⟩ := H
            have hi127 := hb126 (len_le hl103)
            refine Q_pu (P_sub (s.Pts.length : Int) 1 rfl rfl hi127) ?_
            refine Q_run (dj := 49) rfl rfl (by exact congrArg Value.bool hq118) ?_
            obtain ⟨hb128, H⟩ := H
            obtain ⟨ad129, cs130, hA131, hS134, hR132, hcl133⟩ := h29.get default (by decide) ((s.Pts.length : Int) - 1) hb128
            obtain rfl := kPt.op hR132
            refine Q_pu (P_ia Try.underlying23 se23 A1 ad129 n2 c3 h29.len ((s.Pts.length : Int) - 1) rfl hA131 rfl hb128) ?_
            refine Q_run (dj := 49) rfl rfl (by exact congrArg Value.bool hq118) ?_
            refine Q_pu (P_lda ag29 sz29 cQ (ad129.add (((s.Pts.length : Int) - 1).toNat * 2)) [vi ((nth s.Pts ((s.Pts.length : Int) - 1)).X), vi ((nth s.Pts ((s.Pts.length : Int) - 1)).Y)] rfl rfl hcl133) ?_
            refine Q_run (dj := 49) rfl rfl (by exact congrArg Value.bool hq118) ?_
            refine Q_pu (P_ne _ _ (eqPt (nth s.Pts 0) (nth s.Pts ((s.Pts.length : Int) - 1))) (qt29 (nth s.Pts 0) (nth s.Pts ((s.Pts.length : Int) - 1))) rfl rfl) ?_
            refine Q_pu (P_pick true (vb (!(eqPt (nth s.Pts 0) (nth s.Pts ((s.Pts.length : Int) - 1))))) (by exact congrArg Value.bool hq118) rfl) ?_
            refine Q_pu (P_assign (vb (!(eqPt (nth s.Pts 0) (nth s.Pts ((s.Pts.length : Int) - 1))))) rfl) ?_
            refine Q_nil fun w135 g136 => ?_
            have hc138 := hc28.k0 g136
            refine W_ret ?_
            exact ⟨[vb (!(eqPt (nth s.Pts 0) (nth s.Pts ((s.Pts.length : Int) - 1))))], ⟨_, rfl, rfl⟩, !(eqPt (nth s.Pts 0) (nth s.Pts ((s.Pts.length : Int) - 1))), rfl, H, hc138.gr.g0⟩
          · have H := ite_f H hq118
            refine Q_pass (dj := 49) rfl rfl (.inl (by exact congrArg Value.bool hq118)) ?_
            refine Q_pass (dj := 49) rfl rfl (.inl (by exact congrArg Value.bool hq118)) ?_
            refine Q_pass (dj := 49) rfl rfl (.inl (by exact congrArg Value.bool hq118)) ?_
            refine Q_pass (dj := 49) rfl rfl (.inl (by exact congrArg Value.bool hq118)) ?_
            refine Q_pass (dj := 49) rfl rfl (.inl (by exact congrArg Value.bool hq118)) ?_
            refine Q_pass (dj := 49) rfl rfl (.inl (by exact congrArg Value.bool hq118)) ?_
            refine Q_pass (dj := 49) rfl rfl (.inl (by exact congrArg Value.bool hq118)) ?_
            refine Q_pass (dj := 49) rfl rfl (.inl (by exact congrArg Value.bool hq118)) ?_
            refine Q_pass (dj := 49) rfl rfl (.inl (by exact congrArg Value.bool hq118)) ?_
            refine Q_pass (dj := 49) rfl rfl (.inl (by exact congrArg Value.bool hq118)) ?_
            refine Q_pass (dj := 49) rfl rfl (.inl (by exact congrArg Value.bool hq118)) ?_
            refine Q_pu (P_pick false (vb false) (by exact congrArg Value.bool hq118) rfl) ?_
            refine Q_pu (P_assign (vb false) rfl) ?_
            refine Q_nil fun w139 g140 => ?_
            have hc142 := hc28.k0 g140
            refine W_ret ?_
            exact ⟨[vb false], ⟨_, rfl, rfl⟩, false, rfl, H, hc142.gr.g0⟩
        · have H := ite_f H hq112
          refine W_skip ?_
          refine W_seq ?_
          refine W_reg ?_
          refine L_pu (P_assign (vb false) rfl) ?_
          refine L_nil ?_
          refine W_ret ?_
          exact ⟨[vb false], ⟨_, rfl, rfl⟩, false, rfl, H, hc28.gr.g0⟩
end Go.Proofs.Ytndjggncgpjolaa

namespace Go.Proofs.Ytndjggncgpjolaa
set_option linter.unusedVariables false
set_option linter.unusedSimpArgs false
set_option linter.unusedSectionVars false
theorem impl_ShapeOk.law (s : Shape) (Q : Bool → Prop) (hl : s.Pts.length ≤ 1048576) (hq : Q (shapeOk s)) : impl_ShapeOk.E s Q := by
  unfold impl_ShapeOk.E
  unfold shapeOk ptsOk at hq
  refine loop_all s.Pts.length (fun k => ptOk (nth s.Pts (k : Int)) && (decide (k = 0) || !(decide (nth s.Pts ((k : Int) - 1) = nth s.Pts (k : Int))))) (fun I mu k hk hp hn => ?_) (fun ha => ?_)
  · refine ⟨by omega, _, impl_ptOk.law _ _ rfl, ?_⟩
    have bad : (ptOk (nth s.Pts (k : Int)) && (decide (k = 0) || !(decide (nth s.Pts ((k : Int) - 1) = nth s.Pts (k : Int))))) = false → Q false := fun h => by
      rw [allN_false hk h, Bool.false_and] at hq; exact hq
    cases h1 : ptOk (nth s.Pts (k : Int)) with
    | false => rw [if_pos (by decide)]; exact bad (by rw [h1]; rfl)
    | true =>
      rw [if_neg (by decide)]
      by_cases hk0 : k = 0
      · rw [if_neg (by rw [decide_eq_true_eq]; omega)]
        obtain ⟨i1, i2⟩ := hn (by rw [h1, decide_eq_true hk0]; rfl)
        exact ⟨by unfold I64; omega, i1, i2⟩
      · rw [if_pos (by rw [decide_eq_true_eq]; omega)]
        refine ⟨by unfold I64; omega, by omega, ?_⟩
        rw [eqPt_is]
        by_cases he : nth s.Pts ((k : Int) - 1) = nth s.Pts (k : Int)
        · rw [if_pos (by rw [decide_eq_true_eq]; exact he)]
          exact bad (by rw [h1, decide_eq_false hk0, decide_eq_true he]; rfl)
        · rw [if_neg (by rw [decide_eq_true_eq]; exact he)]
          obtain ⟨i1, i2⟩ := hn (by simp only [h1, decide_eq_false hk0, decide_eq_false he]; rfl)
          exact ⟨by unfold I64; omega, i1, i2⟩
  · rw [allN_true ha, Bool.true_and] at hq
    unfold kindOk at hq
    by_cases k1 : s.Kind = 1
    · rw [if_pos k1] at hq
      rw [if_pos (by rw [beq_iff_eq]; exact k1)]
      have : ((s.Pts.length : Int) == 1) = decide (s.Pts.length = 1) := by rw [Bool.eq_iff_iff, beq_iff_eq, decide_eq_true_eq]; omega
      rw [this]; exact hq
    rw [if_neg k1] at hq
    rw [if_neg (by rw [beq_iff_eq]; exact k1)]
    have e2 : decide ((2 : Int) ≤ (s.Pts.length : Int)) = decide (2 ≤ s.Pts.length) := decide_eq_decide.2 (by omega)
    have e3 : decide ((3 : Int) ≤ (s.Pts.length : Int)) = decide (3 ≤ s.Pts.length) := decide_eq_decide.2 (by omega)
    have e6 : decide ((s.Pts.length : Int) ≤ 6) = decide (s.Pts.length ≤ 6) := decide_eq_decide.2 (by omega)
    by_cases k2 : s.Kind = 2
    · rw [if_pos k2] at hq
      rw [if_pos (by rw [beq_iff_eq]; exact k2)]
      refine impl_within.law _ _ _ _ ?_
      rw [e2, e6]; exact hq
    rw [if_neg k2] at hq
    rw [if_neg (by rw [beq_iff_eq]; exact k2)]
    by_cases k3 : s.Kind = 3
    · rw [if_pos k3] at hq
      rw [if_pos (by rw [beq_iff_eq]; exact k3), impl_within.m_is, e3, e6]
      cases hc : decide (3 ≤ s.Pts.length) && decide (s.Pts.length ≤ 6) with
      | true =>
        rw [hc, Bool.true_and] at hq
        rw [Bool.and_eq_true, decide_eq_true_eq, decide_eq_true_eq] at hc
        rw [if_pos rfl, eqPt_is]
        exact ⟨by omega, fun _ => by unfold I64; omega, by omega, hq⟩
      | false =>
        rw [hc, Bool.false_and] at hq
        rw [if_neg (by decide)]; exact hq
    · rw [if_neg k3] at hq
      rw [if_neg (by rw [beq_iff_eq]; exact k3)]; exact hq
end Go.Proofs.Ytndjggncgpjolaa

namespace Go.Proofs.Ytndjggncgpjolaa
open Go.RowKit
set_option linter.unusedVariables false
def impl_FeatOk.E (f : Feat) (Q : Bool → Prop) : Prop :=
  (∃ (I43 : Int → Prop) (mu44 : Int → Nat), I43 0 ∧ ∀ (v2 : Int), I43 v2 → (if decide (v2 < (f.Tags.length : Int)) then ((0 : Int) ≤ v2 ∧ v2 < (f.Tags.length : Int)) ∧ (∃ q : Bool, impl_WordOk.E ((nth f.Tags v2).Key) (fun x => x = q) ∧ (if !q then Q false else (∃ q2 : Bool, impl_WordOk.E ((nth f.Tags v2).Val) (fun x => x = q2) ∧ (if !q2 then Q false else (if decide (v2 > 0) then (I64 (v2 - 1)) ∧ ((0 : Int) ≤ v2 - 1 ∧ v2 - 1 < (f.Tags.length : Int)) ∧ (if !(Op.bytesLess ((nth f.Tags (v2 - 1)).Key) ((nth f.Tags v2).Key)) then Q false else (I64 (v2 + 1)) ∧ I43 (v2 + 1) ∧ mu44 (v2 + 1) < mu44 v2) else (I64 (v2 + 1)) ∧ I43 (v2 + 1) ∧ mu44 (v2 + 1) < mu44 v2))))) else impl_WordOk.E f.Id (fun r3 => (if r3 then impl_ShapeOk.E f.Shape (fun r4 => (if r4 then Q (decide ((f.Tags.length : Int) ≤ 4)) else Q false)) else Q false))))
set_option maxHeartbeats 8000000 in
set_option maxRecDepth 100000 in
theorem impl_FeatOk.calls {O : Ob} (w0 : World) (hO : Ok w0 O) (f : Feat) (A2 : Option Addr) (n3 c4 : Nat) (A7 : Option Addr) (n8 c9 : Nat) (hs1 : Lim f.Id) (hp5 : Sl kPt w0 (Fr O) (.slice A2 n3 c4) f.Shape.Pts) (hp10 : Sl kTag w0 (Fr O) (.slice A7 n8 c9) f.Tags) (Q : Bool → Prop) (h : impl_FeatOk.E f Q) :
    Ret Try.prog 93 [.agg #[vs f.Id, vi f.Shape.Kind, .slice A2 n3 c4, .slice A7 n8 c9]] w0 (fun v w' => ∃ (r0 : Bool), v = vb r0 ∧ Q r0 ∧ Gr w0 w' none) := by
  have H : (∃ (I43 : Int → Prop) (mu44 : Int → Nat), I43 0 ∧ ∀ (v2 : Int), I43 v2 → (if decide (v2 < (f.Tags.length : Int)) then ((0 : Int) ≤ v2 ∧ v2 < (f.Tags.length : Int)) ∧ (∃ q : Bool, impl_WordOk.E ((nth f.Tags v2).Key) (fun x => x = q) ∧ (if !q then Q false else (∃ q2 : Bool, impl_WordOk.E ((nth f.Tags v2).Val) (fun x => x = q2) ∧ (if !q2 then Q false else (if decide (v2 > 0) then (I64 (v2 - 1)) ∧ ((0 : Int) ≤ v2 - 1 ∧ v2 - 1 < (f.Tags.length : Int)) ∧ (if !(Op.bytesLess ((nth f.Tags (v2 - 1)).Key) ((nth f.Tags v2).Key)) then Q false else (I64 (v2 + 1)) ∧ I43 (v2 + 1) ∧ mu44 (v2 + 1) < mu44 v2) else (I64 (v2 + 1)) ∧ I43 (v2 + 1) ∧ mu44 (v2 + 1) < mu44 v2))))) else impl_WordOk.E f.Id (fun r3 => (if r3 then impl_ShapeOk.E f.Shape (fun r4 => (if r4 then Q (decide ((f.Tags.length : Int) ≤ 4)) else Q false)) else Q false)))) := h
  clear h
  have hc0 := Ct.init hO
  refine Ret_enter Try.func93 rfl 54 rfl [.tmp 2] rfl rfl ?_
  refine W_seq ?_
  refine W_reg ?_
  refine L_box [vs f.Id, vi f.Shape.Kind, .slice A2 n3 c4, .slice A7 n8 c9] rfl fun w12 b13 hl15 hu16 g14 hx17 => ?_
  have h19 := Fb.mk hc0.ok hl15 hx17
  have hc20 := hc0.k0 g14
  refine L_pu (P_assign (vb false) rfl) ?_
  refine L_nil ?_
  refine W_seq ?_
  refine W_seq ?_
  refine W_reg ?_
  refine L_pu (P_fa fa71_2 ⟨b13, 0, none⟩ ⟨b13, 3, none⟩ rfl rfl) ?_
  refine L_pu (P_ld ag69 cL ⟨b13, 3, none⟩ (.slice A7 n8 c9) rfl (h19.cell rfl)) ?_
  have hl21 := (hp10.st hc20.st).le
  refine L_pu (P_len Try.underlying69 A7 n8 c9 (hp10.st hc20.st).len rfl) ?_
  refine L_pu (P_move (vi 0) rfl) ?_
  refine L_nil ?_
  refine W_block ?_
  obtain ⟨I43, mu44, hI45, H⟩ := H
  refine W_loop (α := Int) (fun (sv__ : Int) t w36 => match sv__ with | v2 => I43 v2 ∧ Has t [(1, .pointer (some ⟨b13, 0, none⟩)), (6, .slice A7 n8 c9), (7, vi (f.Tags.length : Int)), (8, vi v2)] ∧ Ct [] w0 w36 [] O ∧ Sl kTag w36 (Fr ([] ++ O)) (.slice A7 n8 c9) f.Tags ∧ Sl kPt w36 (Fr ([] ++ O)) (.slice A2 n3 c4) f.Shape.Pts ∧ Fb w36 ([] ++ O) b13 [vs f.Id, vi f.Shape.Kind, .slice A2 n3 c4, .slice A7 n8 c9]) (fun (sv__ : Int) => match sv__ with | v2 => mu44 v2) 0 ⟨hI45, ⟨rfl, rfl, rfl, rfl, trivial⟩, hc20, (hp10.st hc20.st), (hp5.st hc20.st), h19⟩ ?_
  rintro v2 _ w36 ⟨hI45, hh47, hc39, h40, h41, h42⟩
  obtain ⟨u48, rfl⟩ := Has.ins hh47
  have H := H v2 hI45
  refine W_seq ?_
  refine W_reg ?_
  refine L_pu (P_cmp v2 (f.Tags.length : Int) (decide (v2 < (f.Tags.length : Int))) rfl rfl rfl) ?_
  refine L_nil ?_
  refine W_seq ?_
  refine W_cond (decide (v2 < (f.Tags.length : Int))) rfl (fun hq49 => ?_) (fun hq49 => ?_)
  · have H := ite_t H hq49
    refine W_skip ?_
    refine W_seq ?_
    refine W_block ?_
    refine W_seq ?_
    refine W_reg ?_
    refine L_pu (P_move (vi v2) rfl) ?_
    obtain ⟨hb50, H⟩ := H
    obtain ⟨ad51, cs52, hA53, hS56, hR54, hcl55⟩ := h40.get default (by decide) v2 hb50
    obtain ⟨rfl, hs57, hs58⟩ := kTag.op hR54
    refine L_pu (P_ia Try.underlying69 se69 A7 ad51 n8 c9 h40.len v2 rfl hA53 rfl hb50) ?_
    refine L_pu (P_lda ag133 sz133 cL (ad51.add (v2.toNat * 2)) [vs ((nth f.Tags v2).Key), vs ((nth f.Tags v2).Val)] rfl rfl hcl55) ?_
    refine L_alloc [vs [], vs []] ze133 fun w59 b60 hl62 hu63 g61 hx64 => ?_
    have hc66 := hc39.own g61 (some b60) (oglt hl62 hu63)
    refine L_pu (P_assign (vi v2) rfl) ?_
    refine L_stb b60 0 [vs ([] : Str), vs ([] : Str)] [vs ((nth f.Tags v2).Key), vs ((nth f.Tags v2).Val)] [vs ((nth f.Tags v2).Key), vs ((nth f.Tags v2).Val)] rfl hx64 rfl sz133 rfl rfl rfl fun w67 g68 hx69 => ?_
    have hc70 := hc66.wr 0 rfl g68
    refine L_nil ?_
    refine W_seq ?_
    refine W_draw (fun x => Gr w67 x none) (by kernel_rfl) (by kernel_rfl) (Gr.drew _) ?_
    refine Q_pu (P_fa fa133_0 ⟨b60, 0, none⟩ ⟨b60, 0, none⟩ rfl rfl) ?_
    refine Q_pu (P_ld ag9 cQ ⟨b60, 0, none⟩ (vs ((nth f.Tags v2).Key)) rfl (hx69.cell rfl)) ?_
    obtain ⟨q, hE76, H⟩ := H
    refine Q_call go53 [vs ((nth f.Tags v2).Key)] rfl (vb q) (fun w g => (impl_WordOk.calls w (hc70.k0 g).ok ((nth f.Tags v2).Key) hs57 _ hE76).mono ?_) ?_
    · rintro _ w ⟨r, rfl, rfl, g2⟩
      exact ⟨rfl, Gr.t0 g g2⟩
    refine Q_pu (P_not q rfl) ?_
    refine Q_pu (P_move (vb (!q)) rfl) ?_
    rcases bool_or (!q) with hq78 | hq78
    · have H := ite_t H hq78
      refine Q_pass (dj := 17) rfl rfl (.inl (by exact congrArg Value.bool hq78)) ?_
      refine Q_pass (dj := 17) rfl rfl (.inl (by exact congrArg Value.bool hq78)) ?_
      refine Q_pass (dj := 17) rfl rfl (.inl (by exact congrArg Value.bool hq78)) ?_
      refine Q_pass (dj := 17) rfl rfl (.inl (by exact congrArg Value.bool hq78)) ?_
      refine Q_pu (P_pick true (vb true) (by exact congrArg Value.bool hq78) rfl) ?_
      refine Q_pu (P_move (vb true) rfl) ?_
      refine Q_pass (dj := 23) rfl rfl (.inl rfl) ?_
      refine Q_pass (dj := 23) rfl rfl (.inl rfl) ?_
      refine Q_pass (dj := 23) rfl rfl (.inl rfl) ?_
      refine Q_pass (dj := 26) rfl rfl (.inr rfl) ?_
      refine Q_pass (dj := 26) rfl rfl (.inr rfl) ?_
      refine Q_pass (dj := 26) rfl rfl (.inr rfl) ?_
      refine Q_pass (dj := 26) rfl rfl (.inr rfl) ?_
      refine Q_pass (dj := 26) rfl rfl (.inr rfl) ?_
      refine Q_pass (dj := 26) rfl rfl (.inr rfl) ?_
      refine Q_pass (dj := 26) rfl rfl (.inr rfl) ?_
      refine Q_pass (dj := 26) rfl rfl (.inr rfl) ?_
      refine Q_pass (dj := 26) rfl rfl (.inr rfl) ?_
      refine Q_pass (dj := 26) rfl rfl (.inr rfl) ?_
      refine Q_pass (dj := 23) rfl rfl (.inl rfl) ?_
      refine Q_pu (P_pick true (vb true) (by exact congrArg Value.bool rfl) rfl) ?_
      refine Q_nil fun w79 g80 => ?_
      have hc82 := hc70.k0 g80
      refine W_ct (b := true) rfl rfl ?_
      refine W_seq ?_
      refine W_reg ?_
      refine L_pu (P_assign (vb false) rfl) ?_
      refine L_nil ?_
      refine W_ret ?_
      have hc83 := hc82.drop 0 rfl
      exact ⟨[vb false], ⟨_, rfl, rfl⟩, false, rfl, H, hc83.gr.g0⟩
    · have H := ite_f H hq78
      refine Q_run (dj := 17) rfl rfl (by exact congrArg Value.bool hq78) ?_
      refine Q_pu (P_fa fa133_1 ⟨b60, 0, none⟩ ⟨b60, 1, none⟩ rfl rfl) ?_
      refine Q_run (dj := 17) rfl rfl (by exact congrArg Value.bool hq78) ?_
      refine Q_pu (P_ld ag9 cQ ⟨b60, 1, none⟩ (vs ((nth f.Tags v2).Val)) rfl (hx69.cell rfl)) ?_
      refine Q_run (dj := 17) rfl rfl (by exact congrArg Value.bool hq78) ?_
      obtain ⟨q2, hE89, H⟩ := H
      refine Q_call go53 [vs ((nth f.Tags v2).Val)] rfl (vb q2) (fun w g => (impl_WordOk.calls w (hc70.k0 g).ok ((nth f.Tags v2).Val) hs58 _ hE89).mono ?_) ?_
      · rintro _ w ⟨r, rfl, rfl, g2⟩
        exact ⟨rfl, Gr.t0 g g2⟩
      refine Q_run (dj := 17) rfl rfl (by exact congrArg Value.bool hq78) ?_
      refine Q_pu (P_not q2 rfl) ?_
      refine Q_pu (P_pick false (vb (!q2)) (by exact congrArg Value.bool hq78) rfl) ?_
      refine Q_pu (P_move (vb (!q2)) rfl) ?_
      rcases bool_or (!q2) with hq91 | hq91
      · have H := ite_t H hq91
        refine Q_pass (dj := 23) rfl rfl (.inl (by exact congrArg Value.bool hq91)) ?_
        refine Q_pass (dj := 23) rfl rfl (.inl (by exact congrArg Value.bool hq91)) ?_
        refine Q_pass (dj := 23) rfl rfl (.inl (by exact congrArg Value.bool hq91)) ?_
        refine Q_pass (dj := 26) rfl rfl (.inr rfl) ?_
        refine Q_pass (dj := 26) rfl rfl (.inr rfl) ?_
        refine Q_pass (dj := 26) rfl rfl (.inr rfl) ?_
        refine Q_pass (dj := 26) rfl rfl (.inr rfl) ?_
        refine Q_pass (dj := 26) rfl rfl (.inr rfl) ?_
        refine Q_pass (dj := 26) rfl rfl (.inr rfl) ?_
        refine Q_pass (dj := 26) rfl rfl (.inr rfl) ?_
        refine Q_pass (dj := 26) rfl rfl (.inr rfl) ?_
        refine Q_pass (dj := 26) rfl rfl (.inr rfl) ?_
        refine Q_pass (dj := 26) rfl rfl (.inr rfl) ?_
        refine Q_pass (dj := 23) rfl rfl (.inl (by exact congrArg Value.bool hq91)) ?_
        refine Q_pu (P_pick true (vb true) (by exact congrArg Value.bool hq91) rfl) ?_
        refine Q_nil fun w92 g93 => ?_
        have hc95 := hc70.k0 g93
        refine W_ct (b := true) rfl rfl ?_
        refine W_seq ?_
        refine W_reg ?_
        refine L_pu (P_assign (vb false) rfl) ?_
        refine L_nil ?_
        refine W_ret ?_
        have hc96 := hc95.drop 0 rfl
        exact ⟨[vb false], ⟨_, rfl, rfl⟩, false, rfl, H, hc96.gr.g0⟩
      · have H := ite_f H hq91
        refine Q_run (dj := 23) rfl rfl (by exact congrArg Value.bool hq91) ?_
        refine Q_pu (P_move (vi v2) rfl) ?_
        refine Q_run (dj := 23) rfl rfl (by exact congrArg Value.bool hq91) ?_
        refine Q_pu (P_cmp v2 0 (decide (v2 > 0)) rfl rfl rfl) ?_
        refine Q_run (dj := 23) rfl rfl (by exact congrArg Value.bool hq91) ?_
        refine Q_pu (P_move (vb (decide (v2 > 0))) rfl) ?_
        rcases bool_or (decide (v2 > 0)) with hq97 | hq97
        · have H := ite_t H hq97
          refine Q_run (dj := 26) rfl rfl (by exact congrArg Value.bool hq97) ?_
          refine Q_pu (P_fa fa71_2 ⟨b13, 0, none⟩ ⟨b13, 3, none⟩ rfl rfl) ?_
          refine Q_run (dj := 26) rfl rfl (by exact congrArg Value.bool hq97) ?_
          have h98 := ((h42.st (.own _ _ g61 (oge hl62))).st (.wl (L := [some b60]) (O := O) (j := 0) rfl g68))
          refine Q_pu (P_ld ag69 cQ ⟨b13, 3, none⟩ (.slice A7 n8 c9) rfl (h98.cell rfl)) ?_
          refine Q_run (dj := 26) rfl rfl (by exact congrArg Value.bool hq97) ?_
          refine Q_pu (P_move (vi v2) rfl) ?_
          refine Q_run (dj := 26) rfl rfl (by exact congrArg Value.bool hq97) ?_
          obtain ⟨hb99, H⟩ := H
          refine Q_pu (P_sub v2 1 rfl rfl hb99) ?_
          refine Q_run (dj := 26) rfl rfl (by exact congrArg Value.bool hq97) ?_
          obtain ⟨hb100, H⟩ := H
          have h107 := ((h40.st (.own _ _ g61 (oge hl62))).st (.wl (L := [some b60]) (O := O) (j := 0) rfl g68))
          obtain ⟨ad101, cs102, hA103, hS106, hR104, hcl105⟩ := h107.get default (by decide) (v2 - 1) hb100
          obtain ⟨rfl, hs108, hs109⟩ := kTag.op hR104
          refine Q_pu (P_ia Try.underlying69 se69 A7 ad101 n8 c9 h107.len (v2 - 1) rfl hA103 rfl hb100) ?_
          refine Q_run (dj := 26) rfl rfl (by exact congrArg Value.bool hq97) ?_
          refine Q_pu (P_fa fa133_0 (ad101.add ((v2 - 1).toNat * 2)) ((ad101.add ((v2 - 1).toNat * 2)).add 0) rfl rfl) ?_
          refine Q_run (dj := 26) rfl rfl (by exact congrArg Value.bool hq97) ?_
          refine Q_pu (P_ld ag9 cQ ((ad101.add ((v2 - 1).toNat * 2)).add 0) (vs ((nth f.Tags (v2 - 1)).Key)) rfl (hcl105 0 _ rfl)) ?_
          refine Q_run (dj := 26) rfl rfl (by exact congrArg Value.bool hq97) ?_
          refine Q_pu (P_fa fa133_0 ⟨b60, 0, none⟩ ⟨b60, 0, none⟩ rfl rfl) ?_
          refine Q_run (dj := 26) rfl rfl (by exact congrArg Value.bool hq97) ?_
          refine Q_pu (P_ld ag9 cQ ⟨b60, 0, none⟩ (vs ((nth f.Tags v2).Key)) rfl (hx69.cell rfl)) ?_
          refine Q_run (dj := 26) rfl rfl (by exact congrArg Value.bool hq97) ?_
          refine Q_pu (P_scmp ((nth f.Tags (v2 - 1)).Key) ((nth f.Tags v2).Key) (!(Op.bytesLess ((nth f.Tags (v2 - 1)).Key) ((nth f.Tags v2).Key))) rfl rfl rfl) ?_
          refine Q_run (dj := 23) rfl rfl (by exact congrArg Value.bool hq91) ?_
          refine Q_pu (P_pick true (vb (!(Op.bytesLess ((nth f.Tags (v2 - 1)).Key) ((nth f.Tags v2).Key)))) (by exact congrArg Value.bool hq97) rfl) ?_
          refine Q_pu (P_pick false (vb (!(Op.bytesLess ((nth f.Tags (v2 - 1)).Key) ((nth f.Tags v2).Key)))) (by exact congrArg Value.bool hq91) rfl) ?_
          refine Q_nil fun w110 g111 => ?_
          have hc113 := hc70.k0 g111
          refine W_cond (!(Op.bytesLess ((nth f.Tags (v2 - 1)).Key) ((nth f.Tags v2).Key))) rfl (fun hq114 => ?_) (fun hq114 => ?_)
          · have H := ite_t H hq114
            refine W_seq ?_
            refine W_reg ?_
            refine L_pu (P_assign (vb false) rfl) ?_
            refine L_nil ?_
            refine W_ret ?_
            have hc115 := hc113.drop 0 rfl
            exact ⟨[vb false], ⟨_, rfl, rfl⟩, false, rfl, H, hc115.gr.g0⟩
          · have H := ite_f H hq114
            refine W_skip ?_
            refine W_reg ?_
            obtain ⟨hb116, H⟩ := H
            refine L_pu (P_add v2 1 rfl rfl hb116) ?_
            refine L_pu (P_move (vi (v2 + 1)) rfl) ?_
            refine L_nil ?_
            have hc117 := hc113.drop 0 rfl
            obtain ⟨hI118, hm119⟩ := H
            have h120 := ((h107.st (.new _ g111)).st (.dr _ (L := [some b60]) (O := O) (j := 0) rfl))
            have h121 := ((((h41.st (.own _ _ g61 (oge hl62))).st (.wl (L := [some b60]) (O := O) (j := 0) rfl g68)).st (.new _ g111)).st (.dr _ (L := [some b60]) (O := O) (j := 0) rfl))
            have h122 := ((h98.st (.new _ g111)).st (.dr _ (L := [some b60]) (O := O) (j := 0) rfl))
            exact ⟨v2 + 1, hm119, hI118, ⟨rfl, rfl, rfl, rfl, trivial⟩, hc117, h120, h121, h122⟩
        · have H := ite_f H hq97
          refine Q_pass (dj := 26) rfl rfl (.inl (by exact congrArg Value.bool hq97)) ?_
          refine Q_pass (dj := 26) rfl rfl (.inl (by exact congrArg Value.bool hq97)) ?_
          refine Q_pass (dj := 26) rfl rfl (.inl (by exact congrArg Value.bool hq97)) ?_
          refine Q_pass (dj := 26) rfl rfl (.inl (by exact congrArg Value.bool hq97)) ?_
          refine Q_pass (dj := 26) rfl rfl (.inl (by exact congrArg Value.bool hq97)) ?_
          refine Q_pass (dj := 26) rfl rfl (.inl (by exact congrArg Value.bool hq97)) ?_
          refine Q_pass (dj := 26) rfl rfl (.inl (by exact congrArg Value.bool hq97)) ?_
          refine Q_pass (dj := 26) rfl rfl (.inl (by exact congrArg Value.bool hq97)) ?_
          refine Q_pass (dj := 26) rfl rfl (.inl (by exact congrArg Value.bool hq97)) ?_
          refine Q_pass (dj := 26) rfl rfl (.inl (by exact congrArg Value.bool hq97)) ?_
          refine Q_run (dj := 23) rfl rfl (by exact congrArg Value.bool hq91) ?_
          refine Q_pu (P_pick false (vb false) (by exact congrArg Value.bool hq97) rfl) ?_
          refine Q_pu (P_pick false (vb false) (by exact congrArg Value.bool hq91) rfl) ?_
          refine Q_nil fun w123 g124 => ?_
          have hc126 := hc70.k0 g124
          refine W_cf (b := false) rfl rfl ?_
          refine W_skip ?_
          refine W_reg ?_
          obtain ⟨hb127, H⟩ := H
          refine L_pu (P_add v2 1 rfl rfl hb127) ?_
          refine L_pu (P_move (vi (v2 + 1)) rfl) ?_
          refine L_nil ?_
          have hc128 := hc126.drop 0 rfl
          obtain ⟨hI129, hm130⟩ := H
          have h131 := ((((h40.st (.own _ _ g61 (oge hl62))).st (.wl (L := [some b60]) (O := O) (j := 0) rfl g68)).st (.new _ g124)).st (.dr _ (L := [some b60]) (O := O) (j := 0) rfl))
          have h132 := ((((h41.st (.own _ _ g61 (oge hl62))).st (.wl (L := [some b60]) (O := O) (j := 0) rfl g68)).st (.new _ g124)).st (.dr _ (L := [some b60]) (O := O) (j := 0) rfl))
          have h133 := ((((h42.st (.own _ _ g61 (oge hl62))).st (.wl (L := [some b60]) (O := O) (j := 0) rfl g68)).st (.new _ g124)).st (.dr _ (L := [some b60]) (O := O) (j := 0) rfl))
          exact ⟨v2 + 1, hm130, hI129, ⟨rfl, rfl, rfl, rfl, trivial⟩, hc128, h131, h132, h133⟩
  · have H := ite_f H hq49
    refine W_exit (xin_hit ?_)
    refine W_seq ?_
    refine W_reg ?_
    refine L_pu (P_fa fa71_0 ⟨b13, 0, none⟩ ⟨b13, 0, none⟩ rfl rfl) ?_
    refine L_pu (P_ld ag9 cL ⟨b13, 0, none⟩ (vs f.Id) rfl (h42.cell rfl)) ?_
    refine L_call go53 [vs f.Id] rfl ((impl_WordOk.calls w36 hc39.ok f.Id hs1 _ H).mono ?_)
    rintro _ w134 ⟨r3, rfl, H, g135⟩
    have hc139 := hc39.k0 g135
    refine L_pu (P_move (vb r3) rfl) ?_
    rcases bool_or r3 with hq140 | hq140
    · have H := ite_t H hq140
      refine L_run (dj := 43) rfl rfl (by exact congrArg Value.bool hq140) ?_
      refine L_pu (P_fa fa71_1 ⟨b13, 0, none⟩ ⟨b13, 1, none⟩ rfl rfl) ?_
      refine L_run (dj := 43) rfl rfl (by exact congrArg Value.bool hq140) ?_
      have h141 := (h42.st (.new _ g135))
      refine L_pu (P_lda ag68 sz68 cL ⟨b13, 1, none⟩ [vi f.Shape.Kind, .slice A2 n3 c4] rfl rfl (h141.cells (off := 1) rfl)) ?_
      refine L_run (dj := 43) rfl rfl (by exact congrArg Value.bool hq140) ?_
      refine L_call go96 [.agg #[vi f.Shape.Kind, .slice A2 n3 c4]] rfl ((impl_ShapeOk.calls w134 hc139.ok f.Shape A2 n3 c4 (h41.st (.new _ g135)) _ H).mono ?_)
      rintro _ w142 ⟨r4, rfl, H, g143⟩
      have hc147 := hc139.k0 g143
      refine L_pu (P_pick true (vb r4) (by exact congrArg Value.bool hq140) rfl) ?_
      refine L_pu (P_move (vb r4) rfl) ?_
      rcases bool_or r4 with hq148 | hq148
      · have H := ite_t H hq148
        refine L_run (dj := 48) rfl rfl (by exact congrArg Value.bool hq148) ?_
        refine L_pu (P_fa fa71_2 ⟨b13, 0, none⟩ ⟨b13, 3, none⟩ rfl rfl) ?_
        refine L_run (dj := 48) rfl rfl (by exact congrArg Value.bool hq148) ?_
        have h149 := (h141.st (.new _ g143))
        refine L_pu (P_ld ag69 cL ⟨b13, 3, none⟩ (.slice A7 n8 c9) rfl (h149.cell rfl)) ?_
        refine L_run (dj := 48) rfl rfl (by exact congrArg Value.bool hq148) ?_
        have h150 := ((h40.st (.new _ g135)).st (.new _ g143))
        have hl151 := h150.le
        refine L_pu (P_len Try.underlying69 A7 n8 c9 h150.len rfl) ?_
        refine L_run (dj := 48) rfl rfl (by exact congrArg Value.bool hq148) ?_
        refine L_pu (P_cmp (f.Tags.length : Int) 4 (decide ((f.Tags.length : Int) ≤ 4)) rfl rfl rfl) ?_
        refine L_pu (P_pick true (vb (decide ((f.Tags.length : Int) ≤ 4))) (by exact congrArg Value.bool hq148) rfl) ?_
        refine L_pu (P_assign (vb (decide ((f.Tags.length : Int) ≤ 4))) rfl) ?_
        refine L_nil ?_
        refine W_ret ?_
        exact ⟨[vb (decide ((f.Tags.length : Int) ≤ 4))], ⟨_, rfl, rfl⟩, decide ((f.Tags.length : Int) ≤ 4), rfl, H, hc147.gr.g0⟩
      · have H := ite_f H hq148
        refine L_pass (dj := 48) rfl rfl (.inl (by exact congrArg Value.bool hq148)) ?_
        refine L_pass (dj := 48) rfl rfl (.inl (by exact congrArg Value.bool hq148)) ?_
        refine L_pass (dj := 48) rfl rfl (.inl (by exact congrArg Value.bool hq148)) ?_
        refine L_pass (dj := 48) rfl rfl (.inl (by exact congrArg Value.bool hq148)) ?_
        refine L_pu (P_pick false (vb false) (by exact congrArg Value.bool hq148) rfl) ?_
        refine L_pu (P_assign (vb false) rfl) ?_
        refine L_nil ?_
        refine W_ret ?_
        exact ⟨[vb false], ⟨_, rfl, rfl⟩, false, rfl, H, hc147.gr.g0⟩
    · have H := ite_f H hq140
      refine L_pass (dj := 43) rfl rfl (.inl (by exact congrArg Value.bool hq140)) ?_
      refine L_pass (dj := 43) rfl rfl (.inl (by exact congrArg Value.bool hq140)) ?_
      refine L_pass (dj := 43) rfl rfl (.inl (by exact congrArg Value.bool hq140)) ?_
      refine L_pu (P_pick false (vb false) (by exact congrArg Value.bool hq140) rfl) ?_
      refine L_pu (P_move (vb false) rfl) ?_
      refine L_pass (dj := 48) rfl rfl (.inl rfl) ?_
      refine L_pass (dj := 48) rfl rfl (.inl rfl) ?_
      refine L_pass (dj := 48) rfl rfl (.inl rfl) ?_
      refine L_pass (dj := 48) rfl rfl (.inl rfl) ?_
      refine L_pu (P_pick false (vb false) (by exact congrArg Value.bool rfl) rfl) ?_
      refine L_pu (P_assign (vb false) rfl) ?_
      refine L_nil ?_
      refine W_ret ?_
      exact ⟨[vb false], ⟨_, rfl, rfl⟩, false, rfl, H, hc139.gr.g0⟩
end Go.Proofs.Ytndjggncgpjolaa

namespace Go.Proofs.Ytndjggncgpjolaa
set_option linter.unusedVariables false
set_option linter.unusedSimpArgs false
set_option linter.unusedSectionVars false
theorem impl_FeatOk.law (f : Feat) (Q : Bool → Prop) (hb : bulk f ≤ 1048576) (hq : Q (featOk f)) : impl_FeatOk.E f Q := by
  unfold impl_FeatOk.E
  unfold featOk at hq
  have b1 : bulk f = bulk f.Id + bulk f.Shape + bulk f.Tags := rfl
  have b2 : bulk f.Shape = bulk f.Shape.Kind + bulk f.Shape.Pts := rfl
  have l1 := bulk_len f.Tags; have l2 := bulk_len f.Shape.Pts; have l3 := bulk_len f.Id
  have core : (tagsOk f.Tags = true → impl_WordOk.E f.Id (fun r3 => (if r3 then impl_ShapeOk.E f.Shape (fun r4 => (if r4 then Q (decide ((f.Tags.length : Int) ≤ 4)) else Q false)) else Q false))) := fun ha => by
    rw [ha, Bool.true_and] at hq
    refine impl_WordOk.law _ _ (by omega) ?_
    cases h1 : wordOk f.Id with
    | false => rw [h1, Bool.and_false, Bool.false_and] at hq; rw [if_neg (by decide)]; exact hq
    | true =>
      rw [h1, Bool.and_true] at hq
      rw [if_pos rfl]
      refine impl_ShapeOk.law _ _ (by omega) ?_
      cases h2 : shapeOk f.Shape with
      | false => rw [h2, Bool.and_false] at hq; rw [if_neg (by decide)]; exact hq
      | true =>
        rw [h2, Bool.and_true] at hq; rw [if_pos rfl]
        have e2 : decide ((f.Tags.length : Int) ≤ 4) = decide (f.Tags.length ≤ 4) := decide_eq_decide.2 (by omega)
        rw [e2]; exact hq
  have bad : tagsOk f.Tags = false → Q false := fun h => by
    rw [h, Bool.false_and, Bool.false_and, Bool.false_and] at hq; exact hq
  unfold tagsOk at core bad
  refine loop_all f.Tags.length (fun k => wordOk (nth f.Tags (k : Int)).Key && wordOk (nth f.Tags (k : Int)).Val && (decide (k = 0) || Op.bytesLess (nth f.Tags ((k : Int) - 1)).Key (nth f.Tags (k : Int)).Key)) (fun I mu k hk hp hn => ?_) (fun ha => core (allN_true ha))
  have bad := fun h => bad (allN_false hk h)
  have m1 := bulk_mem (nth_mem f.Tags hk)
  have m2 : bulk (nth f.Tags (k : Int)) = bulk (nth f.Tags (k : Int)).Key + bulk (nth f.Tags (k : Int)).Val := rfl
  have m3 := bulk_len (nth f.Tags (k : Int)).Key; have m4 := bulk_len (nth f.Tags (k : Int)).Val
  refine ⟨by omega, _, impl_WordOk.law _ _ (by omega) rfl, ?_⟩
  cases h1 : wordOk (nth f.Tags (k : Int)).Key with
  | false => rw [if_pos (by decide)]; exact bad (by rw [h1]; rfl)
  | true =>
    rw [if_neg (by decide)]
    refine ⟨_, impl_WordOk.law _ _ (by omega) rfl, ?_⟩
    cases h2 : wordOk (nth f.Tags (k : Int)).Val with
    | false => rw [if_pos (by decide)]; exact bad (by rw [h2, Bool.and_false]; rfl)
    | true =>
      rw [if_neg (by decide)]
      by_cases hk0 : k = 0
      · rw [if_neg (by rw [decide_eq_true_eq]; omega)]
        obtain ⟨i1, i2⟩ := hn (by rw [h1, h2, decide_eq_true hk0]; rfl)
        exact ⟨by unfold I64; omega, i1, i2⟩
      · rw [if_pos (by rw [decide_eq_true_eq]; omega)]
        refine ⟨by unfold I64; omega, by omega, ?_⟩
        cases h3 : Op.bytesLess (nth f.Tags ((k : Int) - 1)).Key (nth f.Tags (k : Int)).Key with
        | false => rw [if_pos (by decide)]; exact bad (by rw [h3, h1, h2, decide_eq_false hk0]; rfl)
        | true =>
          rw [if_neg (by decide)]
          obtain ⟨i1, i2⟩ := hn (by rw [h3, h1, h2, decide_eq_false hk0]; rfl)
          exact ⟨by unfold I64; omega, i1, i2⟩
end Go.Proofs.Ytndjggncgpjolaa

namespace Go.Proofs.Ytndjggncgpjolaa
open Go.RowKit
set_option linter.unusedVariables false
def impl_sideOk.E (id : Str) (has : Bool) (f : Feat) (Q : Bool → Prop) : Prop :=
  (if !has then impl_noFeat.E f (fun r => Q r) else impl_FeatOk.E f (fun r2 => (if r2 then Q (f.Id == id) else Q false)))
set_option maxHeartbeats 8000000 in
set_option maxRecDepth 100000 in
theorem impl_sideOk.calls {O : Ob} (w0 : World) (hO : Ok w0 O) (id : Str) (hs1 : Lim id) (has : Bool) (f : Feat) (A3 : Option Addr) (n4 c5 : Nat) (A8 : Option Addr) (n9 c10 : Nat) (hs2 : Lim f.Id) (hp6 : Sl kPt w0 (Fr O) (.slice A3 n4 c5) f.Shape.Pts) (hp11 : Sl kTag w0 (Fr O) (.slice A8 n9 c10) f.Tags) (Q : Bool → Prop) (h : impl_sideOk.E id has f Q) :
    Ret Try.prog 119 [vs id, vb has, .agg #[vs f.Id, vi f.Shape.Kind, .slice A3 n4 c5, .slice A8 n9 c10]] w0 (fun v w' => ∃ (r0 : Bool), v = vb r0 ∧ Q r0 ∧ Gr w0 w' none) := by
  have H : (if !has then impl_noFeat.E f (fun r => Q r) else impl_FeatOk.E f (fun r2 => (if r2 then Q (f.Id == id) else Q false))) := h
  clear h
  have hc0 := Ct.init hO
  refine Ret_enter Try.func119 rfl 19 rfl [.tmp 6] rfl rfl ?_
  refine W_seq ?_
  refine W_reg ?_
  refine L_box [vs f.Id, vi f.Shape.Kind, .slice A3 n4 c5, .slice A8 n9 c10] rfl fun w13 b14 hl16 hu17 g15 hx18 => ?_
  have h20 := Fb.mk hc0.ok hl16 hx18
  have hc21 := hc0.k0 g15
  refine L_pu (P_assign (vb false) rfl) ?_
  refine L_nil ?_
  refine W_seq ?_
  refine W_seq ?_
  refine W_reg ?_
  refine L_pu (P_move (vb has) rfl) ?_
  refine L_pu (P_not has rfl) ?_
  refine L_nil ?_
  refine W_cond (!has) rfl (fun hq22 => ?_) (fun hq22 => ?_)
  · have H := ite_t H hq22
    refine W_seq ?_
    refine W_reg ?_
    refine L_pu (P_lda ag71 sz71 cL ⟨b14, 0, none⟩ [vs f.Id, vi f.Shape.Kind, .slice A3 n4 c5, .slice A8 n9 c10] rfl rfl (h20.cells (off := 0) rfl)) ?_
    refine L_call go149 [.agg #[vs f.Id, vi f.Shape.Kind, .slice A3 n4 c5, .slice A8 n9 c10]] rfl ((impl_noFeat.calls w13 hc21.ok f A3 n4 c5 A8 n9 c10 hs2 (hp6.st hc21.st) (hp11.st hc21.st) _ H).mono ?_)
    rintro _ w23 ⟨r, rfl, H, g24⟩
    have hc28 := hc21.k0 g24
    refine L_pu (P_assign (vb r) rfl) ?_
    refine L_nil ?_
    refine W_ret ?_
    exact ⟨[vb r], ⟨_, rfl, rfl⟩, r, rfl, H, hc28.gr.g0⟩
  · have H := ite_f H hq22
    refine W_skip ?_
    refine W_seq ?_
    refine W_reg ?_
    refine L_pu (P_lda ag71 sz71 cL ⟨b14, 0, none⟩ [vs f.Id, vi f.Shape.Kind, .slice A3 n4 c5, .slice A8 n9 c10] rfl rfl (h20.cells (off := 0) rfl)) ?_
    refine L_call go93 [.agg #[vs f.Id, vi f.Shape.Kind, .slice A3 n4 c5, .slice A8 n9 c10]] rfl ((impl_FeatOk.calls w13 hc21.ok f A3 n4 c5 A8 n9 c10 hs2 (hp6.st hc21.st) (hp11.st hc21.st) _ H).mono ?_)
    rintro _ w29 ⟨r2, rfl, H, g30⟩
    have hc34 := hc21.k0 g30
    refine L_pu (P_move (vb r2) rfl) ?_
    rcases bool_or r2 with hq35 | hq35
    · have H := ite_t H hq35
      refine L_run (dj := 13) rfl rfl (by exact congrArg Value.bool hq35) ?_
      refine L_pu (P_fa fa71_0 ⟨b14, 0, none⟩ ⟨b14, 0, none⟩ rfl rfl) ?_
      refine L_run (dj := 13) rfl rfl (by exact congrArg Value.bool hq35) ?_
      have h36 := (h20.st (.new _ g30))
      refine L_pu (P_ld ag9 cL ⟨b14, 0, none⟩ (vs f.Id) rfl (h36.cell rfl)) ?_
      refine L_run (dj := 13) rfl rfl (by exact congrArg Value.bool hq35) ?_
      refine L_pu (P_move (vs id) rfl) ?_
      refine L_run (dj := 13) rfl rfl (by exact congrArg Value.bool hq35) ?_
      refine L_pu (P_scmp f.Id id (f.Id == id) rfl rfl rfl) ?_
      refine L_pu (P_pick true (vb (f.Id == id)) (by exact congrArg Value.bool hq35) rfl) ?_
      refine L_pu (P_assign (vb (f.Id == id)) rfl) ?_
      refine L_nil ?_
      refine W_ret ?_
      exact ⟨[vb (f.Id == id)], ⟨_, rfl, rfl⟩, f.Id == id, rfl, H, hc34.gr.g0⟩
    · have H := ite_f H hq35
      refine L_pass (dj := 13) rfl rfl (.inl (by exact congrArg Value.bool hq35)) ?_
      refine L_pass (dj := 13) rfl rfl (.inl (by exact congrArg Value.bool hq35)) ?_
      refine L_pass (dj := 13) rfl rfl (.inl (by exact congrArg Value.bool hq35)) ?_
      refine L_pass (dj := 13) rfl rfl (.inl (by exact congrArg Value.bool hq35)) ?_
      refine L_pu (P_pick false (vb false) (by exact congrArg Value.bool hq35) rfl) ?_
      refine L_pu (P_assign (vb false) rfl) ?_
      refine L_nil ?_
      refine W_ret ?_
      exact ⟨[vb false], ⟨_, rfl, rfl⟩, false, rfl, H, hc34.gr.g0⟩
end Go.Proofs.Ytndjggncgpjolaa

namespace Go.Proofs.Ytndjggncgpjolaa
set_option linter.unusedVariables false
set_option linter.unusedSimpArgs false
set_option linter.unusedSectionVars false
theorem impl_sideOk.law (id : Str) (has : Bool) (f : Feat) (Q : Bool → Prop) (hb : bulk f ≤ 1048576) (hq : Q (sideOk id has f)) : impl_sideOk.E id has f Q := by
  unfold impl_sideOk.E
  unfold sideOk at hq
  cases has with
  | false => rw [if_pos (by decide)]; rw [if_neg (by decide)] at hq; exact impl_noFeat.law _ _ hq
  | true =>
    rw [if_neg (by decide)]; rw [if_pos rfl] at hq
    refine impl_FeatOk.law _ _ hb ?_
    cases h : featOk f with
    | false => rw [h] at hq; rw [if_neg (by decide)]; exact hq
    | true =>
      rw [h, Bool.true_and] at hq; rw [if_pos rfl]
      have : (f.Id == id) = decide (f.Id = id) := by rw [Bool.eq_iff_iff, beq_iff_eq, decide_eq_true_eq]
      rw [this]; exact hq
end Go.Proofs.Ytndjggncgpjolaa

namespace Go.Proofs.Ytndjggncgpjolaa
open Go.RowKit
set_option linter.unusedVariables false
def slices_Equal_Pt.E (s1 : List Pt) (s2 : List Pt) (Q : Bool → Prop) : Prop :=
  (if (s1.length : Int) != (s2.length : Int) then Q false else (∃ (I32 : Int → Prop) (mu33 : Int → Nat), I32 0 ∧ ∀ (v2 : Int), I32 v2 → (if decide (v2 < (s1.length : Int)) then ((0 : Int) ≤ v2 ∧ v2 < (s1.length : Int)) ∧ ((0 : Int) ≤ v2 ∧ v2 < (s2.length : Int)) ∧ (if !(eqPt (nth s1 v2) (nth s2 v2)) then Q false else (I64 (v2 + 1)) ∧ I32 (v2 + 1) ∧ mu33 (v2 + 1) < mu33 v2) else Q true)))
set_option maxHeartbeats 8000000 in
set_option maxRecDepth 100000 in
theorem slices_Equal_Pt.calls {O : Ob} (w0 : World) (hO : Ok w0 O) (s1 : List Pt) (A1 : Option Addr) (n2 c3 : Nat) (hp4 : Sl kPt w0 (Fr O) (.slice A1 n2 c3) s1) (s2 : List Pt) (A6 : Option Addr) (n7 c8 : Nat) (hp9 : Sl kPt w0 (Fr O) (.slice A6 n7 c8) s2) (Q : Bool → Prop) (h : slices_Equal_Pt.E s1 s2 Q) :
    Ret Try.prog 49 [.slice A1 n2 c3, .slice A6 n7 c8] w0 (fun v w' => ∃ (r0 : Bool), v = vb r0 ∧ Q r0 ∧ Gr w0 w' none) := by
  have H : (if (s1.length : Int) != (s2.length : Int) then Q false else (∃ (I32 : Int → Prop) (mu33 : Int → Nat), I32 0 ∧ ∀ (v2 : Int), I32 v2 → (if decide (v2 < (s1.length : Int)) then ((0 : Int) ≤ v2 ∧ v2 < (s1.length : Int)) ∧ ((0 : Int) ≤ v2 ∧ v2 < (s2.length : Int)) ∧ (if !(eqPt (nth s1 v2) (nth s2 v2)) then Q false else (I64 (v2 + 1)) ∧ I32 (v2 + 1) ∧ mu33 (v2 + 1) < mu33 v2) else Q true))) := h
  clear h
  have hc0 := Ct.init hO
  refine Ret_enter Try.func49 rfl 26 rfl [.tmp 4] rfl rfl ?_
  refine W_seq ?_
  refine W_reg ?_
  refine L_pu (P_assign (vb false) rfl) ?_
  refine L_nil ?_
  refine W_seq ?_
  refine W_seq ?_
  refine W_reg ?_
  refine L_pu (P_move (.slice A1 n2 c3) rfl) ?_
  have hl11 := hp4.le
  refine L_pu (P_len Try.underlying23 A1 n2 c3 hp4.len rfl) ?_
  refine L_pu (P_move (.slice A6 n7 c8) rfl) ?_
  have hl12 := hp9.le
  refine L_pu (P_len Try.underlying23 A6 n7 c8 hp9.len rfl) ?_
  refine L_pu (P_cmp (s1.length : Int) (s2.length : Int) ((s1.length : Int) != (s2.length : Int)) rfl rfl rfl) ?_
  refine L_nil ?_
  refine W_cond ((s1.length : Int) != (s2.length : Int)) rfl (fun hq13 => ?_) (fun hq13 => ?_)
  · have H := ite_t H hq13
    refine W_seq ?_
    refine W_reg ?_
    refine L_pu (P_assign (vb false) rfl) ?_
    refine L_nil ?_
    refine W_ret ?_
    exact ⟨[vb false], ⟨_, rfl, rfl⟩, false, rfl, H, hc0.gr.g0⟩
  · have H := ite_f H hq13
    refine W_skip ?_
    refine W_seq ?_
    refine W_seq ?_
    refine W_reg ?_
    refine L_pu (P_move (.slice A1 n2 c3) rfl) ?_
    refine L_pu (P_len Try.underlying23 A1 n2 c3 hp4.len rfl) ?_
    refine L_pu (P_move (vi 0) rfl) ?_
    refine L_nil ?_
    refine W_block ?_
    obtain ⟨I32, mu33, hI34, H⟩ := H
    refine W_loop (α := Int) (fun (sv__ : Int) t w26 => match sv__ with | v2 => I32 v2 ∧ Has t [(0, .slice A1 n2 c3), (1, .slice A6 n7 c8), (12, vi (s1.length : Int)), (13, vi v2)] ∧ Ct [] w0 w26 [] O ∧ Sl kPt w26 (Fr ([] ++ O)) (.slice A1 n2 c3) s1 ∧ Sl kPt w26 (Fr ([] ++ O)) (.slice A6 n7 c8) s2) (fun (sv__ : Int) => match sv__ with | v2 => mu33 v2) 0 ⟨hI34, ⟨rfl, rfl, rfl, rfl, trivial⟩, hc0, hp4, hp9⟩ ?_
    rintro v2 _ w26 ⟨hI34, hh36, hc29, h30, h31⟩
    obtain ⟨u37, rfl⟩ := Has.ins hh36
    have H := H v2 hI34
    refine W_seq ?_
    refine W_reg ?_
    refine L_pu (P_cmp v2 (s1.length : Int) (decide (v2 < (s1.length : Int))) rfl rfl rfl) ?_
    refine L_nil ?_
    refine W_seq ?_
    refine W_cond (decide (v2 < (s1.length : Int))) rfl (fun hq38 => ?_) (fun hq38 => ?_)
    · have H := ite_t H hq38
      refine W_skip ?_
      refine W_seq ?_
      refine W_block ?_
      refine W_seq ?_
      refine W_reg ?_
      refine L_pu (P_move (vi v2) rfl) ?_
      refine L_pu (P_assign (vi v2) rfl) ?_
      refine L_nil ?_
      refine W_seq ?_
      refine W_draw (fun x => Gr w26 x none) (by kernel_rfl) (by kernel_rfl) (Gr.drew _) ?_
      refine Q_pu (P_move (.slice A1 n2 c3) rfl) ?_
      refine Q_pu (P_move (vi v2) rfl) ?_
      obtain ⟨hb39, H⟩ := H
      obtain ⟨ad40, cs41, hA42, hS45, hR43, hcl44⟩ := h30.get default (by decide) v2 hb39
      obtain rfl := kPt.op hR43
      refine Q_pu (P_ia Try.underlying23 se23 A1 ad40 n2 c3 h30.len v2 rfl hA42 rfl hb39) ?_
      refine Q_pu (P_lda ag29 sz29 cQ (ad40.add (v2.toNat * 2)) [vi ((nth s1 v2).X), vi ((nth s1 v2).Y)] rfl rfl hcl44) ?_
      refine Q_pu (P_move (.slice A6 n7 c8) rfl) ?_
      refine Q_pu (P_move (vi v2) rfl) ?_
      obtain ⟨hb46, H⟩ := H
      obtain ⟨ad47, cs48, hA49, hS52, hR50, hcl51⟩ := h31.get default (by decide) v2 hb46
      obtain rfl := kPt.op hR50
      refine Q_pu (P_ia Try.underlying23 se23 A6 ad47 n7 c8 h31.len v2 rfl hA49 rfl hb46) ?_
      refine Q_pu (P_lda ag29 sz29 cQ (ad47.add (v2.toNat * 2)) [vi ((nth s2 v2).X), vi ((nth s2 v2).Y)] rfl rfl hcl51) ?_
      refine Q_pu (P_ne _ _ (eqPt (nth s1 v2) (nth s2 v2)) (qt29 (nth s1 v2) (nth s2 v2)) rfl rfl) ?_
      refine Q_nil fun w53 g54 => ?_
      have hc56 := hc29.k0 g54
      refine W_cond (!(eqPt (nth s1 v2) (nth s2 v2))) rfl (fun hq57 => ?_) (fun hq57 => ?_)
      · have H := ite_t H hq57
        refine W_seq ?_
        refine W_reg ?_
        refine L_pu (P_assign (vb false) rfl) ?_
        refine L_nil ?_
        refine W_ret ?_
        exact ⟨[vb false], ⟨_, rfl, rfl⟩, false, rfl, H, hc56.gr.g0⟩
      · have H := ite_f H hq57
        refine W_skip ?_
        refine W_reg ?_
        obtain ⟨hb58, H⟩ := H
        refine L_pu (P_add v2 1 rfl rfl hb58) ?_
        refine L_pu (P_move (vi (v2 + 1)) rfl) ?_
        refine L_nil ?_
        obtain ⟨hI59, hm60⟩ := H
        exact ⟨v2 + 1, hm60, hI59, ⟨rfl, rfl, rfl, rfl, trivial⟩, hc56, (h30.st (.new _ g54)), (h31.st (.new _ g54))⟩
    · have H := ite_f H hq38
      refine W_exit (xin_hit ?_)
      refine W_seq ?_
      refine W_reg ?_
      refine L_pu (P_assign (vb true) rfl) ?_
      refine L_nil ?_
      refine W_ret ?_
      exact ⟨[vb true], ⟨_, rfl, rfl⟩, true, rfl, H, hc29.gr.g0⟩
end Go.Proofs.Ytndjggncgpjolaa

namespace Go.Proofs.Ytndjggncgpjolaa
set_option linter.unusedVariables false
set_option linter.unusedSimpArgs false
set_option linter.unusedSectionVars false
theorem slices_Equal_Pt.law (a b : List Pt) (Q : Bool → Prop) (hb : a.length ≤ 1048576) (hq : Q (decide (a = b))) : slices_Equal_Pt.E a b Q := by
  unfold slices_Equal_Pt.E
  exact eqI_shape eqPt eqPt_is a b Q hb hq
end Go.Proofs.Ytndjggncgpjolaa

namespace Go.Proofs.Ytndjggncgpjolaa
open Go.RowKit
set_option linter.unusedVariables false
def impl_ShapeSame.E (a : Shape) (b : Shape) (Q : Bool → Prop) : Prop :=
  (if a.Kind == b.Kind then slices_Equal_Pt.E a.Pts b.Pts (fun r => Q r) else Q false)
set_option maxHeartbeats 8000000 in
set_option maxRecDepth 100000 in
theorem impl_ShapeSame.calls {O : Ob} (w0 : World) (hO : Ok w0 O) (a : Shape) (A1 : Option Addr) (n2 c3 : Nat) (hp4 : Sl kPt w0 (Fr O) (.slice A1 n2 c3) a.Pts) (b : Shape) (A6 : Option Addr) (n7 c8 : Nat) (hp9 : Sl kPt w0 (Fr O) (.slice A6 n7 c8) b.Pts) (Q : Bool → Prop) (h : impl_ShapeSame.E a b Q) :
    Ret Try.prog 95 [.agg #[vi a.Kind, .slice A1 n2 c3], .agg #[vi b.Kind, .slice A6 n7 c8]] w0 (fun v w' => ∃ (r0 : Bool), v = vb r0 ∧ Q r0 ∧ Gr w0 w' none) := by
  have H : (if a.Kind == b.Kind then slices_Equal_Pt.E a.Pts b.Pts (fun r => Q r) else Q false) := h
  clear h
  have hc0 := Ct.init hO
  refine Ret_enter Try.func95 rfl 17 rfl [.tmp 4] rfl rfl ?_
  refine W_seq ?_
  refine W_reg ?_
  refine L_box [vi a.Kind, .slice A1 n2 c3] rfl fun w11 b12 hl14 hu15 g13 hx16 => ?_
  have h18 := Fb.mk hc0.ok hl14 hx16
  have hc19 := hc0.k0 g13
  refine L_box [vi b.Kind, .slice A6 n7 c8] rfl fun w20 b21 hl23 hu24 g22 hx25 => ?_
  have h27 := Fb.mk hc19.ok hl23 hx25
  have hc28 := hc19.k0 g22
  refine L_pu (P_assign (vb false) rfl) ?_
  refine L_nil ?_
  refine W_seq ?_
  refine W_reg ?_
  refine L_pu (P_fa fa68_0 ⟨b12, 0, none⟩ ⟨b12, 0, none⟩ rfl rfl) ?_
  have h29 := (h18.st (.new _ g22))
  refine L_pu (P_ld ag3 cL ⟨b12, 0, none⟩ (vi a.Kind) rfl (h29.cell rfl)) ?_
  refine L_pu (P_fa fa68_0 ⟨b21, 0, none⟩ ⟨b21, 0, none⟩ rfl rfl) ?_
  refine L_pu (P_ld ag3 cL ⟨b21, 0, none⟩ (vi b.Kind) rfl (h27.cell rfl)) ?_
  refine L_pu (P_cmp a.Kind b.Kind (a.Kind == b.Kind) rfl rfl rfl) ?_
  refine L_pu (P_move (vb (a.Kind == b.Kind)) rfl) ?_
  rcases bool_or (a.Kind == b.Kind) with hq30 | hq30
  · have H := ite_t H hq30
    refine L_run (dj := 10) rfl rfl (by exact congrArg Value.bool hq30) ?_
    refine L_pu (P_fa fa68_1 ⟨b12, 0, none⟩ ⟨b12, 1, none⟩ rfl rfl) ?_
    refine L_run (dj := 10) rfl rfl (by exact congrArg Value.bool hq30) ?_
    refine L_pu (P_ld ag23 cL ⟨b12, 1, none⟩ (.slice A1 n2 c3) rfl (h29.cell rfl)) ?_
    refine L_run (dj := 10) rfl rfl (by exact congrArg Value.bool hq30) ?_
    refine L_pu (P_fa fa68_1 ⟨b21, 0, none⟩ ⟨b21, 1, none⟩ rfl rfl) ?_
    refine L_run (dj := 10) rfl rfl (by exact congrArg Value.bool hq30) ?_
    refine L_pu (P_ld ag23 cL ⟨b21, 1, none⟩ (.slice A6 n7 c8) rfl (h27.cell rfl)) ?_
    refine L_run (dj := 10) rfl rfl (by exact congrArg Value.bool hq30) ?_
    refine L_call go49 [.slice A1 n2 c3, .slice A6 n7 c8] rfl ((slices_Equal_Pt.calls w20 hc28.ok a.Pts A1 n2 c3 (hp4.st hc28.st) b.Pts A6 n7 c8 (hp9.st hc28.st) _ H).mono ?_)
    rintro _ w31 ⟨r, rfl, H, g32⟩
    have hc36 := hc28.k0 g32
    refine L_pu (P_pick true (vb r) (by exact congrArg Value.bool hq30) rfl) ?_
    refine L_pu (P_assign (vb r) rfl) ?_
    refine L_nil ?_
    refine W_ret ?_
    exact ⟨[vb r], ⟨_, rfl, rfl⟩, r, rfl, H, hc36.gr.g0⟩
  · have H := ite_f H hq30
    refine L_pass (dj := 10) rfl rfl (.inl (by exact congrArg Value.bool hq30)) ?_
    refine L_pass (dj := 10) rfl rfl (.inl (by exact congrArg Value.bool hq30)) ?_
    refine L_pass (dj := 10) rfl rfl (.inl (by exact congrArg Value.bool hq30)) ?_
    refine L_pass (dj := 10) rfl rfl (.inl (by exact congrArg Value.bool hq30)) ?_
    refine L_pass (dj := 10) rfl rfl (.inl (by exact congrArg Value.bool hq30)) ?_
    refine L_pu (P_pick false (vb false) (by exact congrArg Value.bool hq30) rfl) ?_
    refine L_pu (P_assign (vb false) rfl) ?_
    refine L_nil ?_
    refine W_ret ?_
    exact ⟨[vb false], ⟨_, rfl, rfl⟩, false, rfl, H, hc28.gr.g0⟩
end Go.Proofs.Ytndjggncgpjolaa

namespace Go.Proofs.Ytndjggncgpjolaa
set_option linter.unusedVariables false
set_option linter.unusedSimpArgs false
set_option linter.unusedSectionVars false
theorem impl_ShapeSame.law (a b : Shape) (Q : Bool → Prop) (hl : a.Pts.length ≤ 1048576) (hq : Q (decide (a = b))) : impl_ShapeSame.E a b Q := by
  unfold impl_ShapeSame.E
  by_cases h : a.Kind = b.Kind
  · rw [if_pos (by rw [beq_iff_eq]; exact h)]
    refine slices_Equal_Pt.law _ _ _ (by omega) ?_
    have : decide (a.Pts = b.Pts) = decide (a = b) := decide_eq_decide.2 (by rw [Shape.ext_iff']; exact ⟨fun e => ⟨h, e⟩, fun e => e.2⟩)
    rw [this]; exact hq
  · rw [if_neg (by rw [beq_iff_eq]; exact h)]
    rw [decide_eq_false (by rw [Shape.ext_iff']; exact fun e => h e.1)] at hq; exact hq
end Go.Proofs.Ytndjggncgpjolaa

namespace Go.Proofs.Ytndjggncgpjolaa
open Go.RowKit
set_option linter.unusedVariables false
def slices_Equal_Tag.E (s1 : List Tag) (s2 : List Tag) (Q : Bool → Prop) : Prop :=
  (if (s1.length : Int) != (s2.length : Int) then Q false else (∃ (I32 : Int → Prop) (mu33 : Int → Nat), I32 0 ∧ ∀ (v2 : Int), I32 v2 → (if decide (v2 < (s1.length : Int)) then ((0 : Int) ≤ v2 ∧ v2 < (s1.length : Int)) ∧ ((0 : Int) ≤ v2 ∧ v2 < (s2.length : Int)) ∧ (if !(eqTag (nth s1 v2) (nth s2 v2)) then Q false else (I64 (v2 + 1)) ∧ I32 (v2 + 1) ∧ mu33 (v2 + 1) < mu33 v2) else Q true)))
set_option maxHeartbeats 8000000 in
set_option maxRecDepth 100000 in
theorem slices_Equal_Tag.calls {O : Ob} (w0 : World) (hO : Ok w0 O) (s1 : List Tag) (A1 : Option Addr) (n2 c3 : Nat) (hp4 : Sl kTag w0 (Fr O) (.slice A1 n2 c3) s1) (s2 : List Tag) (A6 : Option Addr) (n7 c8 : Nat) (hp9 : Sl kTag w0 (Fr O) (.slice A6 n7 c8) s2) (Q : Bool → Prop) (h : slices_Equal_Tag.E s1 s2 Q) :
    Ret Try.prog 131 [.slice A1 n2 c3, .slice A6 n7 c8] w0 (fun v w' => ∃ (r0 : Bool), v = vb r0 ∧ Q r0 ∧ Gr w0 w' none) := by
  have H : (if (s1.length : Int) != (s2.length : Int) then Q false else (∃ (I32 : Int → Prop) (mu33 : Int → Nat), I32 0 ∧ ∀ (v2 : Int), I32 v2 → (if decide (v2 < (s1.length : Int)) then ((0 : Int) ≤ v2 ∧ v2 < (s1.length : Int)) ∧ ((0 : Int) ≤ v2 ∧ v2 < (s2.length : Int)) ∧ (if !(eqTag (nth s1 v2) (nth s2 v2)) then Q false else (I64 (v2 + 1)) ∧ I32 (v2 + 1) ∧ mu33 (v2 + 1) < mu33 v2) else Q true))) := h
  clear h
  have hc0 := Ct.init hO
  refine Ret_enter Try.func131 rfl 26 rfl [.tmp 4] rfl rfl ?_
  refine W_seq ?_
  refine W_reg ?_
  refine L_pu (P_assign (vb false) rfl) ?_
  refine L_nil ?_
  refine W_seq ?_
  refine W_seq ?_
  refine W_reg ?_
  refine L_pu (P_move (.slice A1 n2 c3) rfl) ?_
  have hl11 := hp4.le
  refine L_pu (P_len Try.underlying69 A1 n2 c3 hp4.len rfl) ?_
  refine L_pu (P_move (.slice A6 n7 c8) rfl) ?_
  have hl12 := hp9.le
  refine L_pu (P_len Try.underlying69 A6 n7 c8 hp9.len rfl) ?_
  refine L_pu (P_cmp (s1.length : Int) (s2.length : Int) ((s1.length : Int) != (s2.length : Int)) rfl rfl rfl) ?_
  refine L_nil ?_
  refine W_cond ((s1.length : Int) != (s2.length : Int)) rfl (fun hq13 => ?_) (fun hq13 => ?_)
  · have H := ite_t H hq13
    refine W_seq ?_
    refine W_reg ?_
    refine L_pu (P_assign (vb false) rfl) ?_
    refine L_nil ?_
    refine W_ret ?_
    exact ⟨[vb false], ⟨_, rfl, rfl⟩, false, rfl, H, hc0.gr.g0⟩
  · have H := ite_f H hq13
    refine W_skip ?_
    refine W_seq ?_
    refine W_seq ?_
    refine W_reg ?_
    refine L_pu (P_move (.slice A1 n2 c3) rfl) ?_
    refine L_pu (P_len Try.underlying69 A1 n2 c3 hp4.len rfl) ?_
    refine L_pu (P_move (vi 0) rfl) ?_
    refine L_nil ?_
    refine W_block ?_
    obtain ⟨I32, mu33, hI34, H⟩ := H
    refine W_loop (α := Int) (fun (sv__ : Int) t w26 => match sv__ with | v2 => I32 v2 ∧ Has t [(0, .slice A1 n2 c3), (1, .slice A6 n7 c8), (12, vi (s1.length : Int)), (13, vi v2)] ∧ Ct [] w0 w26 [] O ∧ Sl kTag w26 (Fr ([] ++ O)) (.slice A1 n2 c3) s1 ∧ Sl kTag w26 (Fr ([] ++ O)) (.slice A6 n7 c8) s2) (fun (sv__ : Int) => match sv__ with | v2 => mu33 v2) 0 ⟨hI34, ⟨rfl, rfl, rfl, rfl, trivial⟩, hc0, hp4, hp9⟩ ?_
    rintro v2 _ w26 ⟨hI34, hh36, hc29, h30, h31⟩
    obtain ⟨u37, rfl⟩ := Has.ins hh36
    have H := H v2 hI34
    refine W_seq ?_
    refine W_reg ?_
    refine L_pu (P_cmp v2 (s1.length : Int) (decide (v2 < (s1.length : Int))) rfl rfl rfl) ?_
    refine L_nil ?_
    refine W_seq ?_
    refine W_cond (decide (v2 < (s1.length : Int))) rfl (fun hq38 => ?_) (fun hq38 => ?_)
    · have H := ite_t H hq38
      refine W_skip ?_
      refine W_seq ?_
      refine W_block ?_
      refine W_seq ?_
      refine W_reg ?_
      refine L_pu (P_move (vi v2) rfl) ?_
      refine L_pu (P_assign (vi v2) rfl) ?_
      refine L_nil ?_
      refine W_seq ?_
      refine W_draw (fun x => Gr w26 x none) (by kernel_rfl) (by kernel_rfl) (Gr.drew _) ?_
      refine Q_pu (P_move (.slice A1 n2 c3) rfl) ?_
      refine Q_pu (P_move (vi v2) rfl) ?_
      obtain ⟨hb39, H⟩ := H
      obtain ⟨ad40, cs41, hA42, hS45, hR43, hcl44⟩ := h30.get default (by decide) v2 hb39
      obtain ⟨rfl, hs46, hs47⟩ := kTag.op hR43
      refine Q_pu (P_ia Try.underlying69 se69 A1 ad40 n2 c3 h30.len v2 rfl hA42 rfl hb39) ?_
      refine Q_pu (P_lda ag133 sz133 cQ (ad40.add (v2.toNat * 2)) [vs ((nth s1 v2).Key), vs ((nth s1 v2).Val)] rfl rfl hcl44) ?_
      refine Q_pu (P_move (.slice A6 n7 c8) rfl) ?_
      refine Q_pu (P_move (vi v2) rfl) ?_
      obtain ⟨hb48, H⟩ := H
      obtain ⟨ad49, cs50, hA51, hS54, hR52, hcl53⟩ := h31.get default (by decide) v2 hb48
      obtain ⟨rfl, hs55, hs56⟩ := kTag.op hR52
      refine Q_pu (P_ia Try.underlying69 se69 A6 ad49 n7 c8 h31.len v2 rfl hA51 rfl hb48) ?_
      refine Q_pu (P_lda ag133 sz133 cQ (ad49.add (v2.toNat * 2)) [vs ((nth s2 v2).Key), vs ((nth s2 v2).Val)] rfl rfl hcl53) ?_
      refine Q_pu (P_ne _ _ (eqTag (nth s1 v2) (nth s2 v2)) (qt133 (nth s1 v2) (nth s2 v2)) rfl rfl) ?_
      refine Q_nil fun w57 g58 => ?_
      have hc60 := hc29.k0 g58
      refine W_cond (!(eqTag (nth s1 v2) (nth s2 v2))) rfl (fun hq61 => ?_) (fun hq61 => ?_)
      · have H := ite_t H hq61
        refine W_seq ?_
        refine W_reg ?_
        refine L_pu (P_assign (vb false) rfl) ?_
        refine L_nil ?_
        refine W_ret ?_
        exact ⟨[vb false], ⟨_, rfl, rfl⟩, false, rfl, H, hc60.gr.g0⟩
      · have H := ite_f H hq61
        refine W_skip ?_
        refine W_reg ?_
        obtain ⟨hb62, H⟩ := H
        refine L_pu (P_add v2 1 rfl rfl hb62) ?_
        refine L_pu (P_move (vi (v2 + 1)) rfl) ?_
        refine L_nil ?_
        obtain ⟨hI63, hm64⟩ := H
        exact ⟨v2 + 1, hm64, hI63, ⟨rfl, rfl, rfl, rfl, trivial⟩, hc60, (h30.st (.new _ g58)), (h31.st (.new _ g58))⟩
    · have H := ite_f H hq38
      refine W_exit (xin_hit ?_)
      refine W_seq ?_
      refine W_reg ?_
      refine L_pu (P_assign (vb true) rfl) ?_
      refine L_nil ?_
      refine W_ret ?_
      exact ⟨[vb true], ⟨_, rfl, rfl⟩, true, rfl, H, hc29.gr.g0⟩
end Go.Proofs.Ytndjggncgpjolaa

namespace Go.Proofs.Ytndjggncgpjolaa
set_option linter.unusedVariables false
set_option linter.unusedSimpArgs false
set_option linter.unusedSectionVars false
theorem slices_Equal_Tag.law (a b : List Tag) (Q : Bool → Prop) (hb : a.length ≤ 1048576) (hq : Q (decide (a = b))) : slices_Equal_Tag.E a b Q := by
  unfold slices_Equal_Tag.E
  exact eqI_shape eqTag eqTag_is a b Q hb hq
end Go.Proofs.Ytndjggncgpjolaa

namespace Go.Proofs.Ytndjggncgpjolaa
open Go.RowKit
set_option linter.unusedVariables false
def impl_FeatSame.E (a : Feat) (b : Feat) (Q : Bool → Prop) : Prop :=
  (if a.Id == b.Id then impl_ShapeSame.E a.Shape b.Shape (fun r => (if r then slices_Equal_Tag.E a.Tags b.Tags (fun r2 => Q r2) else Q false)) else Q false)
set_option maxHeartbeats 8000000 in
set_option maxRecDepth 100000 in
theorem impl_FeatSame.calls {O : Ob} (w0 : World) (hO : Ok w0 O) (a : Feat) (A2 : Option Addr) (n3 c4 : Nat) (A7 : Option Addr) (n8 c9 : Nat) (hs1 : Lim a.Id) (hp5 : Sl kPt w0 (Fr O) (.slice A2 n3 c4) a.Shape.Pts) (hp10 : Sl kTag w0 (Fr O) (.slice A7 n8 c9) a.Tags) (b : Feat) (A13 : Option Addr) (n14 c15 : Nat) (A18 : Option Addr) (n19 c20 : Nat) (hs12 : Lim b.Id) (hp16 : Sl kPt w0 (Fr O) (.slice A13 n14 c15) b.Shape.Pts) (hp21 : Sl kTag w0 (Fr O) (.slice A18 n19 c20) b.Tags) (Q : Bool → Prop) (h : impl_FeatSame.E a b Q) :
    Ret Try.prog 86 [.agg #[vs a.Id, vi a.Shape.Kind, .slice A2 n3 c4, .slice A7 n8 c9], .agg #[vs b.Id, vi b.Shape.Kind, .slice A13 n14 c15, .slice A18 n19 c20]] w0 (fun v w' => ∃ (r0 : Bool), v = vb r0 ∧ Q r0 ∧ Gr w0 w' none) := by
  have H : (if a.Id == b.Id then impl_ShapeSame.E a.Shape b.Shape (fun r => (if r then slices_Equal_Tag.E a.Tags b.Tags (fun r2 => Q r2) else Q false)) else Q false) := h
  clear h
  have hc0 := Ct.init hO
  refine Ret_enter Try.func86 rfl 24 rfl [.tmp 4] rfl rfl ?_
  refine W_seq ?_
  refine W_reg ?_
  refine L_box [vs a.Id, vi a.Shape.Kind, .slice A2 n3 c4, .slice A7 n8 c9] rfl fun w23 b24 hl26 hu27 g25 hx28 => ?_
  have h30 := Fb.mk hc0.ok hl26 hx28
  have hc31 := hc0.k0 g25
  refine L_box [vs b.Id, vi b.Shape.Kind, .slice A13 n14 c15, .slice A18 n19 c20] rfl fun w32 b33 hl35 hu36 g34 hx37 => ?_
  have h39 := Fb.mk hc31.ok hl35 hx37
  have hc40 := hc31.k0 g34
  refine L_pu (P_assign (vb false) rfl) ?_
  refine L_nil ?_
  refine W_seq ?_
  refine W_reg ?_
  refine L_pu (P_fa fa71_0 ⟨b24, 0, none⟩ ⟨b24, 0, none⟩ rfl rfl) ?_
  have h41 := (h30.st (.new _ g34))
  refine L_pu (P_ld ag9 cL ⟨b24, 0, none⟩ (vs a.Id) rfl (h41.cell rfl)) ?_
  refine L_pu (P_fa fa71_0 ⟨b33, 0, none⟩ ⟨b33, 0, none⟩ rfl rfl) ?_
  refine L_pu (P_ld ag9 cL ⟨b33, 0, none⟩ (vs b.Id) rfl (h39.cell rfl)) ?_
  refine L_pu (P_scmp a.Id b.Id (a.Id == b.Id) rfl rfl rfl) ?_
  refine L_pu (P_move (vb (a.Id == b.Id)) rfl) ?_
  rcases bool_or (a.Id == b.Id) with hq42 | hq42
  · have H := ite_t H hq42
    refine L_run (dj := 10) rfl rfl (by exact congrArg Value.bool hq42) ?_
    refine L_pu (P_fa fa71_1 ⟨b24, 0, none⟩ ⟨b24, 1, none⟩ rfl rfl) ?_
    refine L_run (dj := 10) rfl rfl (by exact congrArg Value.bool hq42) ?_
    refine L_pu (P_lda ag68 sz68 cL ⟨b24, 1, none⟩ [vi a.Shape.Kind, .slice A2 n3 c4] rfl rfl (h41.cells (off := 1) rfl)) ?_
    refine L_run (dj := 10) rfl rfl (by exact congrArg Value.bool hq42) ?_
    refine L_pu (P_fa fa71_1 ⟨b33, 0, none⟩ ⟨b33, 1, none⟩ rfl rfl) ?_
    refine L_run (dj := 10) rfl rfl (by exact congrArg Value.bool hq42) ?_
    refine L_pu (P_lda ag68 sz68 cL ⟨b33, 1, none⟩ [vi b.Shape.Kind, .slice A13 n14 c15] rfl rfl (h39.cells (off := 1) rfl)) ?_
    refine L_run (dj := 10) rfl rfl (by exact congrArg Value.bool hq42) ?_
    refine L_call go95 [.agg #[vi a.Shape.Kind, .slice A2 n3 c4], .agg #[vi b.Shape.Kind, .slice A13 n14 c15]] rfl ((impl_ShapeSame.calls w32 hc40.ok a.Shape A2 n3 c4 (hp5.st hc40.st) b.Shape A13 n14 c15 (hp16.st hc40.st) _ H).mono ?_)
    rintro _ w43 ⟨r, rfl, H, g44⟩
    have hc48 := hc40.k0 g44
    refine L_pu (P_pick true (vb r) (by exact congrArg Value.bool hq42) rfl) ?_
    refine L_pu (P_move (vb r) rfl) ?_
    rcases bool_or r with hq49 | hq49
    · have H := ite_t H hq49
      refine L_run (dj := 17) rfl rfl (by exact congrArg Value.bool hq49) ?_
      refine L_pu (P_fa fa71_2 ⟨b24, 0, none⟩ ⟨b24, 3, none⟩ rfl rfl) ?_
      refine L_run (dj := 17) rfl rfl (by exact congrArg Value.bool hq49) ?_
      have h50 := (h41.st (.new _ g44))
      refine L_pu (P_ld ag69 cL ⟨b24, 3, none⟩ (.slice A7 n8 c9) rfl (h50.cell rfl)) ?_
      refine L_run (dj := 17) rfl rfl (by exact congrArg Value.bool hq49) ?_
      refine L_pu (P_fa fa71_2 ⟨b33, 0, none⟩ ⟨b33, 3, none⟩ rfl rfl) ?_
      refine L_run (dj := 17) rfl rfl (by exact congrArg Value.bool hq49) ?_
      have h51 := (h39.st (.new _ g44))
      refine L_pu (P_ld ag69 cL ⟨b33, 3, none⟩ (.slice A18 n19 c20) rfl (h51.cell rfl)) ?_
      refine L_run (dj := 17) rfl rfl (by exact congrArg Value.bool hq49) ?_
      refine L_call go131 [.slice A7 n8 c9, .slice A18 n19 c20] rfl ((slices_Equal_Tag.calls w43 hc48.ok a.Tags A7 n8 c9 (hp10.st hc48.st) b.Tags A18 n19 c20 (hp21.st hc48.st) _ H).mono ?_)
      rintro _ w52 ⟨r2, rfl, H, g53⟩
      have hc57 := hc48.k0 g53
      refine L_pu (P_pick true (vb r2) (by exact congrArg Value.bool hq49) rfl) ?_
      refine L_pu (P_assign (vb r2) rfl) ?_
      refine L_nil ?_
      refine W_ret ?_
      exact ⟨[vb r2], ⟨_, rfl, rfl⟩, r2, rfl, H, hc57.gr.g0⟩
    · have H := ite_f H hq49
      refine L_pass (dj := 17) rfl rfl (.inl (by exact congrArg Value.bool hq49)) ?_
      refine L_pass (dj := 17) rfl rfl (.inl (by exact congrArg Value.bool hq49)) ?_
      refine L_pass (dj := 17) rfl rfl (.inl (by exact congrArg Value.bool hq49)) ?_
      refine L_pass (dj := 17) rfl rfl (.inl (by exact congrArg Value.bool hq49)) ?_
      refine L_pass (dj := 17) rfl rfl (.inl (by exact congrArg Value.bool hq49)) ?_
      refine L_pu (P_pick false (vb false) (by exact congrArg Value.bool hq49) rfl) ?_
      refine L_pu (P_assign (vb false) rfl) ?_
      refine L_nil ?_
      refine W_ret ?_
      exact ⟨[vb false], ⟨_, rfl, rfl⟩, false, rfl, H, hc48.gr.g0⟩
  · have H := ite_f H hq42
    refine L_pass (dj := 10) rfl rfl (.inl (by exact congrArg Value.bool hq42)) ?_
    refine L_pass (dj := 10) rfl rfl (.inl (by exact congrArg Value.bool hq42)) ?_
    refine L_pass (dj := 10) rfl rfl (.inl (by exact congrArg Value.bool hq42)) ?_
    refine L_pass (dj := 10) rfl rfl (.inl (by exact congrArg Value.bool hq42)) ?_
    refine L_pass (dj := 10) rfl rfl (.inl (by exact congrArg Value.bool hq42)) ?_
    refine L_pu (P_pick false (vb false) (by exact congrArg Value.bool hq42) rfl) ?_
    refine L_pu (P_move (vb false) rfl) ?_
    refine L_pass (dj := 17) rfl rfl (.inl rfl) ?_
    refine L_pass (dj := 17) rfl rfl (.inl rfl) ?_
    refine L_pass (dj := 17) rfl rfl (.inl rfl) ?_
    refine L_pass (dj := 17) rfl rfl (.inl rfl) ?_
    refine L_pass (dj := 17) rfl rfl (.inl rfl) ?_
    refine L_pu (P_pick false (vb false) (by exact congrArg Value.bool rfl) rfl) ?_
    refine L_pu (P_assign (vb false) rfl) ?_
    refine L_nil ?_
    refine W_ret ?_
    exact ⟨[vb false], ⟨_, rfl, rfl⟩, false, rfl, H, hc40.gr.g0⟩
end Go.Proofs.Ytndjggncgpjolaa

namespace Go.Proofs.Ytndjggncgpjolaa
set_option linter.unusedVariables false
set_option linter.unusedSimpArgs false
set_option linter.unusedSectionVars false
theorem impl_FeatSame.law (a b : Feat) (Q : Bool → Prop) (hl : a.Shape.Pts.length ≤ 1048576 ∧ a.Tags.length ≤ 1048576) (hq : Q (decide (a = b))) : impl_FeatSame.E a b Q := by
  unfold impl_FeatSame.E
  by_cases h : a.Id = b.Id
  · rw [if_pos (by rw [beq_iff_eq]; exact h)]
    refine impl_ShapeSame.law _ _ _ (by omega) ?_
    by_cases h2 : a.Shape = b.Shape
    · rw [decide_eq_true h2, if_pos rfl]
      refine slices_Equal_Tag.law _ _ _ (by omega) ?_
      have : decide (a.Tags = b.Tags) = decide (a = b) := decide_eq_decide.2 (by rw [Feat.ext_iff']; exact ⟨fun e => ⟨h, h2, e⟩, fun e => e.2.2⟩)
      rw [this]; exact hq
    · rw [decide_eq_false h2, if_neg (by decide)]
      rw [decide_eq_false (by rw [Feat.ext_iff']; exact fun e => h2 e.2.1)] at hq; exact hq
  · rw [if_neg (by rw [beq_iff_eq]; exact h)]
    rw [decide_eq_false (by rw [Feat.ext_iff']; exact fun e => h e.1)] at hq; exact hq
end Go.Proofs.Ytndjggncgpjolaa

namespace Go.Proofs.Ytndjggncgpjolaa
open Go.RowKit
set_option linter.unusedVariables false
def impl_Change_same.E (c_ : Change) (Q : Bool → Prop) : Prop :=
  (if c_.Had == c_.Has then impl_FeatSame.E c_.Was c_.Now (fun r => Q r) else Q false)
set_option maxHeartbeats 8000000 in
set_option maxRecDepth 100000 in
theorem impl_Change_same.calls {O : Ob} (w0 : World) (hO : Ok w0 O) (c_ : Change) (A3 : Option Addr) (n4 c5 : Nat) (A8 : Option Addr) (n9 c10 : Nat) (A14 : Option Addr) (n15 c16 : Nat) (A19 : Option Addr) (n20 c21 : Nat) (hs1 : Lim c_.Id) (hs2 : Lim c_.Was.Id) (hp6 : Sl kPt w0 (Fr O) (.slice A3 n4 c5) c_.Was.Shape.Pts) (hp11 : Sl kTag w0 (Fr O) (.slice A8 n9 c10) c_.Was.Tags) (hs13 : Lim c_.Now.Id) (hp17 : Sl kPt w0 (Fr O) (.slice A14 n15 c16) c_.Now.Shape.Pts) (hp22 : Sl kTag w0 (Fr O) (.slice A19 n20 c21) c_.Now.Tags) (Q : Bool → Prop) (h : impl_Change_same.E c_ Q) :
    Ret Try.prog 77 [.agg #[vs c_.Id, vb c_.Had, vs c_.Was.Id, vi c_.Was.Shape.Kind, .slice A3 n4 c5, .slice A8 n9 c10, vb c_.Has, vs c_.Now.Id, vi c_.Now.Shape.Kind, .slice A14 n15 c16, .slice A19 n20 c21]] w0 (fun v w' => ∃ (r0 : Bool), v = vb r0 ∧ Q r0 ∧ Gr w0 w' none) := by
  have H : (if c_.Had == c_.Has then impl_FeatSame.E c_.Was c_.Now (fun r => Q r) else Q false) := h
  clear h
  have hc0 := Ct.init hO
  refine Ret_enter Try.func77 rfl 15 rfl [.tmp 2] rfl rfl ?_
  refine W_seq ?_
  refine W_reg ?_
  refine L_box [vs c_.Id, vb c_.Had, vs c_.Was.Id, vi c_.Was.Shape.Kind, .slice A3 n4 c5, .slice A8 n9 c10, vb c_.Has, vs c_.Now.Id, vi c_.Now.Shape.Kind, .slice A14 n15 c16, .slice A19 n20 c21] rfl fun w24 b25 hl27 hu28 g26 hx29 => ?_
  have h31 := Fb.mk hc0.ok hl27 hx29
  have hc32 := hc0.k0 g26
  refine L_pu (P_assign (vb false) rfl) ?_
  refine L_nil ?_
  refine W_seq ?_
  refine W_reg ?_
  refine L_pu (P_fa fa103_1 ⟨b25, 0, none⟩ ⟨b25, 1, none⟩ rfl rfl) ?_
  refine L_pu (P_ld ag4 cL ⟨b25, 1, none⟩ (vb c_.Had) rfl (h31.cell rfl)) ?_
  refine L_pu (P_fa fa103_3 ⟨b25, 0, none⟩ ⟨b25, 6, none⟩ rfl rfl) ?_
  refine L_pu (P_ld ag4 cL ⟨b25, 6, none⟩ (vb c_.Has) rfl (h31.cell rfl)) ?_
  refine L_pu (P_bcmp Try.underlying4 c_.Had c_.Has (c_.Had == c_.Has) rfl rfl rfl) ?_
  refine L_pu (P_move (vb (c_.Had == c_.Has)) rfl) ?_
  rcases bool_or (c_.Had == c_.Has) with hq33 | hq33
  · have H := ite_t H hq33
    refine L_run (dj := 8) rfl rfl (by exact congrArg Value.bool hq33) ?_
    refine L_pu (P_fa fa103_2 ⟨b25, 0, none⟩ ⟨b25, 2, none⟩ rfl rfl) ?_
    refine L_run (dj := 8) rfl rfl (by exact congrArg Value.bool hq33) ?_
    refine L_pu (P_lda ag71 sz71 cL ⟨b25, 2, none⟩ [vs c_.Was.Id, vi c_.Was.Shape.Kind, .slice A3 n4 c5, .slice A8 n9 c10] rfl rfl (h31.cells (off := 2) rfl)) ?_
    refine L_run (dj := 8) rfl rfl (by exact congrArg Value.bool hq33) ?_
    refine L_pu (P_fa fa103_4 ⟨b25, 0, none⟩ ⟨b25, 7, none⟩ rfl rfl) ?_
    refine L_run (dj := 8) rfl rfl (by exact congrArg Value.bool hq33) ?_
    refine L_pu (P_lda ag71 sz71 cL ⟨b25, 7, none⟩ [vs c_.Now.Id, vi c_.Now.Shape.Kind, .slice A14 n15 c16, .slice A19 n20 c21] rfl rfl (h31.cells (off := 7) rfl)) ?_
    refine L_run (dj := 8) rfl rfl (by exact congrArg Value.bool hq33) ?_
    refine L_call go86 [.agg #[vs c_.Was.Id, vi c_.Was.Shape.Kind, .slice A3 n4 c5, .slice A8 n9 c10], .agg #[vs c_.Now.Id, vi c_.Now.Shape.Kind, .slice A14 n15 c16, .slice A19 n20 c21]] rfl ((impl_FeatSame.calls w24 hc32.ok c_.Was A3 n4 c5 A8 n9 c10 hs2 (hp6.st hc32.st) (hp11.st hc32.st) c_.Now A14 n15 c16 A19 n20 c21 hs13 (hp17.st hc32.st) (hp22.st hc32.st) _ H).mono ?_)
    rintro _ w34 ⟨r, rfl, H, g35⟩
    have hc39 := hc32.k0 g35
    refine L_pu (P_pick true (vb r) (by exact congrArg Value.bool hq33) rfl) ?_
    refine L_pu (P_assign (vb r) rfl) ?_
    refine L_nil ?_
    refine W_ret ?_
    exact ⟨[vb r], ⟨_, rfl, rfl⟩, r, rfl, H, hc39.gr.g0⟩
  · have H := ite_f H hq33
    refine L_pass (dj := 8) rfl rfl (.inl (by exact congrArg Value.bool hq33)) ?_
    refine L_pass (dj := 8) rfl rfl (.inl (by exact congrArg Value.bool hq33)) ?_
    refine L_pass (dj := 8) rfl rfl (.inl (by exact congrArg Value.bool hq33)) ?_
    refine L_pass (dj := 8) rfl rfl (.inl (by exact congrArg Value.bool hq33)) ?_
    refine L_pass (dj := 8) rfl rfl (.inl (by exact congrArg Value.bool hq33)) ?_
    refine L_pu (P_pick false (vb false) (by exact congrArg Value.bool hq33) rfl) ?_
    refine L_pu (P_assign (vb false) rfl) ?_
    refine L_nil ?_
    refine W_ret ?_
    exact ⟨[vb false], ⟨_, rfl, rfl⟩, false, rfl, H, hc32.gr.g0⟩
end Go.Proofs.Ytndjggncgpjolaa

namespace Go.Proofs.Ytndjggncgpjolaa
set_option linter.unusedVariables false
set_option linter.unusedSimpArgs false
set_option linter.unusedSectionVars false
theorem impl_Change_same.law (c : Change) (Q : Bool → Prop) (hb : bulk c ≤ 1048576) (hq : Q (sameC c)) : impl_Change_same.E c Q := by
  unfold impl_Change_same.E
  unfold sameC at hq
  have b1 : bulk c = bulk c.Id + bulk c.Had + bulk c.Was + bulk c.Has + bulk c.Now := rfl
  have b2 : bulk c.Was = bulk c.Was.Id + bulk c.Was.Shape + bulk c.Was.Tags := rfl
  have b3 : bulk c.Was.Shape = bulk c.Was.Shape.Kind + bulk c.Was.Shape.Pts := rfl
  have l1 := bulk_len c.Was.Tags; have l2 := bulk_len c.Was.Shape.Pts
  by_cases h : c.Had = c.Has
  · rw [if_pos (by rw [beq_iff_eq]; exact h)]
    rw [decide_eq_true h, Bool.true_and] at hq
    exact impl_FeatSame.law _ _ _ (by omega) hq
  · rw [if_neg (by rw [beq_iff_eq]; exact h)]
    rw [decide_eq_false h] at hq; exact hq
end Go.Proofs.Ytndjggncgpjolaa

namespace Go.Proofs.Ytndjggncgpjolaa
open Go.RowKit
set_option linter.unusedVariables false
def impl_DiffOk.E (d : List Change) (Q : Bool → Prop) : Prop :=
  (∃ (I19 : Int → Prop) (mu20 : Int → Nat), I19 0 ∧ ∀ (v2 : Int), I19 v2 → (if decide (v2 < (d.length : Int)) then ((0 : Int) ≤ v2 ∧ v2 < (d.length : Int)) ∧ (∃ q : Bool, impl_WordOk.E ((nth d v2).Id) (fun x => x = q) ∧ (if !q then Q false else (if decide (v2 > 0) then (I64 (v2 - 1)) ∧ ((0 : Int) ≤ v2 - 1 ∧ v2 - 1 < (d.length : Int)) ∧ (if !(Op.bytesLess ((nth d (v2 - 1)).Id) ((nth d v2).Id)) then Q false else (∃ q2 : Bool, impl_sideOk.E ((nth d v2).Id) ((nth d v2).Had) ((nth d v2).Was) (fun x => x = q2) ∧ (if !q2 then Q false else (∃ q3 : Bool, impl_sideOk.E ((nth d v2).Id) ((nth d v2).Has) ((nth d v2).Now) (fun x => x = q3) ∧ (if !q3 then Q false else (∃ q4 : Bool, impl_Change_same.E (nth d v2) (fun x => x = q4) ∧ (if q4 then Q false else (I64 (v2 + 1)) ∧ I19 (v2 + 1) ∧ mu20 (v2 + 1) < mu20 v2))))))) else (∃ q5 : Bool, impl_sideOk.E ((nth d v2).Id) ((nth d v2).Had) ((nth d v2).Was) (fun x => x = q5) ∧ (if !q5 then Q false else (∃ q6 : Bool, impl_sideOk.E ((nth d v2).Id) ((nth d v2).Has) ((nth d v2).Now) (fun x => x = q6) ∧ (if !q6 then Q false else (∃ q7 : Bool, impl_Change_same.E (nth d v2) (fun x => x = q7) ∧ (if q7 then Q false else (I64 (v2 + 1)) ∧ I19 (v2 + 1) ∧ mu20 (v2 + 1) < mu20 v2))))))))) else Q (decide ((d.length : Int) ≤ 16))))
set_option maxHeartbeats 8000000 in
set_option maxRecDepth 100000 in
theorem impl_DiffOk.calls {O : Ob} (w0 : World) (hO : Ok w0 O) (d : List Change) (A1 : Option Addr) (n2 c3 : Nat) (hp4 : Sl kChange w0 (Fr O) (.slice A1 n2 c3) d) (Q : Bool → Prop) (h : impl_DiffOk.E d Q) :
    Ret Try.prog 64 [.slice A1 n2 c3] w0 (fun v w' => ∃ (r0 : Bool), v = vb r0 ∧ Q r0 ∧ Gr w0 w' none) := by
  have H : (∃ (I19 : Int → Prop) (mu20 : Int → Nat), I19 0 ∧ ∀ (v2 : Int), I19 v2 → (if decide (v2 < (d.length : Int)) then ((0 : Int) ≤ v2 ∧ v2 < (d.length : Int)) ∧ (∃ q : Bool, impl_WordOk.E ((nth d v2).Id) (fun x => x = q) ∧ (if !q then Q false else (if decide (v2 > 0) then (I64 (v2 - 1)) ∧ ((0 : Int) ≤ v2 - 1 ∧ v2 - 1 < (d.length : Int)) ∧ (if !(Op.bytesLess ((nth d (v2 - 1)).Id) ((nth d v2).Id)) then Q false else (∃ q2 : Bool, impl_sideOk.E ((nth d v2).Id) ((nth d v2).Had) ((nth d v2).Was) (fun x => x = q2) ∧ (if !q2 then Q false else (∃ q3 : Bool, impl_sideOk.E ((nth d v2).Id) ((nth d v2).Has) ((nth d v2).Now) (fun x => x = q3) ∧ (if !q3 then Q false else (∃ q4 : Bool, impl_Change_same.E (nth d v2) (fun x => x = q4) ∧ (if q4 then Q false else (I64 (v2 + 1)) ∧ I19 (v2 + 1) ∧ mu20 (v2 + 1) < mu20 v2))))))) else (∃ q5 : Bool, impl_sideOk.E ((nth d v2).Id) ((nth d v2).Had) ((nth d v2).Was) (fun x => x = q5) ∧ (if !q5 then Q false else (∃ q6 : Bool, impl_sideOk.E ((nth d v2).Id) ((nth d v2).Has) ((nth d v2).Now) (fun x => x = q6) ∧ (if !q6 then Q false else (∃ q7 : Bool, impl_Change_same.E (nth d v2) (fun x => x = q7) ∧ (if q7 then Q false else (I64 (v2 + 1)) ∧ I19 (v2 + 1) ∧ mu20 (v2 + 1) < mu20 v2))))))))) else Q (decide ((d.length : Int) ≤ 16)))) := h
  clear h
  have hc0 := Ct.init hO
  refine Ret_enter Try.func64 rfl 59 rfl [.tmp 2] rfl rfl ?_
  refine W_seq ?_
  refine W_reg ?_
  refine L_pu (P_assign (vb false) rfl) ?_
  refine L_nil ?_
  refine W_seq ?_
  refine W_seq ?_
  refine W_reg ?_
  refine L_pu (P_move (.slice A1 n2 c3) rfl) ?_
  have hl6 := hp4.le
  refine L_pu (P_len Try.underlying43 A1 n2 c3 hp4.len rfl) ?_
  refine L_pu (P_move (vi 0) rfl) ?_
  refine L_nil ?_
  refine W_block ?_
  obtain ⟨I19, mu20, hI21, H⟩ := H
  refine W_loop (α := Int) (fun (sv__ : Int) t w15 => match sv__ with | v2 => I19 v2 ∧ Has t [(0, .slice A1 n2 c3), (5, .slice A1 n2 c3), (6, vi (d.length : Int)), (7, vi v2)] ∧ Ct [] w0 w15 [] O ∧ Sl kChange w15 (Fr ([] ++ O)) (.slice A1 n2 c3) d) (fun (sv__ : Int) => match sv__ with | v2 => mu20 v2) 0 ⟨hI21, ⟨rfl, rfl, rfl, rfl, trivial⟩, hc0, hp4⟩ ?_
  rintro v2 _ w15 ⟨hI21, hh23, hc17, h18⟩
  obtain ⟨u24, rfl⟩ := Has.ins hh23
  have H := H v2 hI21
  refine W_seq ?_
  refine W_reg ?_
  refine L_pu (P_cmp v2 (d.length : Int) (decide (v2 < (d.length : Int))) rfl rfl rfl) ?_
  refine L_nil ?_
  refine W_seq ?_
  refine W_cond (decide (v2 < (d.length : Int))) rfl (fun hq25 => ?_) (fun hq25 => ?_)
  · have H := ite_t H hq25
    refine W_skip ?_
    refine W_seq ?_
    refine W_block ?_
    refine W_seq ?_
    refine W_reg ?_
    refine L_pu (P_move (vi v2) rfl) ?_
    obtain ⟨hb26, H⟩ := H
    obtain ⟨ad27, cs28, hA29, hS32, hR30, hcl31⟩ := h18.get default (by decide) v2 hb26
    obtain ⟨A35, n36, c37, A40, n41, c42, A46, n47, c48, A51, n52, c53, rfl, hs33, hs34, h38, h43, hs45, h49, h54⟩ := kChange.op hR30
    refine L_pu (P_ia Try.underlying43 se43 A1 ad27 n2 c3 h18.len v2 rfl hA29 rfl hb26) ?_
    refine L_pu (P_lda ag103 sz103 cL (ad27.add (v2.toNat * 11)) [vs ((nth d v2).Id), vb ((nth d v2).Had), vs ((nth d v2).Was.Id), vi ((nth d v2).Was.Shape.Kind), .slice A35 n36 c37, .slice A40 n41 c42, vb ((nth d v2).Has), vs ((nth d v2).Now.Id), vi ((nth d v2).Now.Shape.Kind), .slice A46 n47 c48, .slice A51 n52 c53] rfl rfl hcl31) ?_
    refine L_alloc [vs [], vb false, vs [], .int .i64 0, .slice none 0 0, .slice none 0 0, vb false, vs [], .int .i64 0, .slice none 0 0, .slice none 0 0] ze103 fun w56 b57 hl59 hu60 g58 hx61 => ?_
    have hc63 := hc17.own g58 (some b57) (oglt hl59 hu60)
    refine L_pu (P_assign (vi v2) rfl) ?_
    refine L_stb b57 0 [vs ([] : Str), vb false, vs ([] : Str), vi 0, .slice none 0 0, .slice none 0 0, vb false, vs ([] : Str), vi 0, .slice none 0 0, .slice none 0 0] [vs ((nth d v2).Id), vb ((nth d v2).Had), vs ((nth d v2).Was.Id), vi ((nth d v2).Was.Shape.Kind), .slice A35 n36 c37, .slice A40 n41 c42, vb ((nth d v2).Has), vs ((nth d v2).Now.Id), vi ((nth d v2).Now.Shape.Kind), .slice A46 n47 c48, .slice A51 n52 c53] [vs ((nth d v2).Id), vb ((nth d v2).Had), vs ((nth d v2).Was.Id), vi ((nth d v2).Was.Shape.Kind), .slice A35 n36 c37, .slice A40 n41 c42, vb ((nth d v2).Has), vs ((nth d v2).Now.Id), vi ((nth d v2).Now.Shape.Kind), .slice A46 n47 c48, .slice A51 n52 c53] rfl hx61 rfl sz103 rfl rfl rfl fun w64 g65 hx66 => ?_
    have hc67 := hc63.wr 0 rfl g65
    refine L_nil ?_
    refine W_seq ?_
    refine W_draw (fun x => Gr w64 x none) (by kernel_rfl) (by kernel_rfl) (Gr.drew _) ?_
    refine Q_pu (P_fa fa103_0 ⟨b57, 0, none⟩ ⟨b57, 0, none⟩ rfl rfl) ?_
    refine Q_pu (P_ld ag9 cQ ⟨b57, 0, none⟩ (vs ((nth d v2).Id)) rfl (hx66.cell rfl)) ?_
    obtain ⟨q, hE73, H⟩ := H
    refine Q_call go53 [vs ((nth d v2).Id)] rfl (vb q) (fun w g => (impl_WordOk.calls w (hc67.k0 g).ok ((nth d v2).Id) hs33 _ hE73).mono ?_) ?_
    · rintro _ w ⟨r, rfl, rfl, g2⟩
      exact ⟨rfl, Gr.t0 g g2⟩
    refine Q_pu (P_not q rfl) ?_
    refine Q_pu (P_move (vb (!q)) rfl) ?_
    rcases bool_or (!q) with hq75 | hq75
    · have H := ite_t H hq75
      refine Q_pass (dj := 16) rfl rfl (.inl (by exact congrArg Value.bool hq75)) ?_
      refine Q_pass (dj := 16) rfl rfl (.inl (by exact congrArg Value.bool hq75)) ?_
      refine Q_pass (dj := 16) rfl rfl (.inl (by exact congrArg Value.bool hq75)) ?_
      refine Q_pass (dj := 19) rfl rfl (.inr rfl) ?_
      refine Q_pass (dj := 19) rfl rfl (.inr rfl) ?_
      refine Q_pass (dj := 19) rfl rfl (.inr rfl) ?_
      refine Q_pass (dj := 19) rfl rfl (.inr rfl) ?_
      refine Q_pass (dj := 19) rfl rfl (.inr rfl) ?_
      refine Q_pass (dj := 19) rfl rfl (.inr rfl) ?_
      refine Q_pass (dj := 19) rfl rfl (.inr rfl) ?_
      refine Q_pass (dj := 19) rfl rfl (.inr rfl) ?_
      refine Q_pass (dj := 19) rfl rfl (.inr rfl) ?_
      refine Q_pass (dj := 16) rfl rfl (.inl (by exact congrArg Value.bool hq75)) ?_
      refine Q_pu (P_pick true (vb true) (by exact congrArg Value.bool hq75) rfl) ?_
      refine Q_pu (P_move (vb true) rfl) ?_
      refine Q_pass (dj := 31) rfl rfl (.inl rfl) ?_
      refine Q_pass (dj := 31) rfl rfl (.inl rfl) ?_
      refine Q_pass (dj := 31) rfl rfl (.inl rfl) ?_
      refine Q_pass (dj := 31) rfl rfl (.inl rfl) ?_
      refine Q_pass (dj := 31) rfl rfl (.inl rfl) ?_
      refine Q_pass (dj := 31) rfl rfl (.inl rfl) ?_
      refine Q_pass (dj := 31) rfl rfl (.inl rfl) ?_
      refine Q_pass (dj := 31) rfl rfl (.inl rfl) ?_
      refine Q_pu (P_pick true (vb true) (by exact congrArg Value.bool rfl) rfl) ?_
      refine Q_pu (P_move (vb true) rfl) ?_
      refine Q_pass (dj := 41) rfl rfl (.inl rfl) ?_
      refine Q_pass (dj := 41) rfl rfl (.inl rfl) ?_
      refine Q_pass (dj := 41) rfl rfl (.inl rfl) ?_
      refine Q_pass (dj := 41) rfl rfl (.inl rfl) ?_
      refine Q_pass (dj := 41) rfl rfl (.inl rfl) ?_
      refine Q_pass (dj := 41) rfl rfl (.inl rfl) ?_
      refine Q_pass (dj := 41) rfl rfl (.inl rfl) ?_
      refine Q_pass (dj := 41) rfl rfl (.inl rfl) ?_
      refine Q_pu (P_pick true (vb true) (by exact congrArg Value.bool rfl) rfl) ?_
      refine Q_pu (P_move (vb true) rfl) ?_
      refine Q_pass (dj := 51) rfl rfl (.inl rfl) ?_
      refine Q_pass (dj := 51) rfl rfl (.inl rfl) ?_
      refine Q_pu (P_pick true (vb true) (by exact congrArg Value.bool rfl) rfl) ?_
      refine Q_nil fun w76 g77 => ?_
      have hc79 := hc67.k0 g77
      refine W_ct (b := true) rfl rfl ?_
      refine W_seq ?_
      refine W_reg ?_
      refine L_pu (P_assign (vb false) rfl) ?_
      refine L_nil ?_
      refine W_ret ?_
      have hc80 := hc79.drop 0 rfl
      exact ⟨[vb false], ⟨_, rfl, rfl⟩, false, rfl, H, hc80.gr.g0⟩
    · have H := ite_f H hq75
      refine Q_run (dj := 16) rfl rfl (by exact congrArg Value.bool hq75) ?_
      refine Q_pu (P_move (vi v2) rfl) ?_
      refine Q_run (dj := 16) rfl rfl (by exact congrArg Value.bool hq75) ?_
      refine Q_pu (P_cmp v2 0 (decide (v2 > 0)) rfl rfl rfl) ?_
      refine Q_run (dj := 16) rfl rfl (by exact congrArg Value.bool hq75) ?_
      refine Q_pu (P_move (vb (decide (v2 > 0))) rfl) ?_
      rcases bool_or (decide (v2 > 0)) with hq81 | hq81
      · have H := ite_t H hq81
        refine Q_run (dj := 19) rfl rfl (by exact congrArg Value.bool hq81) ?_
        refine Q_pu (P_move (.slice A1 n2 c3) rfl) ?_
        refine Q_run (dj := 19) rfl rfl (by exact congrArg Value.bool hq81) ?_
        refine Q_pu (P_move (vi v2) rfl) ?_
        refine Q_run (dj := 19) rfl rfl (by exact congrArg Value.bool hq81) ?_
        obtain ⟨hb82, H⟩ := H
        refine Q_pu (P_sub v2 1 rfl rfl hb82) ?_
        refine Q_run (dj := 19) rfl rfl (by exact congrArg Value.bool hq81) ?_
        obtain ⟨hb83, H⟩ := H
        have h90 := ((h18.st (.own _ _ g58 (oge hl59))).st (.wl (L := [some b57]) (O := O) (j := 0) rfl g65))
        obtain ⟨ad84, cs85, hA86, hS89, hR87, hcl88⟩ := h90.get default (by decide) (v2 - 1) hb83
        obtain ⟨A93, n94, c95, A98, n99, c100, A104, n105, c106, A109, n110, c111, rfl, hs91, hs92, h96, h101, hs103, h107, h112⟩ := kChange.op hR87
        refine Q_pu (P_ia Try.underlying43 se43 A1 ad84 n2 c3 h90.len (v2 - 1) rfl hA86 rfl hb83) ?_
        refine Q_run (dj := 19) rfl rfl (by exact congrArg Value.bool hq81) ?_
        refine Q_pu (P_fa fa103_0 (ad84.add ((v2 - 1).toNat * 11)) ((ad84.add ((v2 - 1).toNat * 11)).add 0) rfl rfl) ?_
        refine Q_run (dj := 19) rfl rfl (by exact congrArg Value.bool hq81) ?_
        refine Q_pu (P_ld ag9 cQ ((ad84.add ((v2 - 1).toNat * 11)).add 0) (vs ((nth d (v2 - 1)).Id)) rfl (hcl88 0 _ rfl)) ?_
        refine Q_run (dj := 19) rfl rfl (by exact congrArg Value.bool hq81) ?_
        refine Q_pu (P_fa fa103_0 ⟨b57, 0, none⟩ ⟨b57, 0, none⟩ rfl rfl) ?_
        refine Q_run (dj := 19) rfl rfl (by exact congrArg Value.bool hq81) ?_
        refine Q_pu (P_ld ag9 cQ ⟨b57, 0, none⟩ (vs ((nth d v2).Id)) rfl (hx66.cell rfl)) ?_
        refine Q_run (dj := 19) rfl rfl (by exact congrArg Value.bool hq81) ?_
        refine Q_pu (P_scmp ((nth d (v2 - 1)).Id) ((nth d v2).Id) (!(Op.bytesLess ((nth d (v2 - 1)).Id) ((nth d v2).Id))) rfl rfl rfl) ?_
        refine Q_run (dj := 16) rfl rfl (by exact congrArg Value.bool hq75) ?_
        refine Q_pu (P_pick true (vb (!(Op.bytesLess ((nth d (v2 - 1)).Id) ((nth d v2).Id)))) (by exact congrArg Value.bool hq81) rfl) ?_
        refine Q_pu (P_pick false (vb (!(Op.bytesLess ((nth d (v2 - 1)).Id) ((nth d v2).Id)))) (by exact congrArg Value.bool hq75) rfl) ?_
        refine Q_pu (P_move (vb (!(Op.bytesLess ((nth d (v2 - 1)).Id) ((nth d v2).Id)))) rfl) ?_
        rcases bool_or (!(Op.bytesLess ((nth d (v2 - 1)).Id) ((nth d v2).Id))) with hq114 | hq114
        · have H := ite_t H hq114
          refine Q_pass (dj := 31) rfl rfl (.inl (by exact congrArg Value.bool hq114)) ?_
          refine Q_pass (dj := 31) rfl rfl (.inl (by exact congrArg Value.bool hq114)) ?_
          refine Q_pass (dj := 31) rfl rfl (.inl (by exact congrArg Value.bool hq114)) ?_
          refine Q_pass (dj := 31) rfl rfl (.inl (by exact congrArg Value.bool hq114)) ?_
          refine Q_pass (dj := 31) rfl rfl (.inl (by exact congrArg Value.bool hq114)) ?_
          refine Q_pass (dj := 31) rfl rfl (.inl (by exact congrArg Value.bool hq114)) ?_
          refine Q_pass (dj := 31) rfl rfl (.inl (by exact congrArg Value.bool hq114)) ?_
          refine Q_pass (dj := 31) rfl rfl (.inl (by exact congrArg Value.bool hq114)) ?_
          refine Q_pu (P_pick true (vb true) (by exact congrArg Value.bool hq114) rfl) ?_
          refine Q_pu (P_move (vb true) rfl) ?_
          refine Q_pass (dj := 41) rfl rfl (.inl rfl) ?_
          refine Q_pass (dj := 41) rfl rfl (.inl rfl) ?_
          refine Q_pass (dj := 41) rfl rfl (.inl rfl) ?_
          refine Q_pass (dj := 41) rfl rfl (.inl rfl) ?_
          refine Q_pass (dj := 41) rfl rfl (.inl rfl) ?_
          refine Q_pass (dj := 41) rfl rfl (.inl rfl) ?_
          refine Q_pass (dj := 41) rfl rfl (.inl rfl) ?_
          refine Q_pass (dj := 41) rfl rfl (.inl rfl) ?_
          refine Q_pu (P_pick true (vb true) (by exact congrArg Value.bool rfl) rfl) ?_
          refine Q_pu (P_move (vb true) rfl) ?_
          refine Q_pass (dj := 51) rfl rfl (.inl rfl) ?_
          refine Q_pass (dj := 51) rfl rfl (.inl rfl) ?_
          refine Q_pu (P_pick true (vb true) (by exact congrArg Value.bool rfl) rfl) ?_
          refine Q_nil fun w115 g116 => ?_
          have hc118 := hc67.k0 g116
          refine W_ct (b := true) rfl rfl ?_
          refine W_seq ?_
          refine W_reg ?_
          refine L_pu (P_assign (vb false) rfl) ?_
          refine L_nil ?_
          refine W_ret ?_
          have hc119 := hc118.drop 0 rfl
          exact ⟨[vb false], ⟨_, rfl, rfl⟩, false, rfl, H, hc119.gr.g0⟩
        · have H := ite_f H hq114
          refine Q_run (dj := 31) rfl rfl (by exact congrArg Value.bool hq114) ?_
          refine Q_pu (P_fa fa103_0 ⟨b57, 0, none⟩ ⟨b57, 0, none⟩ rfl rfl) ?_
          refine Q_run (dj := 31) rfl rfl (by exact congrArg Value.bool hq114) ?_
          refine Q_pu (P_ld ag9 cQ ⟨b57, 0, none⟩ (vs ((nth d v2).Id)) rfl (hx66.cell rfl)) ?_
          refine Q_run (dj := 31) rfl rfl (by exact congrArg Value.bool hq114) ?_
          refine Q_pu (P_fa fa103_1 ⟨b57, 0, none⟩ ⟨b57, 1, none⟩ rfl rfl) ?_
          refine Q_run (dj := 31) rfl rfl (by exact congrArg Value.bool hq114) ?_
          refine Q_pu (P_ld ag4 cQ ⟨b57, 1, none⟩ (vb ((nth d v2).Had)) rfl (hx66.cell rfl)) ?_
          refine Q_run (dj := 31) rfl rfl (by exact congrArg Value.bool hq114) ?_
          refine Q_pu (P_fa fa103_2 ⟨b57, 0, none⟩ ⟨b57, 2, none⟩ rfl rfl) ?_
          refine Q_run (dj := 31) rfl rfl (by exact congrArg Value.bool hq114) ?_
          refine Q_pu (P_lda ag71 sz71 cQ ⟨b57, 2, none⟩ [vs ((nth d v2).Was.Id), vi ((nth d v2).Was.Shape.Kind), .slice A35 n36 c37, .slice A40 n41 c42] rfl rfl (hx66.cells (off := 2) rfl)) ?_
          refine Q_run (dj := 31) rfl rfl (by exact congrArg Value.bool hq114) ?_
          have h120 := ((h38.st (.own _ _ g58 (oge hl59))).st (.wl (L := [some b57]) (O := O) (j := 0) rfl g65))
          have h121 := ((h43.st (.own _ _ g58 (oge hl59))).st (.wl (L := [some b57]) (O := O) (j := 0) rfl g65))
          obtain ⟨q2, hE127, H⟩ := H
          refine Q_call go119 [vs ((nth d v2).Id), vb ((nth d v2).Had), .agg #[vs ((nth d v2).Was.Id), vi ((nth d v2).Was.Shape.Kind), .slice A35 n36 c37, .slice A40 n41 c42]] rfl (vb q2) (fun w g => (impl_sideOk.calls w (hc67.k0 g).ok ((nth d v2).Id) hs33 ((nth d v2).Had) ((nth d v2).Was) A35 n36 c37 A40 n41 c42 hs34 (h120.st (.new _ g)) (h121.st (.new _ g)) _ hE127).mono ?_) ?_
          · rintro _ w ⟨r, rfl, rfl, g2⟩
            exact ⟨rfl, Gr.t0 g g2⟩
          refine Q_run (dj := 31) rfl rfl (by exact congrArg Value.bool hq114) ?_
          refine Q_pu (P_not q2 rfl) ?_
          refine Q_pu (P_pick false (vb (!q2)) (by exact congrArg Value.bool hq114) rfl) ?_
          refine Q_pu (P_move (vb (!q2)) rfl) ?_
          rcases bool_or (!q2) with hq129 | hq129
          · have H := ite_t H hq129
            refine Q_pass (dj := 41) rfl rfl (.inl (by exact congrArg Value.bool hq129)) ?_
            refine Q_pass (dj := 41) rfl rfl (.inl (by exact congrArg Value.bool hq129)) ?_
            refine Q_pass (dj := 41) rfl rfl (.inl (by exact congrArg Value.bool hq129)) ?_
            refine Q_pass (dj := 41) rfl rfl (.inl (by exact congrArg Value.bool hq129)) ?_
            refine Q_pass (dj := 41) rfl rfl (.inl (by exact congrArg Value.bool hq129)) ?_
            refine Q_pass (dj := 41) rfl rfl (.inl (by exact congrArg Value.bool hq129)) ?_
            refine Q_pass (dj := 41) rfl rfl (.inl (by exact congrArg Value.bool hq129)) ?_
            refine Q_pass (dj := 41) rfl rfl (.inl (by exact congrArg Value.bool hq129)) ?_
            refine Q_pu (P_pick true (vb true) (by exact congrArg Value.bool hq129) rfl) ?_
            refine Q_pu (P_move (vb true) rfl) ?_
            refine Q_pass (dj := 51) rfl rfl (.inl rfl) ?_
            refine Q_pass (dj := 51) rfl rfl (.inl rfl) ?_
            refine Q_pu (P_pick true (vb true) (by exact congrArg Value.bool rfl) rfl) ?_
            refine Q_nil fun w130 g131 => ?_
            have hc133 := hc67.k0 g131
            refine W_ct (b := true) rfl rfl ?_
            refine W_seq ?_
            refine W_reg ?_
            refine L_pu (P_assign (vb false) rfl) ?_
            refine L_nil ?_
            refine W_ret ?_
            have hc134 := hc133.drop 0 rfl
            exact ⟨[vb false], ⟨_, rfl, rfl⟩, false, rfl, H, hc134.gr.g0⟩
          · have H := ite_f H hq129
            refine Q_run (dj := 41) rfl rfl (by exact congrArg Value.bool hq129) ?_
            refine Q_pu (P_fa fa103_0 ⟨b57, 0, none⟩ ⟨b57, 0, none⟩ rfl rfl) ?_
            refine Q_run (dj := 41) rfl rfl (by exact congrArg Value.bool hq129) ?_
            refine Q_pu (P_ld ag9 cQ ⟨b57, 0, none⟩ (vs ((nth d v2).Id)) rfl (hx66.cell rfl)) ?_
            refine Q_run (dj := 41) rfl rfl (by exact congrArg Value.bool hq129) ?_
            refine Q_pu (P_fa fa103_3 ⟨b57, 0, none⟩ ⟨b57, 6, none⟩ rfl rfl) ?_
            refine Q_run (dj := 41) rfl rfl (by exact congrArg Value.bool hq129) ?_
            refine Q_pu (P_ld ag4 cQ ⟨b57, 6, none⟩ (vb ((nth d v2).Has)) rfl (hx66.cell rfl)) ?_
            refine Q_run (dj := 41) rfl rfl (by exact congrArg Value.bool hq129) ?_
            refine Q_pu (P_fa fa103_4 ⟨b57, 0, none⟩ ⟨b57, 7, none⟩ rfl rfl) ?_
            refine Q_run (dj := 41) rfl rfl (by exact congrArg Value.bool hq129) ?_
            refine Q_pu (P_lda ag71 sz71 cQ ⟨b57, 7, none⟩ [vs ((nth d v2).Now.Id), vi ((nth d v2).Now.Shape.Kind), .slice A46 n47 c48, .slice A51 n52 c53] rfl rfl (hx66.cells (off := 7) rfl)) ?_
            refine Q_run (dj := 41) rfl rfl (by exact congrArg Value.bool hq129) ?_
            have h135 := ((h49.st (.own _ _ g58 (oge hl59))).st (.wl (L := [some b57]) (O := O) (j := 0) rfl g65))
            have h136 := ((h54.st (.own _ _ g58 (oge hl59))).st (.wl (L := [some b57]) (O := O) (j := 0) rfl g65))
            obtain ⟨q3, hE142, H⟩ := H
            refine Q_call go119 [vs ((nth d v2).Id), vb ((nth d v2).Has), .agg #[vs ((nth d v2).Now.Id), vi ((nth d v2).Now.Shape.Kind), .slice A46 n47 c48, .slice A51 n52 c53]] rfl (vb q3) (fun w g => (impl_sideOk.calls w (hc67.k0 g).ok ((nth d v2).Id) hs33 ((nth d v2).Has) ((nth d v2).Now) A46 n47 c48 A51 n52 c53 hs45 (h135.st (.new _ g)) (h136.st (.new _ g)) _ hE142).mono ?_) ?_
            · rintro _ w ⟨r, rfl, rfl, g2⟩
              exact ⟨rfl, Gr.t0 g g2⟩
            refine Q_run (dj := 41) rfl rfl (by exact congrArg Value.bool hq129) ?_
            refine Q_pu (P_not q3 rfl) ?_
            refine Q_pu (P_pick false (vb (!q3)) (by exact congrArg Value.bool hq129) rfl) ?_
            refine Q_pu (P_move (vb (!q3)) rfl) ?_
            rcases bool_or (!q3) with hq144 | hq144
            · have H := ite_t H hq144
              refine Q_pass (dj := 51) rfl rfl (.inl (by exact congrArg Value.bool hq144)) ?_
              refine Q_pass (dj := 51) rfl rfl (.inl (by exact congrArg Value.bool hq144)) ?_
              refine Q_pu (P_pick true (vb true) (by exact congrArg Value.bool hq144) rfl) ?_
              refine Q_nil fun w145 g146 => ?_
              have hc148 := hc67.k0 g146
              refine W_ct (b := true) rfl rfl ?_
              refine W_seq ?_
              refine W_reg ?_
              refine L_pu (P_assign (vb false) rfl) ?_
              refine L_nil ?_
              refine W_ret ?_
              have hc149 := hc148.drop 0 rfl
              exact ⟨[vb false], ⟨_, rfl, rfl⟩, false, rfl, H, hc149.gr.g0⟩
            · have H := ite_f H hq144
              refine Q_run (dj := 51) rfl rfl (by exact congrArg Value.bool hq144) ?_
              refine Q_pu (P_lda ag103 sz103 cQ ⟨b57, 0, none⟩ [vs ((nth d v2).Id), vb ((nth d v2).Had), vs ((nth d v2).Was.Id), vi ((nth d v2).Was.Shape.Kind), .slice A35 n36 c37, .slice A40 n41 c42, vb ((nth d v2).Has), vs ((nth d v2).Now.Id), vi ((nth d v2).Now.Shape.Kind), .slice A46 n47 c48, .slice A51 n52 c53] rfl rfl (hx66.cells (off := 0) rfl)) ?_
              refine Q_run (dj := 51) rfl rfl (by exact congrArg Value.bool hq144) ?_
              obtain ⟨q4, hE155, H⟩ := H
              refine Q_call go77 [.agg #[vs ((nth d v2).Id), vb ((nth d v2).Had), vs ((nth d v2).Was.Id), vi ((nth d v2).Was.Shape.Kind), .slice A35 n36 c37, .slice A40 n41 c42, vb ((nth d v2).Has), vs ((nth d v2).Now.Id), vi ((nth d v2).Now.Shape.Kind), .slice A46 n47 c48, .slice A51 n52 c53]] rfl (vb q4) (fun w g => (impl_Change_same.calls w (hc67.k0 g).ok (nth d v2) A35 n36 c37 A40 n41 c42 A46 n47 c48 A51 n52 c53 hs33 hs34 (h120.st (.new _ g)) (h121.st (.new _ g)) hs45 (h135.st (.new _ g)) (h136.st (.new _ g)) _ hE155).mono ?_) ?_
              · rintro _ w ⟨r, rfl, rfl, g2⟩
                exact ⟨rfl, Gr.t0 g g2⟩
              refine Q_pu (P_pick false (vb q4) (by exact congrArg Value.bool hq144) rfl) ?_
              refine Q_nil fun w157 g158 => ?_
              have hc160 := hc67.k0 g158
              refine W_cond q4 rfl (fun hq161 => ?_) (fun hq161 => ?_)
              · have H := ite_t H hq161
                refine W_seq ?_
                refine W_reg ?_
                refine L_pu (P_assign (vb false) rfl) ?_
                refine L_nil ?_
                refine W_ret ?_
                have hc162 := hc160.drop 0 rfl
                exact ⟨[vb false], ⟨_, rfl, rfl⟩, false, rfl, H, hc162.gr.g0⟩
              · have H := ite_f H hq161
                refine W_skip ?_
                refine W_reg ?_
                obtain ⟨hb163, H⟩ := H
                refine L_pu (P_add v2 1 rfl rfl hb163) ?_
                refine L_pu (P_move (vi (v2 + 1)) rfl) ?_
                refine L_nil ?_
                have hc164 := hc160.drop 0 rfl
                obtain ⟨hI165, hm166⟩ := H
                have h167 := ((h90.st (.new _ g158)).st (.dr _ (L := [some b57]) (O := O) (j := 0) rfl))
                exact ⟨v2 + 1, hm166, hI165, ⟨rfl, rfl, rfl, rfl, trivial⟩, hc164, h167⟩
      · have H := ite_f H hq81
        refine Q_pass (dj := 19) rfl rfl (.inl (by exact congrArg Value.bool hq81)) ?_
        refine Q_pass (dj := 19) rfl rfl (.inl (by exact congrArg Value.bool hq81)) ?_
        refine Q_pass (dj := 19) rfl rfl (.inl (by exact congrArg Value.bool hq81)) ?_
        refine Q_pass (dj := 19) rfl rfl (.inl (by exact congrArg Value.bool hq81)) ?_
        refine Q_pass (dj := 19) rfl rfl (.inl (by exact congrArg Value.bool hq81)) ?_
        refine Q_pass (dj := 19) rfl rfl (.inl (by exact congrArg Value.bool hq81)) ?_
        refine Q_pass (dj := 19) rfl rfl (.inl (by exact congrArg Value.bool hq81)) ?_
        refine Q_pass (dj := 19) rfl rfl (.inl (by exact congrArg Value.bool hq81)) ?_
        refine Q_pass (dj := 19) rfl rfl (.inl (by exact congrArg Value.bool hq81)) ?_
        refine Q_run (dj := 16) rfl rfl (by exact congrArg Value.bool hq75) ?_
        refine Q_pu (P_pick false (vb false) (by exact congrArg Value.bool hq81) rfl) ?_
        refine Q_pu (P_pick false (vb false) (by exact congrArg Value.bool hq75) rfl) ?_
        refine Q_pu (P_move (vb false) rfl) ?_
        refine Q_run (dj := 31) rfl rfl rfl ?_
        refine Q_pu (P_fa fa103_0 ⟨b57, 0, none⟩ ⟨b57, 0, none⟩ rfl rfl) ?_
        refine Q_run (dj := 31) rfl rfl rfl ?_
        refine Q_pu (P_ld ag9 cQ ⟨b57, 0, none⟩ (vs ((nth d v2).Id)) rfl (hx66.cell rfl)) ?_
        refine Q_run (dj := 31) rfl rfl rfl ?_
        refine Q_pu (P_fa fa103_1 ⟨b57, 0, none⟩ ⟨b57, 1, none⟩ rfl rfl) ?_
        refine Q_run (dj := 31) rfl rfl rfl ?_
        refine Q_pu (P_ld ag4 cQ ⟨b57, 1, none⟩ (vb ((nth d v2).Had)) rfl (hx66.cell rfl)) ?_
        refine Q_run (dj := 31) rfl rfl rfl ?_
        refine Q_pu (P_fa fa103_2 ⟨b57, 0, none⟩ ⟨b57, 2, none⟩ rfl rfl) ?_
        refine Q_run (dj := 31) rfl rfl rfl ?_
        refine Q_pu (P_lda ag71 sz71 cQ ⟨b57, 2, none⟩ [vs ((nth d v2).Was.Id), vi ((nth d v2).Was.Shape.Kind), .slice A35 n36 c37, .slice A40 n41 c42] rfl rfl (hx66.cells (off := 2) rfl)) ?_
        refine Q_run (dj := 31) rfl rfl rfl ?_
        have h168 := ((h38.st (.own _ _ g58 (oge hl59))).st (.wl (L := [some b57]) (O := O) (j := 0) rfl g65))
        have h169 := ((h43.st (.own _ _ g58 (oge hl59))).st (.wl (L := [some b57]) (O := O) (j := 0) rfl g65))
        obtain ⟨q5, hE175, H⟩ := H
        refine Q_call go119 [vs ((nth d v2).Id), vb ((nth d v2).Had), .agg #[vs ((nth d v2).Was.Id), vi ((nth d v2).Was.Shape.Kind), .slice A35 n36 c37, .slice A40 n41 c42]] rfl (vb q5) (fun w g => (impl_sideOk.calls w (hc67.k0 g).ok ((nth d v2).Id) hs33 ((nth d v2).Had) ((nth d v2).Was) A35 n36 c37 A40 n41 c42 hs34 (h168.st (.new _ g)) (h169.st (.new _ g)) _ hE175).mono ?_) ?_
        · rintro _ w ⟨r, rfl, rfl, g2⟩
          exact ⟨rfl, Gr.t0 g g2⟩
        refine Q_run (dj := 31) rfl rfl rfl ?_
        refine Q_pu (P_not q5 rfl) ?_
        refine Q_pu (P_pick false (vb (!q5)) (by exact congrArg Value.bool rfl) rfl) ?_
        refine Q_pu (P_move (vb (!q5)) rfl) ?_
        rcases bool_or (!q5) with hq177 | hq177
        · have H := ite_t H hq177
          refine Q_pass (dj := 41) rfl rfl (.inl (by exact congrArg Value.bool hq177)) ?_
          refine Q_pass (dj := 41) rfl rfl (.inl (by exact congrArg Value.bool hq177)) ?_
          refine Q_pass (dj := 41) rfl rfl (.inl (by exact congrArg Value.bool hq177)) ?_
          refine Q_pass (dj := 41) rfl rfl (.inl (by exact congrArg Value.bool hq177)) ?_
          refine Q_pass (dj := 41) rfl rfl (.inl (by exact congrArg Value.bool hq177)) ?_
          refine Q_pass (dj := 41) rfl rfl (.inl (by exact congrArg Value.bool hq177)) ?_
          refine Q_pass (dj := 41) rfl rfl (.inl (by exact congrArg Value.bool hq177)) ?_
          refine Q_pass (dj := 41) rfl rfl (.inl (by exact congrArg Value.bool hq177)) ?_
          refine Q_pu (P_pick true (vb true) (by exact congrArg Value.bool hq177) rfl) ?_
          refine Q_pu (P_move (vb true) rfl) ?_
          refine Q_pass (dj := 51) rfl rfl (.inl rfl) ?_
          refine Q_pass (dj := 51) rfl rfl (.inl rfl) ?_
          refine Q_pu (P_pick true (vb true) (by exact congrArg Value.bool rfl) rfl) ?_
          refine Q_nil fun w178 g179 => ?_
          have hc181 := hc67.k0 g179
          refine W_ct (b := true) rfl rfl ?_
          refine W_seq ?_
          refine W_reg ?_
          refine L_pu (P_assign (vb false) rfl) ?_
          refine L_nil ?_
          refine W_ret ?_
          have hc182 := hc181.drop 0 rfl
          exact ⟨[vb false], ⟨_, rfl, rfl⟩, false, rfl, H, hc182.gr.g0⟩
        · have H := ite_f H hq177
          refine Q_run (dj := 41) rfl rfl (by exact congrArg Value.bool hq177) ?_
          refine Q_pu (P_fa fa103_0 ⟨b57, 0, none⟩ ⟨b57, 0, none⟩ rfl rfl) ?_
          refine Q_run (dj := 41) rfl rfl (by exact congrArg Value.bool hq177) ?_
          refine Q_pu (P_ld ag9 cQ ⟨b57, 0, none⟩ (vs ((nth d v2).Id)) rfl (hx66.cell rfl)) ?_
          refine Q_run (dj := 41) rfl rfl (by exact congrArg Value.bool hq177) ?_
          refine Q_pu (P_fa fa103_3 ⟨b57, 0, none⟩ ⟨b57, 6, none⟩ rfl rfl) ?_
          refine Q_run (dj := 41) rfl rfl (by exact congrArg Value.bool hq177) ?_
          refine Q_pu (P_ld ag4 cQ ⟨b57, 6, none⟩ (vb ((nth d v2).Has)) rfl (hx66.cell rfl)) ?_
          refine Q_run (dj := 41) rfl rfl (by exact congrArg Value.bool hq177) ?_
          refine Q_pu (P_fa fa103_4 ⟨b57, 0, none⟩ ⟨b57, 7, none⟩ rfl rfl) ?_
          refine Q_run (dj := 41) rfl rfl (by exact congrArg Value.bool hq177) ?_
          refine Q_pu (P_lda ag71 sz71 cQ ⟨b57, 7, none⟩ [vs ((nth d v2).Now.Id), vi ((nth d v2).Now.Shape.Kind), .slice A46 n47 c48, .slice A51 n52 c53] rfl rfl (hx66.cells (off := 7) rfl)) ?_
          refine Q_run (dj := 41) rfl rfl (by exact congrArg Value.bool hq177) ?_
          have h183 := ((h49.st (.own _ _ g58 (oge hl59))).st (.wl (L := [some b57]) (O := O) (j := 0) rfl g65))
          have h184 := ((h54.st (.own _ _ g58 (oge hl59))).st (.wl (L := [some b57]) (O := O) (j := 0) rfl g65))
          obtain ⟨q6, hE190, H⟩ := H
          refine Q_call go119 [vs ((nth d v2).Id), vb ((nth d v2).Has), .agg #[vs ((nth d v2).Now.Id), vi ((nth d v2).Now.Shape.Kind), .slice A46 n47 c48, .slice A51 n52 c53]] rfl (vb q6) (fun w g => (impl_sideOk.calls w (hc67.k0 g).ok ((nth d v2).Id) hs33 ((nth d v2).Has) ((nth d v2).Now) A46 n47 c48 A51 n52 c53 hs45 (h183.st (.new _ g)) (h184.st (.new _ g)) _ hE190).mono ?_) ?_
          · rintro _ w ⟨r, rfl, rfl, g2⟩
            exact ⟨rfl, Gr.t0 g g2⟩
          refine Q_run (dj := 41) rfl rfl (by exact congrArg Value.bool hq177) ?_
          refine Q_pu (P_not q6 rfl) ?_
          refine Q_pu (P_pick false (vb (!q6)) (by exact congrArg Value.bool hq177) rfl) ?_
          refine Q_pu (P_move (vb (!q6)) rfl) ?_
          rcases bool_or (!q6) with hq192 | hq192
          · have H := ite_t H hq192
            refine Q_pass (dj := 51) rfl rfl (.inl (by exact congrArg Value.bool hq192)) ?_
            refine Q_pass (dj := 51) rfl rfl (.inl (by exact congrArg Value.bool hq192)) ?_
            refine Q_pu (P_pick true (vb true) (by exact congrArg Value.bool hq192) rfl) ?_
            refine Q_nil fun w193 g194 => ?_
            have hc196 := hc67.k0 g194
            refine W_ct (b := true) rfl rfl ?_
            refine W_seq ?_
            refine W_reg ?_
            refine L_pu (P_assign (vb false) rfl) ?_
            refine L_nil ?_
            refine W_ret ?_
            have hc197 := hc196.drop 0 rfl
            exact ⟨[vb false], ⟨_, rfl, rfl⟩, false, rfl, H, hc197.gr.g0⟩
          · have H := ite_f H hq192
            refine Q_run (dj := 51) rfl rfl (by exact congrArg Value.bool hq192) ?_
            refine Q_pu (P_lda ag103 sz103 cQ ⟨b57, 0, none⟩ [vs ((nth d v2).Id), vb ((nth d v2).Had), vs ((nth d v2).Was.Id), vi ((nth d v2).Was.Shape.Kind), .slice A35 n36 c37, .slice A40 n41 c42, vb ((nth d v2).Has), vs ((nth d v2).Now.Id), vi ((nth d v2).Now.Shape.Kind), .slice A46 n47 c48, .slice A51 n52 c53] rfl rfl (hx66.cells (off := 0) rfl)) ?_
            refine Q_run (dj := 51) rfl rfl (by exact congrArg Value.bool hq192) ?_
            obtain ⟨q7, hE203, H⟩ := H
            refine Q_call go77 [.agg #[vs ((nth d v2).Id), vb ((nth d v2).Had), vs ((nth d v2).Was.Id), vi ((nth d v2).Was.Shape.Kind), .slice A35 n36 c37, .slice A40 n41 c42, vb ((nth d v2).Has), vs ((nth d v2).Now.Id), vi ((nth d v2).Now.Shape.Kind), .slice A46 n47 c48, .slice A51 n52 c53]] rfl (vb q7) (fun w g => (impl_Change_same.calls w (hc67.k0 g).ok (nth d v2) A35 n36 c37 A40 n41 c42 A46 n47 c48 A51 n52 c53 hs33 hs34 (h168.st (.new _ g)) (h169.st (.new _ g)) hs45 (h183.st (.new _ g)) (h184.st (.new _ g)) _ hE203).mono ?_) ?_
            · rintro _ w ⟨r, rfl, rfl, g2⟩
              exact ⟨rfl, Gr.t0 g g2⟩
            refine Q_pu (P_pick false (vb q7) (by exact congrArg Value.bool hq192) rfl) ?_
            refine Q_nil fun w205 g206 => ?_
            have hc208 := hc67.k0 g206
            refine W_cond q7 rfl (fun hq209 => ?_) (fun hq209 => ?_)
            · have H := ite_t H hq209
              refine W_seq ?_
              refine W_reg ?_
              refine L_pu (P_assign (vb false) rfl) ?_
              refine L_nil ?_
              refine W_ret ?_
              have hc210 := hc208.drop 0 rfl
              exact ⟨[vb false], ⟨_, rfl, rfl⟩, false, rfl, H, hc210.gr.g0⟩
            · have H := ite_f H hq209
              refine W_skip ?_
              refine W_reg ?_
              obtain ⟨hb211, H⟩ := H
              refine L_pu (P_add v2 1 rfl rfl hb211) ?_
              refine L_pu (P_move (vi (v2 + 1)) rfl) ?_
              refine L_nil ?_
              have hc212 := hc208.drop 0 rfl
              obtain ⟨hI213, hm214⟩ := H
              have h215 := ((((h18.st (.own _ _ g58 (oge hl59))).st (.wl (L := [some b57]) (O := O) (j := 0) rfl g65)).st (.new _ g206)).st (.dr _ (L := [some b57]) (O := O) (j := 0) rfl))
              exact ⟨v2 + 1, hm214, hI213, ⟨rfl, rfl, rfl, rfl, trivial⟩, hc212, h215⟩
  · have H := ite_f H hq25
    refine W_exit (xin_hit ?_)
    refine W_seq ?_
    refine W_reg ?_
    refine L_pu (P_move (.slice A1 n2 c3) rfl) ?_
    have hl216 := h18.le
    refine L_pu (P_len Try.underlying43 A1 n2 c3 h18.len rfl) ?_
    refine L_pu (P_cmp (d.length : Int) 16 (decide ((d.length : Int) ≤ 16)) rfl rfl rfl) ?_
    refine L_pu (P_assign (vb (decide ((d.length : Int) ≤ 16))) rfl) ?_
    refine L_nil ?_
    refine W_ret ?_
    exact ⟨[vb (decide ((d.length : Int) ≤ 16))], ⟨_, rfl, rfl⟩, decide ((d.length : Int) ≤ 16), rfl, H, hc17.gr.g0⟩
end Go.Proofs.Ytndjggncgpjolaa

namespace Go.Proofs.Ytndjggncgpjolaa
set_option linter.unusedVariables false
set_option linter.unusedSimpArgs false
set_option linter.unusedSectionVars false
theorem impl_DiffOk.law (d : List Change) (Q : Bool → Prop) (hb : bulk d ≤ 1048576) (hq : Q (diffOk d)) : impl_DiffOk.E d Q := by
  unfold impl_DiffOk.E
  unfold diffOk at hq
  have hl := bulk_len d
  refine loop_all d.length (fun k => changeOk (nth d (k : Int)) && (decide (k = 0) || Op.bytesLess (nth d ((k : Int) - 1)).Id (nth d (k : Int)).Id)) (fun I mu k hk hp hn => ?_) (fun ha => ?_)
  · have bad : (changeOk (nth d (k : Int)) && (decide (k = 0) || Op.bytesLess (nth d ((k : Int) - 1)).Id (nth d (k : Int)).Id)) = false → Q false := fun h => by
      rw [allN_false hk h, Bool.false_and] at hq; exact hq
    have m1 := bulk_mem (nth_mem d hk)
    have b1 : bulk (nth d (k : Int)) = bulk (nth d (k : Int)).Id + bulk (nth d (k : Int)).Had + bulk (nth d (k : Int)).Was + bulk (nth d (k : Int)).Has + bulk (nth d (k : Int)).Now := rfl
    have l1 := bulk_len (nth d (k : Int)).Id
    generalize hc : nth d (k : Int) = c at *
    refine ⟨by omega, _, impl_WordOk.law _ _ (by omega) rfl, ?_⟩
    have co : ∀ a b e g : Bool, wordOk c.Id = a → sideOk c.Id c.Had c.Was = b → sideOk c.Id c.Has c.Now = e → sameC c = g → changeOk c = (a && b && e && !g) := fun a b e g h1 h2 h3 h4 => by unfold changeOk; rw [h1, h2, h3, h4]
    have rest : wordOk c.Id = true → (decide (k = 0) || Op.bytesLess (nth d ((k : Int) - 1)).Id c.Id) = true →
        (∃ q : Bool, impl_sideOk.E c.Id c.Had c.Was (fun x => x = q) ∧ (if !q then Q false else (∃ q2 : Bool, impl_sideOk.E c.Id c.Has c.Now (fun x => x = q2) ∧ (if !q2 then Q false else (∃ q3 : Bool, impl_Change_same.E c (fun x => x = q3) ∧ (if q3 then Q false else (I64 ((k : Int) + 1)) ∧ I ((k : Int) + 1) ∧ mu ((k : Int) + 1) < mu (k : Int))))))) := fun h1 ho => by
      refine ⟨_, impl_sideOk.law _ _ _ _ (by omega) rfl, ?_⟩
      cases h2 : sideOk c.Id c.Had c.Was with
      | false => rw [if_pos (by decide)]; exact bad (by rw [co _ _ _ _ h1 h2 rfl rfl]; rfl)
      | true =>
        rw [if_neg (by decide)]
        refine ⟨_, impl_sideOk.law _ _ _ _ (by omega) rfl, ?_⟩
        cases h3 : sideOk c.Id c.Has c.Now with
        | false => rw [if_pos (by decide)]; exact bad (by rw [co _ _ _ _ h1 h2 h3 rfl]; rfl)
        | true =>
          rw [if_neg (by decide)]
          refine ⟨_, impl_Change_same.law _ _ (by omega) rfl, ?_⟩
          cases h4 : sameC c with
          | true => rw [if_pos rfl]; exact bad (by rw [co _ _ _ _ h1 h2 h3 h4]; rfl)
          | false =>
            rw [if_neg (by decide)]
            obtain ⟨i1, i2⟩ := hn (by rw [co _ _ _ _ h1 h2 h3 h4, ho]; rfl)
            exact ⟨by unfold I64; omega, i1, i2⟩
    cases h1 : wordOk c.Id with
    | false => rw [if_pos (by decide)]; exact bad (by rw [co _ _ _ _ h1 rfl rfl rfl]; rfl)
    | true =>
      rw [if_neg (by decide)]
      by_cases hk0 : k = 0
      · rw [if_neg (by rw [decide_eq_true_eq]; omega)]
        exact rest h1 (by rw [decide_eq_true hk0]; rfl)
      · rw [if_pos (by rw [decide_eq_true_eq]; omega)]
        refine ⟨by unfold I64; omega, by omega, ?_⟩
        cases h3 : Op.bytesLess (nth d ((k : Int) - 1)).Id c.Id with
        | false => rw [if_pos (by decide)]; exact bad (by rw [h3, decide_eq_false hk0]; simp)
        | true => rw [if_neg (by decide)]; exact rest h1 (by rw [h3, Bool.or_true])
  · rw [allN_true ha, Bool.true_and] at hq
    have e2 : decide ((d.length : Int) ≤ 16) = decide (d.length ≤ 16) := decide_eq_decide.2 (by omega)
    rw [e2]; exact hq
end Go.Proofs.Ytndjggncgpjolaa

namespace Go.Proofs.Ytndjggncgpjolaa
open Go.RowKit
set_option linter.unusedVariables false
def impl_cloneShape.E (s : Shape) (Q : Shape → Prop) : Prop :=
  (([] : List Pt).length + s.Pts.length ≤ 268435456) ∧ Q (⟨s.Kind, (([] : List Pt) ++ s.Pts)⟩ : Shape)
set_option maxHeartbeats 8000000 in
set_option maxRecDepth 100000 in
theorem impl_cloneShape.calls {O : Ob} (w0 : World) (hO : Ok w0 O) (s : Shape) (A1 : Option Addr) (n2 c3 : Nat) (hp4 : Sl kPt w0 (Fr O) (.slice A1 n2 c3) s.Pts) (Q : Shape → Prop) (h : impl_cloneShape.E s Q) :
    Ret Try.prog 97 [.agg #[vi s.Kind, .slice A1 n2 c3]] w0 (fun v w' => ∃ (r0 : Shape) (A0 : Option Addr) (n0 c0 : Nat), v = .agg #[vi r0.Kind, .slice A0 n0 c0] ∧ Q r0 ∧ Gr w0 w' none ∧ Ok w' ([blk (.slice A0 n0 c0)] ++ O) ∧ (∀ b, some b ∈ [blk (.slice A0 n0 c0)] → w0.heap.size ≤ b) ∧ Ow kPt 29 w' ([blk (.slice A0 n0 c0)] ++ O) (.slice A0 n0 c0) r0.Pts) := by
  have H : (([] : List Pt).length + s.Pts.length ≤ 268435456) ∧ Q (⟨s.Kind, (([] : List Pt) ++ s.Pts)⟩ : Shape) := h
  clear h
  have hc0 := Ct.init hO
  refine Ret_enter Try.func97 rfl 10 rfl [.cell 2 68] rfl rfl ?_
  refine W_seq ?_
  refine W_reg ?_
  refine L_box [vi s.Kind, .slice A1 n2 c3] rfl fun w6 b7 hl9 hu10 g8 hx11 => ?_
  have h13 := Fb.mk hc0.ok hl9 hx11
  have hc14 := hc0.k0 g8
  refine L_alloc [.int .i64 0, .slice none 0 0] ze68 fun w15 b16 hl18 hu19 g17 hx20 => ?_
  have hc22 := hc14.own g17 (some b16) (oglt hl18 hu19)
  refine L_nil ?_
  refine W_seq ?_
  refine W_mixr 8 [some b16] (by kernel_rfl) rfl fun w23 g24 hM25 => ?_
  have hc26 := hc22.k0 g24
  refine M_pu 0 rfl (by kernel_rfl) hM25 (P_fa fa68_0 ⟨b7, 0, none⟩ ⟨b7, 0, none⟩ rfl rfl) ?_
  have h27 := ((h13.st (.own _ _ g17 (oge hl18))).st (.new _ g24))
  refine M_pu 1 rfl (by kernel_rfl) hM25 (P_ldr ag3 cR ⟨b7, 0, none⟩ (vi s.Kind) rfl (h27.cell rfl) (nm_cons (fr_ne (L := [some b16]) (O := O) (i := 0) h27.2 rfl) nm_nil)) ?_
  refine M_pu 3 rfl (by kernel_rfl) hM25 (P_fa fa68_1 ⟨b7, 0, none⟩ ⟨b7, 1, none⟩ rfl rfl) ?_
  refine M_pu 4 rfl (by kernel_rfl) hM25 (P_ldr ag23 cR ⟨b7, 1, none⟩ (.slice A1 n2 c3) rfl (h27.cell rfl) (nm_cons (fr_ne (L := [some b16]) (O := O) (i := 0) h27.2 rfl) nm_nil)) ?_
  refine M_any1 2 (by kernel_rfl) rfl ?_
  refine L_lit (kd := kPt) ei23 hc26 ([] : List Pt) (cells := []) rfl (fun _ => by kernel_rfl) fun w28 A29 n30 c31 g32 hr33 hc34 h35 => ?_
  have hM37 := Gm.tm hM25 g32
  refine L_nil ⟨hM37, ?_⟩
  refine M_any1 5 (by kernel_rfl) rfl ?_
  obtain ⟨hb38, H⟩ := H
  refine L_app ei23 hc34 (.slice A29 n30 c31) ([] : List Pt) s.Pts rfl h35 (.slice A1 n2 c3) rfl (hp4.st hc34.st).sx 0 rfl hb38 fun w39 A40 n41 c42 g43 s44 hc45 h46 => ?_
  have hM47 := Gm.tq hM37 g43 (hv_new hM25 hr33)
  have hv48 := hv_app (L := [blk (.slice A29 n30 c31), some b16]) (O := O) (i := 0) hM37 rfl (hv_new hM25 hr33) s44 hc45
  refine L_nil ⟨hM47, ?_⟩
  refine M_pu 6 rfl (by kernel_rfl) hM47 (P_build (.agg #[vi s.Kind, .slice A40 n41 c42]) (fun _ => by kernel_rfl)) ?_
  refine M_any1 7 (by kernel_rfl) rfl ?_
  have h53 := (Bx.sm (L := [blk (.slice A29 n30 c31), some b16]) (O := O) ((hx20.k0 g24).k0 g32) hc34 (i := 1) rfl (j := 0) rfl (by decide) g43)
  refine L_stb b16 0 [vi 0, .slice none 0 0] [vi s.Kind, .slice A40 n41 c42] [vi s.Kind, .slice A40 n41 c42] rfl h53 rfl sz68 rfl rfl rfl fun w50 g51 hx52 => ?_
  have hc54 := hc45.wr 1 rfl g51
  have hM55 := Gm.tq hM47 g51 (hv_mem 0 rfl)
  refine L_nil ⟨hM55, ?_⟩
  refine M_nil (by kernel_rfl) ?_
  refine W_ret ?_
  have h56 := Bx.gv (L := [blk (.slice A40 n41 c42), some b16]) (O := O) hx52 hc54 (i := 1) rfl
  have hc57 := hc54.drop 1 rfl
  have h58 := (Ow.sd (L := [blk (.slice A40 n41 c42), some b16]) (O := O) (Ow.sw (L := [blk (.slice A40 n41 c42), some b16]) (O := O) h46 hc45 (i := 0) rfl (j := 1) rfl (by decide) g51) (i := 0) rfl (j := 1) rfl (by decide))
  exact ⟨[.agg #[vi s.Kind, .slice A40 n41 c42]], ⟨_, _, rfl, h56.1.res rfl ag68 sz68, rfl⟩, (⟨s.Kind, (([] : List Pt) ++ s.Pts)⟩ : Shape), A40, n41, c42, rfl, H, hc57.gr.g0, hc57.ok, hc57.ge, h58⟩
end Go.Proofs.Ytndjggncgpjolaa

namespace Go.Proofs.Ytndjggncgpjolaa
open Go.RowKit
set_option linter.unusedVariables false
def impl_cloneFeat.E (f : Feat) (Q : Feat → Prop) : Prop :=
  (([] : List Tag).length + f.Tags.length ≤ 268435456) ∧ impl_cloneShape.E f.Shape (fun r => Q (⟨f.Id, r, (([] : List Tag) ++ f.Tags)⟩ : Feat))
set_option maxHeartbeats 8000000 in
set_option maxRecDepth 100000 in
theorem impl_cloneFeat.calls {O : Ob} (w0 : World) (hO : Ok w0 O) (f : Feat) (A2 : Option Addr) (n3 c4 : Nat) (A7 : Option Addr) (n8 c9 : Nat) (hs1 : Lim f.Id) (hp5 : Sl kPt w0 (Fr O) (.slice A2 n3 c4) f.Shape.Pts) (hp10 : Sl kTag w0 (Fr O) (.slice A7 n8 c9) f.Tags) (Q : Feat → Prop) (h : impl_cloneFeat.E f Q) :
    Ret Try.prog 102 [.agg #[vs f.Id, vi f.Shape.Kind, .slice A2 n3 c4, .slice A7 n8 c9]] w0 (fun v w' => ∃ (r0 : Feat) (A0 : Option Addr) (n0 c0 : Nat) (A2 : Option Addr) (n2 c2 : Nat), v = .agg #[vs r0.Id, vi r0.Shape.Kind, .slice A0 n0 c0, .slice A2 n2 c2] ∧ Q r0 ∧ Gr w0 w' none ∧ Ok w' ([blk (.slice A0 n0 c0), blk (.slice A2 n2 c2)] ++ O) ∧ (∀ b, some b ∈ [blk (.slice A0 n0 c0), blk (.slice A2 n2 c2)] → w0.heap.size ≤ b) ∧ Lim r0.Id ∧ Ow kPt 29 w' ([blk (.slice A0 n0 c0), blk (.slice A2 n2 c2)] ++ O) (.slice A0 n0 c0) r0.Shape.Pts ∧ Ow kTag 133 w' ([blk (.slice A0 n0 c0), blk (.slice A2 n2 c2)] ++ O) (.slice A2 n2 c2) r0.Tags) := by
  have H : (([] : List Tag).length + f.Tags.length ≤ 268435456) ∧ impl_cloneShape.E f.Shape (fun r => Q (⟨f.Id, r, (([] : List Tag) ++ f.Tags)⟩ : Feat)) := h
  clear h
  have hc0 := Ct.init hO
  refine Ret_enter Try.func102 rfl 13 rfl [.cell 2 71] rfl rfl ?_
  refine W_seq ?_
  refine W_reg ?_
  refine L_box [vs f.Id, vi f.Shape.Kind, .slice A2 n3 c4, .slice A7 n8 c9] rfl fun w12 b13 hl15 hu16 g14 hx17 => ?_
  have h19 := Fb.mk hc0.ok hl15 hx17
  have hc20 := hc0.k0 g14
  refine L_alloc [vs [], .int .i64 0, .slice none 0 0, .slice none 0 0] ze71 fun w21 b22 hl24 hu25 g23 hx26 => ?_
  have hc28 := hc20.own g23 (some b22) (oglt hl24 hu25)
  refine L_nil ?_
  refine W_seq ?_
  refine W_mixr 11 [some b22] (by kernel_rfl) rfl fun w29 g30 hM31 => ?_
  have hc32 := hc28.k0 g30
  obtain ⟨hb33, H⟩ := H
  refine M_pu 0 rfl (by kernel_rfl) hM31 (P_fa fa71_0 ⟨b13, 0, none⟩ ⟨b13, 0, none⟩ rfl rfl) ?_
  have h34 := ((h19.st (.own _ _ g23 (oge hl24))).st (.new _ g30))
  refine M_pu 1 rfl (by kernel_rfl) hM31 (P_ldr ag9 cR ⟨b13, 0, none⟩ (vs f.Id) rfl (h34.cell rfl) (nm_cons (fr_ne (L := [some b22]) (O := O) (i := 0) h34.2 rfl) nm_nil)) ?_
  refine M_pu 2 rfl (by kernel_rfl) hM31 (P_fa fa71_1 ⟨b13, 0, none⟩ ⟨b13, 1, none⟩ rfl rfl) ?_
  refine M_pu 3 rfl (by kernel_rfl) hM31 (P_ldar ag68 sz68 cR ⟨b13, 1, none⟩ [vi f.Shape.Kind, .slice A2 n3 c4] rfl rfl (h34.cells (off := 1) rfl) (nm_cons (fr_ne (L := [some b22]) (O := O) (i := 0) h34.2 rfl) nm_nil)) ?_
  refine M_pu 6 rfl (by kernel_rfl) hM31 (P_fa fa71_2 ⟨b13, 0, none⟩ ⟨b13, 3, none⟩ rfl rfl) ?_
  refine M_pu 7 rfl (by kernel_rfl) hM31 (P_ldr ag69 cR ⟨b13, 3, none⟩ (.slice A7 n8 c9) rfl (h34.cell rfl) (nm_cons (fr_ne (L := [some b22]) (O := O) (i := 0) h34.2 rfl) nm_nil)) ?_
  refine M_any2 4 5 (by kernel_rfl) rfl rfl ?_ ?_
  · refine L_call go97 [.agg #[vi f.Shape.Kind, .slice A2 n3 c4]] rfl ((impl_cloneShape.calls w29 hc32.ok f.Shape A2 n3 c4 (hp5.st hc32.st) _ H).mono ?_)
    rintro _ w35 ⟨r, A37, n38, c39, rfl, H, g36, hk43, hk44, h40⟩
    have hc45 := hc32.owns g36 hk43 hk44
    have hM46 := Gm.tm hM31 g36
    refine L_nil ⟨hM46, ?_⟩
    refine M_any1 5 (by kernel_rfl) rfl ?_
    refine L_lit (kd := kTag) ei69 hc45 ([] : List Tag) (cells := []) rfl (fun _ => by kernel_rfl) fun w47 A48 n49 c50 g51 hr52 hc53 h54 => ?_
    have hM56 := Gm.tm hM46 g51
    refine L_nil ⟨hM56, ?_⟩
    refine M_any1 8 (by kernel_rfl) rfl ?_
    refine L_app ei69 hc53 (.slice A48 n49 c50) ([] : List Tag) f.Tags rfl h54 (.slice A7 n8 c9) rfl (hp10.st hc53.st).sx 0 rfl hb33 fun w57 A58 n59 c60 g61 s62 hc63 h64 => ?_
    have hM65 := Gm.tq hM56 g61 (hv_new hM46 hr52)
    have hv66 := hv_app (L := [blk (.slice A48 n49 c50), blk (.slice A37 n38 c39), some b22]) (O := O) (i := 0) hM56 rfl (hv_new hM46 hr52) s62 hc63
    refine L_nil ⟨hM65, ?_⟩
    refine M_pu 9 rfl (by kernel_rfl) hM65 (P_build (.agg #[vs f.Id, vi r.Kind, .slice A37 n38 c39, .slice A58 n59 c60]) (fun _ => by kernel_rfl)) ?_
    refine M_any1 10 (by kernel_rfl) rfl ?_
    have h71 := (Bx.sm (L := [blk (.slice A48 n49 c50), blk (.slice A37 n38 c39), some b22]) (O := O) (((hx26.k0 g30).k0 g36).k0 g51) hc53 (i := 2) rfl (j := 0) rfl (by decide) g61)
    refine L_stb b22 0 [vs ([] : Str), vi 0, .slice none 0 0, .slice none 0 0] [vs f.Id, vi r.Kind, .slice A37 n38 c39, .slice A58 n59 c60] [vs f.Id, vi r.Kind, .slice A37 n38 c39, .slice A58 n59 c60] rfl h71 rfl sz71 rfl rfl rfl fun w68 g69 hx70 => ?_
    have hc72 := hc63.wr 2 rfl g69
    have hM73 := Gm.tq hM65 g69 (hv_mem 0 rfl)
    refine L_nil ⟨hM73, ?_⟩
    refine M_nil (by kernel_rfl) ?_
    refine W_ret ?_
    have h74 := Bx.gv (L := [blk (.slice A58 n59 c60), blk (.slice A37 n38 c39), some b22]) (O := O) hx70 hc72 (i := 2) rfl
    have hc75 := hc72.drop 2 rfl
    have hc76 := hc75.perm (.swap _ _ _)
    have h77 := (h74.st (.perm (L := [blk (.slice A58 n59 c60), blk (.slice A37 n38 c39)]) (O := O) (.swap _ _ _)))
    have h78 := (Ow.sp (L := [blk (.slice A58 n59 c60), blk (.slice A37 n38 c39)]) (O := O) (Ow.sd (L := [blk (.slice A58 n59 c60), blk (.slice A37 n38 c39), some b22]) (O := O) (Ow.sw (L := [blk (.slice A58 n59 c60), blk (.slice A37 n38 c39), some b22]) (O := O) (Ow.sm (L := [blk (.slice A48 n49 c50), blk (.slice A37 n38 c39), some b22]) (O := O) (h40.so _ g51 hr52) hc53 (i := 1) rfl (j := 0) rfl (by decide) g61 s62) hc63 (i := 1) rfl (j := 2) rfl (by decide) g69) (i := 1) rfl (j := 2) rfl (by decide)) (.swap _ _ _))
    have h79 := (Ow.sp (L := [blk (.slice A58 n59 c60), blk (.slice A37 n38 c39)]) (O := O) (Ow.sd (L := [blk (.slice A58 n59 c60), blk (.slice A37 n38 c39), some b22]) (O := O) (Ow.sw (L := [blk (.slice A58 n59 c60), blk (.slice A37 n38 c39), some b22]) (O := O) h64 hc63 (i := 0) rfl (j := 2) rfl (by decide) g69) (i := 0) rfl (j := 2) rfl (by decide)) (.swap _ _ _))
    exact ⟨[.agg #[vs f.Id, vi r.Kind, .slice A37 n38 c39, .slice A58 n59 c60]], ⟨_, _, rfl, h77.1.res rfl ag71 sz71, rfl⟩, (⟨f.Id, r, (([] : List Tag) ++ f.Tags)⟩ : Feat), A37, n38, c39, A58, n59, c60, rfl, H, hc76.gr.g0, hc76.ok, hc76.ge, hs1, h78, h79⟩
  · refine L_lit (kd := kTag) ei69 hc32 ([] : List Tag) (cells := []) rfl (fun _ => by kernel_rfl) fun w35 A36 n37 c38 g39 hr40 hc41 h42 => ?_
    have hM44 := Gm.tm hM31 g39
    refine L_nil ⟨hM44, ?_⟩
    refine M_any1 4 (by kernel_rfl) rfl ?_
    refine L_call go97 [.agg #[vi f.Shape.Kind, .slice A2 n3 c4]] rfl ((impl_cloneShape.calls w35 hc41.ok f.Shape A2 n3 c4 (hp5.st hc41.st) _ H).mono ?_)
    rintro _ w45 ⟨r, A47, n48, c49, rfl, H, g46, hk53, hk54, h50⟩
    have hc55 := hc41.owns g46 hk53 hk54
    have hM56 := Gm.tm hM44 g46
    refine L_nil ⟨hM56, ?_⟩
    refine M_any1 8 (by kernel_rfl) rfl ?_
    have h57 := (h42.sos g46 hk54)
    refine L_app ei69 hc55 (.slice A36 n37 c38) ([] : List Tag) f.Tags rfl h57 (.slice A7 n8 c9) rfl (hp10.st hc55.st).sx 1 rfl hb33 fun w58 A59 n60 c61 g62 s63 hc64 h65 => ?_
    have hM66 := Gm.tq hM56 g62 (hv_new hM31 hr40)
    have hv67 := hv_app (L := [blk (.slice A47 n48 c49), blk (.slice A36 n37 c38), some b22]) (O := O) (i := 1) hM56 rfl (hv_new hM31 hr40) s63 hc64
    refine L_nil ⟨hM66, ?_⟩
    refine M_pu 9 rfl (by kernel_rfl) hM66 (P_build (.agg #[vs f.Id, vi r.Kind, .slice A47 n48 c49, .slice A59 n60 c61]) (fun _ => by kernel_rfl)) ?_
    refine M_any1 10 (by kernel_rfl) rfl ?_
    have h72 := (Bx.sm (L := [blk (.slice A47 n48 c49), blk (.slice A36 n37 c38), some b22]) (O := O) (((hx26.k0 g30).k0 g39).k0 g46) hc55 (i := 2) rfl (j := 1) rfl (by decide) g62)
    refine L_stb b22 0 [vs ([] : Str), vi 0, .slice none 0 0, .slice none 0 0] [vs f.Id, vi r.Kind, .slice A47 n48 c49, .slice A59 n60 c61] [vs f.Id, vi r.Kind, .slice A47 n48 c49, .slice A59 n60 c61] rfl h72 rfl sz71 rfl rfl rfl fun w69 g70 hx71 => ?_
    have hc73 := hc64.wr 2 rfl g70
    have hM74 := Gm.tq hM66 g70 (hv_mem 0 rfl)
    refine L_nil ⟨hM74, ?_⟩
    refine M_nil (by kernel_rfl) ?_
    refine W_ret ?_
    have h75 := Bx.gv (L := [blk (.slice A47 n48 c49), blk (.slice A59 n60 c61), some b22]) (O := O) hx71 hc73 (i := 2) rfl
    have hc76 := hc73.drop 2 rfl
    have h77 := (Ow.sd (L := [blk (.slice A47 n48 c49), blk (.slice A59 n60 c61), some b22]) (O := O) (Ow.sw (L := [blk (.slice A47 n48 c49), blk (.slice A59 n60 c61), some b22]) (O := O) (Ow.sm (L := [blk (.slice A47 n48 c49), blk (.slice A36 n37 c38), some b22]) (O := O) h50 hc55 (i := 0) rfl (j := 1) rfl (by decide) g62 s63) hc64 (i := 0) rfl (j := 2) rfl (by decide) g70) (i := 0) rfl (j := 2) rfl (by decide))
    have h78 := (Ow.sd (L := [blk (.slice A47 n48 c49), blk (.slice A59 n60 c61), some b22]) (O := O) (Ow.sw (L := [blk (.slice A47 n48 c49), blk (.slice A59 n60 c61), some b22]) (O := O) h65 hc64 (i := 1) rfl (j := 2) rfl (by decide) g70) (i := 1) rfl (j := 2) rfl (by decide))
    exact ⟨[.agg #[vs f.Id, vi r.Kind, .slice A47 n48 c49, .slice A59 n60 c61]], ⟨_, _, rfl, h75.1.res rfl ag71 sz71, rfl⟩, (⟨f.Id, r, (([] : List Tag) ++ f.Tags)⟩ : Feat), A47, n48, c49, A59, n60, c61, rfl, H, hc76.gr.g0, hc76.ok, hc76.ge, hs1, h77, h78⟩
end Go.Proofs.Ytndjggncgpjolaa

namespace Go.Proofs.Ytndjggncgpjolaa
open Go.RowKit
set_option linter.unusedVariables false
def impl_cloneChange.E (c_ : Change) (Q : Change → Prop) : Prop :=
  impl_cloneFeat.E c_.Was (fun r => impl_cloneFeat.E c_.Now (fun r2 => Q (⟨c_.Id, c_.Had, r, c_.Has, r2⟩ : Change)))
set_option maxHeartbeats 8000000 in
set_option maxRecDepth 100000 in
theorem impl_cloneChange.calls {O : Ob} (w0 : World) (hO : Ok w0 O) (c_ : Change) (A3 : Option Addr) (n4 c5 : Nat) (A8 : Option Addr) (n9 c10 : Nat) (A14 : Option Addr) (n15 c16 : Nat) (A19 : Option Addr) (n20 c21 : Nat) (hs1 : Lim c_.Id) (hs2 : Lim c_.Was.Id) (hp6 : Sl kPt w0 (Fr O) (.slice A3 n4 c5) c_.Was.Shape.Pts) (hp11 : Sl kTag w0 (Fr O) (.slice A8 n9 c10) c_.Was.Tags) (hs13 : Lim c_.Now.Id) (hp17 : Sl kPt w0 (Fr O) (.slice A14 n15 c16) c_.Now.Shape.Pts) (hp22 : Sl kTag w0 (Fr O) (.slice A19 n20 c21) c_.Now.Tags) (Q : Change → Prop) (h : impl_cloneChange.E c_ Q) :
    Ret Try.prog 65 [.agg #[vs c_.Id, vb c_.Had, vs c_.Was.Id, vi c_.Was.Shape.Kind, .slice A3 n4 c5, .slice A8 n9 c10, vb c_.Has, vs c_.Now.Id, vi c_.Now.Shape.Kind, .slice A14 n15 c16, .slice A19 n20 c21]] w0 (fun v w' => ∃ (r0 : Change) (A0 : Option Addr) (n0 c0 : Nat) (A2 : Option Addr) (n2 c2 : Nat) (A4 : Option Addr) (n4 c4 : Nat) (A6 : Option Addr) (n6 c6 : Nat), v = .agg #[vs r0.Id, vb r0.Had, vs r0.Was.Id, vi r0.Was.Shape.Kind, .slice A0 n0 c0, .slice A2 n2 c2, vb r0.Has, vs r0.Now.Id, vi r0.Now.Shape.Kind, .slice A4 n4 c4, .slice A6 n6 c6] ∧ Q r0 ∧ Gr w0 w' none ∧ Ok w' ([blk (.slice A0 n0 c0), blk (.slice A2 n2 c2), blk (.slice A4 n4 c4), blk (.slice A6 n6 c6)] ++ O) ∧ (∀ b, some b ∈ [blk (.slice A0 n0 c0), blk (.slice A2 n2 c2), blk (.slice A4 n4 c4), blk (.slice A6 n6 c6)] → w0.heap.size ≤ b) ∧ Lim r0.Id ∧ Lim r0.Was.Id ∧ Ow kPt 29 w' ([blk (.slice A0 n0 c0), blk (.slice A2 n2 c2), blk (.slice A4 n4 c4), blk (.slice A6 n6 c6)] ++ O) (.slice A0 n0 c0) r0.Was.Shape.Pts ∧ Ow kTag 133 w' ([blk (.slice A0 n0 c0), blk (.slice A2 n2 c2), blk (.slice A4 n4 c4), blk (.slice A6 n6 c6)] ++ O) (.slice A2 n2 c2) r0.Was.Tags ∧ Lim r0.Now.Id ∧ Ow kPt 29 w' ([blk (.slice A0 n0 c0), blk (.slice A2 n2 c2), blk (.slice A4 n4 c4), blk (.slice A6 n6 c6)] ++ O) (.slice A4 n4 c4) r0.Now.Shape.Pts ∧ Ow kTag 133 w' ([blk (.slice A0 n0 c0), blk (.slice A2 n2 c2), blk (.slice A4 n4 c4), blk (.slice A6 n6 c6)] ++ O) (.slice A6 n6 c6) r0.Now.Tags) := by
  have H : impl_cloneFeat.E c_.Was (fun r => impl_cloneFeat.E c_.Now (fun r2 => Q (⟨c_.Id, c_.Had, r, c_.Has, r2⟩ : Change))) := h
  clear h
  have hc0 := Ct.init hO
  refine Ret_enter Try.func65 rfl 16 rfl [.cell 2 103] rfl rfl ?_
  refine W_seq ?_
  refine W_reg ?_
  refine L_box [vs c_.Id, vb c_.Had, vs c_.Was.Id, vi c_.Was.Shape.Kind, .slice A3 n4 c5, .slice A8 n9 c10, vb c_.Has, vs c_.Now.Id, vi c_.Now.Shape.Kind, .slice A14 n15 c16, .slice A19 n20 c21] rfl fun w24 b25 hl27 hu28 g26 hx29 => ?_
  have h31 := Fb.mk hc0.ok hl27 hx29
  have hc32 := hc0.k0 g26
  refine L_alloc [vs [], vb false, vs [], .int .i64 0, .slice none 0 0, .slice none 0 0, vb false, vs [], .int .i64 0, .slice none 0 0, .slice none 0 0] ze103 fun w33 b34 hl36 hu37 g35 hx38 => ?_
  have hc40 := hc32.own g35 (some b34) (oglt hl36 hu37)
  refine L_nil ?_
  refine W_seq ?_
  refine W_mixr 14 [some b34] (by kernel_rfl) rfl fun w41 g42 hM43 => ?_
  have hc44 := hc40.k0 g42
  refine M_pu 0 rfl (by kernel_rfl) hM43 (P_fa fa103_0 ⟨b25, 0, none⟩ ⟨b25, 0, none⟩ rfl rfl) ?_
  have h45 := ((h31.st (.own _ _ g35 (oge hl36))).st (.new _ g42))
  refine M_pu 1 rfl (by kernel_rfl) hM43 (P_ldr ag9 cR ⟨b25, 0, none⟩ (vs c_.Id) rfl (h45.cell rfl) (nm_cons (fr_ne (L := [some b34]) (O := O) (i := 0) h45.2 rfl) nm_nil)) ?_
  refine M_pu 2 rfl (by kernel_rfl) hM43 (P_fa fa103_1 ⟨b25, 0, none⟩ ⟨b25, 1, none⟩ rfl rfl) ?_
  refine M_pu 3 rfl (by kernel_rfl) hM43 (P_ldr ag4 cR ⟨b25, 1, none⟩ (vb c_.Had) rfl (h45.cell rfl) (nm_cons (fr_ne (L := [some b34]) (O := O) (i := 0) h45.2 rfl) nm_nil)) ?_
  refine M_pu 4 rfl (by kernel_rfl) hM43 (P_fa fa103_2 ⟨b25, 0, none⟩ ⟨b25, 2, none⟩ rfl rfl) ?_
  refine M_pu 5 rfl (by kernel_rfl) hM43 (P_ldar ag71 sz71 cR ⟨b25, 2, none⟩ [vs c_.Was.Id, vi c_.Was.Shape.Kind, .slice A3 n4 c5, .slice A8 n9 c10] rfl rfl (h45.cells (off := 2) rfl) (nm_cons (fr_ne (L := [some b34]) (O := O) (i := 0) h45.2 rfl) nm_nil)) ?_
  refine M_pu 7 rfl (by kernel_rfl) hM43 (P_fa fa103_3 ⟨b25, 0, none⟩ ⟨b25, 6, none⟩ rfl rfl) ?_
  refine M_pu 8 rfl (by kernel_rfl) hM43 (P_ldr ag4 cR ⟨b25, 6, none⟩ (vb c_.Has) rfl (h45.cell rfl) (nm_cons (fr_ne (L := [some b34]) (O := O) (i := 0) h45.2 rfl) nm_nil)) ?_
  refine M_pu 9 rfl (by kernel_rfl) hM43 (P_fa fa103_4 ⟨b25, 0, none⟩ ⟨b25, 7, none⟩ rfl rfl) ?_
  refine M_pu 10 rfl (by kernel_rfl) hM43 (P_ldar ag71 sz71 cR ⟨b25, 7, none⟩ [vs c_.Now.Id, vi c_.Now.Shape.Kind, .slice A14 n15 c16, .slice A19 n20 c21] rfl rfl (h45.cells (off := 7) rfl) (nm_cons (fr_ne (L := [some b34]) (O := O) (i := 0) h45.2 rfl) nm_nil)) ?_
  refine M_any1 6 (by kernel_rfl) rfl ?_
  refine L_call go102 [.agg #[vs c_.Was.Id, vi c_.Was.Shape.Kind, .slice A3 n4 c5, .slice A8 n9 c10]] rfl ((impl_cloneFeat.calls w41 hc44.ok c_.Was A3 n4 c5 A8 n9 c10 hs2 (hp6.st hc44.st) (hp11.st hc44.st) _ H).mono ?_)
  rintro _ w46 ⟨r, A49, n50, c51, A54, n55, c56, rfl, H, g47, hk60, hk61, hs48, h52, h57⟩
  have hc62 := hc44.owns g47 hk60 hk61
  have hM63 := Gm.tm hM43 g47
  refine L_nil ⟨hM63, ?_⟩
  refine M_any1 11 (by kernel_rfl) rfl ?_
  refine L_call go102 [.agg #[vs c_.Now.Id, vi c_.Now.Shape.Kind, .slice A14 n15 c16, .slice A19 n20 c21]] rfl ((impl_cloneFeat.calls w46 hc62.ok c_.Now A14 n15 c16 A19 n20 c21 hs13 (hp17.st hc62.st) (hp22.st hc62.st) _ H).mono ?_)
  rintro _ w64 ⟨r2, A67, n68, c69, A72, n73, c74, rfl, H, g65, hk78, hk79, hs66, h70, h75⟩
  have hc80 := hc62.owns g65 hk78 hk79
  have hM81 := Gm.tm hM63 g65
  refine L_nil ⟨hM81, ?_⟩
  refine M_pu 12 rfl (by kernel_rfl) hM81 (P_build (.agg #[vs c_.Id, vb c_.Had, vs r.Id, vi r.Shape.Kind, .slice A49 n50 c51, .slice A54 n55 c56, vb c_.Has, vs r2.Id, vi r2.Shape.Kind, .slice A67 n68 c69, .slice A72 n73 c74]) (fun _ => by kernel_rfl)) ?_
  refine M_any1 13 (by kernel_rfl) rfl ?_
  have h85 := (((hx38.k0 g42).k0 g47).k0 g65)
  refine L_stb b34 0 [vs ([] : Str), vb false, vs ([] : Str), vi 0, .slice none 0 0, .slice none 0 0, vb false, vs ([] : Str), vi 0, .slice none 0 0, .slice none 0 0] [vs c_.Id, vb c_.Had, vs r.Id, vi r.Shape.Kind, .slice A49 n50 c51, .slice A54 n55 c56, vb c_.Has, vs r2.Id, vi r2.Shape.Kind, .slice A67 n68 c69, .slice A72 n73 c74] [vs c_.Id, vb c_.Had, vs r.Id, vi r.Shape.Kind, .slice A49 n50 c51, .slice A54 n55 c56, vb c_.Has, vs r2.Id, vi r2.Shape.Kind, .slice A67 n68 c69, .slice A72 n73 c74] rfl h85 rfl sz103 rfl rfl rfl fun w82 g83 hx84 => ?_
  have hc86 := hc80.wr 4 rfl g83
  have hM87 := Gm.tq hM81 g83 (hv_mem 0 rfl)
  refine L_nil ⟨hM87, ?_⟩
  refine M_nil (by kernel_rfl) ?_
  refine W_ret ?_
  have h88 := Bx.gv (L := [blk (.slice A67 n68 c69), blk (.slice A72 n73 c74), blk (.slice A49 n50 c51), blk (.slice A54 n55 c56), some b34]) (O := O) hx84 hc86 (i := 4) rfl
  have hc89 := hc86.drop 4 rfl
  have hc90 := hc89.perm (.cons _ (.swap _ _ _))
  have hc91 := hc90.perm (.swap _ _ _)
  have hc92 := hc91.perm (.cons _ (.cons _ (.swap _ _ _)))
  have hc93 := hc92.perm (.cons _ (.swap _ _ _))
  have h94 := ((((h88.st (.perm (L := [blk (.slice A67 n68 c69), blk (.slice A72 n73 c74), blk (.slice A49 n50 c51), blk (.slice A54 n55 c56)]) (O := O) (.cons _ (.swap _ _ _)))).st (.perm (L := [blk (.slice A67 n68 c69), blk (.slice A49 n50 c51), blk (.slice A72 n73 c74), blk (.slice A54 n55 c56)]) (O := O) (.swap _ _ _))).st (.perm (L := [blk (.slice A49 n50 c51), blk (.slice A67 n68 c69), blk (.slice A72 n73 c74), blk (.slice A54 n55 c56)]) (O := O) (.cons _ (.cons _ (.swap _ _ _))))).st (.perm (L := [blk (.slice A49 n50 c51), blk (.slice A67 n68 c69), blk (.slice A54 n55 c56), blk (.slice A72 n73 c74)]) (O := O) (.cons _ (.swap _ _ _))))
  have h95 := (Ow.sp (L := [blk (.slice A49 n50 c51), blk (.slice A67 n68 c69), blk (.slice A54 n55 c56), blk (.slice A72 n73 c74)]) (O := O) (Ow.sp (L := [blk (.slice A49 n50 c51), blk (.slice A67 n68 c69), blk (.slice A72 n73 c74), blk (.slice A54 n55 c56)]) (O := O) (Ow.sp (L := [blk (.slice A67 n68 c69), blk (.slice A49 n50 c51), blk (.slice A72 n73 c74), blk (.slice A54 n55 c56)]) (O := O) (Ow.sp (L := [blk (.slice A67 n68 c69), blk (.slice A72 n73 c74), blk (.slice A49 n50 c51), blk (.slice A54 n55 c56)]) (O := O) (Ow.sd (L := [blk (.slice A67 n68 c69), blk (.slice A72 n73 c74), blk (.slice A49 n50 c51), blk (.slice A54 n55 c56), some b34]) (O := O) (Ow.sw (L := [blk (.slice A67 n68 c69), blk (.slice A72 n73 c74), blk (.slice A49 n50 c51), blk (.slice A54 n55 c56), some b34]) (O := O) (h52.sos g65 hk79) hc80 (i := 2) rfl (j := 4) rfl (by decide) g83) (i := 2) rfl (j := 4) rfl (by decide)) (.cons _ (.swap _ _ _))) (.swap _ _ _)) (.cons _ (.cons _ (.swap _ _ _)))) (.cons _ (.swap _ _ _)))
  have h96 := (Ow.sp (L := [blk (.slice A49 n50 c51), blk (.slice A67 n68 c69), blk (.slice A54 n55 c56), blk (.slice A72 n73 c74)]) (O := O) (Ow.sp (L := [blk (.slice A49 n50 c51), blk (.slice A67 n68 c69), blk (.slice A72 n73 c74), blk (.slice A54 n55 c56)]) (O := O) (Ow.sp (L := [blk (.slice A67 n68 c69), blk (.slice A49 n50 c51), blk (.slice A72 n73 c74), blk (.slice A54 n55 c56)]) (O := O) (Ow.sp (L := [blk (.slice A67 n68 c69), blk (.slice A72 n73 c74), blk (.slice A49 n50 c51), blk (.slice A54 n55 c56)]) (O := O) (Ow.sd (L := [blk (.slice A67 n68 c69), blk (.slice A72 n73 c74), blk (.slice A49 n50 c51), blk (.slice A54 n55 c56), some b34]) (O := O) (Ow.sw (L := [blk (.slice A67 n68 c69), blk (.slice A72 n73 c74), blk (.slice A49 n50 c51), blk (.slice A54 n55 c56), some b34]) (O := O) (h57.sos g65 hk79) hc80 (i := 3) rfl (j := 4) rfl (by decide) g83) (i := 3) rfl (j := 4) rfl (by decide)) (.cons _ (.swap _ _ _))) (.swap _ _ _)) (.cons _ (.cons _ (.swap _ _ _)))) (.cons _ (.swap _ _ _)))
  have h97 := (Ow.sp (L := [blk (.slice A49 n50 c51), blk (.slice A67 n68 c69), blk (.slice A54 n55 c56), blk (.slice A72 n73 c74)]) (O := O) (Ow.sp (L := [blk (.slice A49 n50 c51), blk (.slice A67 n68 c69), blk (.slice A72 n73 c74), blk (.slice A54 n55 c56)]) (O := O) (Ow.sp (L := [blk (.slice A67 n68 c69), blk (.slice A49 n50 c51), blk (.slice A72 n73 c74), blk (.slice A54 n55 c56)]) (O := O) (Ow.sp (L := [blk (.slice A67 n68 c69), blk (.slice A72 n73 c74), blk (.slice A49 n50 c51), blk (.slice A54 n55 c56)]) (O := O) (Ow.sd (L := [blk (.slice A67 n68 c69), blk (.slice A72 n73 c74), blk (.slice A49 n50 c51), blk (.slice A54 n55 c56), some b34]) (O := O) (Ow.sw (L := [blk (.slice A67 n68 c69), blk (.slice A72 n73 c74), blk (.slice A49 n50 c51), blk (.slice A54 n55 c56), some b34]) (O := O) h70 hc80 (i := 0) rfl (j := 4) rfl (by decide) g83) (i := 0) rfl (j := 4) rfl (by decide)) (.cons _ (.swap _ _ _))) (.swap _ _ _)) (.cons _ (.cons _ (.swap _ _ _)))) (.cons _ (.swap _ _ _)))
  have h98 := (Ow.sp (L := [blk (.slice A49 n50 c51), blk (.slice A67 n68 c69), blk (.slice A54 n55 c56), blk (.slice A72 n73 c74)]) (O := O) (Ow.sp (L := [blk (.slice A49 n50 c51), blk (.slice A67 n68 c69), blk (.slice A72 n73 c74), blk (.slice A54 n55 c56)]) (O := O) (Ow.sp (L := [blk (.slice A67 n68 c69), blk (.slice A49 n50 c51), blk (.slice A72 n73 c74), blk (.slice A54 n55 c56)]) (O := O) (Ow.sp (L := [blk (.slice A67 n68 c69), blk (.slice A72 n73 c74), blk (.slice A49 n50 c51), blk (.slice A54 n55 c56)]) (O := O) (Ow.sd (L := [blk (.slice A67 n68 c69), blk (.slice A72 n73 c74), blk (.slice A49 n50 c51), blk (.slice A54 n55 c56), some b34]) (O := O) (Ow.sw (L := [blk (.slice A67 n68 c69), blk (.slice A72 n73 c74), blk (.slice A49 n50 c51), blk (.slice A54 n55 c56), some b34]) (O := O) h75 hc80 (i := 1) rfl (j := 4) rfl (by decide) g83) (i := 1) rfl (j := 4) rfl (by decide)) (.cons _ (.swap _ _ _))) (.swap _ _ _)) (.cons _ (.cons _ (.swap _ _ _)))) (.cons _ (.swap _ _ _)))
  exact ⟨[.agg #[vs c_.Id, vb c_.Had, vs r.Id, vi r.Shape.Kind, .slice A49 n50 c51, .slice A54 n55 c56, vb c_.Has, vs r2.Id, vi r2.Shape.Kind, .slice A67 n68 c69, .slice A72 n73 c74]], ⟨_, _, rfl, h94.1.res rfl ag103 sz103, rfl⟩, (⟨c_.Id, c_.Had, r, c_.Has, r2⟩ : Change), A49, n50, c51, A54, n55, c56, A67, n68, c69, A72, n73, c74, rfl, H, hc93.gr.g0, hc93.ok, hc93.ge, hs1, hs48, h95, h96, hs66, h97, h98⟩
end Go.Proofs.Ytndjggncgpjolaa

namespace Go.Proofs.Ytndjggncgpjolaa
open Go.RowKit
set_option linter.unusedVariables false
def impl_DiffBack.E (d : List Change) (Q : List Change → Prop) : Prop :=
  impl_DiffOk.E d (fun r => (if !r then Q ([] : List Change) else (∃ (I59 : (List Change) → Int → Prop) (mu60 : (List Change) → Int → Nat), I59 ([] : List Change) 0 ∧ ∀ (xs2 : List Change) (v2 : Int), I59 xs2 v2 → (if decide (v2 < (d.length : Int)) then ((0 : Int) ≤ v2 ∧ v2 < (d.length : Int)) ∧ impl_cloneChange.E (⟨(nth d v2).Id, (nth d v2).Has, (nth d v2).Now, (nth d v2).Had, (nth d v2).Was⟩ : Change) (fun r2 => (xs2.length + ([r2] : List Change).length ≤ 268435456) ∧ (I64 (v2 + 1)) ∧ I59 (xs2 ++ ([r2] : List Change)) (v2 + 1) ∧ mu60 (xs2 ++ ([r2] : List Change)) (v2 + 1) < mu60 xs2 v2) else Q xs2))))
set_option maxHeartbeats 8000000 in
set_option maxRecDepth 100000 in
theorem impl_DiffBack.calls {O : Ob} (w0 : World) (hO : Ok w0 O) (d : List Change) (A1 : Option Addr) (n2 c3 : Nat) (hp4 : Sl kChange w0 (Fr O) (.slice A1 n2 c3) d) (Q : List Change → Prop) (h : impl_DiffBack.E d Q) :
    Ret Try.prog 21 [.slice A1 n2 c3] w0 (fun v w' => ∃ (r0 : List Change) (A0 : Option Addr) (n0 c0 : Nat) (q0 : Ob) (ra0 : List (List Value)), v = .slice A0 n0 c0 ∧ Q r0 ∧ Gr w0 w' none ∧ Ok w' ((blk (.slice A0 n0 c0) :: (q0 ++ [])) ++ O) ∧ (∀ b, some b ∈ (blk (.slice A0 n0 c0) :: (q0 ++ [])) → w0.heap.size ≤ b) ∧ Ow (Kd.cells 11) 103 w' ((blk (.slice A0 n0 c0) :: (q0 ++ [])) ++ O) (.slice A0 n0 c0) ra0 ∧ DArr dChange_103 w' q0 r0 ra0) := by
  have H : impl_DiffOk.E d (fun r => (if !r then Q ([] : List Change) else (∃ (I59 : (List Change) → Int → Prop) (mu60 : (List Change) → Int → Nat), I59 ([] : List Change) 0 ∧ ∀ (xs2 : List Change) (v2 : Int), I59 xs2 v2 → (if decide (v2 < (d.length : Int)) then ((0 : Int) ≤ v2 ∧ v2 < (d.length : Int)) ∧ impl_cloneChange.E (⟨(nth d v2).Id, (nth d v2).Has, (nth d v2).Now, (nth d v2).Had, (nth d v2).Was⟩ : Change) (fun r2 => (xs2.length + ([r2] : List Change).length ≤ 268435456) ∧ (I64 (v2 + 1)) ∧ I59 (xs2 ++ ([r2] : List Change)) (v2 + 1) ∧ mu60 (xs2 ++ ([r2] : List Change)) (v2 + 1) < mu60 xs2 v2) else Q xs2)))) := h
  clear h
  have hc0 := Ct.init hO
  refine Ret_enter Try.func21 rfl 34 rfl [.tmp 2] rfl rfl ?_
  refine W_seq ?_
  refine W_reg ?_
  refine L_pu (P_assign (.slice none 0 0) rfl) ?_
  refine L_nil ?_
  refine W_seq ?_
  refine W_reg ?_
  have hd14 : DArr dChange_103 w0 ([] : Ob) ([] : List Change) ([] : List (List Value)) := rfl
  refine L_lit (kd := Kd.cells 11) ei43 hc0 ([] : List (List Value)) (cells := []) rfl (fun _ => by kernel_rfl) fun w6 A7 n8 c9 g10 hr11 hc12 h13 => ?_
  have hp16 : ([blk (.slice A7 n8 c9)] : Ob).Perm (blk (.slice A7 n8 c9) :: (([] : Ob) ++ [])) := (by rw [List.perm_iff_count]; intro a; (try simp only [List.count_append, List.count_cons, List.count_nil, Nat.add_zero, Nat.zero_add]); first | done | ac_rfl)
  have hc17 := hc12.perm hp16
  refine L_pu (P_assign (.slice A7 n8 c9) rfl) ?_
  refine L_nil ?_
  refine W_seq ?_
  refine W_seq ?_
  refine W_reg ?_
  refine L_pu (P_move (.slice A1 n2 c3) rfl) ?_
  refine L_call go64 [.slice A1 n2 c3] rfl ((impl_DiffOk.calls w6 hc17.ok d A1 n2 c3 (hp4.st hc17.st) _ H).mono ?_)
  rintro _ w18 ⟨r, rfl, H, g19⟩
  have hc23 := hc17.k0 g19
  refine L_pu (P_not r rfl) ?_
  refine L_nil ?_
  refine W_cond (!r) rfl (fun hq24 => ?_) (fun hq24 => ?_)
  · have H := ite_t H hq24
    refine W_seq ?_
    refine W_reg ?_
    refine L_pu (P_move (.slice A7 n8 c9) rfl) ?_
    refine L_pu (P_assign (.slice A7 n8 c9) rfl) ?_
    refine L_nil ?_
    refine W_ret ?_
    have h25 := ((Ow.sp (L := [blk (.slice A7 n8 c9)]) (O := O) h13 hp16).sn g19)
    have hd26 := ((hd14.k0 g10).k0 g19)
    exact ⟨[.slice A7 n8 c9], ⟨_, rfl, rfl⟩, ([] : List Change), A7, n8, c9, ([] : Ob), ([] : List (List Value)), rfl, H, hc23.gr.g0, hc23.ok, hc23.ge, h25, hd26⟩
  · have H := ite_f H hq24
    refine W_skip ?_
    refine W_seq ?_
    refine W_seq ?_
    refine W_reg ?_
    refine L_pu (P_move (.slice A1 n2 c3) rfl) ?_
    have hl27 := (hp4.st hc23.st).le
    refine L_pu (P_len Try.underlying43 A1 n2 c3 (hp4.st hc23.st).len rfl) ?_
    refine L_pu (P_move (vi 0) rfl) ?_
    refine L_nil ?_
    refine W_block ?_
    obtain ⟨I59, mu60, hI61, H⟩ := H
    have h63 := ((Ow.sp (L := [blk (.slice A7 n8 c9)]) (O := O) h13 hp16).sn g19)
    have hd64 := ((hd14.k0 g10).k0 g19)
    refine W_loop (α := (List Change) × (List (List Value)) × Ob × (Option Addr) × Nat × Nat × Int) (fun (sv__ : (List Change) × (List (List Value)) × Ob × (Option Addr) × Nat × Nat × Int) t w47 => match sv__ with | (xs2, ra52, q53, A48, n49, c50, v2) => I59 xs2 v2 ∧ Has t [(3, .slice A48 n49 c50), (11, .slice A1 n2 c3), (12, vi (d.length : Int)), (13, vi v2)] ∧ Ct [] w0 w47 (blk (.slice A48 n49 c50) :: (q53 ++ [])) O ∧ Sl kChange w47 (Fr ((blk (.slice A48 n49 c50) :: (q53 ++ [])) ++ O)) (.slice A1 n2 c3) d ∧ Ow (Kd.cells 11) 103 w47 ((blk (.slice A48 n49 c50) :: (q53 ++ [])) ++ O) (.slice A48 n49 c50) ra52 ∧ DArr dChange_103 w47 q53 xs2 ra52) (fun (sv__ : (List Change) × (List (List Value)) × Ob × (Option Addr) × Nat × Nat × Int) => match sv__ with | (xs2, _, _, _, _, _, v2) => mu60 xs2 v2) (([] : List Change), ([] : List (List Value)), ([] : Ob), A7, n8, c9, 0) ⟨hI61, ⟨rfl, rfl, rfl, rfl, trivial⟩, hc23, (hp4.st hc23.st), h63, hd64⟩ ?_
    rintro ⟨xs2, ra52, q53, A48, n49, c50, v2⟩ _ w47 ⟨hI61, hh65, hc55, h56, h57, hd58⟩
    obtain ⟨u66, rfl⟩ := Has.ins hh65
    have H := H xs2 v2 hI61
    refine W_seq ?_
    refine W_reg ?_
    refine L_pu (P_cmp v2 (d.length : Int) (decide (v2 < (d.length : Int))) rfl rfl rfl) ?_
    refine L_nil ?_
    refine W_seq ?_
    refine W_cond (decide (v2 < (d.length : Int))) rfl (fun hq67 => ?_) (fun hq67 => ?_)
    · have H := ite_t H hq67
      refine W_skip ?_
      refine W_seq ?_
      refine W_block ?_
      refine W_seq ?_
      refine W_reg ?_
      obtain ⟨hb68, H⟩ := H
      obtain ⟨ad69, cs70, hA71, hS74, hR72, hcl73⟩ := h56.get default (by decide) v2 hb68
      obtain ⟨A77, n78, c79, A82, n83, c84, A88, n89, c90, A93, n94, c95, rfl, hs75, hs76, h80, h85, hs87, h91, h96⟩ := kChange.op hR72
      refine L_pu (P_ia Try.underlying43 se43 A1 ad69 n2 c3 h56.len v2 rfl hA71 rfl hb68) ?_
      refine L_pu (P_lda ag103 sz103 cL (ad69.add (v2.toNat * 11)) [vs ((nth d v2).Id), vb ((nth d v2).Had), vs ((nth d v2).Was.Id), vi ((nth d v2).Was.Shape.Kind), .slice A77 n78 c79, .slice A82 n83 c84, vb ((nth d v2).Has), vs ((nth d v2).Now.Id), vi ((nth d v2).Now.Shape.Kind), .slice A88 n89 c90, .slice A93 n94 c95] rfl rfl hcl73) ?_
      refine L_alloc [vs [], vb false, vs [], .int .i64 0, .slice none 0 0, .slice none 0 0, vb false, vs [], .int .i64 0, .slice none 0 0, .slice none 0 0] ze103 fun w98 b99 hl101 hu102 g100 hx103 => ?_
      have hc105 := hc55.own g100 (some b99) (oglt hl101 hu102)
      refine L_stb b99 0 [vs ([] : Str), vb false, vs ([] : Str), vi 0, .slice none 0 0, .slice none 0 0, vb false, vs ([] : Str), vi 0, .slice none 0 0, .slice none 0 0] [vs ((nth d v2).Id), vb ((nth d v2).Had), vs ((nth d v2).Was.Id), vi ((nth d v2).Was.Shape.Kind), .slice A77 n78 c79, .slice A82 n83 c84, vb ((nth d v2).Has), vs ((nth d v2).Now.Id), vi ((nth d v2).Now.Shape.Kind), .slice A88 n89 c90, .slice A93 n94 c95] [vs ((nth d v2).Id), vb ((nth d v2).Had), vs ((nth d v2).Was.Id), vi ((nth d v2).Was.Shape.Kind), .slice A77 n78 c79, .slice A82 n83 c84, vb ((nth d v2).Has), vs ((nth d v2).Now.Id), vi ((nth d v2).Now.Shape.Kind), .slice A88 n89 c90, .slice A93 n94 c95] rfl hx103 rfl sz103 rfl rfl rfl fun w106 g107 hx108 => ?_
      have hc109 := hc105.wr 0 rfl g107
      refine L_nil ?_
      refine W_reg ?_
      refine L_pu (P_move (.slice A48 n49 c50) rfl) ?_
      refine L_pu (P_fa fa103_0 ⟨b99, 0, none⟩ ⟨b99, 0, none⟩ rfl rfl) ?_
      refine L_pu (P_ld ag9 cL ⟨b99, 0, none⟩ (vs ((nth d v2).Id)) rfl (hx108.cell rfl)) ?_
      refine L_pu (P_fa fa103_3 ⟨b99, 0, none⟩ ⟨b99, 6, none⟩ rfl rfl) ?_
      refine L_pu (P_ld ag4 cL ⟨b99, 6, none⟩ (vb ((nth d v2).Has)) rfl (hx108.cell rfl)) ?_
      refine L_pu (P_fa fa103_4 ⟨b99, 0, none⟩ ⟨b99, 7, none⟩ rfl rfl) ?_
      refine L_pu (P_lda ag71 sz71 cL ⟨b99, 7, none⟩ [vs ((nth d v2).Now.Id), vi ((nth d v2).Now.Shape.Kind), .slice A88 n89 c90, .slice A93 n94 c95] rfl rfl (hx108.cells (off := 7) rfl)) ?_
      refine L_pu (P_fa fa103_1 ⟨b99, 0, none⟩ ⟨b99, 1, none⟩ rfl rfl) ?_
      refine L_pu (P_ld ag4 cL ⟨b99, 1, none⟩ (vb ((nth d v2).Had)) rfl (hx108.cell rfl)) ?_
      refine L_pu (P_fa fa103_2 ⟨b99, 0, none⟩ ⟨b99, 2, none⟩ rfl rfl) ?_
      refine L_pu (P_lda ag71 sz71 cL ⟨b99, 2, none⟩ [vs ((nth d v2).Was.Id), vi ((nth d v2).Was.Shape.Kind), .slice A77 n78 c79, .slice A82 n83 c84] rfl rfl (hx108.cells (off := 2) rfl)) ?_
      refine L_pu (P_build (.agg #[vs ((nth d v2).Id), vb ((nth d v2).Has), vs ((nth d v2).Now.Id), vi ((nth d v2).Now.Shape.Kind), .slice A88 n89 c90, .slice A93 n94 c95, vb ((nth d v2).Had), vs ((nth d v2).Was.Id), vi ((nth d v2).Was.Shape.Kind), .slice A77 n78 c79, .slice A82 n83 c84]) (fun _ => by kernel_rfl)) ?_
      have h110 := ((h91.st (.own _ _ g100 (oge hl101))).st (.wl (L := (some b99 :: blk (.slice A48 n49 c50) :: (q53 ++ []))) (O := O) (j := 0) rfl g107))
      have h111 := ((h96.st (.own _ _ g100 (oge hl101))).st (.wl (L := (some b99 :: blk (.slice A48 n49 c50) :: (q53 ++ []))) (O := O) (j := 0) rfl g107))
      have h112 := ((h80.st (.own _ _ g100 (oge hl101))).st (.wl (L := (some b99 :: blk (.slice A48 n49 c50) :: (q53 ++ []))) (O := O) (j := 0) rfl g107))
      have h113 := ((h85.st (.own _ _ g100 (oge hl101))).st (.wl (L := (some b99 :: blk (.slice A48 n49 c50) :: (q53 ++ []))) (O := O) (j := 0) rfl g107))
      refine L_call go65 [.agg #[vs ((nth d v2).Id), vb ((nth d v2).Has), vs ((nth d v2).Now.Id), vi ((nth d v2).Now.Shape.Kind), .slice A88 n89 c90, .slice A93 n94 c95, vb ((nth d v2).Had), vs ((nth d v2).Was.Id), vi ((nth d v2).Was.Shape.Kind), .slice A77 n78 c79, .slice A82 n83 c84]] rfl ((impl_cloneChange.calls w106 hc109.ok (⟨(nth d v2).Id, (nth d v2).Has, (nth d v2).Now, (nth d v2).Had, (nth d v2).Was⟩ : Change) A88 n89 c90 A93 n94 c95 A77 n78 c79 A82 n83 c84 hs75 hs87 h110 h111 hs76 h112 h113 _ H).mono ?_)
      rintro _ w114 ⟨r2, A118, n119, c120, A123, n124, c125, A129, n130, c131, A134, n135, c136, rfl, H, g115, hk140, hk141, hs116, hs117, h121, h126, hs128, h132, h137⟩
      have hc142 := hc109.owns g115 hk140 hk141
      have hd143 : (dChange_103).D w114 ([] ++ ([] ++ (([] ++ (([] ++ [blk (.slice A118 n119 c120)]) ++ [blk (.slice A123 n124 c125)])) ++ ([] ++ ([] ++ (([] ++ [blk (.slice A129 n130 c131)]) ++ [blk (.slice A134 n135 c136)])))))) r2 [vs r2.Id, vb r2.Had, vs r2.Was.Id, vi r2.Was.Shape.Kind, .slice A118 n119 c120, .slice A123 n124 c125, vb r2.Has, vs r2.Now.Id, vi r2.Now.Shape.Kind, .slice A129 n130 c131, .slice A134 n135 c136] := (dChange_103.mk _ r2 hs116 hs117 (Ds.ofOw kPt_flat h121) (Ds.ofOw kTag_flat h126) hs128 (Ds.ofOw kPt_flat h132) (Ds.ofOw kTag_flat h137))
      have hd152 : DArr dChange_103 w114 (([] ++ ([] ++ (([] ++ (([] ++ [blk (.slice A118 n119 c120)]) ++ [blk (.slice A123 n124 c125)])) ++ ([] ++ ([] ++ (([] ++ [blk (.slice A129 n130 c131)]) ++ [blk (.slice A134 n135 c136)])))))) ++ []) ([r2] : List Change) ([[vs r2.Id, vb r2.Had, vs r2.Was.Id, vi r2.Was.Shape.Kind, .slice A118 n119 c120, .slice A123 n124 c125, vb r2.Has, vs r2.Now.Id, vi r2.Now.Shape.Kind, .slice A129 n130 c131, .slice A134 n135 c136]] : List (List Value)) := ⟨_, _, rfl, hd143, rfl⟩
      refine L_lit (kd := Kd.cells 11) ei43 hc142 ([[vs r2.Id, vb r2.Had, vs r2.Was.Id, vi r2.Was.Shape.Kind, .slice A118 n119 c120, .slice A123 n124 c125, vb r2.Has, vs r2.Now.Id, vi r2.Now.Shape.Kind, .slice A129 n130 c131, .slice A134 n135 c136]] : List (List Value)) (cells := [vs r2.Id, vb r2.Had, vs r2.Was.Id, vi r2.Was.Shape.Kind, .slice A118 n119 c120, .slice A123 n124 c125, vb r2.Has, vs r2.Now.Id, vi r2.Now.Shape.Kind, .slice A129 n130 c131, .slice A134 n135 c136]) ⟨[vs r2.Id, vb r2.Had, vs r2.Was.Id, vi r2.Was.Shape.Kind, .slice A118 n119 c120, .slice A123 n124 c125, vb r2.Has, vs r2.Now.Id, vi r2.Now.Shape.Kind, .slice A129 n130 c131, .slice A134 n135 c136], _, rfl, Dd.raw _ hd143, rfl⟩ (fun _ => by kernel_rfl) fun w144 A145 n146 c147 g148 hr149 hc150 h151 => ?_
      have hp154 : ((blk (.slice A145 n146 c147) :: blk (.slice A118 n119 c120) :: blk (.slice A123 n124 c125) :: blk (.slice A129 n130 c131) :: blk (.slice A134 n135 c136) :: some b99 :: blk (.slice A48 n49 c50) :: (q53 ++ [])) : Ob).Perm (blk (.slice A145 n146 c147) :: some b99 :: blk (.slice A48 n49 c50) :: (q53 ++ ((([] ++ ([] ++ (([] ++ (([] ++ [blk (.slice A118 n119 c120)]) ++ [blk (.slice A123 n124 c125)])) ++ ([] ++ ([] ++ (([] ++ [blk (.slice A129 n130 c131)]) ++ [blk (.slice A134 n135 c136)])))))) ++ []) ++ []))) := (by rw [List.perm_iff_count]; intro a; (try simp only [List.count_append, List.count_cons, List.count_nil, Nat.add_zero, Nat.zero_add]); first | done | ac_rfl)
      have hc155 := hc150.perm hp154
      obtain ⟨hb156, H⟩ := H
      have h157 := (Ow.sp (L := (blk (.slice A145 n146 c147) :: blk (.slice A118 n119 c120) :: blk (.slice A123 n124 c125) :: blk (.slice A129 n130 c131) :: blk (.slice A134 n135 c136) :: some b99 :: blk (.slice A48 n49 c50) :: (q53 ++ []))) (O := O) (((Ow.sw (L := (some b99 :: blk (.slice A48 n49 c50) :: (q53 ++ []))) (O := O) (h57.so _ g100 (oge hl101)) hc105 (i := 1) rfl (j := 0) rfl (by decide) g107).sos g115 hk141).so _ g148 hr149) hp154)
      have h158 := (Ow.sp (L := (blk (.slice A145 n146 c147) :: blk (.slice A118 n119 c120) :: blk (.slice A123 n124 c125) :: blk (.slice A129 n130 c131) :: blk (.slice A134 n135 c136) :: some b99 :: blk (.slice A48 n49 c50) :: (q53 ++ []))) (O := O) h151 hp154)
      have hd159 := (((DArr.sm (L := (some b99 :: blk (.slice A48 n49 c50) :: (q53 ++ []))) (O := O) (i := 0) (hd58.k0 g100) hc105 rfl (fun b hb => (List.mem_cons_of_mem _ (List.mem_append_left _ hb))) g107).k0 g115).k0 g148)
      have hd160 := (hd152.k0 g148)
      have hn161 : ra52.length + ([[vs r2.Id, vb r2.Had, vs r2.Was.Id, vi r2.Was.Shape.Kind, .slice A118 n119 c120, .slice A123 n124 c125, vb r2.Has, vs r2.Now.Id, vi r2.Now.Shape.Kind, .slice A129 n130 c131, .slice A134 n135 c136]] : List (List Value)).length ≤ 268435456 := by rw [hd159.len, hd160.len]; exact hb156
      refine L_app (kd := Kd.cells 11) ei43 hc155 (.slice A48 n49 c50) ra52 ([[vs r2.Id, vb r2.Had, vs r2.Was.Id, vi r2.Was.Shape.Kind, .slice A118 n119 c120, .slice A123 n124 c125, vb r2.Has, vs r2.Now.Id, vi r2.Now.Shape.Kind, .slice A129 n130 c131, .slice A134 n135 c136]] : List (List Value)) rfl h157 (.slice A145 n146 c147) rfl h158.sx 2 rfl hn161 fun w162 A163 n164 c165 g166 s167 hc168 h169 => ?_
      have hd170 := (DArr.sm (L := (blk (.slice A145 n146 c147) :: some b99 :: blk (.slice A48 n49 c50) :: (q53 ++ ((([] ++ ([] ++ (([] ++ (([] ++ [blk (.slice A118 n119 c120)]) ++ [blk (.slice A123 n124 c125)])) ++ ([] ++ ([] ++ (([] ++ [blk (.slice A129 n130 c131)]) ++ [blk (.slice A134 n135 c136)])))))) ++ []) ++ [])))) (O := O) (i := 2) hd159 hc155 rfl (fun b hb => (List.mem_append_left _ hb)) g166)
      have hd171 := (DArr.sm (L := (blk (.slice A145 n146 c147) :: some b99 :: blk (.slice A48 n49 c50) :: (q53 ++ ((([] ++ ([] ++ (([] ++ (([] ++ [blk (.slice A118 n119 c120)]) ++ [blk (.slice A123 n124 c125)])) ++ ([] ++ ([] ++ (([] ++ [blk (.slice A129 n130 c131)]) ++ [blk (.slice A134 n135 c136)])))))) ++ []) ++ [])))) (O := O) (i := 2) hd160 hc155 rfl (fun b hb => (List.mem_append_right _ (List.mem_append_left _ hb))) g166)
      have hd173 := DArr.app hd170 hd171
      have hp174 : ((blk (.slice A145 n146 c147) :: some b99 :: blk (.slice A163 n164 c165) :: (q53 ++ ((([] ++ ([] ++ (([] ++ (([] ++ [blk (.slice A118 n119 c120)]) ++ [blk (.slice A123 n124 c125)])) ++ ([] ++ ([] ++ (([] ++ [blk (.slice A129 n130 c131)]) ++ [blk (.slice A134 n135 c136)])))))) ++ []) ++ []))) : Ob).Perm ((blk (.slice A145 n146 c147) :: []) ++ (some b99 :: blk (.slice A163 n164 c165) :: (q53 ++ ((([] ++ ([] ++ (([] ++ (([] ++ [blk (.slice A118 n119 c120)]) ++ [blk (.slice A123 n124 c125)])) ++ ([] ++ ([] ++ (([] ++ [blk (.slice A129 n130 c131)]) ++ [blk (.slice A134 n135 c136)])))))) ++ []) ++ [])))) := (by rw [List.perm_iff_count]; intro a; (try simp only [List.count_append, List.count_cons, List.count_nil, Nat.add_zero, Nat.zero_add]); first | done | ac_rfl)
      have hc175 := hc168.drops hp174
      have hp176 : ((some b99 :: blk (.slice A163 n164 c165) :: (q53 ++ ((([] ++ ([] ++ (([] ++ (([] ++ [blk (.slice A118 n119 c120)]) ++ [blk (.slice A123 n124 c125)])) ++ ([] ++ ([] ++ (([] ++ [blk (.slice A129 n130 c131)]) ++ [blk (.slice A134 n135 c136)])))))) ++ []) ++ []))) : Ob).Perm (some b99 :: blk (.slice A163 n164 c165) :: ((q53 ++ (([] ++ ([] ++ (([] ++ (([] ++ [blk (.slice A118 n119 c120)]) ++ [blk (.slice A123 n124 c125)])) ++ ([] ++ ([] ++ (([] ++ [blk (.slice A129 n130 c131)]) ++ [blk (.slice A134 n135 c136)])))))) ++ [])) ++ [])) := (by rw [List.perm_iff_count]; intro a; (try simp only [List.count_append, List.count_cons, List.count_nil, Nat.add_zero, Nat.zero_add]); first | done | ac_rfl)
      have hc177 := hc175.perm hp176
      refine L_pu (P_assign (.slice A163 n164 c165) rfl) ?_
      refine L_nil ?_
      refine W_reg ?_
      obtain ⟨hb178, H⟩ := H
      refine L_pu (P_add v2 1 rfl rfl hb178) ?_
      refine L_pu (P_move (vi (v2 + 1)) rfl) ?_
      refine L_nil ?_
      have hc179 := hc177.drop 0 rfl
      obtain ⟨hI180, hm181⟩ := H
      have h182 := (((((((((h56.st (.own _ _ g100 (oge hl101))).st (.wl (L := (some b99 :: blk (.slice A48 n49 c50) :: (q53 ++ []))) (O := O) (j := 0) rfl g107)).st (.owns _ g115 hk141)).st (.own _ _ g148 hr149)).st (.perm (L := (blk (.slice A145 n146 c147) :: blk (.slice A118 n119 c120) :: blk (.slice A123 n124 c125) :: blk (.slice A129 n130 c131) :: blk (.slice A134 n135 c136) :: some b99 :: blk (.slice A48 n49 c50) :: (q53 ++ []))) (O := O) hp154)).st s167).st (St.drops _ O hp174)).st (.perm (L := (some b99 :: blk (.slice A163 n164 c165) :: (q53 ++ ((([] ++ ([] ++ (([] ++ (([] ++ [blk (.slice A118 n119 c120)]) ++ [blk (.slice A123 n124 c125)])) ++ ([] ++ ([] ++ (([] ++ [blk (.slice A129 n130 c131)]) ++ [blk (.slice A134 n135 c136)])))))) ++ []) ++ [])))) (O := O) hp176)).st (.dr _ (L := (some b99 :: blk (.slice A163 n164 c165) :: ((q53 ++ (([] ++ ([] ++ (([] ++ (([] ++ [blk (.slice A118 n119 c120)]) ++ [blk (.slice A123 n124 c125)])) ++ ([] ++ ([] ++ (([] ++ [blk (.slice A129 n130 c131)]) ++ [blk (.slice A134 n135 c136)])))))) ++ [])) ++ []))) (O := O) (j := 0) rfl))
      have h183 := (Ow.sd (L := (some b99 :: blk (.slice A163 n164 c165) :: ((q53 ++ (([] ++ ([] ++ (([] ++ (([] ++ [blk (.slice A118 n119 c120)]) ++ [blk (.slice A123 n124 c125)])) ++ ([] ++ ([] ++ (([] ++ [blk (.slice A129 n130 c131)]) ++ [blk (.slice A134 n135 c136)])))))) ++ [])) ++ []))) (O := O) (Ow.sp (L := (some b99 :: blk (.slice A163 n164 c165) :: (q53 ++ ((([] ++ ([] ++ (([] ++ (([] ++ [blk (.slice A118 n119 c120)]) ++ [blk (.slice A123 n124 c125)])) ++ ([] ++ ([] ++ (([] ++ [blk (.slice A129 n130 c131)]) ++ [blk (.slice A134 n135 c136)])))))) ++ []) ++ [])))) (O := O) (Ow.drops (L := (blk (.slice A145 n146 c147) :: some b99 :: blk (.slice A163 n164 c165) :: (q53 ++ ((([] ++ ([] ++ (([] ++ (([] ++ [blk (.slice A118 n119 c120)]) ++ [blk (.slice A123 n124 c125)])) ++ ([] ++ ([] ++ (([] ++ [blk (.slice A129 n130 c131)]) ++ [blk (.slice A134 n135 c136)])))))) ++ []) ++ [])))) (O := O) h169 hp174 (memi 1 rfl)) hp176) (i := 1) rfl (j := 0) rfl (by decide))
      have hd184 := hd173
      exact ⟨((xs2 ++ ([r2] : List Change)), (ra52 ++ ([[vs r2.Id, vb r2.Had, vs r2.Was.Id, vi r2.Was.Shape.Kind, .slice A118 n119 c120, .slice A123 n124 c125, vb r2.Has, vs r2.Now.Id, vi r2.Now.Shape.Kind, .slice A129 n130 c131, .slice A134 n135 c136]] : List (List Value))), (q53 ++ (([] ++ ([] ++ (([] ++ (([] ++ [blk (.slice A118 n119 c120)]) ++ [blk (.slice A123 n124 c125)])) ++ ([] ++ ([] ++ (([] ++ [blk (.slice A129 n130 c131)]) ++ [blk (.slice A134 n135 c136)])))))) ++ [])), A163, n164, c165, v2 + 1), hm181, hI180, ⟨rfl, rfl, rfl, rfl, trivial⟩, hc179, h182, h183, hd184⟩
    · have H := ite_f H hq67
      refine W_exit (xin_hit ?_)
      refine W_seq ?_
      refine W_reg ?_
      refine L_pu (P_move (.slice A48 n49 c50) rfl) ?_
      refine L_pu (P_assign (.slice A48 n49 c50) rfl) ?_
      refine L_nil ?_
      refine W_ret ?_
      exact ⟨[.slice A48 n49 c50], ⟨_, rfl, rfl⟩, xs2, A48, n49, c50, q53, ra52, rfl, H, hc55.gr.g0, hc55.ok, hc55.ge, h57, hd58⟩
end Go.Proofs.Ytndjggncgpjolaa

namespace Go.Proofs.Ytndjggncgpjolaa
open Go.RowKit
set_option linter.unusedVariables false
def laws_eqPt.E (a : Pt) (b : Pt) (Q : Bool → Prop) : Prop :=
  (if a.X != b.X then Q false else (if a.Y != b.Y then Q false else Q true))
set_option maxHeartbeats 8000000 in
set_option maxRecDepth 100000 in
theorem laws_eqPt.calls {O : Ob} (w0 : World) (hO : Ok w0 O) (a : Pt) (b : Pt) (Q : Bool → Prop) (h : laws_eqPt.E a b Q) :
    Ret Try.prog 171 [.agg #[vi a.X, vi a.Y], .agg #[vi b.X, vi b.Y]] w0 (fun v w' => ∃ (r0 : Bool), v = vb r0 ∧ Q r0 ∧ Gr w0 w' none) := by
  have H : (if a.X != b.X then Q false else (if a.Y != b.Y then Q false else Q true)) := h
  clear h
  have hc0 := Ct.init hO
  refine Ret_enter Try.func171 rfl 15 rfl [.tmp 4] rfl rfl ?_
  refine W_seq ?_
  refine W_reg ?_
  refine L_box [vi a.X, vi a.Y] rfl fun w1 b2 hl4 hu5 g3 hx6 => ?_
  have h8 := Fb.mk hc0.ok hl4 hx6
  have hc9 := hc0.k0 g3
  refine L_box [vi b.X, vi b.Y] rfl fun w10 b11 hl13 hu14 g12 hx15 => ?_
  have h17 := Fb.mk hc9.ok hl13 hx15
  have hc18 := hc9.k0 g12
  refine L_pu (P_assign (vb false) rfl) ?_
  refine L_nil ?_
  refine W_seq ?_
  refine W_seq ?_
  refine W_reg ?_
  refine L_pu (P_fa fa29_0 ⟨b2, 0, none⟩ ⟨b2, 0, none⟩ rfl rfl) ?_
  have h19 := (h8.st (.new _ g12))
  refine L_pu (P_ld ag3 cL ⟨b2, 0, none⟩ (vi a.X) rfl (h19.cell rfl)) ?_
  refine L_pu (P_fa fa29_0 ⟨b11, 0, none⟩ ⟨b11, 0, none⟩ rfl rfl) ?_
  refine L_pu (P_ld ag3 cL ⟨b11, 0, none⟩ (vi b.X) rfl (h17.cell rfl)) ?_
  refine L_pu (P_cmp a.X b.X (a.X != b.X) rfl rfl rfl) ?_
  refine L_nil ?_
  refine W_cond (a.X != b.X) rfl (fun hq20 => ?_) (fun hq20 => ?_)
  · have H := ite_t H hq20
    refine W_seq ?_
    refine W_reg ?_
    refine L_pu (P_assign (vb false) rfl) ?_
    refine L_nil ?_
    refine W_ret ?_
    exact ⟨[vb false], ⟨_, rfl, rfl⟩, false, rfl, H, hc18.gr.g0⟩
  · have H := ite_f H hq20
    refine W_skip ?_
    refine W_seq ?_
    refine W_seq ?_
    refine W_reg ?_
    refine L_pu (P_fa fa29_1 ⟨b2, 0, none⟩ ⟨b2, 1, none⟩ rfl rfl) ?_
    refine L_pu (P_ld ag3 cL ⟨b2, 1, none⟩ (vi a.Y) rfl (h19.cell rfl)) ?_
    refine L_pu (P_fa fa29_1 ⟨b11, 0, none⟩ ⟨b11, 1, none⟩ rfl rfl) ?_
    refine L_pu (P_ld ag3 cL ⟨b11, 1, none⟩ (vi b.Y) rfl (h17.cell rfl)) ?_
    refine L_pu (P_cmp a.Y b.Y (a.Y != b.Y) rfl rfl rfl) ?_
    refine L_nil ?_
    refine W_cond (a.Y != b.Y) rfl (fun hq21 => ?_) (fun hq21 => ?_)
    · have H := ite_t H hq21
      refine W_seq ?_
      refine W_reg ?_
      refine L_pu (P_assign (vb false) rfl) ?_
      refine L_nil ?_
      refine W_ret ?_
      exact ⟨[vb false], ⟨_, rfl, rfl⟩, false, rfl, H, hc18.gr.g0⟩
    · have H := ite_f H hq21
      refine W_skip ?_
      refine W_seq ?_
      refine W_reg ?_
      refine L_pu (P_assign (vb true) rfl) ?_
      refine L_nil ?_
      refine W_ret ?_
      exact ⟨[vb true], ⟨_, rfl, rfl⟩, true, rfl, H, hc18.gr.g0⟩
def laws_eqPt.m (a : Pt) (b : Pt) : Bool := (if a.X != b.X then false else (if a.Y != b.Y then false else true))
theorem laws_eqPt.fn (a : Pt) (b : Pt) : laws_eqPt.E a b (fun r => r = laws_eqPt.m a b) := by
  unfold laws_eqPt.E laws_eqPt.m
  (repeat' split) <;> simp_all
end Go.Proofs.Ytndjggncgpjolaa

namespace Go.Proofs.Ytndjggncgpjolaa
set_option linter.unusedVariables false
set_option linter.unusedSimpArgs false
set_option linter.unusedSectionVars false
theorem laws_eqPt.law (a b : Pt) (Q : Bool → Prop) (hq : Q (decide (a = b))) : laws_eqPt.E a b Q := by
  obtain ⟨x0, x1⟩ := a; obtain ⟨y0, y1⟩ := b
  rw [show (decide ((⟨x0, x1⟩ : Pt) = ⟨y0, y1⟩)) = ((decide (x0 = y0)) && (decide (x1 = y1))) by simp only [Pt.mk.injEq, Bool.decide_and]] at hq
  unfold laws_eqPt.E
  by_cases h0 : x0 = y0
  case neg => simpa [h0] using hq
  simp only [h0, decide_true, Bool.true_and, bne_self_eq_false, Bool.not_true, Bool.false_eq_true, if_false] at hq ⊢
  by_cases h1 : x1 = y1
  case neg => simpa [h1] using hq
  simp only [h1, decide_true, Bool.true_and, bne_self_eq_false, Bool.not_true, Bool.false_eq_true, if_false] at hq ⊢
  all_goals (try exact hq)
theorem laws_eqPt.is (a b : Pt) : laws_eqPt.E a b (fun r => r = decide (a = b)) := laws_eqPt.law a b _ rfl
end Go.Proofs.Ytndjggncgpjolaa

namespace Go.Proofs.Ytndjggncgpjolaa
open Go.RowKit
set_option linter.unusedVariables false
def laws_eqPtS.E (a : List Pt) (b : List Pt) (Q : Bool → Prop) : Prop :=
  (if (a.length : Int) != (b.length : Int) then Q false else (∃ (I32 : Int → Prop) (mu33 : Int → Nat), I32 0 ∧ ∀ (i2 : Int), I32 i2 → (if decide (i2 < (a.length : Int)) then ((0 : Int) ≤ i2 ∧ i2 < (a.length : Int)) ∧ ((0 : Int) ≤ i2 ∧ i2 < (b.length : Int)) ∧ (if !(decide ((nth a i2) = (nth b i2))) then Q false else (-9223372036854775808 ≤ i2) ∧ I32 (i2 + 1) ∧ mu33 (i2 + 1) < mu33 i2) else Q true)))
set_option maxHeartbeats 8000000 in
set_option maxRecDepth 100000 in
theorem laws_eqPtS.calls {O : Ob} (w0 : World) (hO : Ok w0 O) (a : List Pt) (A1 : Option Addr) (n2 c3 : Nat) (hp4 : Sl kPt w0 (Fr O) (.slice A1 n2 c3) a) (b : List Pt) (A6 : Option Addr) (n7 c8 : Nat) (hp9 : Sl kPt w0 (Fr O) (.slice A6 n7 c8) b) (Q : Bool → Prop) (h : laws_eqPtS.E a b Q) :
    Ret Try.prog 144 [.slice A1 n2 c3, .slice A6 n7 c8] w0 (fun v w' => ∃ (r0 : Bool), v = vb r0 ∧ Q r0 ∧ Gr w0 w' none) := by
  have H : (if (a.length : Int) != (b.length : Int) then Q false else (∃ (I32 : Int → Prop) (mu33 : Int → Nat), I32 0 ∧ ∀ (i2 : Int), I32 i2 → (if decide (i2 < (a.length : Int)) then ((0 : Int) ≤ i2 ∧ i2 < (a.length : Int)) ∧ ((0 : Int) ≤ i2 ∧ i2 < (b.length : Int)) ∧ (if !(decide ((nth a i2) = (nth b i2))) then Q false else (-9223372036854775808 ≤ i2) ∧ I32 (i2 + 1) ∧ mu33 (i2 + 1) < mu33 i2) else Q true))) := h
  clear h
  have hc0 := Ct.init hO
  refine Ret_enter Try.func144 rfl 27 rfl [.tmp 4] rfl rfl ?_
  refine W_seq ?_
  refine W_reg ?_
  refine L_pu (P_assign (vb false) rfl) ?_
  refine L_nil ?_
  refine W_seq ?_
  refine W_seq ?_
  refine W_reg ?_
  refine L_pu (P_move (.slice A1 n2 c3) rfl) ?_
  have hl11 := hp4.le
  refine L_pu (P_len Try.underlying23 A1 n2 c3 hp4.len rfl) ?_
  refine L_pu (P_move (.slice A6 n7 c8) rfl) ?_
  have hl12 := hp9.le
  refine L_pu (P_len Try.underlying23 A6 n7 c8 hp9.len rfl) ?_
  refine L_pu (P_cmp (a.length : Int) (b.length : Int) ((a.length : Int) != (b.length : Int)) rfl rfl rfl) ?_
  refine L_nil ?_
  refine W_cond ((a.length : Int) != (b.length : Int)) rfl (fun hq13 => ?_) (fun hq13 => ?_)
  · have H := ite_t H hq13
    refine W_seq ?_
    refine W_reg ?_
    refine L_pu (P_assign (vb false) rfl) ?_
    refine L_nil ?_
    refine W_ret ?_
    exact ⟨[vb false], ⟨_, rfl, rfl⟩, false, rfl, H, hc0.gr.g0⟩
  · have H := ite_f H hq13
    refine W_skip ?_
    refine W_seq ?_
    refine W_seq ?_
    refine W_reg ?_
    refine L_pu (P_assign (vi 0) rfl) ?_
    refine L_nil ?_
    refine W_block ?_
    obtain ⟨I32, mu33, hI34, H⟩ := H
    refine W_loop (α := Int) (fun (sv__ : Int) t w26 => match sv__ with | i2 => I32 i2 ∧ Has t [(0, .slice A1 n2 c3), (1, .slice A6 n7 c8), (5, vi i2)] ∧ Ct [] w0 w26 [] O ∧ Sl kPt w26 (Fr ([] ++ O)) (.slice A1 n2 c3) a ∧ Sl kPt w26 (Fr ([] ++ O)) (.slice A6 n7 c8) b) (fun (sv__ : Int) => match sv__ with | i2 => mu33 i2) 0 ⟨hI34, ⟨rfl, rfl, rfl, trivial⟩, hc0, hp4, hp9⟩ ?_
    rintro i2 _ w26 ⟨hI34, hh36, hc29, h30, h31⟩
    obtain ⟨u37, rfl⟩ := Has.ins hh36
    have H := H i2 hI34
    refine W_seq ?_
    refine W_seq ?_
    refine W_reg ?_
    refine L_pu (P_move (vi i2) rfl) ?_
    refine L_pu (P_move (.slice A1 n2 c3) rfl) ?_
    have hl38 := h30.le
    refine L_pu (P_len Try.underlying23 A1 n2 c3 h30.len rfl) ?_
    refine L_pu (P_cmp i2 (a.length : Int) (decide (i2 < (a.length : Int))) rfl rfl rfl) ?_
    refine L_nil ?_
    refine W_cond (decide (i2 < (a.length : Int))) rfl (fun hq39 => ?_) (fun hq39 => ?_)
    · have H := ite_t H hq39
      refine W_skip ?_
      refine W_seq ?_
      refine W_block ?_
      refine W_seq ?_
      refine W_draw (fun x => Gr w26 x none) (by kernel_rfl) (by kernel_rfl) (Gr.drew _) ?_
      refine Q_pu (P_move (.slice A1 n2 c3) rfl) ?_
      refine Q_pu (P_move (vi i2) rfl) ?_
      obtain ⟨hb40, H⟩ := H
      obtain ⟨ad41, cs42, hA43, hS46, hR44, hcl45⟩ := h30.get default (by decide) i2 hb40
      obtain rfl := kPt.op hR44
      refine Q_pu (P_ia Try.underlying23 se23 A1 ad41 n2 c3 h30.len i2 rfl hA43 rfl hb40) ?_
      refine Q_pu (P_lda ag29 sz29 cQ (ad41.add (i2.toNat * 2)) [vi ((nth a i2).X), vi ((nth a i2).Y)] rfl rfl hcl45) ?_
      refine Q_pu (P_move (.slice A6 n7 c8) rfl) ?_
      refine Q_pu (P_move (vi i2) rfl) ?_
      obtain ⟨hb47, H⟩ := H
      obtain ⟨ad48, cs49, hA50, hS53, hR51, hcl52⟩ := h31.get default (by decide) i2 hb47
      obtain rfl := kPt.op hR51
      refine Q_pu (P_ia Try.underlying23 se23 A6 ad48 n7 c8 h31.len i2 rfl hA50 rfl hb47) ?_
      refine Q_pu (P_lda ag29 sz29 cQ (ad48.add (i2.toNat * 2)) [vi ((nth b i2).X), vi ((nth b i2).Y)] rfl rfl hcl52) ?_
      refine Q_call go171 [.agg #[vi ((nth a i2).X), vi ((nth a i2).Y)], .agg #[vi ((nth b i2).X), vi ((nth b i2).Y)]] rfl (vb (decide ((nth a i2) = (nth b i2)))) (fun w g => (laws_eqPt.calls w (hc29.k0 g).ok (nth a i2) (nth b i2) _ (laws_eqPt.is (nth a i2) (nth b i2))).mono ?_) ?_
      · rintro _ w ⟨r, rfl, rfl, g2⟩
        exact ⟨rfl, Gr.t0 g g2⟩
      refine Q_pu (P_not (decide ((nth a i2) = (nth b i2))) rfl) ?_
      refine Q_nil fun w59 g60 => ?_
      have hc62 := hc29.k0 g60
      refine W_cond (!(decide ((nth a i2) = (nth b i2)))) rfl (fun hq63 => ?_) (fun hq63 => ?_)
      · have H := ite_t H hq63
        refine W_seq ?_
        refine W_reg ?_
        refine L_pu (P_assign (vb false) rfl) ?_
        refine L_nil ?_
        refine W_ret ?_
        exact ⟨[vb false], ⟨_, rfl, rfl⟩, false, rfl, H, hc62.gr.g0⟩
      · have H := ite_f H hq63
        refine W_skip ?_
        refine W_reg ?_
        refine L_pu (P_move (vi i2) rfl) ?_
        obtain ⟨hb65, H⟩ := H
        have hi64 : I64 (i2 + 1) := i64_succ (of_decide_eq_true hq39) hl38 hb65
        refine L_pu (P_add i2 1 rfl rfl hi64) ?_
        refine L_pu (P_assign (vi (i2 + 1)) rfl) ?_
        refine L_nil ?_
        obtain ⟨hI66, hm67⟩ := H
        exact ⟨i2 + 1, hm67, hI66, ⟨rfl, rfl, rfl, trivial⟩, hc62, (h30.st (.new _ g60)), (h31.st (.new _ g60))⟩
    · have H := ite_f H hq39
      refine W_exit (xin_hit ?_)
      refine W_seq ?_
      refine W_reg ?_
      refine L_pu (P_assign (vb true) rfl) ?_
      refine L_nil ?_
      refine W_ret ?_
      exact ⟨[vb true], ⟨_, rfl, rfl⟩, true, rfl, H, hc29.gr.g0⟩
end Go.Proofs.Ytndjggncgpjolaa

namespace Go.Proofs.Ytndjggncgpjolaa
set_option linter.unusedVariables false
set_option linter.unusedSimpArgs false
set_option linter.unusedSectionVars false
theorem laws_eqPtS.law (a b : List Pt) (Q : Bool → Prop) (hq : Q (decide (a = b))) : laws_eqPtS.E a b Q := by
  unfold laws_eqPtS.E
  exact eqS_shape (fun x y => decide (x = y)) (fun _ _ => rfl) a b Q hq
theorem laws_eqPtS.is (a b : List Pt) : laws_eqPtS.E a b (fun r => r = decide (a = b)) := laws_eqPtS.law a b _ rfl
end Go.Proofs.Ytndjggncgpjolaa

namespace Go.Proofs.Ytndjggncgpjolaa
open Go.RowKit
set_option linter.unusedVariables false
def laws_eqShape.E (a : Shape) (b : Shape) (Q : Bool → Prop) : Prop :=
  (if a.Kind != b.Kind then Q false else laws_eqPtS.E a.Pts b.Pts (fun r => (if !r then Q false else Q true)))
set_option maxHeartbeats 8000000 in
set_option maxRecDepth 100000 in
theorem laws_eqShape.calls {O : Ob} (w0 : World) (hO : Ok w0 O) (a : Shape) (A1 : Option Addr) (n2 c3 : Nat) (hp4 : Sl kPt w0 (Fr O) (.slice A1 n2 c3) a.Pts) (b : Shape) (A6 : Option Addr) (n7 c8 : Nat) (hp9 : Sl kPt w0 (Fr O) (.slice A6 n7 c8) b.Pts) (Q : Bool → Prop) (h : laws_eqShape.E a b Q) :
    Ret Try.prog 103 [.agg #[vi a.Kind, .slice A1 n2 c3], .agg #[vi b.Kind, .slice A6 n7 c8]] w0 (fun v w' => ∃ (r0 : Bool), v = vb r0 ∧ Q r0 ∧ Gr w0 w' none) := by
  have H : (if a.Kind != b.Kind then Q false else laws_eqPtS.E a.Pts b.Pts (fun r => (if !r then Q false else Q true))) := h
  clear h
  have hc0 := Ct.init hO
  refine Ret_enter Try.func103 rfl 16 rfl [.tmp 4] rfl rfl ?_
  refine W_seq ?_
  refine W_reg ?_
  refine L_box [vi a.Kind, .slice A1 n2 c3] rfl fun w11 b12 hl14 hu15 g13 hx16 => ?_
  have h18 := Fb.mk hc0.ok hl14 hx16
  have hc19 := hc0.k0 g13
  refine L_box [vi b.Kind, .slice A6 n7 c8] rfl fun w20 b21 hl23 hu24 g22 hx25 => ?_
  have h27 := Fb.mk hc19.ok hl23 hx25
  have hc28 := hc19.k0 g22
  refine L_pu (P_assign (vb false) rfl) ?_
  refine L_nil ?_
  refine W_seq ?_
  refine W_seq ?_
  refine W_reg ?_
  refine L_pu (P_fa fa68_0 ⟨b12, 0, none⟩ ⟨b12, 0, none⟩ rfl rfl) ?_
  have h29 := (h18.st (.new _ g22))
  refine L_pu (P_ld ag3 cL ⟨b12, 0, none⟩ (vi a.Kind) rfl (h29.cell rfl)) ?_
  refine L_pu (P_fa fa68_0 ⟨b21, 0, none⟩ ⟨b21, 0, none⟩ rfl rfl) ?_
  refine L_pu (P_ld ag3 cL ⟨b21, 0, none⟩ (vi b.Kind) rfl (h27.cell rfl)) ?_
  refine L_pu (P_cmp a.Kind b.Kind (a.Kind != b.Kind) rfl rfl rfl) ?_
  refine L_nil ?_
  refine W_cond (a.Kind != b.Kind) rfl (fun hq30 => ?_) (fun hq30 => ?_)
  · have H := ite_t H hq30
    refine W_seq ?_
    refine W_reg ?_
    refine L_pu (P_assign (vb false) rfl) ?_
    refine L_nil ?_
    refine W_ret ?_
    exact ⟨[vb false], ⟨_, rfl, rfl⟩, false, rfl, H, hc28.gr.g0⟩
  · have H := ite_f H hq30
    refine W_skip ?_
    refine W_seq ?_
    refine W_seq ?_
    refine W_reg ?_
    refine L_pu (P_fa fa68_1 ⟨b12, 0, none⟩ ⟨b12, 1, none⟩ rfl rfl) ?_
    refine L_pu (P_ld ag23 cL ⟨b12, 1, none⟩ (.slice A1 n2 c3) rfl (h29.cell rfl)) ?_
    refine L_pu (P_fa fa68_1 ⟨b21, 0, none⟩ ⟨b21, 1, none⟩ rfl rfl) ?_
    refine L_pu (P_ld ag23 cL ⟨b21, 1, none⟩ (.slice A6 n7 c8) rfl (h27.cell rfl)) ?_
    refine L_call go144 [.slice A1 n2 c3, .slice A6 n7 c8] rfl ((laws_eqPtS.calls w20 hc28.ok a.Pts A1 n2 c3 (hp4.st hc28.st) b.Pts A6 n7 c8 (hp9.st hc28.st) _ H).mono ?_)
    rintro _ w31 ⟨r, rfl, H, g32⟩
    have hc36 := hc28.k0 g32
    refine L_pu (P_not r rfl) ?_
    refine L_nil ?_
    refine W_cond (!r) rfl (fun hq37 => ?_) (fun hq37 => ?_)
    · have H := ite_t H hq37
      refine W_seq ?_
      refine W_reg ?_
      refine L_pu (P_assign (vb false) rfl) ?_
      refine L_nil ?_
      refine W_ret ?_
      exact ⟨[vb false], ⟨_, rfl, rfl⟩, false, rfl, H, hc36.gr.g0⟩
    · have H := ite_f H hq37
      refine W_skip ?_
      refine W_seq ?_
      refine W_reg ?_
      refine L_pu (P_assign (vb true) rfl) ?_
      refine L_nil ?_
      refine W_ret ?_
      exact ⟨[vb true], ⟨_, rfl, rfl⟩, true, rfl, H, hc36.gr.g0⟩
end Go.Proofs.Ytndjggncgpjolaa

namespace Go.Proofs.Ytndjggncgpjolaa
set_option linter.unusedVariables false
set_option linter.unusedSimpArgs false
set_option linter.unusedSectionVars false
theorem laws_eqShape.law (a b : Shape) (Q : Bool → Prop) (hq : Q (decide (a = b))) : laws_eqShape.E a b Q := by
  obtain ⟨x0, x1⟩ := a; obtain ⟨y0, y1⟩ := b
  rw [show (decide ((⟨x0, x1⟩ : Shape) = ⟨y0, y1⟩)) = ((decide (x0 = y0)) && (decide (x1 = y1))) by simp only [Shape.mk.injEq, Bool.decide_and]] at hq
  unfold laws_eqShape.E
  by_cases h0 : x0 = y0
  case neg => simpa [h0] using hq
  simp only [h0, decide_true, Bool.true_and, bne_self_eq_false, Bool.not_true, Bool.false_eq_true, if_false] at hq ⊢
  try refine laws_eqPtS.law _ _ _ ?_
  by_cases h1 : x1 = y1
  case neg => simpa [h1] using hq
  simp only [h1, decide_true, Bool.true_and, bne_self_eq_false, Bool.not_true, Bool.false_eq_true, if_false] at hq ⊢
  all_goals (try exact hq)
theorem laws_eqShape.is (a b : Shape) : laws_eqShape.E a b (fun r => r = decide (a = b)) := laws_eqShape.law a b _ rfl
end Go.Proofs.Ytndjggncgpjolaa

namespace Go.Proofs.Ytndjggncgpjolaa
open Go.RowKit
set_option linter.unusedVariables false
def laws_eqTag.E (a : Tag) (b : Tag) (Q : Bool → Prop) : Prop :=
  (if a.Key != b.Key then Q false else (if a.Val != b.Val then Q false else Q true))
set_option maxHeartbeats 8000000 in
set_option maxRecDepth 100000 in
theorem laws_eqTag.calls {O : Ob} (w0 : World) (hO : Ok w0 O) (a : Tag) (hs1 : Lim a.Key) (hs2 : Lim a.Val) (b : Tag) (hs3 : Lim b.Key) (hs4 : Lim b.Val) (Q : Bool → Prop) (h : laws_eqTag.E a b Q) :
    Ret Try.prog 145 [.agg #[vs a.Key, vs a.Val], .agg #[vs b.Key, vs b.Val]] w0 (fun v w' => ∃ (r0 : Bool), v = vb r0 ∧ Q r0 ∧ Gr w0 w' none) := by
  have H : (if a.Key != b.Key then Q false else (if a.Val != b.Val then Q false else Q true)) := h
  clear h
  have hc0 := Ct.init hO
  refine Ret_enter Try.func145 rfl 15 rfl [.tmp 4] rfl rfl ?_
  refine W_seq ?_
  refine W_reg ?_
  refine L_box [vs a.Key, vs a.Val] rfl fun w5 b6 hl8 hu9 g7 hx10 => ?_
  have h12 := Fb.mk hc0.ok hl8 hx10
  have hc13 := hc0.k0 g7
  refine L_box [vs b.Key, vs b.Val] rfl fun w14 b15 hl17 hu18 g16 hx19 => ?_
  have h21 := Fb.mk hc13.ok hl17 hx19
  have hc22 := hc13.k0 g16
  refine L_pu (P_assign (vb false) rfl) ?_
  refine L_nil ?_
  refine W_seq ?_
  refine W_seq ?_
  refine W_reg ?_
  refine L_pu (P_fa fa133_0 ⟨b6, 0, none⟩ ⟨b6, 0, none⟩ rfl rfl) ?_
  have h23 := (h12.st (.new _ g16))
  refine L_pu (P_ld ag9 cL ⟨b6, 0, none⟩ (vs a.Key) rfl (h23.cell rfl)) ?_
  refine L_pu (P_fa fa133_0 ⟨b15, 0, none⟩ ⟨b15, 0, none⟩ rfl rfl) ?_
  refine L_pu (P_ld ag9 cL ⟨b15, 0, none⟩ (vs b.Key) rfl (h21.cell rfl)) ?_
  refine L_pu (P_scmp a.Key b.Key (a.Key != b.Key) rfl rfl rfl) ?_
  refine L_nil ?_
  refine W_cond (a.Key != b.Key) rfl (fun hq24 => ?_) (fun hq24 => ?_)
  · have H := ite_t H hq24
    refine W_seq ?_
    refine W_reg ?_
    refine L_pu (P_assign (vb false) rfl) ?_
    refine L_nil ?_
    refine W_ret ?_
    exact ⟨[vb false], ⟨_, rfl, rfl⟩, false, rfl, H, hc22.gr.g0⟩
  · have H := ite_f H hq24
    refine W_skip ?_
    refine W_seq ?_
    refine W_seq ?_
    refine W_reg ?_
    refine L_pu (P_fa fa133_1 ⟨b6, 0, none⟩ ⟨b6, 1, none⟩ rfl rfl) ?_
    refine L_pu (P_ld ag9 cL ⟨b6, 1, none⟩ (vs a.Val) rfl (h23.cell rfl)) ?_
    refine L_pu (P_fa fa133_1 ⟨b15, 0, none⟩ ⟨b15, 1, none⟩ rfl rfl) ?_
    refine L_pu (P_ld ag9 cL ⟨b15, 1, none⟩ (vs b.Val) rfl (h21.cell rfl)) ?_
    refine L_pu (P_scmp a.Val b.Val (a.Val != b.Val) rfl rfl rfl) ?_
    refine L_nil ?_
    refine W_cond (a.Val != b.Val) rfl (fun hq25 => ?_) (fun hq25 => ?_)
    · have H := ite_t H hq25
      refine W_seq ?_
      refine W_reg ?_
      refine L_pu (P_assign (vb false) rfl) ?_
      refine L_nil ?_
      refine W_ret ?_
      exact ⟨[vb false], ⟨_, rfl, rfl⟩, false, rfl, H, hc22.gr.g0⟩
    · have H := ite_f H hq25
      refine W_skip ?_
      refine W_seq ?_
      refine W_reg ?_
      refine L_pu (P_assign (vb true) rfl) ?_
      refine L_nil ?_
      refine W_ret ?_
      exact ⟨[vb true], ⟨_, rfl, rfl⟩, true, rfl, H, hc22.gr.g0⟩
def laws_eqTag.m (a : Tag) (b : Tag) : Bool := (if a.Key != b.Key then false else (if a.Val != b.Val then false else true))
theorem laws_eqTag.fn (a : Tag) (b : Tag) : laws_eqTag.E a b (fun r => r = laws_eqTag.m a b) := by
  unfold laws_eqTag.E laws_eqTag.m
  (repeat' split) <;> simp_all
end Go.Proofs.Ytndjggncgpjolaa

namespace Go.Proofs.Ytndjggncgpjolaa
set_option linter.unusedVariables false
set_option linter.unusedSimpArgs false
set_option linter.unusedSectionVars false
theorem laws_eqTag.law (a b : Tag) (Q : Bool → Prop) (hq : Q (decide (a = b))) : laws_eqTag.E a b Q := by
  obtain ⟨x0, x1⟩ := a; obtain ⟨y0, y1⟩ := b
  rw [show (decide ((⟨x0, x1⟩ : Tag) = ⟨y0, y1⟩)) = ((decide (x0 = y0)) && (decide (x1 = y1))) by simp only [Tag.mk.injEq, Bool.decide_and]] at hq
  unfold laws_eqTag.E
  by_cases h0 : x0 = y0
  case neg => simpa [h0] using hq
  simp only [h0, decide_true, Bool.true_and, bne_self_eq_false, Bool.not_true, Bool.false_eq_true, if_false] at hq ⊢
  by_cases h1 : x1 = y1
  case neg => simpa [h1] using hq
  simp only [h1, decide_true, Bool.true_and, bne_self_eq_false, Bool.not_true, Bool.false_eq_true, if_false] at hq ⊢
  all_goals (try exact hq)
theorem laws_eqTag.is (a b : Tag) : laws_eqTag.E a b (fun r => r = decide (a = b)) := laws_eqTag.law a b _ rfl
end Go.Proofs.Ytndjggncgpjolaa

namespace Go.Proofs.Ytndjggncgpjolaa
open Go.RowKit
set_option linter.unusedVariables false
def laws_eqTagS.E (a : List Tag) (b : List Tag) (Q : Bool → Prop) : Prop :=
  (if (a.length : Int) != (b.length : Int) then Q false else (∃ (I32 : Int → Prop) (mu33 : Int → Nat), I32 0 ∧ ∀ (i2 : Int), I32 i2 → (if decide (i2 < (a.length : Int)) then ((0 : Int) ≤ i2 ∧ i2 < (a.length : Int)) ∧ ((0 : Int) ≤ i2 ∧ i2 < (b.length : Int)) ∧ (if !(decide ((nth a i2) = (nth b i2))) then Q false else (-9223372036854775808 ≤ i2) ∧ I32 (i2 + 1) ∧ mu33 (i2 + 1) < mu33 i2) else Q true)))
set_option maxHeartbeats 8000000 in
set_option maxRecDepth 100000 in
theorem laws_eqTagS.calls {O : Ob} (w0 : World) (hO : Ok w0 O) (a : List Tag) (A1 : Option Addr) (n2 c3 : Nat) (hp4 : Sl kTag w0 (Fr O) (.slice A1 n2 c3) a) (b : List Tag) (A6 : Option Addr) (n7 c8 : Nat) (hp9 : Sl kTag w0 (Fr O) (.slice A6 n7 c8) b) (Q : Bool → Prop) (h : laws_eqTagS.E a b Q) :
    Ret Try.prog 104 [.slice A1 n2 c3, .slice A6 n7 c8] w0 (fun v w' => ∃ (r0 : Bool), v = vb r0 ∧ Q r0 ∧ Gr w0 w' none) := by
  have H : (if (a.length : Int) != (b.length : Int) then Q false else (∃ (I32 : Int → Prop) (mu33 : Int → Nat), I32 0 ∧ ∀ (i2 : Int), I32 i2 → (if decide (i2 < (a.length : Int)) then ((0 : Int) ≤ i2 ∧ i2 < (a.length : Int)) ∧ ((0 : Int) ≤ i2 ∧ i2 < (b.length : Int)) ∧ (if !(decide ((nth a i2) = (nth b i2))) then Q false else (-9223372036854775808 ≤ i2) ∧ I32 (i2 + 1) ∧ mu33 (i2 + 1) < mu33 i2) else Q true))) := h
  clear h
  have hc0 := Ct.init hO
  refine Ret_enter Try.func104 rfl 27 rfl [.tmp 4] rfl rfl ?_
  refine W_seq ?_
  refine W_reg ?_
  refine L_pu (P_assign (vb false) rfl) ?_
  refine L_nil ?_
  refine W_seq ?_
  refine W_seq ?_
  refine W_reg ?_
  refine L_pu (P_move (.slice A1 n2 c3) rfl) ?_
  have hl11 := hp4.le
  refine L_pu (P_len Try.underlying69 A1 n2 c3 hp4.len rfl) ?_
  refine L_pu (P_move (.slice A6 n7 c8) rfl) ?_
  have hl12 := hp9.le
  refine L_pu (P_len Try.underlying69 A6 n7 c8 hp9.len rfl) ?_
  refine L_pu (P_cmp (a.length : Int) (b.length : Int) ((a.length : Int) != (b.length : Int)) rfl rfl rfl) ?_
  refine L_nil ?_
  refine W_cond ((a.length : Int) != (b.length : Int)) rfl (fun hq13 => ?_) (fun hq13 => ?_)
  · have H := ite_t H hq13
    refine W_seq ?_
    refine W_reg ?_
    refine L_pu (P_assign (vb false) rfl) ?_
    refine L_nil ?_
    refine W_ret ?_
    exact ⟨[vb false], ⟨_, rfl, rfl⟩, false, rfl, H, hc0.gr.g0⟩
  · have H := ite_f H hq13
    refine W_skip ?_
    refine W_seq ?_
    refine W_seq ?_
    refine W_reg ?_
    refine L_pu (P_assign (vi 0) rfl) ?_
    refine L_nil ?_
    refine W_block ?_
    obtain ⟨I32, mu33, hI34, H⟩ := H
    refine W_loop (α := Int) (fun (sv__ : Int) t w26 => match sv__ with | i2 => I32 i2 ∧ Has t [(0, .slice A1 n2 c3), (1, .slice A6 n7 c8), (5, vi i2)] ∧ Ct [] w0 w26 [] O ∧ Sl kTag w26 (Fr ([] ++ O)) (.slice A1 n2 c3) a ∧ Sl kTag w26 (Fr ([] ++ O)) (.slice A6 n7 c8) b) (fun (sv__ : Int) => match sv__ with | i2 => mu33 i2) 0 ⟨hI34, ⟨rfl, rfl, rfl, trivial⟩, hc0, hp4, hp9⟩ ?_
    rintro i2 _ w26 ⟨hI34, hh36, hc29, h30, h31⟩
    obtain ⟨u37, rfl⟩ := Has.ins hh36
    have H := H i2 hI34
    refine W_seq ?_
    refine W_seq ?_
    refine W_reg ?_
    refine L_pu (P_move (vi i2) rfl) ?_
    refine L_pu (P_move (.slice A1 n2 c3) rfl) ?_
    have hl38 := h30.le
    refine L_pu (P_len Try.underlying69 A1 n2 c3 h30.len rfl) ?_
    refine L_pu (P_cmp i2 (a.length : Int) (decide (i2 < (a.length : Int))) rfl rfl rfl) ?_
    refine L_nil ?_
    refine W_cond (decide (i2 < (a.length : Int))) rfl (fun hq39 => ?_) (fun hq39 => ?_)
    · have H := ite_t H hq39
      refine W_skip ?_
      refine W_seq ?_
      refine W_block ?_
      refine W_seq ?_
      refine W_draw (fun x => Gr w26 x none) (by kernel_rfl) (by kernel_rfl) (Gr.drew _) ?_
      refine Q_pu (P_move (.slice A1 n2 c3) rfl) ?_
      refine Q_pu (P_move (vi i2) rfl) ?_
      obtain ⟨hb40, H⟩ := H
      obtain ⟨ad41, cs42, hA43, hS46, hR44, hcl45⟩ := h30.get default (by decide) i2 hb40
      obtain ⟨rfl, hs47, hs48⟩ := kTag.op hR44
      refine Q_pu (P_ia Try.underlying69 se69 A1 ad41 n2 c3 h30.len i2 rfl hA43 rfl hb40) ?_
      refine Q_pu (P_lda ag133 sz133 cQ (ad41.add (i2.toNat * 2)) [vs ((nth a i2).Key), vs ((nth a i2).Val)] rfl rfl hcl45) ?_
      refine Q_pu (P_move (.slice A6 n7 c8) rfl) ?_
      refine Q_pu (P_move (vi i2) rfl) ?_
      obtain ⟨hb49, H⟩ := H
      obtain ⟨ad50, cs51, hA52, hS55, hR53, hcl54⟩ := h31.get default (by decide) i2 hb49
      obtain ⟨rfl, hs56, hs57⟩ := kTag.op hR53
      refine Q_pu (P_ia Try.underlying69 se69 A6 ad50 n7 c8 h31.len i2 rfl hA52 rfl hb49) ?_
      refine Q_pu (P_lda ag133 sz133 cQ (ad50.add (i2.toNat * 2)) [vs ((nth b i2).Key), vs ((nth b i2).Val)] rfl rfl hcl54) ?_
      refine Q_call go145 [.agg #[vs ((nth a i2).Key), vs ((nth a i2).Val)], .agg #[vs ((nth b i2).Key), vs ((nth b i2).Val)]] rfl (vb (decide ((nth a i2) = (nth b i2)))) (fun w g => (laws_eqTag.calls w (hc29.k0 g).ok (nth a i2) hs47 hs48 (nth b i2) hs56 hs57 _ (laws_eqTag.is (nth a i2) (nth b i2))).mono ?_) ?_
      · rintro _ w ⟨r, rfl, rfl, g2⟩
        exact ⟨rfl, Gr.t0 g g2⟩
      refine Q_pu (P_not (decide ((nth a i2) = (nth b i2))) rfl) ?_
      refine Q_nil fun w63 g64 => ?_
      have hc66 := hc29.k0 g64
      refine W_cond (!(decide ((nth a i2) = (nth b i2)))) rfl (fun hq67 => ?_) (fun hq67 => ?_)
      · have H := ite_t H hq67
        refine W_seq ?_
        refine W_reg ?_
        refine L_pu (P_assign (vb false) rfl) ?_
        refine L_nil ?_
        refine W_ret ?_
        exact ⟨[vb false], ⟨_, rfl, rfl⟩, false, rfl, H, hc66.gr.g0⟩
      · have H := ite_f H hq67
        refine W_skip ?_
        refine W_reg ?_
        refine L_pu (P_move (vi i2) rfl) ?_
        obtain ⟨hb69, H⟩ := H
        have hi68 : I64 (i2 + 1) := i64_succ (of_decide_eq_true hq39) hl38 hb69
        refine L_pu (P_add i2 1 rfl rfl hi68) ?_
        refine L_pu (P_assign (vi (i2 + 1)) rfl) ?_
        refine L_nil ?_
        obtain ⟨hI70, hm71⟩ := H
        exact ⟨i2 + 1, hm71, hI70, ⟨rfl, rfl, rfl, trivial⟩, hc66, (h30.st (.new _ g64)), (h31.st (.new _ g64))⟩
    · have H := ite_f H hq39
      refine W_exit (xin_hit ?_)
      refine W_seq ?_
      refine W_reg ?_
      refine L_pu (P_assign (vb true) rfl) ?_
      refine L_nil ?_
      refine W_ret ?_
      exact ⟨[vb true], ⟨_, rfl, rfl⟩, true, rfl, H, hc29.gr.g0⟩
end Go.Proofs.Ytndjggncgpjolaa

namespace Go.Proofs.Ytndjggncgpjolaa
set_option linter.unusedVariables false
set_option linter.unusedSimpArgs false
set_option linter.unusedSectionVars false
theorem laws_eqTagS.law (a b : List Tag) (Q : Bool → Prop) (hq : Q (decide (a = b))) : laws_eqTagS.E a b Q := by
  unfold laws_eqTagS.E
  exact eqS_shape (fun x y => decide (x = y)) (fun _ _ => rfl) a b Q hq
theorem laws_eqTagS.is (a b : List Tag) : laws_eqTagS.E a b (fun r => r = decide (a = b)) := laws_eqTagS.law a b _ rfl
end Go.Proofs.Ytndjggncgpjolaa

namespace Go.Proofs.Ytndjggncgpjolaa
open Go.RowKit
set_option linter.unusedVariables false
def laws_eqFeat.E (a : Feat) (b : Feat) (Q : Bool → Prop) : Prop :=
  (if a.Id != b.Id then Q false else laws_eqShape.E a.Shape b.Shape (fun r => (if !r then Q false else laws_eqTagS.E a.Tags b.Tags (fun r2 => (if !r2 then Q false else Q true)))))
set_option maxHeartbeats 8000000 in
set_option maxRecDepth 100000 in
theorem laws_eqFeat.calls {O : Ob} (w0 : World) (hO : Ok w0 O) (a : Feat) (A2 : Option Addr) (n3 c4 : Nat) (A7 : Option Addr) (n8 c9 : Nat) (hs1 : Lim a.Id) (hp5 : Sl kPt w0 (Fr O) (.slice A2 n3 c4) a.Shape.Pts) (hp10 : Sl kTag w0 (Fr O) (.slice A7 n8 c9) a.Tags) (b : Feat) (A13 : Option Addr) (n14 c15 : Nat) (A18 : Option Addr) (n19 c20 : Nat) (hs12 : Lim b.Id) (hp16 : Sl kPt w0 (Fr O) (.slice A13 n14 c15) b.Shape.Pts) (hp21 : Sl kTag w0 (Fr O) (.slice A18 n19 c20) b.Tags) (Q : Bool → Prop) (h : laws_eqFeat.E a b Q) :
    Ret Try.prog 37 [.agg #[vs a.Id, vi a.Shape.Kind, .slice A2 n3 c4, .slice A7 n8 c9], .agg #[vs b.Id, vi b.Shape.Kind, .slice A13 n14 c15, .slice A18 n19 c20]] w0 (fun v w' => ∃ (r0 : Bool), v = vb r0 ∧ Q r0 ∧ Gr w0 w' none) := by
  have H : (if a.Id != b.Id then Q false else laws_eqShape.E a.Shape b.Shape (fun r => (if !r then Q false else laws_eqTagS.E a.Tags b.Tags (fun r2 => (if !r2 then Q false else Q true))))) := h
  clear h
  have hc0 := Ct.init hO
  refine Ret_enter Try.func37 rfl 22 rfl [.tmp 4] rfl rfl ?_
  refine W_seq ?_
  refine W_reg ?_
  refine L_box [vs a.Id, vi a.Shape.Kind, .slice A2 n3 c4, .slice A7 n8 c9] rfl fun w23 b24 hl26 hu27 g25 hx28 => ?_
  have h30 := Fb.mk hc0.ok hl26 hx28
  have hc31 := hc0.k0 g25
  refine L_box [vs b.Id, vi b.Shape.Kind, .slice A13 n14 c15, .slice A18 n19 c20] rfl fun w32 b33 hl35 hu36 g34 hx37 => ?_
  have h39 := Fb.mk hc31.ok hl35 hx37
  have hc40 := hc31.k0 g34
  refine L_pu (P_assign (vb false) rfl) ?_
  refine L_nil ?_
  refine W_seq ?_
  refine W_seq ?_
  refine W_reg ?_
  refine L_pu (P_fa fa71_0 ⟨b24, 0, none⟩ ⟨b24, 0, none⟩ rfl rfl) ?_
  have h41 := (h30.st (.new _ g34))
  refine L_pu (P_ld ag9 cL ⟨b24, 0, none⟩ (vs a.Id) rfl (h41.cell rfl)) ?_
  refine L_pu (P_fa fa71_0 ⟨b33, 0, none⟩ ⟨b33, 0, none⟩ rfl rfl) ?_
  refine L_pu (P_ld ag9 cL ⟨b33, 0, none⟩ (vs b.Id) rfl (h39.cell rfl)) ?_
  refine L_pu (P_scmp a.Id b.Id (a.Id != b.Id) rfl rfl rfl) ?_
  refine L_nil ?_
  refine W_cond (a.Id != b.Id) rfl (fun hq42 => ?_) (fun hq42 => ?_)
  · have H := ite_t H hq42
    refine W_seq ?_
    refine W_reg ?_
    refine L_pu (P_assign (vb false) rfl) ?_
    refine L_nil ?_
    refine W_ret ?_
    exact ⟨[vb false], ⟨_, rfl, rfl⟩, false, rfl, H, hc40.gr.g0⟩
  · have H := ite_f H hq42
    refine W_skip ?_
    refine W_seq ?_
    refine W_seq ?_
    refine W_reg ?_
    refine L_pu (P_fa fa71_1 ⟨b24, 0, none⟩ ⟨b24, 1, none⟩ rfl rfl) ?_
    refine L_pu (P_lda ag68 sz68 cL ⟨b24, 1, none⟩ [vi a.Shape.Kind, .slice A2 n3 c4] rfl rfl (h41.cells (off := 1) rfl)) ?_
    refine L_pu (P_fa fa71_1 ⟨b33, 0, none⟩ ⟨b33, 1, none⟩ rfl rfl) ?_
    refine L_pu (P_lda ag68 sz68 cL ⟨b33, 1, none⟩ [vi b.Shape.Kind, .slice A13 n14 c15] rfl rfl (h39.cells (off := 1) rfl)) ?_
    refine L_call go103 [.agg #[vi a.Shape.Kind, .slice A2 n3 c4], .agg #[vi b.Shape.Kind, .slice A13 n14 c15]] rfl ((laws_eqShape.calls w32 hc40.ok a.Shape A2 n3 c4 (hp5.st hc40.st) b.Shape A13 n14 c15 (hp16.st hc40.st) _ H).mono ?_)
    rintro _ w43 ⟨r, rfl, H, g44⟩
    have hc48 := hc40.k0 g44
    refine L_pu (P_not r rfl) ?_
    refine L_nil ?_
    refine W_cond (!r) rfl (fun hq49 => ?_) (fun hq49 => ?_)
    · have H := ite_t H hq49
      refine W_seq ?_
      refine W_reg ?_
      refine L_pu (P_assign (vb false) rfl) ?_
      refine L_nil ?_
      refine W_ret ?_
      exact ⟨[vb false], ⟨_, rfl, rfl⟩, false, rfl, H, hc48.gr.g0⟩
    · have H := ite_f H hq49
      refine W_skip ?_
      refine W_seq ?_
      refine W_seq ?_
      refine W_reg ?_
      refine L_pu (P_fa fa71_2 ⟨b24, 0, none⟩ ⟨b24, 3, none⟩ rfl rfl) ?_
      have h50 := (h41.st (.new _ g44))
      refine L_pu (P_ld ag69 cL ⟨b24, 3, none⟩ (.slice A7 n8 c9) rfl (h50.cell rfl)) ?_
      refine L_pu (P_fa fa71_2 ⟨b33, 0, none⟩ ⟨b33, 3, none⟩ rfl rfl) ?_
      have h51 := (h39.st (.new _ g44))
      refine L_pu (P_ld ag69 cL ⟨b33, 3, none⟩ (.slice A18 n19 c20) rfl (h51.cell rfl)) ?_
      refine L_call go104 [.slice A7 n8 c9, .slice A18 n19 c20] rfl ((laws_eqTagS.calls w43 hc48.ok a.Tags A7 n8 c9 (hp10.st hc48.st) b.Tags A18 n19 c20 (hp21.st hc48.st) _ H).mono ?_)
      rintro _ w52 ⟨r2, rfl, H, g53⟩
      have hc57 := hc48.k0 g53
      refine L_pu (P_not r2 rfl) ?_
      refine L_nil ?_
      refine W_cond (!r2) rfl (fun hq58 => ?_) (fun hq58 => ?_)
      · have H := ite_t H hq58
        refine W_seq ?_
        refine W_reg ?_
        refine L_pu (P_assign (vb false) rfl) ?_
        refine L_nil ?_
        refine W_ret ?_
        exact ⟨[vb false], ⟨_, rfl, rfl⟩, false, rfl, H, hc57.gr.g0⟩
      · have H := ite_f H hq58
        refine W_skip ?_
        refine W_seq ?_
        refine W_reg ?_
        refine L_pu (P_assign (vb true) rfl) ?_
        refine L_nil ?_
        refine W_ret ?_
        exact ⟨[vb true], ⟨_, rfl, rfl⟩, true, rfl, H, hc57.gr.g0⟩
end Go.Proofs.Ytndjggncgpjolaa

namespace Go.Proofs.Ytndjggncgpjolaa
set_option linter.unusedVariables false
set_option linter.unusedSimpArgs false
set_option linter.unusedSectionVars false
theorem laws_eqFeat.law (a b : Feat) (Q : Bool → Prop) (hq : Q (decide (a = b))) : laws_eqFeat.E a b Q := by
  obtain ⟨x0, x1, x2⟩ := a; obtain ⟨y0, y1, y2⟩ := b
  rw [show (decide ((⟨x0, x1, x2⟩ : Feat) = ⟨y0, y1, y2⟩)) = ((decide (x0 = y0)) && ((decide (x1 = y1)) && (decide (x2 = y2)))) by simp only [Feat.mk.injEq, Bool.decide_and]] at hq
  unfold laws_eqFeat.E
  by_cases h0 : x0 = y0
  case neg => simpa [h0] using hq
  simp only [h0, decide_true, Bool.true_and, bne_self_eq_false, Bool.not_true, Bool.false_eq_true, if_false] at hq ⊢
  try refine laws_eqShape.law _ _ _ ?_
  by_cases h1 : x1 = y1
  case neg => simpa [h1] using hq
  simp only [h1, decide_true, Bool.true_and, bne_self_eq_false, Bool.not_true, Bool.false_eq_true, if_false] at hq ⊢
  try refine laws_eqTagS.law _ _ _ ?_
  by_cases h2 : x2 = y2
  case neg => simpa [h2] using hq
  simp only [h2, decide_true, Bool.true_and, bne_self_eq_false, Bool.not_true, Bool.false_eq_true, if_false] at hq ⊢
  all_goals (try exact hq)
theorem laws_eqFeat.is (a b : Feat) : laws_eqFeat.E a b (fun r => r = decide (a = b)) := laws_eqFeat.law a b _ rfl
end Go.Proofs.Ytndjggncgpjolaa
