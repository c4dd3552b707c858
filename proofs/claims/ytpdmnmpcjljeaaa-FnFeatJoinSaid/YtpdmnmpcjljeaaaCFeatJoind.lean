/- It is proved here that the law FnFeatJoin of the given program holds whatever it is handed: the walks through the code, the plain laws and the row, in this order.
   Conditions: none. -/
import Derived.Below
import Derived.ChangeArms
import Derived.ChangeOld
import Derived.ChangeSlices
import Derived.DataReads
import Derived.Deep.Quiet
import Derived.KernelRfl
import Derived.Laws.Build
import Derived.Laws.IdiomStrings
import Derived.Laws.OwnMore
import Derived.Laws.Slices
import Derived.Laws.StructEq
import Derived.OpenShut
import Derived.ProofKit
import Derived.Shelf.Slices.Cells
import Derived.Shelf.Slices.CompactS
import Derived.Shelf.Slices.In.SortNone
import Derived.Shelf.Small.Bits
import Derived.Shelf.Sort.Plain
import Derived.Shelf.Strconv.Itoa0
import Derived.ShutString
import Derived.SizedLaws
import Derived.StillTail
import Derived.Test.YtpdmnmpcjljeaaaProg
import Derived.Test.YtpdmnmpcjljeaaaRows
import Derived.WalkKit
import Derived.Test.YtpdmnmpcjljeaaaCFeatJoina
import Derived.Test.YtpdmnmpcjljeaaaCFeatJoinb
import Derived.Test.YtpdmnmpcjljeaaaCFeatJoinc
namespace Go.Proofs.Ytpdmnmpcjljeaaa
set_option linter.unusedVariables false
set_option linter.unusedSimpArgs false
set_option linter.unusedSectionVars false
set_option maxHeartbeats 8000000
set_option maxRecDepth 100000
section
open Go.RowKit
def F37.E (base_ : Feat) (a : Feat) (b : Feat) (Q : Feat → List Str → Prop) : Prop :=
 F70.E base_ (fun r => (if !r then Q (⟨([] : Str), (⟨0, ([] : List Pt)⟩ : Shape), ([] : List Tag)⟩ : Feat) ([] : List Str) else F70.E a (fun r2 => (if !r2 then Q (⟨([] : Str), (⟨0, ([] : List Pt)⟩ : Shape), ([] : List Tag)⟩ : Feat) ([] : List Str) else F70.E b (fun r3 => (if !r3 then Q (⟨([] : Str), (⟨0, ([] : List Pt)⟩ : Shape), ([] : List Tag)⟩ : Feat) ([] : List Str) else (if base_.Id != a.Id then Q (⟨([] : Str), (⟨0, ([] : List Pt)⟩ : Shape), ([] : List Tag)⟩ : Feat) ([] : List Str) else (if base_.Id != b.Id then Q (⟨([] : Str), (⟨0, ([] : List Pt)⟩ : Shape), ([] : List Tag)⟩ : Feat) ([] : List Str) else (∃ (f : Shape → Shape → Bool) (f_ok : Shape → Shape → Prop), (∀ x0_ x1_, f_ok x0_ x1_ → F25.E x0_ x1_  (fun r => r = f x0_ x1_)) ∧ F6.E base_.Shape a.Shape b.Shape f f_ok (fun r4 r5 => (∃ (J297 : (List Str) → Int → (List Pt) → Prop), ((if !r5 then (if base_.Shape.Kind == a.Shape.Kind then (if base_.Shape.Kind == b.Shape.Kind then F35.E base_.Shape.Pts a.Shape.Pts b.Shape.Pts (fun r6 r7 => (if r7 then F47.E (⟨a.Shape.Kind, r6⟩ : Shape) (fun r8 => (if r8 then (if !true then (([] : List Str).length + ([([115, 104, 97, 112, 101] : Str)] : List Str).length ≤ 268435456) ∧ J297 (([] : List Str) ++ ([([115, 104, 97, 112, 101] : Str)] : List Str)) a.Shape.Kind r6 else J297 ([] : List Str) a.Shape.Kind r6) else (if !false then (([] : List Str).length + ([([115, 104, 97, 112, 101] : Str)] : List Str).length ≤ 268435456) ∧ J297 (([] : List Str) ++ ([([115, 104, 97, 112, 101] : Str)] : List Str)) r4.Kind r4.Pts else J297 ([] : List Str) r4.Kind r4.Pts))) else (if !false then (([] : List Str).length + ([([115, 104, 97, 112, 101] : Str)] : List Str).length ≤ 268435456) ∧ J297 (([] : List Str) ++ ([([115, 104, 97, 112, 101] : Str)] : List Str)) r4.Kind r4.Pts else J297 ([] : List Str) r4.Kind r4.Pts))) else (if !false then (([] : List Str).length + ([([115, 104, 97, 112, 101] : Str)] : List Str).length ≤ 268435456) ∧ J297 (([] : List Str) ++ ([([115, 104, 97, 112, 101] : Str)] : List Str)) r4.Kind r4.Pts else J297 ([] : List Str) r4.Kind r4.Pts)) else (if !false then (([] : List Str).length + ([([115, 104, 97, 112, 101] : Str)] : List Str).length ≤ 268435456) ∧ J297 (([] : List Str) ++ ([([115, 104, 97, 112, 101] : Str)] : List Str)) r4.Kind r4.Pts else J297 ([] : List Str) r4.Kind r4.Pts)) else J297 ([] : List Str) r4.Kind r4.Pts)) ∧ ∀ (xs : List Str) (z : Int) (z2 : List Pt), J297 xs z z2 → F17.E (⟨z, z2⟩ : Shape) (fun r9 => F12.E ([base_.Tags, a.Tags, b.Tags] : List (List Tag)) (fun r10 => (∃ (I762 : (List Str) → Int → Prop) (mu763 : (List Str) → Int → Nat), I762 ([] : List Str) 0 ∧ ∀ (xs3 : List Str) (v2 : Int), I762 xs3 v2 → (if decide (v2 < (r10.length : Int)) then ((0 : Int) ≤ v2 ∧ v2 < (r10.length : Int)) ∧ (xs3.length + ([(nth r10 v2).Key] : List Str).length ≤ 268435456) ∧ (I64 (v2 + 1)) ∧ I762 (xs3 ++ ([(nth r10 v2).Key] : List Str)) (v2 + 1) ∧ mu763 (xs3 ++ ([(nth r10 v2).Key] : List Str)) (v2 + 1) < mu763 xs3 v2 else F7.E xs3 (fun m => F0.E m (fun r11 => (∃ (I963 : (List Str) → Int → (List Tag) → Prop) (mu964 : (List Str) → Int → (List Tag) → Nat), I963 xs 0 ([] : List Tag) ∧ ∀ (xs6 : List Str) (v4 : Int) (xs7 : List Tag), I963 xs6 v4 xs7 → (if decide (v4 < (r11.length : Int)) then ((0 : Int) ≤ v4 ∧ v4 < (r11.length : Int)) ∧ F50.E a (nth r11 v4) (fun r12 => F50.E b (nth r11 v4) (fun r13 => F50.E base_ (nth r11 v4) (fun r14 => (∃ (f2 : value → value → Bool) (f2_ok : value → value → Prop), (∀ x0_ x1_, f2_ok x0_ x1_ → F20.E x0_ x1_  (fun r => r = f2 x0_ x1_)) ∧ F8.E r14 r12 r13 f2 f2_ok (fun r15 r16 => (∃ (J5053 : (List Str) → Bool → Str → Prop), ((if !r16 then (([116, 97, 103, 32] : Str).length + (nth r11 v4).length ≤ 9223372036854775807) ∧ (xs6.length + ([(([116, 97, 103, 32] : Str) ++ (nth r11 v4))] : List Str).length ≤ 268435456) ∧ (if !r12.has then J5053 (xs6 ++ ([(([116, 97, 103, 32] : Str) ++ (nth r11 v4))] : List Str)) r13.has r13.val else J5053 (xs6 ++ ([(([116, 97, 103, 32] : Str) ++ (nth r11 v4))] : List Str)) r12.has r12.val) else J5053 xs6 r15.has r15.val)) ∧ ∀ (xs8 : List Str) (z3 : Bool) (z4 : Str), J5053 xs8 z3 z4 → (∃ (J5189 : (List Tag) → Prop), ((if z3 then (xs7.length + ([(⟨(nth r11 v4), z4⟩ : Tag)] : List Tag).length ≤ 268435456) ∧ J5189 (xs7 ++ ([(⟨(nth r11 v4), z4⟩ : Tag)] : List Tag)) else J5189 xs7)) ∧ ∀ (xs9 : List Tag), J5189 xs9 → (I64 (v4 + 1)) ∧ I963 xs8 (v4 + 1) xs9 ∧ mu964 xs8 (v4 + 1) xs9 < mu964 xs6 v4 xs7))))))) else F70.E (⟨a.Id, r9, xs7⟩ : Feat) (fun r17 => (if !r17 then F26.E a (fun r18 => Q r18 ([([109, 117, 99, 104] : Str)] : List Str)) else Q (⟨a.Id, r9, xs7⟩ : Feat) xs6)))))))))))))))))))))
theorem F37.calls {O : Ob} (w0 : World) (hO : Ok w0 O) (base_ : Feat) (A2 : Option Addr) (n3 c4 : Nat) (A7 : Option Addr) (n8 c9 : Nat) (hs1 : Lim base_.Id) (hp5 : Sl kPt w0 (Fr O) (.slice A2 n3 c4) base_.Shape.Pts) (du : Sl kTag w0 (Fr O) (.slice A7 n8 c9) base_.Tags) (a : Feat) (a2 : Option Addr) (a3 a4 : Nat) (bd : Option Addr) (be bf : Nat) (eu : Lim a.Id) (c5 : Sl kPt w0 (Fr O) (.slice a2 a3 a4) a.Shape.Pts) (dv : Sl kTag w0 (Fr O) (.slice bd be bf) a.Tags) (b : Feat) (al : Option Addr) (am an : Nat) (ao : Option Addr) (ap aq : Nat) (dw : Lim b.Id) (c6 : Sl kPt w0 (Fr O) (.slice al am an) b.Shape.Pts) (dx : Sl kTag w0 (Fr O) (.slice ao ap aq) b.Tags) (Q : Feat → List Str → Prop) (h : F37.E base_ a b Q) :
  Ret Try.prog 7 [.agg #[vs base_.Id, vi base_.Shape.Kind, .slice A2 n3 c4, .slice A7 n8 c9], .agg #[vs a.Id, vi a.Shape.Kind, .slice a2 a3 a4, .slice bd be bf], .agg #[vs b.Id, vi b.Shape.Kind, .slice al am an, .slice ao ap aq]] w0 (fun v w' => ∃ (r0 : Feat) (r1 : List Str) (Aw0 : Option Addr) (nw0 cw0 : Nat) (Aw2 : Option Addr) (nw2 cw2 : Nat) (Aw4 : Option Addr) (nw4 cw4 : Nat), v = .tuple #[.agg #[vs r0.Id, vi r0.Shape.Kind, .slice Aw0 nw0 cw0, .slice Aw2 nw2 cw2], .slice Aw4 nw4 cw4] ∧ Q r0 r1 ∧ Gr w0 w' none ∧ Ok w' ([bk Aw0, bk Aw2, bk Aw4] ++ O) ∧ (∀ b, some b ∈ [bk Aw0, bk Aw2, bk Aw4] → w0.heap.size ≤ b) ∧ Lim r0.Id ∧ Ow kPt 83 w' ([bk Aw0, bk Aw2, bk Aw4] ++ O) (.slice Aw0 nw0 cw0) r0.Shape.Pts ∧ Ow kTag 39 w' ([bk Aw0, bk Aw2, bk Aw4] ++ O) (.slice Aw2 nw2 cw2) r0.Tags ∧ Ow Kd.str 9 w' ([bk Aw0, bk Aw2, bk Aw4] ++ O) (.slice Aw4 nw4 cw4) r1) := by
 unfold F37.E at h
 have H := h
 clear h
 have hc0 := Ct.init hO
 refine Ret_enter Try.func7 rfl 195 rfl [.cell 6 28, .tmp 7] rfl rfl ?_
 refine W_seq (W_reg (L_box [vs base_.Id, vi base_.Shape.Kind, .slice A2 n3 c4, .slice A7 n8 c9] rfl fun w34 au v9 hu38 wa wb => ?_))
 have wc := Fb.mk hc0.ok v9 wb
 have n0 := hc0.k0 wa
 refine L_box [vs a.Id, vi a.Shape.Kind, .slice a2 a3 a4, .slice bd be bf] rfl fun w43 ar wd hu47 ry we => ?_
 have wf := Fb.mk n0.ok wd we
 have n1 := n0.k0 ry
 refine L_box [vs b.Id, vi b.Shape.Kind, .slice al am an, .slice ao ap aq] rfl fun w52 bg wg hu56 rz wh => ?_
 have wi := Fb.mk n1.ok wg wh
 have sa := n1.k0 rz
 refine L_alloc [vs [], .int .i64 0, .slice none 0 0, .slice none 0 0] ze28 fun w61 aa sb hu65 sc co => ?_
 have se := sa.own sc (some aa) (oglt sb hu65)
 refine L_as (.slice none 0 0) rfl (L_nil (W_seq (W_reg (L_lit (kd := Kd.str) ei31 se ([] : List Str) (cells := []) rfl (fun _ => by kernel_rfl) fun wj ag a0 a1 ce hr74 jp cp => ?_))))
 refine L_as (.slice ag a0 a1) rfl (L_nil (W_seq (W_seq (W_reg ?_))))
 have wk := n0.stn ry
 have sf := n1.stn rz
 have n2 := sa.stown _ sc (oge sb)
 have n4 := se.stown _ ce hr74
 have sg := ((((wc.st wk).st sf).st n2).st n4)
 refine L_pu (P_lda ag28 sz28 cL ⟨au, 0, none⟩ [vs base_.Id, vi base_.Shape.Kind, .slice A2 n3 c4, .slice A7 n8 c9] rfl rfl (sg.cells (off := 0) rfl)) ?_
 refine L_call go12 [.agg #[vs base_.Id, vi base_.Shape.Kind, .slice A2 n3 c4, .slice A7 n8 c9]] rfl ((F70.calls wj jp.ok base_ A2 n3 c4 A7 n8 c9 hs1 (hp5.st jp.st) (du.st jp.st) _ H).mono ?_)
 rintro _ wl ⟨r, rfl, H, ba⟩
 have gy := jp.k0 ba
 refine L_pu (P_not r rfl) (L_mv (vb (!r)) rfl ?_)
 rcases bool_or (!r) with d2 | d2
 ·have H := ite_t H d2
  refine L_pb d2 rfl (L_pb d2 rfl (L_pb d2 rfl (L_pu (P_pick true (vb true) (by exact congrArg Value.bool d2) rfl) (L_mv (vb true) rfl (L_pass (dj := 34) rfl rfl (.inl rfl) (L_pass (dj := 34) rfl rfl (.inl rfl) (L_pass (dj := 34) rfl rfl (.inl rfl) (L_pu (P_pick true (vb true) (by exact congrArg Value.bool rfl) rfl) ?_))))))))
  refine L_mv (vb true) rfl (L_pass (dj := 39) rfl rfl (.inl rfl) (L_pass (dj := 39) rfl rfl (.inl rfl) (L_pass (dj := 39) rfl rfl (.inl rfl) (L_pass (dj := 39) rfl rfl (.inl rfl) (L_pass (dj := 39) rfl rfl (.inl rfl) (L_pu (P_pick true (vb true) (by exact congrArg Value.bool rfl) rfl) (L_mv (vb true) rfl (L_pass (dj := 46) rfl rfl (.inl rfl) ?_))))))))
  refine L_pass (dj := 46) rfl rfl (.inl rfl) (L_pass (dj := 46) rfl rfl (.inl rfl) (L_pass (dj := 46) rfl rfl (.inl rfl) (L_pass (dj := 46) rfl rfl (.inl rfl) (L_pu (P_pick true (vb true) (by exact congrArg Value.bool rfl) rfl) (L_nil (W_ct (b := true) rfl rfl ?_))))))
  refine W_seq (W_reg (L_pu (P_build (.agg #[vs ([] : Str), vi 0, .slice none 0 0, .slice none 0 0]) (fun _ => by kernel_rfl)) (L_mv (.slice ag a0 a1) rfl ?_)))
  have wm := ((co.k0 ce).k0 ba)
  refine L_stb aa 0 [vs ([] : Str), vi 0, .slice none 0 0, .slice none 0 0] [vs ([] : Str), vi 0, .slice none 0 0, .slice none 0 0] [vs ([] : Str), vi 0, .slice none 0 0, .slice none 0 0] rfl wm rfl sz28 rfl rfl rfl fun sh si wn => ?_
  have wo := gy.wr 1 rfl si
  refine L_as (.slice ag a0 a1) rfl (L_nil (W_ret ?_))
  have wp := wo.own (Gr.refl _ none) none (by simp)
  have wq : Ow kPt 83 sh ([bk none, bk ag, some aa] ++ O) (.slice none 0 0) [] := Ow.nil _ _ _ _
  have jq := wp.own (Gr.refl _ none) none (by simp)
  have ws : Ow kTag 39 sh ([bk none, bk none, bk ag, some aa] ++ O) (.slice none 0 0) [] := Ow.nil _ _ _ _
  have wt := wn
  have wu := jq.bgv wt 3 rfl
  have jr := jq.drop 3 rfl
  have n5 := jr.perm (.swap _ _ _)
  have wv := jr.stp (.swap _ _ _)
  have ww := (wu.st wv)
  have wx := (jr.sp (jq.sd (wq.so none (Gr.refl _ none) (by simp)) 1 3 rfl rfl rfl) (.swap _ _ _))
  have wy := (jr.sp (jq.sd ws 0 3 rfl rfl rfl) (.swap _ _ _))
  have wz := (jr.sp (jq.sd (((gy.sw (cp.sn ba) 0 1 rfl rfl rfl si).so none (Gr.refl _ none) (by simp)).so none (Gr.refl _ none) (by simp)) 2 3 rfl rfl rfl) (.swap _ _ _))
  exact ⟨[.agg #[vs ([] : Str), vi 0, .slice none 0 0, .slice none 0 0], .slice ag a0 a1], ⟨_, _, rfl, ww.1.res rfl ag28 sz28, ⟨_, rfl, rfl⟩⟩, (⟨([] : Str), (⟨0, ([] : List Pt)⟩ : Shape), ([] : List Tag)⟩ : Feat), ([] : List Str), none, 0, 0, none, 0, 0, ag, a0, a1, rfl, H, n5.gr.g0, n5.ok, n5.ge, (by decide), wx, wy, wz⟩
 have H := ite_f H d2
 refine L_rb d2 rfl ?_
 have n6 := jp.stn ba
 have sj := ((((wf.st sf).st n2).st n4).st n6)
 refine L_pu (P_lda ag28 sz28 cL ⟨ar, 0, none⟩ [vs a.Id, vi a.Shape.Kind, .slice a2 a3 a4, .slice bd be bf] rfl rfl (sj.cells (off := 0) rfl)) (L_rb d2 rfl ?_)
 refine L_call go12 [.agg #[vs a.Id, vi a.Shape.Kind, .slice a2 a3 a4, .slice bd be bf]] rfl ((F70.calls wl gy.ok a a2 a3 a4 bd be bf eu (c5.st gy.st) (dv.st gy.st) _ H).mono ?_)
 rintro _ w1 ⟨r2, rfl, H, bh⟩
 have gz := gy.k0 bh
 refine L_rb d2 rfl (L_pu (P_not r2 rfl) (L_pu (P_pick false (vb (!r2)) (by exact congrArg Value.bool d2) rfl) (L_mv (vb (!r2)) rfl ?_)))
 rcases bool_or (!r2) with d3 | d3
 ·have H := ite_t H d3
  refine L_pb d3 rfl (L_pb d3 rfl (L_pb d3 rfl (L_pu (P_pick true (vb true) (by exact congrArg Value.bool d3) rfl) (L_mv (vb true) rfl (L_pass (dj := 39) rfl rfl (.inl rfl) (L_pass (dj := 39) rfl rfl (.inl rfl) (L_pass (dj := 39) rfl rfl (.inl rfl) (L_pass (dj := 39) rfl rfl (.inl rfl) ?_))))))))
  refine L_pass (dj := 39) rfl rfl (.inl rfl) (L_pu (P_pick true (vb true) (by exact congrArg Value.bool rfl) rfl) (L_mv (vb true) rfl (L_pass (dj := 46) rfl rfl (.inl rfl) (L_pass (dj := 46) rfl rfl (.inl rfl) (L_pass (dj := 46) rfl rfl (.inl rfl) (L_pass (dj := 46) rfl rfl (.inl rfl) (L_pass (dj := 46) rfl rfl (.inl rfl) (L_pu (P_pick true (vb true) (by exact congrArg Value.bool rfl) rfl) ?_))))))))
  refine L_nil (W_ct (b := true) rfl rfl ?_)
  refine W_seq (W_reg (L_pu (P_build (.agg #[vs ([] : Str), vi 0, .slice none 0 0, .slice none 0 0]) (fun _ => by kernel_rfl)) (L_mv (.slice ag a0 a1) rfl ?_)))
  have w3 := (((co.k0 ce).k0 ba).k0 bh)
  refine L_stb aa 0 [vs ([] : Str), vi 0, .slice none 0 0, .slice none 0 0] [vs ([] : Str), vi 0, .slice none 0 0, .slice none 0 0] [vs ([] : Str), vi 0, .slice none 0 0, .slice none 0 0] rfl w3 rfl sz28 rfl rfl rfl fun sk sq w4 => ?_
  have w5 := gz.wr 1 rfl sq
  refine L_as (.slice ag a0 a1) rfl (L_nil (W_ret ?_))
  have w6 := w5.own (Gr.refl _ none) none (by simp)
  have w7 : Ow kPt 83 sk ([bk none, bk ag, some aa] ++ O) (.slice none 0 0) [] := Ow.nil _ _ _ _
  have js := w6.own (Gr.refl _ none) none (by simp)
  have w8 : Ow kTag 39 sk ([bk none, bk none, bk ag, some aa] ++ O) (.slice none 0 0) [] := Ow.nil _ _ _ _
  have w9 := w4
  have xa := js.bgv w9 3 rfl
  have jt := js.drop 3 rfl
  have n7 := jt.perm (.swap _ _ _)
  have xb := jt.stp (.swap _ _ _)
  have xc := (xa.st xb)
  have xd := (jt.sp (js.sd (w7.so none (Gr.refl _ none) (by simp)) 1 3 rfl rfl rfl) (.swap _ _ _))
  have xe := (jt.sp (js.sd w8 0 3 rfl rfl rfl) (.swap _ _ _))
  have xf := (jt.sp (js.sd (((gz.sw ((cp.sn ba).sn bh) 0 1 rfl rfl rfl sq).so none (Gr.refl _ none) (by simp)).so none (Gr.refl _ none) (by simp)) 2 3 rfl rfl rfl) (.swap _ _ _))
  exact ⟨[.agg #[vs ([] : Str), vi 0, .slice none 0 0, .slice none 0 0], .slice ag a0 a1], ⟨_, _, rfl, xc.1.res rfl ag28 sz28, ⟨_, rfl, rfl⟩⟩, (⟨([] : Str), (⟨0, ([] : List Pt)⟩ : Shape), ([] : List Tag)⟩ : Feat), ([] : List Str), none, 0, 0, none, 0, 0, ag, a0, a1, rfl, H, n7.gr.g0, n7.ok, n7.ge, (by decide), xd, xe, xf⟩
 have H := ite_f H d3
 refine L_rb d3 rfl ?_
 have n9 := gy.stn bh
 have sr := ((((wi.st n2).st n4).st n6).st n9)
 refine L_pu (P_lda ag28 sz28 cL ⟨bg, 0, none⟩ [vs b.Id, vi b.Shape.Kind, .slice al am an, .slice ao ap aq] rfl rfl (sr.cells (off := 0) rfl)) (L_rb d3 rfl ?_)
 refine L_call go12 [.agg #[vs b.Id, vi b.Shape.Kind, .slice al am an, .slice ao ap aq]] rfl ((F70.calls w1 gz.ok b al am an ao ap aq dw (c6.st gz.st) (dx.st gz.st) _ H).mono ?_)
 rintro _ alp ⟨r3, rfl, H, bl⟩
 have gi := gz.k0 bl
 refine L_rb d3 rfl (L_pu (P_not r3 rfl) (L_pu (P_pick false (vb (!r3)) (by exact congrArg Value.bool d3) rfl) (L_mv (vb (!r3)) rfl ?_)))
 rcases bool_or (!r3) with cv | cv
 ·have H := ite_t H cv
  refine L_pb cv rfl (L_pb cv rfl (L_pb cv rfl (L_pb cv rfl (L_pb cv rfl (L_pu (P_pick true (vb true) (by exact congrArg Value.bool cv) rfl) (L_mv (vb true) rfl (L_pass (dj := 46) rfl rfl (.inl rfl) (L_pass (dj := 46) rfl rfl (.inl rfl) ?_))))))))
  refine L_pass (dj := 46) rfl rfl (.inl rfl) (L_pass (dj := 46) rfl rfl (.inl rfl) (L_pass (dj := 46) rfl rfl (.inl rfl) (L_pu (P_pick true (vb true) (by exact congrArg Value.bool rfl) rfl) (L_nil (W_ct (b := true) rfl rfl ?_)))))
  refine W_seq (W_reg (L_pu (P_build (.agg #[vs ([] : Str), vi 0, .slice none 0 0, .slice none 0 0]) (fun _ => by kernel_rfl)) (L_mv (.slice ag a0 a1) rfl ?_)))
  have xg := ((((co.k0 ce).k0 ba).k0 bh).k0 bl)
  refine L_stb aa 0 [vs ([] : Str), vi 0, .slice none 0 0, .slice none 0 0] [vs ([] : Str), vi 0, .slice none 0 0, .slice none 0 0] [vs ([] : Str), vi 0, .slice none 0 0, .slice none 0 0] rfl xg rfl sz28 rfl rfl rfl fun ss su xh => ?_
  have xi := gi.wr 1 rfl su
  refine L_as (.slice ag a0 a1) rfl (L_nil (W_ret ?_))
  have xj := xi.own (Gr.refl _ none) none (by simp)
  have xk : Ow kPt 83 ss ([bk none, bk ag, some aa] ++ O) (.slice none 0 0) [] := Ow.nil _ _ _ _
  have ju := xj.own (Gr.refl _ none) none (by simp)
  have xl : Ow kTag 39 ss ([bk none, bk none, bk ag, some aa] ++ O) (.slice none 0 0) [] := Ow.nil _ _ _ _
  have xm := xh
  have xn := ju.bgv xm 3 rfl
  have jv := ju.drop 3 rfl
  have oa := jv.perm (.swap _ _ _)
  have xo := jv.stp (.swap _ _ _)
  have xp := (xn.st xo)
  have xq := (jv.sp (ju.sd (xk.so none (Gr.refl _ none) (by simp)) 1 3 rfl rfl rfl) (.swap _ _ _))
  have xr := (jv.sp (ju.sd xl 0 3 rfl rfl rfl) (.swap _ _ _))
  have xt := (jv.sp (ju.sd (((gi.sw (((cp.sn ba).sn bh).sn bl) 0 1 rfl rfl rfl su).so none (Gr.refl _ none) (by simp)).so none (Gr.refl _ none) (by simp)) 2 3 rfl rfl rfl) (.swap _ _ _))
  exact ⟨[.agg #[vs ([] : Str), vi 0, .slice none 0 0, .slice none 0 0], .slice ag a0 a1], ⟨_, _, rfl, xp.1.res rfl ag28 sz28, ⟨_, rfl, rfl⟩⟩, (⟨([] : Str), (⟨0, ([] : List Pt)⟩ : Shape), ([] : List Tag)⟩ : Feat), ([] : List Str), none, 0, 0, none, 0, 0, ag, a0, a1, rfl, H, oa.gr.g0, oa.ok, oa.ge, (by decide), xq, xr, xt⟩
 have H := ite_f H cv
 refine L_rb cv rfl (L_pu (P_fa fa28_0 ⟨au, 0, none⟩ ⟨au, 0, none⟩ rfl rfl) (L_rb cv rfl ?_))
 have ob := gz.stn bl
 have oc := (((sg.st n6).st n9).st ob)
 refine L_pu (P_ld ag9 cL ⟨au, 0, none⟩ (vs base_.Id) rfl (oc.cell rfl)) (L_rb cv rfl (L_pu (P_fa fa28_0 ⟨ar, 0, none⟩ ⟨ar, 0, none⟩ rfl rfl) (L_rb cv rfl ?_)))
 have od := ((sj.st n9).st ob)
 refine L_pu (P_ld ag9 cL ⟨ar, 0, none⟩ (vs a.Id) rfl (od.cell rfl)) (L_rb cv rfl (L_pu (P_scmp base_.Id a.Id (base_.Id != a.Id) rfl rfl rfl) (L_pu (P_pick false (vb (base_.Id != a.Id)) (by exact congrArg Value.bool cv) rfl) (L_mv (vb (base_.Id != a.Id)) rfl ?_))))
 rcases bool_or (base_.Id != a.Id) with cw | cw
 ·have H := ite_t H cw
  refine L_pb cw rfl (L_pb cw rfl (L_pb cw rfl (L_pb cw rfl (L_pb cw rfl (L_pu (P_pick true (vb true) (by exact congrArg Value.bool cw) rfl) (L_nil (W_ct (b := true) rfl rfl ?_)))))))
  refine W_seq (W_reg (L_pu (P_build (.agg #[vs ([] : Str), vi 0, .slice none 0 0, .slice none 0 0]) (fun _ => by kernel_rfl)) (L_mv (.slice ag a0 a1) rfl ?_)))
  have xu := ((((co.k0 ce).k0 ba).k0 bh).k0 bl)
  refine L_stb aa 0 [vs ([] : Str), vi 0, .slice none 0 0, .slice none 0 0] [vs ([] : Str), vi 0, .slice none 0 0, .slice none 0 0] [vs ([] : Str), vi 0, .slice none 0 0, .slice none 0 0] rfl xu rfl sz28 rfl rfl rfl fun sv sy xv => ?_
  have xw := gi.wr 1 rfl sy
  refine L_as (.slice ag a0 a1) rfl (L_nil (W_ret ?_))
  have xx := xw.own (Gr.refl _ none) none (by simp)
  have xy : Ow kPt 83 sv ([bk none, bk ag, some aa] ++ O) (.slice none 0 0) [] := Ow.nil _ _ _ _
  have jw := xx.own (Gr.refl _ none) none (by simp)
  have xz : Ow kTag 39 sv ([bk none, bk none, bk ag, some aa] ++ O) (.slice none 0 0) [] := Ow.nil _ _ _ _
  have x0 := xv
  have x1 := jw.bgv x0 3 rfl
  have jx := jw.drop 3 rfl
  have oe := jx.perm (.swap _ _ _)
  have x2 := jx.stp (.swap _ _ _)
  have x3 := (x1.st x2)
  have x4 := (jx.sp (jw.sd (xy.so none (Gr.refl _ none) (by simp)) 1 3 rfl rfl rfl) (.swap _ _ _))
  have x5 := (jx.sp (jw.sd xz 0 3 rfl rfl rfl) (.swap _ _ _))
  have x6 := (jx.sp (jw.sd (((gi.sw (((cp.sn ba).sn bh).sn bl) 0 1 rfl rfl rfl sy).so none (Gr.refl _ none) (by simp)).so none (Gr.refl _ none) (by simp)) 2 3 rfl rfl rfl) (.swap _ _ _))
  exact ⟨[.agg #[vs ([] : Str), vi 0, .slice none 0 0, .slice none 0 0], .slice ag a0 a1], ⟨_, _, rfl, x3.1.res rfl ag28 sz28, ⟨_, rfl, rfl⟩⟩, (⟨([] : Str), (⟨0, ([] : List Pt)⟩ : Shape), ([] : List Tag)⟩ : Feat), ([] : List Str), none, 0, 0, none, 0, 0, ag, a0, a1, rfl, H, oe.gr.g0, oe.ok, oe.ge, (by decide), x4, x5, x6⟩
 have H := ite_f H cw
 refine L_rb cw rfl (L_pu (P_fa fa28_0 ⟨au, 0, none⟩ ⟨au, 0, none⟩ rfl rfl) (L_rb cw rfl (L_pu (P_ld ag9 cL ⟨au, 0, none⟩ (vs base_.Id) rfl (oc.cell rfl)) (L_rb cw rfl (L_pu (P_fa fa28_0 ⟨bg, 0, none⟩ ⟨bg, 0, none⟩ rfl rfl) (L_rb cw rfl ?_))))))
 have sz := (sr.st ob)
 refine L_pu (P_ld ag9 cL ⟨bg, 0, none⟩ (vs b.Id) rfl (sz.cell rfl)) (L_rb cw rfl (L_pu (P_scmp base_.Id b.Id (base_.Id != b.Id) rfl rfl rfl) (L_pu (P_pick false (vb (base_.Id != b.Id)) (by exact congrArg Value.bool cw) rfl) (L_nil ?_))))
 refine W_cond (base_.Id != b.Id) rfl (fun og => ?_) (fun og => ?_)
 ·have H := ite_t H og
  refine W_seq (W_reg (L_pu (P_build (.agg #[vs ([] : Str), vi 0, .slice none 0 0, .slice none 0 0]) (fun _ => by kernel_rfl)) (L_mv (.slice ag a0 a1) rfl ?_)))
  have x7 := ((((co.k0 ce).k0 ba).k0 bh).k0 bl)
  refine L_stb aa 0 [vs ([] : Str), vi 0, .slice none 0 0, .slice none 0 0] [vs ([] : Str), vi 0, .slice none 0 0, .slice none 0 0] [vs ([] : Str), vi 0, .slice none 0 0, .slice none 0 0] rfl x7 rfl sz28 rfl rfl rfl fun s0 s1 x8 => ?_
  have x9 := gi.wr 1 rfl s1
  refine L_as (.slice ag a0 a1) rfl (L_nil (W_ret ?_))
  have ya := x9.own (Gr.refl _ none) none (by simp)
  have yb : Ow kPt 83 s0 ([bk none, bk ag, some aa] ++ O) (.slice none 0 0) [] := Ow.nil _ _ _ _
  have jy := ya.own (Gr.refl _ none) none (by simp)
  have yc : Ow kTag 39 s0 ([bk none, bk none, bk ag, some aa] ++ O) (.slice none 0 0) [] := Ow.nil _ _ _ _
  have yd := x8
  have ye := jy.bgv yd 3 rfl
  have jz := jy.drop 3 rfl
  have oh := jz.perm (.swap _ _ _)
  have yf := jz.stp (.swap _ _ _)
  have yg := (ye.st yf)
  have yh := (jz.sp (jy.sd (yb.so none (Gr.refl _ none) (by simp)) 1 3 rfl rfl rfl) (.swap _ _ _))
  have yi := (jz.sp (jy.sd yc 0 3 rfl rfl rfl) (.swap _ _ _))
  have yj := (jz.sp (jy.sd (((gi.sw (((cp.sn ba).sn bh).sn bl) 0 1 rfl rfl rfl s1).so none (Gr.refl _ none) (by simp)).so none (Gr.refl _ none) (by simp)) 2 3 rfl rfl rfl) (.swap _ _ _))
  exact ⟨[.agg #[vs ([] : Str), vi 0, .slice none 0 0, .slice none 0 0], .slice ag a0 a1], ⟨_, _, rfl, yg.1.res rfl ag28 sz28, ⟨_, rfl, rfl⟩⟩, (⟨([] : Str), (⟨0, ([] : List Pt)⟩ : Shape), ([] : List Tag)⟩ : Feat), ([] : List Str), none, 0, 0, none, 0, 0, ag, a0, a1, rfl, H, oh.gr.g0, oh.ok, oh.ge, (by decide), yh, yi, yj⟩
 have H := ite_f H og
 refine W_skip (W_seq (W_reg (L_pu (P_fa fa28_0 ⟨ar, 0, none⟩ ⟨ar, 0, none⟩ rfl rfl) (L_pu (P_ld ag9 cL ⟨ar, 0, none⟩ (vs a.Id) rfl (od.cell rfl)) (L_lit (kd := kTag) ei26 gi ([] : List Tag) (cells := []) rfl (fun _ => by kernel_rfl) fun alq af em en bs hr219 s2 d4 => ?_)))))
 refine L_pu (P_build (.agg #[vs a.Id, vi 0, .slice none 0 0, .slice af em en]) (fun _ => by kernel_rfl)) (L_alloc [vs [], .int .i64 0, .slice none 0 0, .slice none 0 0] ze28 fun alr ab bq hu227 a5 yk => ?_)
 have a6 := s2.own a5 (some ab) (oglt bq hu227)
 refine L_stb ab 0 [vs ([] : Str), vi 0, .slice none 0 0, .slice none 0 0] [vs a.Id, vi 0, .slice none 0 0, .slice af em en] [vs a.Id, vi 0, .slice none 0 0, .slice af em en] rfl yk rfl sz28 rfl rfl rfl fun s3 a7 d5 => ?_
 have g1 := a6.wr 0 rfl a7
 refine L_nil (W_seq (W_reg (L_pu (P_fa fa28_1 ⟨au, 0, none⟩ ⟨au, 1, none⟩ rfl rfl) ?_)))
 have oi := gi.stown _ bs hr219
 have oj := s2.stown _ a5 (oge bq)
 have ol := a6.stw 0 rfl a7
 have om := (((oc.st oi).st oj).st ol)
 refine L_pu (P_lda ag25 sz25 cL ⟨au, 1, none⟩ [vi base_.Shape.Kind, .slice A2 n3 c4] rfl rfl (om.cells (off := 1) rfl)) (L_pu (P_fa fa28_1 ⟨ar, 0, none⟩ ⟨ar, 1, none⟩ rfl rfl) ?_)
 have on := (((od.st oi).st oj).st ol)
 refine L_pu (P_lda ag25 sz25 cL ⟨ar, 1, none⟩ [vi a.Shape.Kind, .slice a2 a3 a4] rfl rfl (on.cells (off := 1) rfl)) (L_pu (P_fa fa28_1 ⟨bg, 0, none⟩ ⟨bg, 1, none⟩ rfl rfl) ?_)
 have j0 := (((sz.st oi).st oj).st ol)
 refine L_pu (P_lda ag25 sz25 cL ⟨bg, 1, none⟩ [vi b.Shape.Kind, .slice al am an] rfl rfl (j0.cells (off := 1) rfl)) ?_
 obtain ⟨f, f_ok, yl, H⟩ := H
 have ym : ∀ (w : World) (L : Ob), Ct [] s3 w L ([some ab, bk af, bk ag, some aa] ++ O) → ∀ (x0_ : Shape) (l7 : Option Addr) (l8 l9 : Nat) (s4 : Sl kPt w (Fr (L ++ ([some ab, bk af, bk ag, some aa] ++ O))) (.slice l7 l8 l9) x0_.Pts) (x1_ : Shape) (ma : Option Addr) (mb mc : Nat) (s5 : Sl kPt w (Fr (L ++ ([some ab, bk af, bk ag, some aa] ++ O))) (.slice ma mb mc) x1_.Pts), f_ok x0_ x1_ → Ret Try.prog 13 ([.agg #[vi x0_.Kind, .slice l7 l8 l9], .agg #[vi x1_.Kind, .slice ma mb mc]] ++ []) w (fun v w' => v = vb (f x0_ x1_) ∧ Gr w w' none) := by
  intro w L c x0_ l7 l8 l9 s4 x1_ ma mb mc s5 hok
  refine (F25.calls w c.ok x0_ l7 l8 l9 s4 x1_ ma mb mc s5  _ (yl x0_ x1_ hok)).mono ?_
  rintro _ w2 ⟨r, rfl, rfl, g2⟩
  exact ⟨rfl, g2⟩
 refine L_call go28 [.agg #[vi base_.Shape.Kind, .slice A2 n3 c4], .agg #[vi a.Shape.Kind, .slice a2 a3 a4], .agg #[vi b.Shape.Kind, .slice al am an], .func (.func 13) #[] #[]] rfl ((F6.calls s3 g1.ok base_.Shape A2 n3 c4 (hp5.st g1.st) a.Shape a2 a3 a4 (c5.st g1.st) b.Shape al am an (c6.st g1.st) 13 [] f f_ok go13 ym _ H).mono ?_)
 rintro _ als ⟨r4, r5, cq, cr, cs, rfl, H, ah, ev⟩
 have oo := g1.k0 ah
 refine L_mv (.tuple #[.agg #[vi r4.Kind, .slice cq cr cs], vb r5]) rfl (L_pu (P_ext [.agg #[vi r4.Kind, .slice cq cr cs], vb r5] 0 (.agg #[vi r4.Kind, .slice cq cr cs]) rfl rfl) (L_pu (P_ext [.agg #[vi r4.Kind, .slice cq cr cs], vb r5] 1 (vb r5) rfl rfl) (L_alloc [.int .i64 0, .slice none 0 0] ze25 fun alt bn bp hu258 ai yn => ?_)))
 have aj := oo.own ai (some bn) (oglt bp hu258)
 refine L_stb bn 0 [vi 0, .slice none 0 0] [vi r4.Kind, .slice cq cr cs] [vi r4.Kind, .slice cq cr cs] rfl yn rfl sz25 rfl rfl rfl fun yo ak eo => ?_
 have bi := aj.wr 0 rfl ak
 refine L_as (vb r5) rfl (L_nil (W_seq (W_seq (W_reg (L_mv (vb r5) rfl (L_pu (P_not r5 rfl) (L_nil ?_)))))))
 obtain ⟨yp, H, yq⟩ := H
 refine W_join (J := (fun t cb => ∃ (xs : List Str) (av : Option Addr) (iy : Nat) (iz : Nat) (z : Int) (z2 : List Pt) (i0 : Option Addr) (i1 : Nat) (i2 : Nat), yp xs z z2 ∧ Has t [(3, .pointer (some ⟨au, 0, none⟩)), (4, .pointer (some ⟨ar, 0, none⟩)), (5, .pointer (some ⟨bg, 0, none⟩)), (6, .pointer (some ⟨aa, 0, none⟩)), (8, .slice av iy iz), (9, .pointer (some ⟨ab, 0, none⟩)), (10, .pointer (some ⟨bn, 0, none⟩))] ∧ Ct [] w0 cb [some bn, some ab, bk af, bk av, some aa] O ∧ Sl kPt cb (Fr ([some bn, some ab, bk af, bk av, some aa] ++ O)) (.slice a2 a3 a4) a.Shape.Pts ∧ Sl kTag cb (Fr ([some bn, some ab, bk af, bk av, some aa] ++ O)) (.slice bd be bf) a.Tags ∧ Sl kPt cb (Fr ([some bn, some ab, bk af, bk av, some aa] ++ O)) (.slice al am an) b.Shape.Pts ∧ Sl kTag cb (Fr ([some bn, some ab, bk af, bk av, some aa] ++ O)) (.slice ao ap aq) b.Tags ∧ Sl kPt cb (Fr ([some bn, some ab, bk af, bk av, some aa] ++ O)) (.slice A2 n3 c4) base_.Shape.Pts ∧ Sl kTag cb (Fr ([some bn, some ab, bk af, bk av, some aa] ++ O)) (.slice A7 n8 c9) base_.Tags ∧ Sl kPt cb (Fr ([some bn, some ab, bk af, bk av, some aa] ++ O)) (.slice i0 i1 i2) z2 ∧ Ow Kd.str 9 cb ([some bn, some ab, bk af, bk av, some aa] ++ O) (.slice av iy iz) xs ∧ Ow kTag 39 cb ([some bn, some ab, bk af, bk av, some aa] ++ O) (.slice af em en) ([] : List Tag) ∧ Fb cb ([some bn, some ab, bk af, bk av, some aa] ++ O) au [vs base_.Id, vi base_.Shape.Kind, .slice A2 n3 c4, .slice A7 n8 c9] ∧ Fb cb ([some bn, some ab, bk af, bk av, some aa] ++ O) ar [vs a.Id, vi a.Shape.Kind, .slice a2 a3 a4, .slice bd be bf] ∧ Fb cb ([some bn, some ab, bk af, bk av, some aa] ++ O) bg [vs b.Id, vi b.Shape.Kind, .slice al am an, .slice ao ap aq] ∧ Bx cb aa [vs ([] : Str), vi 0, .slice none 0 0, .slice none 0 0] ∧ Bx cb ab [vs a.Id, vi 0, .slice none 0 0, .slice af em en] ∧ Bx cb bn [vi z, .slice i0 i1 i2])) ?_ ?_
 ·refine W_cond (!r5) rfl (fun oq => ?_) (fun oq => ?_)
  ·have H := ite_t H oq
   refine W_seq (W_reg (L_as (vb false) rfl (L_nil (W_seq (W_seq (W_reg (L_pu (P_fa fa28_1 ⟨au, 0, none⟩ ⟨au, 1, none⟩ rfl rfl) (L_pu (P_fa fa25_0 ⟨au, 1, none⟩ ⟨au, 1, none⟩ rfl rfl) ?_))))))))
   have j1 := g1.stn ah
   have df := oo.stown _ ai (oge bp)
   have dg := aj.stw 0 rfl ak
   have dh := (((om.st j1).st df).st dg)
   refine L_pu (P_ld ag3 cL ⟨au, 1, none⟩ (vi base_.Shape.Kind) rfl (dh.cell rfl)) (L_pu (P_fa fa28_1 ⟨ar, 0, none⟩ ⟨ar, 1, none⟩ rfl rfl) (L_pu (P_fa fa25_0 ⟨ar, 1, none⟩ ⟨ar, 1, none⟩ rfl rfl) ?_))
   have g3 := (((on.st j1).st df).st dg)
   refine L_pu (P_ld ag3 cL ⟨ar, 1, none⟩ (vi a.Shape.Kind) rfl (g3.cell rfl)) (L_pu (P_cmp base_.Shape.Kind a.Shape.Kind (base_.Shape.Kind == a.Shape.Kind) rfl rfl rfl) (L_mv (vb (base_.Shape.Kind == a.Shape.Kind)) rfl ?_))
   rcases bool_or (base_.Shape.Kind == a.Shape.Kind) with b4 | b4
   ·have H := ite_t H b4
    refine L_rb b4 rfl (L_pu (P_fa fa28_1 ⟨au, 0, none⟩ ⟨au, 1, none⟩ rfl rfl) (L_rb b4 rfl (L_pu (P_fa fa25_0 ⟨au, 1, none⟩ ⟨au, 1, none⟩ rfl rfl) (L_rb b4 rfl (L_pu (P_ld ag3 cL ⟨au, 1, none⟩ (vi base_.Shape.Kind) rfl (dh.cell rfl)) (L_rb b4 rfl (L_pu (P_fa fa28_1 ⟨bg, 0, none⟩ ⟨bg, 1, none⟩ rfl rfl) (L_rb b4 rfl ?_))))))))
    refine L_pu (P_fa fa25_0 ⟨bg, 1, none⟩ ⟨bg, 1, none⟩ rfl rfl) (L_rb b4 rfl ?_)
    have ep := (((j0.st j1).st df).st dg)
    refine L_pu (P_ld ag3 cL ⟨bg, 1, none⟩ (vi b.Shape.Kind) rfl (ep.cell rfl)) (L_rb b4 rfl (L_pu (P_cmp base_.Shape.Kind b.Shape.Kind (base_.Shape.Kind == b.Shape.Kind) rfl rfl rfl) (L_pu (P_pick true (vb (base_.Shape.Kind == b.Shape.Kind)) (by exact congrArg Value.bool b4) rfl) (L_nil ?_))))
    refine W_cond (base_.Shape.Kind == b.Shape.Kind) rfl (fun os => ?_) (fun os => ?_)
    ·have H := ite_t H os
     refine W_seq (W_reg (L_pu (P_fa fa28_1 ⟨au, 0, none⟩ ⟨au, 1, none⟩ rfl rfl) (L_pu (P_fa fa25_1 ⟨au, 1, none⟩ ⟨au, 2, none⟩ rfl rfl) (L_pu (P_ld ag23 cL ⟨au, 2, none⟩ (.slice A2 n3 c4) rfl (dh.cell rfl)) (L_pu (P_fa fa28_1 ⟨ar, 0, none⟩ ⟨ar, 1, none⟩ rfl rfl) (L_pu (P_fa fa25_1 ⟨ar, 1, none⟩ ⟨ar, 2, none⟩ rfl rfl) (L_pu (P_ld ag23 cL ⟨ar, 2, none⟩ (.slice a2 a3 a4) rfl (g3.cell rfl)) (L_pu (P_fa fa28_1 ⟨bg, 0, none⟩ ⟨bg, 1, none⟩ rfl rfl) ?_))))))))
     refine L_pu (P_fa fa25_1 ⟨bg, 1, none⟩ ⟨bg, 2, none⟩ rfl rfl) (L_pu (P_ld ag23 cL ⟨bg, 2, none⟩ (.slice al am an) rfl (ep.cell rfl)) ?_)
     refine L_call go29 [.slice A2 n3 c4, .slice a2 a3 a4, .slice al am an] rfl ((F35.calls yo bi.ok base_.Shape.Pts A2 n3 c4 (hp5.st bi.st) a.Shape.Pts a2 a3 a4 (c5.st bi.st) b.Shape.Pts al am an (c6.st bi.st) _ H).mono ?_)
     rintro _ alu ⟨r6, r7, bv, cf, cg, rfl, H, bj, yr, c7, ot⟩
     have g4 := bi.owns bj yr c7
     refine L_mv (.tuple #[.slice bv cf cg, vb r7]) rfl (L_pu (P_ext [.slice bv cf cg, vb r7] 0 (.slice bv cf cg) rfl rfl) (L_pu (P_ext [.slice bv cf cg, vb r7] 1 (vb r7) rfl rfl) (L_as (.slice bv cf cg) rfl (L_as (vb r7) rfl (L_nil (W_seq (W_reg (L_pu (P_fa fa28_1 ⟨ar, 0, none⟩ ⟨ar, 1, none⟩ rfl rfl) ?_))))))))
     refine L_pu (P_fa fa25_0 ⟨ar, 1, none⟩ ⟨ar, 1, none⟩ rfl rfl) ?_
     have ch := bi.stos bj c7
     have g5 := (g3.st ch)
     refine L_pu (P_ld ag3 cL ⟨ar, 1, none⟩ (vi a.Shape.Kind) rfl (g5.cell rfl)) (L_mv (.slice bv cf cg) rfl (L_pu (P_build (.agg #[vi a.Shape.Kind, .slice bv cf cg]) (fun _ => by kernel_rfl)) (L_alloc [.int .i64 0, .slice none 0 0] ze25 fun alv gj bt hu326 aw ys => ?_)))
     have ax := g4.own aw (some gj) (oglt bt hu326)
     refine L_stb gj 0 [vi 0, .slice none 0 0] [vi a.Shape.Kind, .slice bv cf cg] [vi a.Shape.Kind, .slice bv cf cg] rfl ys rfl sz25 rfl rfl rfl fun yt ay s6 => ?_
     have di := ax.wr 0 rfl ay
     refine L_nil (W_seq (W_reg (L_mv (vb r7) rfl (L_mv (vb r7) rfl ?_))))
     rcases bool_or r7 with ew | ew
     ·have H := ite_t H ew
      refine L_rb ew rfl (L_pu (P_lda ag25 sz25 cL ⟨gj, 0, none⟩ [vi a.Shape.Kind, .slice bv cf cg] rfl rfl (s6.cells (off := 0) rfl)) (L_rb ew rfl ?_))
      have yu := (ax.sw (ot.so _ aw (oge bt)) 1 0 rfl rfl rfl ay)
      have yv := di.gv yu 1 rfl
      have yw := di.drop 1 rfl
      refine L_call go30 [.agg #[vi a.Shape.Kind, .slice bv cf cg]] rfl ((F47.calls yt yw.ok (⟨a.Shape.Kind, r6⟩ : Shape) bv cf cg yv _ H).mono ?_)
      rintro _ alw ⟨r8, rfl, H, bo⟩
      have b5 := di.k0 bo
      refine L_pu (P_pick true (vb r8) (by exact congrArg Value.bool ew) rfl) (L_nil ?_)
      refine W_cond r8 rfl (fun ou => ?_) (fun ou => ?_)
      ·have H := ite_t H ou
       refine W_reg ?_
       have yx := (s6.k0 bo)
       refine L_pu (P_lda ag25 sz25 cL ⟨gj, 0, none⟩ [vi a.Shape.Kind, .slice bv cf cg] rfl rfl (yx.cells (off := 0) rfl)) ?_
       have yy := ((ax.bm ((eo.k0 bj).k0 aw) 2 0 rfl rfl rfl ay).k0 bo)
       refine L_stb bn 0 [vi r4.Kind, .slice cq cr cs] [vi a.Shape.Kind, .slice bv cf cg] [vi a.Shape.Kind, .slice bv cf cg] rfl yy rfl sz25 rfl rfl rfl fun alx dk s7 => ?_
       have g6 := b5.wr 2 rfl dk
       refine L_as (vb true) rfl (L_nil (W_seq (W_reg (L_mv (vb true) rfl (L_pu (P_not true rfl) (L_nil ?_))))))
       refine W_cond (!true) rfl (fun ov => ?_) (fun ov => ?_)
       ·have H := ite_t H ov
        refine W_reg (L_mv (.slice ag a0 a1) rfl (L_lit (kd := Kd.str) ei31 g6 ([([115, 104, 97, 112, 101] : Str)] : List Str) (cells := [vs ([115, 104, 97, 112, 101] : Str)]) ⟨[vs ([115, 104, 97, 112, 101] : Str)], _, rfl, ⟨rfl, (by decide : Lim ([115, 104, 97, 112, 101] : Str))⟩, rfl⟩ (fun _ => by kernel_rfl) fun aly yz y0 y1 g7 hr358 i3 y2 => ?_))
        obtain ⟨y3, H⟩ := H
        have y4 := ((b5.sw ((ax.sw (((aj.sw (((a6.sw (((((cp.sn ba).sn bh).sn bl).so _ bs hr219).so _ a5 (oge bq)) 2 0 rfl rfl rfl a7).sn ah).so _ ai (oge bp)) 3 0 rfl rfl rfl ak).sos bj c7).so _ aw (oge bt)) 5 0 rfl rfl rfl ay).sn bo) 5 2 rfl rfl rfl dk).so _ g7 hr358)
        refine L_app ei31 i3 (.slice ag a0 a1) ([] : List Str) ([([115, 104, 97, 112, 101] : Str)] : List Str) rfl y4 (.slice yz y0 y1) rfl y2.sx 6 rfl y3 fun y5 ow s8 s9 j2 j3 j4 y6 => ?_
        refine L_as (.slice ow s8 s9) rfl (L_nil ?_)
        have j5 := j4.drop 0 rfl
        have j6 := j5.drop 0 rfl
        have y7 := (j5.sd (j4.sd (i3.sm ((b5.sw ((ax.sw (ot.so _ aw (oge bt)) 1 0 rfl rfl rfl ay).sn bo) 1 2 rfl rfl rfl dk).so _ g7 hr358) 2 6 rfl rfl rfl j2 j3) 2 0 rfl rfl rfl) 1 0 rfl rfl rfl)
        have y8 := j6.gv y7 0 rfl
        have g8 : Ct [] w0 y5 [some bn, some ab, bk af, bk ow, some aa] O := j6.drop 0 rfl
        have y9 := (j6.sd (j5.sd (j4.sd y6 6 0 rfl rfl rfl) 5 0 rfl rfl rfl) 4 0 rfl rfl rfl)
        have za := (j6.sd (j5.sd (j4.sd (i3.sm ((b5.sw ((ax.sw (((aj.sw (((a6.sw (d4.so _ a5 (oge bq)) 1 0 rfl rfl rfl a7).sn ah).so _ ai (oge bp)) 2 0 rfl rfl rfl ak).sos bj c7).so _ aw (oge bt)) 4 0 rfl rfl rfl ay).sn bo) 4 2 rfl rfl rfl dk).so _ g7 hr358) 5 6 rfl rfl rfl j2 j3) 5 0 rfl rfl rfl) 4 0 rfl rfl rfl) 3 0 rfl rfl rfl)
        have ox := g4.stown _ aw (oge bt)
        have oy := ax.stw 0 rfl ay
        have oz := di.stn bo
        have o0 := b5.stw 2 rfl dk
        have o1 := g6.stown _ g7 hr358
        have o2 := j4.std 0 rfl
        have o3 := j5.std 0 rfl
        have o4 := j6.std 0 rfl
        have zb := ((((((((((dh.st ch).st ox).st oy).st oz).st o0).st o1).st j3).st o2).st o3).st o4)
        have zc := (((((((((g5.st ox).st oy).st oz).st o0).st o1).st j3).st o2).st o3).st o4)
        have zd := ((((((((((ep.st ch).st ox).st oy).st oz).st o0).st o1).st j3).st o2).st o3).st o4)
        have ze := (i3.bm ((b5.bm ((ax.bm (((aj.bm (((a6.bm ((((((co.k0 ce).k0 ba).k0 bh).k0 bl).k0 bs).k0 a5) 3 0 rfl rfl rfl a7).k0 ah).k0 ai) 4 0 rfl rfl rfl ak).k0 bj).k0 aw) 6 0 rfl rfl rfl ay).k0 bo) 6 2 rfl rfl rfl dk).k0 g7) 7 6 rfl rfl rfl j2)
        have zf := (i3.bm ((b5.bm ((ax.bm (((aj.bm ((d5.k0 ah).k0 ai) 1 0 rfl rfl rfl ak).k0 bj).k0 aw) 3 0 rfl rfl rfl ay).k0 bo) 3 2 rfl rfl rfl dk).k0 g7) 4 6 rfl rfl rfl j2)
        have zg := (i3.bm (s7.k0 g7) 3 6 rfl rfl rfl j2)
        exact ⟨(([] : List Str) ++ ([([115, 104, 97, 112, 101] : Str)] : List Str)), ow, s8, s9, a.Shape.Kind, r6, bv, cf, cg, H, (hasI rfl), g8, (c5.st g8.st), (dv.st g8.st), (c6.st g8.st), (dx.st g8.st), (hp5.st g8.st), (du.st g8.st), y8, y9, za, zb, zc, zd, ze, zf, zg⟩
       have H := ite_f H ov
       refine W_skip ?_
       have j7 := g6.drop 0 rfl
       have zh := (g6.sd (b5.sw ((ax.sw (ot.so _ aw (oge bt)) 1 0 rfl rfl rfl ay).sn bo) 1 2 rfl rfl rfl dk) 1 0 rfl rfl rfl)
       have zi := j7.gv zh 0 rfl
       have g9 := j7.drop 0 rfl
       have zj := (j7.sd (g6.sd (b5.sw ((ax.sw (((aj.sw (((a6.sw (((((cp.sn ba).sn bh).sn bl).so _ bs hr219).so _ a5 (oge bq)) 2 0 rfl rfl rfl a7).sn ah).so _ ai (oge bp)) 3 0 rfl rfl rfl ak).sos bj c7).so _ aw (oge bt)) 5 0 rfl rfl rfl ay).sn bo) 5 2 rfl rfl rfl dk) 5 0 rfl rfl rfl) 4 0 rfl rfl rfl)
       have zk := (j7.sd (g6.sd (b5.sw ((ax.sw (((aj.sw (((a6.sw (d4.so _ a5 (oge bq)) 1 0 rfl rfl rfl a7).sn ah).so _ ai (oge bp)) 2 0 rfl rfl rfl ak).sos bj c7).so _ aw (oge bt)) 4 0 rfl rfl rfl ay).sn bo) 4 2 rfl rfl rfl dk) 4 0 rfl rfl rfl) 3 0 rfl rfl rfl)
       have o5 := g4.stown _ aw (oge bt)
       have o6 := ax.stw 0 rfl ay
       have o7 := di.stn bo
       have o8 := b5.stw 2 rfl dk
       have o9 := g6.std 0 rfl
       have pa := j7.std 0 rfl
       have zl := (((((((dh.st ch).st o5).st o6).st o7).st o8).st o9).st pa)
       have zm := ((((((g5.st o5).st o6).st o7).st o8).st o9).st pa)
       have zn := (((((((ep.st ch).st o5).st o6).st o7).st o8).st o9).st pa)
       have zo := (b5.bm ((ax.bm (((aj.bm (((a6.bm ((((((co.k0 ce).k0 ba).k0 bh).k0 bl).k0 bs).k0 a5) 3 0 rfl rfl rfl a7).k0 ah).k0 ai) 4 0 rfl rfl rfl ak).k0 bj).k0 aw) 6 0 rfl rfl rfl ay).k0 bo) 6 2 rfl rfl rfl dk)
       have zp := (b5.bm ((ax.bm (((aj.bm ((d5.k0 ah).k0 ai) 1 0 rfl rfl rfl ak).k0 bj).k0 aw) 3 0 rfl rfl rfl ay).k0 bo) 3 2 rfl rfl rfl dk)
       have zq := s7
       exact ⟨([] : List Str), ag, a0, a1, a.Shape.Kind, r6, bv, cf, cg, H, (hasI rfl), g9, (c5.st g9.st), (dv.st g9.st), (c6.st g9.st), (dx.st g9.st), (hp5.st g9.st), (du.st g9.st), zi, zj, zk, zl, zm, zn, zo, zp, zq⟩
      have H := ite_f H ou
      refine W_skip (W_seq (W_reg (L_mv (vb false) rfl (L_pu (P_not false rfl) (L_nil ?_)))))
      refine W_cond (!false) rfl (fun pb => ?_) (fun pb => ?_)
      ·have H := ite_t H pb
       refine W_reg (L_mv (.slice ag a0 a1) rfl (L_lit (kd := Kd.str) ei31 b5 ([([115, 104, 97, 112, 101] : Str)] : List Str) (cells := [vs ([115, 104, 97, 112, 101] : Str)]) ⟨[vs ([115, 104, 97, 112, 101] : Str)], _, rfl, ⟨rfl, (by decide : Lim ([115, 104, 97, 112, 101] : Str))⟩, rfl⟩ (fun _ => by kernel_rfl) fun alz pd zr zs i4 hr420 j8 zt => ?_))
       obtain ⟨zu, H⟩ := H
       have zv := (((ax.sw (((aj.sw (((a6.sw (((((cp.sn ba).sn bh).sn bl).so _ bs hr219).so _ a5 (oge bq)) 2 0 rfl rfl rfl a7).sn ah).so _ ai (oge bp)) 3 0 rfl rfl rfl ak).sos bj c7).so _ aw (oge bt)) 5 0 rfl rfl rfl ay).sn bo).so _ i4 hr420)
       refine L_app ei31 j8 (.slice ag a0 a1) ([] : List Str) ([([115, 104, 97, 112, 101] : Str)] : List Str) rfl zv (.slice pd zr zs) rfl zt.sx 6 rfl zu fun al0 md ta tb me j9 pe zw => ?_
       refine L_as (.slice md ta tb) rfl (L_nil ?_)
       have ha : ([bk pd, some gj, bk bv, some bn, some ab, bk af, bk md, some aa] : Ob).Perm ((bk pd :: some gj :: bk bv :: []) ++ [some bn, some ab, bk af, bk md, some aa]) := (pc fun a => by (try simp only [pca, pcc, pcn, Nat.add_zero, Nat.zero_add]); first | done | ac_rfl)
       have hb := pe.drops ha
       have mf := g4.stown _ aw (oge bt)
       have mg := ax.stw 0 rfl ay
       have mh := di.stn bo
       have mi := b5.stown _ i4 hr420
       have zx := (((((((((ev.st df).st dg).st ch).st mf).st mg).st mh).st mi).st j9).st (St.drops _ O ha))
       have zy := (pe.odr zw ha 3 rfl)
       have zz := (pe.odr (j8.sm (((ax.sw (((aj.sw (((a6.sw (d4.so _ a5 (oge bq)) 1 0 rfl rfl rfl a7).sn ah).so _ ai (oge bp)) 2 0 rfl rfl rfl ak).sos bj c7).so _ aw (oge bt)) 4 0 rfl rfl rfl ay).sn bo).so _ i4 hr420) 5 6 rfl rfl rfl me j9) ha 2 rfl)
       have z0 := (((((((dh.st ch).st mf).st mg).st mh).st mi).st j9).st (St.drops _ O ha))
       have z1 := ((((((g5.st mf).st mg).st mh).st mi).st j9).st (St.drops _ O ha))
       have z5 := (((((((ep.st ch).st mf).st mg).st mh).st mi).st j9).st (St.drops _ O ha))
       have z6 := (j8.bm (((ax.bm (((aj.bm (((a6.bm ((((((co.k0 ce).k0 ba).k0 bh).k0 bl).k0 bs).k0 a5) 3 0 rfl rfl rfl a7).k0 ah).k0 ai) 4 0 rfl rfl rfl ak).k0 bj).k0 aw) 6 0 rfl rfl rfl ay).k0 bo).k0 i4) 7 6 rfl rfl rfl me)
       have z7 := (j8.bm (((ax.bm (((aj.bm ((d5.k0 ah).k0 ai) 1 0 rfl rfl rfl ak).k0 bj).k0 aw) 3 0 rfl rfl rfl ay).k0 bo).k0 i4) 4 6 rfl rfl rfl me)
       have z8 := (j8.bm (((ax.bm ((eo.k0 bj).k0 aw) 2 0 rfl rfl rfl ay).k0 bo).k0 i4) 3 6 rfl rfl rfl me)
       exact ⟨(([] : List Str) ++ ([([115, 104, 97, 112, 101] : Str)] : List Str)), md, ta, tb, r4.Kind, r4.Pts, cq, cr, cs, H, (hasI rfl), hb, (c5.st hb.st), (dv.st hb.st), (c6.st hb.st), (dx.st hb.st), (hp5.st hb.st), (du.st hb.st), zx, zy, zz, z0, z1, z5, z6, z7, z8⟩
      have H := ite_f H pb
      refine W_skip ?_
      have mj := b5.drop 0 rfl
      have hc := mj.drop 0 rfl
      have ml := g4.stown _ aw (oge bt)
      have mm := ax.stw 0 rfl ay
      have mn := di.stn bo
      have mo := b5.std 0 rfl
      have mp := mj.std 0 rfl
      have z9 := ((((((((ev.st df).st dg).st ch).st ml).st mm).st mn).st mo).st mp)
      have aaa := (mj.sd (b5.sd ((ax.sw (((aj.sw (((a6.sw (((((cp.sn ba).sn bh).sn bl).so _ bs hr219).so _ a5 (oge bq)) 2 0 rfl rfl rfl a7).sn ah).so _ ai (oge bp)) 3 0 rfl rfl rfl ak).sos bj c7).so _ aw (oge bt)) 5 0 rfl rfl rfl ay).sn bo) 5 0 rfl rfl rfl) 4 0 rfl rfl rfl)
      have aab := (mj.sd (b5.sd ((ax.sw (((aj.sw (((a6.sw (d4.so _ a5 (oge bq)) 1 0 rfl rfl rfl a7).sn ah).so _ ai (oge bp)) 2 0 rfl rfl rfl ak).sos bj c7).so _ aw (oge bt)) 4 0 rfl rfl rfl ay).sn bo) 4 0 rfl rfl rfl) 3 0 rfl rfl rfl)
      have aac := ((((((dh.st ch).st ml).st mm).st mn).st mo).st mp)
      have aad := (((((g5.st ml).st mm).st mn).st mo).st mp)
      have aae := ((((((ep.st ch).st ml).st mm).st mn).st mo).st mp)
      have aaf := ((ax.bm (((aj.bm (((a6.bm ((((((co.k0 ce).k0 ba).k0 bh).k0 bl).k0 bs).k0 a5) 3 0 rfl rfl rfl a7).k0 ah).k0 ai) 4 0 rfl rfl rfl ak).k0 bj).k0 aw) 6 0 rfl rfl rfl ay).k0 bo)
      have aag := ((ax.bm (((aj.bm ((d5.k0 ah).k0 ai) 1 0 rfl rfl rfl ak).k0 bj).k0 aw) 3 0 rfl rfl rfl ay).k0 bo)
      have aah := ((ax.bm ((eo.k0 bj).k0 aw) 2 0 rfl rfl rfl ay).k0 bo)
      exact ⟨([] : List Str), ag, a0, a1, r4.Kind, r4.Pts, cq, cr, cs, H, (hasI rfl), hc, (c5.st hc.st), (dv.st hc.st), (c6.st hc.st), (dx.st hc.st), (hp5.st hc.st), (du.st hc.st), z9, aaa, aab, aac, aad, aae, aaf, aag, aah⟩
     have H := ite_f H ew
     refine L_pb ew rfl (L_pb ew rfl (L_pu (P_pick false (vb false) (by exact congrArg Value.bool ew) rfl) (L_nil (W_cf (b := false) rfl rfl ?_))))
     refine W_skip (W_seq (W_reg (L_mv (vb false) rfl (L_pu (P_not false rfl) (L_nil ?_)))))
     refine W_cond (!false) rfl (fun pf => ?_) (fun pf => ?_)
     ·have H := ite_t H pf
      refine W_reg (L_mv (.slice ag a0 a1) rfl (L_lit (kd := Kd.str) ei31 di ([([115, 104, 97, 112, 101] : Str)] : List Str) (cells := [vs ([115, 104, 97, 112, 101] : Str)]) ⟨[vs ([115, 104, 97, 112, 101] : Str)], _, rfl, ⟨rfl, (by decide : Lim ([115, 104, 97, 112, 101] : Str))⟩, rfl⟩ (fun _ => by kernel_rfl) fun al1 pg aai aaj i5 hr472 ka aak => ?_))
      obtain ⟨aal, H⟩ := H
      have aam := ((ax.sw (((aj.sw (((a6.sw (((((cp.sn ba).sn bh).sn bl).so _ bs hr219).so _ a5 (oge bq)) 2 0 rfl rfl rfl a7).sn ah).so _ ai (oge bp)) 3 0 rfl rfl rfl ak).sos bj c7).so _ aw (oge bt)) 5 0 rfl rfl rfl ay).so _ i5 hr472)
      refine L_app ei31 ka (.slice ag a0 a1) ([] : List Str) ([([115, 104, 97, 112, 101] : Str)] : List Str) rfl aam (.slice pg aai aaj) rfl aak.sx 6 rfl aal fun al2 mq tc td mr kb ph aan => ?_
      refine L_as (.slice mq tc td) rfl (L_nil ?_)
      have hd : ([bk pg, some gj, bk bv, some bn, some ab, bk af, bk mq, some aa] : Ob).Perm ((bk pg :: some gj :: bk bv :: []) ++ [some bn, some ab, bk af, bk mq, some aa]) := (pc fun a => by (try simp only [pca, pcc, pcn, Nat.add_zero, Nat.zero_add]); first | done | ac_rfl)
      have he := ph.drops hd
      have ms := g4.stown _ aw (oge bt)
      have mt := ax.stw 0 rfl ay
      have mu := di.stown _ i5 hr472
      have aao := ((((((((ev.st df).st dg).st ch).st ms).st mt).st mu).st kb).st (St.drops _ O hd))
      have aap := (ph.odr aan hd 3 rfl)
      have aaq := (ph.odr (ka.sm ((ax.sw (((aj.sw (((a6.sw (d4.so _ a5 (oge bq)) 1 0 rfl rfl rfl a7).sn ah).so _ ai (oge bp)) 2 0 rfl rfl rfl ak).sos bj c7).so _ aw (oge bt)) 4 0 rfl rfl rfl ay).so _ i5 hr472) 5 6 rfl rfl rfl mr kb) hd 2 rfl)
      have aar := ((((((dh.st ch).st ms).st mt).st mu).st kb).st (St.drops _ O hd))
      have aas := (((((g5.st ms).st mt).st mu).st kb).st (St.drops _ O hd))
      have aat := ((((((ep.st ch).st ms).st mt).st mu).st kb).st (St.drops _ O hd))
      have aau := (ka.bm ((ax.bm (((aj.bm (((a6.bm ((((((co.k0 ce).k0 ba).k0 bh).k0 bl).k0 bs).k0 a5) 3 0 rfl rfl rfl a7).k0 ah).k0 ai) 4 0 rfl rfl rfl ak).k0 bj).k0 aw) 6 0 rfl rfl rfl ay).k0 i5) 7 6 rfl rfl rfl mr)
      have aav := (ka.bm ((ax.bm (((aj.bm ((d5.k0 ah).k0 ai) 1 0 rfl rfl rfl ak).k0 bj).k0 aw) 3 0 rfl rfl rfl ay).k0 i5) 4 6 rfl rfl rfl mr)
      have aaw := (ka.bm ((ax.bm ((eo.k0 bj).k0 aw) 2 0 rfl rfl rfl ay).k0 i5) 3 6 rfl rfl rfl mr)
      exact ⟨(([] : List Str) ++ ([([115, 104, 97, 112, 101] : Str)] : List Str)), mq, tc, td, r4.Kind, r4.Pts, cq, cr, cs, H, (hasI rfl), he, (c5.st he.st), (dv.st he.st), (c6.st he.st), (dx.st he.st), (hp5.st he.st), (du.st he.st), aao, aap, aaq, aar, aas, aat, aau, aav, aaw⟩
     have H := ite_f H pf
     refine W_skip ?_
     have mv := di.drop 0 rfl
     have hf := mv.drop 0 rfl
     have mw := g4.stown _ aw (oge bt)
     have mx := ax.stw 0 rfl ay
     have my := di.std 0 rfl
     have mz := mv.std 0 rfl
     have aax := (((((((ev.st df).st dg).st ch).st mw).st mx).st my).st mz)
     have aay := (mv.sd (di.sd (ax.sw (((aj.sw (((a6.sw (((((cp.sn ba).sn bh).sn bl).so _ bs hr219).so _ a5 (oge bq)) 2 0 rfl rfl rfl a7).sn ah).so _ ai (oge bp)) 3 0 rfl rfl rfl ak).sos bj c7).so _ aw (oge bt)) 5 0 rfl rfl rfl ay) 5 0 rfl rfl rfl) 4 0 rfl rfl rfl)
     have aaz := (mv.sd (di.sd (ax.sw (((aj.sw (((a6.sw (d4.so _ a5 (oge bq)) 1 0 rfl rfl rfl a7).sn ah).so _ ai (oge bp)) 2 0 rfl rfl rfl ak).sos bj c7).so _ aw (oge bt)) 4 0 rfl rfl rfl ay) 4 0 rfl rfl rfl) 3 0 rfl rfl rfl)
     have aa0 := (((((dh.st ch).st mw).st mx).st my).st mz)
     have aa1 := ((((g5.st mw).st mx).st my).st mz)
     have aa2 := (((((ep.st ch).st mw).st mx).st my).st mz)
     have aa3 := (ax.bm (((aj.bm (((a6.bm ((((((co.k0 ce).k0 ba).k0 bh).k0 bl).k0 bs).k0 a5) 3 0 rfl rfl rfl a7).k0 ah).k0 ai) 4 0 rfl rfl rfl ak).k0 bj).k0 aw) 6 0 rfl rfl rfl ay)
     have aa4 := (ax.bm (((aj.bm ((d5.k0 ah).k0 ai) 1 0 rfl rfl rfl ak).k0 bj).k0 aw) 3 0 rfl rfl rfl ay)
     have aa5 := (ax.bm ((eo.k0 bj).k0 aw) 2 0 rfl rfl rfl ay)
     exact ⟨([] : List Str), ag, a0, a1, r4.Kind, r4.Pts, cq, cr, cs, H, (hasI rfl), hf, (c5.st hf.st), (dv.st hf.st), (c6.st hf.st), (dx.st hf.st), (hp5.st hf.st), (du.st hf.st), aax, aay, aaz, aa0, aa1, aa2, aa3, aa4, aa5⟩
    have H := ite_f H os
    refine W_skip (W_seq (W_reg (L_mv (vb false) rfl (L_pu (P_not false rfl) (L_nil ?_)))))
    refine W_cond (!false) rfl (fun pi => ?_) (fun pi => ?_)
    ·have H := ite_t H pi
     refine W_reg (L_mv (.slice ag a0 a1) rfl (L_lit (kd := Kd.str) ei31 bi ([([115, 104, 97, 112, 101] : Str)] : List Str) (cells := [vs ([115, 104, 97, 112, 101] : Str)]) ⟨[vs ([115, 104, 97, 112, 101] : Str)], _, rfl, ⟨rfl, (by decide : Lim ([115, 104, 97, 112, 101] : Str))⟩, rfl⟩ (fun _ => by kernel_rfl) fun al3 aa6 aa7 aa8 i6 hr522 kc aa9 => ?_))
     obtain ⟨aba, H⟩ := H
     have abb := ((aj.sw (((a6.sw (((((cp.sn ba).sn bh).sn bl).so _ bs hr219).so _ a5 (oge bq)) 2 0 rfl rfl rfl a7).sn ah).so _ ai (oge bp)) 3 0 rfl rfl rfl ak).so _ i6 hr522)
     refine L_app ei31 kc (.slice ag a0 a1) ([] : List Str) ([([115, 104, 97, 112, 101] : Str)] : List Str) rfl abb (.slice aa6 aa7 aa8) rfl aa9.sx 4 rfl aba fun al4 te tf tg m0 ke m1 abc => ?_
     refine L_as (.slice te tf tg) rfl (L_nil ?_)
     have hg := m1.drop 0 rfl
     have m2 := bi.stown _ i6 hr522
     have m3 := m1.std 0 rfl
     have abd := (((((ev.st df).st dg).st m2).st ke).st m3)
     have abe := (m1.sd abc 4 0 rfl rfl rfl)
     have abf := (m1.sd (kc.sm ((aj.sw (((a6.sw (d4.so _ a5 (oge bq)) 1 0 rfl rfl rfl a7).sn ah).so _ ai (oge bp)) 2 0 rfl rfl rfl ak).so _ i6 hr522) 3 4 rfl rfl rfl m0 ke) 3 0 rfl rfl rfl)
     have abg := (((dh.st m2).st ke).st m3)
     have abh := (((g3.st m2).st ke).st m3)
     have abi := (((ep.st m2).st ke).st m3)
     have abj := (kc.bm ((aj.bm (((a6.bm ((((((co.k0 ce).k0 ba).k0 bh).k0 bl).k0 bs).k0 a5) 3 0 rfl rfl rfl a7).k0 ah).k0 ai) 4 0 rfl rfl rfl ak).k0 i6) 5 4 rfl rfl rfl m0)
     have abk := (kc.bm ((aj.bm ((d5.k0 ah).k0 ai) 1 0 rfl rfl rfl ak).k0 i6) 2 4 rfl rfl rfl m0)
     have abl := (kc.bm (eo.k0 i6) 1 4 rfl rfl rfl m0)
     exact ⟨(([] : List Str) ++ ([([115, 104, 97, 112, 101] : Str)] : List Str)), te, tf, tg, r4.Kind, r4.Pts, cq, cr, cs, H, (hasI rfl), hg, (c5.st hg.st), (dv.st hg.st), (c6.st hg.st), (dx.st hg.st), (hp5.st hg.st), (du.st hg.st), abd, abe, abf, abg, abh, abi, abj, abk, abl⟩
    have H := ite_f H pi
    refine W_skip ?_
    have abm := ((ev.st df).st dg)
    have abn := (aj.sw (((a6.sw (((((cp.sn ba).sn bh).sn bl).so _ bs hr219).so _ a5 (oge bq)) 2 0 rfl rfl rfl a7).sn ah).so _ ai (oge bp)) 3 0 rfl rfl rfl ak)
    have abo := (aj.sw (((a6.sw (d4.so _ a5 (oge bq)) 1 0 rfl rfl rfl a7).sn ah).so _ ai (oge bp)) 2 0 rfl rfl rfl ak)
    have abp := (aj.bm (((a6.bm ((((((co.k0 ce).k0 ba).k0 bh).k0 bl).k0 bs).k0 a5) 3 0 rfl rfl rfl a7).k0 ah).k0 ai) 4 0 rfl rfl rfl ak)
    have abq := (aj.bm ((d5.k0 ah).k0 ai) 1 0 rfl rfl rfl ak)
    exact ⟨([] : List Str), ag, a0, a1, r4.Kind, r4.Pts, cq, cr, cs, H, (hasI rfl), bi, (c5.st bi.st), (dv.st bi.st), (c6.st bi.st), (dx.st bi.st), (hp5.st bi.st), (du.st bi.st), abm, abn, abo, dh, g3, ep, abp, abq, eo⟩
   have H := ite_f H b4
   refine L_pb b4 rfl (L_pb b4 rfl (L_pb b4 rfl (L_pb b4 rfl (L_pb b4 rfl (L_pb b4 rfl (L_pb b4 rfl (L_pu (P_pick false (vb false) (by exact congrArg Value.bool b4) rfl) (L_nil ?_))))))))
   refine W_cf (b := false) rfl rfl ?_
   refine W_skip (W_seq (W_reg (L_mv (vb false) rfl (L_pu (P_not false rfl) (L_nil ?_)))))
   refine W_cond (!false) rfl (fun pj => ?_) (fun pj => ?_)
   ·have H := ite_t H pj
    refine W_reg (L_mv (.slice ag a0 a1) rfl (L_lit (kd := Kd.str) ei31 bi ([([115, 104, 97, 112, 101] : Str)] : List Str) (cells := [vs ([115, 104, 97, 112, 101] : Str)]) ⟨[vs ([115, 104, 97, 112, 101] : Str)], _, rfl, ⟨rfl, (by decide : Lim ([115, 104, 97, 112, 101] : Str))⟩, rfl⟩ (fun _ => by kernel_rfl) fun al5 abr abs abt i7 hr560 kf abu => ?_))
    obtain ⟨abv, H⟩ := H
    have abw := ((aj.sw (((a6.sw (((((cp.sn ba).sn bh).sn bl).so _ bs hr219).so _ a5 (oge bq)) 2 0 rfl rfl rfl a7).sn ah).so _ ai (oge bp)) 3 0 rfl rfl rfl ak).so _ i7 hr560)
    refine L_app ei31 kf (.slice ag a0 a1) ([] : List Str) ([([115, 104, 97, 112, 101] : Str)] : List Str) rfl abw (.slice abr abs abt) rfl abu.sx 4 rfl abv fun al6 th ti tj m4 kg m5 abx => ?_
    refine L_as (.slice th ti tj) rfl (L_nil ?_)
    have hh := m5.drop 0 rfl
    have m6 := bi.stown _ i7 hr560
    have m7 := m5.std 0 rfl
    have aby := (((((ev.st df).st dg).st m6).st kg).st m7)
    have abz := (m5.sd abx 4 0 rfl rfl rfl)
    have ab0 := (m5.sd (kf.sm ((aj.sw (((a6.sw (d4.so _ a5 (oge bq)) 1 0 rfl rfl rfl a7).sn ah).so _ ai (oge bp)) 2 0 rfl rfl rfl ak).so _ i7 hr560) 3 4 rfl rfl rfl m4 kg) 3 0 rfl rfl rfl)
    have ab1 := (((dh.st m6).st kg).st m7)
    have ab2 := (((g3.st m6).st kg).st m7)
    have ab3 := ((((((j0.st j1).st df).st dg).st m6).st kg).st m7)
    have ab4 := (kf.bm ((aj.bm (((a6.bm ((((((co.k0 ce).k0 ba).k0 bh).k0 bl).k0 bs).k0 a5) 3 0 rfl rfl rfl a7).k0 ah).k0 ai) 4 0 rfl rfl rfl ak).k0 i7) 5 4 rfl rfl rfl m4)
    have ab5 := (kf.bm ((aj.bm ((d5.k0 ah).k0 ai) 1 0 rfl rfl rfl ak).k0 i7) 2 4 rfl rfl rfl m4)
    have ab6 := (kf.bm (eo.k0 i7) 1 4 rfl rfl rfl m4)
    exact ⟨(([] : List Str) ++ ([([115, 104, 97, 112, 101] : Str)] : List Str)), th, ti, tj, r4.Kind, r4.Pts, cq, cr, cs, H, (hasI rfl), hh, (c5.st hh.st), (dv.st hh.st), (c6.st hh.st), (dx.st hh.st), (hp5.st hh.st), (du.st hh.st), aby, abz, ab0, ab1, ab2, ab3, ab4, ab5, ab6⟩
   have H := ite_f H pj
   refine W_skip ?_
   have ab7 := ((ev.st df).st dg)
   have ab8 := (aj.sw (((a6.sw (((((cp.sn ba).sn bh).sn bl).so _ bs hr219).so _ a5 (oge bq)) 2 0 rfl rfl rfl a7).sn ah).so _ ai (oge bp)) 3 0 rfl rfl rfl ak)
   have ab9 := (aj.sw (((a6.sw (d4.so _ a5 (oge bq)) 1 0 rfl rfl rfl a7).sn ah).so _ ai (oge bp)) 2 0 rfl rfl rfl ak)
   have aca := (((j0.st j1).st df).st dg)
   have acb := (aj.bm (((a6.bm ((((((co.k0 ce).k0 ba).k0 bh).k0 bl).k0 bs).k0 a5) 3 0 rfl rfl rfl a7).k0 ah).k0 ai) 4 0 rfl rfl rfl ak)
   have acc := (aj.bm ((d5.k0 ah).k0 ai) 1 0 rfl rfl rfl ak)
   exact ⟨([] : List Str), ag, a0, a1, r4.Kind, r4.Pts, cq, cr, cs, H, (hasI rfl), bi, (c5.st bi.st), (dv.st bi.st), (c6.st bi.st), (dx.st bi.st), (hp5.st bi.st), (du.st bi.st), ab7, ab8, ab9, dh, g3, aca, acb, acc, eo⟩
  have H := ite_f H oq
  refine W_skip ?_
  have m8 := oo.stown _ ai (oge bp)
  have m9 := aj.stw 0 rfl ak
  have acd := ((ev.st m8).st m9)
  have ace := (aj.sw (((a6.sw (((((cp.sn ba).sn bh).sn bl).so _ bs hr219).so _ a5 (oge bq)) 2 0 rfl rfl rfl a7).sn ah).so _ ai (oge bp)) 3 0 rfl rfl rfl ak)
  have acf := (aj.sw (((a6.sw (d4.so _ a5 (oge bq)) 1 0 rfl rfl rfl a7).sn ah).so _ ai (oge bp)) 2 0 rfl rfl rfl ak)
  have pk := g1.stn ah
  have acg := (((om.st pk).st m8).st m9)
  have ach := (((on.st pk).st m8).st m9)
  have aci := (((j0.st pk).st m8).st m9)
  have acj := (aj.bm (((a6.bm ((((((co.k0 ce).k0 ba).k0 bh).k0 bl).k0 bs).k0 a5) 3 0 rfl rfl rfl a7).k0 ah).k0 ai) 4 0 rfl rfl rfl ak)
  have ack := (aj.bm ((d5.k0 ah).k0 ai) 1 0 rfl rfl rfl ak)
  exact ⟨([] : List Str), ag, a0, a1, r4.Kind, r4.Pts, cq, cr, cs, H, (hasI rfl), bi, (c5.st bi.st), (dv.st bi.st), (c6.st bi.st), (dx.st bi.st), (hp5.st bi.st), (du.st bi.st), acd, ace, acf, acg, ach, aci, acj, ack, eo⟩
 rintro al7 cb ⟨xs, av, iy, iz, z, z2, i0, i1, i2, acl, acm, pl, acn, aco, acp, acq, acr, acs, act, acu, acv, acw, acx, acy, acz, ac0, ac1⟩
 obtain ⟨al8, rfl⟩ := Has.ins acm
 have H := yq xs z z2 acl
 refine W_seq (W_reg (L_pu (P_lda ag25 sz25 cL ⟨bn, 0, none⟩ [vi z, .slice i0 i1 i2] rfl rfl (ac1.cells (off := 0) rfl)) ?_))
 refine L_call go31 [.agg #[vi z, .slice i0 i1 i2]] rfl ((F17.calls cb pl.ok (⟨z, z2⟩ : Shape) i0 i1 i2 act _ H).mono ?_)
 rintro _ al9 ⟨r9, ac, bz, b0, rfl, H, i8, ac2, na, ac3⟩
 have i9 := pl.owns i8 ac2 na
 refine L_pu (P_fa fa28_1 ⟨ab, 0, none⟩ ⟨ab, 1, none⟩ rfl rfl) ?_
 have ac4 := (ac0.k0 i8)
 refine L_stb ab 1 [vs a.Id, vi 0, .slice none 0 0, .slice af em en] [vi r9.Kind, .slice ac bz b0] [vs a.Id, vi r9.Kind, .slice ac bz b0, .slice af em en] rfl ac4 rfl sz25 rfl rfl rfl fun ama ja ac5 => ?_
 have tk := i9.wr 2 rfl ja
 refine L_nil (W_seq (W_reg (L_lit (kd := Kd.str) ei31 tk ([] : List Str) (cells := []) rfl (fun _ => by kernel_rfl) fun amb jb tl tn jc hr628 tp ac6 => ?_)))
 refine L_as (.slice jb tl tn) rfl (L_nil (W_seq (W_seq (W_reg (L_pu (P_fa fa28_2 ⟨au, 0, none⟩ ⟨au, 3, none⟩ rfl rfl) ?_)))))
 have ex := pl.stos i8 na
 have ey := i9.stw 2 rfl ja
 have ez := tk.stown _ jc hr628
 have tr := (((acw.st ex).st ey).st ez)
 refine L_pu (P_ld ag26 cL ⟨au, 3, none⟩ (.slice A7 n8 c9) rfl (tr.cell rfl)) (L_pu (P_fa fa28_2 ⟨ar, 0, none⟩ ⟨ar, 3, none⟩ rfl rfl) ?_)
 have ts := (((acx.st ex).st ey).st ez)
 refine L_pu (P_ld ag26 cL ⟨ar, 3, none⟩ (.slice bd be bf) rfl (ts.cell rfl)) (L_pu (P_fa fa28_2 ⟨bg, 0, none⟩ ⟨bg, 3, none⟩ rfl rfl) ?_)
 have tt := (((acy.st ex).st ey).st ez)
 refine L_pu (P_ld ag26 cL ⟨bg, 3, none⟩ (.slice ao ap aq) rfl (tt.cell rfl)) ?_
 have tu := (((acq.st ex).st ey).st ez)
 have tv := (((aco.st ex).st ey).st ez)
 have tw := (((acs.st ex).st ey).st ez)
 refine L_lit (kd := (Kd.sl kTag)) ei119 tp ([base_.Tags, a.Tags, b.Tags] : List (List Tag)) (cells := [.slice A7 n8 c9, .slice bd be bf, .slice ao ap aq]) ⟨[.slice A7 n8 c9], _, rfl, ⟨_, rfl, tw⟩, ⟨[.slice bd be bf], _, rfl, ⟨_, rfl, tv⟩, ⟨[.slice ao ap aq], _, rfl, ⟨_, rfl, tu⟩, rfl⟩⟩⟩ (fun _ => by kernel_rfl) fun ac7 nb tx ty hi hr643 kh ac8 => ?_
 have ac9 := kh.gv ac8 0 rfl
 have ada := kh.drop 0 rfl
 refine L_call go32 [.slice nb tx ty] rfl ((F12.calls ac7 ada.ok ([base_.Tags, a.Tags, b.Tags] : List (List Tag)) nb tx ty ac9 _ H).mono ?_)
 rintro _ amc ⟨r10, b1, nc, nd, rfl, H, e0, adb, hj, adc⟩
 have ade := Ok.unl (L := [bk nb, bk jb, bk ac, some bn, some ab, bk af, bk av, some aa]) (L' := [bk jb, bk ac, some bn, some ab, bk af, bk av, some aa]) (O := O) kh e0 adb hj
 have pm := Ow.unl (L := [bk nb, bk jb, bk ac, some bn, some ab, bk af, bk av, some aa]) (L' := [bk jb, bk ac, some bn, some ab, bk af, bk av, some aa]) (O := O) (fun _ _ _ _ _ _ h => h) (.cons _ (.cons_cons _ (.cons_cons _ (.cons_cons _ (.cons_cons _ (.cons_cons _ (.cons_cons _ (.cons_cons _ (.slnil))))))))) adc
 have hk := kh.owns e0 ade hj
 have amd := pm.le
 refine L_pu (P_len Try.underlying26 b1 nc nd pm.len rfl) (L_mv (vi 0) rfl (L_nil (W_block ?_)))
 have hl := hk.drop 1 rfl
 have adf := hl.drop 3 rfl
 obtain ⟨adg, adh, pn, H⟩ := H
 have e1 := tp.stown _ hi hr643
 have e2 := kh.stos e0 hj
 have e3 := hk.std 1 rfl
 have e4 := hl.std 3 rfl
 have adi := (((((((acn.st ex).st ey).st ez).st e1).st e2).st e3).st e4)
 have adj := ((((tv.st e1).st e2).st e3).st e4)
 have adk := (((((((acp.st ex).st ey).st ez).st e1).st e2).st e3).st e4)
 have adl := ((((tu.st e1).st e2).st e3).st e4)
 have adm := (((((((acr.st ex).st ey).st ez).st e1).st e2).st e3).st e4)
 have adn := ((((tw.st e1).st e2).st e3).st e4)
 have ado := (hl.sd (hk.sd ((((i9.sw (acu.sos i8 na) 4 2 rfl rfl rfl ja).so _ jc hr628).so _ hi hr643).sos e0 hj) 7 1 rfl rfl rfl) 6 3 rfl rfl rfl)
 have adp := (hl.sd (hk.sd ((ac6.so _ hi hr643).sos e0 hj) 2 1 rfl rfl rfl) 1 3 rfl rfl rfl)
 have adq := (hl.sd (hk.sd pm 0 1 rfl rfl rfl) 0 3 rfl rfl rfl)
 have adr := (hl.sd (hk.sd ((((i9.sw ac3 0 2 rfl rfl rfl ja).so _ jc hr628).so _ hi hr643).sos e0 hj) 3 1 rfl rfl rfl) 2 3 rfl rfl rfl)
 have ads := (hl.sd (hk.sd ((((i9.sw (acv.sos i8 na) 3 2 rfl rfl rfl ja).so _ jc hr628).so _ hi hr643).sos e0 hj) 6 1 rfl rfl rfl) 5 3 rfl rfl rfl)
 have adt := ((((tr.st e1).st e2).st e3).st e4)
 have adu := ((((ts.st e1).st e2).st e3).st e4)
 have adv := ((((tt.st e1).st e2).st e3).st e4)
 have adw := ((((i9.bm (acz.k0 i8) 5 2 rfl rfl rfl ja).k0 jc).k0 hi).k0 e0)
 have adx := (((ac5.k0 jc).k0 hi).k0 e0)
 refine W_loop (α := (List Str) × (Option Addr) × Nat × Nat × Int) (fun (sv__ : (List Str) × (Option Addr) × Nat × Nat × Int) t b6 => match sv__ with | (xs3, ad, d6, bw, v2) => adg xs3 v2 ∧ Has t [(3, .pointer (some ⟨au, 0, none⟩)), (4, .pointer (some ⟨ar, 0, none⟩)), (5, .pointer (some ⟨bg, 0, none⟩)), (6, .pointer (some ⟨aa, 0, none⟩)), (8, .slice av iy iz), (9, .pointer (some ⟨ab, 0, none⟩)), (16, .slice ad d6 bw), (127, .slice b1 nc nd), (128, vi (r10.length : Int)), (129, vi v2)] ∧ Ct [] w0 b6 [bk b1, bk ad, bk ac, some ab, bk af, bk av, some aa] O ∧ Sl kPt b6 (Fr ([bk b1, bk ad, bk ac, some ab, bk af, bk av, some aa] ++ O)) (.slice a2 a3 a4) a.Shape.Pts ∧ Sl kTag b6 (Fr ([bk b1, bk ad, bk ac, some ab, bk af, bk av, some aa] ++ O)) (.slice bd be bf) a.Tags ∧ Sl kPt b6 (Fr ([bk b1, bk ad, bk ac, some ab, bk af, bk av, some aa] ++ O)) (.slice al am an) b.Shape.Pts ∧ Sl kTag b6 (Fr ([bk b1, bk ad, bk ac, some ab, bk af, bk av, some aa] ++ O)) (.slice ao ap aq) b.Tags ∧ Sl kPt b6 (Fr ([bk b1, bk ad, bk ac, some ab, bk af, bk av, some aa] ++ O)) (.slice A2 n3 c4) base_.Shape.Pts ∧ Sl kTag b6 (Fr ([bk b1, bk ad, bk ac, some ab, bk af, bk av, some aa] ++ O)) (.slice A7 n8 c9) base_.Tags ∧ Ow Kd.str 9 b6 ([bk b1, bk ad, bk ac, some ab, bk af, bk av, some aa] ++ O) (.slice av iy iz) xs ∧ Ow Kd.str 9 b6 ([bk b1, bk ad, bk ac, some ab, bk af, bk av, some aa] ++ O) (.slice ad d6 bw) xs3 ∧ Ow kTag 39 b6 ([bk b1, bk ad, bk ac, some ab, bk af, bk av, some aa] ++ O) (.slice b1 nc nd) r10 ∧ Ow kPt 83 b6 ([bk b1, bk ad, bk ac, some ab, bk af, bk av, some aa] ++ O) (.slice ac bz b0) r9.Pts ∧ Ow kTag 39 b6 ([bk b1, bk ad, bk ac, some ab, bk af, bk av, some aa] ++ O) (.slice af em en) ([] : List Tag) ∧ Fb b6 ([bk b1, bk ad, bk ac, some ab, bk af, bk av, some aa] ++ O) au [vs base_.Id, vi base_.Shape.Kind, .slice A2 n3 c4, .slice A7 n8 c9] ∧ Fb b6 ([bk b1, bk ad, bk ac, some ab, bk af, bk av, some aa] ++ O) ar [vs a.Id, vi a.Shape.Kind, .slice a2 a3 a4, .slice bd be bf] ∧ Fb b6 ([bk b1, bk ad, bk ac, some ab, bk af, bk av, some aa] ++ O) bg [vs b.Id, vi b.Shape.Kind, .slice al am an, .slice ao ap aq] ∧ Bx b6 aa [vs ([] : Str), vi 0, .slice none 0 0, .slice none 0 0] ∧ Bx b6 ab [vs a.Id, vi r9.Kind, .slice ac bz b0, .slice af em en]) (fun (sv__ : (List Str) × (Option Addr) × Nat × Nat × Int) => match sv__ with | (xs3, _, _, _, v2) => adh xs3 v2) (([] : List Str), jb, tl, tn, 0) ⟨pn, (hasI rfl), adf, adi, adj, adk, adl, adm, adn, ado, adp, adq, adr, ads, adt, adu, adv, adw, adx⟩ ?_
 rintro ⟨xs3, ad, d6, bw, v2⟩ _ b6 ⟨pn, ady, eq, tz, t1, t2, t3, t4, t5, t6, t7, po, t8, t9, ua, ub, uc, ud, ue⟩
 obtain ⟨ame, rfl⟩ := Has.ins ady
 have H := H xs3 v2 pn
 refine W_seq (W_reg (L_pu (P_cmp v2 (r10.length : Int) (decide (v2 < (r10.length : Int))) rfl rfl rfl) (L_nil (W_seq ?_))))
 refine W_cond (decide (v2 < (r10.length : Int))) rfl (fun pp => ?_) (fun pp => ?_)
 ·have H := ite_t H pp
  refine W_skip (W_seq (W_block (W_seq (W_reg ?_))))
  obtain ⟨uf, H⟩ := H
  obtain ⟨ug, amf, adz, ad0, ad1⟩ := po.get default (by decide) v2 uf
  obtain ⟨rfl, ad2, amg⟩ := kTag.op ad0
  refine L_pu (P_ia Try.underlying26 se26 b1 ug nc nd po.len v2 rfl adz rfl uf) (L_pu (P_lda ag39 sz39 cL (ug.add (v2.toNat * 2)) [vs ((nth r10 v2).Key), vs ((nth r10 v2).Val)] rfl rfl ad1) (L_alloc [vs [], vs []] ze39 fun amh jd hm hu802 e5 ad3 => ?_))
  have e6 := eq.own e5 (some jd) (oglt hm hu802)
  refine L_stb jd 0 [vs ([] : Str), vs ([] : Str)] [vs ((nth r10 v2).Key), vs ((nth r10 v2).Val)] [vs ((nth r10 v2).Key), vs ((nth r10 v2).Val)] rfl ad3 rfl sz39 rfl rfl rfl fun ami e7 ad4 => ?_
  have uh := e6.wr 0 rfl e7
  refine L_nil (W_reg (L_mv (.slice ad d6 bw) rfl (L_pu (P_fa fa39_0 ⟨jd, 0, none⟩ ⟨jd, 0, none⟩ rfl rfl) (L_pu (P_ld ag9 cL ⟨jd, 0, none⟩ (vs ((nth r10 v2).Key)) rfl (ad4.cell rfl)) (L_lit (kd := Kd.str) ei31 uh ([(nth r10 v2).Key] : List Str) (cells := [vs ((nth r10 v2).Key)]) ⟨[vs ((nth r10 v2).Key)], _, rfl, ⟨rfl, ad2⟩, rfl⟩ (fun _ => by kernel_rfl) fun amj ad5 ad6 ad7 gk hr815 hn ad8 => ?_)))))
  obtain ⟨ad9, H⟩ := H
  have aea := ((e6.sw (t7.so _ e5 (oge hm)) 2 0 rfl rfl rfl e7).so _ gk hr815)
  refine L_app ei31 hn (.slice ad d6 bw) xs3 ([(nth r10 v2).Key] : List Str) rfl aea (.slice ad5 ad6 ad7) rfl ad8.sx 3 rfl ad9 fun aeb pq ui uj je dl ho aec => ?_
  refine L_as (.slice pq ui uj) rfl (L_nil (W_reg ?_))
  obtain ⟨aed, H⟩ := H
  refine L_pu (P_add v2 1 rfl rfl aed) (L_mv (vi (v2 + 1)) rfl (L_nil ?_))
  have hp : Ct [] w0 aeb [some jd, bk b1, bk pq, bk ac, some ab, bk af, bk av, some aa] O := ho.drop 0 rfl
  have aee := hp.drop 0 rfl
  obtain ⟨aef, aeg⟩ := H
  have e8 := eq.stown _ e5 (oge hm)
  have e9 := e6.stw 0 rfl e7
  have fa := uh.stown _ gk hr815
  have fb := ho.std 0 rfl
  have fc := hp.std 0 rfl
  have aeh := ((((((tz.st e8).st e9).st fa).st dl).st fb).st fc)
  have aei := ((((((t1.st e8).st e9).st fa).st dl).st fb).st fc)
  have aej := ((((((t2.st e8).st e9).st fa).st dl).st fb).st fc)
  have aek := ((((((t3.st e8).st e9).st fa).st dl).st fb).st fc)
  have ael := ((((((t4.st e8).st e9).st fa).st dl).st fb).st fc)
  have aem := ((((((t5.st e8).st e9).st fa).st dl).st fb).st fc)
  have aen := (hp.sd (ho.sd (hn.sm ((e6.sw (t6.so _ e5 (oge hm)) 6 0 rfl rfl rfl e7).so _ gk hr815) 7 3 rfl rfl rfl je dl) 7 0 rfl rfl rfl) 6 0 rfl rfl rfl)
  have aeo := (hp.sd (ho.sd aec 3 0 rfl rfl rfl) 2 0 rfl rfl rfl)
  have aep := (hp.sd (ho.sd (hn.sm ((e6.sw (po.so _ e5 (oge hm)) 1 0 rfl rfl rfl e7).so _ gk hr815) 2 3 rfl rfl rfl je dl) 2 0 rfl rfl rfl) 1 0 rfl rfl rfl)
  have aeq := (hp.sd (ho.sd (hn.sm ((e6.sw (t8.so _ e5 (oge hm)) 3 0 rfl rfl rfl e7).so _ gk hr815) 4 3 rfl rfl rfl je dl) 4 0 rfl rfl rfl) 3 0 rfl rfl rfl)
  have aer := (hp.sd (ho.sd (hn.sm ((e6.sw (t9.so _ e5 (oge hm)) 5 0 rfl rfl rfl e7).so _ gk hr815) 6 3 rfl rfl rfl je dl) 6 0 rfl rfl rfl) 5 0 rfl rfl rfl)
  have aes := ((((((ua.st e8).st e9).st fa).st dl).st fb).st fc)
  have aet := ((((((ub.st e8).st e9).st fa).st dl).st fb).st fc)
  have aeu := ((((((uc.st e8).st e9).st fa).st dl).st fb).st fc)
  have aev := (hn.bm ((e6.bm (ud.k0 e5) 7 0 rfl rfl rfl e7).k0 gk) 8 3 rfl rfl rfl je)
  have aew := (hn.bm ((e6.bm (ue.k0 e5) 4 0 rfl rfl rfl e7).k0 gk) 5 3 rfl rfl rfl je)
  exact ⟨((xs3 ++ ([(nth r10 v2).Key] : List Str)), pq, ui, uj, v2 + 1), aeg, aef, (hasI rfl), aee, aeh, aei, aej, aek, ael, aem, aen, aeo, aep, aeq, aer, aes, aet, aeu, aev, aew⟩
 have H := ite_f H pp
 refine W_exit (xin_hit ?_)
 refine W_seq (W_reg (L_mv (.slice ad d6 bw) rfl ?_))
 refine L_call go33 [.slice ad d6 bw] rfl ((F7.calls b6 eq.ok ad d6 bw xs3 t7 _ H).mono ?_)
 rintro _ aex ⟨m, rfl, H, hq, aey⟩
 have gl := eq.wr 1 rfl hq
 refine L_nil (W_seq (W_seq (W_reg (L_mv (.slice ad d6 bw) rfl ?_))))
 refine L_call go34 [.slice ad d6 bw] rfl ((F0.calls aex gl.ok ad d6 bw m aey _ H).mono ?_)
 rintro _ aez ⟨r11, er, rfl, H, hr, pr⟩
 have jf := gl.wr 1 rfl hr
 have amk := pr.le
 refine L_pu (P_len Try.underlying31 ad er bw pr.len rfl) (L_mv (vi 0) rfl (L_nil (W_block ?_)))
 have ae0 : Ct [] w0 aez [bk ad, bk ac, some ab, bk af, bk av, some aa] O := jf.drop 0 rfl
 obtain ⟨ps, ki, pt, H⟩ := H
 have fd := eq.stw 1 rfl hq
 have fe := gl.stw 1 rfl hr
 have ff := jf.std 0 rfl
 have ae1 := (((tz.st fd).st fe).st ff)
 have ae2 := (((t1.st fd).st fe).st ff)
 have ae3 := (((t2.st fd).st fe).st ff)
 have ae4 := (((t3.st fd).st fe).st ff)
 have ae5 := (((t4.st fd).st fe).st ff)
 have ae6 := (((t5.st fd).st fe).st ff)
 have ae7 := (jf.sd (gl.sw (eq.sw t6 5 1 rfl rfl rfl hq) 5 1 rfl rfl rfl hr) 5 0 rfl rfl rfl)
 have ae8 := (jf.sd pr 1 0 rfl rfl rfl)
 have ae9 := (jf.sd (gl.sw (eq.sw t8 2 1 rfl rfl rfl hq) 2 1 rfl rfl rfl hr) 2 0 rfl rfl rfl)
 have afa := (jf.sd (gl.sw (eq.sw t9 4 1 rfl rfl rfl hq) 4 1 rfl rfl rfl hr) 4 0 rfl rfl rfl)
 have afb := (((ua.st fd).st fe).st ff)
 have afc := (((ub.st fd).st fe).st ff)
 have afd := (((uc.st fd).st fe).st ff)
 have afe := (gl.bm (eq.bm ud 6 1 rfl rfl rfl hq) 6 1 rfl rfl rfl hr)
 have aff := (gl.bm (eq.bm ue 3 1 rfl rfl rfl hq) 3 1 rfl rfl rfl hr)
 refine W_loop (α := (List Str) × (Option Addr) × Nat × Nat × Int × (List Tag) × (Option Addr) × Nat × Nat) (fun (sv__ : (List Str) × (Option Addr) × Nat × Nat × Int × (List Tag) × (Option Addr) × Nat × Nat) t b2 => match sv__ with | (xs6, a8, dy, dz, v4, xs7, ae, ci, cj) => ps xs6 v4 xs7 ∧ Has t [(3, .pointer (some ⟨au, 0, none⟩)), (4, .pointer (some ⟨ar, 0, none⟩)), (5, .pointer (some ⟨bg, 0, none⟩)), (6, .pointer (some ⟨aa, 0, none⟩)), (8, .slice a8 dy dz), (9, .pointer (some ⟨ab, 0, none⟩)), (142, .slice ad er bw), (143, vi (r11.length : Int)), (144, vi v4)] ∧ Ct [] w0 b2 [bk ad, bk ac, some ab, bk ae, bk a8, some aa] O ∧ Sl kPt b2 (Fr ([bk ad, bk ac, some ab, bk ae, bk a8, some aa] ++ O)) (.slice a2 a3 a4) a.Shape.Pts ∧ Sl kTag b2 (Fr ([bk ad, bk ac, some ab, bk ae, bk a8, some aa] ++ O)) (.slice bd be bf) a.Tags ∧ Sl kPt b2 (Fr ([bk ad, bk ac, some ab, bk ae, bk a8, some aa] ++ O)) (.slice al am an) b.Shape.Pts ∧ Sl kTag b2 (Fr ([bk ad, bk ac, some ab, bk ae, bk a8, some aa] ++ O)) (.slice ao ap aq) b.Tags ∧ Sl kPt b2 (Fr ([bk ad, bk ac, some ab, bk ae, bk a8, some aa] ++ O)) (.slice A2 n3 c4) base_.Shape.Pts ∧ Sl kTag b2 (Fr ([bk ad, bk ac, some ab, bk ae, bk a8, some aa] ++ O)) (.slice A7 n8 c9) base_.Tags ∧ Ow Kd.str 9 b2 ([bk ad, bk ac, some ab, bk ae, bk a8, some aa] ++ O) (.slice a8 dy dz) xs6 ∧ Ow Kd.str 9 b2 ([bk ad, bk ac, some ab, bk ae, bk a8, some aa] ++ O) (.slice ad er bw) r11 ∧ Ow kPt 83 b2 ([bk ad, bk ac, some ab, bk ae, bk a8, some aa] ++ O) (.slice ac bz b0) r9.Pts ∧ Ow kTag 39 b2 ([bk ad, bk ac, some ab, bk ae, bk a8, some aa] ++ O) (.slice ae ci cj) xs7 ∧ Fb b2 ([bk ad, bk ac, some ab, bk ae, bk a8, some aa] ++ O) au [vs base_.Id, vi base_.Shape.Kind, .slice A2 n3 c4, .slice A7 n8 c9] ∧ Fb b2 ([bk ad, bk ac, some ab, bk ae, bk a8, some aa] ++ O) ar [vs a.Id, vi a.Shape.Kind, .slice a2 a3 a4, .slice bd be bf] ∧ Fb b2 ([bk ad, bk ac, some ab, bk ae, bk a8, some aa] ++ O) bg [vs b.Id, vi b.Shape.Kind, .slice al am an, .slice ao ap aq] ∧ Bx b2 aa [vs ([] : Str), vi 0, .slice none 0 0, .slice none 0 0] ∧ Bx b2 ab [vs a.Id, vi r9.Kind, .slice ac bz b0, .slice ae ci cj]) (fun (sv__ : (List Str) × (Option Addr) × Nat × Nat × Int × (List Tag) × (Option Addr) × Nat × Nat) => match sv__ with | (xs6, _, _, _, v4, xs7, _, _, _) => ki xs6 v4 xs7) (xs, av, iy, iz, 0, ([] : List Tag), af, em, en) ⟨pt, (hasI rfl), ae0, ae1, ae2, ae3, ae4, ae5, ae6, ae7, ae8, ae9, afa, afb, afc, afd, afe, aff⟩ ?_
 rintro ⟨xs6, a8, dy, dz, v4, xs7, ae, ci, cj⟩ _ b2 ⟨pt, afg, d7, fg, fh, c8, da, kj, kk, pu, kl, km, kn, ne, ko, nf, kp, kq⟩
 obtain ⟨aml, rfl⟩ := Has.ins afg
 have H := H xs6 v4 xs7 pt
 refine W_seq (W_reg (L_pu (P_cmp v4 (r11.length : Int) (decide (v4 < (r11.length : Int))) rfl rfl rfl) (L_nil (W_seq ?_))))
 refine W_cond (decide (v4 < (r11.length : Int))) rfl (fun pv => ?_) (fun pv => ?_)
 ·have H := ite_t H pv
  refine W_skip (W_seq (W_block (W_seq (W_reg ?_))))
  obtain ⟨uk, H⟩ := H
  obtain ⟨ul, amm, afh, afi, afj⟩ := kl.get default (by decide) v4 uk
  obtain ⟨rfl, b7⟩ := Kd.str.op afi
  refine L_pu (P_ia Try.underlying31 se31 ad ul er bw kl.len v4 rfl afh rfl uk) (L_pu (P_ld ag9 cL (ul.add (v4.toNat * 1)) (vs (nth r11 v4)) rfl (afj 0 _ rfl)) (L_as (vs (nth r11 v4)) rfl (L_nil (W_seq ?_))))
  refine W_join (J := (fun t hs => ∃ (r12 : value) (r13 : value) (b3 : Nat) (ct : Nat), Has t [(3, .pointer (some ⟨au, 0, none⟩)), (4, .pointer (some ⟨ar, 0, none⟩)), (5, .pointer (some ⟨bg, 0, none⟩)), (6, .pointer (some ⟨aa, 0, none⟩)), (8, .slice a8 dy dz), (9, .pointer (some ⟨ab, 0, none⟩)), (20, vs (nth r11 v4)), (21, .pointer (some ⟨b3, 0, none⟩)), (22, .pointer (some ⟨ct, 0, none⟩)), (142, .slice ad er bw), (143, vi (r11.length : Int)), (144, vi v4)] ∧ Gr b2 hs none ∧ Ct [] w0 hs [some ct, some b3, bk ad, bk ac, some ab, bk ae, bk a8, some aa] O ∧ (∀ b, some b ∈ ([some ct, some b3] : Ob) → b2.heap.size ≤ b) ∧ Lim r12.val ∧ Bx hs b3 [vb r12.has, vs r12.val] ∧ Lim r13.val ∧ Bx hs ct [vb r13.has, vs r13.val] ∧ F50.E base_ (nth r11 v4) (fun r14 => (∃ (f2 : value → value → Bool) (f2_ok : value → value → Prop), (∀ x0_ x1_, f2_ok x0_ x1_ → F20.E x0_ x1_  (fun r => r = f2 x0_ x1_)) ∧ F8.E r14 r12 r13 f2 f2_ok (fun r15 r16 => (∃ (d8 : (List Str) → Bool → Str → Prop), ((if !r16 then (([116, 97, 103, 32] : Str).length + (nth r11 v4).length ≤ 9223372036854775807) ∧ (xs6.length + ([(([116, 97, 103, 32] : Str) ++ (nth r11 v4))] : List Str).length ≤ 268435456) ∧ (if !r12.has then d8 (xs6 ++ ([(([116, 97, 103, 32] : Str) ++ (nth r11 v4))] : List Str)) r13.has r13.val else d8 (xs6 ++ ([(([116, 97, 103, 32] : Str) ++ (nth r11 v4))] : List Str)) r12.has r12.val) else d8 xs6 r15.has r15.val)) ∧ ∀ (xs8 : List Str) (z3 : Bool) (z4 : Str), d8 xs8 z3 z4 → (∃ (fi : (List Tag) → Prop), ((if z3 then (xs7.length + ([(⟨(nth r11 v4), z4⟩ : Tag)] : List Tag).length ≤ 268435456) ∧ fi (xs7 ++ ([(⟨(nth r11 v4), z4⟩ : Tag)] : List Tag)) else fi xs7)) ∧ ∀ (xs9 : List Tag), fi xs9 → (I64 (v4 + 1)) ∧ ps xs8 (v4 + 1) xs9 ∧ ki xs8 (v4 + 1) xs9 < ki xs6 v4 xs7))))))) ?_ ?_
  ·refine W_mixr 10 [] (by kernel_rfl) rfl fun afk az b8 => ?_
   have dm := d7.k0 az
   have bb := d7.stn az
   have afl := (ko.st bb)
   refine M_pu 0 rfl (by kernel_rfl) b8 (P_ldar ag28 sz28 cR ⟨ar, 0, none⟩ [vs a.Id, vi a.Shape.Kind, .slice a2 a3 a4, .slice bd be bf] rfl rfl (afl.cells (off := 0) rfl) nm_nil) ?_
   refine M_pu 1 rfl (by kernel_rfl) b8 (P_move (vs (nth r11 v4)) rfl) ?_
   have afm := (nf.st bb)
   refine M_pu 3 rfl (by kernel_rfl) b8 (P_ldar ag28 sz28 cR ⟨bg, 0, none⟩ [vs b.Id, vi b.Shape.Kind, .slice al am an, .slice ao ap aq] rfl rfl (afm.cells (off := 0) rfl) nm_nil) ?_
   refine M_pu 4 rfl (by kernel_rfl) b8 (P_move (vs (nth r11 v4)) rfl) ?_
   refine M_any3 2 6 7 (by kernel_rfl) rfl rfl rfl ?_ ?_ ?_
   ·refine L_call go35 [.agg #[vs a.Id, vi a.Shape.Kind, .slice a2 a3 a4, .slice bd be bf], vs (nth r11 v4)] rfl ((F50.calls afk dm.ok a a2 a3 a4 bd be bf eu (fg.st bb) (fh.st bb) (nth r11 v4) b7 _ H).mono ?_)
    rintro _ kr ⟨r12, rfl, H, ht, jg⟩
    have gm := dm.k0 ht
    have d0 := Gm.tm b8 ht
    refine L_nil ⟨d0, ?_⟩
    refine M_any3 5 6 7 (by kernel_rfl) rfl rfl rfl ?_ ?_ ?_
    ·have um := dm.stn ht
     have afn := ((c8.st bb).st um)
     have ks := ((da.st bb).st um)
     refine L_call go35 [.agg #[vs b.Id, vi b.Shape.Kind, .slice al am an, .slice ao ap aq], vs (nth r11 v4)] rfl ((F50.calls kr gm.ok b al am an ao ap aq dw afn ks (nth r11 v4) b7 _ H).mono ?_)
     rintro _ amn ⟨r13, rfl, H, un, uo⟩
     have up := gm.k0 un
     have hu := Gm.tm d0 un
     refine L_nil ⟨hu, ?_⟩
     refine M_any2 6 7 (by kernel_rfl) rfl rfl ?_ ?_
     ·refine L_alloc [vb false, vs []] ze72 fun afo hv hw hu1026 kt pw => ?_
      have px := up.own kt (some hv) (oglt hw hu1026)
      have fj := Gm.tm hu kt
      refine L_nil ⟨fj, ?_⟩
      refine M_any1 7 (by kernel_rfl) rfl ?_
      refine L_alloc [vb false, vs []] ze72 fun afp hx hy hu1035 hz py => ?_
      have ku := px.own hz (some hx) (oglt hy hu1035)
      have kv := Gm.tm fj hz
      refine L_nil ⟨kv, ?_⟩
      refine M_any1 8 (by kernel_rfl) rfl ?_
      have afq := (pw.k0 hz)
      refine L_stb hv 0 [vb false, vs ([] : Str)] [vb r12.has, vs r12.val] [vb r12.has, vs r12.val] rfl afq rfl sz72 rfl rfl rfl fun afr h0 pz => ?_
      have kx := ku.wr 1 rfl h0
      have ky := Gm.tq kv h0 (hv_new hu (oge hw))
      refine L_nil ⟨ky, ?_⟩
      refine M_any1 9 (by kernel_rfl) rfl ?_
      have p0 := (ku.bm py 0 1 rfl rfl rfl h0)
      refine L_stb hx 0 [vb false, vs ([] : Str)] [vb r13.has, vs r13.val] [vb r13.has, vs r13.val] rfl p0 rfl sz72 rfl rfl rfl fun afs h1 p1 => ?_
      have p2 := kx.wr 0 rfl h1
      have kz := Gm.tq ky h1 (hv_new fj (oge hy))
      refine L_nil ⟨kz, ?_⟩
      refine M_nil (by kernel_rfl) ?_
      have k1 := (kx.bm pz 1 0 rfl rfl rfl h1)
      exact ⟨r12, r13, hv, hx, (hasI rfl), (Gr.t0 az kz.g0), p2, (jg_cons az.size (hv_new fj (oge hy)) (jg_cons az.size (hv_new hu (oge hw)) jg_nil)), jg, k1, uo, p1, H⟩
     refine L_alloc [vb false, vs []] ze72 fun afo hv hw hu1026 kt pw => ?_
     have px := up.own kt (some hv) (oglt hw hu1026)
     have fj := Gm.tm hu kt
     refine L_nil ⟨fj, ?_⟩
     refine M_any1 6 (by kernel_rfl) rfl ?_
     refine L_alloc [vb false, vs []] ze72 fun afp hx hy hu1035 hz py => ?_
     have ku := px.own hz (some hx) (oglt hy hu1035)
     have kv := Gm.tm fj hz
     refine L_nil ⟨kv, ?_⟩
     refine M_any1 8 (by kernel_rfl) rfl ?_
     refine L_stb hx 0 [vb false, vs ([] : Str)] [vb r12.has, vs r12.val] [vb r12.has, vs r12.val] rfl py rfl sz72 rfl rfl rfl fun afr h0 pz => ?_
     have uq := ku.wr 0 rfl h0
     have ur := Gm.tq kv h0 (hv_new fj (oge hy))
     refine L_nil ⟨ur, ?_⟩
     refine M_any1 9 (by kernel_rfl) rfl ?_
     have aft := (ku.bm (pw.k0 hz) 1 0 rfl rfl rfl h0)
     refine L_stb hv 0 [vb false, vs ([] : Str)] [vb r13.has, vs r13.val] [vb r13.has, vs r13.val] rfl aft rfl sz72 rfl rfl rfl fun amo p3 afu => ?_
     have afv := uq.wr 1 rfl p3
     have us := Gm.tq ur p3 (hv_new hu (oge hw))
     refine L_nil ⟨us, ?_⟩
     refine M_nil (by kernel_rfl) ?_
     have p4 := afv.perm (.swap _ _ _)
     have k1 := (uq.bm pz 0 1 rfl rfl rfl p3)
     have dn := afu
     exact ⟨r12, r13, hx, hv, (hasI rfl), (Gr.t0 az us.g0), p4, (jg_cons az.size (hv_new hu (oge hw)) (jg_cons az.size (hv_new fj (oge hy)) jg_nil)), jg, k1, uo, dn, H⟩
    ·refine L_alloc [vb false, vs []] ze72 fun p5 d9 cx hu1015 fk k2 => ?_
     have fl := gm.own fk (some d9) (oglt cx hu1015)
     have ea := Gm.tm d0 fk
     refine L_nil ⟨ea, ?_⟩
     refine M_any2 5 7 (by kernel_rfl) rfl rfl ?_ ?_
     ·have k3 := dm.stn ht
      have cy := gm.stown _ fk (oge cx)
      have p6 := (((c8.st bb).st k3).st cy)
      have h2 := (((da.st bb).st k3).st cy)
      refine L_call go35 [.agg #[vs b.Id, vi b.Shape.Kind, .slice al am an, .slice ao ap aq], vs (nth r11 v4)] rfl ((F50.calls p5 fl.ok b al am an ao ap aq dw p6 h2 (nth r11 v4) b7 _ H).mono ?_)
      rintro _ afw ⟨r13, rfl, H, ck, p7⟩
      have fm := fl.k0 ck
      have cz := Gm.tm ea ck
      refine L_nil ⟨cz, ?_⟩
      refine M_any1 7 (by kernel_rfl) rfl ?_
      refine L_alloc [vb false, vs []] ze72 fun afx h3 h4 hu1036 h5 p8 => ?_
      have k4 := fm.own h5 (some h3) (oglt h4 hu1036)
      have k5 := Gm.tm cz h5
      refine L_nil ⟨k5, ?_⟩
      refine M_any1 8 (by kernel_rfl) rfl ?_
      have afy := ((k2.k0 ck).k0 h5)
      refine L_stb d9 0 [vb false, vs ([] : Str)] [vb r12.has, vs r12.val] [vb r12.has, vs r12.val] rfl afy rfl sz72 rfl rfl rfl fun afz h6 p9 => ?_
      have ut := k4.wr 1 rfl h6
      have uu := Gm.tq k5 h6 (hv_new d0 (oge cx))
      refine L_nil ⟨uu, ?_⟩
      refine M_any1 9 (by kernel_rfl) rfl ?_
      have af0 := (k4.bm p8 0 1 rfl rfl rfl h6)
      refine L_stb h3 0 [vb false, vs ([] : Str)] [vb r13.has, vs r13.val] [vb r13.has, vs r13.val] rfl af0 rfl sz72 rfl rfl rfl fun amp qa af1 => ?_
      have p4 := ut.wr 0 rfl qa
      have uv := Gm.tq uu qa (hv_new cz (oge h4))
      refine L_nil ⟨uv, ?_⟩
      refine M_nil (by kernel_rfl) ?_
      have dn := (ut.bm p9 1 0 rfl rfl rfl qa)
      exact ⟨r12, r13, d9, h3, (hasI rfl), (Gr.t0 az uv.g0), p4, (jg_cons az.size (hv_new cz (oge h4)) (jg_cons az.size (hv_new d0 (oge cx)) jg_nil)), jg, dn, p7, af1, H⟩
     refine L_alloc [vb false, vs []] ze72 fun qb h7 fn hu1024 fo qc => ?_
     have k6 := fl.own fo (some h7) (oglt fn hu1024)
     have k7 := Gm.tm ea fo
     refine L_nil ⟨k7, ?_⟩
     refine M_any1 5 (by kernel_rfl) rfl ?_
     have k8 := dm.stn ht
     have k9 := gm.stown _ fk (oge cx)
     have la := fl.stown _ fo (oge fn)
     have qd := ((((c8.st bb).st k8).st k9).st la)
     have qe := ((((da.st bb).st k8).st k9).st la)
     refine L_call go35 [.agg #[vs b.Id, vi b.Shape.Kind, .slice al am an, .slice ao ap aq], vs (nth r11 v4)] rfl ((F50.calls qb k6.ok b al am an ao ap aq dw qd qe (nth r11 v4) b7 _ H).mono ?_)
     rintro _ qf ⟨r13, rfl, H, fp, qg⟩
     have lb := k6.k0 fp
     have lc := Gm.tm k7 fp
     refine L_nil ⟨lc, ?_⟩
     refine M_any1 8 (by kernel_rfl) rfl ?_
     have qh := ((k2.k0 fo).k0 fp)
     refine L_stb d9 0 [vb false, vs ([] : Str)] [vb r12.has, vs r12.val] [vb r12.has, vs r12.val] rfl qh rfl sz72 rfl rfl rfl fun af2 h8 qi => ?_
     have gn := lb.wr 1 rfl h8
     have gp := Gm.tq lc h8 (hv_new d0 (oge cx))
     refine L_nil ⟨gp, ?_⟩
     refine M_any1 9 (by kernel_rfl) rfl ?_
     have ld := (lb.bm (qc.k0 fp) 0 1 rfl rfl rfl h8)
     refine L_stb h7 0 [vb false, vs ([] : Str)] [vb r13.has, vs r13.val] [vb r13.has, vs r13.val] rfl ld rfl sz72 rfl rfl rfl fun uw eb lf => ?_
     have h9 := gn.wr 0 rfl eb
     have gq := Gm.tq gp eb (hv_new ea (oge fn))
     refine L_nil ⟨gq, ?_⟩
     refine M_nil (by kernel_rfl) ?_
     have qj := (gn.bm qi 1 0 rfl rfl rfl eb)
     exact ⟨r12, r13, d9, h7, (hasI rfl), (Gr.t0 az gq.g0), h9, (jg_cons az.size (hv_new ea (oge fn)) (jg_cons az.size (hv_new d0 (oge cx)) jg_nil)), jg, qj, qg, lf, H⟩
    refine L_alloc [vb false, vs []] ze72 fun p5 d9 cx hu1015 fk k2 => ?_
    have fl := gm.own fk (some d9) (oglt cx hu1015)
    have ea := Gm.tm d0 fk
    refine L_nil ⟨ea, ?_⟩
    refine M_any2 5 6 (by kernel_rfl) rfl rfl ?_ ?_
    ·have k3 := dm.stn ht
     have cy := gm.stown _ fk (oge cx)
     have p6 := (((c8.st bb).st k3).st cy)
     have h2 := (((da.st bb).st k3).st cy)
     refine L_call go35 [.agg #[vs b.Id, vi b.Shape.Kind, .slice al am an, .slice ao ap aq], vs (nth r11 v4)] rfl ((F50.calls p5 fl.ok b al am an ao ap aq dw p6 h2 (nth r11 v4) b7 _ H).mono ?_)
     rintro _ afw ⟨r13, rfl, H, ck, p7⟩
     have fm := fl.k0 ck
     have cz := Gm.tm ea ck
     refine L_nil ⟨cz, ?_⟩
     refine M_any1 6 (by kernel_rfl) rfl ?_
     refine L_alloc [vb false, vs []] ze72 fun afx h3 h4 hu1036 h5 p8 => ?_
     have k4 := fm.own h5 (some h3) (oglt h4 hu1036)
     have k5 := Gm.tm cz h5
     refine L_nil ⟨k5, ?_⟩
     refine M_any1 8 (by kernel_rfl) rfl ?_
     refine L_stb h3 0 [vb false, vs ([] : Str)] [vb r12.has, vs r12.val] [vb r12.has, vs r12.val] rfl p8 rfl sz72 rfl rfl rfl fun afz h6 p9 => ?_
     have kx := k4.wr 0 rfl h6
     have ky := Gm.tq k5 h6 (hv_new cz (oge h4))
     refine L_nil ⟨ky, ?_⟩
     refine M_any1 9 (by kernel_rfl) rfl ?_
     have p0 := (k4.bm ((k2.k0 ck).k0 h5) 1 0 rfl rfl rfl h6)
     refine L_stb d9 0 [vb false, vs ([] : Str)] [vb r13.has, vs r13.val] [vb r13.has, vs r13.val] rfl p0 rfl sz72 rfl rfl rfl fun afs h1 p1 => ?_
     have p2 := kx.wr 1 rfl h1
     have kz := Gm.tq ky h1 (hv_new d0 (oge cx))
     refine L_nil ⟨kz, ?_⟩
     refine M_nil (by kernel_rfl) ?_
     have h9 := p2.perm (.swap _ _ _)
     have dn := (kx.bm p9 0 1 rfl rfl rfl h1)
     have qj := p1
     exact ⟨r12, r13, h3, d9, (hasI rfl), (Gr.t0 az kz.g0), h9, (jg_cons az.size (hv_new d0 (oge cx)) (jg_cons az.size (hv_new cz (oge h4)) jg_nil)), jg, dn, p7, qj, H⟩
    refine L_alloc [vb false, vs []] ze72 fun qb h7 fn hu1024 fo qc => ?_
    have k6 := fl.own fo (some h7) (oglt fn hu1024)
    have k7 := Gm.tm ea fo
    refine L_nil ⟨k7, ?_⟩
    refine M_any1 5 (by kernel_rfl) rfl ?_
    have k8 := dm.stn ht
    have k9 := gm.stown _ fk (oge cx)
    have la := fl.stown _ fo (oge fn)
    have qd := ((((c8.st bb).st k8).st k9).st la)
    have qe := ((((da.st bb).st k8).st k9).st la)
    refine L_call go35 [.agg #[vs b.Id, vi b.Shape.Kind, .slice al am an, .slice ao ap aq], vs (nth r11 v4)] rfl ((F50.calls qb k6.ok b al am an ao ap aq dw qd qe (nth r11 v4) b7 _ H).mono ?_)
    rintro _ qf ⟨r13, rfl, H, fp, qg⟩
    have lb := k6.k0 fp
    have lc := Gm.tm k7 fp
    refine L_nil ⟨lc, ?_⟩
    refine M_any1 8 (by kernel_rfl) rfl ?_
    have qh := (qc.k0 fp)
    refine L_stb h7 0 [vb false, vs ([] : Str)] [vb r12.has, vs r12.val] [vb r12.has, vs r12.val] rfl qh rfl sz72 rfl rfl rfl fun af2 h8 qi => ?_
    have gn := lb.wr 0 rfl h8
    have gp := Gm.tq lc h8 (hv_new ea (oge fn))
    refine L_nil ⟨gp, ?_⟩
    refine M_any1 9 (by kernel_rfl) rfl ?_
    have ld := (lb.bm ((k2.k0 fo).k0 fp) 1 0 rfl rfl rfl h8)
    refine L_stb d9 0 [vb false, vs ([] : Str)] [vb r13.has, vs r13.val] [vb r13.has, vs r13.val] rfl ld rfl sz72 rfl rfl rfl fun uw eb lf => ?_
    have h9 := gn.wr 1 rfl eb
    have gq := Gm.tq gp eb (hv_new d0 (oge cx))
    refine L_nil ⟨gq, ?_⟩
    refine M_nil (by kernel_rfl) ?_
    have ec := h9.perm (.swap _ _ _)
    have lg := (gn.bm qi 0 1 rfl rfl rfl eb)
    have ia := lf
    exact ⟨r12, r13, h7, d9, (hasI rfl), (Gr.t0 az gq.g0), ec, (jg_cons az.size (hv_new d0 (oge cx)) (jg_cons az.size (hv_new ea (oge fn)) jg_nil)), jg, lg, qg, ia, H⟩
   ·refine L_alloc [vb false, vs []] ze72 fun kr c0 b9 hu1007 fq ib => ?_
    have dp := dm.own fq (some c0) (oglt b9 hu1007)
    have ed := Gm.tm b8 fq
    refine L_nil ⟨ed, ?_⟩
    refine M_any2 2 7 (by kernel_rfl) rfl rfl ?_ ?_
    ·have dq := dm.stown _ fq (oge b9)
     have ks := ((fg.st bb).st dq)
     have qk := ((fh.st bb).st dq)
     refine L_call go35 [.agg #[vs a.Id, vi a.Shape.Kind, .slice a2 a3 a4, .slice bd be bf], vs (nth r11 v4)] rfl ((F50.calls kr dp.ok a a2 a3 a4 bd be bf eu ks qk (nth r11 v4) b7 _ H).mono ?_)
     rintro _ ql ⟨r12, rfl, H, dr, lh⟩
     have fr := dp.k0 dr
     have ee := Gm.tm ed dr
     refine L_nil ⟨ee, ?_⟩
     refine M_any2 5 7 (by kernel_rfl) rfl rfl ?_ ?_
     ·have li := dp.stn dr
      have ic := (((c8.st bb).st dq).st li)
      have qm := (((da.st bb).st dq).st li)
      refine L_call go35 [.agg #[vs b.Id, vi b.Shape.Kind, .slice al am an, .slice ao ap aq], vs (nth r11 v4)] rfl ((F50.calls ql fr.ok b al am an ao ap aq dw ic qm (nth r11 v4) b7 _ H).mono ?_)
      rintro _ af3 ⟨r13, rfl, H, id, qn⟩
      have qo := fr.k0 id
      have fs := Gm.tm ee id
      refine L_nil ⟨fs, ?_⟩
      refine M_any1 7 (by kernel_rfl) rfl ?_
      refine L_alloc [vb false, vs []] ze72 fun qf ie ig hu1038 ih qp => ?_
      have lj := qo.own ih (some ie) (oglt ig hu1038)
      have lk := Gm.tm fs ih
      refine L_nil ⟨lk, ?_⟩
      refine M_any1 8 (by kernel_rfl) rfl ?_
      have af4 := (((ib.k0 dr).k0 id).k0 ih)
      refine L_stb c0 0 [vb false, vs ([] : Str)] [vb r12.has, vs r12.val] [vb r12.has, vs r12.val] rfl af4 rfl sz72 rfl rfl rfl fun af5 ii qq => ?_
      have ux := lj.wr 1 rfl ii
      have uy := Gm.tq lk ii (hv_new b8 (oge b9))
      refine L_nil ⟨uy, ?_⟩
      refine M_any1 9 (by kernel_rfl) rfl ?_
      have k1 := (lj.bm qp 0 1 rfl rfl rfl ii)
      refine L_stb ie 0 [vb false, vs ([] : Str)] [vb r13.has, vs r13.val] [vb r13.has, vs r13.val] rfl k1 rfl sz72 rfl rfl rfl fun amq qr af6 => ?_
      have af7 := ux.wr 0 rfl qr
      have uz := Gm.tq uy qr (hv_new fs (oge ig))
      refine L_nil ⟨uz, ?_⟩
      refine M_nil (by kernel_rfl) ?_
      have lg := (ux.bm qq 1 0 rfl rfl rfl qr)
      exact ⟨r12, r13, c0, ie, (hasI rfl), (Gr.t0 az uz.g0), af7, (jg_cons az.size (hv_new fs (oge ig)) (jg_cons az.size (hv_new b8 (oge b9)) jg_nil)), lh, lg, qn, af6, H⟩
     refine L_alloc [vb false, vs []] ze72 fun qs ij ft hu1027 ck qt => ?_
     have fm := fr.own ck (some ij) (oglt ft hu1027)
     have cz := Gm.tm ee ck
     refine L_nil ⟨cz, ?_⟩
     refine M_any1 5 (by kernel_rfl) rfl ?_
     have ll := dp.stn dr
     have ef := fr.stown _ ck (oge ft)
     have ik := ((((c8.st bb).st dq).st ll).st ef)
     have il := ((((da.st bb).st dq).st ll).st ef)
     refine L_call go35 [.agg #[vs b.Id, vi b.Shape.Kind, .slice al am an, .slice ao ap aq], vs (nth r11 v4)] rfl ((F50.calls qs fm.ok b al am an ao ap aq dw ik il (nth r11 v4) b7 _ H).mono ?_)
     rintro _ qu ⟨r13, rfl, H, ca, im⟩
     have eg := fm.k0 ca
     have eh := Gm.tm cz ca
     refine L_nil ⟨eh, ?_⟩
     refine M_any1 8 (by kernel_rfl) rfl ?_
     have io := (((ib.k0 dr).k0 ck).k0 ca)
     refine L_stb c0 0 [vb false, vs ([] : Str)] [vb r12.has, vs r12.val] [vb r12.has, vs r12.val] rfl io rfl sz72 rfl rfl rfl fun qv c1 ip => ?_
     have ei := eg.wr 1 rfl c1
     have ej := Gm.tq eh c1 (hv_new b8 (oge b9))
     refine L_nil ⟨ej, ?_⟩
     refine M_any1 9 (by kernel_rfl) rfl ?_
     have dn := (eg.bm (qt.k0 ca) 0 1 rfl rfl rfl c1)
     refine L_stb ij 0 [vb false, vs ([] : Str)] [vb r13.has, vs r13.val] [vb r13.has, vs r13.val] rfl dn rfl sz72 rfl rfl rfl fun qw c2 iq => ?_
     have ec := ei.wr 0 rfl c2
     have ek := Gm.tq ej c2 (hv_new ee (oge ft))
     refine L_nil ⟨ek, ?_⟩
     refine M_nil (by kernel_rfl) ?_
     have ia := (ei.bm ip 1 0 rfl rfl rfl c2)
     exact ⟨r12, r13, c0, ij, (hasI rfl), (Gr.t0 az ek.g0), ec, (jg_cons az.size (hv_new ee (oge ft)) (jg_cons az.size (hv_new b8 (oge b9)) jg_nil)), lh, ia, im, iq, H⟩
    refine L_alloc [vb false, vs []] ze72 fun qx ir fu hu1016 fv qy => ?_
    have it := dp.own fv (some ir) (oglt fu hu1016)
    have lm := Gm.tm ed fv
    refine L_nil ⟨lm, ?_⟩
    refine M_any1 2 (by kernel_rfl) rfl ?_
    have cy := dm.stown _ fq (oge b9)
    have fw := dp.stown _ fv (oge fu)
    have h2 := (((fg.st bb).st cy).st fw)
    have ic := (((fh.st bb).st cy).st fw)
    refine L_call go35 [.agg #[vs a.Id, vi a.Shape.Kind, .slice a2 a3 a4, .slice bd be bf], vs (nth r11 v4)] rfl ((F50.calls qx it.ok a a2 a3 a4 bd be bf eu h2 ic (nth r11 v4) b7 _ H).mono ?_)
    rintro _ qz ⟨r12, rfl, H, el, q0⟩
    have ln := it.k0 el
    have lo := Gm.tm lm el
    refine L_nil ⟨lo, ?_⟩
    refine M_any1 5 (by kernel_rfl) rfl ?_
    have ef := it.stn el
    have ik := ((((c8.st bb).st cy).st fw).st ef)
    have il := ((((da.st bb).st cy).st fw).st ef)
    refine L_call go35 [.agg #[vs b.Id, vi b.Shape.Kind, .slice al am an, .slice ao ap aq], vs (nth r11 v4)] rfl ((F50.calls qz ln.ok b al am an ao ap aq dw ik il (nth r11 v4) b7 _ H).mono ?_)
    rintro _ qu ⟨r13, rfl, H, ca, im⟩
    have eg := ln.k0 ca
    have eh := Gm.tm lo ca
    refine L_nil ⟨eh, ?_⟩
    refine M_any1 8 (by kernel_rfl) rfl ?_
    have io := (((ib.k0 fv).k0 el).k0 ca)
    refine L_stb c0 0 [vb false, vs ([] : Str)] [vb r12.has, vs r12.val] [vb r12.has, vs r12.val] rfl io rfl sz72 rfl rfl rfl fun qv c1 ip => ?_
    have ei := eg.wr 1 rfl c1
    have ej := Gm.tq eh c1 (hv_new b8 (oge b9))
    refine L_nil ⟨ej, ?_⟩
    refine M_any1 9 (by kernel_rfl) rfl ?_
    have dn := (eg.bm ((qy.k0 el).k0 ca) 0 1 rfl rfl rfl c1)
    refine L_stb ir 0 [vb false, vs ([] : Str)] [vb r13.has, vs r13.val] [vb r13.has, vs r13.val] rfl dn rfl sz72 rfl rfl rfl fun qw c2 iq => ?_
    have ec := ei.wr 0 rfl c2
    have ek := Gm.tq ej c2 (hv_new ed (oge fu))
    refine L_nil ⟨ek, ?_⟩
    refine M_nil (by kernel_rfl) ?_
    have ia := (ei.bm ip 1 0 rfl rfl rfl c2)
    exact ⟨r12, r13, c0, ir, (hasI rfl), (Gr.t0 az ek.g0), ec, (jg_cons az.size (hv_new ed (oge fu)) (jg_cons az.size (hv_new b8 (oge b9)) jg_nil)), q0, ia, im, iq, H⟩
   refine L_alloc [vb false, vs []] ze72 fun kr c0 b9 hu1007 fq ib => ?_
   have dp := dm.own fq (some c0) (oglt b9 hu1007)
   have ed := Gm.tm b8 fq
   refine L_nil ⟨ed, ?_⟩
   refine M_any2 2 6 (by kernel_rfl) rfl rfl ?_ ?_
   ·have dq := dm.stown _ fq (oge b9)
    have ks := ((fg.st bb).st dq)
    have qk := ((fh.st bb).st dq)
    refine L_call go35 [.agg #[vs a.Id, vi a.Shape.Kind, .slice a2 a3 a4, .slice bd be bf], vs (nth r11 v4)] rfl ((F50.calls kr dp.ok a a2 a3 a4 bd be bf eu ks qk (nth r11 v4) b7 _ H).mono ?_)
    rintro _ ql ⟨r12, rfl, H, dr, lh⟩
    have fr := dp.k0 dr
    have ee := Gm.tm ed dr
    refine L_nil ⟨ee, ?_⟩
    refine M_any2 5 6 (by kernel_rfl) rfl rfl ?_ ?_
    ·have li := dp.stn dr
     have ic := (((c8.st bb).st dq).st li)
     have qm := (((da.st bb).st dq).st li)
     refine L_call go35 [.agg #[vs b.Id, vi b.Shape.Kind, .slice al am an, .slice ao ap aq], vs (nth r11 v4)] rfl ((F50.calls ql fr.ok b al am an ao ap aq dw ic qm (nth r11 v4) b7 _ H).mono ?_)
     rintro _ af3 ⟨r13, rfl, H, id, qn⟩
     have qo := fr.k0 id
     have fs := Gm.tm ee id
     refine L_nil ⟨fs, ?_⟩
     refine M_any1 6 (by kernel_rfl) rfl ?_
     refine L_alloc [vb false, vs []] ze72 fun qf ie ig hu1038 ih qp => ?_
     have lj := qo.own ih (some ie) (oglt ig hu1038)
     have lk := Gm.tm fs ih
     refine L_nil ⟨lk, ?_⟩
     refine M_any1 8 (by kernel_rfl) rfl ?_
     refine L_stb ie 0 [vb false, vs ([] : Str)] [vb r12.has, vs r12.val] [vb r12.has, vs r12.val] rfl qp rfl sz72 rfl rfl rfl fun af5 ii qq => ?_
     have gn := lj.wr 0 rfl ii
     have gp := Gm.tq lk ii (hv_new fs (oge ig))
     refine L_nil ⟨gp, ?_⟩
     refine M_any1 9 (by kernel_rfl) rfl ?_
     have ld := (lj.bm (((ib.k0 dr).k0 id).k0 ih) 1 0 rfl rfl rfl ii)
     refine L_stb c0 0 [vb false, vs ([] : Str)] [vb r13.has, vs r13.val] [vb r13.has, vs r13.val] rfl ld rfl sz72 rfl rfl rfl fun uw eb lf => ?_
     have h9 := gn.wr 1 rfl eb
     have gq := Gm.tq gp eb (hv_new b8 (oge b9))
     refine L_nil ⟨gq, ?_⟩
     refine M_nil (by kernel_rfl) ?_
     have ec := h9.perm (.swap _ _ _)
     have lg := (gn.bm qq 0 1 rfl rfl rfl eb)
     have ia := lf
     exact ⟨r12, r13, ie, c0, (hasI rfl), (Gr.t0 az gq.g0), ec, (jg_cons az.size (hv_new b8 (oge b9)) (jg_cons az.size (hv_new fs (oge ig)) jg_nil)), lh, lg, qn, ia, H⟩
    refine L_alloc [vb false, vs []] ze72 fun qs ij ft hu1027 ck qt => ?_
    have fm := fr.own ck (some ij) (oglt ft hu1027)
    have cz := Gm.tm ee ck
    refine L_nil ⟨cz, ?_⟩
    refine M_any1 5 (by kernel_rfl) rfl ?_
    have ll := dp.stn dr
    have ef := fr.stown _ ck (oge ft)
    have ik := ((((c8.st bb).st dq).st ll).st ef)
    have il := ((((da.st bb).st dq).st ll).st ef)
    refine L_call go35 [.agg #[vs b.Id, vi b.Shape.Kind, .slice al am an, .slice ao ap aq], vs (nth r11 v4)] rfl ((F50.calls qs fm.ok b al am an ao ap aq dw ik il (nth r11 v4) b7 _ H).mono ?_)
    rintro _ qu ⟨r13, rfl, H, ca, im⟩
    have eg := fm.k0 ca
    have eh := Gm.tm cz ca
    refine L_nil ⟨eh, ?_⟩
    refine M_any1 8 (by kernel_rfl) rfl ?_
    have io := (qt.k0 ca)
    refine L_stb ij 0 [vb false, vs ([] : Str)] [vb r12.has, vs r12.val] [vb r12.has, vs r12.val] rfl io rfl sz72 rfl rfl rfl fun qv c1 ip => ?_
    have ei := eg.wr 0 rfl c1
    have ej := Gm.tq eh c1 (hv_new ee (oge ft))
    refine L_nil ⟨ej, ?_⟩
    refine M_any1 9 (by kernel_rfl) rfl ?_
    have dn := (eg.bm (((ib.k0 dr).k0 ck).k0 ca) 1 0 rfl rfl rfl c1)
    refine L_stb c0 0 [vb false, vs ([] : Str)] [vb r13.has, vs r13.val] [vb r13.has, vs r13.val] rfl dn rfl sz72 rfl rfl rfl fun qw c2 iq => ?_
    have ec := ei.wr 1 rfl c2
    have ek := Gm.tq ej c2 (hv_new b8 (oge b9))
    refine L_nil ⟨ek, ?_⟩
    refine M_nil (by kernel_rfl) ?_
    have q1 := ec.perm (.swap _ _ _)
    have q2 := (ei.bm ip 0 1 rfl rfl rfl c2)
    have q3 := iq
    exact ⟨r12, r13, ij, c0, (hasI rfl), (Gr.t0 az ek.g0), q1, (jg_cons az.size (hv_new b8 (oge b9)) (jg_cons az.size (hv_new ee (oge ft)) jg_nil)), lh, q2, im, q3, H⟩
   refine L_alloc [vb false, vs []] ze72 fun qx ir fu hu1016 fv qy => ?_
   have it := dp.own fv (some ir) (oglt fu hu1016)
   have lm := Gm.tm ed fv
   refine L_nil ⟨lm, ?_⟩
   refine M_any1 2 (by kernel_rfl) rfl ?_
   have cy := dm.stown _ fq (oge b9)
   have fw := dp.stown _ fv (oge fu)
   have h2 := (((fg.st bb).st cy).st fw)
   have ic := (((fh.st bb).st cy).st fw)
   refine L_call go35 [.agg #[vs a.Id, vi a.Shape.Kind, .slice a2 a3 a4, .slice bd be bf], vs (nth r11 v4)] rfl ((F50.calls qx it.ok a a2 a3 a4 bd be bf eu h2 ic (nth r11 v4) b7 _ H).mono ?_)
   rintro _ qz ⟨r12, rfl, H, el, q0⟩
   have ln := it.k0 el
   have lo := Gm.tm lm el
   refine L_nil ⟨lo, ?_⟩
   refine M_any1 5 (by kernel_rfl) rfl ?_
   have ef := it.stn el
   have ik := ((((c8.st bb).st cy).st fw).st ef)
   have il := ((((da.st bb).st cy).st fw).st ef)
   refine L_call go35 [.agg #[vs b.Id, vi b.Shape.Kind, .slice al am an, .slice ao ap aq], vs (nth r11 v4)] rfl ((F50.calls qz ln.ok b al am an ao ap aq dw ik il (nth r11 v4) b7 _ H).mono ?_)
   rintro _ qu ⟨r13, rfl, H, ca, im⟩
   have eg := ln.k0 ca
   have eh := Gm.tm lo ca
   refine L_nil ⟨eh, ?_⟩
   refine M_any1 8 (by kernel_rfl) rfl ?_
   have io := ((qy.k0 el).k0 ca)
   refine L_stb ir 0 [vb false, vs ([] : Str)] [vb r12.has, vs r12.val] [vb r12.has, vs r12.val] rfl io rfl sz72 rfl rfl rfl fun qv c1 ip => ?_
   have ei := eg.wr 0 rfl c1
   have ej := Gm.tq eh c1 (hv_new ed (oge fu))
   refine L_nil ⟨ej, ?_⟩
   refine M_any1 9 (by kernel_rfl) rfl ?_
   have dn := (eg.bm (((ib.k0 fv).k0 el).k0 ca) 1 0 rfl rfl rfl c1)
   refine L_stb c0 0 [vb false, vs ([] : Str)] [vb r13.has, vs r13.val] [vb r13.has, vs r13.val] rfl dn rfl sz72 rfl rfl rfl fun qw c2 iq => ?_
   have ec := ei.wr 1 rfl c2
   have ek := Gm.tq ej c2 (hv_new b8 (oge b9))
   refine L_nil ⟨ek, ?_⟩
   refine M_nil (by kernel_rfl) ?_
   have q1 := ec.perm (.swap _ _ _)
   have q2 := (ei.bm ip 0 1 rfl rfl rfl c2)
   have q3 := iq
   exact ⟨r12, r13, ir, c0, (hasI rfl), (Gr.t0 az ek.g0), q1, (jg_cons az.size (hv_new b8 (oge b9)) (jg_cons az.size (hv_new ed (oge fu)) jg_nil)), q0, q2, im, q3, H⟩
  rintro amr hs ⟨r12, r13, b3, ct, af8, bx, lp, c3, ng, u0, nh, u1, H⟩
  obtain ⟨ams, rfl⟩ := Has.ins af8
  refine W_seq ?_
  refine W_join (J := (fun t lq => ∃ (r15 : value) (r16 : Bool) (bc : Nat), Has t [(3, .pointer (some ⟨au, 0, none⟩)), (4, .pointer (some ⟨ar, 0, none⟩)), (5, .pointer (some ⟨bg, 0, none⟩)), (6, .pointer (some ⟨aa, 0, none⟩)), (8, .slice a8 dy dz), (9, .pointer (some ⟨ab, 0, none⟩)), (20, vs (nth r11 v4)), (21, .pointer (some ⟨b3, 0, none⟩)), (22, .pointer (some ⟨ct, 0, none⟩)), (23, .pointer (some ⟨bc, 0, none⟩)), (24, vb r16), (142, .slice ad er bw), (143, vi (r11.length : Int)), (144, vi v4)] ∧ Gr hs lq none ∧ Ct [] w0 lq [some bc, some ct, some b3, bk ad, bk ac, some ab, bk ae, bk a8, some aa] O ∧ (∀ b, some b ∈ ([some bc] : Ob) → hs.heap.size ≤ b) ∧ Lim r15.val ∧ Bx lq bc [vb r15.has, vs r15.val] ∧ (∃ (d8 : (List Str) → Bool → Str → Prop), ((if !r16 then (([116, 97, 103, 32] : Str).length + (nth r11 v4).length ≤ 9223372036854775807) ∧ (xs6.length + ([(([116, 97, 103, 32] : Str) ++ (nth r11 v4))] : List Str).length ≤ 268435456) ∧ (if !r12.has then d8 (xs6 ++ ([(([116, 97, 103, 32] : Str) ++ (nth r11 v4))] : List Str)) r13.has r13.val else d8 (xs6 ++ ([(([116, 97, 103, 32] : Str) ++ (nth r11 v4))] : List Str)) r12.has r12.val) else d8 xs6 r15.has r15.val)) ∧ ∀ (xs8 : List Str) (z3 : Bool) (z4 : Str), d8 xs8 z3 z4 → (∃ (fi : (List Tag) → Prop), ((if z3 then (xs7.length + ([(⟨(nth r11 v4), z4⟩ : Tag)] : List Tag).length ≤ 268435456) ∧ fi (xs7 ++ ([(⟨(nth r11 v4), z4⟩ : Tag)] : List Tag)) else fi xs7)) ∧ ∀ (xs9 : List Tag), fi xs9 → (I64 (v4 + 1)) ∧ ps xs8 (v4 + 1) xs9 ∧ ki xs8 (v4 + 1) xs9 < ki xs6 v4 xs7)))) ?_ ?_
  ·refine W_mixr 12 [] (by kernel_rfl) rfl fun af9 es gs => ?_
   have ni := lp.k0 es
   have lr := d7.stos bx c3
   have ls := lp.stn es
   have aga := ((ne.st lr).st ls)
   refine M_pu 0 rfl (by kernel_rfl) gs (P_ldar ag28 sz28 cR ⟨au, 0, none⟩ [vs base_.Id, vi base_.Shape.Kind, .slice A2 n3 c4, .slice A7 n8 c9] rfl rfl (aga.cells (off := 0) rfl) nm_nil) ?_
   refine M_pu 1 rfl (by kernel_rfl) gs (P_move (vs (nth r11 v4)) rfl) ?_
   have agb := (u0.k0 es)
   refine M_pu 3 rfl (by kernel_rfl) gs (P_ldar ag72 sz72 cR ⟨b3, 0, none⟩ [vb r12.has, vs r12.val] rfl rfl (agb.cells (off := 0) rfl) nm_nil) ?_
   have agc := (u1.k0 es)
   refine M_pu 4 rfl (by kernel_rfl) gs (P_ldar ag72 sz72 cR ⟨ct, 0, none⟩ [vb r13.has, vs r13.val] rfl rfl (agc.cells (off := 0) rfl) nm_nil) ?_
   refine M_any2 2 9 (by kernel_rfl) rfl rfl ?_ ?_
   ·have agd := ((kj.st lr).st ls)
    have age := ((kk.st lr).st ls)
    refine L_call go35 [.agg #[vs base_.Id, vi base_.Shape.Kind, .slice A2 n3 c4, .slice A7 n8 c9], vs (nth r11 v4)] rfl ((F50.calls af9 ni.ok base_ A2 n3 c4 A7 n8 c9 hs1 agd age (nth r11 v4) b7 _ H).mono ?_)
    rintro _ u2 ⟨r14, rfl, H, u3, u4⟩
    have q4 := ni.k0 u3
    have lt := Gm.tm gs u3
    refine L_nil ⟨lt, ?_⟩
    refine M_any2 5 9 (by kernel_rfl) rfl rfl ?_ ?_
    ·obtain ⟨f2, f2_ok, agf, H⟩ := H
     have agh : ∀ (w : World) (L : Ob), Ct [] u2 w L ([some ct, some b3, bk ad, bk ac, some ab, bk ae, bk a8, some aa] ++ O) → ∀ (x0_ : value) (u5 : Lim x0_.val) (x1_ : value) (u6 : Lim x1_.val), f2_ok x0_ x1_ → Ret Try.prog 37 ([.agg #[vb x0_.has, vs x0_.val], .agg #[vb x1_.has, vs x1_.val]] ++ []) w (fun v w' => v = vb (f2 x0_ x1_) ∧ Gr w w' none) := by
      intro w L c x0_ u5 x1_ u6 hok
      refine (F20.calls w c.ok x0_ u5 x1_ u6  _ (agf x0_ x1_ hok)).mono ?_
      rintro _ w2 ⟨r, rfl, rfl, g2⟩
      exact ⟨rfl, g2⟩
     refine L_call go36 [.agg #[vb r14.has, vs r14.val], .agg #[vb r12.has, vs r12.val], .agg #[vb r13.has, vs r13.val], .func (.func 37) #[] #[]] rfl ((F8.calls u2 q4.ok r14 u4 r12 ng r13 nh 37 [] f2 f2_ok go37 agh _ H).mono ?_)
     rintro _ q5 ⟨r15, r16, rfl, H, jh, q6⟩
     have nj := q4.k0 jh
     have et := Gm.tm lt jh
     refine L_nil ⟨et, ?_⟩
     refine M_pu 6 rfl (by kernel_rfl) et (P_move (.tuple #[.agg #[vb r15.has, vs r15.val], vb r16]) rfl) ?_
     refine M_pu 7 rfl (by kernel_rfl) et (P_ext [.agg #[vb r15.has, vs r15.val], vb r16] 0 (.agg #[vb r15.has, vs r15.val]) rfl rfl) ?_
     refine M_pu 8 rfl (by kernel_rfl) et (P_ext [.agg #[vb r15.has, vs r15.val], vb r16] 1 (vb r16) rfl rfl) ?_
     refine M_any1 9 (by kernel_rfl) rfl ?_
     refine L_alloc [vb false, vs []] ze72 fun amt q7 q8 hu3044 ji agi => ?_
     have q9 := nj.own ji (some q7) (oglt q8 hu3044)
     have gt := Gm.tm et ji
     refine L_nil ⟨gt, ?_⟩
     refine M_any1 10 (by kernel_rfl) rfl ?_
     refine L_stb q7 0 [vb false, vs ([] : Str)] [vb r15.has, vs r15.val] [vb r15.has, vs r15.val] rfl agi rfl sz72 rfl rfl rfl fun agj lu ra => ?_
     have agk := q9.wr 0 rfl lu
     have rb := Gm.tq gt lu (hv_new et (oge q8))
     refine L_nil ⟨rb, ?_⟩
     refine M_pu 11 rfl (by kernel_rfl) rb (P_assign (vb r16) rfl) ?_
     refine M_nil (by kernel_rfl) ?_
     exact ⟨r15, r16, q7, (hasI rfl), (Gr.t0 es rb.g0), agk, (jg_cons es.size (hv_new et (oge q8)) jg_nil), q6, ra, H⟩
    refine L_alloc [vb false, vs []] ze72 fun u7 nk rc hu3034 u8 agl => ?_
    have u9 := q4.own u8 (some nk) (oglt rc hu3034)
    have va := Gm.tm lt u8
    refine L_nil ⟨va, ?_⟩
    refine M_any1 5 (by kernel_rfl) rfl ?_
    obtain ⟨f2, f2_ok, agm, H⟩ := H
    have agn : ∀ (w : World) (L : Ob), Ct [] u7 w L ([some nk, some ct, some b3, bk ad, bk ac, some ab, bk ae, bk a8, some aa] ++ O) → ∀ (x0_ : value) (vc : Lim x0_.val) (x1_ : value) (lv : Lim x1_.val), f2_ok x0_ x1_ → Ret Try.prog 37 ([.agg #[vb x0_.has, vs x0_.val], .agg #[vb x1_.has, vs x1_.val]] ++ []) w (fun v w' => v = vb (f2 x0_ x1_) ∧ Gr w w' none) := by
     intro w L c x0_ vc x1_ lv hok
     refine (F20.calls w c.ok x0_ vc x1_ lv  _ (agm x0_ x1_ hok)).mono ?_
     rintro _ w2 ⟨r, rfl, rfl, g2⟩
     exact ⟨rfl, g2⟩
    refine L_call go36 [.agg #[vb r14.has, vs r14.val], .agg #[vb r12.has, vs r12.val], .agg #[vb r13.has, vs r13.val], .func (.func 37) #[] #[]] rfl ((F8.calls u7 u9.ok r14 u4 r12 ng r13 nh 37 [] f2 f2_ok go37 agn _ H).mono ?_)
    rintro _ amu ⟨r15, r16, rfl, H, ji, ago⟩
    have q9 := u9.k0 ji
    have gt := Gm.tm va ji
    refine L_nil ⟨gt, ?_⟩
    refine M_pu 6 rfl (by kernel_rfl) gt (P_move (.tuple #[.agg #[vb r15.has, vs r15.val], vb r16]) rfl) ?_
    refine M_pu 7 rfl (by kernel_rfl) gt (P_ext [.agg #[vb r15.has, vs r15.val], vb r16] 0 (.agg #[vb r15.has, vs r15.val]) rfl rfl) ?_
    refine M_pu 8 rfl (by kernel_rfl) gt (P_ext [.agg #[vb r15.has, vs r15.val], vb r16] 1 (vb r16) rfl rfl) ?_
    refine M_any1 10 (by kernel_rfl) rfl ?_
    have agp := (agl.k0 ji)
    refine L_stb nk 0 [vb false, vs ([] : Str)] [vb r15.has, vs r15.val] [vb r15.has, vs r15.val] rfl agp rfl sz72 rfl rfl rfl fun agj lu ra => ?_
    have agq := q9.wr 0 rfl lu
    have rd := Gm.tq gt lu (hv_new lt (oge rc))
    refine L_nil ⟨rd, ?_⟩
    refine M_pu 11 rfl (by kernel_rfl) rd (P_assign (vb r16) rfl) ?_
    refine M_nil (by kernel_rfl) ?_
    exact ⟨r15, r16, nk, (hasI rfl), (Gr.t0 es rd.g0), agq, (jg_cons es.size (hv_new lt (oge rc)) jg_nil), ago, ra, H⟩
   refine L_alloc [vb false, vs []] ze72 fun agr nl nm hu3024 re ags => ?_
   have vd := ni.own re (some nl) (oglt nm hu3024)
   have ve := Gm.tm gs re
   refine L_nil ⟨ve, ?_⟩
   refine M_any1 2 (by kernel_rfl) rfl ?_
   have vf := ni.stown _ re (oge nm)
   have agt := (((kj.st lr).st ls).st vf)
   have agu := (((kk.st lr).st ls).st vf)
   refine L_call go35 [.agg #[vs base_.Id, vi base_.Shape.Kind, .slice A2 n3 c4, .slice A7 n8 c9], vs (nth r11 v4)] rfl ((F50.calls agr vd.ok base_ A2 n3 c4 A7 n8 c9 hs1 agt agu (nth r11 v4) b7 _ H).mono ?_)
   rintro _ q5 ⟨r14, rfl, H, jh, q6⟩
   have nj := vd.k0 jh
   have et := Gm.tm ve jh
   refine L_nil ⟨et, ?_⟩
   refine M_any1 5 (by kernel_rfl) rfl ?_
   obtain ⟨f2, f2_ok, agv, H⟩ := H
   have agw : ∀ (w : World) (L : Ob), Ct [] q5 w L ([some nl, some ct, some b3, bk ad, bk ac, some ab, bk ae, bk a8, some aa] ++ O) → ∀ (x0_ : value) (lv : Lim x0_.val) (x1_ : value) (vg : Lim x1_.val), f2_ok x0_ x1_ → Ret Try.prog 37 ([.agg #[vb x0_.has, vs x0_.val], .agg #[vb x1_.has, vs x1_.val]] ++ []) w (fun v w' => v = vb (f2 x0_ x1_) ∧ Gr w w' none) := by
    intro w L c x0_ lv x1_ vg hok
    refine (F20.calls w c.ok x0_ lv x1_ vg  _ (agv x0_ x1_ hok)).mono ?_
    rintro _ w2 ⟨r, rfl, rfl, g2⟩
    exact ⟨rfl, g2⟩
   refine L_call go36 [.agg #[vb r14.has, vs r14.val], .agg #[vb r12.has, vs r12.val], .agg #[vb r13.has, vs r13.val], .func (.func 37) #[] #[]] rfl ((F8.calls q5 nj.ok r14 q6 r12 ng r13 nh 37 [] f2 f2_ok go37 agw _ H).mono ?_)
   rintro _ amv ⟨r15, r16, rfl, H, rf, agx⟩
   have agy := nj.k0 rf
   have lw := Gm.tm et rf
   refine L_nil ⟨lw, ?_⟩
   refine M_pu 6 rfl (by kernel_rfl) lw (P_move (.tuple #[.agg #[vb r15.has, vs r15.val], vb r16]) rfl) ?_
   refine M_pu 7 rfl (by kernel_rfl) lw (P_ext [.agg #[vb r15.has, vs r15.val], vb r16] 0 (.agg #[vb r15.has, vs r15.val]) rfl rfl) ?_
   refine M_pu 8 rfl (by kernel_rfl) lw (P_ext [.agg #[vb r15.has, vs r15.val], vb r16] 1 (vb r16) rfl rfl) ?_
   refine M_any1 10 (by kernel_rfl) rfl ?_
   have agz := ((ags.k0 jh).k0 rf)
   refine L_stb nl 0 [vb false, vs ([] : Str)] [vb r15.has, vs r15.val] [vb r15.has, vs r15.val] rfl agz rfl sz72 rfl rfl rfl fun amw vh ag0 => ?_
   have ag1 := agy.wr 0 rfl vh
   have rg := Gm.tq lw vh (hv_new gs (oge nm))
   refine L_nil ⟨rg, ?_⟩
   refine M_pu 11 rfl (by kernel_rfl) rg (P_assign (vb r16) rfl) ?_
   refine M_nil (by kernel_rfl) ?_
   exact ⟨r15, r16, nl, (hasI rfl), (Gr.t0 es rg.g0), ag1, (jg_cons es.size (hv_new gs (oge nm)) jg_nil), agx, ag0, H⟩
  rintro amx lq ⟨r15, r16, bc, ag2, bu, fx, db, ag5, vj, H⟩
  obtain ⟨amy, rfl⟩ := Has.ins ag2
  refine W_seq (W_seq (W_reg (L_mv (vb r16) rfl (L_pu (P_not r16 rfl) (L_nil ?_)))))
  obtain ⟨d8, H, ag6⟩ := H
  refine W_join (J := (fun t cc => ∃ (xs8 : List Str) (a9 : Option Addr) (jj : Nat) (jk : Nat) (z3 : Bool) (z4 : Str), d8 xs8 z3 z4 ∧ Has t [(3, .pointer (some ⟨au, 0, none⟩)), (4, .pointer (some ⟨ar, 0, none⟩)), (5, .pointer (some ⟨bg, 0, none⟩)), (6, .pointer (some ⟨aa, 0, none⟩)), (8, .slice a9 jj jk), (9, .pointer (some ⟨ab, 0, none⟩)), (20, vs (nth r11 v4)), (23, .pointer (some ⟨bc, 0, none⟩)), (142, .slice ad er bw), (143, vi (r11.length : Int)), (144, vi v4)] ∧ Ct [] w0 cc [some bc, bk ad, bk ac, some ab, bk ae, bk a9, some aa] O ∧ Lim z4 ∧ Sl kPt cc (Fr ([some bc, bk ad, bk ac, some ab, bk ae, bk a9, some aa] ++ O)) (.slice a2 a3 a4) a.Shape.Pts ∧ Sl kTag cc (Fr ([some bc, bk ad, bk ac, some ab, bk ae, bk a9, some aa] ++ O)) (.slice bd be bf) a.Tags ∧ Sl kPt cc (Fr ([some bc, bk ad, bk ac, some ab, bk ae, bk a9, some aa] ++ O)) (.slice al am an) b.Shape.Pts ∧ Sl kTag cc (Fr ([some bc, bk ad, bk ac, some ab, bk ae, bk a9, some aa] ++ O)) (.slice ao ap aq) b.Tags ∧ Sl kPt cc (Fr ([some bc, bk ad, bk ac, some ab, bk ae, bk a9, some aa] ++ O)) (.slice A2 n3 c4) base_.Shape.Pts ∧ Sl kTag cc (Fr ([some bc, bk ad, bk ac, some ab, bk ae, bk a9, some aa] ++ O)) (.slice A7 n8 c9) base_.Tags ∧ Ow Kd.str 9 cc ([some bc, bk ad, bk ac, some ab, bk ae, bk a9, some aa] ++ O) (.slice a9 jj jk) xs8 ∧ Ow Kd.str 9 cc ([some bc, bk ad, bk ac, some ab, bk ae, bk a9, some aa] ++ O) (.slice ad er bw) r11 ∧ Ow kPt 83 cc ([some bc, bk ad, bk ac, some ab, bk ae, bk a9, some aa] ++ O) (.slice ac bz b0) r9.Pts ∧ Ow kTag 39 cc ([some bc, bk ad, bk ac, some ab, bk ae, bk a9, some aa] ++ O) (.slice ae ci cj) xs7 ∧ Fb cc ([some bc, bk ad, bk ac, some ab, bk ae, bk a9, some aa] ++ O) au [vs base_.Id, vi base_.Shape.Kind, .slice A2 n3 c4, .slice A7 n8 c9] ∧ Fb cc ([some bc, bk ad, bk ac, some ab, bk ae, bk a9, some aa] ++ O) ar [vs a.Id, vi a.Shape.Kind, .slice a2 a3 a4, .slice bd be bf] ∧ Fb cc ([some bc, bk ad, bk ac, some ab, bk ae, bk a9, some aa] ++ O) bg [vs b.Id, vi b.Shape.Kind, .slice al am an, .slice ao ap aq] ∧ Bx cc aa [vs ([] : Str), vi 0, .slice none 0 0, .slice none 0 0] ∧ Bx cc ab [vs a.Id, vi r9.Kind, .slice ac bz b0, .slice ae ci cj] ∧ Bx cc bc [vb z3, vs z4])) ?_ ?_
  ·refine W_cond (!r16) rfl (fun rh => ?_) (fun rh => ?_)
   ·have H := ite_t H rh
    refine W_seq (W_reg (L_mv (.slice a8 dy dz) rfl (L_mv (vs (nth r11 v4)) rfl ?_)))
    obtain ⟨vk, H⟩ := H
    refine L_pu (P_cat ([116, 97, 103, 32] : Str) (nth r11 v4) rfl rfl vk) (L_lit (kd := Kd.str) ei31 fx ([(([116, 97, 103, 32] : Str) ++ (nth r11 v4))] : List Str) (cells := [vs (([116, 97, 103, 32] : Str) ++ (nth r11 v4))]) ⟨[vs (([116, 97, 103, 32] : Str) ++ (nth r11 v4))], _, rfl, ⟨rfl, (lim_cat vk)⟩, rfl⟩ (fun _ => by kernel_rfl) fun amz lx ag7 ag8 cu hr5063 dc aha => ?_)
    obtain ⟨ahb, H⟩ := H
    have ahc := (((pu.sos bx c3).sos bu db).so _ cu hr5063)
    refine L_app ei31 dc (.slice a8 dy dz) xs6 ([(([116, 97, 103, 32] : Str) ++ (nth r11 v4))] : List Str) rfl ahc (.slice lx ag7 ag8) rfl aha.sx 8 rfl ahb fun am0 iu ri rj ds br cl vl => ?_
    refine L_as (.slice iu ri rj) rfl (L_nil (W_seq (W_reg ?_)))
    have vm := (dc.bm ((u0.k0 bu).k0 cu) 3 8 rfl rfl rfl ds)
    refine L_pu (P_lda ag72 sz72 cL ⟨b3, 0, none⟩ [vb r12.has, vs r12.val] rfl rfl (vm.cells (off := 0) rfl)) ?_
    have ahd := (dc.bm (vj.k0 cu) 1 8 rfl rfl rfl ds)
    refine L_stb bc 0 [vb r15.has, vs r15.val] [vb r12.has, vs r12.val] [vb r12.has, vs r12.val] rfl ahd rfl sz72 rfl rfl rfl fun am1 cm vn => ?_
    have dt := cl.wr 1 rfl cm
    refine L_nil (W_seq (W_reg (L_pu (P_fa fa72_0 ⟨b3, 0, none⟩ ⟨b3, 0, none⟩ rfl rfl) ?_)))
    have ahe := (cl.bm vm 3 1 rfl rfl rfl cm)
    refine L_pu (P_ld ag4 cL ⟨b3, 0, none⟩ (vb r12.has) rfl (ahe.cell rfl)) (L_pu (P_not r12.has rfl) (L_nil ?_))
    refine W_cond (!r12.has) rfl (fun rk => ?_) (fun rk => ?_)
    ·have H := ite_t H rk
     refine W_reg ?_
     have ahf := (cl.bm (dc.bm ((u1.k0 bu).k0 cu) 2 8 rfl rfl rfl ds) 2 1 rfl rfl rfl cm)
     refine L_pu (P_lda ag72 sz72 cL ⟨ct, 0, none⟩ [vb r13.has, vs r13.val] rfl rfl (ahf.cells (off := 0) rfl)) (L_stb bc 0 [vb r12.has, vs r12.val] [vb r13.has, vs r13.val] [vb r13.has, vs r13.val] rfl vn rfl sz72 rfl rfl rfl fun am2 gu ahg => ?_)
     have ly := dt.wr 1 rfl gu
     refine L_nil ?_
     have dd : ([bk lx, some bc, some ct, some b3, bk ad, bk ac, some ab, bk ae, bk iu, some aa] : Ob).Perm ((bk lx :: some ct :: some b3 :: []) ++ [some bc, bk ad, bk ac, some ab, bk ae, bk iu, some aa]) := (pc fun a => by (try simp only [pca, pcc, pcn, Nat.add_zero, Nat.zero_add]); first | done | ac_rfl)
     have ahh := ly.drops dd
     have fy := d7.stos bx c3
     have fz := lp.stos bu db
     have f0 := fx.stown _ cu hr5063
     have f1 := cl.stw 1 rfl cm
     have f3 := dt.stw 1 rfl gu
     have ahi := (((((((fg.st fy).st fz).st f0).st br).st f1).st f3).st (St.drops _ O dd))
     have ahj := (((((((fh.st fy).st fz).st f0).st br).st f1).st f3).st (St.drops _ O dd))
     have ahk := (((((((c8.st fy).st fz).st f0).st br).st f1).st f3).st (St.drops _ O dd))
     have ahl := (((((((da.st fy).st fz).st f0).st br).st f1).st f3).st (St.drops _ O dd))
     have ahm := (((((((kj.st fy).st fz).st f0).st br).st f1).st f3).st (St.drops _ O dd))
     have ahn := (((((((kk.st fy).st fz).st f0).st br).st f1).st f3).st (St.drops _ O dd))
     have aho := (ly.odr (dt.sw (cl.sw vl 8 1 rfl rfl rfl cm) 8 1 rfl rfl rfl gu) dd 5 rfl)
     have ahp := (ly.odr (dt.sw (cl.sw (dc.sm (((kl.sos bx c3).sos bu db).so _ cu hr5063) 4 8 rfl rfl rfl ds br) 4 1 rfl rfl rfl cm) 4 1 rfl rfl rfl gu) dd 1 rfl)
     have ahq := (ly.odr (dt.sw (cl.sw (dc.sm (((km.sos bx c3).sos bu db).so _ cu hr5063) 5 8 rfl rfl rfl ds br) 5 1 rfl rfl rfl cm) 5 1 rfl rfl rfl gu) dd 2 rfl)
     have ahr := (ly.odr (dt.sw (cl.sw (dc.sm (((kn.sos bx c3).sos bu db).so _ cu hr5063) 7 8 rfl rfl rfl ds br) 7 1 rfl rfl rfl cm) 7 1 rfl rfl rfl gu) dd 4 rfl)
     have ahs := (((((((ne.st fy).st fz).st f0).st br).st f1).st f3).st (St.drops _ O dd))
     have aht := (((((((ko.st fy).st fz).st f0).st br).st f1).st f3).st (St.drops _ O dd))
     have ahu := (((((((nf.st fy).st fz).st f0).st br).st f1).st f3).st (St.drops _ O dd))
     have ahv := (dt.bm (cl.bm (dc.bm (((kp.k0 bx).k0 bu).k0 cu) 9 8 rfl rfl rfl ds) 9 1 rfl rfl rfl cm) 9 1 rfl rfl rfl gu)
     have ahw := (dt.bm (cl.bm (dc.bm (((kq.k0 bx).k0 bu).k0 cu) 6 8 rfl rfl rfl ds) 6 1 rfl rfl rfl cm) 6 1 rfl rfl rfl gu)
     have ahx := ahg
     exact ⟨(xs6 ++ ([(([116, 97, 103, 32] : Str) ++ (nth r11 v4))] : List Str)), iu, ri, rj, r13.has, r13.val, H, (hasI rfl), ahh, nh, ahi, ahj, ahk, ahl, ahm, ahn, aho, ahp, ahq, ahr, ahs, aht, ahu, ahv, ahw, ahx⟩
    have H := ite_f H rk
    refine W_skip ?_
    have de : ([bk lx, some bc, some ct, some b3, bk ad, bk ac, some ab, bk ae, bk iu, some aa] : Ob).Perm ((bk lx :: some ct :: some b3 :: []) ++ [some bc, bk ad, bk ac, some ab, bk ae, bk iu, some aa]) := (pc fun a => by (try simp only [pca, pcc, pcn, Nat.add_zero, Nat.zero_add]); first | done | ac_rfl)
    have ahy := dt.drops de
    have f4 := d7.stos bx c3
    have f5 := lp.stos bu db
    have f6 := fx.stown _ cu hr5063
    have f7 := cl.stw 1 rfl cm
    have ahz := ((((((fg.st f4).st f5).st f6).st br).st f7).st (St.drops _ O de))
    have ah0 := ((((((fh.st f4).st f5).st f6).st br).st f7).st (St.drops _ O de))
    have ah1 := ((((((c8.st f4).st f5).st f6).st br).st f7).st (St.drops _ O de))
    have ah2 := ((((((da.st f4).st f5).st f6).st br).st f7).st (St.drops _ O de))
    have ah3 := ((((((kj.st f4).st f5).st f6).st br).st f7).st (St.drops _ O de))
    have ah4 := ((((((kk.st f4).st f5).st f6).st br).st f7).st (St.drops _ O de))
    have ah5 := (dt.odr (cl.sw vl 8 1 rfl rfl rfl cm) de 5 rfl)
    have ah6 := (dt.odr (cl.sw (dc.sm (((kl.sos bx c3).sos bu db).so _ cu hr5063) 4 8 rfl rfl rfl ds br) 4 1 rfl rfl rfl cm) de 1 rfl)
    have ah7 := (dt.odr (cl.sw (dc.sm (((km.sos bx c3).sos bu db).so _ cu hr5063) 5 8 rfl rfl rfl ds br) 5 1 rfl rfl rfl cm) de 2 rfl)
    have ah8 := (dt.odr (cl.sw (dc.sm (((kn.sos bx c3).sos bu db).so _ cu hr5063) 7 8 rfl rfl rfl ds br) 7 1 rfl rfl rfl cm) de 4 rfl)
    have ah9 := ((((((ne.st f4).st f5).st f6).st br).st f7).st (St.drops _ O de))
    have aia := ((((((ko.st f4).st f5).st f6).st br).st f7).st (St.drops _ O de))
    have aib := ((((((nf.st f4).st f5).st f6).st br).st f7).st (St.drops _ O de))
    have aic := (cl.bm (dc.bm (((kp.k0 bx).k0 bu).k0 cu) 9 8 rfl rfl rfl ds) 9 1 rfl rfl rfl cm)
    have aid := (cl.bm (dc.bm (((kq.k0 bx).k0 bu).k0 cu) 6 8 rfl rfl rfl ds) 6 1 rfl rfl rfl cm)
    have aie := vn
    exact ⟨(xs6 ++ ([(([116, 97, 103, 32] : Str) ++ (nth r11 v4))] : List Str)), iu, ri, rj, r12.has, r12.val, H, (hasI rfl), ahy, ng, ahz, ah0, ah1, ah2, ah3, ah4, ah5, ah6, ah7, ah8, ah9, aia, aib, aic, aid, aie⟩
   have H := ite_f H rh
   refine W_skip ?_
   have jl : Ct [] w0 lq [some bc, some b3, bk ad, bk ac, some ab, bk ae, bk a8, some aa] O := fx.drop 1 rfl
   have aif := jl.drop 1 rfl
   have f8 := d7.stos bx c3
   have f9 := lp.stos bu db
   have ga := fx.std 1 rfl
   have gb := jl.std 1 rfl
   have aig := ((((fg.st f8).st f9).st ga).st gb)
   have aih := ((((fh.st f8).st f9).st ga).st gb)
   have aii := ((((c8.st f8).st f9).st ga).st gb)
   have aij := ((((da.st f8).st f9).st ga).st gb)
   have aik := ((((kj.st f8).st f9).st ga).st gb)
   have ail := ((((kk.st f8).st f9).st ga).st gb)
   have aim := (jl.sd (fx.sd ((pu.sos bx c3).sos bu db) 7 1 rfl rfl rfl) 6 1 rfl rfl rfl)
   have ain := (jl.sd (fx.sd ((kl.sos bx c3).sos bu db) 3 1 rfl rfl rfl) 2 1 rfl rfl rfl)
   have aio := (jl.sd (fx.sd ((km.sos bx c3).sos bu db) 4 1 rfl rfl rfl) 3 1 rfl rfl rfl)
   have aip := (jl.sd (fx.sd ((kn.sos bx c3).sos bu db) 6 1 rfl rfl rfl) 5 1 rfl rfl rfl)
   have aiq := ((((ne.st f8).st f9).st ga).st gb)
   have air := ((((ko.st f8).st f9).st ga).st gb)
   have ais := ((((nf.st f8).st f9).st ga).st gb)
   have ait := ((kp.k0 bx).k0 bu)
   have aiu := ((kq.k0 bx).k0 bu)
   have aiv := vj
   exact ⟨xs6, a8, dy, dz, r15.has, r15.val, H, (hasI rfl), aif, ag5, aig, aih, aii, aij, aik, ail, aim, ain, aio, aip, aiq, air, ais, ait, aiu, aiv⟩
  rintro am3 cc ⟨xs8, a9, jj, jk, z3, z4, aiw, aix, gw, aiy, vo, vp, vq, vr, vt, vu, vv, vw, vx, vy, vz, v0, v1, v3, rl, v5⟩
  obtain ⟨am4, rfl⟩ := Has.ins aix
  have H := ag6 xs8 z3 z4 aiw
  refine W_seq (W_reg (L_pu (P_fa fa72_0 ⟨bc, 0, none⟩ ⟨bc, 0, none⟩ rfl rfl) (L_pu (P_ld ag4 cL ⟨bc, 0, none⟩ (vb z3) rfl (v5.cell rfl)) (L_nil ?_))))
  obtain ⟨fi, H, aiz⟩ := H
  refine W_join (J := (fun t cn => ∃ (xs9 : List Tag) (cd : Option Addr) (nn : Nat) (no : Nat), fi xs9 ∧ Has t [(3, .pointer (some ⟨au, 0, none⟩)), (4, .pointer (some ⟨ar, 0, none⟩)), (5, .pointer (some ⟨bg, 0, none⟩)), (6, .pointer (some ⟨aa, 0, none⟩)), (8, .slice a9 jj jk), (9, .pointer (some ⟨ab, 0, none⟩)), (142, .slice ad er bw), (143, vi (r11.length : Int)), (144, vi v4)] ∧ Ct [] w0 cn [bk ad, bk ac, some ab, bk cd, bk a9, some aa] O ∧ Sl kPt cn (Fr ([bk ad, bk ac, some ab, bk cd, bk a9, some aa] ++ O)) (.slice a2 a3 a4) a.Shape.Pts ∧ Sl kTag cn (Fr ([bk ad, bk ac, some ab, bk cd, bk a9, some aa] ++ O)) (.slice bd be bf) a.Tags ∧ Sl kPt cn (Fr ([bk ad, bk ac, some ab, bk cd, bk a9, some aa] ++ O)) (.slice al am an) b.Shape.Pts ∧ Sl kTag cn (Fr ([bk ad, bk ac, some ab, bk cd, bk a9, some aa] ++ O)) (.slice ao ap aq) b.Tags ∧ Sl kPt cn (Fr ([bk ad, bk ac, some ab, bk cd, bk a9, some aa] ++ O)) (.slice A2 n3 c4) base_.Shape.Pts ∧ Sl kTag cn (Fr ([bk ad, bk ac, some ab, bk cd, bk a9, some aa] ++ O)) (.slice A7 n8 c9) base_.Tags ∧ Ow Kd.str 9 cn ([bk ad, bk ac, some ab, bk cd, bk a9, some aa] ++ O) (.slice a9 jj jk) xs8 ∧ Ow Kd.str 9 cn ([bk ad, bk ac, some ab, bk cd, bk a9, some aa] ++ O) (.slice ad er bw) r11 ∧ Ow kPt 83 cn ([bk ad, bk ac, some ab, bk cd, bk a9, some aa] ++ O) (.slice ac bz b0) r9.Pts ∧ Ow kTag 39 cn ([bk ad, bk ac, some ab, bk cd, bk a9, some aa] ++ O) (.slice cd nn no) xs9 ∧ Fb cn ([bk ad, bk ac, some ab, bk cd, bk a9, some aa] ++ O) au [vs base_.Id, vi base_.Shape.Kind, .slice A2 n3 c4, .slice A7 n8 c9] ∧ Fb cn ([bk ad, bk ac, some ab, bk cd, bk a9, some aa] ++ O) ar [vs a.Id, vi a.Shape.Kind, .slice a2 a3 a4, .slice bd be bf] ∧ Fb cn ([bk ad, bk ac, some ab, bk cd, bk a9, some aa] ++ O) bg [vs b.Id, vi b.Shape.Kind, .slice al am an, .slice ao ap aq] ∧ Bx cn aa [vs ([] : Str), vi 0, .slice none 0 0, .slice none 0 0] ∧ Bx cn ab [vs a.Id, vi r9.Kind, .slice ac bz b0, .slice cd nn no])) ?_ ?_
  ·refine W_cond z3 rfl (fun rm => ?_) (fun rm => ?_)
   ·have H := ite_t H rm
    refine W_reg (L_pu (P_fa fa28_2 ⟨ab, 0, none⟩ ⟨ab, 3, none⟩ rfl rfl) (L_pu (P_ld ag26 cL ⟨ab, 3, none⟩ (.slice ae ci cj) rfl (rl.cell rfl)) (L_mv (vs (nth r11 v4)) rfl (L_pu (P_fa fa72_1 ⟨bc, 0, none⟩ ⟨bc, 1, none⟩ rfl rfl) (L_pu (P_ld ag9 cL ⟨bc, 1, none⟩ (vs z4) rfl (v5.cell rfl)) (L_pu (P_build (.agg #[vs (nth r11 v4), vs z4]) (fun _ => by kernel_rfl)) (L_lit (kd := kTag) ei26 gw ([(⟨(nth r11 v4), z4⟩ : Tag)] : List Tag) (cells := [vs (nth r11 v4), vs z4]) ⟨[vs (nth r11 v4), vs z4], _, rfl, (kTag.mk _ _ (⟨(nth r11 v4), z4⟩ : Tag) b7 aiy), rfl⟩ (fun _ => by kernel_rfl) fun am5 ai0 ai1 ai2 iv hr5198 jm ai3 => ?_)))))))
    obtain ⟨ai4, H⟩ := H
    have ai5 := (vy.so _ iv hr5198)
    refine L_app ei26 jm (.slice ae ci cj) xs7 ([(⟨(nth r11 v4), z4⟩ : Tag)] : List Tag) rfl ai5 (.slice ai0 ai1 ai2) rfl ai3.sx 5 rfl ai4 fun am6 np rn ro lz d1 iw ai6 => ?_
    refine L_pu (P_fa fa28_2 ⟨ab, 0, none⟩ ⟨ab, 3, none⟩ rfl rfl) ?_
    have ai7 := (jm.bm (rl.k0 iv) 4 5 rfl rfl rfl lz)
    refine L_stb ab 3 [vs a.Id, vi r9.Kind, .slice ac bz b0, .slice ae ci cj] [.slice np rn ro] [vs a.Id, vi r9.Kind, .slice ac bz b0, .slice np rn ro] rfl ai7 rfl sz26 rfl rfl rfl fun ai8 ix ai9 => ?_
    have jn := iw.wr 4 rfl ix
    refine L_nil ?_
    have jo := jn.drop 0 rfl
    have aja : Ct [] w0 ai8 [bk ad, bk ac, some ab, bk np, bk a9, some aa] O := jo.drop 0 rfl
    have gc := gw.stown _ iv hr5198
    have gd := iw.stw 4 rfl ix
    have gf := jn.std 0 rfl
    have gg := jo.std 0 rfl
    have ajb := (((((vo.st gc).st d1).st gd).st gf).st gg)
    have ajc := (((((vp.st gc).st d1).st gd).st gf).st gg)
    have ajd := (((((vq.st gc).st d1).st gd).st gf).st gg)
    have aje := (((((vr.st gc).st d1).st gd).st gf).st gg)
    have ajf := (((((vt.st gc).st d1).st gd).st gf).st gg)
    have ajg := (((((vu.st gc).st d1).st gd).st gf).st gg)
    have ajh := (jo.sd (jn.sd (iw.sw (jm.sm (vv.so _ iv hr5198) 6 5 rfl rfl rfl lz d1) 6 4 rfl rfl rfl ix) 6 0 rfl rfl rfl) 5 0 rfl rfl rfl)
    have aji := (jo.sd (jn.sd (iw.sw (jm.sm (vw.so _ iv hr5198) 2 5 rfl rfl rfl lz d1) 2 4 rfl rfl rfl ix) 2 0 rfl rfl rfl) 1 0 rfl rfl rfl)
    have ajj := (jo.sd (jn.sd (iw.sw (jm.sm (vx.so _ iv hr5198) 3 5 rfl rfl rfl lz d1) 3 4 rfl rfl rfl ix) 3 0 rfl rfl rfl) 2 0 rfl rfl rfl)
    have ajk := (jo.sd (jn.sd (iw.sw ai6 5 4 rfl rfl rfl ix) 5 0 rfl rfl rfl) 4 0 rfl rfl rfl)
    have ajl := (((((vz.st gc).st d1).st gd).st gf).st gg)
    have ajm := (((((v0.st gc).st d1).st gd).st gf).st gg)
    have ajn := (((((v1.st gc).st d1).st gd).st gf).st gg)
    have ajo := (iw.bm (jm.bm (v3.k0 iv) 7 5 rfl rfl rfl lz) 7 4 rfl rfl rfl ix)
    have ajp := ai9
    exact ⟨(xs7 ++ ([(⟨(nth r11 v4), z4⟩ : Tag)] : List Tag)), np, rn, ro, H, (hasI rfl), aja, ajb, ajc, ajd, aje, ajf, ajg, ajh, aji, ajj, ajk, ajl, ajm, ajn, ajo, ajp⟩
   have H := ite_f H rm
   refine W_skip ?_
   have ajq := gw.drop 0 rfl
   have gh := gw.std 0 rfl
   have ajr := (gw.sd vv 5 0 rfl rfl rfl)
   have ajs := (gw.sd vw 1 0 rfl rfl rfl)
   have ajt := (gw.sd vx 2 0 rfl rfl rfl)
   have aju := (gw.sd vy 4 0 rfl rfl rfl)
   have ajv := (vz.st gh)
   have ajw := (v0.st gh)
   have ajx := (v1.st gh)
   have ajy := v3
   have ajz := rl
   exact ⟨xs7, ae, ci, cj, H, (hasI rfl), ajq, (vo.st gh), (vp.st gh), (vq.st gh), (vr.st gh), (vt.st gh), (vu.st gh), ajr, ajs, ajt, aju, ajv, ajw, ajx, ajy, ajz⟩
  rintro am7 cn ⟨xs9, cd, nn, no, aj0, aj1, aj2, aj3, aj4, aj5, aj6, aj7, aj8, aj9, aka, akb, akc, akd, ake, akf, akg, akh⟩
  obtain ⟨am8, rfl⟩ := Has.ins aj1
  have H := aiz xs9 aj0
  refine W_reg ?_
  obtain ⟨aki, H⟩ := H
  refine L_pu (P_add v4 1 rfl rfl aki) (L_mv (vi (v4 + 1)) rfl (L_nil ?_))
  obtain ⟨akj, akk⟩ := H
  exact ⟨(xs8, a9, jj, jk, v4 + 1, xs9, cd, nn, no), akk, akj, (hasI rfl), aj2, aj3, aj4, aj5, aj6, aj7, aj8, aj9, aka, akb, akc, akd, ake, akf, akg, akh⟩
 have H := ite_f H pv
 refine W_exit (xin_hit ?_)
 refine W_seq (W_seq (W_reg (L_pu (P_lda ag28 sz28 cL ⟨ab, 0, none⟩ [vs a.Id, vi r9.Kind, .slice ac bz b0, .slice ae ci cj] rfl rfl (kq.cells (off := 0) rfl)) ?_)))
 have akl := d7.gv km 1 rfl
 have rp := d7.drop 1 rfl
 have akm := (d7.sd kn 3 1 rfl rfl rfl)
 have akn := rp.gv akm 2 rfl
 have ako := rp.drop 2 rfl
 have akp := rp.std 2 rfl
 refine L_call go12 [.agg #[vs a.Id, vi r9.Kind, .slice ac bz b0, .slice ae ci cj]] rfl ((F70.calls b2 ako.ok (⟨a.Id, r9, xs7⟩ : Feat) ac bz b0 ae ci cj eu (akl.st akp) akn _ H).mono ?_)
 rintro _ akq ⟨r17, rfl, H, gx⟩
 have l0 := d7.k0 gx
 refine L_pu (P_not r17 rfl) (L_nil ?_)
 refine W_cond (!r17) rfl (fun rq => ?_) (fun rq => ?_)
 ·have H := ite_t H rq
  refine W_seq ?_
  have nq : ([bk ad, bk ac, some ab, bk ae, bk a8, some aa] : Ob).Perm ((bk ad :: bk ac :: some ab :: bk ae :: bk a8 :: []) ++ [some aa]) := (pc fun a => by (try simp only [pca, pcc, pcn, Nat.add_zero, Nat.zero_add]); first | done | ac_rfl)
  have v6 := l0.drops nq
  refine W_reg ?_
  have rr := d7.stn gx
  have akr := ((ko.st rr).st (St.drops _ O nq))
  refine L_pu (P_lda ag28 sz28 cL ⟨ar, 0, none⟩ [vs a.Id, vi a.Shape.Kind, .slice a2 a3 a4, .slice bd be bf] rfl rfl (akr.cells (off := 0) rfl)) ?_
  have aks := ((fg.st rr).st (St.drops _ O nq))
  have akt := ((fh.st rr).st (St.drops _ O nq))
  refine L_call go38 [.agg #[vs a.Id, vi a.Shape.Kind, .slice a2 a3 a4, .slice bd be bf]] rfl ((F26.calls akq v6.ok a a2 a3 a4 bd be bf eu aks akt _ H).mono ?_)
  rintro _ am9 ⟨r18, nr, ns, nt, nu, nv, nw, rfl, H, v7, aku, akv, akw, akx, aky⟩
  have akz := v6.owns v7 aku akv
  refine L_lit (kd := Kd.str) ei31 akz ([([109, 117, 99, 104] : Str)] : List Str) (cells := [vs ([109, 117, 99, 104] : Str)]) ⟨[vs ([109, 117, 99, 104] : Str)], _, rfl, ⟨rfl, (by decide : Lim ([109, 117, 99, 104] : Str))⟩, rfl⟩ (fun _ => by kernel_rfl) fun ana rs rt ru rv hr5305 nx ak0 => ?_
  have ak1 := (((kp.k0 gx).k0 v7).k0 rv)
  refine L_stb aa 0 [vs ([] : Str), vi 0, .slice none 0 0, .slice none 0 0] [vs r18.Id, vi r18.Shape.Kind, .slice nr ns nt, .slice nu nv nw] [vs r18.Id, vi r18.Shape.Kind, .slice nr ns nt, .slice nu nv nw] rfl ak1 rfl sz28 rfl rfl rfl fun anb ny ak2 => ?_
  have l1 := nx.wr 3 rfl ny
  refine L_as (.slice rs rt ru) rfl (L_nil (W_ret ?_))
  have ak3 := l1.bgv ak2 3 rfl
  have l2 := l1.drop 3 rfl
  have l3 := l2.perm (.swap _ _ _)
  have rw := l3.perm (.cons _ (.swap _ _ _))
  have ak4 := l2.stp (.swap _ _ _)
  have ak5 := l3.stp (.cons _ (.swap _ _ _))
  have ak6 := ((ak3.st ak4).st ak5)
  have ak7 := (l3.sp (l2.sp (l1.sd (nx.sw (akx.so _ rv hr5305) 1 3 rfl rfl rfl ny) 1 3 rfl rfl rfl) (.swap _ _ _)) (.cons _ (.swap _ _ _)))
  have ak8 := (l3.sp (l2.sp (l1.sd (nx.sw (aky.so _ rv hr5305) 2 3 rfl rfl rfl ny) 2 3 rfl rfl rfl) (.swap _ _ _)) (.cons _ (.swap _ _ _)))
  have ak9 := (l3.sp (l2.sp (l1.sd (nx.sw ak0 0 3 rfl rfl rfl ny) 0 3 rfl rfl rfl) (.swap _ _ _)) (.cons _ (.swap _ _ _)))
  exact ⟨[.agg #[vs r18.Id, vi r18.Shape.Kind, .slice nr ns nt, .slice nu nv nw], .slice rs rt ru], ⟨_, _, rfl, ak6.1.res rfl ag28 sz28, ⟨_, rfl, rfl⟩⟩, r18, ([([109, 117, 99, 104] : Str)] : List Str), nr, ns, nt, nu, nv, nw, rs, rt, ru, rfl, H, rw.gr.g0, rw.ok, rw.ge, akw, ak7, ak8, ak9⟩
 have H := ite_f H rq
 refine W_skip (W_seq (W_reg ?_))
 have ala := (kq.k0 gx)
 refine L_pu (P_lda ag28 sz28 cL ⟨ab, 0, none⟩ [vs a.Id, vi r9.Kind, .slice ac bz b0, .slice ae ci cj] rfl rfl (ala.cells (off := 0) rfl)) (L_mv (.slice a8 dy dz) rfl ?_)
 have alb := (kp.k0 gx)
 refine L_stb aa 0 [vs ([] : Str), vi 0, .slice none 0 0, .slice none 0 0] [vs a.Id, vi r9.Kind, .slice ac bz b0, .slice ae ci cj] [vs a.Id, vi r9.Kind, .slice ac bz b0, .slice ae ci cj] rfl alb rfl sz28 rfl rfl rfl fun alc nz ald => ?_
 have l4 := l0.wr 5 rfl nz
 refine L_as (.slice a8 dy dz) rfl (L_nil (W_ret ?_))
 have ale := l4.bgv ald 5 rfl
 have l5 := l4.drop 5 rfl
 have l6 := l5.drop 0 rfl
 have rx : Ct [] w0 alc [bk ac, bk ae, bk a8] O := l6.drop 1 rfl
 have alf := l5.std 0 rfl
 have alg := l6.std 1 rfl
 have alh := ((ale.st alf).st alg)
 have ali := (l6.sd (l5.sd (l4.sd (l0.sw (km.sn gx) 1 5 rfl rfl rfl nz) 1 5 rfl rfl rfl) 1 0 rfl rfl rfl) 0 1 rfl rfl rfl)
 have alj := (l6.sd (l5.sd (l4.sd (l0.sw (kn.sn gx) 3 5 rfl rfl rfl nz) 3 5 rfl rfl rfl) 3 0 rfl rfl rfl) 2 1 rfl rfl rfl)
 have alk := (l6.sd (l5.sd (l4.sd (l0.sw (pu.sn gx) 4 5 rfl rfl rfl nz) 4 5 rfl rfl rfl) 4 0 rfl rfl rfl) 3 1 rfl rfl rfl)
 exact ⟨[.agg #[vs a.Id, vi r9.Kind, .slice ac bz b0, .slice ae ci cj], .slice a8 dy dz], ⟨_, _, rfl, alh.1.res rfl ag28 sz28, ⟨_, rfl, rfl⟩⟩, (⟨a.Id, r9, xs7⟩ : Feat), xs6, ac, bz, b0, ae, ci, cj, a8, dy, dz, rfl, H, rx.gr.g0, rx.ok, rx.ge, eu, ali, alj, alk⟩
end
section
open Go.RowKit
def F71.E (a : List Pt) (b : List Pt) (Q : Bool → Prop) : Prop :=
 (if (a.length : Int) != (b.length : Int) then Q false else (∃ (I32 : Int → Prop) (mu33 : Int → Nat), I32 0 ∧ ∀ (i2 : Int), I32 i2 → (if decide (i2 < (a.length : Int)) then ((0 : Int) ≤ i2 ∧ i2 < (a.length : Int)) ∧ ((0 : Int) ≤ i2 ∧ i2 < (b.length : Int)) ∧ (if !(eqPt (nth a i2) (nth b i2)) then Q false else (-9223372036854775808 ≤ i2) ∧ I32 (i2 + 1) ∧ mu33 (i2 + 1) < mu33 i2) else Q true)))
theorem F71.calls {O : Ob} (w0 : World) (hO : Ok w0 O) (a : List Pt) (A1 : Option Addr) (n2 c3 : Nat) (hp4 : Sl kPt w0 (Fr O) (.slice A1 n2 c3) a) (b : List Pt) (A6 : Option Addr) (n7 c8 : Nat) (hp9 : Sl kPt w0 (Fr O) (.slice A6 n7 c8) b) (Q : Bool → Prop) (h : F71.E a b Q) :
  Ret Try.prog 146 [.slice A1 n2 c3, .slice A6 n7 c8] w0 (fun v w' => ∃ (r0 : Bool), v = vb r0 ∧ Q r0 ∧ Gr w0 w' none) := by
 unfold F71.E at h
 have H := h
 clear h
 have hc0 := Ct.init hO
 refine Ret_enter Try.func146 rfl 26 rfl [.tmp 4] rfl rfl ?_
 refine W_seq (W_reg (L_as (vb false) rfl (L_nil (W_seq (W_seq (W_reg (L_mv (.slice A1 n2 c3) rfl ?_)))))))
 have a5 := hp4.le
 refine L_pu (P_len Try.underlying23 A1 n2 c3 hp4.len rfl) (L_mv (.slice A6 n7 c8) rfl ?_)
 have a6 := hp9.le
 refine L_pu (P_len Try.underlying23 A6 n7 c8 hp9.len rfl) (L_pu (P_cmp (a.length : Int) (b.length : Int) ((a.length : Int) != (b.length : Int)) rfl rfl rfl) (L_nil ?_))
 refine W_cond ((a.length : Int) != (b.length : Int)) rfl (fun ad => ?_) (fun ad => ?_)
 ·have H := ite_t H ad
  exact W_seq (W_reg (L_as (vb false) rfl (L_nil (W_ret ⟨[vb false], ⟨_, rfl, rfl⟩, false, rfl, H, hc0.gr.g0⟩))))
 have H := ite_f H ad
 refine W_skip (W_seq (W_seq (W_reg (L_as (vi 0) rfl (L_nil (W_block ?_))))))
 obtain ⟨ap, aq, ae, H⟩ := H
 refine W_loop (α := Int) (fun (sv__ : Int) t aa => match sv__ with | i2 => ap i2 ∧ Has t [(0, .slice A1 n2 c3), (1, .slice A6 n7 c8), (5, vi i2)] ∧ Ct [] w0 aa [] O ∧ Sl kPt aa (Fr ([] ++ O)) (.slice A1 n2 c3) a ∧ Sl kPt aa (Fr ([] ++ O)) (.slice A6 n7 c8) b) (fun (sv__ : Int) => match sv__ with | i2 => aq i2) 0 ⟨ae, (hasI rfl), hc0, hp4, hp9⟩ ?_
 rintro i2 _ aa ⟨ae, ar, af, ab, ag⟩
 obtain ⟨a7, rfl⟩ := Has.ins ar
 have H := H i2 ae
 refine W_seq (W_seq (W_reg (L_mv (vi i2) rfl (L_mv (.slice A1 n2 c3) rfl ?_))))
 have au := ab.le
 refine L_pu (P_len Try.underlying23 A1 n2 c3 ab.len rfl) (L_pu (P_cmp i2 (a.length : Int) (decide (i2 < (a.length : Int))) rfl rfl rfl) (L_nil ?_))
 refine W_cond (decide (i2 < (a.length : Int))) rfl (fun ac => ?_) (fun ac => ?_)
 ·have H := ite_t H ac
  refine W_skip (W_seq (W_block (W_seq (W_draw (fun x => Gr aa x none) (by kernel_rfl) (by kernel_rfl) (Gr.drew _) ?_))))
  refine Q_mv (.slice A1 n2 c3) rfl (Q_mv (vi i2) rfl ?_)
  obtain ⟨ai, H⟩ := H
  obtain ⟨aj, a8, av, a9, aw, ax⟩ := ab.get default (by decide) i2 ai
  obtain rfl := kPt.op aw
  refine Q_pu (P_ia Try.underlying23 se23 A1 aj n2 c3 ab.len i2 rfl av rfl ai) (Q_pu (P_lda ag83 sz83 cQ (aj.add (i2.toNat * 2)) [vi ((nth a i2).X), vi ((nth a i2).Y)] rfl rfl ax) (Q_mv (.slice A6 n7 c8) rfl (Q_mv (vi i2) rfl ?_)))
  obtain ⟨ak, H⟩ := H
  obtain ⟨al, ba, ay, bb, az, a0⟩ := ag.get default (by decide) i2 ak
  obtain rfl := kPt.op az
  refine Q_pu (P_ia Try.underlying23 se23 A6 al n7 c8 ag.len i2 rfl ay rfl ak) (Q_pu (P_lda ag83 sz83 cQ (al.add (i2.toNat * 2)) [vi ((nth b i2).X), vi ((nth b i2).Y)] rfl rfl a0) (Q_pu (P_ne _ _ (eqPt (nth a i2) (nth b i2)) (qt83 (nth a i2) (nth b i2)) rfl rfl) (Q_nil fun bc am => ?_)))
  have an := af.k0 am
  refine W_cond (!(eqPt (nth a i2) (nth b i2))) rfl (fun ah => ?_) (fun ah => ?_)
  ·have H := ite_t H ah
   exact W_seq (W_reg (L_as (vb false) rfl (L_nil (W_ret ⟨[vb false], ⟨_, rfl, rfl⟩, false, rfl, H, an.gr.g0⟩))))
  have H := ite_f H ah
  refine W_skip (W_reg (L_mv (vi i2) rfl ?_))
  obtain ⟨a1, H⟩ := H
  have a2 : I64 (i2 + 1) := i64_succ (of_decide_eq_true ac) au a1
  refine L_pu (P_add i2 1 rfl rfl a2) (L_as (vi (i2 + 1)) rfl (L_nil ?_))
  obtain ⟨a3, a4⟩ := H
  have ao := af.stn am
  exact ⟨i2 + 1, a4, a3, (hasI rfl), an, (ab.st ao), (ag.st ao)⟩
 have H := ite_f H ac
 refine W_exit (xin_hit ?_)
 exact W_seq (W_reg (L_as (vb true) rfl (L_nil (W_ret ⟨[vb true], ⟨_, rfl, rfl⟩, true, rfl, H, af.gr.g0⟩))))
end
section
open Go.RowKit
def F27.E (a : Shape) (b : Shape) (Q : Bool → Prop) : Prop :=
 (if a.Kind == b.Kind then F71.E a.Pts b.Pts (fun r => Q r) else Q false)
theorem F27.calls {O : Ob} (w0 : World) (hO : Ok w0 O) (a : Shape) (A1 : Option Addr) (n2 c3 : Nat) (hp4 : Sl kPt w0 (Fr O) (.slice A1 n2 c3) a.Pts) (b : Shape) (A6 : Option Addr) (n7 c8 : Nat) (hp9 : Sl kPt w0 (Fr O) (.slice A6 n7 c8) b.Pts) (Q : Bool → Prop) (h : F27.E a b Q) :
  Ret Try.prog 119 [.agg #[vi a.Kind, .slice A1 n2 c3], .agg #[vi b.Kind, .slice A6 n7 c8]] w0 (fun v w' => ∃ (r0 : Bool), v = vb r0 ∧ Q r0 ∧ Gr w0 w' none) := by
 unfold F27.E at h
 have H := h
 clear h
 have hc0 := Ct.init hO
 refine Ret_enter Try.func119 rfl 17 rfl [.tmp 4] rfl rfl ?_
 refine W_seq (W_reg (L_box [vi a.Kind, .slice A1 n2 c3] rfl fun au ab ai hu15 aj ak => ?_))
 have al := Fb.mk hc0.ok ai ak
 have ae := hc0.k0 aj
 refine L_box [vi b.Kind, .slice A6 n7 c8] rfl fun am ac an hu24 af ao => ?_
 have ag := Fb.mk ae.ok an ao
 have ad := ae.k0 af
 refine L_as (vb false) rfl (L_nil (W_seq (W_reg (L_pu (P_fa fa25_0 ⟨ab, 0, none⟩ ⟨ab, 0, none⟩ rfl rfl) ?_))))
 have ap := ae.stn af
 have ah := (al.st ap)
 refine L_pu (P_ld ag3 cL ⟨ab, 0, none⟩ (vi a.Kind) rfl (ah.cell rfl)) (L_pu (P_fa fa25_0 ⟨ac, 0, none⟩ ⟨ac, 0, none⟩ rfl rfl) (L_pu (P_ld ag3 cL ⟨ac, 0, none⟩ (vi b.Kind) rfl (ag.cell rfl)) (L_pu (P_cmp a.Kind b.Kind (a.Kind == b.Kind) rfl rfl rfl) (L_mv (vb (a.Kind == b.Kind)) rfl ?_))))
 rcases bool_or (a.Kind == b.Kind) with aa | aa
 ·have H := ite_t H aa
  refine L_rb aa rfl (L_pu (P_fa fa25_1 ⟨ab, 0, none⟩ ⟨ab, 1, none⟩ rfl rfl) (L_rb aa rfl (L_pu (P_ld ag23 cL ⟨ab, 1, none⟩ (.slice A1 n2 c3) rfl (ah.cell rfl)) (L_rb aa rfl (L_pu (P_fa fa25_1 ⟨ac, 0, none⟩ ⟨ac, 1, none⟩ rfl rfl) (L_rb aa rfl (L_pu (P_ld ag23 cL ⟨ac, 1, none⟩ (.slice A6 n7 c8) rfl (ag.cell rfl)) (L_rb aa rfl ?_))))))))
  refine L_call go146 [.slice A1 n2 c3, .slice A6 n7 c8] rfl ((F71.calls am ad.ok a.Pts A1 n2 c3 (hp4.st ad.st) b.Pts A6 n7 c8 (hp9.st ad.st) _ H).mono ?_)
  rintro _ av ⟨r, rfl, H, aq⟩
  have ar := ad.k0 aq
  exact L_pu (P_pick true (vb r) (by exact congrArg Value.bool aa) rfl) (L_as (vb r) rfl (L_nil (W_ret ⟨[vb r], ⟨_, rfl, rfl⟩, r, rfl, H, ar.gr.g0⟩)))
 have H := ite_f H aa
 refine L_pb aa rfl (L_pb aa rfl (L_pb aa rfl (L_pb aa rfl (L_pb aa rfl (L_pu (P_pick false (vb false) (by exact congrArg Value.bool aa) rfl) (L_as (vb false) rfl (L_nil (W_ret ?_))))))))
 exact ⟨[vb false], ⟨_, rfl, rfl⟩, false, rfl, H, ad.gr.g0⟩
end
section
open Go.RowKit
def F97.E (a : List Pt) (b : List Pt) (Q : Bool → Prop) : Prop :=
 (if decide ((a.length : Int) ≤ 12) then Q (decide ((b.length : Int) ≤ 12)) else Q false)
theorem F97.calls {O : Ob} (w0 : World) (hO : Ok w0 O) (a : List Pt) (A1 : Option Addr) (n2 c3 : Nat) (hp4 : Sl kPt w0 (Fr O) (.slice A1 n2 c3) a) (b : List Pt) (A6 : Option Addr) (n7 c8 : Nat) (hp9 : Sl kPt w0 (Fr O) (.slice A6 n7 c8) b) (Q : Bool → Prop) (h : F97.E a b Q) :
  Ret Try.prog 157 [.slice A1 n2 c3, .slice A6 n7 c8] w0 (fun v w' => ∃ (r0 : Bool), v = vb r0 ∧ Q r0 ∧ Gr w0 w' none ∧ w' = w0) := by
 unfold F97.E at h
 have H := h
 clear h
 have hc0 := Ct.init hO
 refine Ret_enter Try.func157 rfl 13 rfl [.tmp 4] rfl rfl ?_
 refine W_seq (W_reg (L_as (vb false) rfl (L_nil (W_seq (W_reg (L_mv (.slice A1 n2 c3) rfl ?_))))))
 have ab := hp4.le
 refine L_pu (P_len Try.underlying23 A1 n2 c3 hp4.len rfl) (L_pu (P_cmp (a.length : Int) 12 (decide ((a.length : Int) ≤ 12)) rfl rfl rfl) (L_mv (vb (decide ((a.length : Int) ≤ 12))) rfl ?_))
 rcases bool_or (decide ((a.length : Int) ≤ 12)) with aa | aa
 ·have H := ite_t H aa
  refine L_rb aa rfl (L_mv (.slice A6 n7 c8) rfl (L_rb aa rfl ?_))
  have ac := hp9.le
  exact L_pu (P_len Try.underlying23 A6 n7 c8 hp9.len rfl) (L_rb aa rfl (L_pu (P_cmp (b.length : Int) 12 (decide ((b.length : Int) ≤ 12)) rfl rfl rfl) (L_pu (P_pick true (vb (decide ((b.length : Int) ≤ 12))) (by exact congrArg Value.bool aa) rfl) (L_as (vb (decide ((b.length : Int) ≤ 12))) rfl (L_nil (W_ret ⟨[vb (decide ((b.length : Int) ≤ 12))], ⟨_, rfl, rfl⟩, decide ((b.length : Int) ≤ 12), rfl, H, hc0.gr.g0, rfl⟩))))))
 have H := ite_f H aa
 exact L_pb aa rfl (L_pb aa rfl (L_pb aa rfl (L_pu (P_pick false (vb false) (by exact congrArg Value.bool aa) rfl) (L_as (vb false) rfl (L_nil (W_ret ⟨[vb false], ⟨_, rfl, rfl⟩, false, rfl, H, hc0.gr.g0, rfl⟩))))))
end
section
open Go.RowKit
def F98.E (a : Int) (b : Int) (Q : Int → Prop) : Prop :=
 (if decide (a > b) then Q a else Q b)
theorem F98.calls {O : Ob} (w0 : World) (hO : Ok w0 O) (a : Int) (b : Int) (Q : Int → Prop) (h : F98.E a b Q) :
  Ret Try.prog 161 [vi a, vi b] w0 (fun v w' => ∃ (r0 : Int), v = vi r0 ∧ Q r0 ∧ Gr w0 w' none ∧ w' = w0) := by
 unfold F98.E at h
 have H := h
 clear h
 have hc0 := Ct.init hO
 refine Ret_enter Try.func161 rfl 10 rfl [.tmp 4] rfl rfl ?_
 refine W_seq (W_reg (L_as (vi 0) rfl (L_nil (W_seq (W_seq (W_reg (L_mv (vi a) rfl (L_mv (vi b) rfl ?_))))))))
 refine L_pu (P_cmp a b (decide (a > b)) rfl rfl rfl) (L_nil ?_)
 refine W_cond (decide (a > b)) rfl (fun hq1 => ?_) (fun hq1 => ?_)
 ·have H := ite_t H hq1
  exact W_seq (W_reg (L_mv (vi a) rfl (L_as (vi a) rfl (L_nil (W_ret ⟨[vi a], ⟨_, rfl, rfl⟩, a, rfl, H, hc0.gr.g0, rfl⟩)))))
 have H := ite_f H hq1
 exact W_skip (W_seq (W_reg (L_mv (vi b) rfl (L_as (vi b) rfl (L_nil (W_ret ⟨[vi b], ⟨_, rfl, rfl⟩, b, rfl, H, hc0.gr.g0, rfl⟩))))))
def F98.m (a : Int) (b : Int) : Int := (if decide (a > b) then a else b)
theorem F98.fn (a : Int) (b : Int) : F98.E a b (fun r => r = F98.m a b) := by
 unfold F98.E F98.m
 (repeat' split) <;> simp_all
end
section
open Go.RowKit
def F72.E (a : List Pt) (b : List Pt) (Q : Int → Prop) : Prop :=
 ((b.length : Int) ≤ 9223372036854775807 → I64 ((b.length : Int) + 1)) ∧ ((0 : Int) ≤ (b.length : Int) + 1 ∧ (b.length : Int) + 1 ≤ (268435456 : Int)) ∧ ((b.length : Int) ≤ 9223372036854775807 → (a.length : Int) ≤ 9223372036854775807 → I64 ((a.length : Int) - 1)) ∧ (∃ (I57 : (List Int) → Int → Prop) (mu58 : (List Int) → Int → Nat), I57 (List.replicate ((b.length : Int) + 1).toNat (0 : Int)) ((a.length : Int) - 1) ∧ ∀ (xs2 : List Int) (i2 : Int), I57 xs2 i2 → (if decide (i2 ≥ 0) then ((b.length : Int) ≤ 9223372036854775807 → I64 ((b.length : Int) + 1)) ∧ ((0 : Int) ≤ (b.length : Int) + 1 ∧ (b.length : Int) + 1 ≤ (268435456 : Int)) ∧ ((b.length : Int) ≤ 9223372036854775807 → I64 ((b.length : Int) - 1)) ∧ (∃ (I116 : (List Int) → Int → Prop) (mu117 : (List Int) → Int → Nat), I116 (List.replicate ((b.length : Int) + 1).toNat (0 : Int)) ((b.length : Int) - 1) ∧ ∀ (xs4 : List Int) (k2 : Int), I116 xs4 k2 → (if decide (k2 ≥ 0) then ((0 : Int) ≤ i2 ∧ i2 < (a.length : Int)) ∧ ((0 : Int) ≤ k2 ∧ k2 < (b.length : Int)) ∧ (if eqPt (nth a i2) (nth b k2) then (I64 (k2 + 1)) ∧ ((0 : Int) ≤ k2 + 1 ∧ k2 + 1 < (xs2.length : Int)) ∧ (I64 ((nth xs2 (k2 + 1)) + 1)) ∧ ((0 : Int) ≤ k2 ∧ k2 < (xs4.length : Int)) ∧ (I64 (k2 - 1)) ∧ I116 (xs4.set k2.toNat ((nth xs2 (k2 + 1)) + 1)) (k2 - 1) ∧ mu117 (xs4.set k2.toNat ((nth xs2 (k2 + 1)) + 1)) (k2 - 1) < mu117 xs4 k2 else ((0 : Int) ≤ k2 ∧ k2 < (xs2.length : Int)) ∧ (I64 (k2 + 1)) ∧ ((0 : Int) ≤ k2 + 1 ∧ k2 + 1 < (xs4.length : Int)) ∧ ((0 : Int) ≤ k2 ∧ k2 < (xs4.length : Int)) ∧ (I64 (k2 - 1)) ∧ I116 (xs4.set k2.toNat (F98.m (nth xs2 k2) (nth xs4 (k2 + 1)))) (k2 - 1) ∧ mu117 (xs4.set k2.toNat (F98.m (nth xs2 k2) (nth xs4 (k2 + 1)))) (k2 - 1) < mu117 xs4 k2) else (I64 (i2 - 1)) ∧ I57 xs4 (i2 - 1) ∧ mu58 xs4 (i2 - 1) < mu58 xs2 i2)) else ((0 : Int) ≤ 0 ∧ 0 < (xs2.length : Int)) ∧ Q (nth xs2 0)))
theorem F72.calls {O : Ob} (w0 : World) (hO : Ok w0 O) (a : List Pt) (A1 : Option Addr) (n2 c3 : Nat) (hp4 : Sl kPt w0 (Fr O) (.slice A1 n2 c3) a) (b : List Pt) (A6 : Option Addr) (n7 c8 : Nat) (hp9 : Sl kPt w0 (Fr O) (.slice A6 n7 c8) b) (Q : Int → Prop) (h : F72.E a b Q) :
  Ret Try.prog 158 [.slice A1 n2 c3, .slice A6 n7 c8] w0 (fun v w' => ∃ (r0 : Int), v = vi r0 ∧ Q r0 ∧ Gr w0 w' none) := by
 unfold F72.E at h
 have H := h
 clear h
 have hc0 := Ct.init hO
 refine Ret_enter Try.func158 rfl 66 rfl [.tmp 4] rfl rfl ?_
 refine W_seq (W_reg (L_as (vi 0) rfl (L_nil (W_seq (W_reg (L_mv (.slice A6 n7 c8) rfl ?_))))))
 have ba := hp9.le
 refine L_pu (P_len Try.underlying23 A6 n7 c8 hp9.len rfl) ?_
 obtain ⟨b5, H⟩ := H
 have b6 := b5 (len_le ba)
 refine L_pu (P_add (b.length : Int) 1 rfl rfl b6) ?_
 obtain ⟨b7, H⟩ := H
 refine L_make (kd := (Kd.int .i64)) ei86 hc0 (0 : Int) (rfl) ((b.length : Int) + 1) rfl rfl b7 fun d6 bb bc bd d7 hr20 aj b8 => ?_
 refine L_as (.slice bb bc bd) rfl (L_nil (W_seq (W_seq (W_reg (L_mv (.slice A1 n2 c3) rfl ?_)))))
 have b9 := (hp4.st aj.st).le
 refine L_pu (P_len Try.underlying23 A1 n2 c3 (hp4.st aj.st).len rfl) ?_
 obtain ⟨ca, H⟩ := H
 have cb := ca (len_le ba) (len_le b9)
 refine L_pu (P_sub (a.length : Int) 1 rfl rfl cb) (L_as (vi ((a.length : Int) - 1)) rfl (L_nil (W_block ?_)))
 obtain ⟨cc, cd, au, H⟩ := H
 refine W_loop (α := (List Int) × (Option Addr) × Nat × Nat × Int) (fun (sv__ : (List Int) × (Option Addr) × Nat × Nat × Int) t ak => match sv__ with | (xs2, aa, ae, af, i2) => cc xs2 i2 ∧ Has t [(0, .slice A1 n2 c3), (1, .slice A6 n7 c8), (5, .slice aa ae af), (6, vi i2)] ∧ Ct [] w0 ak [bk aa] O ∧ Sl kPt ak (Fr ([bk aa] ++ O)) (.slice A1 n2 c3) a ∧ Sl kPt ak (Fr ([bk aa] ++ O)) (.slice A6 n7 c8) b ∧ Ow (Kd.int .i64) 3 ak ([bk aa] ++ O) (.slice aa ae af) xs2) (fun (sv__ : (List Int) × (Option Addr) × Nat × Nat × Int) => match sv__ with | (xs2, _, _, _, i2) => cd xs2 i2) ((List.replicate ((b.length : Int) + 1).toNat (0 : Int)), bb, bc, bd, (a.length : Int) - 1) ⟨au, (hasI rfl), aj, (hp4.st aj.st), (hp9.st aj.st), b8⟩ ?_
 rintro ⟨xs2, aa, ae, af, i2⟩ _ ak ⟨au, ce, av, cf, ap, aw⟩
 obtain ⟨d8, rfl⟩ := Has.ins ce
 have H := H xs2 i2 au
 refine W_seq (W_seq (W_reg (L_mv (vi i2) rfl (L_pu (P_cmp i2 0 (decide (i2 ≥ 0)) rfl rfl rfl) (L_nil ?_)))))
 refine W_cond (decide (i2 ≥ 0)) rfl (fun ax => ?_) (fun ax => ?_)
 ·have H := ite_t H ax
  refine W_skip (W_seq (W_block (W_seq (W_reg (L_mv (.slice A6 n7 c8) rfl ?_)))))
  have be := ap.le
  refine L_pu (P_len Try.underlying23 A6 n7 c8 ap.len rfl) ?_
  obtain ⟨cg, H⟩ := H
  have ch := cg (len_le be)
  refine L_pu (P_add (b.length : Int) 1 rfl rfl ch) ?_
  obtain ⟨ci, H⟩ := H
  refine L_make (kd := (Kd.int .i64)) ei86 av (0 : Int) (rfl) ((b.length : Int) + 1) rfl rfl ci fun d9 ab ac ad bf hr73 cj ck => ?_
  refine L_as (.slice ab ac ad) rfl (L_nil (W_seq (W_seq (W_reg (L_mv (.slice A6 n7 c8) rfl ?_)))))
  have ay := av.stown _ bf hr73
  refine L_pu (P_len Try.underlying23 A6 n7 c8 (ap.st ay).len rfl) ?_
  obtain ⟨cl, H⟩ := H
  have cm := cl (len_le be)
  refine L_pu (P_sub (b.length : Int) 1 rfl rfl cm) (L_as (vi ((b.length : Int) - 1)) rfl (L_nil (W_block ?_)))
  obtain ⟨cn, co, az, H⟩ := H
  have cp := (aw.so _ bf hr73)
  refine W_loop (α := (List Int) × Int) (fun (sv__ : (List Int) × Int) t ag => match sv__ with | (xs4, k2) => cn xs4 k2 ∧ Has t [(0, .slice A1 n2 c3), (1, .slice A6 n7 c8), (5, .slice aa ae af), (6, vi i2), (7, .slice ab ac ad), (8, vi k2)] ∧ Ct [] w0 ag [bk ab, bk aa] O ∧ Sl kPt ag (Fr ([bk ab, bk aa] ++ O)) (.slice A1 n2 c3) a ∧ Sl kPt ag (Fr ([bk ab, bk aa] ++ O)) (.slice A6 n7 c8) b ∧ Ow (Kd.int .i64) 3 ag ([bk ab, bk aa] ++ O) (.slice aa ae af) xs2 ∧ Ow (Kd.int .i64) 3 ag ([bk ab, bk aa] ++ O) (.slice ab ac ad) xs4) (fun (sv__ : (List Int) × Int) => match sv__ with | (xs4, k2) => co xs4 k2) ((List.replicate ((b.length : Int) + 1).toNat (0 : Int)), (b.length : Int) - 1) ⟨az, (hasI rfl), cj, (cf.st ay), (ap.st ay), cp, ck⟩ ?_
  rintro ⟨xs4, k2⟩ _ ag ⟨az, cq, ai, al, am, bg, a0⟩
  obtain ⟨ea, rfl⟩ := Has.ins cq
  have H := H xs4 k2 az
  refine W_seq (W_seq (W_reg (L_mv (vi k2) rfl (L_pu (P_cmp k2 0 (decide (k2 ≥ 0)) rfl rfl rfl) (L_nil ?_)))))
  refine W_cond (decide (k2 ≥ 0)) rfl (fun a1 => ?_) (fun a1 => ?_)
  ·have H := ite_t H a1
   refine W_skip (W_seq (W_block (W_seq (W_draw (fun x => Gr ag x none) (by kernel_rfl) (by kernel_rfl) (Gr.drew _) ?_))))
   refine Q_mv (.slice A1 n2 c3) rfl (Q_mv (vi i2) rfl ?_)
   obtain ⟨bh, H⟩ := H
   obtain ⟨bi, eb, cr, ec, cs, ct⟩ := al.get default (by decide) i2 bh
   obtain rfl := kPt.op cs
   refine Q_pu (P_ia Try.underlying23 se23 A1 bi n2 c3 al.len i2 rfl cr rfl bh) (Q_pu (P_lda ag83 sz83 cQ (bi.add (i2.toNat * 2)) [vi ((nth a i2).X), vi ((nth a i2).Y)] rfl rfl ct) (Q_mv (.slice A6 n7 c8) rfl (Q_mv (vi k2) rfl ?_)))
   obtain ⟨bj, H⟩ := H
   obtain ⟨bl, ed, cu, ee, cv, cw⟩ := am.get default (by decide) k2 bj
   obtain rfl := kPt.op cv
   refine Q_pu (P_ia Try.underlying23 se23 A6 bl n7 c8 am.len k2 rfl cu rfl bj) (Q_pu (P_lda ag83 sz83 cQ (bl.add (k2.toNat * 2)) [vi ((nth b k2).X), vi ((nth b k2).Y)] rfl rfl cw) (Q_pu (P_eq _ _ (eqPt (nth a i2) (nth b k2)) (qt83 (nth a i2) (nth b k2)) rfl rfl) (Q_nil fun ef ah => ?_)))
   have an := ai.k0 ah
   refine W_cond (eqPt (nth a i2) (nth b k2)) rfl (fun a2 => ?_) (fun a2 => ?_)
   ·have H := ite_t H a2
    refine W_reg (L_mv (.slice ab ac ad) rfl (L_mv (vi k2) rfl (L_mv (.slice aa ae af) rfl (L_mv (vi k2) rfl ?_))))
    obtain ⟨cx, H⟩ := H
    refine L_pu (P_add k2 1 rfl rfl cx) ?_
    obtain ⟨bm, H⟩ := H
    have a3 := (bg.sn ah)
    obtain ⟨bn, eg, cy, cz, c0⟩ := a3.get default (by decide) (k2 + 1) bm
    obtain rfl := Kd.int.op cz
    refine L_pu (P_ia Try.underlying86 se86 aa bn ae af a3.len (k2 + 1) rfl cy rfl bm) (L_pu (P_ld ag3 cL (bn.add ((k2 + 1).toNat * 1)) (vi (nth xs2 (k2 + 1))) rfl (c0 0 _ rfl)) ?_)
    obtain ⟨c1, H⟩ := H
    refine L_pu (P_add (nth xs2 (k2 + 1)) 1 rfl rfl c1) ?_
    obtain ⟨a4, H⟩ := H
    have a5 := (a0.sn ah)
    obtain ⟨bo, eh, bp, c2, c4⟩ := a5.get default (by decide) k2 a4
    obtain rfl := Kd.int.op c2
    refine L_pu (P_ia Try.underlying86 se86 ab bo ac ad a5.len k2 rfl bp rfl a4) (L_ste0 ab ac ad xs4 a5 k2 a4 bo bp 0 rfl [vi ((nth xs2 (k2 + 1)) + 1)] rfl sz3 rfl ((nth xs2 (k2 + 1)) + 1) [vi (nth xs4 k2)] [vi ((nth xs2 (k2 + 1)) + 1)] c4 rfl rfl rfl fun ei a6 c5 => ?_)
    have c6 := an.wr 0 rfl a6
    refine L_nil (W_reg (L_mv (vi k2) rfl ?_))
    obtain ⟨c7, H⟩ := H
    refine L_pu (P_sub k2 1 rfl rfl c7) (L_as (vi (k2 - 1)) rfl (L_nil ?_))
    obtain ⟨c9, da⟩ := H
    have bq := ai.stn ah
    have br := an.stw 0 rfl a6
    have db := ((al.st bq).st br)
    have dc := ((am.st bq).st br)
    have dd := (an.sw a3 1 0 rfl rfl rfl a6)
    exact ⟨((xs4.set k2.toNat ((nth xs2 (k2 + 1)) + 1)), k2 - 1), da, c9, (hasI rfl), c6, db, dc, dd, c5⟩
   have H := ite_f H a2
   refine W_tail 13 (by kernel_rfl) (by kernel_rfl) fun de aq => ?_
   have ar := an.k0 aq
   refine S_pu (P_move (.slice ab ac ad) rfl) ?_
   refine S_pu (P_move (vi k2) rfl) ?_
   refine S_pu (P_move (.slice aa ae af) rfl) ?_
   refine S_pu (P_move (vi k2) rfl) ?_
   obtain ⟨bs, H⟩ := H
   have a7 := ((bg.sn ah).sn aq)
   obtain ⟨bt, ej, df, dg, dh⟩ := a7.get default (by decide) k2 bs
   obtain rfl := Kd.int.op dg
   refine S_pu (P_ia Try.underlying86 se86 aa bt ae af a7.len k2 rfl df rfl bs) ?_
   refine S_pu (P_ld ag3 cL (bt.add (k2.toNat * 1)) (vi (nth xs2 k2)) rfl (dh 0 _ rfl)) ?_
   refine S_pu (P_move (.slice ab ac ad) rfl) ?_
   refine S_pu (P_move (vi k2) rfl) ?_
   obtain ⟨di, H⟩ := H
   refine S_pu (P_add k2 1 rfl rfl di) ?_
   obtain ⟨bu, H⟩ := H
   have ao := ((a0.sn ah).sn aq)
   obtain ⟨bv, ek, dj, dk, dl⟩ := ao.get default (by decide) (k2 + 1) bu
   obtain rfl := Kd.int.op dk
   refine S_pu (P_ia Try.underlying86 se86 ab bv ac ad ao.len (k2 + 1) rfl dj rfl bu) ?_
   refine S_pu (P_ld ag3 cL (bv.add ((k2 + 1).toNat * 1)) (vi (nth xs4 (k2 + 1))) rfl (dl 0 _ rfl)) ?_
   refine S_call go161 [vi (nth xs2 k2), vi (nth xs4 (k2 + 1))] rfl (vi (F98.m (nth xs2 k2) (nth xs4 (k2 + 1)))) ((F98.calls de ar.ok (nth xs2 k2) (nth xs4 (k2 + 1)) _ (F98.fn (nth xs2 k2) (nth xs4 (k2 + 1)))).mono ?_) ?_
   ·rintro _ w ⟨r, rfl, rfl, _, rfl⟩
    exact ⟨rfl, rfl⟩
   obtain ⟨a8, H⟩ := H
   obtain ⟨bw, el, bx, dm, dn⟩ := ao.get default (by decide) k2 a8
   obtain rfl := Kd.int.op dm
   refine S_pu (P_ia Try.underlying86 se86 ab bw ac ad ao.len k2 rfl bx rfl a8) ?_
   refine S_nil ?_
   refine L_ste0 ab ac ad xs4 ao k2 a8 bw bx 0 rfl [vi (F98.m (nth xs2 k2) (nth xs4 (k2 + 1)))] rfl sz3 rfl (F98.m (nth xs2 k2) (nth xs4 (k2 + 1))) [vi (nth xs4 k2)] [vi (F98.m (nth xs2 k2) (nth xs4 (k2 + 1)))] dn rfl rfl rfl fun em a9 dp => ?_
   have dq := ar.wr 0 rfl a9
   refine L_nil (W_reg (L_mv (vi k2) rfl ?_))
   obtain ⟨dr, H⟩ := H
   refine L_pu (P_sub k2 1 rfl rfl dr) (L_as (vi (k2 - 1)) rfl (L_nil ?_))
   obtain ⟨ds, dt⟩ := H
   have bz := ai.stn ah
   have b0 := an.stn aq
   have b1 := ar.stw 0 rfl a9
   have du := (((al.st bz).st b0).st b1)
   have dv := (((am.st bz).st b0).st b1)
   have dw := (ar.sw a7 1 0 rfl rfl rfl a9)
   exact ⟨((xs4.set k2.toNat (F98.m (nth xs2 k2) (nth xs4 (k2 + 1)))), k2 - 1), dt, ds, (hasI rfl), dq, du, dv, dw, dp⟩
  have H := ite_f H a1
  refine W_exit (xin_hit ?_)
  refine W_reg (L_mv (.slice ab ac ad) rfl (L_as (.slice ab ac ad) rfl (L_nil (W_reg (L_mv (vi i2) rfl ?_)))))
  obtain ⟨dx, H⟩ := H
  refine L_pu (P_sub i2 1 rfl rfl dx) (L_as (vi (i2 - 1)) rfl (L_nil ?_))
  have dy := ai.drop 1 rfl
  obtain ⟨dz, d0⟩ := H
  have b2 := ai.std 1 rfl
  have d1 := (ai.sd a0 0 1 rfl rfl rfl)
  exact ⟨(xs4, ab, ac, ad, i2 - 1), d0, dz, (hasI rfl), dy, (al.st b2), (am.st b2), d1⟩
 have H := ite_f H ax
 refine W_exit (xin_hit ?_)
 refine W_seq (W_reg (L_mv (.slice aa ae af) rfl ?_))
 obtain ⟨b3, H⟩ := H
 obtain ⟨b4, en, d2, d3, d4⟩ := aw.get default (by decide) 0 b3
 obtain rfl := Kd.int.op d3
 refine L_pu (P_ia Try.underlying86 se86 aa b4 ae af aw.len 0 rfl d2 rfl b3) (L_pu (P_ld ag3 cL (b4.add ((0 : Int).toNat * 1)) (vi (nth xs2 0)) rfl (d4 0 _ rfl)) (L_as (vi (nth xs2 0)) rfl (L_nil (W_ret ?_))))
 have d5 := av.drop 0 rfl
 exact ⟨[vi (nth xs2 0)], ⟨_, rfl, rfl⟩, (nth xs2 0), rfl, H, d5.gr.g0⟩
end
section
open Go.RowKit
def F38.E (a : List Pt) (b : List Pt) (Q : List Pair → Prop) : Prop :=
 (∃ (I50 : (List Pair) → Int → Int → Prop) (mu51 : (List Pair) → Int → Int → Nat), I50 ([] : List Pair) 0 0 ∧ ∀ (xs2 : List Pair) (i2 : Int) (k2 : Int), I50 xs2 i2 k2 → (if decide (i2 < (a.length : Int)) then (if decide (k2 < (b.length : Int)) then F97.E a b (fun r => (if r then ((0 : Int) ≤ i2 ∧ i2 < (a.length : Int)) ∧ ((0 : Int) ≤ k2 ∧ k2 < (b.length : Int)) ∧ (if eqPt (nth a i2) (nth b k2) then (xs2.length + ([(⟨i2, k2⟩ : Pair)] : List Pair).length ≤ 268435456) ∧ (-9223372036854775808 ≤ i2) ∧ (-9223372036854775808 ≤ k2) ∧ I50 (xs2 ++ ([(⟨i2, k2⟩ : Pair)] : List Pair)) (i2 + 1) (k2 + 1) ∧ mu51 (xs2 ++ ([(⟨i2, k2⟩ : Pair)] : List Pair)) (i2 + 1) (k2 + 1) < mu51 xs2 i2 k2 else (-9223372036854775808 ≤ i2) ∧ ((0 : Int) ≤ i2 + 1 ∧ (i2 + 1 : Int) ≤ (a.length : Int) ∧ (a.length : Int) ≤ (a.length : Int)) ∧ ((0 : Int) ≤ k2 ∧ (k2 : Int) ≤ (b.length : Int) ∧ (b.length : Int) ≤ (b.length : Int)) ∧ (∃ q : Int, F72.E ((a.drop (i2 + 1).toNat).take ((a.length : Int).toNat - (i2 + 1).toNat)) ((b.drop k2.toNat).take ((b.length : Int).toNat - k2.toNat)) (fun x => x = q) ∧ ((0 : Int) ≤ i2 ∧ (i2 : Int) ≤ (a.length : Int) ∧ (a.length : Int) ≤ (a.length : Int)) ∧ (-9223372036854775808 ≤ k2) ∧ ((0 : Int) ≤ k2 + 1 ∧ (k2 + 1 : Int) ≤ (b.length : Int) ∧ (b.length : Int) ≤ (b.length : Int)) ∧ (∃ q2 : Int, F72.E ((a.drop i2.toNat).take ((a.length : Int).toNat - i2.toNat)) ((b.drop (k2 + 1).toNat).take ((b.length : Int).toNat - (k2 + 1).toNat)) (fun x => x = q2) ∧ (if decide (q ≥ q2) then (-9223372036854775808 ≤ i2) ∧ I50 xs2 (i2 + 1) k2 ∧ mu51 xs2 (i2 + 1) k2 < mu51 xs2 i2 k2 else (-9223372036854775808 ≤ k2) ∧ I50 xs2 i2 (k2 + 1) ∧ mu51 xs2 i2 (k2 + 1) < mu51 xs2 i2 k2)))) else Q xs2)) else Q xs2) else Q xs2))
theorem F38.calls {O : Ob} (w0 : World) (hO : Ok w0 O) (a : List Pt) (A1 : Option Addr) (n2 c3 : Nat) (hp4 : Sl kPt w0 (Fr O) (.slice A1 n2 c3) a) (b : List Pt) (A6 : Option Addr) (n7 c8 : Nat) (hp9 : Sl kPt w0 (Fr O) (.slice A6 n7 c8) b) (Q : List Pair → Prop) (h : F38.E a b Q) :
  Ret Try.prog 147 [.slice A1 n2 c3, .slice A6 n7 c8] w0 (fun v w' => ∃ (r0 : List Pair) (Aw0 : Option Addr) (nw0 cw0 : Nat), v = .slice Aw0 nw0 cw0 ∧ Q r0 ∧ Gr w0 w' none ∧ Ok w' ([bk Aw0] ++ O) ∧ (∀ b, some b ∈ [bk Aw0] → w0.heap.size ≤ b) ∧ Ow kPair 143 w' ([bk Aw0] ++ O) (.slice Aw0 nw0 cw0) r0) := by
 unfold F38.E at h
 have H := h
 clear h
 have hc0 := Ct.init hO
 refine Ret_enter Try.func147 rfl 67 rfl [.tmp 4] rfl rfl ?_
 refine W_seq (W_reg (L_as (.slice none 0 0) rfl (L_nil (W_seq (W_reg (L_lit (kd := kPair) ei115 hc0 ([] : List Pair) (cells := []) rfl (fun _ => by kernel_rfl) fun dl a2 a3 a4 dm hr16 au bz => ?_))))))
 refine L_as (.slice a2 a3 a4) rfl (L_nil (W_seq (W_reg (L_as (vi 0) rfl (L_nil (W_seq (W_reg (L_as (vi 0) rfl ?_))))))))
 refine L_nil (W_seq (W_block ?_))
 obtain ⟨b0, b1, av, H⟩ := H
 refine W_loop (α := (List Pair) × (Option Addr) × Nat × Nat × Int × Int) (fun (sv__ : (List Pair) × (Option Addr) × Nat × Nat × Int × Int) t ak => match sv__ with | (xs2, aa, ab, ac, i2, k2) => b0 xs2 i2 k2 ∧ Has t [(0, .slice A1 n2 c3), (1, .slice A6 n7 c8), (5, .slice aa ab ac), (6, vi i2), (7, vi k2)] ∧ Ct [] w0 ak [bk aa] O ∧ Sl kPt ak (Fr ([bk aa] ++ O)) (.slice A1 n2 c3) a ∧ Sl kPt ak (Fr ([bk aa] ++ O)) (.slice A6 n7 c8) b ∧ Ow kPair 143 ak ([bk aa] ++ O) (.slice aa ab ac) xs2) (fun (sv__ : (List Pair) × (Option Addr) × Nat × Nat × Int × Int) => match sv__ with | (xs2, _, _, _, i2, k2) => b1 xs2 i2 k2) (([] : List Pair), a2, a3, a4, 0, 0) ⟨av, (hasI rfl), au, (hp4.st au.st), (hp9.st au.st), bz⟩ ?_
 rintro ⟨xs2, aa, ab, ac, i2, k2⟩ _ ak ⟨av, b2, af, ah, ai, al⟩
 obtain ⟨dn, rfl⟩ := Has.ins b2
 have H := H xs2 i2 k2 av
 refine W_seq (W_seq (W_reg (L_mv (vi i2) rfl (L_mv (.slice A1 n2 c3) rfl ?_))))
 have aw := ah.le
 refine L_pu (P_len Try.underlying23 A1 n2 c3 ah.len rfl) (L_pu (P_cmp i2 (a.length : Int) (decide (i2 < (a.length : Int))) rfl rfl rfl) (L_mv (vb (decide (i2 < (a.length : Int)))) rfl ?_))
 rcases bool_or (decide (i2 < (a.length : Int))) with ad | ad
 ·have H := ite_t H ad
  refine L_rb ad rfl (L_mv (vi k2) rfl (L_rb ad rfl (L_mv (.slice A6 n7 c8) rfl (L_rb ad rfl ?_))))
  have ax := ai.le
  refine L_pu (P_len Try.underlying23 A6 n7 c8 ai.len rfl) (L_rb ad rfl (L_pu (P_cmp k2 (b.length : Int) (decide (k2 < (b.length : Int))) rfl rfl rfl) (L_pu (P_pick true (vb (decide (k2 < (b.length : Int)))) (by exact congrArg Value.bool ad) rfl) (L_mv (vb (decide (k2 < (b.length : Int)))) rfl ?_))))
  rcases bool_or (decide (k2 < (b.length : Int))) with ae | ae
  ·have H := ite_t H ae
   refine L_rb ae rfl (L_mv (.slice A1 n2 c3) rfl (L_rb ae rfl (L_mv (.slice A6 n7 c8) rfl (L_rb ae rfl ?_))))
   refine L_call go157 [.slice A1 n2 c3, .slice A6 n7 c8] rfl ((F97.calls ak af.ok a A1 n2 c3 ah b A6 n7 c8 ai _ H).mono ?_)
   rintro _ b3 ⟨r, rfl, H, am, _⟩
   have an := af.k0 am
   refine L_pu (P_pick true (vb r) (by exact congrArg Value.bool ae) rfl) (L_nil ?_)
   refine W_cond r rfl (fun ay => ?_) (fun ay => ?_)
   ·have H := ite_t H ay
    refine W_skip (W_block (W_block (W_seq (W_draw (fun x => Gr b3 x none) (by kernel_rfl) (by kernel_rfl) (Gr.drew _) ?_))))
    refine Q_mv (.slice A1 n2 c3) rfl (Q_mv (vi i2) rfl ?_)
    obtain ⟨a5, H⟩ := H
    have ag := af.stn am
    obtain ⟨a6, dp, b4, dq, b5, b6⟩ := (ah.st ag).get default (by decide) i2 a5
    obtain rfl := kPt.op b5
    refine Q_pu (P_ia Try.underlying23 se23 A1 a6 n2 c3 (ah.st ag).len i2 rfl b4 rfl a5) (Q_pu (P_lda ag83 sz83 cQ (a6.add (i2.toNat * 2)) [vi ((nth a i2).X), vi ((nth a i2).Y)] rfl rfl b6) (Q_mv (.slice A6 n7 c8) rfl (Q_mv (vi k2) rfl ?_)))
    obtain ⟨a7, H⟩ := H
    obtain ⟨a8, dr, b7, ds, b8, b9⟩ := (ai.st ag).get default (by decide) k2 a7
    obtain rfl := kPt.op b8
    refine Q_pu (P_ia Try.underlying23 se23 A6 a8 n7 c8 (ai.st ag).len k2 rfl b7 rfl a7) (Q_pu (P_lda ag83 sz83 cQ (a8.add (k2.toNat * 2)) [vi ((nth b k2).X), vi ((nth b k2).Y)] rfl rfl b9) (Q_pu (P_eq _ _ (eqPt (nth a i2) (nth b k2)) (qt83 (nth a i2) (nth b k2)) rfl rfl) (Q_as (vb (eqPt (nth a i2) (nth b k2))) rfl (Q_nil fun ca ao => ?_))))
    have aj := an.k0 ao
    refine W_cond (eqPt (nth a i2) (nth b k2)) rfl (fun az => ?_) (fun az => ?_)
    ·have H := ite_t H az
     refine W_seq (W_reg (L_mv (.slice aa ab ac) rfl (L_mv (vi i2) rfl (L_mv (vi k2) rfl (L_pu (P_build (.agg #[vi i2, vi k2]) (fun _ => by kernel_rfl)) (L_lit (kd := kPair) ei115 aj ([(⟨i2, k2⟩ : Pair)] : List Pair) (cells := [vi i2, vi k2]) ⟨[vi i2, vi k2], _, rfl, (kPair.mk _ _ (⟨i2, k2⟩ : Pair)), rfl⟩ (fun _ => by kernel_rfl) fun dt cb cc cd a9 hr92 ce cf => ?_))))))
     obtain ⟨cg, H⟩ := H
     have ch := (((al.sn am).sn ao).so _ a9 hr92)
     refine L_app ei115 ce (.slice aa ab ac) xs2 ([(⟨i2, k2⟩ : Pair)] : List Pair) rfl ch (.slice cb cc cd) rfl cf.sx 1 rfl cg fun du ba bb bc dv bd a0 ci => ?_
     refine L_as (.slice ba bb bc) rfl (L_nil (W_seq (W_reg (L_mv (vi i2) rfl ?_))))
     obtain ⟨cj, H⟩ := H
     have ck : I64 (i2 + 1) := i64_succ (of_decide_eq_true ad) aw cj
     refine L_pu (P_add i2 1 rfl rfl ck) (L_as (vi (i2 + 1)) rfl (L_nil (W_reg (L_mv (vi k2) rfl ?_))))
     obtain ⟨cl, H⟩ := H
     have cm : I64 (k2 + 1) := i64_succ (of_decide_eq_true ae) ax cl
     refine L_pu (P_add k2 1 rfl rfl cm) (L_as (vi (k2 + 1)) rfl (L_nil ?_))
     have cn := a0.drop 0 rfl
     obtain ⟨co, cp⟩ := H
     have be := an.stn ao
     have bf := aj.stown _ a9 hr92
     have bg := a0.std 0 rfl
     have cq := (((((ah.st ag).st be).st bf).st bd).st bg)
     have cr := (((((ai.st ag).st be).st bf).st bd).st bg)
     have cs := (a0.sd ci 1 0 rfl rfl rfl)
     exact ⟨((xs2 ++ ([(⟨i2, k2⟩ : Pair)] : List Pair)), ba, bb, bc, i2 + 1, k2 + 1), cp, co, (hasI rfl), cn, cq, cr, cs⟩
    have H := ite_f H az
    refine W_seq (W_draw (fun x => Gr ca x none) (by kernel_rfl) (by kernel_rfl) (Gr.drew _) ?_)
    refine Q_mv (.slice A1 n2 c3) rfl (Q_mv (vi i2) rfl ?_)
    obtain ⟨ct, H⟩ := H
    have cu : I64 (i2 + 1) := i64_succ (of_decide_eq_true ad) aw ct
    refine Q_pu (P_add i2 1 rfl rfl cu) ?_
    obtain ⟨cv, H⟩ := H
    have bh := an.stn ao
    have ap := ((ah.st ag).st bh)
    refine Q_cuts Try.underlying23 se23 A1 n2 c3 a rfl ap (i2 + 1) (a.length : Int) rfl (bd_none ap.len) cv fun bi bj bl cw => ?_
    refine Q_mv (.slice A6 n7 c8) rfl (Q_mv (vi k2) rfl ?_)
    obtain ⟨cx, H⟩ := H
    have aq := ((ai.st ag).st bh)
    refine Q_cuts Try.underlying23 se23 A6 n7 c8 b rfl aq k2 (b.length : Int) rfl (bd_none aq.len) cx fun bm bn bo cy => ?_
    obtain ⟨q, cz, H⟩ := H
    refine Q_call go158 [.slice bi bj bl, .slice bm bn bo] rfl (vi q) (fun w g => (F72.calls w (aj.k0 g).ok ((a.drop (i2 + 1).toNat).take ((a.length : Int).toNat - (i2 + 1).toNat)) bi bj bl (cw.st (.new _ g)) ((b.drop k2.toNat).take ((b.length : Int).toNat - k2.toNat)) bm bn bo (cy.st (.new _ g)) _ cz).mono ?_) ?_
    ·rintro _ w ⟨r, rfl, rfl, g2⟩
     exact ⟨rfl, Gr.t0 g g2⟩
    refine Q_mv (.slice A1 n2 c3) rfl (Q_mv (vi i2) rfl ?_)
    obtain ⟨c0, H⟩ := H
    refine Q_cuts Try.underlying23 se23 A1 n2 c3 a rfl ap i2 (a.length : Int) rfl (bd_none ap.len) c0 fun bp bq br c1 => ?_
    refine Q_mv (.slice A6 n7 c8) rfl (Q_mv (vi k2) rfl ?_)
    obtain ⟨c2, H⟩ := H
    have c4 : I64 (k2 + 1) := i64_succ (of_decide_eq_true ae) ax c2
    refine Q_pu (P_add k2 1 rfl rfl c4) ?_
    obtain ⟨c5, H⟩ := H
    refine Q_cuts Try.underlying23 se23 A6 n7 c8 b rfl aq (k2 + 1) (b.length : Int) rfl (bd_none aq.len) c5 fun bs bt bu c6 => ?_
    obtain ⟨q2, c7, H⟩ := H
    refine Q_call go158 [.slice bp bq br, .slice bs bt bu] rfl (vi q2) (fun w g => (F72.calls w (aj.k0 g).ok ((a.drop i2.toNat).take ((a.length : Int).toNat - i2.toNat)) bp bq br (c1.st (.new _ g)) ((b.drop (k2 + 1).toNat).take ((b.length : Int).toNat - (k2 + 1).toNat)) bs bt bu (c6.st (.new _ g)) _ c7).mono ?_) ?_
    ·rintro _ w ⟨r, rfl, rfl, g2⟩
     exact ⟨rfl, Gr.t0 g g2⟩
    refine Q_pu (P_cmp q q2 (decide (q ≥ q2)) rfl rfl rfl) (Q_as (vb (decide (q ≥ q2))) rfl (Q_nil fun dw ar => ?_))
    have bv := aj.k0 ar
    refine W_cond (decide (q ≥ q2)) rfl (fun a1 => ?_) (fun a1 => ?_)
    ·have H := ite_t H a1
     refine W_reg (L_mv (vi i2) rfl ?_)
     obtain ⟨c9, H⟩ := H
     have da : I64 (i2 + 1) := i64_succ (of_decide_eq_true ad) aw c9
     refine L_pu (P_add i2 1 rfl rfl da) (L_as (vi (i2 + 1)) rfl (L_nil ?_))
     obtain ⟨db, dc⟩ := H
     have bw := aj.stn ar
     have dd := (((al.sn am).sn ao).sn ar)
     exact ⟨(xs2, aa, ab, ac, i2 + 1, k2), dc, db, (hasI rfl), bv, (ap.st bw), (aq.st bw), dd⟩
    have H := ite_f H a1
    refine W_reg (L_mv (vi k2) rfl ?_)
    obtain ⟨de, H⟩ := H
    have df : I64 (k2 + 1) := i64_succ (of_decide_eq_true ae) ax de
    refine L_pu (P_add k2 1 rfl rfl df) (L_as (vi (k2 + 1)) rfl (L_nil ?_))
    obtain ⟨dg, dh⟩ := H
    have bx := aj.stn ar
    have di := (((al.sn am).sn ao).sn ar)
    exact ⟨(xs2, aa, ab, ac, i2, k2 + 1), dh, dg, (hasI rfl), bv, (ap.st bx), (aq.st bx), di⟩
   have H := ite_f H ay
   refine W_exit (xin_hit ?_)
   refine W_seq (W_reg (L_mv (.slice aa ab ac) rfl (L_as (.slice aa ab ac) rfl (L_nil (W_ret ?_)))))
   have dk := (al.sn am)
   exact ⟨[.slice aa ab ac], ⟨_, rfl, rfl⟩, xs2, aa, ab, ac, rfl, H, an.gr.g0, an.ok, an.ge, dk⟩
  have H := ite_f H ae
  refine L_pb ae rfl (L_pb ae rfl (L_pb ae rfl (L_pu (P_pick false (vb false) (by exact congrArg Value.bool ae) rfl) (L_nil (W_cf (b := false) rfl rfl ?_)))))
  refine W_exit (xin_hit ?_)
  exact W_seq (W_reg (L_mv (.slice aa ab ac) rfl (L_as (.slice aa ab ac) rfl (L_nil (W_ret ⟨[.slice aa ab ac], ⟨_, rfl, rfl⟩, xs2, aa, ab, ac, rfl, H, af.gr.g0, af.ok, af.ge, al⟩)))))
 have H := ite_f H ad
 refine L_pb ad rfl (L_pb ad rfl (L_pb ad rfl (L_pb ad rfl (L_pu (P_pick false (vb false) (by exact congrArg Value.bool ad) rfl) (L_mv (vb false) rfl (L_pass (dj := 19) rfl rfl (.inl rfl) (L_pass (dj := 19) rfl rfl (.inl rfl) (L_pass (dj := 19) rfl rfl (.inl rfl) ?_))))))))
 refine L_pu (P_pick false (vb false) (by exact congrArg Value.bool rfl) rfl) (L_nil (W_cf (b := false) rfl rfl ?_))
 refine W_exit (xin_hit ?_)
 exact W_seq (W_reg (L_mv (.slice aa ab ac) rfl (L_as (.slice aa ab ac) rfl (L_nil (W_ret ⟨[.slice aa ab ac], ⟨_, rfl, rfl⟩, xs2, aa, ab, ac, rfl, H, af.gr.g0, af.ok, af.ge, al⟩)))))
end
section
open Go.RowKit
def F108.E (p : List Pair) (a : Int) (Q : Int → Prop) : Prop :=
 (∃ (I18 : Int → Prop) (mu19 : Int → Nat), I18 0 ∧ ∀ (i2 : Int), I18 i2 → (if decide (i2 < (p.length : Int)) then ((0 : Int) ≤ i2 ∧ i2 < (p.length : Int)) ∧ (if ((nth p i2).A) == a then ((0 : Int) ≤ i2 ∧ i2 < (p.length : Int)) ∧ Q ((nth p i2).B) else (-9223372036854775808 ≤ i2) ∧ I18 (i2 + 1) ∧ mu19 (i2 + 1) < mu19 i2) else Q (-1)))
theorem F108.calls {O : Ob} (w0 : World) (hO : Ok w0 O) (p : List Pair) (A1 : Option Addr) (n2 c3 : Nat) (hp4 : Sl kPair w0 (Fr O) (.slice A1 n2 c3) p) (a : Int) (Q : Int → Prop) (h : F108.E p a Q) :
  Ret Try.prog 148 [.slice A1 n2 c3, vi a] w0 (fun v w' => ∃ (r0 : Int), v = vi r0 ∧ Q r0 ∧ Gr w0 w' none) := by
 unfold F108.E at h
 have H := h
 clear h
 have hc0 := Ct.init hO
 refine Ret_enter Try.func148 rfl 24 rfl [.tmp 4] rfl rfl ?_
 refine W_seq (W_reg (L_as (vi 0) rfl (L_nil (W_seq (W_seq (W_reg (L_as (vi 0) rfl (L_nil ?_))))))))
 refine W_block ?_
 obtain ⟨ak, al, ae, H⟩ := H
 refine W_loop (α := Int) (fun (sv__ : Int) t af => match sv__ with | i2 => ak i2 ∧ Has t [(0, .slice A1 n2 c3), (1, vi a), (5, vi i2)] ∧ Ct [] w0 af [] O ∧ Sl kPair af (Fr ([] ++ O)) (.slice A1 n2 c3) p) (fun (sv__ : Int) => match sv__ with | i2 => al i2) 0 ⟨ae, (hasI rfl), hc0, hp4⟩ ?_
 rintro i2 _ af ⟨ae, am, ag, aa⟩
 obtain ⟨a0, rfl⟩ := Has.ins am
 have H := H i2 ae
 refine W_seq (W_seq (W_reg (L_mv (vi i2) rfl (L_mv (.slice A1 n2 c3) rfl ?_))))
 have an := aa.le
 refine L_pu (P_len Try.underlying115 A1 n2 c3 aa.len rfl) (L_pu (P_cmp i2 (p.length : Int) (decide (i2 < (p.length : Int))) rfl rfl rfl) (L_nil ?_))
 refine W_cond (decide (i2 < (p.length : Int))) rfl (fun ab => ?_) (fun ab => ?_)
 ·have H := ite_t H ab
  refine W_skip (W_seq (W_block (W_seq (W_reg (L_mv (.slice A1 n2 c3) rfl (L_mv (vi i2) rfl ?_))))))
  obtain ⟨ai, H⟩ := H
  obtain ⟨ac, a1, ao, a2, ap, aq⟩ := aa.get default (by decide) i2 ai
  obtain rfl := kPair.op ap
  refine L_pu (P_ia Try.underlying115 se115 A1 ac n2 c3 aa.len i2 rfl ao rfl ai) (L_pu (P_fa fa143_0 (ac.add (i2.toNat * 2)) ((ac.add (i2.toNat * 2)).add 0) rfl rfl) (L_pu (P_ld ag3 cL ((ac.add (i2.toNat * 2)).add 0) (vi ((nth p i2).A)) rfl (aq 0 _ rfl)) (L_mv (vi a) rfl (L_pu (P_cmp ((nth p i2).A) a (((nth p i2).A) == a) rfl rfl rfl) (L_nil ?_)))))
  refine W_cond (((nth p i2).A) == a) rfl (fun ah => ?_) (fun ah => ?_)
  ·have H := ite_t H ah
   refine W_seq (W_reg (L_mv (.slice A1 n2 c3) rfl (L_mv (vi i2) rfl ?_)))
   obtain ⟨aj, H⟩ := H
   obtain ⟨ad, a3, ar, a4, au, av⟩ := aa.get default (by decide) i2 aj
   obtain rfl := kPair.op au
   exact L_pu (P_ia Try.underlying115 se115 A1 ad n2 c3 aa.len i2 rfl ar rfl aj) (L_pu (P_fa fa143_1 (ad.add (i2.toNat * 2)) ((ad.add (i2.toNat * 2)).add 1) rfl rfl) (L_pu (P_ld ag3 cL ((ad.add (i2.toNat * 2)).add 1) (vi ((nth p i2).B)) rfl (av 1 _ rfl)) (L_as (vi ((nth p i2).B)) rfl (L_nil (W_ret ⟨[vi ((nth p i2).B)], ⟨_, rfl, rfl⟩, (nth p i2).B, rfl, H, ag.gr.g0⟩)))))
  have H := ite_f H ah
  refine W_skip (W_reg (L_mv (vi i2) rfl ?_))
  obtain ⟨aw, H⟩ := H
  have ax : I64 (i2 + 1) := i64_succ (of_decide_eq_true ab) an aw
  refine L_pu (P_add i2 1 rfl rfl ax) (L_as (vi (i2 + 1)) rfl (L_nil ?_))
  obtain ⟨ay, az⟩ := H
  exact ⟨i2 + 1, az, ay, (hasI rfl), ag, aa⟩
 have H := ite_f H ab
 refine W_exit (xin_hit ?_)
 exact W_seq (W_reg (L_as (vi (-1)) rfl (L_nil (W_ret ⟨[vi (-1)], ⟨_, rfl, rfl⟩, (-1), rfl, H, ag.gr.g0⟩))))
end
section
open Go.RowKit
def F73.E (o : List Pt) (a : List Pt) (b : List Pt) (Q : List Pt → Bool → Prop) : Prop :=
 F71.E a o (fun r => (if r then Q b true else F71.E b o (fun r2 => (if r2 then Q a true else F71.E a b (fun r3 => (if r3 then Q a true else Q [] false))))))
theorem F73.calls {O : Ob} (w0 : World) (hO : Ok w0 O) (o : List Pt) (A1 : Option Addr) (n2 c3 : Nat) (hp4 : Sl kPt w0 (Fr O) (.slice A1 n2 c3) o) (a : List Pt) (A6 : Option Addr) (n7 c8 : Nat) (hp9 : Sl kPt w0 (Fr O) (.slice A6 n7 c8) a) (b : List Pt) (aa : Option Addr) (ab ac : Nat) (af : Sl kPt w0 (Fr O) (.slice aa ab ac) b) (Q : List Pt → Bool → Prop) (h : F73.E o a b Q) :
  Ret Try.prog 149 [.slice A1 n2 c3, .slice A6 n7 c8, .slice aa ab ac] w0 (fun v w' => ∃ (r0 : List Pt) (r1 : Bool) (Aw0 : Option Addr) (nw0 cw0 : Nat), v = .tuple #[.slice Aw0 nw0 cw0, vb r1] ∧ Q r0 r1 ∧ Gr w0 w' none ∧ Sl kPt w' (Fr O) (.slice Aw0 nw0 cw0) r0) := by
 unfold F73.E at h
 have H := h
 clear h
 have hc0 := Ct.init hO
 refine Ret_enter Try.func149 rfl 23 rfl [.tmp 6, .tmp 7] rfl rfl ?_
 refine W_seq (W_reg (L_as (.slice none 0 0) rfl (L_as (vb false) rfl (L_nil (W_seq (W_block (W_seq (W_reg ?_))))))))
 refine L_mv (.slice A6 n7 c8) rfl (L_mv (.slice A1 n2 c3) rfl ?_)
 refine L_call go146 [.slice A6 n7 c8, .slice A1 n2 c3] rfl ((F71.calls w0 hc0.ok a A6 n7 c8 hp9 o A1 n2 c3 hp4 _ H).mono ?_)
 rintro _ ak ⟨r, rfl, H, al⟩
 have ad := hc0.k0 al
 refine L_as (vb r) rfl (L_nil ?_)
 refine W_cond r rfl (fun ag => ?_) (fun ag => ?_)
 ·have H := ite_t H ag
  exact W_seq (W_reg (L_mv (.slice aa ab ac) rfl (L_as (.slice aa ab ac) rfl (L_as (vb true) rfl (L_nil (W_ret ⟨[.slice aa ab ac, vb true], ⟨_, rfl, ⟨_, rfl, rfl⟩⟩, b, true, aa, ab, ac, rfl, H, ad.gr.g0, (af.st ad.st)⟩))))))
 have H := ite_f H ag
 refine W_seq (W_reg (L_mv (.slice aa ab ac) rfl (L_mv (.slice A1 n2 c3) rfl ?_)))
 refine L_call go146 [.slice aa ab ac, .slice A1 n2 c3] rfl ((F71.calls ak ad.ok b aa ab ac (af.st ad.st) o A1 n2 c3 (hp4.st ad.st) _ H).mono ?_)
 rintro _ am ⟨r2, rfl, H, an⟩
 have ae := ad.k0 an
 refine L_as (vb r2) rfl (L_nil ?_)
 refine W_cond r2 rfl (fun ah => ?_) (fun ah => ?_)
 ·have H := ite_t H ah
  exact W_seq (W_reg (L_mv (.slice A6 n7 c8) rfl (L_as (.slice A6 n7 c8) rfl (L_as (vb true) rfl (L_nil (W_ret ⟨[.slice A6 n7 c8, vb true], ⟨_, rfl, ⟨_, rfl, rfl⟩⟩, a, true, A6, n7, c8, rfl, H, ae.gr.g0, (hp9.st ae.st)⟩))))))
 have H := ite_f H ah
 refine W_seq (W_reg (L_mv (.slice A6 n7 c8) rfl (L_mv (.slice aa ab ac) rfl ?_)))
 refine L_call go146 [.slice A6 n7 c8, .slice aa ab ac] rfl ((F71.calls am ae.ok a A6 n7 c8 (hp9.st ae.st) b aa ab ac (af.st ae.st) _ H).mono ?_)
 rintro _ ap ⟨r3, rfl, H, ao⟩
 have ai := ae.k0 ao
 refine L_as (vb r3) rfl (L_nil ?_)
 refine W_cond r3 rfl (fun aj => ?_) (fun aj => ?_)
 ·have H := ite_t H aj
  exact W_seq (W_reg (L_mv (.slice A6 n7 c8) rfl (L_as (.slice A6 n7 c8) rfl (L_as (vb true) rfl (L_nil (W_ret ⟨[.slice A6 n7 c8, vb true], ⟨_, rfl, ⟨_, rfl, rfl⟩⟩, a, true, A6, n7, c8, rfl, H, ai.gr.g0, (hp9.st ai.st)⟩))))))
 have H := ite_f H aj
 exact W_skip (W_seq (W_reg (L_as (.slice none 0 0) rfl (L_as (vb false) rfl (L_nil (W_ret ⟨[.slice none 0 0, vb false], ⟨_, rfl, ⟨_, rfl, rfl⟩⟩, [], false, none, 0, 0, rfl, H, ai.gr.g0, (Sl.nil _ _ _ none 0 (by decide))⟩))))))
end
section
open Go.RowKit
def F51.E (base_ : List Pt) (a : List Pt) (b : List Pt) (Q : List Pt → Bool → Prop) : Prop :=
 F38.E base_ a (fun r => F38.E base_ b (fun r2 => (∃ (I95 : (List Pt) → Int → Int → Int → Int → Prop) (mu96 : (List Pt) → Int → Int → Int → Int → Nat), I95 ([] : List Pt) 0 0 0 0 ∧ ∀ (xs2 : List Pt) (o2 : Int) (x2 : Int) (y2 : Int) (i2 : Int), I95 xs2 o2 x2 y2 i2 → (if decide (i2 ≤ (base_.length : Int)) then (if decide (i2 < (base_.length : Int)) then F108.E r i2 (fun r3 => F108.E r2 i2 (fun r4 => (if decide (r3 < 0) then (-9223372036854775808 ≤ i2) ∧ I95 xs2 o2 x2 y2 (i2 + 1) ∧ mu96 xs2 o2 x2 y2 (i2 + 1) < mu96 xs2 o2 x2 y2 i2 else (if decide (r4 < 0) then (-9223372036854775808 ≤ i2) ∧ I95 xs2 o2 x2 y2 (i2 + 1) ∧ mu96 xs2 o2 x2 y2 (i2 + 1) < mu96 xs2 o2 x2 y2 i2 else ((0 : Int) ≤ o2 ∧ (o2 : Int) ≤ i2 ∧ i2 ≤ (base_.length : Int)) ∧ ((0 : Int) ≤ x2 ∧ (x2 : Int) ≤ r3 ∧ r3 ≤ (a.length : Int)) ∧ ((0 : Int) ≤ y2 ∧ (y2 : Int) ≤ r4 ∧ r4 ≤ (b.length : Int)) ∧ F73.E ((base_.drop o2.toNat).take (i2.toNat - o2.toNat)) ((a.drop x2.toNat).take (r3.toNat - x2.toNat)) ((b.drop y2.toNat).take (r4.toNat - y2.toNat)) (fun r5 r6 => (if !r6 then Q ([] : List Pt) false else (xs2.length + r5.length ≤ 268435456) ∧ ((0 : Int) ≤ i2 ∧ i2 < (base_.length : Int)) ∧ ((xs2 ++ r5).length + ([(nth base_ i2)] : List Pt).length ≤ 268435456) ∧ (-9223372036854775808 ≤ i2) ∧ ((base_.length : Int) ≤ 9223372036854775807 → (a.length : Int) ≤ 9223372036854775807 → (b.length : Int) ≤ 9223372036854775807 → I64 (r3 + 1)) ∧ ((base_.length : Int) ≤ 9223372036854775807 → (a.length : Int) ≤ 9223372036854775807 → (b.length : Int) ≤ 9223372036854775807 → I64 (r4 + 1)) ∧ (-9223372036854775808 ≤ i2) ∧ I95 ((xs2 ++ r5) ++ ([(nth base_ i2)] : List Pt)) (i2 + 1) (r3 + 1) (r4 + 1) (i2 + 1) ∧ mu96 ((xs2 ++ r5) ++ ([(nth base_ i2)] : List Pt)) (i2 + 1) (r3 + 1) (r4 + 1) (i2 + 1) < mu96 xs2 o2 x2 y2 i2)))))) else ((0 : Int) ≤ o2 ∧ (o2 : Int) ≤ i2 ∧ i2 ≤ (base_.length : Int)) ∧ ((0 : Int) ≤ x2 ∧ (x2 : Int) ≤ (a.length : Int) ∧ (a.length : Int) ≤ (a.length : Int)) ∧ ((0 : Int) ≤ y2 ∧ (y2 : Int) ≤ (b.length : Int) ∧ (b.length : Int) ≤ (b.length : Int)) ∧ F73.E ((base_.drop o2.toNat).take (i2.toNat - o2.toNat)) ((a.drop x2.toNat).take ((a.length : Int).toNat - x2.toNat)) ((b.drop y2.toNat).take ((b.length : Int).toNat - y2.toNat)) (fun r7 r8 => (if !r8 then Q ([] : List Pt) false else (xs2.length + r7.length ≤ 268435456) ∧ ((base_.length : Int) ≤ 9223372036854775807 → (a.length : Int) ≤ 9223372036854775807 → (b.length : Int) ≤ 9223372036854775807 → I64 (i2 + 1)) ∧ ((base_.length : Int) ≤ 9223372036854775807 → (a.length : Int) ≤ 9223372036854775807 → (b.length : Int) ≤ 9223372036854775807 → I64 ((a.length : Int) + 1)) ∧ ((base_.length : Int) ≤ 9223372036854775807 → (a.length : Int) ≤ 9223372036854775807 → (b.length : Int) ≤ 9223372036854775807 → I64 ((b.length : Int) + 1)) ∧ ((base_.length : Int) ≤ 9223372036854775807 → (a.length : Int) ≤ 9223372036854775807 → (b.length : Int) ≤ 9223372036854775807 → I64 (i2 + 1)) ∧ I95 (xs2 ++ r7) (i2 + 1) ((a.length : Int) + 1) ((b.length : Int) + 1) (i2 + 1) ∧ mu96 (xs2 ++ r7) (i2 + 1) ((a.length : Int) + 1) ((b.length : Int) + 1) (i2 + 1) < mu96 xs2 o2 x2 y2 i2))) else Q xs2 true))))
theorem F51.calls {O : Ob} (w0 : World) (hO : Ok w0 O) (base_ : List Pt) (A1 : Option Addr) (n2 c3 : Nat) (hp4 : Sl kPt w0 (Fr O) (.slice A1 n2 c3) base_) (a : List Pt) (A6 : Option Addr) (n7 c8 : Nat) (hp9 : Sl kPt w0 (Fr O) (.slice A6 n7 c8) a) (b : List Pt) (ae : Option Addr) (af ag : Nat) (cl : Sl kPt w0 (Fr O) (.slice ae af ag) b) (Q : List Pt → Bool → Prop) (h : F51.E base_ a b Q) :
  Ret Try.prog 120 [.slice A1 n2 c3, .slice A6 n7 c8, .slice ae af ag] w0 (fun v w' => ∃ (r0 : List Pt) (r1 : Bool) (Aw0 : Option Addr) (nw0 cw0 : Nat), v = .tuple #[.slice Aw0 nw0 cw0, vb r1] ∧ Q r0 r1 ∧ Gr w0 w' none ∧ Ok w' ([bk Aw0] ++ O) ∧ (∀ b, some b ∈ [bk Aw0] → w0.heap.size ≤ b) ∧ Ow kPt 83 w' ([bk Aw0] ++ O) (.slice Aw0 nw0 cw0) r0) := by
 unfold F51.E at h
 have H := h
 clear h
 have hc0 := Ct.init hO
 refine Ret_enter Try.func120 rfl 91 rfl [.tmp 6, .tmp 7] rfl rfl ?_
 refine W_seq (W_reg (L_as (.slice none 0 0) rfl (L_as (vb false) rfl (L_nil (W_seq (W_reg (L_mv (.slice A1 n2 c3) rfl (L_mv (.slice A6 n7 c8) rfl ?_))))))))
 refine L_call go147 [.slice A1 n2 c3, .slice A6 n7 c8] rfl ((F38.calls w0 hc0.ok base_ A1 n2 c3 hp4 a A6 n7 c8 hp9 _ H).mono ?_)
 rintro _ du ⟨r, ab, a2, a3, rfl, H, dv, dw, dx, dy⟩
 have bo := hc0.owns dv dw dx
 refine L_as (.slice ab a2 a3) rfl (L_nil (W_seq (W_reg (L_mv (.slice A1 n2 c3) rfl (L_mv (.slice ae af ag) rfl ?_)))))
 refine L_call go147 [.slice A1 n2 c3, .slice ae af ag] rfl ((F38.calls du bo.ok base_ A1 n2 c3 (hp4.st bo.st) b ae af ag (cl.st bo.st) _ H).mono ?_)
 rintro _ g4 ⟨r2, ac, a4, a5, rfl, H, cm, dz, cn, d0⟩
 have d1 := bo.owns cm dz cn
 refine L_as (.slice ac a4 a5) rfl (L_nil (W_seq (W_reg (L_lit (kd := kPt) ei23 d1 ([] : List Pt) (cells := []) rfl (fun _ => by kernel_rfl) fun g5 co cp cq cr hr43 bp d2 => ?_))))
 refine L_as (.slice co cp cq) rfl (L_nil (W_seq (W_reg (L_as (vi 0) rfl (L_nil (W_seq (W_reg (L_as (vi 0) rfl ?_))))))))
 refine L_nil (W_seq (W_reg (L_as (vi 0) rfl (L_nil (W_seq (W_seq (W_reg (L_as (vi 0) rfl ?_))))))))
 refine L_nil (W_block ?_)
 obtain ⟨d3, d4, bv, H⟩ := H
 have d5 := ((dy.sos cm cn).so _ cr hr43)
 have d6 := (d0.so _ cr hr43)
 refine W_loop (α := (List Pt) × (Option Addr) × Nat × Nat × Int × Int × Int × Int) (fun (sv__ : (List Pt) × (Option Addr) × Nat × Nat × Int × Int × Int × Int) t ao => match sv__ with | (xs2, aa, ah, ai, o2, x2, y2, i2) => d3 xs2 o2 x2 y2 i2 ∧ Has t [(0, .slice A1 n2 c3), (1, .slice A6 n7 c8), (2, .slice ae af ag), (8, .slice ab a2 a3), (9, .slice ac a4 a5), (10, .slice aa ah ai), (11, vi o2), (12, vi x2), (13, vi y2), (14, vi i2)] ∧ Ct [] w0 ao [bk aa, bk ac, bk ab] O ∧ Sl kPt ao (Fr ([bk aa, bk ac, bk ab] ++ O)) (.slice A1 n2 c3) base_ ∧ Sl kPt ao (Fr ([bk aa, bk ac, bk ab] ++ O)) (.slice A6 n7 c8) a ∧ Sl kPt ao (Fr ([bk aa, bk ac, bk ab] ++ O)) (.slice ae af ag) b ∧ Ow kPair 143 ao ([bk aa, bk ac, bk ab] ++ O) (.slice ab a2 a3) r ∧ Ow kPair 143 ao ([bk aa, bk ac, bk ab] ++ O) (.slice ac a4 a5) r2 ∧ Ow kPt 83 ao ([bk aa, bk ac, bk ab] ++ O) (.slice aa ah ai) xs2) (fun (sv__ : (List Pt) × (Option Addr) × Nat × Nat × Int × Int × Int × Int) => match sv__ with | (xs2, _, _, _, o2, x2, y2, i2) => d4 xs2 o2 x2 y2 i2) (([] : List Pt), co, cp, cq, 0, 0, 0, 0) ⟨bv, (hasI rfl), bp, (hp4.st bp.st), (hp9.st bp.st), (cl.st bp.st), d5, d6, d2⟩ ?_
 rintro ⟨xs2, aa, ah, ai, o2, x2, y2, i2⟩ _ ao ⟨bv, d7, am, ar, au, av, be, bf, bg⟩
 obtain ⟨g6, rfl⟩ := Has.ins d7
 have H := H xs2 o2 x2 y2 i2 bv
 refine W_seq (W_seq (W_reg (L_mv (vi i2) rfl (L_mv (.slice A1 n2 c3) rfl ?_))))
 have an := ar.le
 refine L_pu (P_len Try.underlying23 A1 n2 c3 ar.len rfl) (L_pu (P_cmp i2 (base_.length : Int) (decide (i2 ≤ (base_.length : Int))) rfl rfl rfl) (L_nil ?_))
 refine W_cond (decide (i2 ≤ (base_.length : Int))) rfl (fun bw => ?_) (fun bw => ?_)
 ·have H := ite_t H bw
  refine W_skip (W_seq (W_block (W_seq (W_reg (L_mv (.slice A6 n7 c8) rfl ?_)))))
  have a6 := au.le
  refine L_pu (P_len Try.underlying23 A6 n7 c8 au.len rfl) (L_as (vi (a.length : Int)) rfl (L_nil (W_seq (W_reg (L_mv (.slice ae af ag) rfl ?_)))))
  have a7 := av.le
  refine L_pu (P_len Try.underlying23 ae af ag av.len rfl) (L_as (vi (b.length : Int)) rfl (L_nil (W_seq (W_seq (W_reg (L_mv (vi i2) rfl (L_mv (.slice A1 n2 c3) rfl (L_pu (P_len Try.underlying23 A1 n2 c3 ar.len rfl) ?_))))))))
  refine L_pu (P_cmp i2 (base_.length : Int) (decide (i2 < (base_.length : Int))) rfl rfl rfl) (L_nil ?_)
  refine W_cond (decide (i2 < (base_.length : Int))) rfl (fun ap => ?_) (fun ap => ?_)
  ·have H := ite_t H ap
   refine W_seq (W_reg (L_mv (.slice ab a2 a3) rfl (L_mv (vi i2) rfl ?_)))
   have d8 := am.gv be 2 rfl
   have d9 := am.drop 2 rfl
   refine L_call go148 [.slice ab a2 a3, vi i2] rfl ((F108.calls ao d9.ok r ab a2 a3 d8 i2 _ H).mono ?_)
   rintro _ ea ⟨r3, rfl, H, ad⟩
   have a8 := am.k0 ad
   refine L_as (vi r3) rfl (L_nil (W_seq (W_reg (L_mv (.slice ac a4 a5) rfl (L_mv (vi i2) rfl ?_)))))
   have eb := (bf.sn ad)
   have ec := a8.gv eb 1 rfl
   have ed := a8.drop 1 rfl
   refine L_call go148 [.slice ac a4 a5, vi i2] rfl ((F108.calls ea ed.ok r2 ac a4 a5 ec i2 _ H).mono ?_)
   rintro _ g7 ⟨r4, rfl, H, aj⟩
   have bq := a8.k0 aj
   refine L_as (vi r4) rfl (L_nil (W_seq (W_reg (L_mv (vi r3) rfl (L_pu (P_cmp r3 0 (decide (r3 < 0)) rfl rfl rfl) (L_mv (vb (decide (r3 < 0))) rfl ?_))))))
   rcases bool_or (decide (r3 < 0)) with aq | aq
   ·have H := ite_t H aq
    refine L_pb aq rfl (L_pb aq rfl (L_pu (P_pick true (vb true) (by exact congrArg Value.bool aq) rfl) (L_nil (W_ct (b := true) rfl rfl ?_))))
    refine W_exit (xin_hit ?_)
    refine W_reg (L_mv (vi i2) rfl ?_)
    obtain ⟨ee, H⟩ := H
    have ef : I64 (i2 + 1) := i64_succ (of_decide_eq_true ap) an ee
    refine L_pu (P_add i2 1 rfl rfl ef) (L_as (vi (i2 + 1)) rfl (L_nil ?_))
    obtain ⟨eg, eh⟩ := H
    have bx := am.stn ad
    have bz := a8.stn aj
    have ei := ((ar.st bx).st bz)
    have ej := ((au.st bx).st bz)
    have ek := ((av.st bx).st bz)
    have el := ((be.sn ad).sn aj)
    have em := ((bf.sn ad).sn aj)
    have en := ((bg.sn ad).sn aj)
    exact ⟨(xs2, aa, ah, ai, o2, x2, y2, i2 + 1), eh, eg, (hasI rfl), bq, ei, ej, ek, el, em, en⟩
   have H := ite_f H aq
   refine L_rb aq rfl (L_mv (vi r4) rfl (L_rb aq rfl (L_pu (P_cmp r4 0 (decide (r4 < 0)) rfl rfl rfl) (L_pu (P_pick false (vb (decide (r4 < 0))) (by exact congrArg Value.bool aq) rfl) (L_nil ?_)))))
   refine W_cond (decide (r4 < 0)) rfl (fun b0 => ?_) (fun b0 => ?_)
   ·have H := ite_t H b0
    refine W_exit (xin_hit ?_)
    refine W_reg (L_mv (vi i2) rfl ?_)
    obtain ⟨eo, H⟩ := H
    have ep : I64 (i2 + 1) := i64_succ (of_decide_eq_true ap) an eo
    refine L_pu (P_add i2 1 rfl rfl ep) (L_as (vi (i2 + 1)) rfl (L_nil ?_))
    obtain ⟨eq, er⟩ := H
    have b1 := am.stn ad
    have b2 := a8.stn aj
    have es := ((ar.st b1).st b2)
    have et := ((au.st b1).st b2)
    have eu := ((av.st b1).st b2)
    have ev := ((be.sn ad).sn aj)
    have ew := ((bf.sn ad).sn aj)
    have ex := ((bg.sn ad).sn aj)
    exact ⟨(xs2, aa, ah, ai, o2, x2, y2, i2 + 1), er, eq, (hasI rfl), bq, es, et, eu, ev, ew, ex⟩
   have H := ite_f H b0
   refine W_skip (W_seq (W_mixr 18 [] (by kernel_rfl) rfl fun ey bh ak => ?_))
   have b3 := bq.k0 bh
   refine M_pu 0 rfl (by kernel_rfl) ak (P_move (.slice A1 n2 c3) rfl) ?_
   refine M_pu 1 rfl (by kernel_rfl) ak (P_move (vi o2) rfl) ?_
   refine M_pu 2 rfl (by kernel_rfl) ak (P_move (vi i2) rfl) ?_
   obtain ⟨ez, H⟩ := H
   have b4 := am.stn ad
   have b5 := a8.stn aj
   have b6 := bq.stn bh
   have cs := (((ar.st b4).st b5).st b6)
   refine M_cuts 3 rfl (by kernel_rfl) ak Try.underlying23 se23 A1 n2 c3 base_ rfl cs o2 i2 rfl rfl ez fun ct cu cv e0 => ?_
   refine M_pu 4 rfl (by kernel_rfl) ak (P_move (.slice A6 n7 c8) rfl) ?_
   refine M_pu 5 rfl (by kernel_rfl) ak (P_move (vi x2) rfl) ?_
   refine M_pu 6 rfl (by kernel_rfl) ak (P_move (vi r3) rfl) ?_
   obtain ⟨e1, H⟩ := H
   have cw := (((au.st b4).st b5).st b6)
   refine M_cuts 7 rfl (by kernel_rfl) ak Try.underlying23 se23 A6 n7 c8 a rfl cw x2 r3 rfl rfl e1 fun cx cy cz e2 => ?_
   refine M_pu 8 rfl (by kernel_rfl) ak (P_move (.slice ae af ag) rfl) ?_
   refine M_pu 9 rfl (by kernel_rfl) ak (P_move (vi y2) rfl) ?_
   refine M_pu 10 rfl (by kernel_rfl) ak (P_move (vi r4) rfl) ?_
   obtain ⟨e3, H⟩ := H
   have c0 := (((av.st b4).st b5).st b6)
   refine M_cuts 11 rfl (by kernel_rfl) ak Try.underlying23 se23 ae af ag b rfl c0 y2 r4 rfl rfl e3 fun c1 c2 c4 e4 => ?_
   refine M_any1 12 (by kernel_rfl) rfl ?_
   refine L_call go149 [.slice ct cu cv, .slice cx cy cz, .slice c1 c2 c4] rfl ((F73.calls ey b3.ok ((base_.drop o2.toNat).take (i2.toNat - o2.toNat)) ct cu cv e0 ((a.drop x2.toNat).take (r3.toNat - x2.toNat)) cx cy cz e2 ((b.drop y2.toNat).take (r4.toNat - y2.toNat)) c1 c2 c4 e4 _ H).mono ?_)
   rintro _ e5 ⟨r5, r6, aw, ax, ay, rfl, H, a9, e6⟩
   have br := b3.k0 a9
   have ba := Gm.tm ak a9
   refine L_nil ⟨ba, ?_⟩
   refine M_pu 13 rfl (by kernel_rfl) ba (P_move (.tuple #[.slice aw ax ay, vb r6]) rfl) ?_
   refine M_pu 14 rfl (by kernel_rfl) ba (P_ext [.slice aw ax ay, vb r6] 0 (.slice aw ax ay) rfl rfl) ?_
   refine M_pu 15 rfl (by kernel_rfl) ba (P_ext [.slice aw ax ay, vb r6] 1 (vb r6) rfl rfl) ?_
   refine M_pu 16 rfl (by kernel_rfl) ba (P_assign (.slice aw ax ay) rfl) ?_
   refine M_pu 17 rfl (by kernel_rfl) ba (P_assign (vb r6) rfl) ?_
   refine M_nil (by kernel_rfl) ?_
   refine W_seq (W_seq (W_reg (L_mv (vb r6) rfl (L_pu (P_not r6 rfl) (L_nil ?_)))))
   refine W_cond (!r6) rfl (fun b7 => ?_) (fun b7 => ?_)
   ·have H := ite_t H b7
    refine W_seq ?_
    have e7 : ([bk aa, bk ac, bk ab] : Ob).Perm ((bk aa :: bk ac :: bk ab :: []) ++ []) := (pc fun a => by (try simp only [pca, pcc, pcn, Nat.add_zero, Nat.zero_add]); first | done | ac_rfl)
    have e8 := br.drops e7
    refine W_reg (L_as (.slice none 0 0) rfl (L_as (vb false) rfl (L_nil (W_ret ?_))))
    have b8 := e8.own (Gr.refl _ none) none (by simp)
    have e9 : Ow kPt 83 e5 ([bk none] ++ O) (.slice none 0 0) [] := Ow.nil _ _ _ _
    exact ⟨[.slice none 0 0, vb false], ⟨_, rfl, ⟨_, rfl, rfl⟩⟩, ([] : List Pt), false, none, 0, 0, rfl, H, b8.gr.g0, b8.ok, b8.ge, e9⟩
   have H := ite_f H b7
   refine W_skip (W_seq (W_reg (L_mv (.slice aa ah ai) rfl (L_mv (.slice aw ax ay) rfl ?_))))
   obtain ⟨fa, H⟩ := H
   have fb := ((((bg.sn ad).sn aj).sn bh).sn a9)
   refine L_app ei23 br (.slice aa ah ai) xs2 r5 rfl fb (.slice aw ax ay) rfl e6.sx 0 rfl fa fun g8 b9 ca cb c5 bi c6 fc => ?_
   refine L_as (.slice b9 ca cb) rfl (L_nil (W_seq (W_seq (W_reg (L_mv (vi i2) rfl (L_mv (.slice A1 n2 c3) rfl ?_))))))
   have cc := b3.stn a9
   have bs := ((cs.st cc).st bi)
   refine L_pu (P_len Try.underlying23 A1 n2 c3 bs.len rfl) (L_pu (P_cmp i2 (base_.length : Int) (decide (i2 < (base_.length : Int))) rfl rfl rfl) (L_nil (W_ct (b := decide (i2 < (base_.length : Int))) rfl ap ?_)))
   refine W_reg (L_mv (.slice b9 ca cb) rfl (L_mv (.slice A1 n2 c3) rfl (L_mv (vi i2) rfl ?_)))
   obtain ⟨c7, H⟩ := H
   obtain ⟨c9, g9, fd, ha, fe, ff⟩ := bs.get default (by decide) i2 c7
   obtain rfl := kPt.op fe
   refine L_pu (P_ia Try.underlying23 se23 A1 c9 n2 c3 bs.len i2 rfl fd rfl c7) (L_pu (P_lda ag83 sz83 cL (c9.add (i2.toNat * 2)) [vi ((nth base_ i2).X), vi ((nth base_ i2).Y)] rfl rfl ff) (L_lit (kd := kPt) ei23 c6 ([(nth base_ i2)] : List Pt) (cells := [vi ((nth base_ i2).X), vi ((nth base_ i2).Y)]) ⟨[vi ((nth base_ i2).X), vi ((nth base_ i2).Y)], _, rfl, (kPt.mk _ _ (nth base_ i2)), rfl⟩ (fun _ => by kernel_rfl) fun hb fg fh fi bt hr224 cd fj => ?_))
   obtain ⟨fk, H⟩ := H
   have fl := (fc.so _ bt hr224)
   refine L_app ei23 cd (.slice b9 ca cb) (xs2 ++ r5) ([(nth base_ i2)] : List Pt) rfl fl (.slice fg fh fi) rfl fj.sx 1 rfl fk fun hc da db dc dd bj bl fm => ?_
   refine L_as (.slice da db dc) rfl (L_nil (W_seq (W_reg (L_mv (vi i2) rfl ?_))))
   obtain ⟨fn, H⟩ := H
   have fo : I64 (i2 + 1) := i64_succ (of_decide_eq_true ap) an fn
   refine L_pu (P_add i2 1 rfl rfl fo) (L_as (vi (i2 + 1)) rfl (L_nil (W_seq (W_reg (L_mv (vi r3) rfl ?_)))))
   obtain ⟨fp, H⟩ := H
   have fq := fp (len_le an) (len_le a6) (len_le a7)
   refine L_pu (P_add r3 1 rfl rfl fq) (L_as (vi (r3 + 1)) rfl (L_nil (W_reg (L_mv (vi r4) rfl ?_))))
   obtain ⟨fr, H⟩ := H
   have fs := fr (len_le an) (len_le a6) (len_le a7)
   refine L_pu (P_add r4 1 rfl rfl fs) (L_as (vi (r4 + 1)) rfl (L_nil (W_reg (L_mv (vi i2) rfl ?_))))
   obtain ⟨ft, H⟩ := H
   have fu : I64 (i2 + 1) := i64_succ (of_decide_eq_true ap) an ft
   refine L_pu (P_add i2 1 rfl rfl fu) (L_as (vi (i2 + 1)) rfl (L_nil ?_))
   have fv := bl.drop 0 rfl
   obtain ⟨fw, fx⟩ := H
   have ce := c6.stown _ bt hr224
   have cf := bl.std 0 rfl
   have fy := (((bs.st ce).st bj).st cf)
   have fz := (((((cw.st cc).st bi).st ce).st bj).st cf)
   have f0 := (((((c0.st cc).st bi).st ce).st bj).st cf)
   have f1 := (bl.sd (cd.sm ((br.sm ((((be.sn ad).sn aj).sn bh).sn a9) 2 0 rfl rfl rfl c5 bi).so _ bt hr224) 3 1 rfl rfl rfl dd bj) 3 0 rfl rfl rfl)
   have f2 := (bl.sd (cd.sm ((br.sm ((((bf.sn ad).sn aj).sn bh).sn a9) 1 0 rfl rfl rfl c5 bi).so _ bt hr224) 2 1 rfl rfl rfl dd bj) 2 0 rfl rfl rfl)
   have f3 := (bl.sd fm 1 0 rfl rfl rfl)
   exact ⟨(((xs2 ++ r5) ++ ([(nth base_ i2)] : List Pt)), da, db, dc, i2 + 1, r3 + 1, r4 + 1, i2 + 1), fx, fw, (hasI rfl), fv, fy, fz, f0, f1, f2, f3⟩
  have H := ite_f H ap
  refine W_skip (W_seq (W_mixr 18 [] (by kernel_rfl) rfl fun f4 bm al => ?_))
  have cg := am.k0 bm
  refine M_pu 0 rfl (by kernel_rfl) al (P_move (.slice A1 n2 c3) rfl) ?_
  refine M_pu 1 rfl (by kernel_rfl) al (P_move (vi o2) rfl) ?_
  refine M_pu 2 rfl (by kernel_rfl) al (P_move (vi i2) rfl) ?_
  obtain ⟨f5, H⟩ := H
  have bb := am.stn bm
  refine M_cuts 3 rfl (by kernel_rfl) al Try.underlying23 se23 A1 n2 c3 base_ rfl (ar.st bb) o2 i2 rfl rfl f5 fun de df dg f6 => ?_
  refine M_pu 4 rfl (by kernel_rfl) al (P_move (.slice A6 n7 c8) rfl) ?_
  refine M_pu 5 rfl (by kernel_rfl) al (P_move (vi x2) rfl) ?_
  refine M_pu 6 rfl (by kernel_rfl) al (P_move (vi (a.length : Int)) rfl) ?_
  obtain ⟨f7, H⟩ := H
  refine M_cuts 7 rfl (by kernel_rfl) al Try.underlying23 se23 A6 n7 c8 a rfl (au.st bb) x2 (a.length : Int) rfl rfl f7 fun dh di dj f8 => ?_
  refine M_pu 8 rfl (by kernel_rfl) al (P_move (.slice ae af ag) rfl) ?_
  refine M_pu 9 rfl (by kernel_rfl) al (P_move (vi y2) rfl) ?_
  refine M_pu 10 rfl (by kernel_rfl) al (P_move (vi (b.length : Int)) rfl) ?_
  obtain ⟨f9, H⟩ := H
  refine M_cuts 11 rfl (by kernel_rfl) al Try.underlying23 se23 ae af ag b rfl (av.st bb) y2 (b.length : Int) rfl rfl f9 fun dk dl dm ga => ?_
  refine M_any1 12 (by kernel_rfl) rfl ?_
  refine L_call go149 [.slice de df dg, .slice dh di dj, .slice dk dl dm] rfl ((F73.calls f4 cg.ok ((base_.drop o2.toNat).take (i2.toNat - o2.toNat)) de df dg f6 ((a.drop x2.toNat).take ((a.length : Int).toNat - x2.toNat)) dh di dj f8 ((b.drop y2.toNat).take ((b.length : Int).toNat - y2.toNat)) dk dl dm ga _ H).mono ?_)
  rintro _ gb ⟨r7, r8, az, a0, a1, rfl, H, bc, gc⟩
  have bu := cg.k0 bc
  have bd := Gm.tm al bc
  refine L_nil ⟨bd, ?_⟩
  refine M_pu 13 rfl (by kernel_rfl) bd (P_move (.tuple #[.slice az a0 a1, vb r8]) rfl) ?_
  refine M_pu 14 rfl (by kernel_rfl) bd (P_ext [.slice az a0 a1, vb r8] 0 (.slice az a0 a1) rfl rfl) ?_
  refine M_pu 15 rfl (by kernel_rfl) bd (P_ext [.slice az a0 a1, vb r8] 1 (vb r8) rfl rfl) ?_
  refine M_pu 16 rfl (by kernel_rfl) bd (P_assign (.slice az a0 a1) rfl) ?_
  refine M_pu 17 rfl (by kernel_rfl) bd (P_assign (vb r8) rfl) ?_
  refine M_nil (by kernel_rfl) ?_
  refine W_seq (W_seq (W_reg (L_mv (vb r8) rfl (L_pu (P_not r8 rfl) (L_nil ?_)))))
  refine W_cond (!r8) rfl (fun ch => ?_) (fun ch => ?_)
  ·have H := ite_t H ch
   refine W_seq ?_
   have gd : ([bk aa, bk ac, bk ab] : Ob).Perm ((bk aa :: bk ac :: bk ab :: []) ++ []) := (pc fun a => by (try simp only [pca, pcc, pcn, Nat.add_zero, Nat.zero_add]); first | done | ac_rfl)
   have gf := bu.drops gd
   refine W_reg (L_as (.slice none 0 0) rfl (L_as (vb false) rfl (L_nil (W_ret ?_))))
   have ci := gf.own (Gr.refl _ none) none (by simp)
   have gg : Ow kPt 83 gb ([bk none] ++ O) (.slice none 0 0) [] := Ow.nil _ _ _ _
   exact ⟨[.slice none 0 0, vb false], ⟨_, rfl, ⟨_, rfl, rfl⟩⟩, ([] : List Pt), false, none, 0, 0, rfl, H, ci.gr.g0, ci.ok, ci.ge, gg⟩
  have H := ite_f H ch
  refine W_skip (W_seq (W_reg (L_mv (.slice aa ah ai) rfl (L_mv (.slice az a0 a1) rfl ?_))))
  obtain ⟨gh, H⟩ := H
  have gi := ((bg.sn bm).sn bc)
  refine L_app ei23 bu (.slice aa ah ai) xs2 r7 rfl gi (.slice az a0 a1) rfl gc.sx 0 rfl gh fun hd dn dp dq dr bn gj gk => ?_
  refine L_as (.slice dn dp dq) rfl (L_nil (W_seq (W_seq (W_reg (L_mv (vi i2) rfl (L_mv (.slice A1 n2 c3) rfl ?_))))))
  have cj := cg.stn bc
  have ds := (((ar.st bb).st cj).st bn)
  refine L_pu (P_len Try.underlying23 A1 n2 c3 ds.len rfl) (L_pu (P_cmp i2 (base_.length : Int) (decide (i2 < (base_.length : Int))) rfl rfl rfl) (L_nil (W_cf (b := decide (i2 < (base_.length : Int))) rfl ap ?_)))
  refine W_skip (W_seq (W_reg (L_mv (vi i2) rfl ?_)))
  obtain ⟨gl, H⟩ := H
  have gm := gl (len_le an) (len_le a6) (len_le a7)
  refine L_pu (P_add i2 1 rfl rfl gm) (L_as (vi (i2 + 1)) rfl (L_nil (W_seq (W_reg (L_mv (vi (a.length : Int)) rfl ?_)))))
  obtain ⟨gn, H⟩ := H
  have gp := gn (len_le an) (len_le a6) (len_le a7)
  refine L_pu (P_add (a.length : Int) 1 rfl rfl gp) (L_as (vi ((a.length : Int) + 1)) rfl (L_nil (W_reg (L_mv (vi (b.length : Int)) rfl ?_))))
  obtain ⟨gq, H⟩ := H
  have gs := gq (len_le an) (len_le a6) (len_le a7)
  refine L_pu (P_add (b.length : Int) 1 rfl rfl gs) (L_as (vi ((b.length : Int) + 1)) rfl (L_nil (W_reg (L_mv (vi i2) rfl ?_))))
  obtain ⟨gt, H⟩ := H
  have gu := gt (len_le an) (len_le a6) (len_le a7)
  refine L_pu (P_add i2 1 rfl rfl gu) (L_as (vi (i2 + 1)) rfl (L_nil ?_))
  obtain ⟨gw, gx⟩ := H
  have gy := (((au.st bb).st cj).st bn)
  have gz := (((av.st bb).st cj).st bn)
  have g1 := (bu.sm ((be.sn bm).sn bc) 2 0 rfl rfl rfl dr bn)
  have g2 := (bu.sm ((bf.sn bm).sn bc) 1 0 rfl rfl rfl dr bn)
  exact ⟨((xs2 ++ r7), dn, dp, dq, i2 + 1, (a.length : Int) + 1, (b.length : Int) + 1, i2 + 1), gx, gw, (hasI rfl), gj, ds, gy, gz, g1, g2, gk⟩
 have H := ite_f H bw
 refine W_exit (xin_hit ?_)
 refine W_seq (W_reg (L_mv (.slice aa ah ai) rfl (L_as (.slice aa ah ai) rfl (L_as (vb true) rfl (L_nil (W_ret ?_))))))
 have dt := am.drop 1 rfl
 have ck := dt.drop 1 rfl
 have g3 := (dt.sd (am.sd bg 0 1 rfl rfl rfl) 0 1 rfl rfl rfl)
 exact ⟨[.slice aa ah ai, vb true], ⟨_, rfl, ⟨_, rfl, rfl⟩⟩, xs2, true, aa, ah, ai, rfl, H, ck.gr.g0, ck.ok, ck.ge, g3⟩
end
section
open Go.RowKit
def F52.E (o : Shape) (a : Shape) (b : Shape) (Q : Shape → Bool → Prop) : Prop :=
 F27.E a o (fun r => (if r then Q b true else F27.E b o (fun r2 => (if r2 then Q a true else F27.E a b (fun r3 => (if r3 then Q a true else (if a.Kind != b.Kind then Q a false else (if a.Kind != o.Kind then Q a false else F51.E o.Pts a.Pts b.Pts (fun r4 r5 => (if !r5 then Q a false else F45.E (⟨a.Kind, r4⟩ : Shape) (fun r6 => (if !r6 then Q a false else Q (⟨a.Kind, r4⟩ : Shape) true))))))))))))
theorem F52.calls {O : Ob} (w0 : World) (hO : Ok w0 O) (o : Shape) (A1 : Option Addr) (n2 c3 : Nat) (hp4 : Sl kPt w0 (Fr O) (.slice A1 n2 c3) o.Pts) (a : Shape) (A6 : Option Addr) (n7 c8 : Nat) (hp9 : Sl kPt w0 (Fr O) (.slice A6 n7 c8) a.Pts) (b : Shape) (ab : Option Addr) (ac ad : Nat) (a5 : Sl kPt w0 (Fr O) (.slice ab ac ad) b.Pts) (Q : Shape → Bool → Prop) (h : F52.E o a b Q) :
  Ret Try.prog 86 [.agg #[vi o.Kind, .slice A1 n2 c3], .agg #[vi a.Kind, .slice A6 n7 c8], .agg #[vi b.Kind, .slice ab ac ad]] w0 (fun v w' => ∃ (r0 : Shape) (r1 : Bool) (Aw0 : Option Addr) (nw0 cw0 : Nat), v = .tuple #[.agg #[vi r0.Kind, .slice Aw0 nw0 cw0], vb r1] ∧ Q r0 r1 ∧ Gr w0 w' none ∧ Sl kPt w' (Fr O) (.slice Aw0 nw0 cw0) r0.Pts) := by
 unfold F52.E at h
 have H := h
 clear h
 have hc0 := Ct.init hO
 refine Ret_enter Try.func86 rfl 63 rfl [.cell 6 25, .tmp 7] rfl rfl ?_
 refine W_seq (W_reg (L_box [vi o.Kind, .slice A1 n2 c3] rfl fun ev aq co hu20 cp cq => ?_))
 have cr := Fb.mk hc0.ok co cq
 have a9 := hc0.k0 cp
 refine L_box [vi a.Kind, .slice A6 n7 c8] rfl fun ew aa cs hu29 bq ct => ?_
 have cu := Fb.mk a9.ok cs ct
 have ba := a9.k0 bq
 refine L_box [vi b.Kind, .slice ab ac ad] rfl fun ex am cv hu38 br cw => ?_
 have bs := Fb.mk ba.ok cv cw
 have bt := ba.k0 br
 refine L_alloc [.int .i64 0, .slice none 0 0] ze25 fun cx an bu hu47 bv ar => ?_
 have az := bt.own bv (some an) (oglt bu hu47)
 refine L_as (vb false) rfl (L_nil (W_seq (W_block (W_seq (W_reg ?_)))))
 have bw := ba.stn br
 have a6 := bt.stown _ bv (oge bu)
 have bb := ((cu.st bw).st a6)
 refine L_pu (P_lda ag25 sz25 cL ⟨aa, 0, none⟩ [vi a.Kind, .slice A6 n7 c8] rfl rfl (bb.cells (off := 0) rfl)) ?_
 have cy := a9.stn bq
 have bx := (((cr.st cy).st bw).st a6)
 refine L_pu (P_lda ag25 sz25 cL ⟨aq, 0, none⟩ [vi o.Kind, .slice A1 n2 c3] rfl rfl (bx.cells (off := 0) rfl)) ?_
 refine L_call go119 [.agg #[vi a.Kind, .slice A6 n7 c8], .agg #[vi o.Kind, .slice A1 n2 c3]] rfl ((F27.calls cx az.ok a A6 n7 c8 (hp9.st az.st) o A1 n2 c3 (hp4.st az.st) _ H).mono ?_)
 rintro _ cz ⟨r, rfl, H, ai⟩
 have ax := az.k0 ai
 refine L_as (vb r) rfl (L_nil ?_)
 refine W_cond r rfl (fun bc => ?_) (fun bc => ?_)
 ·have H := ite_t H bc
  refine W_seq (W_reg ?_)
  have c0 := az.stn ai
  have c1 := ((bs.st a6).st c0)
  refine L_pu (P_lda ag25 sz25 cL ⟨am, 0, none⟩ [vi b.Kind, .slice ab ac ad] rfl rfl (c1.cells (off := 0) rfl)) ?_
  have c2 := (ar.k0 ai)
  refine L_stb an 0 [vi 0, .slice none 0 0] [vi b.Kind, .slice ab ac ad] [vi b.Kind, .slice ab ac ad] rfl c2 rfl sz25 rfl rfl rfl fun ey c4 c5 => ?_
  have bz := ax.wr 0 rfl c4
  refine L_as (vb true) rfl (L_nil (W_ret ?_))
  have c6 := bz.bgv c5 0 rfl
  have b0 := bz.drop 0 rfl
  exact ⟨[.agg #[vi b.Kind, .slice ab ac ad], vb true], ⟨_, _, rfl, c6.1.res rfl ag25 sz25, ⟨_, rfl, rfl⟩⟩, b, true, ab, ac, ad, rfl, H, b0.gr.g0, (a5.st b0.st)⟩
 have H := ite_f H bc
 refine W_seq (W_reg ?_)
 have a7 := az.stn ai
 have b1 := ((bs.st a6).st a7)
 refine L_pu (P_lda ag25 sz25 cL ⟨am, 0, none⟩ [vi b.Kind, .slice ab ac ad] rfl rfl (b1.cells (off := 0) rfl)) ?_
 have b2 := (bx.st a7)
 refine L_pu (P_lda ag25 sz25 cL ⟨aq, 0, none⟩ [vi o.Kind, .slice A1 n2 c3] rfl rfl (b2.cells (off := 0) rfl)) ?_
 refine L_call go119 [.agg #[vi b.Kind, .slice ab ac ad], .agg #[vi o.Kind, .slice A1 n2 c3]] rfl ((F27.calls cz ax.ok b ab ac ad (a5.st ax.st) o A1 n2 c3 (hp4.st ax.st) _ H).mono ?_)
 rintro _ c7 ⟨r2, rfl, H, al⟩
 have ay := ax.k0 al
 refine L_mv (vb r2) rfl ?_
 rcases bool_or r2 with aj | aj
 ·have H := ite_t H aj
  refine L_pb aj rfl (L_pb aj rfl (L_pb aj rfl (L_pu (P_pick true (vb true) (by exact congrArg Value.bool aj) rfl) (L_as (vb true) rfl (L_nil (W_ct (b := true) rfl rfl ?_))))))
  refine W_seq (W_reg ?_)
  have c9 := ax.stn al
  have da := ((bb.st a7).st c9)
  refine L_pu (P_lda ag25 sz25 cL ⟨aa, 0, none⟩ [vi a.Kind, .slice A6 n7 c8] rfl rfl (da.cells (off := 0) rfl)) ?_
  have db := ((ar.k0 ai).k0 al)
  refine L_stb an 0 [vi 0, .slice none 0 0] [vi a.Kind, .slice A6 n7 c8] [vi a.Kind, .slice A6 n7 c8] rfl db rfl sz25 rfl rfl rfl fun ez dc dd => ?_
  have b3 := ay.wr 0 rfl dc
  refine L_as (vb true) rfl (L_nil (W_ret ?_))
  have de := b3.bgv dd 0 rfl
  have b4 := b3.drop 0 rfl
  exact ⟨[.agg #[vi a.Kind, .slice A6 n7 c8], vb true], ⟨_, _, rfl, de.1.res rfl ag25 sz25, ⟨_, rfl, rfl⟩⟩, a, true, A6, n7, c8, rfl, H, b4.gr.g0, (hp9.st b4.st)⟩
 have H := ite_f H aj
 refine L_rb aj rfl ?_
 have bd := ax.stn al
 have be := ((bb.st a7).st bd)
 refine L_pu (P_lda ag25 sz25 cL ⟨aa, 0, none⟩ [vi a.Kind, .slice A6 n7 c8] rfl rfl (be.cells (off := 0) rfl)) (L_rb aj rfl ?_)
 have b5 := (b1.st bd)
 refine L_pu (P_lda ag25 sz25 cL ⟨am, 0, none⟩ [vi b.Kind, .slice ab ac ad] rfl rfl (b5.cells (off := 0) rfl)) (L_rb aj rfl ?_)
 refine L_call go119 [.agg #[vi a.Kind, .slice A6 n7 c8], .agg #[vi b.Kind, .slice ab ac ad]] rfl ((F27.calls c7 ay.ok a A6 n7 c8 (hp9.st ay.st) b ab ac ad (a5.st ay.st) _ H).mono ?_)
 rintro _ df ⟨r3, rfl, H, ao⟩
 have ap := ay.k0 ao
 refine L_pu (P_pick false (vb r3) (by exact congrArg Value.bool aj) rfl) (L_as (vb r3) rfl (L_nil ?_))
 refine W_cond r3 rfl (fun bf => ?_) (fun bf => ?_)
 ·have H := ite_t H bf
  refine W_seq (W_reg ?_)
  have dg := ay.stn ao
  have dh := (be.st dg)
  refine L_pu (P_lda ag25 sz25 cL ⟨aa, 0, none⟩ [vi a.Kind, .slice A6 n7 c8] rfl rfl (dh.cells (off := 0) rfl)) ?_
  have di := (((ar.k0 ai).k0 al).k0 ao)
  refine L_stb an 0 [vi 0, .slice none 0 0] [vi a.Kind, .slice A6 n7 c8] [vi a.Kind, .slice A6 n7 c8] rfl di rfl sz25 rfl rfl rfl fun e0 dj dk => ?_
  have b6 := ap.wr 0 rfl dj
  refine L_as (vb true) rfl (L_nil (W_ret ?_))
  have dl := b6.bgv dk 0 rfl
  have b7 := b6.drop 0 rfl
  exact ⟨[.agg #[vi a.Kind, .slice A6 n7 c8], vb true], ⟨_, _, rfl, dl.1.res rfl ag25 sz25, ⟨_, rfl, rfl⟩⟩, a, true, A6, n7, c8, rfl, H, b7.gr.g0, (hp9.st b7.st)⟩
 have H := ite_f H bf
 refine W_seq (W_reg (L_pu (P_fa fa25_0 ⟨aa, 0, none⟩ ⟨aa, 0, none⟩ rfl rfl) ?_))
 have bg := ay.stn ao
 have a0 := (be.st bg)
 refine L_pu (P_ld ag3 cL ⟨aa, 0, none⟩ (vi a.Kind) rfl (a0.cell rfl)) (L_pu (P_fa fa25_0 ⟨am, 0, none⟩ ⟨am, 0, none⟩ rfl rfl) ?_)
 have b8 := (b5.st bg)
 refine L_pu (P_ld ag3 cL ⟨am, 0, none⟩ (vi b.Kind) rfl (b8.cell rfl)) (L_pu (P_cmp a.Kind b.Kind (a.Kind != b.Kind) rfl rfl rfl) (L_mv (vb (a.Kind != b.Kind)) rfl ?_))
 rcases bool_or (a.Kind != b.Kind) with ah | ah
 ·have H := ite_t H ah
  refine L_pb ah rfl (L_pb ah rfl (L_pb ah rfl (L_pb ah rfl (L_pb ah rfl (L_pu (P_pick true (vb true) (by exact congrArg Value.bool ah) rfl) (L_as (vb true) rfl (L_nil (W_ct (b := true) rfl rfl ?_))))))))
  refine W_seq (W_reg (L_pu (P_lda ag25 sz25 cL ⟨aa, 0, none⟩ [vi a.Kind, .slice A6 n7 c8] rfl rfl (a0.cells (off := 0) rfl)) ?_))
  have dm := (((ar.k0 ai).k0 al).k0 ao)
  refine L_stb an 0 [vi 0, .slice none 0 0] [vi a.Kind, .slice A6 n7 c8] [vi a.Kind, .slice A6 n7 c8] rfl dm rfl sz25 rfl rfl rfl fun e1 dn dp => ?_
  have b9 := ap.wr 0 rfl dn
  refine L_as (vb false) rfl (L_nil (W_ret ?_))
  have dq := b9.bgv dp 0 rfl
  have ca := b9.drop 0 rfl
  exact ⟨[.agg #[vi a.Kind, .slice A6 n7 c8], vb false], ⟨_, _, rfl, dq.1.res rfl ag25 sz25, ⟨_, rfl, rfl⟩⟩, a, false, A6, n7, c8, rfl, H, ca.gr.g0, (hp9.st ca.st)⟩
 have H := ite_f H ah
 refine L_rb ah rfl (L_pu (P_fa fa25_0 ⟨aa, 0, none⟩ ⟨aa, 0, none⟩ rfl rfl) (L_rb ah rfl (L_pu (P_ld ag3 cL ⟨aa, 0, none⟩ (vi a.Kind) rfl (a0.cell rfl)) (L_rb ah rfl (L_pu (P_fa fa25_0 ⟨aq, 0, none⟩ ⟨aq, 0, none⟩ rfl rfl) (L_rb ah rfl ?_))))))
 have cb := ((b2.st bd).st bg)
 refine L_pu (P_ld ag3 cL ⟨aq, 0, none⟩ (vi o.Kind) rfl (cb.cell rfl)) (L_rb ah rfl (L_pu (P_cmp a.Kind o.Kind (a.Kind != o.Kind) rfl rfl rfl) (L_pu (P_pick false (vb (a.Kind != o.Kind)) (by exact congrArg Value.bool ah) rfl) (L_as (vb (a.Kind != o.Kind)) rfl (L_nil ?_)))))
 refine W_cond (a.Kind != o.Kind) rfl (fun bh => ?_) (fun bh => ?_)
 ·have H := ite_t H bh
  refine W_seq (W_reg (L_pu (P_lda ag25 sz25 cL ⟨aa, 0, none⟩ [vi a.Kind, .slice A6 n7 c8] rfl rfl (a0.cells (off := 0) rfl)) ?_))
  have dr := (((ar.k0 ai).k0 al).k0 ao)
  refine L_stb an 0 [vi 0, .slice none 0 0] [vi a.Kind, .slice A6 n7 c8] [vi a.Kind, .slice A6 n7 c8] rfl dr rfl sz25 rfl rfl rfl fun e2 ds dt => ?_
  have cc := ap.wr 0 rfl ds
  refine L_as (vb false) rfl (L_nil (W_ret ?_))
  have du := cc.bgv dt 0 rfl
  have cd := cc.drop 0 rfl
  exact ⟨[.agg #[vi a.Kind, .slice A6 n7 c8], vb false], ⟨_, _, rfl, du.1.res rfl ag25 sz25, ⟨_, rfl, rfl⟩⟩, a, false, A6, n7, c8, rfl, H, cd.gr.g0, (hp9.st cd.st)⟩
 have H := ite_f H bh
 refine W_skip (W_seq (W_reg (L_pu (P_fa fa25_1 ⟨aq, 0, none⟩ ⟨aq, 1, none⟩ rfl rfl) (L_pu (P_ld ag23 cL ⟨aq, 1, none⟩ (.slice A1 n2 c3) rfl (cb.cell rfl)) (L_pu (P_fa fa25_1 ⟨aa, 0, none⟩ ⟨aa, 1, none⟩ rfl rfl) (L_pu (P_ld ag23 cL ⟨aa, 1, none⟩ (.slice A6 n7 c8) rfl (a0.cell rfl)) (L_pu (P_fa fa25_1 ⟨am, 0, none⟩ ⟨am, 1, none⟩ rfl rfl) (L_pu (P_ld ag23 cL ⟨am, 1, none⟩ (.slice ab ac ad) rfl (b8.cell rfl)) ?_))))))))
 refine L_call go120 [.slice A1 n2 c3, .slice A6 n7 c8, .slice ab ac ad] rfl ((F51.calls df ap.ok o.Pts A1 n2 c3 (hp4.st ap.st) a.Pts A6 n7 c8 (hp9.st ap.st) b.Pts ab ac ad (a5.st ap.st) _ H).mono ?_)
 rintro _ e3 ⟨r4, r5, ae, af, ag, rfl, H, a2, dv, ce, cf⟩
 have bi := ap.owns a2 dv ce
 refine L_mv (.tuple #[.slice ae af ag, vb r5]) rfl (L_pu (P_ext [.slice ae af ag, vb r5] 0 (.slice ae af ag) rfl rfl) (L_pu (P_ext [.slice ae af ag, vb r5] 1 (vb r5) rfl rfl) (L_as (.slice ae af ag) rfl (L_as (vb r5) rfl (L_nil (W_seq (W_reg (L_pu (P_fa fa25_0 ⟨aa, 0, none⟩ ⟨aa, 0, none⟩ rfl rfl) ?_))))))))
 have dw := ap.stos a2 ce
 have bj := (a0.st dw)
 refine L_pu (P_ld ag3 cL ⟨aa, 0, none⟩ (vi a.Kind) rfl (bj.cell rfl)) (L_mv (.slice ae af ag) rfl (L_pu (P_build (.agg #[vi a.Kind, .slice ae af ag]) (fun _ => by kernel_rfl)) (L_alloc [.int .i64 0, .slice none 0 0] ze25 fun e4 a8 a3 hu147 au dx => ?_)))
 have av := bi.own au (some a8) (oglt a3 hu147)
 refine L_stb a8 0 [vi 0, .slice none 0 0] [vi a.Kind, .slice ae af ag] [vi a.Kind, .slice ae af ag] rfl dx rfl sz25 rfl rfl rfl fun dy aw cg => ?_
 have a4 := av.wr 0 rfl aw
 refine L_nil (W_seq (W_seq (W_reg (L_mv (vb r5) rfl (L_pu (P_not r5 rfl) (L_mv (vb (!r5)) rfl ?_))))))
 rcases bool_or (!r5) with ak | ak
 ·have H := ite_t H ak
  refine L_pb ak rfl (L_pb ak rfl (L_pb ak rfl (L_pu (P_pick true (vb true) (by exact congrArg Value.bool ak) rfl) (L_nil (W_ct (b := true) rfl rfl ?_)))))
  refine W_seq (W_reg ?_)
  have dz := bi.stown _ au (oge a3)
  have d0 := av.stw 0 rfl aw
  have d1 := ((bj.st dz).st d0)
  refine L_pu (P_lda ag25 sz25 cL ⟨aa, 0, none⟩ [vi a.Kind, .slice A6 n7 c8] rfl rfl (d1.cells (off := 0) rfl)) ?_
  have d2 := (av.bm (((((ar.k0 ai).k0 al).k0 ao).k0 a2).k0 au) 2 0 rfl rfl rfl aw)
  refine L_stb an 0 [vi 0, .slice none 0 0] [vi a.Kind, .slice A6 n7 c8] [vi a.Kind, .slice A6 n7 c8] rfl d2 rfl sz25 rfl rfl rfl fun e5 d3 d4 => ?_
  have ch := a4.wr 2 rfl d3
  refine L_as (vb false) rfl (L_nil (W_ret ?_))
  have d5 := ch.bgv d4 2 rfl
  have d6 := ch.drop 2 rfl
  have ci := d6.clear
  have d7 := (d5.st St.clear)
  exact ⟨[.agg #[vi a.Kind, .slice A6 n7 c8], vb false], ⟨_, _, rfl, d7.1.res rfl ag25 sz25, ⟨_, rfl, rfl⟩⟩, a, false, A6, n7, c8, rfl, H, ci.gr.g0, (hp9.st ci.st)⟩
 have H := ite_f H ak
 refine L_rb ak rfl (L_pu (P_lda ag25 sz25 cL ⟨a8, 0, none⟩ [vi a.Kind, .slice ae af ag] rfl rfl (cg.cells (off := 0) rfl)) (L_rb ak rfl ?_))
 have d8 := (av.sw (cf.so _ au (oge a3)) 1 0 rfl rfl rfl aw)
 have d9 := a4.gv d8 1 rfl
 have ea := a4.drop 1 rfl
 refine L_call go42 [.agg #[vi a.Kind, .slice ae af ag]] rfl ((F45.calls dy ea.ok (⟨a.Kind, r4⟩ : Shape) ae af ag d9 _ H).mono ?_)
 rintro _ e6 ⟨r6, rfl, H, a1⟩
 have bl := a4.k0 a1
 refine L_rb ak rfl (L_pu (P_not r6 rfl) (L_pu (P_pick false (vb (!r6)) (by exact congrArg Value.bool ak) rfl) (L_nil ?_)))
 refine W_cond (!r6) rfl (fun bn => ?_) (fun bn => ?_)
 ·have H := ite_t H bn
  refine W_seq (W_reg ?_)
  have eb := bi.stown _ au (oge a3)
  have ec := av.stw 0 rfl aw
  have ed := a4.stn a1
  have ee := (((bj.st eb).st ec).st ed)
  refine L_pu (P_lda ag25 sz25 cL ⟨aa, 0, none⟩ [vi a.Kind, .slice A6 n7 c8] rfl rfl (ee.cells (off := 0) rfl)) ?_
  have ef := ((av.bm (((((ar.k0 ai).k0 al).k0 ao).k0 a2).k0 au) 2 0 rfl rfl rfl aw).k0 a1)
  refine L_stb an 0 [vi 0, .slice none 0 0] [vi a.Kind, .slice A6 n7 c8] [vi a.Kind, .slice A6 n7 c8] rfl ef rfl sz25 rfl rfl rfl fun e7 eg eh => ?_
  have cj := bl.wr 2 rfl eg
  refine L_as (vb false) rfl (L_nil (W_ret ?_))
  have ei := cj.bgv eh 2 rfl
  have ej := cj.drop 2 rfl
  have ck := ej.clear
  have ek := (ei.st St.clear)
  exact ⟨[.agg #[vi a.Kind, .slice A6 n7 c8], vb false], ⟨_, _, rfl, ek.1.res rfl ag25 sz25, ⟨_, rfl, rfl⟩⟩, a, false, A6, n7, c8, rfl, H, ck.gr.g0, (hp9.st ck.st)⟩
 have H := ite_f H bn
 refine W_skip (W_seq (W_reg ?_))
 have el := (cg.k0 a1)
 refine L_pu (P_lda ag25 sz25 cL ⟨a8, 0, none⟩ [vi a.Kind, .slice ae af ag] rfl rfl (el.cells (off := 0) rfl)) ?_
 have em := ((av.bm (((((ar.k0 ai).k0 al).k0 ao).k0 a2).k0 au) 2 0 rfl rfl rfl aw).k0 a1)
 refine L_stb an 0 [vi 0, .slice none 0 0] [vi a.Kind, .slice ae af ag] [vi a.Kind, .slice ae af ag] rfl em rfl sz25 rfl rfl rfl fun en cl eo => ?_
 have bo := bl.wr 2 rfl cl
 refine L_as (vb true) rfl (L_nil (W_ret ?_))
 have ep := bo.bgv eo 2 rfl
 have bp := bo.drop 2 rfl
 have eq := (bo.sd (bl.sw ((av.sw (cf.so _ au (oge a3)) 1 0 rfl rfl rfl aw).sn a1) 1 2 rfl rfl rfl cl) 1 2 rfl rfl rfl)
 have er := bp.gv eq 1 rfl
 have cm := bp.drop 1 rfl
 have es : Ct [] w0 en [] O := cm.drop 0 rfl
 have et := bp.std 1 rfl
 have cn := cm.std 0 rfl
 have eu := ((ep.st et).st cn)
 exact ⟨[.agg #[vi a.Kind, .slice ae af ag], vb true], ⟨_, _, rfl, eu.1.res rfl ag25 sz25, ⟨_, rfl, rfl⟩⟩, (⟨a.Kind, r4⟩ : Shape), true, ae, af, ag, rfl, H, es.gr.g0, (er.st cn)⟩
end
section
open Go.RowKit
def F74.E (o : List Tag) (a : List Tag) (b : List Tag) (Q : List Str → Prop) : Prop :=
 (([] : List Tag).length + o.length ≤ 268435456) ∧ ((([] : List Tag) ++ o).length + a.length ≤ 268435456) ∧ (((([] : List Tag) ++ o) ++ a).length + b.length ≤ 268435456) ∧ (∃ (I88 : (List Tag) → Int → Prop) (mu89 : (List Tag) → Int → Nat), I88 ([] : List Tag) 0 ∧ ∀ (xs2 : List Tag) (i2 : Int), I88 xs2 i2 → (if decide (i2 < ((((([] : List Tag) ++ o) ++ a) ++ b).length : Int)) then ((0 : Int) ≤ i2 ∧ i2 < ((((([] : List Tag) ++ o) ++ a) ++ b).length : Int)) ∧ F96.E xs2 ((nth (((([] : List Tag) ++ o) ++ a) ++ b) i2).Key) ([97] : Str) (fun r => (-9223372036854775808 ≤ i2) ∧ I88 r (i2 + 1) ∧ mu89 r (i2 + 1) < mu89 xs2 i2) else (∃ (I163 : (List Str) → Int → Prop) (mu164 : (List Str) → Int → Nat), I163 ([] : List Str) 0 ∧ ∀ (xs4 : List Str) (i4 : Int), I163 xs4 i4 → (if decide (i4 < (xs2.length : Int)) then ((0 : Int) ≤ i4 ∧ i4 < (xs2.length : Int)) ∧ (xs4.length + ([(nth xs2 i4).Key] : List Str).length ≤ 268435456) ∧ (-9223372036854775808 ≤ i4) ∧ I163 (xs4 ++ ([(nth xs2 i4).Key] : List Str)) (i4 + 1) ∧ mu164 (xs4 ++ ([(nth xs2 i4).Key] : List Str)) (i4 + 1) < mu164 xs4 i4 else Q xs4))))
theorem F74.calls {O : Ob} (w0 : World) (hO : Ok w0 O) (o : List Tag) (A1 : Option Addr) (n2 c3 : Nat) (hp4 : Sl kTag w0 (Fr O) (.slice A1 n2 c3) o) (a : List Tag) (A6 : Option Addr) (n7 c8 : Nat) (hp9 : Sl kTag w0 (Fr O) (.slice A6 n7 c8) a) (b : List Tag) (an : Option Addr) (ao ap : Nat) (bs : Sl kTag w0 (Fr O) (.slice an ao ap) b) (Q : List Str → Prop) (h : F74.E o a b Q) :
  Ret Try.prog 87 [.slice A1 n2 c3, .slice A6 n7 c8, .slice an ao ap] w0 (fun v w' => ∃ (r0 : List Str) (Aw0 : Option Addr) (nw0 cw0 : Nat), v = .slice Aw0 nw0 cw0 ∧ Q r0 ∧ Gr w0 w' none ∧ Ok w' ([bk Aw0] ++ O) ∧ (∀ b, some b ∈ [bk Aw0] → w0.heap.size ≤ b) ∧ Ow Kd.str 9 w' ([bk Aw0] ++ O) (.slice Aw0 nw0 cw0) r0) := by
 unfold F74.E at h
 have H := h
 clear h
 have hc0 := Ct.init hO
 refine Ret_enter Try.func87 rfl 49 rfl [.tmp 6] rfl rfl ?_
 refine W_seq (W_reg (L_as (.slice none 0 0) rfl (L_nil (W_seq (W_reg (L_lit (kd := kTag) ei26 hc0 ([] : List Tag) (cells := []) rfl (fun _ => by kernel_rfl) fun dx bt bu bv dy hr21 a6 bw => ?_))))))
 refine L_mv (.slice A1 n2 c3) rfl ?_
 obtain ⟨bx, H⟩ := H
 refine L_app ei26 a6 (.slice bt bu bv) ([] : List Tag) o rfl bw (.slice A1 n2 c3) rfl (hp4.st a6.st).sx 0 rfl bx fun dz bz b0 b1 d0 d1 a7 b2 => ?_
 refine L_mv (.slice A6 n7 c8) rfl ?_
 obtain ⟨b3, H⟩ := H
 refine L_app ei26 a7 (.slice bz b0 b1) (([] : List Tag) ++ o) a rfl b2 (.slice A6 n7 c8) rfl (hp9.st a7.st).sx 0 rfl b3 fun d2 b4 b5 b6 d3 d4 a8 b7 => ?_
 refine L_mv (.slice an ao ap) rfl ?_
 obtain ⟨b8, H⟩ := H
 refine L_app ei26 a8 (.slice b4 b5 b6) ((([] : List Tag) ++ o) ++ a) b rfl b7 (.slice an ao ap) rfl (bs.st a8.st).sx 0 rfl b8 fun d5 ab ah ai d6 d7 b9 ca => ?_
 refine L_as (.slice ab ah ai) rfl (L_nil (W_seq (W_reg (L_lit (kd := kTag) ei26 b9 ([] : List Tag) (cells := []) rfl (fun _ => by kernel_rfl) fun d8 a9 ba bb cb hr60 cc cd => ?_))))
 refine L_as (.slice a9 ba bb) rfl (L_nil (W_seq (W_seq (W_reg (L_as (vi 0) rfl (L_nil (W_block ?_)))))))
 obtain ⟨ce, cf, ax, H⟩ := H
 have cg := (ca.so _ cb hr60)
 refine W_loop (α := (List Tag) × (Option Addr) × Nat × Nat × Int) (fun (sv__ : (List Tag) × (Option Addr) × Nat × Nat × Int) t aj => match sv__ with | (xs2, aa, ac, ad, i2) => ce xs2 i2 ∧ Has t [(7, .slice ab ah ai), (8, .slice aa ac ad), (9, vi i2)] ∧ Ct [] w0 aj [bk aa, bk ab] O ∧ Ow kTag 39 aj ([bk aa, bk ab] ++ O) (.slice ab ah ai) (((([] : List Tag) ++ o) ++ a) ++ b) ∧ Ow kTag 39 aj ([bk aa, bk ab] ++ O) (.slice aa ac ad) xs2) (fun (sv__ : (List Tag) × (Option Addr) × Nat × Nat × Int) => match sv__ with | (xs2, _, _, _, i2) => cf xs2 i2) (([] : List Tag), a9, ba, bb, 0) ⟨ax, (hasI rfl), cc, cg, cd⟩ ?_
 rintro ⟨xs2, aa, ac, ad, i2⟩ _ aj ⟨ax, ch, ak, al, bc⟩
 obtain ⟨d9, rfl⟩ := Has.ins ch
 have H := H xs2 i2 ax
 refine W_seq (W_seq (W_reg (L_mv (vi i2) rfl (L_mv (.slice ab ah ai) rfl ?_))))
 have ci := al.le
 refine L_pu (P_len Try.underlying26 ab ah ai al.len rfl) (L_pu (P_cmp i2 ((((([] : List Tag) ++ o) ++ a) ++ b).length : Int) (decide (i2 < ((((([] : List Tag) ++ o) ++ a) ++ b).length : Int))) rfl rfl rfl) (L_nil ?_))
 refine W_cond (decide (i2 < ((((([] : List Tag) ++ o) ++ a) ++ b).length : Int))) rfl (fun aq => ?_) (fun aq => ?_)
 ·have H := ite_t H aq
  refine W_skip (W_seq (W_block (W_reg (L_mv (.slice aa ac ad) rfl (L_mv (.slice ab ah ai) rfl (L_mv (vi i2) rfl ?_))))))
  obtain ⟨bd, H⟩ := H
  obtain ⟨ar, ea, cj, ck, cl⟩ := al.get default (by decide) i2 bd
  obtain ⟨rfl, cm, eb⟩ := kTag.op ck
  refine L_pu (P_ia Try.underlying26 se26 ab ar ah ai al.len i2 rfl cj rfl bd) (L_pu (P_fa fa39_0 (ar.add (i2.toNat * 2)) ((ar.add (i2.toNat * 2)).add 0) rfl rfl) (L_pu (P_ld ag9 cL ((ar.add (i2.toNat * 2)).add 0) (vs ((nth (((([] : List Tag) ++ o) ++ a) ++ b) i2).Key)) rfl (cl 0 _ rfl)) ?_))
  have cn := ak.gv bc 0 rfl
  have co := ak.drop 0 rfl
  refine L_call go74 [.slice aa ac ad, vs ((nth (((([] : List Tag) ++ o) ++ a) ++ b) i2).Key), vs ([97] : Str)] rfl ((F96.calls aj co.ok xs2 aa ac ad cn ((nth (((([] : List Tag) ++ o) ++ a) ++ b) i2).Key) cm ([97] : Str) (by decide : Lim ([97] : Str)) _ H).mono ?_)
  rintro _ ec ⟨r, be, bf, bg, rfl, H, ay, cp, az, cq⟩
  have cr := Ok.unl (L := [bk aa, bk ab]) (L' := [bk ab]) (O := O) ak ay cp az
  have cs := Ow.unl (L := [bk aa, bk ab]) (L' := [bk ab]) (O := O) (fun _ _ _ _ _ _ h => h) (.cons _ (.cons_cons _ (.slnil))) cq
  have a0 := ak.owns ay cr az
  refine L_as (.slice be bf bg) rfl (L_nil (W_reg (L_mv (vi i2) rfl ?_)))
  obtain ⟨ct, H⟩ := H
  have cu : I64 (i2 + 1) := i64_succ (of_decide_eq_true aq) ci ct
  refine L_pu (P_add i2 1 rfl rfl cu) (L_as (vi (i2 + 1)) rfl (L_nil ?_))
  have cv := a0.drop 1 rfl
  obtain ⟨cw, cx⟩ := H
  have cy := (a0.sd (al.sos ay az) 2 1 rfl rfl rfl)
  have cz := (a0.sd cs 0 1 rfl rfl rfl)
  exact ⟨(r, be, bf, bg, i2 + 1), cx, cw, (hasI rfl), cv, cy, cz⟩
 have H := ite_f H aq
 refine W_exit (xin_hit ?_)
 refine W_seq (W_reg (L_lit (kd := Kd.str) ei31 ak ([] : List Str) (cells := []) rfl (fun _ => by kernel_rfl) fun ed bh bi bj c0 hr134 a1 c1 => ?_))
 refine L_as (.slice bh bi bj) rfl (L_nil (W_seq (W_seq (W_reg (L_as (vi 0) rfl (L_nil (W_block ?_)))))))
 have c2 := a1.drop 2 rfl
 obtain ⟨c4, c5, a2, H⟩ := H
 have c6 := (a1.sd (bc.so _ c0 hr134) 1 2 rfl rfl rfl)
 have c7 := (a1.sd c1 0 2 rfl rfl rfl)
 refine W_loop (α := (List Str) × (Option Addr) × Nat × Nat × Int) (fun (sv__ : (List Str) × (Option Addr) × Nat × Nat × Int) t au => match sv__ with | (xs4, ae, af, ag, i4) => c4 xs4 i4 ∧ Has t [(8, .slice aa ac ad), (10, .slice ae af ag), (11, vi i4)] ∧ Ct [] w0 au [bk ae, bk aa] O ∧ Ow kTag 39 au ([bk ae, bk aa] ++ O) (.slice aa ac ad) xs2 ∧ Ow Kd.str 9 au ([bk ae, bk aa] ++ O) (.slice ae af ag) xs4) (fun (sv__ : (List Str) × (Option Addr) × Nat × Nat × Int) => match sv__ with | (xs4, _, _, _, i4) => c5 xs4 i4) (([] : List Str), bh, bi, bj, 0) ⟨a2, (hasI rfl), c2, c6, c7⟩ ?_
 rintro ⟨xs4, ae, af, ag, i4⟩ _ au ⟨a2, c9, a3, am, bl⟩
 obtain ⟨ee, rfl⟩ := Has.ins c9
 have H := H xs4 i4 a2
 refine W_seq (W_seq (W_reg (L_mv (vi i4) rfl (L_mv (.slice aa ac ad) rfl ?_))))
 have da := am.le
 refine L_pu (P_len Try.underlying26 aa ac ad am.len rfl) (L_pu (P_cmp i4 (xs2.length : Int) (decide (i4 < (xs2.length : Int))) rfl rfl rfl) (L_nil ?_))
 refine W_cond (decide (i4 < (xs2.length : Int))) rfl (fun av => ?_) (fun av => ?_)
 ·have H := ite_t H av
  refine W_skip (W_seq (W_block (W_reg (L_mv (.slice ae af ag) rfl (L_mv (.slice aa ac ad) rfl (L_mv (vi i4) rfl ?_))))))
  obtain ⟨bm, H⟩ := H
  obtain ⟨aw, ef, db, dc, dd⟩ := am.get default (by decide) i4 bm
  obtain ⟨rfl, de, eg⟩ := kTag.op dc
  refine L_pu (P_ia Try.underlying26 se26 aa aw ac ad am.len i4 rfl db rfl bm) (L_pu (P_fa fa39_0 (aw.add (i4.toNat * 2)) ((aw.add (i4.toNat * 2)).add 0) rfl rfl) (L_pu (P_ld ag9 cL ((aw.add (i4.toNat * 2)).add 0) (vs ((nth xs2 i4).Key)) rfl (dd 0 _ rfl)) (L_lit (kd := Kd.str) ei31 a3 ([(nth xs2 i4).Key] : List Str) (cells := [vs ((nth xs2 i4).Key)]) ⟨[vs ((nth xs2 i4).Key)], _, rfl, ⟨rfl, de⟩, rfl⟩ (fun _ => by kernel_rfl) fun eh df dg dh bn hr187 bo di => ?_)))
  obtain ⟨dj, H⟩ := H
  have dk := (bl.so _ bn hr187)
  refine L_app ei31 bo (.slice ae af ag) xs4 ([(nth xs2 i4).Key] : List Str) rfl dk (.slice df dg dh) rfl di.sx 1 rfl dj fun ei bp bq br dl dm a4 dn => ?_
  refine L_as (.slice bp bq br) rfl (L_nil (W_reg (L_mv (vi i4) rfl ?_)))
  obtain ⟨dp, H⟩ := H
  have dq : I64 (i4 + 1) := i64_succ (of_decide_eq_true av) da dp
  refine L_pu (P_add i4 1 rfl rfl dq) (L_as (vi (i4 + 1)) rfl (L_nil ?_))
  have dr := a4.drop 0 rfl
  obtain ⟨ds, dt⟩ := H
  have du := (a4.sd (bo.sm (am.so _ bn hr187) 2 1 rfl rfl rfl dl dm) 2 0 rfl rfl rfl)
  have dv := (a4.sd dn 1 0 rfl rfl rfl)
  exact ⟨((xs4 ++ ([(nth xs2 i4).Key] : List Str)), bp, bq, br, i4 + 1), dt, ds, (hasI rfl), dr, du, dv⟩
 have H := ite_f H av
 refine W_exit (xin_hit ?_)
 refine W_seq (W_reg (L_mv (.slice ae af ag) rfl (L_as (.slice ae af ag) rfl (L_nil (W_ret ?_)))))
 have a5 := a3.drop 1 rfl
 have dw := (a3.sd bl 0 1 rfl rfl rfl)
 exact ⟨[.slice ae af ag], ⟨_, rfl, rfl⟩, xs4, ae, af, ag, rfl, H, a5.gr.g0, a5.ok, a5.ge, dw⟩
end
section
open Go.RowKit
def F99.E (t_ : List Tag) (key : Str) (Q : Str → Bool → Prop) : Prop :=
 (∃ (I19 : Int → Prop) (mu20 : Int → Nat), I19 0 ∧ ∀ (i2 : Int), I19 i2 → (if decide (i2 < (t_.length : Int)) then ((0 : Int) ≤ i2 ∧ i2 < (t_.length : Int)) ∧ (if ((nth t_ i2).Key) == key then ((0 : Int) ≤ i2 ∧ i2 < (t_.length : Int)) ∧ Q ((nth t_ i2).Val) true else (-9223372036854775808 ≤ i2) ∧ I19 (i2 + 1) ∧ mu20 (i2 + 1) < mu20 i2) else Q ([] : Str) false))
theorem F99.calls {O : Ob} (w0 : World) (hO : Ok w0 O) (t_ : List Tag) (A1 : Option Addr) (n2 c3 : Nat) (hp4 : Sl kTag w0 (Fr O) (.slice A1 n2 c3) t_) (key : Str) (hs6 : Lim key) (Q : Str → Bool → Prop) (h : F99.E t_ key Q) :
  Ret Try.prog 121 [.slice A1 n2 c3, vs key] w0 (fun v w' => ∃ (r0 : Str) (r1 : Bool), v = .tuple #[vs r0, vb r1] ∧ Q r0 r1 ∧ Gr w0 w' none ∧ Lim r0) := by
 unfold F99.E at h
 have H := h
 clear h
 have hc0 := Ct.init hO
 refine Ret_enter Try.func121 rfl 25 rfl [.tmp 4, .tmp 5] rfl rfl ?_
 refine W_seq (W_reg (L_as (vs ([] : Str)) rfl (L_as (vb false) rfl (L_nil (W_seq (W_seq (W_reg (L_as (vi 0) rfl ?_))))))))
 refine L_nil (W_block ?_)
 obtain ⟨ak, al, ae, H⟩ := H
 refine W_loop (α := Int) (fun (sv__ : Int) t af => match sv__ with | i2 => ak i2 ∧ Has t [(0, .slice A1 n2 c3), (1, vs key), (6, vi i2)] ∧ Ct [] w0 af [] O ∧ Sl kTag af (Fr ([] ++ O)) (.slice A1 n2 c3) t_) (fun (sv__ : Int) => match sv__ with | i2 => al i2) 0 ⟨ae, (hasI rfl), hc0, hp4⟩ ?_
 rintro i2 _ af ⟨ae, am, ag, aa⟩
 obtain ⟨a1, rfl⟩ := Has.ins am
 have H := H i2 ae
 refine W_seq (W_seq (W_reg (L_mv (vi i2) rfl (L_mv (.slice A1 n2 c3) rfl ?_))))
 have an := aa.le
 refine L_pu (P_len Try.underlying26 A1 n2 c3 aa.len rfl) (L_pu (P_cmp i2 (t_.length : Int) (decide (i2 < (t_.length : Int))) rfl rfl rfl) (L_nil ?_))
 refine W_cond (decide (i2 < (t_.length : Int))) rfl (fun ab => ?_) (fun ab => ?_)
 ·have H := ite_t H ab
  refine W_skip (W_seq (W_block (W_seq (W_reg (L_mv (.slice A1 n2 c3) rfl (L_mv (vi i2) rfl ?_))))))
  obtain ⟨ai, H⟩ := H
  obtain ⟨ac, a2, ao, a3, ap, aq⟩ := aa.get default (by decide) i2 ai
  obtain ⟨rfl, a4, a5⟩ := kTag.op ap
  refine L_pu (P_ia Try.underlying26 se26 A1 ac n2 c3 aa.len i2 rfl ao rfl ai) (L_pu (P_fa fa39_0 (ac.add (i2.toNat * 2)) ((ac.add (i2.toNat * 2)).add 0) rfl rfl) (L_pu (P_ld ag9 cL ((ac.add (i2.toNat * 2)).add 0) (vs ((nth t_ i2).Key)) rfl (aq 0 _ rfl)) (L_mv (vs key) rfl (L_pu (P_scmp ((nth t_ i2).Key) key (((nth t_ i2).Key) == key) rfl rfl rfl) (L_nil ?_)))))
  refine W_cond (((nth t_ i2).Key) == key) rfl (fun ah => ?_) (fun ah => ?_)
  ·have H := ite_t H ah
   refine W_seq (W_reg (L_mv (.slice A1 n2 c3) rfl (L_mv (vi i2) rfl ?_)))
   obtain ⟨aj, H⟩ := H
   obtain ⟨ad, a6, ar, a7, au, av⟩ := aa.get default (by decide) i2 aj
   obtain ⟨rfl, a8, aw⟩ := kTag.op au
   exact L_pu (P_ia Try.underlying26 se26 A1 ad n2 c3 aa.len i2 rfl ar rfl aj) (L_pu (P_fa fa39_1 (ad.add (i2.toNat * 2)) ((ad.add (i2.toNat * 2)).add 1) rfl rfl) (L_pu (P_ld ag9 cL ((ad.add (i2.toNat * 2)).add 1) (vs ((nth t_ i2).Val)) rfl (av 1 _ rfl)) (L_as (vs ((nth t_ i2).Val)) rfl (L_as (vb true) rfl (L_nil (W_ret ⟨[vs ((nth t_ i2).Val), vb true], ⟨_, rfl, ⟨_, rfl, rfl⟩⟩, (nth t_ i2).Val, true, rfl, H, ag.gr.g0, aw⟩))))))
  have H := ite_f H ah
  refine W_skip (W_reg (L_mv (vi i2) rfl ?_))
  obtain ⟨ax, H⟩ := H
  have ay : I64 (i2 + 1) := i64_succ (of_decide_eq_true ab) an ax
  refine L_pu (P_add i2 1 rfl rfl ay) (L_as (vi (i2 + 1)) rfl (L_nil ?_))
  obtain ⟨az, a0⟩ := H
  exact ⟨i2 + 1, a0, az, (hasI rfl), ag, aa⟩
 have H := ite_f H ab
 refine W_exit (xin_hit ?_)
 exact W_seq (W_reg (L_as (vs ([] : Str)) rfl (L_as (vb false) rfl (L_nil (W_ret ⟨[vs ([] : Str), vb false], ⟨_, rfl, ⟨_, rfl, rfl⟩⟩, ([] : Str), false, rfl, H, ag.gr.g0, (by decide : Lim ([] : Str))⟩)))))
end
section
open Go.RowKit
def F100.E (o : List Tag) (a : List Tag) (b : List Tag) (key : Str) (Q : Str → Bool → Bool → Prop) : Prop :=
 F99.E o key (fun r r2 => F99.E a key (fun r3 r4 => F99.E b key (fun r5 r6 => (if r3 == r then (if r4 == r2 then Q r5 r6 true else (if r5 == r then (if r6 == r2 then Q r3 r4 true else (if r3 == r5 then (if r4 == r6 then Q r3 r4 true else (if r4 then Q r3 true false else Q r5 true false)) else (if r4 then Q r3 true false else Q r5 true false))) else (if r3 == r5 then (if r4 == r6 then Q r3 r4 true else (if r4 then Q r3 true false else Q r5 true false)) else (if r4 then Q r3 true false else Q r5 true false)))) else (if r5 == r then (if r6 == r2 then Q r3 r4 true else (if r3 == r5 then (if r4 == r6 then Q r3 r4 true else (if r4 then Q r3 true false else Q r5 true false)) else (if r4 then Q r3 true false else Q r5 true false))) else (if r3 == r5 then (if r4 == r6 then Q r3 r4 true else (if r4 then Q r3 true false else Q r5 true false)) else (if r4 then Q r3 true false else Q r5 true false)))))))
theorem F100.calls {O : Ob} (w0 : World) (hO : Ok w0 O) (o : List Tag) (A1 : Option Addr) (n2 c3 : Nat) (hp4 : Sl kTag w0 (Fr O) (.slice A1 n2 c3) o) (a : List Tag) (A6 : Option Addr) (n7 c8 : Nat) (hp9 : Sl kTag w0 (Fr O) (.slice A6 n7 c8) a) (b : List Tag) (am : Option Addr) (an ao : Nat) (a7 : Sl kTag w0 (Fr O) (.slice am an ao) b) (key : Str) (ap : Lim key) (Q : Str → Bool → Bool → Prop) (h : F100.E o a b key Q) :
  Ret Try.prog 88 [.slice A1 n2 c3, .slice A6 n7 c8, .slice am an ao, vs key] w0 (fun v w' => ∃ (r0 : Str) (r1 : Bool) (r2 : Bool), v = .tuple #[vs r0, vb r1, vb r2] ∧ Q r0 r1 r2 ∧ Gr w0 w' none ∧ Lim r0) := by
 unfold F100.E at h
 have H := h
 clear h
 have hc0 := Ct.init hO
 refine Ret_enter Try.func88 rfl 71 rfl [.tmp 8, .tmp 9, .tmp 10] rfl rfl ?_
 refine W_seq (W_reg (L_as (vs ([] : Str)) rfl (L_as (vb false) rfl (L_as (vb false) rfl (L_nil (W_seq (W_reg (L_mv (.slice A1 n2 c3) rfl ?_))))))))
 refine L_mv (vs key) rfl ?_
 refine L_call go121 [.slice A1 n2 c3, vs key] rfl ((F99.calls w0 hc0.ok o A1 n2 c3 hp4 key ap _ H).mono ?_)
 rintro _ a8 ⟨r, r2, rfl, H, a9, bd⟩
 have aq := hc0.k0 a9
 refine L_mv (.tuple #[vs r, vb r2]) rfl (L_pu (P_ext [vs r, vb r2] 0 (vs r) rfl rfl) (L_pu (P_ext [vs r, vb r2] 1 (vb r2) rfl rfl) (L_as (vs r) rfl (L_as (vb r2) rfl (L_nil (W_seq (W_reg (L_mv (.slice A6 n7 c8) rfl ?_))))))))
 refine L_mv (vs key) rfl ?_
 refine L_call go121 [.slice A6 n7 c8, vs key] rfl ((F99.calls a8 aq.ok a A6 n7 c8 (hp9.st aq.st) key ap _ H).mono ?_)
 rintro _ ba ⟨r3, r4, rfl, H, bb, ad⟩
 have ar := aq.k0 bb
 refine L_mv (.tuple #[vs r3, vb r4]) rfl (L_pu (P_ext [vs r3, vb r4] 0 (vs r3) rfl rfl) (L_pu (P_ext [vs r3, vb r4] 1 (vb r4) rfl rfl) (L_as (vs r3) rfl (L_as (vb r4) rfl (L_nil (W_seq (W_reg (L_mv (.slice am an ao) rfl ?_))))))))
 refine L_mv (vs key) rfl ?_
 refine L_call go121 [.slice am an ao, vs key] rfl ((F99.calls ba ar.ok b am an ao (a7.st ar.st) key ap _ H).mono ?_)
 rintro _ be ⟨r5, r6, rfl, H, bc, al⟩
 have aa := ar.k0 bc
 refine L_mv (.tuple #[vs r5, vb r6]) rfl (L_pu (P_ext [vs r5, vb r6] 0 (vs r5) rfl rfl) (L_pu (P_ext [vs r5, vb r6] 1 (vb r6) rfl rfl) (L_as (vs r5) rfl (L_as (vb r6) rfl (L_nil (W_seq (W_block (W_seq ?_))))))))
 refine W_reg (L_mv (vs r3) rfl (L_mv (vs r) rfl (L_pu (P_scmp r3 r (r3 == r) rfl rfl rfl) (L_mv (vb (r3 == r)) rfl ?_))))
 rcases bool_or (r3 == r) with ae | ae
 ·have H := ite_t H ae
  refine L_rb ae rfl (L_mv (vb r4) rfl (L_rb ae rfl (L_mv (vb r2) rfl (L_rb ae rfl (L_pu (P_bcmp Try.underlying4 r4 r2 (r4 == r2) rfl rfl rfl) (L_pu (P_pick true (vb (r4 == r2)) (by exact congrArg Value.bool ae) rfl) (L_as (vb (r4 == r2)) rfl (L_nil ?_))))))))
  refine W_cond (r4 == r2) rfl (fun au => ?_) (fun au => ?_)
  ·have H := ite_t H au
   refine W_seq (W_reg (L_mv (vs r5) rfl (L_mv (vb r6) rfl (L_as (vs r5) rfl (L_as (vb r6) rfl (L_as (vb true) rfl (L_nil (W_ret ?_))))))))
   exact ⟨[vs r5, vb r6, vb true], ⟨_, rfl, ⟨_, rfl, ⟨_, rfl, rfl⟩⟩⟩, r5, r6, true, rfl, H, aa.gr.g0, al⟩
  have H := ite_f H au
  refine W_seq (W_reg (L_mv (vs r5) rfl (L_mv (vs r) rfl (L_pu (P_scmp r5 r (r5 == r) rfl rfl rfl) (L_mv (vb (r5 == r)) rfl ?_)))))
  rcases bool_or (r5 == r) with af | af
  ·have H := ite_t H af
   refine L_rb af rfl (L_mv (vb r6) rfl (L_rb af rfl (L_mv (vb r2) rfl (L_rb af rfl (L_pu (P_bcmp Try.underlying4 r6 r2 (r6 == r2) rfl rfl rfl) (L_pu (P_pick true (vb (r6 == r2)) (by exact congrArg Value.bool af) rfl) (L_mv (vb (r6 == r2)) rfl ?_)))))))
   rcases bool_or (r6 == r2) with ab | ab
   ·have H := ite_t H ab
    refine L_pb ab rfl (L_pb ab rfl (L_pb ab rfl (L_pb ab rfl (L_pn rfl (L_pn rfl (L_pn rfl (L_pb ab rfl (L_pu (P_pick true (vb true) (by exact congrArg Value.bool ab) rfl) ?_))))))))
    refine L_as (vb true) rfl (L_nil (W_ct (b := true) rfl rfl ?_))
    refine W_seq (W_reg (L_mv (vs r3) rfl (L_mv (vb r4) rfl (L_as (vs r3) rfl (L_as (vb r4) rfl (L_as (vb true) rfl (L_nil (W_ret ?_))))))))
    exact ⟨[vs r3, vb r4, vb true], ⟨_, rfl, ⟨_, rfl, ⟨_, rfl, rfl⟩⟩⟩, r3, r4, true, rfl, H, aa.gr.g0, ad⟩
   have H := ite_f H ab
   refine L_rb ab rfl (L_mv (vs r3) rfl (L_rb ab rfl (L_mv (vs r5) rfl (L_rb ab rfl (L_pu (P_scmp r3 r5 (r3 == r5) rfl rfl rfl) (L_rb ab rfl (L_mv (vb (r3 == r5)) rfl ?_)))))))
   rcases bool_or (r3 == r5) with ag | ag
   ·have H := ite_t H ag
    refine L_rb ag rfl (L_mv (vb r4) rfl (L_rb ag rfl (L_mv (vb r6) rfl (L_rb ag rfl (L_pu (P_bcmp Try.underlying4 r4 r6 (r4 == r6) rfl rfl rfl) (L_rb ab rfl (L_pu (P_pick true (vb (r4 == r6)) (by exact congrArg Value.bool ag) rfl) (L_pu (P_pick false (vb (r4 == r6)) (by exact congrArg Value.bool ab) rfl) ?_))))))))
    refine L_as (vb (r4 == r6)) rfl (L_nil ?_)
    refine W_cond (r4 == r6) rfl (fun av => ?_) (fun av => ?_)
    ·have H := ite_t H av
     refine W_seq (W_reg (L_mv (vs r3) rfl (L_mv (vb r4) rfl (L_as (vs r3) rfl (L_as (vb r4) rfl (L_as (vb true) rfl (L_nil (W_ret ?_))))))))
     exact ⟨[vs r3, vb r4, vb true], ⟨_, rfl, ⟨_, rfl, ⟨_, rfl, rfl⟩⟩⟩, r3, r4, true, rfl, H, aa.gr.g0, ad⟩
    have H := ite_f H av
    refine W_seq (W_reg (L_mv (vb r4) rfl (L_as (vb r4) rfl (L_nil ?_))))
    refine W_cond r4 rfl (fun aw => ?_) (fun aw => ?_)
    ·have H := ite_t H aw
     exact W_seq (W_reg (L_mv (vs r3) rfl (L_as (vs r3) rfl (L_as (vb true) rfl (L_as (vb false) rfl (L_nil (W_ret ⟨[vs r3, vb true, vb false], ⟨_, rfl, ⟨_, rfl, ⟨_, rfl, rfl⟩⟩⟩, r3, true, false, rfl, H, aa.gr.g0, ad⟩)))))))
    have H := ite_f H aw
    refine W_skip (W_seq (W_reg (L_mv (vs r5) rfl (L_as (vs r5) rfl (L_as (vb true) rfl (L_as (vb false) rfl (L_nil (W_ret ?_))))))))
    exact ⟨[vs r5, vb true, vb false], ⟨_, rfl, ⟨_, rfl, ⟨_, rfl, rfl⟩⟩⟩, r5, true, false, rfl, H, aa.gr.g0, al⟩
   have H := ite_f H ag
   refine L_pb ag rfl (L_pb ag rfl (L_pb ag rfl (L_rb ab rfl (L_pu (P_pick false (vb false) (by exact congrArg Value.bool ag) rfl) (L_pu (P_pick false (vb false) (by exact congrArg Value.bool ab) rfl) (L_as (vb false) rfl (L_nil (W_cf (b := false) rfl rfl ?_))))))))
   refine W_seq (W_reg (L_mv (vb r4) rfl (L_as (vb r4) rfl (L_nil ?_))))
   refine W_cond r4 rfl (fun ax => ?_) (fun ax => ?_)
   ·have H := ite_t H ax
    exact W_seq (W_reg (L_mv (vs r3) rfl (L_as (vs r3) rfl (L_as (vb true) rfl (L_as (vb false) rfl (L_nil (W_ret ⟨[vs r3, vb true, vb false], ⟨_, rfl, ⟨_, rfl, ⟨_, rfl, rfl⟩⟩⟩, r3, true, false, rfl, H, aa.gr.g0, ad⟩)))))))
   have H := ite_f H ax
   refine W_skip (W_seq (W_reg (L_mv (vs r5) rfl (L_as (vs r5) rfl (L_as (vb true) rfl (L_as (vb false) rfl (L_nil (W_ret ?_))))))))
   exact ⟨[vs r5, vb true, vb false], ⟨_, rfl, ⟨_, rfl, ⟨_, rfl, rfl⟩⟩⟩, r5, true, false, rfl, H, aa.gr.g0, al⟩
  have H := ite_f H af
  refine L_pb af rfl (L_pb af rfl (L_pb af rfl (L_pu (P_pick false (vb false) (by exact congrArg Value.bool af) rfl) (L_mv (vb false) rfl (L_run (dj := 55) rfl rfl rfl (L_mv (vs r3) rfl (L_run (dj := 55) rfl rfl rfl (L_mv (vs r5) rfl ?_))))))))
  refine L_run (dj := 55) rfl rfl rfl (L_pu (P_scmp r3 r5 (r3 == r5) rfl rfl rfl) (L_run (dj := 55) rfl rfl rfl (L_mv (vb (r3 == r5)) rfl ?_)))
  rcases bool_or (r3 == r5) with ah | ah
  ·have H := ite_t H ah
   refine L_rb ah rfl (L_mv (vb r4) rfl (L_rb ah rfl (L_mv (vb r6) rfl (L_rb ah rfl (L_pu (P_bcmp Try.underlying4 r4 r6 (r4 == r6) rfl rfl rfl) (L_run (dj := 55) rfl rfl rfl (L_pu (P_pick true (vb (r4 == r6)) (by exact congrArg Value.bool ah) rfl) (L_pu (P_pick false (vb (r4 == r6)) (by exact congrArg Value.bool rfl) rfl) ?_))))))))
   refine L_as (vb (r4 == r6)) rfl (L_nil ?_)
   refine W_cond (r4 == r6) rfl (fun ay => ?_) (fun ay => ?_)
   ·have H := ite_t H ay
    refine W_seq (W_reg (L_mv (vs r3) rfl (L_mv (vb r4) rfl (L_as (vs r3) rfl (L_as (vb r4) rfl (L_as (vb true) rfl (L_nil (W_ret ?_))))))))
    exact ⟨[vs r3, vb r4, vb true], ⟨_, rfl, ⟨_, rfl, ⟨_, rfl, rfl⟩⟩⟩, r3, r4, true, rfl, H, aa.gr.g0, ad⟩
   have H := ite_f H ay
   refine W_seq (W_reg (L_mv (vb r4) rfl (L_as (vb r4) rfl (L_nil ?_))))
   refine W_cond r4 rfl (fun az => ?_) (fun az => ?_)
   ·have H := ite_t H az
    exact W_seq (W_reg (L_mv (vs r3) rfl (L_as (vs r3) rfl (L_as (vb true) rfl (L_as (vb false) rfl (L_nil (W_ret ⟨[vs r3, vb true, vb false], ⟨_, rfl, ⟨_, rfl, ⟨_, rfl, rfl⟩⟩⟩, r3, true, false, rfl, H, aa.gr.g0, ad⟩)))))))
   have H := ite_f H az
   refine W_skip (W_seq (W_reg (L_mv (vs r5) rfl (L_as (vs r5) rfl (L_as (vb true) rfl (L_as (vb false) rfl (L_nil (W_ret ?_))))))))
   exact ⟨[vs r5, vb true, vb false], ⟨_, rfl, ⟨_, rfl, ⟨_, rfl, rfl⟩⟩⟩, r5, true, false, rfl, H, aa.gr.g0, al⟩
  have H := ite_f H ah
  refine L_pb ah rfl (L_pb ah rfl (L_pb ah rfl (L_run (dj := 55) rfl rfl rfl (L_pu (P_pick false (vb false) (by exact congrArg Value.bool ah) rfl) (L_pu (P_pick false (vb false) (by exact congrArg Value.bool rfl) rfl) (L_as (vb false) rfl (L_nil (W_cf (b := false) rfl rfl ?_))))))))
  refine W_seq (W_reg (L_mv (vb r4) rfl (L_as (vb r4) rfl (L_nil ?_))))
  refine W_cond r4 rfl (fun a0 => ?_) (fun a0 => ?_)
  ·have H := ite_t H a0
   exact W_seq (W_reg (L_mv (vs r3) rfl (L_as (vs r3) rfl (L_as (vb true) rfl (L_as (vb false) rfl (L_nil (W_ret ⟨[vs r3, vb true, vb false], ⟨_, rfl, ⟨_, rfl, ⟨_, rfl, rfl⟩⟩⟩, r3, true, false, rfl, H, aa.gr.g0, ad⟩)))))))
  have H := ite_f H a0
  refine W_skip (W_seq (W_reg (L_mv (vs r5) rfl (L_as (vs r5) rfl (L_as (vb true) rfl (L_as (vb false) rfl (L_nil (W_ret ?_))))))))
  exact ⟨[vs r5, vb true, vb false], ⟨_, rfl, ⟨_, rfl, ⟨_, rfl, rfl⟩⟩⟩, r5, true, false, rfl, H, aa.gr.g0, al⟩
 have H := ite_f H ae
 refine L_pb ae rfl (L_pb ae rfl (L_pb ae rfl (L_pu (P_pick false (vb false) (by exact congrArg Value.bool ae) rfl) (L_as (vb false) rfl (L_nil (W_cf (b := false) rfl rfl ?_))))))
 refine W_seq (W_reg (L_mv (vs r5) rfl (L_mv (vs r) rfl (L_pu (P_scmp r5 r (r5 == r) rfl rfl rfl) (L_mv (vb (r5 == r)) rfl ?_)))))
 rcases bool_or (r5 == r) with ai | ai
 ·have H := ite_t H ai
  refine L_rb ai rfl (L_mv (vb r6) rfl (L_rb ai rfl (L_mv (vb r2) rfl (L_rb ai rfl (L_pu (P_bcmp Try.underlying4 r6 r2 (r6 == r2) rfl rfl rfl) (L_pu (P_pick true (vb (r6 == r2)) (by exact congrArg Value.bool ai) rfl) (L_mv (vb (r6 == r2)) rfl ?_)))))))
  rcases bool_or (r6 == r2) with ac | ac
  ·have H := ite_t H ac
   refine L_pb ac rfl (L_pb ac rfl (L_pb ac rfl (L_pb ac rfl (L_pn rfl (L_pn rfl (L_pn rfl (L_pb ac rfl (L_pu (P_pick true (vb true) (by exact congrArg Value.bool ac) rfl) ?_))))))))
   refine L_as (vb true) rfl (L_nil (W_ct (b := true) rfl rfl ?_))
   refine W_seq (W_reg (L_mv (vs r3) rfl (L_mv (vb r4) rfl (L_as (vs r3) rfl (L_as (vb r4) rfl (L_as (vb true) rfl (L_nil (W_ret ?_))))))))
   exact ⟨[vs r3, vb r4, vb true], ⟨_, rfl, ⟨_, rfl, ⟨_, rfl, rfl⟩⟩⟩, r3, r4, true, rfl, H, aa.gr.g0, ad⟩
  have H := ite_f H ac
  refine L_rb ac rfl (L_mv (vs r3) rfl (L_rb ac rfl (L_mv (vs r5) rfl (L_rb ac rfl (L_pu (P_scmp r3 r5 (r3 == r5) rfl rfl rfl) (L_rb ac rfl (L_mv (vb (r3 == r5)) rfl ?_)))))))
  rcases bool_or (r3 == r5) with aj | aj
  ·have H := ite_t H aj
   refine L_rb aj rfl (L_mv (vb r4) rfl (L_rb aj rfl (L_mv (vb r6) rfl (L_rb aj rfl (L_pu (P_bcmp Try.underlying4 r4 r6 (r4 == r6) rfl rfl rfl) (L_rb ac rfl (L_pu (P_pick true (vb (r4 == r6)) (by exact congrArg Value.bool aj) rfl) (L_pu (P_pick false (vb (r4 == r6)) (by exact congrArg Value.bool ac) rfl) ?_))))))))
   refine L_as (vb (r4 == r6)) rfl (L_nil ?_)
   refine W_cond (r4 == r6) rfl (fun a1 => ?_) (fun a1 => ?_)
   ·have H := ite_t H a1
    refine W_seq (W_reg (L_mv (vs r3) rfl (L_mv (vb r4) rfl (L_as (vs r3) rfl (L_as (vb r4) rfl (L_as (vb true) rfl (L_nil (W_ret ?_))))))))
    exact ⟨[vs r3, vb r4, vb true], ⟨_, rfl, ⟨_, rfl, ⟨_, rfl, rfl⟩⟩⟩, r3, r4, true, rfl, H, aa.gr.g0, ad⟩
   have H := ite_f H a1
   refine W_seq (W_reg (L_mv (vb r4) rfl (L_as (vb r4) rfl (L_nil ?_))))
   refine W_cond r4 rfl (fun a2 => ?_) (fun a2 => ?_)
   ·have H := ite_t H a2
    exact W_seq (W_reg (L_mv (vs r3) rfl (L_as (vs r3) rfl (L_as (vb true) rfl (L_as (vb false) rfl (L_nil (W_ret ⟨[vs r3, vb true, vb false], ⟨_, rfl, ⟨_, rfl, ⟨_, rfl, rfl⟩⟩⟩, r3, true, false, rfl, H, aa.gr.g0, ad⟩)))))))
   have H := ite_f H a2
   refine W_skip (W_seq (W_reg (L_mv (vs r5) rfl (L_as (vs r5) rfl (L_as (vb true) rfl (L_as (vb false) rfl (L_nil (W_ret ?_))))))))
   exact ⟨[vs r5, vb true, vb false], ⟨_, rfl, ⟨_, rfl, ⟨_, rfl, rfl⟩⟩⟩, r5, true, false, rfl, H, aa.gr.g0, al⟩
  have H := ite_f H aj
  refine L_pb aj rfl (L_pb aj rfl (L_pb aj rfl (L_rb ac rfl (L_pu (P_pick false (vb false) (by exact congrArg Value.bool aj) rfl) (L_pu (P_pick false (vb false) (by exact congrArg Value.bool ac) rfl) (L_as (vb false) rfl (L_nil (W_cf (b := false) rfl rfl ?_))))))))
  refine W_seq (W_reg (L_mv (vb r4) rfl (L_as (vb r4) rfl (L_nil ?_))))
  refine W_cond r4 rfl (fun a3 => ?_) (fun a3 => ?_)
  ·have H := ite_t H a3
   exact W_seq (W_reg (L_mv (vs r3) rfl (L_as (vs r3) rfl (L_as (vb true) rfl (L_as (vb false) rfl (L_nil (W_ret ⟨[vs r3, vb true, vb false], ⟨_, rfl, ⟨_, rfl, ⟨_, rfl, rfl⟩⟩⟩, r3, true, false, rfl, H, aa.gr.g0, ad⟩)))))))
  have H := ite_f H a3
  refine W_skip (W_seq (W_reg (L_mv (vs r5) rfl (L_as (vs r5) rfl (L_as (vb true) rfl (L_as (vb false) rfl (L_nil (W_ret ?_))))))))
  exact ⟨[vs r5, vb true, vb false], ⟨_, rfl, ⟨_, rfl, ⟨_, rfl, rfl⟩⟩⟩, r5, true, false, rfl, H, aa.gr.g0, al⟩
 have H := ite_f H ai
 refine L_pb ai rfl (L_pb ai rfl (L_pb ai rfl (L_pu (P_pick false (vb false) (by exact congrArg Value.bool ai) rfl) (L_mv (vb false) rfl (L_run (dj := 55) rfl rfl rfl (L_mv (vs r3) rfl (L_run (dj := 55) rfl rfl rfl (L_mv (vs r5) rfl ?_))))))))
 refine L_run (dj := 55) rfl rfl rfl (L_pu (P_scmp r3 r5 (r3 == r5) rfl rfl rfl) (L_run (dj := 55) rfl rfl rfl (L_mv (vb (r3 == r5)) rfl ?_)))
 rcases bool_or (r3 == r5) with ak | ak
 ·have H := ite_t H ak
  refine L_rb ak rfl (L_mv (vb r4) rfl (L_rb ak rfl (L_mv (vb r6) rfl (L_rb ak rfl (L_pu (P_bcmp Try.underlying4 r4 r6 (r4 == r6) rfl rfl rfl) (L_run (dj := 55) rfl rfl rfl (L_pu (P_pick true (vb (r4 == r6)) (by exact congrArg Value.bool ak) rfl) (L_pu (P_pick false (vb (r4 == r6)) (by exact congrArg Value.bool rfl) rfl) ?_))))))))
  refine L_as (vb (r4 == r6)) rfl (L_nil ?_)
  refine W_cond (r4 == r6) rfl (fun a4 => ?_) (fun a4 => ?_)
  ·have H := ite_t H a4
   refine W_seq (W_reg (L_mv (vs r3) rfl (L_mv (vb r4) rfl (L_as (vs r3) rfl (L_as (vb r4) rfl (L_as (vb true) rfl (L_nil (W_ret ?_))))))))
   exact ⟨[vs r3, vb r4, vb true], ⟨_, rfl, ⟨_, rfl, ⟨_, rfl, rfl⟩⟩⟩, r3, r4, true, rfl, H, aa.gr.g0, ad⟩
  have H := ite_f H a4
  refine W_seq (W_reg (L_mv (vb r4) rfl (L_as (vb r4) rfl (L_nil ?_))))
  refine W_cond r4 rfl (fun a5 => ?_) (fun a5 => ?_)
  ·have H := ite_t H a5
   exact W_seq (W_reg (L_mv (vs r3) rfl (L_as (vs r3) rfl (L_as (vb true) rfl (L_as (vb false) rfl (L_nil (W_ret ⟨[vs r3, vb true, vb false], ⟨_, rfl, ⟨_, rfl, ⟨_, rfl, rfl⟩⟩⟩, r3, true, false, rfl, H, aa.gr.g0, ad⟩)))))))
  have H := ite_f H a5
  refine W_skip (W_seq (W_reg (L_mv (vs r5) rfl (L_as (vs r5) rfl (L_as (vb true) rfl (L_as (vb false) rfl (L_nil (W_ret ?_))))))))
  exact ⟨[vs r5, vb true, vb false], ⟨_, rfl, ⟨_, rfl, ⟨_, rfl, rfl⟩⟩⟩, r5, true, false, rfl, H, aa.gr.g0, al⟩
 have H := ite_f H ak
 refine L_pb ak rfl (L_pb ak rfl (L_pb ak rfl (L_run (dj := 55) rfl rfl rfl (L_pu (P_pick false (vb false) (by exact congrArg Value.bool ak) rfl) (L_pu (P_pick false (vb false) (by exact congrArg Value.bool rfl) rfl) (L_as (vb false) rfl (L_nil (W_cf (b := false) rfl rfl ?_))))))))
 refine W_seq (W_reg (L_mv (vb r4) rfl (L_as (vb r4) rfl (L_nil ?_))))
 refine W_cond r4 rfl (fun a6 => ?_) (fun a6 => ?_)
 ·have H := ite_t H a6
  exact W_seq (W_reg (L_mv (vs r3) rfl (L_as (vs r3) rfl (L_as (vb true) rfl (L_as (vb false) rfl (L_nil (W_ret ⟨[vs r3, vb true, vb false], ⟨_, rfl, ⟨_, rfl, ⟨_, rfl, rfl⟩⟩⟩, r3, true, false, rfl, H, aa.gr.g0, ad⟩)))))))
 have H := ite_f H a6
 refine W_skip (W_seq (W_reg (L_mv (vs r5) rfl (L_as (vs r5) rfl (L_as (vb true) rfl (L_as (vb false) rfl (L_nil (W_ret ?_))))))))
 exact ⟨[vs r5, vb true, vb false], ⟨_, rfl, ⟨_, rfl, ⟨_, rfl, rfl⟩⟩⟩, r5, true, false, rfl, H, aa.gr.g0, al⟩
end
end Go.Proofs.Ytpdmnmpcjljeaaa