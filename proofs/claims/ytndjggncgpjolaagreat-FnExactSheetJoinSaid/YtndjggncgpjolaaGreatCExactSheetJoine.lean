/- It is proved here that the law FnExactSheetJoin of the given program holds whatever it is handed: the walks through the code, the plain laws and the row, in this order.
   Conditions: none. -/
import Derived.Below
import Derived.ChangeArms
import Derived.ChangeOld
import Derived.ChangeSlices
import Derived.DataReads
import Derived.Deep.Quiet
import Derived.KernelRfl
import Derived.Laws.Build
import Derived.Laws.IdiomStrings
import Derived.Laws.OwnMore
import Derived.Laws.Slices
import Derived.Laws.StructEq
import Derived.OpenShut
import Derived.ProofKit
import Derived.Shelf.Slices.Cells
import Derived.Shelf.Slices.CompactS
import Derived.Shelf.Slices.In.SortNone
import Derived.Shelf.Small.Bits
import Derived.Shelf.Sort.Plain
import Derived.Shelf.Strconv.Itoa0
import Derived.ShutString
import Derived.SizedLaws
import Derived.StillTail
import Derived.Test.YtndjggncgpjolaaGreatProg
import Derived.Test.YtndjggncgpjolaaGreatRows
import Derived.WalkKit
import Derived.Test.YtndjggncgpjolaaGreatCExactSheetJoina
import Derived.Test.YtndjggncgpjolaaGreatCExactSheetJoinb
import Derived.Test.YtndjggncgpjolaaGreatCExactSheetJoinc
import Derived.Test.YtndjggncgpjolaaGreatCExactSheetJoind
namespace Go.Proofs.YtndjggncgpjolaaGreat
set_option linter.unusedVariables false
set_option linter.unusedSimpArgs false
set_option linter.unusedSectionVars false
set_option maxHeartbeats 8000000
set_option maxRecDepth 100000
section
open Go.RowKit
def F33.E (base_ : List Feat) (a : List Feat) (b : List Feat) (Q : List Feat → List Clash → Bool → Prop) : Prop :=
 F57.E base_ (fun r => (if !r then Q ([] : List Feat) ([] : List Clash) false else F57.E a (fun r2 => (if !r2 then Q ([] : List Feat) ([] : List Clash) false else F57.E b (fun r3 => (if !r3 then Q ([] : List Feat) ([] : List Clash) false else F119.E ([base_, a, b] : List (List Feat)) (fun r4 => (∃ (I161 : (List Clash) → (List Feat) → (List Str) → Int → Prop) (mu162 : (List Clash) → (List Feat) → (List Str) → Int → Nat), I161 ([] : List Clash) ([] : List Feat) r4 0 ∧ ∀ (xs4 : List Clash) (xs5 : List Feat) (xs6 : List Str) (v2 : Int), I161 xs4 xs5 xs6 v2 → (if decide (v2 < (r4.length : Int)) then ((0 : Int) ≤ v2 ∧ v2 < (xs6.length : Int)) ∧ F64.E base_ (nth xs6 v2) (fun r5 => F64.E a (nth xs6 v2) (fun r6 => F64.E b (nth xs6 v2) (fun r7 => (∃ (f : thing → thing → Bool) (f_ok : thing → thing → Prop), (∀ x0_ x1_, f_ok x0_ x1_ → F32.E x0_ x1_  (fun r => r = f x0_ x1_)) ∧ F8.E r5 r6 r7 f f_ok (fun r8 r9 => (∃ (J379 : (List Clash) → (List Feat) → (List Str) → Bool → Str → Int → (List Pt) → (List Tag) → Prop), ((if r9 then J379 xs4 xs5 xs6 r8.has r8.f.Id r8.f.Shape.Kind r8.f.Shape.Pts r8.f.Tags else (if !r6.has then (xs4.length + ([(⟨(nth xs6 v2), ([103, 111, 110, 101] : Str)⟩ : Clash)] : List Clash).length ≤ 268435456) ∧ J379 (xs4 ++ ([(⟨(nth xs6 v2), ([103, 111, 110, 101] : Str)⟩ : Clash)] : List Clash)) xs5 xs6 r7.has r7.f.Id r7.f.Shape.Kind r7.f.Shape.Pts r7.f.Tags else (if !r7.has then (xs4.length + ([(⟨(nth xs6 v2), ([103, 111, 110, 101] : Str)⟩ : Clash)] : List Clash).length ≤ 268435456) ∧ J379 (xs4 ++ ([(⟨(nth xs6 v2), ([103, 111, 110, 101] : Str)⟩ : Clash)] : List Clash)) xs5 xs6 r6.has r6.f.Id r6.f.Shape.Kind r6.f.Shape.Pts r6.f.Tags else (if !r5.has then (xs4.length + ([(⟨(nth xs6 v2), ([98, 111, 116, 104] : Str)⟩ : Clash)] : List Clash).length ≤ 268435456) ∧ J379 (xs4 ++ ([(⟨(nth xs6 v2), ([98, 111, 116, 104] : Str)⟩ : Clash)] : List Clash)) xs5 xs6 r6.has r6.f.Id r6.f.Shape.Kind r6.f.Shape.Pts r6.f.Tags else F48.E r5.f r6.f r7.f (fun r10 r11 => (∃ (I699 : (List Clash) → Int → Prop) (mu700 : (List Clash) → Int → Nat), I699 xs4 0 ∧ ∀ (xs11 : List Clash) (v4 : Int), I699 xs11 v4 → (if decide (v4 < (r11.length : Int)) then ((0 : Int) ≤ v4 ∧ v4 < (r11.length : Int)) ∧ (xs11.length + ([(⟨(nth xs6 v2), (nth r11 v4)⟩ : Clash)] : List Clash).length ≤ 268435456) ∧ (I64 (v4 + 1)) ∧ I699 (xs11 ++ ([(⟨(nth xs6 v2), (nth r11 v4)⟩ : Clash)] : List Clash)) (v4 + 1) ∧ mu700 (xs11 ++ ([(⟨(nth xs6 v2), (nth r11 v4)⟩ : Clash)] : List Clash)) (v4 + 1) < mu700 xs11 v4 else J379 xs11 xs5 xs6 true r10.Id r10.Shape.Kind r10.Shape.Pts r10.Tags)))))))) ∧ ∀ (xs7 : List Clash) (xs8 : List Feat) (xs9 : List Str) (z : Bool) (z2 : Str) (z3 : Int) (z4 : List Pt) (z5 : List Tag), J379 xs7 xs8 xs9 z z2 z3 z4 z5 → (∃ (J817 : (List Feat) → Prop), ((if z then F27.E (⟨z2, (⟨z3, z4⟩ : Shape), z5⟩ : Feat) (fun r12 => (xs8.length + ([r12] : List Feat).length ≤ 268435456) ∧ J817 (xs8 ++ ([r12] : List Feat))) else J817 xs8)) ∧ ∀ (xs12 : List Feat), J817 xs12 → (I64 (v2 + 1)) ∧ I161 xs7 xs12 xs9 (v2 + 1) ∧ mu162 xs7 xs12 xs9 (v2 + 1) < mu162 xs4 xs5 xs6 v2))))))) else F57.E xs5 (fun r13 => (if !r13 then Q ([] : List Feat) ([] : List Clash) false else Q xs5 xs4 true)))))))))))
theorem F33.calls {O : Ob} (w0 : World) (hO : Ok w0 O) (base_ : List Feat) (A1 : Option Addr) (n2 c3 : Nat) (hp4 : Sl kFeat w0 (Fr O) (.slice A1 n2 c3) base_) (a : List Feat) (A6 : Option Addr) (n7 c8 : Nat) (hp9 : Sl kFeat w0 (Fr O) (.slice A6 n7 c8) a) (b : List Feat) (bw : Option Addr) (bx bg : Nat) (ie : Sl kFeat w0 (Fr O) (.slice bw bx bg) b) (Q : List Feat → List Clash → Bool → Prop) (h : F33.E base_ a b Q) :
  Ret Tryz.prog 17 [.slice A1 n2 c3, .slice A6 n7 c8, .slice bw bx bg] w0 (fun v w' => ∃ (r0 : List Feat) (r1 : List Clash) (r2 : Bool) (A0 : Option Addr) (n0 c0 : Nat) (q0 : Ob) (ra0 : List (List Value)) (e2 : Option Addr) (kx bg : Nat), v = .tuple #[.slice A0 n0 c0, .slice e2 kx bg, vb r2] ∧ Q r0 r1 r2 ∧ Gr w0 w' none ∧ Ok w' ((bk A0 :: bk e2 :: (q0 ++ [])) ++ O) ∧ (∀ b, some b ∈ (bk A0 :: bk e2 :: (q0 ++ [])) → w0.heap.size ≤ b) ∧ Ow (Kd.cells 4) 61 w' ((bk A0 :: bk e2 :: (q0 ++ [])) ++ O) (.slice A0 n0 c0) ra0 ∧ DArr dFeat_61 w' q0 r0 ra0 ∧ Ow kClash 90 w' ((bk A0 :: bk e2 :: (q0 ++ [])) ++ O) (.slice e2 kx bg) r1) := by
 unfold F33.E at h
 have H := h
 clear h
 have hc0 := Ct.init hO
 refine Ret_enter Tryz.func17 rfl 137 rfl [.tmp 6, .tmp 7, .tmp 8] rfl rfl ?_
 refine W_seq (W_reg (L_as (.slice none 0 0) rfl (L_as (.slice none 0 0) rfl (L_as (vb false) rfl (L_nil (W_seq (W_reg (L_lit (kd := kClash) ei37 hc0 ([] : List Clash) (cells := []) rfl (fun _ => by kernel_rfl) fun my bp cf cg vg hr21 mz hc => ?_))))))))
 refine L_as (.slice bp cf cg) rfl (L_nil (W_seq (W_reg ?_)))
 have hd : DArr dFeat_61 my ([] : Ob) ([] : List Feat) ([] : List (List Value)) := rfl
 refine L_lit (kd := Kd.cells 4) ei26 mz ([] : List (List Value)) (cells := []) rfl (fun _ => by kernel_rfl) fun m0 bq ch ci d1 hr30 dm he => ?_
 have dn : ([bk bq, bk bp] : Ob).Perm (bk bq :: bk bp :: (([] : Ob) ++ [])) := (pc fun a => by (try simp only [pca, pcc, pcn, Nat.add_zero, Nat.zero_add]); first | done | ac_rfl)
 have ig := dm.perm dn
 refine L_as (.slice bq ch ci) rfl (L_nil (W_seq (W_seq (W_reg (L_mv (.slice A1 n2 c3) rfl ?_)))))
 refine L_call go31 [.slice A1 n2 c3] rfl ((F57.calls m0 ig.ok base_ A1 n2 c3 (hp4.st ig.st) _ H).mono ?_)
 rintro _ m1 ⟨r, rfl, H, ck⟩
 have e3 := ig.k0 ck
 refine L_pu (P_not r rfl) (L_mv (vb (!r)) rfl ?_)
 rcases bool_or (!r) with cw | cw
 ·have H := ite_t H cw
  refine L_pb cw rfl (L_pb cw rfl (L_pb cw rfl (L_pu (P_pick true (vb true) (by exact congrArg Value.bool cw) rfl) (L_mv (vb true) rfl (L_pass (dj := 32) rfl rfl (.inl rfl) (L_pass (dj := 32) rfl rfl (.inl rfl) (L_pass (dj := 32) rfl rfl (.inl rfl) (L_pu (P_pick true (vb true) (by exact congrArg Value.bool rfl) rfl) ?_))))))))
  refine L_nil (W_ct (b := true) rfl rfl ?_)
  refine W_seq (W_reg (L_mv (.slice bq ch ci) rfl (L_mv (.slice bp cf cg) rfl (L_as (.slice bq ch ci) rfl (L_as (.slice bp cf cg) rfl (L_as (vb false) rfl (L_nil (W_ret ?_))))))))
  have m2 := ((dm.sp he dn).sn ck)
  have m3 := ((hd.k0 d1).k0 ck)
  have m4 := ((dm.sp (hc.so _ d1 hr30) dn).sn ck)
  exact ⟨[.slice bq ch ci, .slice bp cf cg, vb false], ⟨_, rfl, ⟨_, rfl, ⟨_, rfl, rfl⟩⟩⟩, ([] : List Feat), ([] : List Clash), false, bq, ch, ci, ([] : Ob), ([] : List (List Value)), bp, cf, cg, rfl, H, e3.gr.g0, e3.ok, e3.ge, m2, m3, m4⟩
 have H := ite_f H cw
 refine L_rb cw rfl (L_mv (.slice A6 n7 c8) rfl (L_rb cw rfl ?_))
 refine L_call go31 [.slice A6 n7 c8] rfl ((F57.calls m1 e3.ok a A6 n7 c8 (hp9.st e3.st) _ H).mono ?_)
 rintro _ m5 ⟨r2, rfl, H, dd⟩
 have e4 := e3.k0 dd
 refine L_rb cw rfl (L_pu (P_not r2 rfl) (L_pu (P_pick false (vb (!r2)) (by exact congrArg Value.bool cw) rfl) (L_mv (vb (!r2)) rfl ?_)))
 rcases bool_or (!r2) with cx | cx
 ·have H := ite_t H cx
  refine L_pb cx rfl (L_pb cx rfl (L_pb cx rfl (L_pu (P_pick true (vb true) (by exact congrArg Value.bool cx) rfl) (L_nil (W_ct (b := true) rfl rfl ?_)))))
  refine W_seq (W_reg (L_mv (.slice bq ch ci) rfl (L_mv (.slice bp cf cg) rfl (L_as (.slice bq ch ci) rfl (L_as (.slice bp cf cg) rfl (L_as (vb false) rfl (L_nil (W_ret ?_))))))))
  have m6 := (((dm.sp he dn).sn ck).sn dd)
  have m7 := (((hd.k0 d1).k0 ck).k0 dd)
  have m8 := (((dm.sp (hc.so _ d1 hr30) dn).sn ck).sn dd)
  exact ⟨[.slice bq ch ci, .slice bp cf cg, vb false], ⟨_, rfl, ⟨_, rfl, ⟨_, rfl, rfl⟩⟩⟩, ([] : List Feat), ([] : List Clash), false, bq, ch, ci, ([] : Ob), ([] : List (List Value)), bp, cf, cg, rfl, H, e4.gr.g0, e4.ok, e4.ge, m6, m7, m8⟩
 have H := ite_f H cx
 refine L_rb cx rfl (L_mv (.slice bw bx bg) rfl (L_rb cx rfl ?_))
 refine L_call go31 [.slice bw bx bg] rfl ((F57.calls m5 e4.ok b bw bx bg (ie.st e4.st) _ H).mono ?_)
 rintro _ vh ⟨r3, rfl, H, eh⟩
 have ei := e4.k0 eh
 refine L_rb cx rfl (L_pu (P_not r3 rfl) (L_pu (P_pick false (vb (!r3)) (by exact congrArg Value.bool cx) rfl) (L_nil ?_)))
 refine W_cond (!r3) rfl (fun ih => ?_) (fun ih => ?_)
 ·have H := ite_t H ih
  refine W_seq (W_reg (L_mv (.slice bq ch ci) rfl (L_mv (.slice bp cf cg) rfl (L_as (.slice bq ch ci) rfl (L_as (.slice bp cf cg) rfl (L_as (vb false) rfl (L_nil (W_ret ?_))))))))
  have m9 := ((((dm.sp he dn).sn ck).sn dd).sn eh)
  have na := ((((hd.k0 d1).k0 ck).k0 dd).k0 eh)
  have nb := ((((dm.sp (hc.so _ d1 hr30) dn).sn ck).sn dd).sn eh)
  exact ⟨[.slice bq ch ci, .slice bp cf cg, vb false], ⟨_, rfl, ⟨_, rfl, ⟨_, rfl, rfl⟩⟩⟩, ([] : List Feat), ([] : List Clash), false, bq, ch, ci, ([] : Ob), ([] : List (List Value)), bp, cf, cg, rfl, H, ei.gr.g0, ei.ok, ei.ge, m9, na, nb⟩
 have H := ite_f H ih
 refine W_skip (W_seq (W_seq (W_reg (L_mv (.slice A1 n2 c3) rfl (L_mv (.slice A6 n7 c8) rfl (L_mv (.slice bw bx bg) rfl (L_lit (kd := (Kd.sl kFeat)) ei118 ei ([base_, a, b] : List (List Feat)) (cells := [.slice A1 n2 c3, .slice A6 n7 c8, .slice bw bx bg]) ⟨[.slice A1 n2 c3], _, rfl, ⟨_, rfl, (hp4.st ei.st)⟩, ⟨[.slice A6 n7 c8], _, rfl, ⟨_, rfl, (hp9.st ei.st)⟩, ⟨[.slice bw bx bg], _, rfl, ⟨_, rfl, (ie.st ei.st)⟩, rfl⟩⟩⟩ (fun _ => by kernel_rfl) fun nc hf ky kz ii hr72 hg nd => ?_)))))))
 have ne := hg.gv nd 0 rfl
 have nf := hg.drop 0 rfl
 refine L_call go49 [.slice hf ky kz] rfl ((F119.calls nc nf.ok ([base_, a, b] : List (List Feat)) hf ky kz ne _ H).mono ?_)
 rintro _ vj ⟨r4, k1, k2, k3, rfl, H, f3, ng, hh, nh⟩
 have ni := Ok.unl (L := (bk hf :: bk bq :: bk bp :: (([] : Ob) ++ []))) (L' := (bk bq :: bk bp :: (([] : Ob) ++ []))) (O := O) hg f3 ng hh
 have ij := Ow.unl (L := (bk hf :: bk bq :: bk bp :: (([] : Ob) ++ []))) (L' := (bk bq :: bk bp :: (([] : Ob) ++ []))) (O := O) (fun _ _ _ _ _ _ h => h) (.cons _ (.cons_cons _ (.cons_cons _ (.append (.refl _) (.refl _))))) nh
 have hi := hg.owns f3 ni hh
 have vk := ij.le
 refine L_pu (P_len Tryz.underlying81 k1 k2 k3 ij.len rfl) (L_mv (vi 0) rfl (L_nil (W_block ?_)))
 have hj := hi.drop 1 rfl
 obtain ⟨nj, nk, ik, H⟩ := H
 have nl := (hi.sd ((((((dm.sp (hc.so _ d1 hr30) dn).sn ck).sn dd).sn eh).so _ ii hr72).sos f3 hh) 3 1 rfl rfl rfl)
 have nm := (hi.sd ((((((dm.sp he dn).sn ck).sn dd).sn eh).so _ ii hr72).sos f3 hh) 2 1 rfl rfl rfl)
 have nn := ((((((hd.k0 d1).k0 ck).k0 dd).k0 eh).k0 ii).k0 f3)
 have no := (hi.sd ij 0 1 rfl rfl rfl)
 refine W_loop (α := (List Clash) × (Option Addr) × Nat × Nat × (List Feat) × (List (List Value)) × Ob × (Option Addr) × Nat × Nat × (List Str) × (Option Addr) × Nat × Nat × Int) (fun (sv__ : (List Clash) × (Option Addr) × Nat × Nat × (List Feat) × (List (List Value)) × Ob × (Option Addr) × Nat × Nat × (List Str) × (Option Addr) × Nat × Nat × Int) t cy => match sv__ with | (xs4, ad, cd, ce, xs5, cz, ac, aa, b5, b6, xs6, ab, c1, c2, v2) => nj xs4 xs5 xs6 v2 ∧ Has t [(0, .slice A1 n2 c3), (1, .slice A6 n7 c8), (2, .slice bw bx bg), (9, .slice ad cd ce), (10, .slice aa b5 b6), (43, .slice ab c1 c2), (44, vi (r4.length : Int)), (45, vi v2)] ∧ Ct [] w0 cy (bk ab :: bk aa :: bk ad :: (ac ++ [])) O ∧ Sl kFeat cy (Fr ((bk ab :: bk aa :: bk ad :: (ac ++ [])) ++ O)) (.slice A1 n2 c3) base_ ∧ Sl kFeat cy (Fr ((bk ab :: bk aa :: bk ad :: (ac ++ [])) ++ O)) (.slice A6 n7 c8) a ∧ Sl kFeat cy (Fr ((bk ab :: bk aa :: bk ad :: (ac ++ [])) ++ O)) (.slice bw bx bg) b ∧ Ow kClash 90 cy ((bk ab :: bk aa :: bk ad :: (ac ++ [])) ++ O) (.slice ad cd ce) xs4 ∧ Ow (Kd.cells 4) 61 cy ((bk ab :: bk aa :: bk ad :: (ac ++ [])) ++ O) (.slice aa b5 b6) cz ∧ DArr dFeat_61 cy ac xs5 cz ∧ Ow Kd.str 9 cy ((bk ab :: bk aa :: bk ad :: (ac ++ [])) ++ O) (.slice ab c1 c2) xs6) (fun (sv__ : (List Clash) × (Option Addr) × Nat × Nat × (List Feat) × (List (List Value)) × Ob × (Option Addr) × Nat × Nat × (List Str) × (Option Addr) × Nat × Nat × Int) => match sv__ with | (xs4, _, _, _, xs5, _, _, _, _, _, xs6, _, _, _, v2) => nk xs4 xs5 xs6 v2) (([] : List Clash), bp, cf, cg, ([] : List Feat), ([] : List (List Value)), ([] : Ob), bq, ch, ci, r4, k1, k2, k3, 0) ⟨ik, (hasI rfl), hj, (hp4.st hj.st), (hp9.st hj.st), (ie.st hj.st), nl, nm, nn, no⟩ ?_
 rintro ⟨xs4, ad, cd, ce, xs5, cz, ac, aa, b5, b6, xs6, ab, c1, c2, v2⟩ _ cy ⟨ik, np, f4, e5, e6, nq, e7, ej, ek, el⟩
 obtain ⟨vl, rfl⟩ := Has.ins np
 have H := H xs4 xs5 xs6 v2 ik
 refine W_seq (W_reg (L_pu (P_cmp v2 (r4.length : Int) (decide (v2 < (r4.length : Int))) rfl rfl rfl) (L_nil (W_seq ?_))))
 refine W_cond (decide (v2 < (r4.length : Int))) rfl (fun il => ?_) (fun il => ?_)
 ·have H := ite_t H il
  refine W_skip (W_seq (W_block (W_seq (W_reg ?_))))
  obtain ⟨k4, H⟩ := H
  obtain ⟨k5, vm, nr, ns, nt⟩ := el.get default (by decide) v2 k4
  obtain ⟨rfl, em⟩ := Kd.str.op ns
  refine L_pu (P_ia Tryz.underlying81 se81 ab k5 c1 c2 el.len v2 rfl nr rfl k4) (L_pu (P_ld ag9 cL (k5.add (v2.toNat * 1)) (vs (nth xs6 v2)) rfl (nt 0 _ rfl)) (L_as (vs (nth xs6 v2)) rfl (L_nil (W_seq (W_reg (L_mv (.slice A1 n2 c3) rfl (L_mv (vs (nth xs6 v2)) rfl ?_)))))))
  refine L_call go50 [.slice A1 n2 c3, vs (nth xs6 v2)] rfl ((F64.calls cy f4.ok base_ A1 n2 c3 e5 (nth xs6 v2) em _ H).mono ?_)
  rintro _ nu ⟨r5, be, d2, d3, bf, d4, d5, rfl, H, bh, nv, ca, k6, nw, nx⟩
  have im := f4.owns bh nv ca
  refine L_mv (.slice A6 n7 c8) rfl (L_mv (vs (nth xs6 v2)) rfl ?_)
  have cr := f4.stos bh ca
  refine L_call go50 [.slice A6 n7 c8, vs (nth xs6 v2)] rfl ((F64.calls nu im.ok a A6 n7 c8 (e6.st cr) (nth xs6 v2) em _ H).mono ?_)
  rintro _ ny ⟨r6, ai, br, bs, aj, bt, bu, rfl, H, bd, nz, bz, hk, n1, n3⟩
  have en := im.owns bd nz bz
  refine L_mv (.slice bw bx bg) rfl (L_mv (vs (nth xs6 v2)) rfl ?_)
  have c4 := im.stos bd bz
  have e8 := ((nq.st cr).st c4)
  refine L_call go50 [.slice bw bx bg, vs (nth xs6 v2)] rfl ((F64.calls ny en.ok b bw bx bg e8 (nth xs6 v2) em _ H).mono ?_)
  rintro _ vn ⟨r7, a5, cs, ct, a4, cu, cv, rfl, H, av, n4, bc, io, n5, n6⟩
  have e9 := en.owns av n4 bc
  refine L_alloc [vb false, vs [], .int .i64 0, .slice none 0 0, .slice none 0 0] ze84 fun vo ah a7 hu238 au n8 => ?_
  have fa := e9.own au (some ah) (oglt a7 hu238)
  refine L_alloc [vb false, vs [], .int .i64 0, .slice none 0 0, .slice none 0 0] ze84 fun vp af a8 hu246 ar n9 => ?_
  have fb := fa.own ar (some af) (oglt a8 hu246)
  refine L_alloc [vb false, vs [], .int .i64 0, .slice none 0 0, .slice none 0 0] ze84 fun vq ag a9 hu254 ak oa => ?_
  have al := fb.own ak (some ag) (oglt a9 hu254)
  have ob := ((n8.k0 ar).k0 ak)
  refine L_stb ah 0 [vb false, vs ([] : Str), vi 0, .slice none 0 0, .slice none 0 0] [vb r5.has, vs r5.f.Id, vi r5.f.Shape.Kind, .slice be d2 d3, .slice bf d4 d5] [vb r5.has, vs r5.f.Id, vi r5.f.Shape.Kind, .slice be d2 d3, .slice bf d4 d5] rfl ob rfl sz84 rfl rfl rfl fun vr am oc => ?_
  have an := al.wr 2 rfl am
  have od := (al.bm (n9.k0 ak) 1 2 rfl rfl rfl am)
  refine L_stb af 0 [vb false, vs ([] : Str), vi 0, .slice none 0 0, .slice none 0 0] [vb r6.has, vs r6.f.Id, vi r6.f.Shape.Kind, .slice ai br bs, .slice aj bt bu] [vb r6.has, vs r6.f.Id, vi r6.f.Shape.Kind, .slice ai br bs, .slice aj bt bu] rfl od rfl sz84 rfl rfl rfl fun vt ao oe => ?_
  have ap := an.wr 1 rfl ao
  have og := (an.bm (al.bm oa 0 2 rfl rfl rfl am) 0 1 rfl rfl rfl ao)
  refine L_stb ag 0 [vb false, vs ([] : Str), vi 0, .slice none 0 0, .slice none 0 0] [vb r7.has, vs r7.f.Id, vi r7.f.Shape.Kind, .slice a5 cs ct, .slice a4 cu cv] [vb r7.has, vs r7.f.Id, vi r7.f.Shape.Kind, .slice a5 cs ct, .slice a4 cu cv] rfl og rfl sz84 rfl rfl rfl fun hl aq ip => ?_
  have ba := ap.wr 0 rfl aq
  refine L_nil (W_seq (W_reg ?_))
  have k7 := (ap.bm (an.bm oc 2 1 rfl rfl rfl ao) 2 0 rfl rfl rfl aq)
  refine L_pu (P_lda ag84 sz84 cL ⟨ah, 0, none⟩ [vb r5.has, vs r5.f.Id, vi r5.f.Shape.Kind, .slice be d2 d3, .slice bf d4 d5] rfl rfl (k7.cells (off := 0) rfl)) ?_
  have k8 := (ap.bm oe 1 0 rfl rfl rfl aq)
  refine L_pu (P_lda ag84 sz84 cL ⟨af, 0, none⟩ [vb r6.has, vs r6.f.Id, vi r6.f.Shape.Kind, .slice ai br bs, .slice aj bt bu] rfl rfl (k8.cells (off := 0) rfl)) (L_pu (P_lda ag84 sz84 cL ⟨ag, 0, none⟩ [vb r7.has, vs r7.f.Id, vi r7.f.Shape.Kind, .slice a5 cs ct, .slice a4 cu cv] rfl rfl (ip.cells (off := 0) rfl)) ?_)
  have oh := (ap.sw (an.sw (al.sw (((((nw.sos bd bz).sos av bc).so _ au (oge a7)).so _ ar (oge a8)).so _ ak (oge a9)) 7 2 rfl rfl rfl am) 7 1 rfl rfl rfl ao) 7 0 rfl rfl rfl aq)
  have oi := ba.gv oh 7 rfl
  have bi := ba.drop 7 rfl
  have oj := (ba.sd (ap.sw (an.sw (al.sw (((((nx.sos bd bz).sos av bc).so _ au (oge a7)).so _ ar (oge a8)).so _ ak (oge a9)) 8 2 rfl rfl rfl am) 8 1 rfl rfl rfl ao) 8 0 rfl rfl rfl aq) 8 7 rfl rfl rfl)
  have ol := bi.gv oj 7 rfl
  have bl : Ct [] w0 hl (some ag :: some af :: some ah :: bk a5 :: bk a4 :: bk ai :: bk aj :: bk ab :: bk aa :: bk ad :: (ac ++ [])) O := bi.drop 7 rfl
  have om := (bi.sd (ba.sd (ap.sw (an.sw (al.sw ((((n1.sos av bc).so _ au (oge a7)).so _ ar (oge a8)).so _ ak (oge a9)) 5 2 rfl rfl rfl am) 5 1 rfl rfl rfl ao) 5 0 rfl rfl rfl aq) 5 7 rfl rfl rfl) 5 7 rfl rfl rfl)
  have on := bl.gv om 5 rfl
  have bv := bl.drop 5 rfl
  have oo := (bl.sd (bi.sd (ba.sd (ap.sw (an.sw (al.sw ((((n3.sos av bc).so _ au (oge a7)).so _ ar (oge a8)).so _ ak (oge a9)) 6 2 rfl rfl rfl am) 6 1 rfl rfl rfl ao) 6 0 rfl rfl rfl aq) 6 7 rfl rfl rfl) 6 7 rfl rfl rfl) 6 5 rfl rfl rfl)
  have oq := bv.gv oo 5 rfl
  have b0 := bv.drop 5 rfl
  have os := (bv.sd (bl.sd (bi.sd (ba.sd (ap.sw (an.sw (al.sw (((n5.so _ au (oge a7)).so _ ar (oge a8)).so _ ak (oge a9)) 3 2 rfl rfl rfl am) 3 1 rfl rfl rfl ao) 3 0 rfl rfl rfl aq) 3 7 rfl rfl rfl) 3 7 rfl rfl rfl) 3 5 rfl rfl rfl) 3 5 rfl rfl rfl)
  have iq := b0.gv os 3 rfl
  have b7 : Ct [] w0 hl (some ag :: some af :: some ah :: bk a4 :: bk ab :: bk aa :: bk ad :: (ac ++ [])) O := b0.drop 3 rfl
  have ot := (b0.sd (bv.sd (bl.sd (bi.sd (ba.sd (ap.sw (an.sw (al.sw (((n6.so _ au (oge a7)).so _ ar (oge a8)).so _ ak (oge a9)) 4 2 rfl rfl rfl am) 4 1 rfl rfl rfl ao) 4 0 rfl rfl rfl aq) 4 7 rfl rfl rfl) 4 7 rfl rfl rfl) 4 5 rfl rfl rfl) 4 5 rfl rfl rfl) 4 3 rfl rfl rfl)
  have ir := b7.gv ot 3 rfl
  have eo := b7.drop 3 rfl
  have cc := bi.std 7 rfl
  have cb := bl.std 5 rfl
  have b8 := bv.std 5 rfl
  have b1 := b0.std 3 rfl
  have bj := b7.std 3 rfl
  have k9 := (((((oi.st cc).st cb).st b8).st b1).st bj)
  have la := ((((ol.st cb).st b8).st b1).st bj)
  have hm := (((on.st b8).st b1).st bj)
  have hn := ((oq.st b1).st bj)
  obtain ⟨f, f_ok, ou, H⟩ := H
  have ov : ∀ (w : World) (L : Ob), Ct [] hl w L ((some ag :: some af :: some ah :: bk ab :: bk aa :: bk ad :: (ac ++ [])) ++ O) → ∀ (x0_ : thing) (ho : Option Addr) (hp hq : Nat) (hr : Option Addr) (hs ht : Nat) (lb : Lim x0_.f.Id) (lc : Sl kPt w (Fr (L ++ ((some ag :: some af :: some ah :: bk ab :: bk aa :: bk ad :: (ac ++ [])) ++ O))) (.slice ho hp hq) x0_.f.Shape.Pts) (ld : Sl kTag w (Fr (L ++ ((some ag :: some af :: some ah :: bk ab :: bk aa :: bk ad :: (ac ++ [])) ++ O))) (.slice hr hs ht) x0_.f.Tags) (x1_ : thing) (hu : Option Addr) (hv hw : Nat) (hx : Option Addr) (hy hz : Nat) (lf : Lim x1_.f.Id) (lg : Sl kPt w (Fr (L ++ ((some ag :: some af :: some ah :: bk ab :: bk aa :: bk ad :: (ac ++ [])) ++ O))) (.slice hu hv hw) x1_.f.Shape.Pts) (lh : Sl kTag w (Fr (L ++ ((some ag :: some af :: some ah :: bk ab :: bk aa :: bk ad :: (ac ++ [])) ++ O))) (.slice hx hy hz) x1_.f.Tags), f_ok x0_ x1_ → Ret Tryz.prog 52 ([.agg #[vb x0_.has, vs x0_.f.Id, vi x0_.f.Shape.Kind, .slice ho hp hq, .slice hr hs ht], .agg #[vb x1_.has, vs x1_.f.Id, vi x1_.f.Shape.Kind, .slice hu hv hw, .slice hx hy hz]] ++ []) w (fun v w' => v = vb (f x0_ x1_) ∧ Gr w w' none) := by
   intro w L c x0_ ho hp hq hr hs ht lb lc ld x1_ hu hv hw hx hy hz lf lg lh hok
   refine (F32.calls w c.ok x0_ ho hp hq hr hs ht lb lc ld x1_ hu hv hw hx hy hz lf lg lh  _ (ou x0_ x1_ hok)).mono ?_
   rintro _ w2 ⟨r, rfl, rfl, g2⟩
   exact ⟨rfl, g2⟩
  refine L_call go51 [.agg #[vb r5.has, vs r5.f.Id, vi r5.f.Shape.Kind, .slice be d2 d3, .slice bf d4 d5], .agg #[vb r6.has, vs r6.f.Id, vi r6.f.Shape.Kind, .slice ai br bs, .slice aj bt bu], .agg #[vb r7.has, vs r7.f.Id, vi r7.f.Shape.Kind, .slice a5 cs ct, .slice a4 cu cv], .func (.func 52) #[] #[]] rfl ((F8.calls hl eo.ok r5 be d2 d3 bf d4 d5 k6 k9 la r6 ai br bs aj bt bu hk hm hn r7 a5 cs ct a4 cu cv io (iq.st bj) ir 52 [] f f_ok go52 ov _ H).mono ?_)
  rintro _ vu ⟨r8, r9, c5, c6, c7, c9, da, db, rfl, H, aw, ow, ox, oy⟩
  have fc := eo.k0 aw
  refine L_mv (.tuple #[.agg #[vb r8.has, vs r8.f.Id, vi r8.f.Shape.Kind, .slice c5 c6 c7, .slice c9 da db], vb r9]) rfl (L_pu (P_ext [.agg #[vb r8.has, vs r8.f.Id, vi r8.f.Shape.Kind, .slice c5 c6 c7, .slice c9 da db], vb r9] 0 (.agg #[vb r8.has, vs r8.f.Id, vi r8.f.Shape.Kind, .slice c5 c6 c7, .slice c9 da db]) rfl rfl) (L_pu (P_ext [.agg #[vb r8.has, vs r8.f.Id, vi r8.f.Shape.Kind, .slice c5 c6 c7, .slice c9 da db], vb r9] 1 (vb r9) rfl rfl) (L_alloc [vb false, vs [], .int .i64 0, .slice none 0 0, .slice none 0 0] ze84 fun vv ae bn hu331 ax oz => ?_)))
  have ay := fc.own ax (some ae) (oglt bn hu331)
  refine L_stb ae 0 [vb false, vs ([] : Str), vi 0, .slice none 0 0, .slice none 0 0] [vb r8.has, vs r8.f.Id, vi r8.f.Shape.Kind, .slice c5 c6 c7, .slice c9 da db] [vb r8.has, vs r8.f.Id, vi r8.f.Shape.Kind, .slice c5 c6 c7, .slice c9 da db] rfl oz rfl sz84 rfl rfl rfl fun o0 az f5 => ?_
  have a6 := ay.wr 0 rfl az
  refine L_as (vb r9) rfl (L_nil (W_seq (W_block (W_seq (W_reg (L_mv (vb r9) rfl (L_as (vb r9) rfl (L_nil ?_))))))))
  obtain ⟨o1, H, o2⟩ := H
  refine W_join (J := (fun t cl => ∃ (xs7 : List Clash) (a0 : Option Addr) (fd : Nat) (fe : Nat) (xs8 : List Feat) (ep : List (List Value)) (bo : Ob) (b2 : Option Addr) (ff : Nat) (fg : Nat) (xs9 : List Str) (a1 : Option Addr) (fh : Nat) (fi : Nat) (z : Bool) (z2 : Str) (z3 : Int) (z4 : List Pt) (fj : Option Addr) (fk : Nat) (fl : Nat) (z5 : List Tag) (fm : Option Addr) (fn : Nat) (fo : Nat), o1 xs7 xs8 xs9 z z2 z3 z4 z5 ∧ Has t [(0, .slice A1 n2 c3), (1, .slice A6 n7 c8), (2, .slice bw bx bg), (9, .slice a0 fd fe), (10, .slice b2 ff fg), (16, .pointer (some ⟨ae, 0, none⟩)), (43, .slice a1 fh fi), (44, vi (r4.length : Int)), (45, vi v2)] ∧ Ct [] w0 cl (some ae :: bk a1 :: bk b2 :: bk a0 :: (bo ++ [])) O ∧ Lim z2 ∧ Sl kFeat cl (Fr ((some ae :: bk a1 :: bk b2 :: bk a0 :: (bo ++ [])) ++ O)) (.slice A1 n2 c3) base_ ∧ Sl kFeat cl (Fr ((some ae :: bk a1 :: bk b2 :: bk a0 :: (bo ++ [])) ++ O)) (.slice A6 n7 c8) a ∧ Sl kFeat cl (Fr ((some ae :: bk a1 :: bk b2 :: bk a0 :: (bo ++ [])) ++ O)) (.slice bw bx bg) b ∧ Sl kPt cl (Fr ((some ae :: bk a1 :: bk b2 :: bk a0 :: (bo ++ [])) ++ O)) (.slice fj fk fl) z4 ∧ Sl kTag cl (Fr ((some ae :: bk a1 :: bk b2 :: bk a0 :: (bo ++ [])) ++ O)) (.slice fm fn fo) z5 ∧ Ow kClash 90 cl ((some ae :: bk a1 :: bk b2 :: bk a0 :: (bo ++ [])) ++ O) (.slice a0 fd fe) xs7 ∧ Ow (Kd.cells 4) 61 cl ((some ae :: bk a1 :: bk b2 :: bk a0 :: (bo ++ [])) ++ O) (.slice b2 ff fg) ep ∧ DArr dFeat_61 cl bo xs8 ep ∧ Ow Kd.str 9 cl ((some ae :: bk a1 :: bk b2 :: bk a0 :: (bo ++ [])) ++ O) (.slice a1 fh fi) xs9 ∧ Bx cl ae [vb z, vs z2, vi z3, .slice fj fk fl, .slice fm fn fo])) ?_ ?_
  ·refine W_cond r9 rfl (fun it => ?_) (fun it => ?_)
   ·have H := ite_t H it
    refine W_skip ?_
    have dp : ((some ae :: some ag :: some af :: some ah :: bk ab :: bk aa :: bk ad :: (ac ++ [])) : Ob).Perm ((some ag :: some af :: some ah :: []) ++ (some ae :: bk ab :: bk aa :: bk ad :: (ac ++ []))) := (pc fun a => by (try simp only [pca, pcc, pcn, Nat.add_zero, Nat.zero_add]); first | done | ac_rfl)
    have o3 := a6.drops dp
    have iu := en.stos av bc
    have iv := e9.stown _ au (oge a7)
    have iw := fa.stown _ ar (oge a8)
    have ix := fb.stown _ ak (oge a9)
    have iy := al.stw 2 rfl am
    have iz := an.stw 1 rfl ao
    have i0 := ap.stw 0 rfl aq
    have i1 := ba.std 7 rfl
    have i2 := eo.stn aw
    have f6 := fc.stown _ ax (oge bn)
    have f7 := ay.stw 0 rfl az
    have o4 := (((((((((((((((((((e5.st cr).st c4).st iu).st iv).st iw).st ix).st iy).st iz).st i0).st i1).st cc).st cb).st b8).st b1).st bj).st i2).st f6).st f7).st (St.drops _ O dp))
    have o5 := (((((((((((((((((((e6.st cr).st c4).st iu).st iv).st iw).st ix).st iy).st iz).st i0).st i1).st cc).st cb).st b8).st b1).st bj).st i2).st f6).st f7).st (St.drops _ O dp))
    have o6 := (((((((((((((((((e8.st iu).st iv).st iw).st ix).st iy).st iz).st i0).st i1).st cc).st cb).st b8).st b1).st bj).st i2).st f6).st f7).st (St.drops _ O dp))
    have o7 := (((ox.st f6).st f7).st (St.drops _ O dp))
    have o8 := (((oy.st f6).st f7).st (St.drops _ O dp))
    have o9 := (a6.odr (ay.sw (((b7.sd (b0.sd (bv.sd (bl.sd (bi.sd (ba.sd (ap.sw (an.sw (al.sw ((((((e7.sos bh ca).sos bd bz).sos av bc).so _ au (oge a7)).so _ ar (oge a8)).so _ ak (oge a9)) 11 2 rfl rfl rfl am) 11 1 rfl rfl rfl ao) 11 0 rfl rfl rfl aq) 11 7 rfl rfl rfl) 10 7 rfl rfl rfl) 9 5 rfl rfl rfl) 8 5 rfl rfl rfl) 7 3 rfl rfl rfl) 6 3 rfl rfl rfl).sn aw).so _ ax (oge bn)) 6 0 rfl rfl rfl az) dp 3 rfl)
    have pa := (a6.odr (ay.sw (((b7.sd (b0.sd (bv.sd (bl.sd (bi.sd (ba.sd (ap.sw (an.sw (al.sw ((((((ej.sos bh ca).sos bd bz).sos av bc).so _ au (oge a7)).so _ ar (oge a8)).so _ ak (oge a9)) 10 2 rfl rfl rfl am) 10 1 rfl rfl rfl ao) 10 0 rfl rfl rfl aq) 10 7 rfl rfl rfl) 9 7 rfl rfl rfl) 8 5 rfl rfl rfl) 7 5 rfl rfl rfl) 6 3 rfl rfl rfl) 5 3 rfl rfl rfl).sn aw).so _ ax (oge bn)) 5 0 rfl rfl rfl az) dp 2 rfl)
    have pb := (DArr.sm (L := (some ae :: some ag :: some af :: some ah :: bk ab :: bk aa :: bk ad :: (ac ++ []))) (O := O) (i := 0) (((DArr.sm (L := (some ag :: some af :: some ah :: bk a5 :: bk a4 :: bk ai :: bk aj :: bk be :: bk bf :: bk ab :: bk aa :: bk ad :: (ac ++ []))) (O := O) (i := 0) (DArr.sm (L := (some ag :: some af :: some ah :: bk a5 :: bk a4 :: bk ai :: bk aj :: bk be :: bk bf :: bk ab :: bk aa :: bk ad :: (ac ++ []))) (O := O) (i := 1) (DArr.sm (L := (some ag :: some af :: some ah :: bk a5 :: bk a4 :: bk ai :: bk aj :: bk be :: bk bf :: bk ab :: bk aa :: bk ad :: (ac ++ []))) (O := O) (i := 2) ((((((ek.k0 bh).k0 bd).k0 av).k0 au).k0 ar).k0 ak) al rfl (fun b hb => (mcm (mcm (mcm (mcm (mcm (mcm (mcm (mcm (mcm (List.mem_append_left _ hb))))))))))) am) an rfl (fun b hb => (mcm (mcm (mcm (mcm (mcm (mcm (mcm (mcm (mcm (mcm (List.mem_append_left _ hb)))))))))))) ao) ap rfl (fun b hb => (mcm (mcm (mcm (mcm (mcm (mcm (mcm (mcm (mcm (mcm (mcm (List.mem_append_left _ hb))))))))))))) aq).k0 aw).k0 ax) ay rfl (fun b hb => (mcm (mcm (mcm (mcm (mcm (mcm (List.mem_append_left _ hb)))))))) az)
    have pd := (a6.odr (ay.sw (((b7.sd (b0.sd (bv.sd (bl.sd (bi.sd (ba.sd (ap.sw (an.sw (al.sw ((((((el.sos bh ca).sos bd bz).sos av bc).so _ au (oge a7)).so _ ar (oge a8)).so _ ak (oge a9)) 9 2 rfl rfl rfl am) 9 1 rfl rfl rfl ao) 9 0 rfl rfl rfl aq) 9 7 rfl rfl rfl) 8 7 rfl rfl rfl) 7 5 rfl rfl rfl) 6 5 rfl rfl rfl) 5 3 rfl rfl rfl) 4 3 rfl rfl rfl).sn aw).so _ ax (oge bn)) 4 0 rfl rfl rfl az) dp 1 rfl)
    have pe := f5
    exact ⟨xs4, ad, cd, ce, xs5, cz, ac, aa, b5, b6, xs6, ab, c1, c2, r8.has, r8.f.Id, r8.f.Shape.Kind, r8.f.Shape.Pts, c5, c6, c7, r8.f.Tags, c9, da, db, H, (hasI rfl), o3, ow, o4, o5, o6, o7, o8, o9, pa, pb, pd, pe⟩
   have H := ite_f H it
   refine W_seq (W_reg (L_pu (P_fa fa84_0 ⟨af, 0, none⟩ ⟨af, 0, none⟩ rfl rfl) ?_))
   have eq := (ay.bm ((k8.k0 aw).k0 ax) 2 0 rfl rfl rfl az)
   refine L_pu (P_ld ag4 cL ⟨af, 0, none⟩ (vb r6.has) rfl (eq.cell rfl)) (L_pu (P_not r6.has rfl) (L_mv (vb (!r6.has)) rfl ?_))
   rcases bool_or (!r6.has) with cm | cm
   ·have H := ite_t H cm
    refine L_pb cm rfl (L_pb cm rfl (L_pb cm rfl (L_pu (P_pick true (vb true) (by exact congrArg Value.bool cm) rfl) (L_as (vb true) rfl (L_nil (W_ct (b := true) rfl rfl ?_))))))
    refine W_seq (W_reg (L_pu (P_lda ag84 sz84 cL ⟨af, 0, none⟩ [vb r6.has, vs r6.f.Id, vi r6.f.Shape.Kind, .slice ai br bs, .slice aj bt bu] rfl rfl (eq.cells (off := 0) rfl)) (L_stb ae 0 [vb r8.has, vs r8.f.Id, vi r8.f.Shape.Kind, .slice c5 c6 c7, .slice c9 da db] [vb r6.has, vs r6.f.Id, vi r6.f.Shape.Kind, .slice ai br bs, .slice aj bt bu] [vb r6.has, vs r6.f.Id, vi r6.f.Shape.Kind, .slice ai br bs, .slice aj bt bu] rfl f5 rfl sz84 rfl rfl rfl fun vw d6 pf => ?_)))
    have fp := a6.wr 0 rfl d6
    refine L_nil (W_seq (W_seq (W_reg (L_pu (P_fa fa84_0 ⟨af, 0, none⟩ ⟨af, 0, none⟩ rfl rfl) ?_))))
    have pg := (a6.bm eq 2 0 rfl rfl rfl d6)
    refine L_pu (P_ld ag4 cL ⟨af, 0, none⟩ (vb r6.has) rfl (pg.cell rfl)) (L_pu (P_not r6.has rfl) (L_nil (W_ct (b := !r6.has) rfl cm ?_)))
    refine W_reg ?_
    have ph := (a6.bm (ay.bm ((ip.k0 aw).k0 ax) 1 0 rfl rfl rfl az) 1 0 rfl rfl rfl d6)
    refine L_pu (P_lda ag84 sz84 cL ⟨ag, 0, none⟩ [vb r7.has, vs r7.f.Id, vi r7.f.Shape.Kind, .slice a5 cs ct, .slice a4 cu cv] rfl rfl (ph.cells (off := 0) rfl)) (L_stb ae 0 [vb r6.has, vs r6.f.Id, vi r6.f.Shape.Kind, .slice ai br bs, .slice aj bt bu] [vb r7.has, vs r7.f.Id, vi r7.f.Shape.Kind, .slice a5 cs ct, .slice a4 cu cv] [vb r7.has, vs r7.f.Id, vi r7.f.Shape.Kind, .slice a5 cs ct, .slice a4 cu cv] rfl pf rfl sz84 rfl rfl rfl fun vx fq pi => ?_)
    have h0 := fp.wr 0 rfl fq
    refine L_nil ?_
    have dq : ((some ae :: some ag :: some af :: some ah :: bk ab :: bk aa :: bk ad :: (ac ++ [])) : Ob).Perm ((some ag :: some af :: some ah :: []) ++ (some ae :: bk ab :: bk aa :: bk ad :: (ac ++ []))) := (pc fun a => by (try simp only [pca, pcc, pcn, Nat.add_zero, Nat.zero_add]); first | done | ac_rfl)
    have li := h0.drops dq
    refine W_reg (L_mv (.slice ad cd ce) rfl (L_mv (vs (nth xs6 v2)) rfl (L_pu (P_build (.agg #[vs (nth xs6 v2), vs ([103, 111, 110, 101] : Str)]) (fun _ => by kernel_rfl)) (L_lit (kd := kClash) ei37 li ([(⟨(nth xs6 v2), ([103, 111, 110, 101] : Str)⟩ : Clash)] : List Clash) (cells := [vs (nth xs6 v2), vs ([103, 111, 110, 101] : Str)]) ⟨[vs (nth xs6 v2), vs ([103, 111, 110, 101] : Str)], _, rfl, (kClash.mk _ _ (⟨(nth xs6 v2), ([103, 111, 110, 101] : Str)⟩ : Clash) em (by decide : Lim ([103, 111, 110, 101] : Str))), rfl⟩ (fun _ => by kernel_rfl) fun vy lj pj pk fr hr425 f8 pl => ?_))))
    obtain ⟨pm, H⟩ := H
    have pn := ((h0.odr (fp.sw (a6.sw (ay.sw (((b7.sd (b0.sd (bv.sd (bl.sd (bi.sd (ba.sd (ap.sw (an.sw (al.sw ((((((e7.sos bh ca).sos bd bz).sos av bc).so _ au (oge a7)).so _ ar (oge a8)).so _ ak (oge a9)) 11 2 rfl rfl rfl am) 11 1 rfl rfl rfl ao) 11 0 rfl rfl rfl aq) 11 7 rfl rfl rfl) 10 7 rfl rfl rfl) 9 5 rfl rfl rfl) 8 5 rfl rfl rfl) 7 3 rfl rfl rfl) 6 3 rfl rfl rfl).sn aw).so _ ax (oge bn)) 6 0 rfl rfl rfl az) 6 0 rfl rfl rfl d6) 6 0 rfl rfl rfl fq) dq 3 rfl).so _ fr hr425)
    refine L_app ei37 f8 (.slice ad cd ce) xs4 ([(⟨(nth xs6 v2), ([103, 111, 110, 101] : Str)⟩ : Clash)] : List Clash) rfl pn (.slice lj pj pk) rfl pl.sx 4 rfl pm fun vz lk ll lm h1 er f9 po => ?_
    refine L_as (.slice lk ll lm) rfl (L_nil ?_)
    have pp := f9.drop 0 rfl
    have i3 := en.stos av bc
    have i4 := e9.stown _ au (oge a7)
    have i5 := fa.stown _ ar (oge a8)
    have i6 := fb.stown _ ak (oge a9)
    have i7 := al.stw 2 rfl am
    have i8 := an.stw 1 rfl ao
    have i9 := ap.stw 0 rfl aq
    have ja := ba.std 7 rfl
    have ga := eo.stn aw
    have gb := fc.stown _ ax (oge bn)
    have gc := ay.stw 0 rfl az
    have gd := a6.stw 0 rfl d6
    have gf := fp.stw 0 rfl fq
    have gg := li.stown _ fr hr425
    have gh := f9.std 0 rfl
    have pq := ((((((((((((((((((((((((e5.st cr).st c4).st i3).st i4).st i5).st i6).st i7).st i8).st i9).st ja).st cc).st cb).st b8).st b1).st bj).st ga).st gb).st gc).st gd).st gf).st (St.drops _ O dq)).st gg).st er).st gh)
    have pr := ((((((((((((((((((((((((e6.st cr).st c4).st i3).st i4).st i5).st i6).st i7).st i8).st i9).st ja).st cc).st cb).st b8).st b1).st bj).st ga).st gb).st gc).st gd).st gf).st (St.drops _ O dq)).st gg).st er).st gh)
    have ps := ((((((((((((((((((((((e8.st i3).st i4).st i5).st i6).st i7).st i8).st i9).st ja).st cc).st cb).st b8).st b1).st bj).st ga).st gb).st gc).st gd).st gf).st (St.drops _ O dq)).st gg).st er).st gh)
    have pt := ((((((((((iq.st bj).st ga).st gb).st gc).st gd).st gf).st (St.drops _ O dq)).st gg).st er).st gh)
    have pu := (((((((((ir.st ga).st gb).st gc).st gd).st gf).st (St.drops _ O dq)).st gg).st er).st gh)
    have pv := (f9.sd po 4 0 rfl rfl rfl)
    have pw := (f9.sd (f8.sm ((h0.odr (fp.sw (a6.sw (ay.sw (((b7.sd (b0.sd (bv.sd (bl.sd (bi.sd (ba.sd (ap.sw (an.sw (al.sw ((((((ej.sos bh ca).sos bd bz).sos av bc).so _ au (oge a7)).so _ ar (oge a8)).so _ ak (oge a9)) 10 2 rfl rfl rfl am) 10 1 rfl rfl rfl ao) 10 0 rfl rfl rfl aq) 10 7 rfl rfl rfl) 9 7 rfl rfl rfl) 8 5 rfl rfl rfl) 7 5 rfl rfl rfl) 6 3 rfl rfl rfl) 5 3 rfl rfl rfl).sn aw).so _ ax (oge bn)) 5 0 rfl rfl rfl az) 5 0 rfl rfl rfl d6) 5 0 rfl rfl rfl fq) dq 2 rfl).so _ fr hr425) 3 4 rfl rfl rfl h1 er) 3 0 rfl rfl rfl)
    have px := (DArr.sm (L := (bk lj :: some ae :: bk ab :: bk aa :: bk ad :: (ac ++ []))) (O := O) (i := 4) ((DArr.sm (L := (some ae :: some ag :: some af :: some ah :: bk ab :: bk aa :: bk ad :: (ac ++ []))) (O := O) (i := 0) (DArr.sm (L := (some ae :: some ag :: some af :: some ah :: bk ab :: bk aa :: bk ad :: (ac ++ []))) (O := O) (i := 0) (DArr.sm (L := (some ae :: some ag :: some af :: some ah :: bk ab :: bk aa :: bk ad :: (ac ++ []))) (O := O) (i := 0) (((DArr.sm (L := (some ag :: some af :: some ah :: bk a5 :: bk a4 :: bk ai :: bk aj :: bk be :: bk bf :: bk ab :: bk aa :: bk ad :: (ac ++ []))) (O := O) (i := 0) (DArr.sm (L := (some ag :: some af :: some ah :: bk a5 :: bk a4 :: bk ai :: bk aj :: bk be :: bk bf :: bk ab :: bk aa :: bk ad :: (ac ++ []))) (O := O) (i := 1) (DArr.sm (L := (some ag :: some af :: some ah :: bk a5 :: bk a4 :: bk ai :: bk aj :: bk be :: bk bf :: bk ab :: bk aa :: bk ad :: (ac ++ []))) (O := O) (i := 2) ((((((ek.k0 bh).k0 bd).k0 av).k0 au).k0 ar).k0 ak) al rfl (fun b hb => (mcm (mcm (mcm (mcm (mcm (mcm (mcm (mcm (mcm (List.mem_append_left _ hb))))))))))) am) an rfl (fun b hb => (mcm (mcm (mcm (mcm (mcm (mcm (mcm (mcm (mcm (mcm (List.mem_append_left _ hb)))))))))))) ao) ap rfl (fun b hb => (mcm (mcm (mcm (mcm (mcm (mcm (mcm (mcm (mcm (mcm (mcm (List.mem_append_left _ hb))))))))))))) aq).k0 aw).k0 ax) ay rfl (fun b hb => (mcm (mcm (mcm (mcm (mcm (mcm (List.mem_append_left _ hb)))))))) az) a6 rfl (fun b hb => (mcm (mcm (mcm (mcm (mcm (mcm (List.mem_append_left _ hb)))))))) d6) fp rfl (fun b hb => (mcm (mcm (mcm (mcm (mcm (mcm (List.mem_append_left _ hb)))))))) fq).k0 fr) f8 rfl (fun b hb => (List.mem_append_left _ hb)) h1)
    have py := (f9.sd (f8.sm ((h0.odr (fp.sw (a6.sw (ay.sw (((b7.sd (b0.sd (bv.sd (bl.sd (bi.sd (ba.sd (ap.sw (an.sw (al.sw ((((((el.sos bh ca).sos bd bz).sos av bc).so _ au (oge a7)).so _ ar (oge a8)).so _ ak (oge a9)) 9 2 rfl rfl rfl am) 9 1 rfl rfl rfl ao) 9 0 rfl rfl rfl aq) 9 7 rfl rfl rfl) 8 7 rfl rfl rfl) 7 5 rfl rfl rfl) 6 5 rfl rfl rfl) 5 3 rfl rfl rfl) 4 3 rfl rfl rfl).sn aw).so _ ax (oge bn)) 4 0 rfl rfl rfl az) 4 0 rfl rfl rfl d6) 4 0 rfl rfl rfl fq) dq 1 rfl).so _ fr hr425) 2 4 rfl rfl rfl h1 er) 2 0 rfl rfl rfl)
    have pz := (f8.bm (pi.k0 fr) 1 4 rfl rfl rfl h1)
    exact ⟨(xs4 ++ ([(⟨(nth xs6 v2), ([103, 111, 110, 101] : Str)⟩ : Clash)] : List Clash)), lk, ll, lm, xs5, cz, ac, aa, b5, b6, xs6, ab, c1, c2, r7.has, r7.f.Id, r7.f.Shape.Kind, r7.f.Shape.Pts, a5, cs, ct, r7.f.Tags, a4, cu, cv, H, (hasI rfl), pp, io, pq, pr, ps, pt, pu, pv, pw, px, py, pz⟩
   have H := ite_f H cm
   refine L_rb cm rfl (L_pu (P_fa fa84_0 ⟨ag, 0, none⟩ ⟨ag, 0, none⟩ rfl rfl) (L_rb cm rfl ?_))
   have ln := (ay.bm ((ip.k0 aw).k0 ax) 1 0 rfl rfl rfl az)
   refine L_pu (P_ld ag4 cL ⟨ag, 0, none⟩ (vb r7.has) rfl (ln.cell rfl)) (L_rb cm rfl (L_pu (P_not r7.has rfl) (L_pu (P_pick false (vb (!r7.has)) (by exact congrArg Value.bool cm) rfl) (L_as (vb (!r7.has)) rfl (L_nil ?_)))))
   refine W_cond (!r7.has) rfl (fun jb => ?_) (fun jb => ?_)
   ·have H := ite_t H jb
    refine W_seq (W_reg (L_pu (P_lda ag84 sz84 cL ⟨af, 0, none⟩ [vb r6.has, vs r6.f.Id, vi r6.f.Shape.Kind, .slice ai br bs, .slice aj bt bu] rfl rfl (eq.cells (off := 0) rfl)) (L_stb ae 0 [vb r8.has, vs r8.f.Id, vi r8.f.Shape.Kind, .slice c5 c6 c7, .slice c9 da db] [vb r6.has, vs r6.f.Id, vi r6.f.Shape.Kind, .slice ai br bs, .slice aj bt bu] [vb r6.has, vs r6.f.Id, vi r6.f.Shape.Kind, .slice ai br bs, .slice aj bt bu] rfl f5 rfl sz84 rfl rfl rfl fun v0 es p0 => ?_)))
    have h2 := a6.wr 0 rfl es
    refine L_nil (W_seq (W_seq (W_reg (L_pu (P_fa fa84_0 ⟨af, 0, none⟩ ⟨af, 0, none⟩ rfl rfl) ?_))))
    have p1 := (a6.bm eq 2 0 rfl rfl rfl es)
    refine L_pu (P_ld ag4 cL ⟨af, 0, none⟩ (vb r6.has) rfl (p1.cell rfl)) (L_pu (P_not r6.has rfl) (L_nil (W_cf (b := !r6.has) rfl cm ?_)))
    refine W_skip ?_
    have dr : ((some ae :: some ag :: some af :: some ah :: bk ab :: bk aa :: bk ad :: (ac ++ [])) : Ob).Perm ((some ag :: some af :: some ah :: []) ++ (some ae :: bk ab :: bk aa :: bk ad :: (ac ++ []))) := (pc fun a => by (try simp only [pca, pcc, pcn, Nat.add_zero, Nat.zero_add]); first | done | ac_rfl)
    have lo := h2.drops dr
    refine W_reg (L_mv (.slice ad cd ce) rfl (L_mv (vs (nth xs6 v2)) rfl (L_pu (P_build (.agg #[vs (nth xs6 v2), vs ([103, 111, 110, 101] : Str)]) (fun _ => by kernel_rfl)) (L_lit (kd := kClash) ei37 lo ([(⟨(nth xs6 v2), ([103, 111, 110, 101] : Str)⟩ : Clash)] : List Clash) (cells := [vs (nth xs6 v2), vs ([103, 111, 110, 101] : Str)]) ⟨[vs (nth xs6 v2), vs ([103, 111, 110, 101] : Str)], _, rfl, (kClash.mk _ _ (⟨(nth xs6 v2), ([103, 111, 110, 101] : Str)⟩ : Clash) em (by decide : Lim ([103, 111, 110, 101] : Str))), rfl⟩ (fun _ => by kernel_rfl) fun v1 lp p2 p3 fs hr480 gi p4 => ?_))))
    obtain ⟨p5, H⟩ := H
    have p6 := ((h2.odr (a6.sw (ay.sw (((b7.sd (b0.sd (bv.sd (bl.sd (bi.sd (ba.sd (ap.sw (an.sw (al.sw ((((((e7.sos bh ca).sos bd bz).sos av bc).so _ au (oge a7)).so _ ar (oge a8)).so _ ak (oge a9)) 11 2 rfl rfl rfl am) 11 1 rfl rfl rfl ao) 11 0 rfl rfl rfl aq) 11 7 rfl rfl rfl) 10 7 rfl rfl rfl) 9 5 rfl rfl rfl) 8 5 rfl rfl rfl) 7 3 rfl rfl rfl) 6 3 rfl rfl rfl).sn aw).so _ ax (oge bn)) 6 0 rfl rfl rfl az) 6 0 rfl rfl rfl es) dr 3 rfl).so _ fs hr480)
    refine L_app ei37 gi (.slice ad cd ce) xs4 ([(⟨(nth xs6 v2), ([103, 111, 110, 101] : Str)⟩ : Clash)] : List Clash) rfl p6 (.slice lp p2 p3) rfl p4.sx 4 rfl p5 fun v3 lq lr ls h3 et gj p7 => ?_
    refine L_as (.slice lq lr ls) rfl (L_nil ?_)
    have p8 := gj.drop 0 rfl
    have jc := en.stos av bc
    have jd := e9.stown _ au (oge a7)
    have je := fa.stown _ ar (oge a8)
    have jf := fb.stown _ ak (oge a9)
    have jg := al.stw 2 rfl am
    have jh := an.stw 1 rfl ao
    have ji := ap.stw 0 rfl aq
    have jj := ba.std 7 rfl
    have gk := eo.stn aw
    have gl := fc.stown _ ax (oge bn)
    have gm := ay.stw 0 rfl az
    have gn := a6.stw 0 rfl es
    have gp := lo.stown _ fs hr480
    have gq := gj.std 0 rfl
    have p9 := (((((((((((((((((((((((e5.st cr).st c4).st jc).st jd).st je).st jf).st jg).st jh).st ji).st jj).st cc).st cb).st b8).st b1).st bj).st gk).st gl).st gm).st gn).st (St.drops _ O dr)).st gp).st et).st gq)
    have qa := (((((((((((((((((((((((e6.st cr).st c4).st jc).st jd).st je).st jf).st jg).st jh).st ji).st jj).st cc).st cb).st b8).st b1).st bj).st gk).st gl).st gm).st gn).st (St.drops _ O dr)).st gp).st et).st gq)
    have qb := (((((((((((((((((((((e8.st jc).st jd).st je).st jf).st jg).st jh).st ji).st jj).st cc).st cb).st b8).st b1).st bj).st gk).st gl).st gm).st gn).st (St.drops _ O dr)).st gp).st et).st gq)
    have qc := ((((((((hm.st gk).st gl).st gm).st gn).st (St.drops _ O dr)).st gp).st et).st gq)
    have qd := ((((((((hn.st gk).st gl).st gm).st gn).st (St.drops _ O dr)).st gp).st et).st gq)
    have qe := (gj.sd p7 4 0 rfl rfl rfl)
    have qf := (gj.sd (gi.sm ((h2.odr (a6.sw (ay.sw (((b7.sd (b0.sd (bv.sd (bl.sd (bi.sd (ba.sd (ap.sw (an.sw (al.sw ((((((ej.sos bh ca).sos bd bz).sos av bc).so _ au (oge a7)).so _ ar (oge a8)).so _ ak (oge a9)) 10 2 rfl rfl rfl am) 10 1 rfl rfl rfl ao) 10 0 rfl rfl rfl aq) 10 7 rfl rfl rfl) 9 7 rfl rfl rfl) 8 5 rfl rfl rfl) 7 5 rfl rfl rfl) 6 3 rfl rfl rfl) 5 3 rfl rfl rfl).sn aw).so _ ax (oge bn)) 5 0 rfl rfl rfl az) 5 0 rfl rfl rfl es) dr 2 rfl).so _ fs hr480) 3 4 rfl rfl rfl h3 et) 3 0 rfl rfl rfl)
    have qg := (DArr.sm (L := (bk lp :: some ae :: bk ab :: bk aa :: bk ad :: (ac ++ []))) (O := O) (i := 4) ((DArr.sm (L := (some ae :: some ag :: some af :: some ah :: bk ab :: bk aa :: bk ad :: (ac ++ []))) (O := O) (i := 0) (DArr.sm (L := (some ae :: some ag :: some af :: some ah :: bk ab :: bk aa :: bk ad :: (ac ++ []))) (O := O) (i := 0) (((DArr.sm (L := (some ag :: some af :: some ah :: bk a5 :: bk a4 :: bk ai :: bk aj :: bk be :: bk bf :: bk ab :: bk aa :: bk ad :: (ac ++ []))) (O := O) (i := 0) (DArr.sm (L := (some ag :: some af :: some ah :: bk a5 :: bk a4 :: bk ai :: bk aj :: bk be :: bk bf :: bk ab :: bk aa :: bk ad :: (ac ++ []))) (O := O) (i := 1) (DArr.sm (L := (some ag :: some af :: some ah :: bk a5 :: bk a4 :: bk ai :: bk aj :: bk be :: bk bf :: bk ab :: bk aa :: bk ad :: (ac ++ []))) (O := O) (i := 2) ((((((ek.k0 bh).k0 bd).k0 av).k0 au).k0 ar).k0 ak) al rfl (fun b hb => (mcm (mcm (mcm (mcm (mcm (mcm (mcm (mcm (mcm (List.mem_append_left _ hb))))))))))) am) an rfl (fun b hb => (mcm (mcm (mcm (mcm (mcm (mcm (mcm (mcm (mcm (mcm (List.mem_append_left _ hb)))))))))))) ao) ap rfl (fun b hb => (mcm (mcm (mcm (mcm (mcm (mcm (mcm (mcm (mcm (mcm (mcm (List.mem_append_left _ hb))))))))))))) aq).k0 aw).k0 ax) ay rfl (fun b hb => (mcm (mcm (mcm (mcm (mcm (mcm (List.mem_append_left _ hb)))))))) az) a6 rfl (fun b hb => (mcm (mcm (mcm (mcm (mcm (mcm (List.mem_append_left _ hb)))))))) es).k0 fs) gi rfl (fun b hb => (List.mem_append_left _ hb)) h3)
    have qh := (gj.sd (gi.sm ((h2.odr (a6.sw (ay.sw (((b7.sd (b0.sd (bv.sd (bl.sd (bi.sd (ba.sd (ap.sw (an.sw (al.sw ((((((el.sos bh ca).sos bd bz).sos av bc).so _ au (oge a7)).so _ ar (oge a8)).so _ ak (oge a9)) 9 2 rfl rfl rfl am) 9 1 rfl rfl rfl ao) 9 0 rfl rfl rfl aq) 9 7 rfl rfl rfl) 8 7 rfl rfl rfl) 7 5 rfl rfl rfl) 6 5 rfl rfl rfl) 5 3 rfl rfl rfl) 4 3 rfl rfl rfl).sn aw).so _ ax (oge bn)) 4 0 rfl rfl rfl az) 4 0 rfl rfl rfl es) dr 1 rfl).so _ fs hr480) 2 4 rfl rfl rfl h3 et) 2 0 rfl rfl rfl)
    have qi := (gi.bm (p0.k0 fs) 1 4 rfl rfl rfl h3)
    exact ⟨(xs4 ++ ([(⟨(nth xs6 v2), ([103, 111, 110, 101] : Str)⟩ : Clash)] : List Clash)), lq, lr, ls, xs5, cz, ac, aa, b5, b6, xs6, ab, c1, c2, r6.has, r6.f.Id, r6.f.Shape.Kind, r6.f.Shape.Pts, ai, br, bs, r6.f.Tags, aj, bt, bu, H, (hasI rfl), p8, hk, p9, qa, qb, qc, qd, qe, qf, qg, qh, qi⟩
   have H := ite_f H jb
   refine W_seq (W_reg (L_pu (P_fa fa84_0 ⟨ah, 0, none⟩ ⟨ah, 0, none⟩ rfl rfl) ?_))
   have lt := (ay.bm ((k7.k0 aw).k0 ax) 3 0 rfl rfl rfl az)
   refine L_pu (P_ld ag4 cL ⟨ah, 0, none⟩ (vb r5.has) rfl (lt.cell rfl)) (L_pu (P_not r5.has rfl) (L_as (vb (!r5.has)) rfl (L_nil ?_)))
   refine W_cond (!r5.has) rfl (fun jk => ?_) (fun jk => ?_)
   ·have H := ite_t H jk
    refine W_seq (W_reg (L_pu (P_lda ag84 sz84 cL ⟨af, 0, none⟩ [vb r6.has, vs r6.f.Id, vi r6.f.Shape.Kind, .slice ai br bs, .slice aj bt bu] rfl rfl (eq.cells (off := 0) rfl)) (L_stb ae 0 [vb r8.has, vs r8.f.Id, vi r8.f.Shape.Kind, .slice c5 c6 c7, .slice c9 da db] [vb r6.has, vs r6.f.Id, vi r6.f.Shape.Kind, .slice ai br bs, .slice aj bt bu] [vb r6.has, vs r6.f.Id, vi r6.f.Shape.Kind, .slice ai br bs, .slice aj bt bu] rfl f5 rfl sz84 rfl rfl rfl fun v5 ft qj => ?_)))
    have h4 := a6.wr 0 rfl ft
    refine L_nil ?_
    have ds : ((some ae :: some ag :: some af :: some ah :: bk ab :: bk aa :: bk ad :: (ac ++ [])) : Ob).Perm ((some ag :: some af :: some ah :: []) ++ (some ae :: bk ab :: bk aa :: bk ad :: (ac ++ []))) := (pc fun a => by (try simp only [pca, pcc, pcn, Nat.add_zero, Nat.zero_add]); first | done | ac_rfl)
    have lu := h4.drops ds
    refine W_reg (L_mv (.slice ad cd ce) rfl (L_mv (vs (nth xs6 v2)) rfl (L_pu (P_build (.agg #[vs (nth xs6 v2), vs ([98, 111, 116, 104] : Str)]) (fun _ => by kernel_rfl)) (L_lit (kd := kClash) ei37 lu ([(⟨(nth xs6 v2), ([98, 111, 116, 104] : Str)⟩ : Clash)] : List Clash) (cells := [vs (nth xs6 v2), vs ([98, 111, 116, 104] : Str)]) ⟨[vs (nth xs6 v2), vs ([98, 111, 116, 104] : Str)], _, rfl, (kClash.mk _ _ (⟨(nth xs6 v2), ([98, 111, 116, 104] : Str)⟩ : Clash) em (by decide : Lim ([98, 111, 116, 104] : Str))), rfl⟩ (fun _ => by kernel_rfl) fun v6 lv qk ql fu hr533 gs qm => ?_))))
    obtain ⟨qn, H⟩ := H
    have qo := ((h4.odr (a6.sw (ay.sw (((b7.sd (b0.sd (bv.sd (bl.sd (bi.sd (ba.sd (ap.sw (an.sw (al.sw ((((((e7.sos bh ca).sos bd bz).sos av bc).so _ au (oge a7)).so _ ar (oge a8)).so _ ak (oge a9)) 11 2 rfl rfl rfl am) 11 1 rfl rfl rfl ao) 11 0 rfl rfl rfl aq) 11 7 rfl rfl rfl) 10 7 rfl rfl rfl) 9 5 rfl rfl rfl) 8 5 rfl rfl rfl) 7 3 rfl rfl rfl) 6 3 rfl rfl rfl).sn aw).so _ ax (oge bn)) 6 0 rfl rfl rfl az) 6 0 rfl rfl rfl ft) ds 3 rfl).so _ fu hr533)
    refine L_app ei37 gs (.slice ad cd ce) xs4 ([(⟨(nth xs6 v2), ([98, 111, 116, 104] : Str)⟩ : Clash)] : List Clash) rfl qo (.slice lv qk ql) rfl qm.sx 4 rfl qn fun v7 lw lx ly h5 eu gt qp => ?_
    refine L_as (.slice lw lx ly) rfl (L_nil ?_)
    have qq := gt.drop 0 rfl
    have jl := en.stos av bc
    have jm := e9.stown _ au (oge a7)
    have jn := fa.stown _ ar (oge a8)
    have jo := fb.stown _ ak (oge a9)
    have jp := al.stw 2 rfl am
    have jq := an.stw 1 rfl ao
    have jr := ap.stw 0 rfl aq
    have js := ba.std 7 rfl
    have gu := eo.stn aw
    have gw := fc.stown _ ax (oge bn)
    have gx := ay.stw 0 rfl az
    have gy := a6.stw 0 rfl ft
    have gz := lu.stown _ fu hr533
    have g1 := gt.std 0 rfl
    have qr := (((((((((((((((((((((((e5.st cr).st c4).st jl).st jm).st jn).st jo).st jp).st jq).st jr).st js).st cc).st cb).st b8).st b1).st bj).st gu).st gw).st gx).st gy).st (St.drops _ O ds)).st gz).st eu).st g1)
    have qs := (((((((((((((((((((((((e6.st cr).st c4).st jl).st jm).st jn).st jo).st jp).st jq).st jr).st js).st cc).st cb).st b8).st b1).st bj).st gu).st gw).st gx).st gy).st (St.drops _ O ds)).st gz).st eu).st g1)
    have qt := (((((((((((((((((((((e8.st jl).st jm).st jn).st jo).st jp).st jq).st jr).st js).st cc).st cb).st b8).st b1).st bj).st gu).st gw).st gx).st gy).st (St.drops _ O ds)).st gz).st eu).st g1)
    have qu := ((((((((hm.st gu).st gw).st gx).st gy).st (St.drops _ O ds)).st gz).st eu).st g1)
    have qv := ((((((((hn.st gu).st gw).st gx).st gy).st (St.drops _ O ds)).st gz).st eu).st g1)
    have qw := (gt.sd qp 4 0 rfl rfl rfl)
    have qx := (gt.sd (gs.sm ((h4.odr (a6.sw (ay.sw (((b7.sd (b0.sd (bv.sd (bl.sd (bi.sd (ba.sd (ap.sw (an.sw (al.sw ((((((ej.sos bh ca).sos bd bz).sos av bc).so _ au (oge a7)).so _ ar (oge a8)).so _ ak (oge a9)) 10 2 rfl rfl rfl am) 10 1 rfl rfl rfl ao) 10 0 rfl rfl rfl aq) 10 7 rfl rfl rfl) 9 7 rfl rfl rfl) 8 5 rfl rfl rfl) 7 5 rfl rfl rfl) 6 3 rfl rfl rfl) 5 3 rfl rfl rfl).sn aw).so _ ax (oge bn)) 5 0 rfl rfl rfl az) 5 0 rfl rfl rfl ft) ds 2 rfl).so _ fu hr533) 3 4 rfl rfl rfl h5 eu) 3 0 rfl rfl rfl)
    have qy := (DArr.sm (L := (bk lv :: some ae :: bk ab :: bk aa :: bk ad :: (ac ++ []))) (O := O) (i := 4) ((DArr.sm (L := (some ae :: some ag :: some af :: some ah :: bk ab :: bk aa :: bk ad :: (ac ++ []))) (O := O) (i := 0) (DArr.sm (L := (some ae :: some ag :: some af :: some ah :: bk ab :: bk aa :: bk ad :: (ac ++ []))) (O := O) (i := 0) (((DArr.sm (L := (some ag :: some af :: some ah :: bk a5 :: bk a4 :: bk ai :: bk aj :: bk be :: bk bf :: bk ab :: bk aa :: bk ad :: (ac ++ []))) (O := O) (i := 0) (DArr.sm (L := (some ag :: some af :: some ah :: bk a5 :: bk a4 :: bk ai :: bk aj :: bk be :: bk bf :: bk ab :: bk aa :: bk ad :: (ac ++ []))) (O := O) (i := 1) (DArr.sm (L := (some ag :: some af :: some ah :: bk a5 :: bk a4 :: bk ai :: bk aj :: bk be :: bk bf :: bk ab :: bk aa :: bk ad :: (ac ++ []))) (O := O) (i := 2) ((((((ek.k0 bh).k0 bd).k0 av).k0 au).k0 ar).k0 ak) al rfl (fun b hb => (mcm (mcm (mcm (mcm (mcm (mcm (mcm (mcm (mcm (List.mem_append_left _ hb))))))))))) am) an rfl (fun b hb => (mcm (mcm (mcm (mcm (mcm (mcm (mcm (mcm (mcm (mcm (List.mem_append_left _ hb)))))))))))) ao) ap rfl (fun b hb => (mcm (mcm (mcm (mcm (mcm (mcm (mcm (mcm (mcm (mcm (mcm (List.mem_append_left _ hb))))))))))))) aq).k0 aw).k0 ax) ay rfl (fun b hb => (mcm (mcm (mcm (mcm (mcm (mcm (List.mem_append_left _ hb)))))))) az) a6 rfl (fun b hb => (mcm (mcm (mcm (mcm (mcm (mcm (List.mem_append_left _ hb)))))))) ft).k0 fu) gs rfl (fun b hb => (List.mem_append_left _ hb)) h5)
    have qz := (gt.sd (gs.sm ((h4.odr (a6.sw (ay.sw (((b7.sd (b0.sd (bv.sd (bl.sd (bi.sd (ba.sd (ap.sw (an.sw (al.sw ((((((el.sos bh ca).sos bd bz).sos av bc).so _ au (oge a7)).so _ ar (oge a8)).so _ ak (oge a9)) 9 2 rfl rfl rfl am) 9 1 rfl rfl rfl ao) 9 0 rfl rfl rfl aq) 9 7 rfl rfl rfl) 8 7 rfl rfl rfl) 7 5 rfl rfl rfl) 6 5 rfl rfl rfl) 5 3 rfl rfl rfl) 4 3 rfl rfl rfl).sn aw).so _ ax (oge bn)) 4 0 rfl rfl rfl az) 4 0 rfl rfl rfl ft) ds 1 rfl).so _ fu hr533) 2 4 rfl rfl rfl h5 eu) 2 0 rfl rfl rfl)
    have q1 := (gs.bm (qj.k0 fu) 1 4 rfl rfl rfl h5)
    exact ⟨(xs4 ++ ([(⟨(nth xs6 v2), ([98, 111, 116, 104] : Str)⟩ : Clash)] : List Clash)), lw, lx, ly, xs5, cz, ac, aa, b5, b6, xs6, ab, c1, c2, r6.has, r6.f.Id, r6.f.Shape.Kind, r6.f.Shape.Pts, ai, br, bs, r6.f.Tags, aj, bt, bu, H, (hasI rfl), qq, hk, qr, qs, qt, qu, qv, qw, qx, qy, qz, q1⟩
   have H := ite_f H jk
   refine W_seq (W_reg (L_pu (P_fa fa84_1 ⟨ah, 0, none⟩ ⟨ah, 1, none⟩ rfl rfl) (L_pu (P_lda ag61 sz61 cL ⟨ah, 1, none⟩ [vs r5.f.Id, vi r5.f.Shape.Kind, .slice be d2 d3, .slice bf d4 d5] rfl rfl (lt.cells (off := 1) rfl)) (L_pu (P_fa fa84_1 ⟨af, 0, none⟩ ⟨af, 1, none⟩ rfl rfl) (L_pu (P_lda ag61 sz61 cL ⟨af, 1, none⟩ [vs r6.f.Id, vi r6.f.Shape.Kind, .slice ai br bs, .slice aj bt bu] rfl rfl (eq.cells (off := 1) rfl)) (L_pu (P_fa fa84_1 ⟨ag, 0, none⟩ ⟨ag, 1, none⟩ rfl rfl) (L_pu (P_lda ag61 sz61 cL ⟨ag, 1, none⟩ [vs r7.f.Id, vi r7.f.Shape.Kind, .slice a5 cs ct, .slice a4 cu cv] rfl rfl (ln.cells (off := 1) rfl)) ?_)))))))
   have dt := eo.stn aw
   have du := fc.stown _ ax (oge bn)
   have dv := ay.stw 0 rfl az
   have q2 := (((k9.st dt).st du).st dv)
   have q3 := (((la.st dt).st du).st dv)
   have q4 := (((hm.st dt).st du).st dv)
   have q5 := (((hn.st dt).st du).st dv)
   have q6 := ((((iq.st bj).st dt).st du).st dv)
   have q7 := (((ir.st dt).st du).st dv)
   refine L_call go53 [.agg #[vs r5.f.Id, vi r5.f.Shape.Kind, .slice be d2 d3, .slice bf d4 d5], .agg #[vs r6.f.Id, vi r6.f.Shape.Kind, .slice ai br bs, .slice aj bt bu], .agg #[vs r7.f.Id, vi r7.f.Shape.Kind, .slice a5 cs ct, .slice a4 cu cv]] rfl ((F48.calls o0 a6.ok r5.f be d2 d3 bf d4 d5 k6 q2 q3 r6.f ai br bs aj bt bu hk q4 q5 r7.f a5 cs ct a4 cu cv io q6 q7 _ H).mono ?_)
   rintro _ v9 ⟨r10, r11, a2, cn, co, a3, cp, cq, bb, de, df, rfl, H, ev, q8, g3, q9, ra, rb, rc⟩
   have lz := a6.owns ev q8 g3
   refine L_mv (.tuple #[.agg #[vs r10.Id, vi r10.Shape.Kind, .slice a2 cn co, .slice a3 cp cq], .slice bb de df]) rfl (L_pu (P_ext [.agg #[vs r10.Id, vi r10.Shape.Kind, .slice a2 cn co, .slice a3 cp cq], .slice bb de df] 0 (.agg #[vs r10.Id, vi r10.Shape.Kind, .slice a2 cn co, .slice a3 cp cq]) rfl rfl) (L_pu (P_ext [.agg #[vs r10.Id, vi r10.Shape.Kind, .slice a2 cn co, .slice a3 cp cq], .slice bb de df] 1 (.slice bb de df) rfl rfl) (L_alloc [vs [], .int .i64 0, .slice none 0 0, .slice none 0 0] ze61 fun wa ew d7 hu608 dg rd => ?_)))
   have dh := lz.own dg (some ew) (oglt d7 hu608)
   refine L_stb ew 0 [vs ([] : Str), vi 0, .slice none 0 0, .slice none 0 0] [vs r10.Id, vi r10.Shape.Kind, .slice a2 cn co, .slice a3 cp cq] [vs r10.Id, vi r10.Shape.Kind, .slice a2 cn co, .slice a3 cp cq] rfl rd rfl sz61 rfl rfl rfl fun wb di re => ?_
   have ex := dh.wr 0 rfl di
   refine L_as (.slice bb de df) rfl (L_nil (W_seq ?_))
   have dk : ((some ew :: bk a2 :: bk a3 :: bk bb :: some ae :: some ag :: some af :: some ah :: bk ab :: bk aa :: bk ad :: (ac ++ [])) : Ob).Perm ((some ag :: some af :: some ah :: []) ++ (some ew :: bk a2 :: bk a3 :: bk bb :: some ae :: bk ab :: bk aa :: bk ad :: (ac ++ []))) := (pc fun a => by (try simp only [pca, pcc, pcn, Nat.add_zero, Nat.zero_add]); first | done | ac_rfl)
   have dw := ex.drops dk
   refine W_reg ?_
   have rf := re
   refine L_pu (P_lda ag61 sz61 cL ⟨ew, 0, none⟩ [vs r10.Id, vi r10.Shape.Kind, .slice a2 cn co, .slice a3 cp cq] rfl rfl (rf.cells (off := 0) rfl)) (L_pu (P_build (.agg #[vb true, vs r10.Id, vi r10.Shape.Kind, .slice a2 cn co, .slice a3 cp cq]) (fun _ => by kernel_rfl)) ?_)
   have rg := (dh.bm ((f5.k0 ev).k0 dg) 4 0 rfl rfl rfl di)
   refine L_stb ae 0 [vb r8.has, vs r8.f.Id, vi r8.f.Shape.Kind, .slice c5 c6 c7, .slice c9 da db] [vb true, vs r10.Id, vi r10.Shape.Kind, .slice a2 cn co, .slice a3 cp cq] [vb true, vs r10.Id, vi r10.Shape.Kind, .slice a2 cn co, .slice a3 cp cq] rfl rg rfl sz84 rfl rfl rfl fun wc dx rh => ?_
   have d8 := dw.wr 4 rfl dx
   refine L_nil (W_seq (W_reg (L_mv (.slice bb de df) rfl ?_)))
   have jt := (dw.sw (ex.odr (dh.sw (rc.so _ dg (oge d7)) 3 0 rfl rfl rfl di) dk 3 rfl) 3 4 rfl rfl rfl dx)
   have wd := jt.le
   refine L_pu (P_len Tryz.underlying81 bb de df jt.len rfl) (L_mv (vi 0) rfl (L_nil (W_block ?_)))
   have ri := d8.drop 0 rfl
   obtain ⟨rj, rk, ju, H⟩ := H
   have jv := en.stos av bc
   have jw := e9.stown _ au (oge a7)
   have jx := fa.stown _ ar (oge a8)
   have jy := fb.stown _ ak (oge a9)
   have jz := al.stw 2 rfl am
   have j0 := an.stw 1 rfl ao
   have j1 := ap.stw 0 rfl aq
   have j2 := ba.std 7 rfl
   have j3 := a6.stos ev g3
   have j4 := lz.stown _ dg (oge d7)
   have j5 := dh.stw 0 rfl di
   have j6 := dw.stw 4 rfl dx
   have j7 := d8.std 0 rfl
   have rl := ((((((((((((((((((((((((e5.st cr).st c4).st jv).st jw).st jx).st jy).st jz).st j0).st j1).st j2).st cc).st cb).st b8).st b1).st bj).st dt).st du).st dv).st j3).st j4).st j5).st (St.drops _ O dk)).st j6).st j7)
   have rm := ((((((((((((((((((((((((e6.st cr).st c4).st jv).st jw).st jx).st jy).st jz).st j0).st j1).st j2).st cc).st cb).st b8).st b1).st bj).st dt).st du).st dv).st j3).st j4).st j5).st (St.drops _ O dk)).st j6).st j7)
   have rn := ((((((((((((((((((((((e8.st jv).st jw).st jx).st jy).st jz).st j0).st j1).st j2).st cc).st cb).st b8).st b1).st bj).st dt).st du).st dv).st j3).st j4).st j5).st (St.drops _ O dk)).st j6).st j7)
   have ro := (d8.sd (dw.sw (ex.odr (dh.sw (((ay.sw (((b7.sd (b0.sd (bv.sd (bl.sd (bi.sd (ba.sd (ap.sw (an.sw (al.sw ((((((e7.sos bh ca).sos bd bz).sos av bc).so _ au (oge a7)).so _ ar (oge a8)).so _ ak (oge a9)) 11 2 rfl rfl rfl am) 11 1 rfl rfl rfl ao) 11 0 rfl rfl rfl aq) 11 7 rfl rfl rfl) 10 7 rfl rfl rfl) 9 5 rfl rfl rfl) 8 5 rfl rfl rfl) 7 3 rfl rfl rfl) 6 3 rfl rfl rfl).sn aw).so _ ax (oge bn)) 6 0 rfl rfl rfl az).sos ev g3).so _ dg (oge d7)) 10 0 rfl rfl rfl di) dk 7 rfl) 7 4 rfl rfl rfl dx) 7 0 rfl rfl rfl)
   have rp := (d8.sd (dw.sw (ex.odr (dh.sw (((ay.sw (((b7.sd (b0.sd (bv.sd (bl.sd (bi.sd (ba.sd (ap.sw (an.sw (al.sw ((((((ej.sos bh ca).sos bd bz).sos av bc).so _ au (oge a7)).so _ ar (oge a8)).so _ ak (oge a9)) 10 2 rfl rfl rfl am) 10 1 rfl rfl rfl ao) 10 0 rfl rfl rfl aq) 10 7 rfl rfl rfl) 9 7 rfl rfl rfl) 8 5 rfl rfl rfl) 7 5 rfl rfl rfl) 6 3 rfl rfl rfl) 5 3 rfl rfl rfl).sn aw).so _ ax (oge bn)) 5 0 rfl rfl rfl az).sos ev g3).so _ dg (oge d7)) 9 0 rfl rfl rfl di) dk 6 rfl) 6 4 rfl rfl rfl dx) 6 0 rfl rfl rfl)
   have rq := (DArr.sm (L := (some ew :: bk a2 :: bk a3 :: bk bb :: some ae :: bk ab :: bk aa :: bk ad :: (ac ++ []))) (O := O) (i := 4) (DArr.sm (L := (some ew :: bk a2 :: bk a3 :: bk bb :: some ae :: some ag :: some af :: some ah :: bk ab :: bk aa :: bk ad :: (ac ++ []))) (O := O) (i := 0) (((DArr.sm (L := (some ae :: some ag :: some af :: some ah :: bk ab :: bk aa :: bk ad :: (ac ++ []))) (O := O) (i := 0) (((DArr.sm (L := (some ag :: some af :: some ah :: bk a5 :: bk a4 :: bk ai :: bk aj :: bk be :: bk bf :: bk ab :: bk aa :: bk ad :: (ac ++ []))) (O := O) (i := 0) (DArr.sm (L := (some ag :: some af :: some ah :: bk a5 :: bk a4 :: bk ai :: bk aj :: bk be :: bk bf :: bk ab :: bk aa :: bk ad :: (ac ++ []))) (O := O) (i := 1) (DArr.sm (L := (some ag :: some af :: some ah :: bk a5 :: bk a4 :: bk ai :: bk aj :: bk be :: bk bf :: bk ab :: bk aa :: bk ad :: (ac ++ []))) (O := O) (i := 2) ((((((ek.k0 bh).k0 bd).k0 av).k0 au).k0 ar).k0 ak) al rfl (fun b hb => (mcm (mcm (mcm (mcm (mcm (mcm (mcm (mcm (mcm (List.mem_append_left _ hb))))))))))) am) an rfl (fun b hb => (mcm (mcm (mcm (mcm (mcm (mcm (mcm (mcm (mcm (mcm (List.mem_append_left _ hb)))))))))))) ao) ap rfl (fun b hb => (mcm (mcm (mcm (mcm (mcm (mcm (mcm (mcm (mcm (mcm (mcm (List.mem_append_left _ hb))))))))))))) aq).k0 aw).k0 ax) ay rfl (fun b hb => (mcm (mcm (mcm (mcm (mcm (mcm (List.mem_append_left _ hb)))))))) az).k0 ev).k0 dg) dh rfl (fun b hb => (mcm (mcm (mcm (mcm (mcm (mcm (mcm (mcm (mcm (mcm (List.mem_append_left _ hb)))))))))))) di) dw rfl (fun b hb => (mcm (mcm (mcm (List.mem_append_left _ hb))))) dx)
   have rr := (d8.sd (dw.sw (ex.odr (dh.sw (((ay.sw (((b7.sd (b0.sd (bv.sd (bl.sd (bi.sd (ba.sd (ap.sw (an.sw (al.sw ((((((el.sos bh ca).sos bd bz).sos av bc).so _ au (oge a7)).so _ ar (oge a8)).so _ ak (oge a9)) 9 2 rfl rfl rfl am) 9 1 rfl rfl rfl ao) 9 0 rfl rfl rfl aq) 9 7 rfl rfl rfl) 8 7 rfl rfl rfl) 7 5 rfl rfl rfl) 6 5 rfl rfl rfl) 5 3 rfl rfl rfl) 4 3 rfl rfl rfl).sn aw).so _ ax (oge bn)) 4 0 rfl rfl rfl az).sos ev g3).so _ dg (oge d7)) 8 0 rfl rfl rfl di) dk 5 rfl) 5 4 rfl rfl rfl dx) 5 0 rfl rfl rfl)
   have rs := (d8.sd jt 3 0 rfl rfl rfl)
   have rt := (d8.sd (dw.sw (ex.odr (dh.sw (ra.so _ dg (oge d7)) 1 0 rfl rfl rfl di) dk 1 rfl) 1 4 rfl rfl rfl dx) 1 0 rfl rfl rfl)
   have ru := (d8.sd (dw.sw (ex.odr (dh.sw (rb.so _ dg (oge d7)) 2 0 rfl rfl rfl di) dk 2 rfl) 2 4 rfl rfl rfl dx) 2 0 rfl rfl rfl)
   have rv := rh
   refine W_loop (α := (List Clash) × (Option Addr) × Nat × Nat × Int) (fun (sv__ : (List Clash) × (Option Addr) × Nat × Nat × Int) t cj => match sv__ with | (xs11, b9, fv, fw, v4) => rj xs11 v4 ∧ Has t [(0, .slice A1 n2 c3), (1, .slice A6 n7 c8), (2, .slice bw bx bg), (9, .slice b9 fv fw), (10, .slice aa b5 b6), (12, vs (nth xs6 v2)), (16, .pointer (some ⟨ae, 0, none⟩)), (43, .slice ab c1 c2), (44, vi (r4.length : Int)), (45, vi v2), (77, .slice bb de df), (78, vi (r11.length : Int)), (79, vi v4)] ∧ Ct [] w0 cj (bk a2 :: bk a3 :: bk bb :: some ae :: bk ab :: bk aa :: bk b9 :: (ac ++ [])) O ∧ Sl kFeat cj (Fr ((bk a2 :: bk a3 :: bk bb :: some ae :: bk ab :: bk aa :: bk b9 :: (ac ++ [])) ++ O)) (.slice A1 n2 c3) base_ ∧ Sl kFeat cj (Fr ((bk a2 :: bk a3 :: bk bb :: some ae :: bk ab :: bk aa :: bk b9 :: (ac ++ [])) ++ O)) (.slice A6 n7 c8) a ∧ Sl kFeat cj (Fr ((bk a2 :: bk a3 :: bk bb :: some ae :: bk ab :: bk aa :: bk b9 :: (ac ++ [])) ++ O)) (.slice bw bx bg) b ∧ Ow kClash 90 cj ((bk a2 :: bk a3 :: bk bb :: some ae :: bk ab :: bk aa :: bk b9 :: (ac ++ [])) ++ O) (.slice b9 fv fw) xs11 ∧ Ow (Kd.cells 4) 61 cj ((bk a2 :: bk a3 :: bk bb :: some ae :: bk ab :: bk aa :: bk b9 :: (ac ++ [])) ++ O) (.slice aa b5 b6) cz ∧ DArr dFeat_61 cj ac xs5 cz ∧ Ow Kd.str 9 cj ((bk a2 :: bk a3 :: bk bb :: some ae :: bk ab :: bk aa :: bk b9 :: (ac ++ [])) ++ O) (.slice ab c1 c2) xs6 ∧ Ow Kd.str 9 cj ((bk a2 :: bk a3 :: bk bb :: some ae :: bk ab :: bk aa :: bk b9 :: (ac ++ [])) ++ O) (.slice bb de df) r11 ∧ Ow kPt 114 cj ((bk a2 :: bk a3 :: bk bb :: some ae :: bk ab :: bk aa :: bk b9 :: (ac ++ [])) ++ O) (.slice a2 cn co) r10.Shape.Pts ∧ Ow kTag 106 cj ((bk a2 :: bk a3 :: bk bb :: some ae :: bk ab :: bk aa :: bk b9 :: (ac ++ [])) ++ O) (.slice a3 cp cq) r10.Tags ∧ Bx cj ae [vb true, vs r10.Id, vi r10.Shape.Kind, .slice a2 cn co, .slice a3 cp cq]) (fun (sv__ : (List Clash) × (Option Addr) × Nat × Nat × Int) => match sv__ with | (xs11, _, _, _, v4) => rk xs11 v4) (xs4, ad, cd, ce, 0) ⟨ju, (hasI rfl), ri, rl, rm, rn, ro, rp, rq, rr, rs, rt, ru, rv⟩ ?_
   rintro ⟨xs11, b9, fv, fw, v4⟩ _ cj ⟨ju, rx, dy, l0, l1, l2, l3, l4, l5, l6, j8, l7, l8, l9⟩
   obtain ⟨we, rfl⟩ := Has.ins rx
   have H := H xs11 v4 ju
   refine W_seq (W_reg (L_pu (P_cmp v4 (r11.length : Int) (decide (v4 < (r11.length : Int))) rfl rfl rfl) (L_nil (W_seq ?_))))
   refine W_cond (decide (v4 < (r11.length : Int))) rfl (fun j9 => ?_) (fun j9 => ?_)
   ·have H := ite_t H j9
    refine W_skip (W_seq (W_block (W_seq (W_reg ?_))))
    obtain ⟨ma, H⟩ := H
    obtain ⟨mb, wf, ry, rz, sa⟩ := j8.get default (by decide) v4 ma
    obtain ⟨rfl, sb⟩ := Kd.str.op rz
    refine L_pu (P_ia Tryz.underlying81 se81 bb mb de df j8.len v4 rfl ry rfl ma) (L_pu (P_ld ag9 cL (mb.add (v4.toNat * 1)) (vs (nth r11 v4)) rfl (sa 0 _ rfl)) (L_as (vs (nth r11 v4)) rfl (L_nil (W_reg (L_mv (.slice b9 fv fw) rfl (L_mv (vs (nth xs6 v2)) rfl (L_mv (vs (nth r11 v4)) rfl (L_pu (P_build (.agg #[vs (nth xs6 v2), vs (nth r11 v4)]) (fun _ => by kernel_rfl)) ?_))))))))
    refine L_lit (kd := kClash) ei37 dy ([(⟨(nth xs6 v2), (nth r11 v4)⟩ : Clash)] : List Clash) (cells := [vs (nth xs6 v2), vs (nth r11 v4)]) ⟨[vs (nth xs6 v2), vs (nth r11 v4)], _, rfl, (kClash.mk _ _ (⟨(nth xs6 v2), (nth r11 v4)⟩ : Clash) em sb), rfl⟩ (fun _ => by kernel_rfl) fun wg mc sc se dz hr743 d9 sf => ?_
    obtain ⟨sg, H⟩ := H
    have sh := (l3.so _ dz hr743)
    refine L_app ei37 d9 (.slice b9 fv fw) xs11 ([(⟨(nth xs6 v2), (nth r11 v4)⟩ : Clash)] : List Clash) rfl sh (.slice mc sc se) rfl sf.sx 7 rfl sg fun si ka md me ey ea eb sj => ?_
    refine L_as (.slice ka md me) rfl (L_nil (W_reg ?_))
    obtain ⟨sk, H⟩ := H
    refine L_pu (P_add v4 1 rfl rfl sk) (L_mv (vi (v4 + 1)) rfl (L_nil ?_))
    have sq : Ct [] w0 si (bk a2 :: bk a3 :: bk bb :: some ae :: bk ab :: bk aa :: bk ka :: (ac ++ [])) O := eb.drop 0 rfl
    obtain ⟨sr, ss⟩ := H
    have kb := dy.stown _ dz hr743
    have kc := eb.std 0 rfl
    have su := (((l0.st kb).st ea).st kc)
    have sv := (((l1.st kb).st ea).st kc)
    have sy := (((l2.st kb).st ea).st kc)
    have sz := (eb.sd sj 7 0 rfl rfl rfl)
    have s0 := (eb.sd (d9.sm (l4.so _ dz hr743) 6 7 rfl rfl rfl ey ea) 6 0 rfl rfl rfl)
    have s1 := (DArr.sm (L := (bk mc :: bk a2 :: bk a3 :: bk bb :: some ae :: bk ab :: bk aa :: bk b9 :: (ac ++ []))) (O := O) (i := 7) (l5.k0 dz) d9 rfl (fun b hb => (List.mem_append_left _ hb)) ey)
    have s2 := (eb.sd (d9.sm (l6.so _ dz hr743) 5 7 rfl rfl rfl ey ea) 5 0 rfl rfl rfl)
    have s3 := (eb.sd (d9.sm (j8.so _ dz hr743) 3 7 rfl rfl rfl ey ea) 3 0 rfl rfl rfl)
    have s4 := (eb.sd (d9.sm (l7.so _ dz hr743) 1 7 rfl rfl rfl ey ea) 1 0 rfl rfl rfl)
    have s5 := (eb.sd (d9.sm (l8.so _ dz hr743) 2 7 rfl rfl rfl ey ea) 2 0 rfl rfl rfl)
    have s6 := (d9.bm (l9.k0 dz) 4 7 rfl rfl rfl ey)
    exact ⟨((xs11 ++ ([(⟨(nth xs6 v2), (nth r11 v4)⟩ : Clash)] : List Clash)), ka, md, me, v4 + 1), ss, sr, (hasI rfl), sq, su, sv, sy, sz, s0, s1, s2, s3, s4, s5, s6⟩
   have H := ite_f H j9
   refine W_exit (xin_hit ?_)
   have ez : Ct [] w0 cj (bk a2 :: bk a3 :: some ae :: bk ab :: bk aa :: bk b9 :: (ac ++ [])) O := dy.drop 2 rfl
   have s7 := (dy.sd l7 0 2 rfl rfl rfl)
   have s8 := ez.gv s7 0 rfl
   have fx := ez.drop 0 rfl
   have s9 := (ez.sd (dy.sd l8 1 2 rfl rfl rfl) 1 0 rfl rfl rfl)
   have ta := fx.gv s9 0 rfl
   have tb := fx.drop 0 rfl
   have ke := dy.std 2 rfl
   have kf := ez.std 0 rfl
   have h6 := fx.std 0 rfl
   have tc := (((l0.st ke).st kf).st h6)
   have td := (((l1.st ke).st kf).st h6)
   have te := (((l2.st ke).st kf).st h6)
   have tf := (fx.sd (ez.sd (dy.sd l3 6 2 rfl rfl rfl) 5 0 rfl rfl rfl) 4 0 rfl rfl rfl)
   have tg := (fx.sd (ez.sd (dy.sd l4 5 2 rfl rfl rfl) 4 0 rfl rfl rfl) 3 0 rfl rfl rfl)
   have th := l5
   have ti := (fx.sd (ez.sd (dy.sd l6 4 2 rfl rfl rfl) 3 0 rfl rfl rfl) 2 0 rfl rfl rfl)
   have tj := l9
   exact ⟨xs11, b9, fv, fw, xs5, cz, ac, aa, b5, b6, xs6, ab, c1, c2, true, r10.Id, r10.Shape.Kind, r10.Shape.Pts, a2, cn, co, r10.Tags, a3, cp, cq, H, (hasI rfl), tb, q9, tc, td, te, (s8.st h6), ta, tf, tg, th, ti, tj⟩
  rintro wh cl ⟨xs7, a0, fd, fe, xs8, ep, bo, b2, ff, fg, xs9, a1, fh, fi, z, z2, z3, z4, fj, fk, fl, z5, fm, fn, fo, tk, tl, ec, tm, mf, mg, mh, tn, tp, mi, mj, ml, mm, mn⟩
  obtain ⟨wi, rfl⟩ := Has.ins tl
  have H := o2 xs7 xs8 xs9 z z2 z3 z4 z5 tk
  refine W_seq (W_reg (L_pu (P_fa fa84_0 ⟨ae, 0, none⟩ ⟨ae, 0, none⟩ rfl rfl) (L_pu (P_ld ag4 cL ⟨ae, 0, none⟩ (vb z) rfl (mn.cell rfl)) (L_nil ?_))))
  obtain ⟨tq, H, tr⟩ := H
  refine W_join (J := (fun t d0 => ∃ (xs12 : List Feat) (h7 : List (List Value)) (dl : Ob) (dc : Option Addr) (h8 : Nat) (h9 : Nat), tq xs12 ∧ Has t [(0, .slice A1 n2 c3), (1, .slice A6 n7 c8), (2, .slice bw bx bg), (9, .slice a0 fd fe), (10, .slice dc h8 h9), (43, .slice a1 fh fi), (44, vi (r4.length : Int)), (45, vi v2)] ∧ Ct [] w0 d0 (bk a1 :: bk dc :: bk a0 :: (dl ++ [])) O ∧ Sl kFeat d0 (Fr ((bk a1 :: bk dc :: bk a0 :: (dl ++ [])) ++ O)) (.slice A1 n2 c3) base_ ∧ Sl kFeat d0 (Fr ((bk a1 :: bk dc :: bk a0 :: (dl ++ [])) ++ O)) (.slice A6 n7 c8) a ∧ Sl kFeat d0 (Fr ((bk a1 :: bk dc :: bk a0 :: (dl ++ [])) ++ O)) (.slice bw bx bg) b ∧ Ow kClash 90 d0 ((bk a1 :: bk dc :: bk a0 :: (dl ++ [])) ++ O) (.slice a0 fd fe) xs7 ∧ Ow (Kd.cells 4) 61 d0 ((bk a1 :: bk dc :: bk a0 :: (dl ++ [])) ++ O) (.slice dc h8 h9) h7 ∧ DArr dFeat_61 d0 dl xs12 h7 ∧ Ow Kd.str 9 d0 ((bk a1 :: bk dc :: bk a0 :: (dl ++ [])) ++ O) (.slice a1 fh fi) xs9)) ?_ ?_
  ·refine W_cond z rfl (fun kg => ?_) (fun kg => ?_)
   ·have H := ite_t H kg
    refine W_reg (L_mv (.slice b2 ff fg) rfl (L_pu (P_fa fa84_1 ⟨ae, 0, none⟩ ⟨ae, 1, none⟩ rfl rfl) (L_pu (P_lda ag61 sz61 cL ⟨ae, 1, none⟩ [vs z2, vi z3, .slice fj fk fl, .slice fm fn fo] rfl rfl (mn.cells (off := 1) rfl)) ?_)))
    refine L_call go38 [.agg #[vs z2, vi z3, .slice fj fk fl, .slice fm fn fo]] rfl ((F27.calls cl ec.ok (⟨z2, (⟨z3, z4⟩ : Shape), z5⟩ : Feat) fj fk fl fm fn fo tm tn tp _ H).mono ?_)
    rintro _ mo ⟨r12, b3, ed, ee, b4, ef, eg, rfl, H, fy, ts, g4, tt, tu, tv⟩
    have mp := ec.owns fy ts g4
    have mq : (dFeat_61).D mo ([] ++ (([] ++ [bk b3]) ++ [bk b4])) r12 [vs r12.Id, vi r12.Shape.Kind, .slice b3 ed ee, .slice b4 ef eg] := (dFeat_61.mk _ r12 tt (Ds.ofOw kPt_flat tu) (Ds.ofOw kTag_flat tv))
    have tw : DArr dFeat_61 mo (([] ++ (([] ++ [bk b3]) ++ [bk b4])) ++ []) ([r12] : List Feat) ([[vs r12.Id, vi r12.Shape.Kind, .slice b3 ed ee, .slice b4 ef eg]] : List (List Value)) := ⟨_, _, rfl, mq, rfl⟩
    refine L_lit (kd := Kd.cells 4) ei26 mp ([[vs r12.Id, vi r12.Shape.Kind, .slice b3 ed ee, .slice b4 ef eg]] : List (List Value)) (cells := [vs r12.Id, vi r12.Shape.Kind, .slice b3 ed ee, .slice b4 ef eg]) ⟨[vs r12.Id, vi r12.Shape.Kind, .slice b3 ed ee, .slice b4 ef eg], _, rfl, Dd.raw _ mq, rfl⟩ (fun _ => by kernel_rfl) fun wj e0 tx ty fz hr844 f0 tz => ?_
    have f1 : ((bk e0 :: bk b3 :: bk b4 :: some ae :: bk a1 :: bk b2 :: bk a0 :: (bo ++ [])) : Ob).Perm (bk e0 :: some ae :: bk a1 :: bk b2 :: bk a0 :: (bo ++ ((([] ++ (([] ++ [bk b3]) ++ [bk b4])) ++ []) ++ []))) := (pc fun a => by (try simp only [pca, pcc, pcn, Nat.add_zero, Nat.zero_add]); first | done | ac_rfl)
    have g5 := f0.perm f1
    obtain ⟨t0, H⟩ := H
    have t1 := (f0.sp ((mj.sos fy g4).so _ fz hr844) f1)
    have t2 := (f0.sp tz f1)
    have mr := ((ml.k0 fy).k0 fz)
    have ms := (tw.k0 fz)
    have t3 : ep.length + ([[vs r12.Id, vi r12.Shape.Kind, .slice b3 ed ee, .slice b4 ef eg]] : List (List Value)).length ≤ 268435456 := by rw [mr.len, ms.len]; exact t0
    refine L_app (kd := Kd.cells 4) ei26 g5 (.slice b2 ff fg) ep ([[vs r12.Id, vi r12.Shape.Kind, .slice b3 ed ee, .slice b4 ef eg]] : List (List Value)) rfl t1 (.slice e0 tx ty) rfl t2.sx 3 rfl t3 fun wk f2 mt mu ia g6 ib t4 => ?_
    have t5 := (DArr.sm (L := (bk e0 :: some ae :: bk a1 :: bk b2 :: bk a0 :: (bo ++ ((([] ++ (([] ++ [bk b3]) ++ [bk b4])) ++ []) ++ [])))) (O := O) (i := 3) mr g5 rfl (fun b hb => (mcm (List.mem_append_left _ hb))) ia)
    have t6 := (DArr.sm (L := (bk e0 :: some ae :: bk a1 :: bk b2 :: bk a0 :: (bo ++ ((([] ++ (([] ++ [bk b3]) ++ [bk b4])) ++ []) ++ [])))) (O := O) (i := 3) ms g5 rfl (fun b hb => (mcm (List.mem_append_right _ (List.mem_append_left _ hb)))) ia)
    have t7 := DArr.app t5 t6
    have e1 : ((bk e0 :: some ae :: bk a1 :: bk f2 :: bk a0 :: (bo ++ ((([] ++ (([] ++ [bk b3]) ++ [bk b4])) ++ []) ++ []))) : Ob).Perm ((bk e0 :: []) ++ (some ae :: bk a1 :: bk f2 :: bk a0 :: (bo ++ ((([] ++ (([] ++ [bk b3]) ++ [bk b4])) ++ []) ++ [])))) := (pc fun a => by (try simp only [pca, pcc, pcn, Nat.add_zero, Nat.zero_add]); first | done | ac_rfl)
    have g7 := ib.drops e1
    have g8 : ((some ae :: bk a1 :: bk f2 :: bk a0 :: (bo ++ ((([] ++ (([] ++ [bk b3]) ++ [bk b4])) ++ []) ++ []))) : Ob).Perm (some ae :: bk a1 :: bk f2 :: bk a0 :: ((bo ++ (([] ++ (([] ++ [bk b3]) ++ [bk b4])) ++ [])) ++ [])) := (pc fun a => by (try simp only [pca, pcc, pcn, Nat.add_zero, Nat.zero_add]); first | done | ac_rfl)
    have g9 := g7.perm g8
    refine L_as (.slice f2 mt mu) rfl (L_nil ?_)
    have t8 := g9.drop 0 rfl
    have kh := ec.stos fy g4
    have ki := mp.stown _ fz hr844
    have kj := f0.stp f1
    have kk := g7.stp g8
    have kl := g9.std 0 rfl
    have t9 := (((((((mf.st kh).st ki).st kj).st g6).st (St.drops _ O e1)).st kk).st kl)
    have ua := (((((((mg.st kh).st ki).st kj).st g6).st (St.drops _ O e1)).st kk).st kl)
    have ub := (((((((mh.st kh).st ki).st kj).st g6).st (St.drops _ O e1)).st kk).st kl)
    have uc := (g9.sd (g7.sp (ib.odr (g5.sm (f0.sp ((mi.sos fy g4).so _ fz hr844) f1) 4 3 rfl rfl rfl ia g6) e1 3 rfl) g8) 3 0 rfl rfl rfl)
    have ud := (g9.sd (g7.sp (ib.odr t4 e1 2 rfl) g8) 2 0 rfl rfl rfl)
    have ue := t7
    have uf := (g9.sd (g7.sp (ib.odr (g5.sm (f0.sp ((mm.sos fy g4).so _ fz hr844) f1) 2 3 rfl rfl rfl ia g6) e1 1 rfl) g8) 1 0 rfl rfl rfl)
    exact ⟨(xs8 ++ ([r12] : List Feat)), (ep ++ ([[vs r12.Id, vi r12.Shape.Kind, .slice b3 ed ee, .slice b4 ef eg]] : List (List Value))), (bo ++ (([] ++ (([] ++ [bk b3]) ++ [bk b4])) ++ [])), f2, mt, mu, H, (hasI rfl), t8, t9, ua, ub, uc, ud, ue, uf⟩
   have H := ite_f H kg
   refine W_skip ?_
   have ug := ec.drop 0 rfl
   have km := ec.std 0 rfl
   have uh := (ec.sd mi 3 0 rfl rfl rfl)
   have ui := (ec.sd mj 2 0 rfl rfl rfl)
   have uj := ml
   have uk := (ec.sd mm 1 0 rfl rfl rfl)
   exact ⟨xs8, ep, bo, b2, ff, fg, H, (hasI rfl), ug, (mf.st km), (mg.st km), (mh.st km), uh, ui, uj, uk⟩
  rintro wl d0 ⟨xs12, h7, dl, dc, h8, h9, ul, um, un, uo, up, uq, ur, us, ut, uu⟩
  obtain ⟨wm, rfl⟩ := Has.ins um
  have H := tr xs12 ul
  refine W_reg ?_
  obtain ⟨uv, H⟩ := H
  refine L_pu (P_add v2 1 rfl rfl uv) (L_mv (vi (v2 + 1)) rfl (L_nil ?_))
  obtain ⟨uw, ux⟩ := H
  exact ⟨(xs7, a0, fd, fe, xs12, h7, dl, dc, h8, h9, xs9, a1, fh, fi, v2 + 1), ux, uw, (hasI rfl), un, uo, up, uq, ur, us, ut, uu⟩
 have H := ite_f H il
 refine W_exit (xin_hit ?_)
 refine W_seq (W_seq (W_reg (L_mv (.slice aa b5 b6) rfl ?_)))
 have uy : ((bk ab :: bk aa :: bk ad :: (ac ++ [])) : Ob).Perm (bk aa :: (ac ++ [bk ab, bk ad])) := (pc fun a => by (try simp only [pca, pcc, pcn, Nat.add_zero, Nat.zero_add]); first | done | ac_rfl)
 obtain ⟨uz, u0, wn⟩ := Dp.gv (L := (bk ab :: bk aa :: bk ad :: (ac ++ []))) (O := O) (v := .slice aa b5 b6) ej ek f4 uy
 refine L_call go31 [.slice aa b5 b6] rfl ((F57.calls cy u0.ok xs5 aa b5 b6 uz _ H).mono ?_)
 rintro _ u1 ⟨r13, rfl, H, ic⟩
 have id := f4.k0 ic
 refine L_pu (P_not r13 rfl) (L_nil ?_)
 refine W_cond (!r13) rfl (fun kn => ?_) (fun kn => ?_)
 ·have H := ite_t H kn
  refine W_seq ?_
  have u2 : ((bk ab :: bk aa :: bk ad :: (ac ++ [])) : Ob).Perm ((bk ab :: bk aa :: bk ad :: (ac ++ [])) ++ []) := (pc fun a => by (try simp only [pca, pcc, pcn, Nat.add_zero, Nat.zero_add]); first | done | ac_rfl)
  have u3 := id.drops u2
  refine W_reg ?_
  have u4 : DArr dFeat_61 u1 ([] : Ob) ([] : List Feat) ([] : List (List Value)) := rfl
  refine L_lit (kd := Kd.cells 4) ei26 u3 ([] : List (List Value)) (cells := []) rfl (fun _ => by kernel_rfl) fun wo ha ko kp u5 hr918 mv u6 => ?_
  have mw : ([bk ha] : Ob).Perm (bk ha :: (([] : Ob) ++ [])) := (pc fun a => by (try simp only [pca, pcc, pcn, Nat.add_zero, Nat.zero_add]); first | done | ac_rfl)
  have u7 := mv.perm mw
  refine L_lit (kd := kClash) ei37 u7 ([] : List Clash) (cells := []) rfl (fun _ => by kernel_rfl) fun wp kq kr ks mx hr930 kt u8 => ?_
  refine L_as (.slice ha ko kp) rfl (L_as (.slice kq kr ks) rfl (L_as (vb false) rfl (L_nil (W_ret ?_))))
  have ku := kt.perm (.swap _ _ _)
  have u9 := (kt.sp ((mv.sp u6 mw).so _ mx hr930) (.swap _ _ _))
  have va := ((u4.k0 u5).k0 mx)
  have vc := (kt.sp u8 (.swap _ _ _))
  exact ⟨[.slice ha ko kp, .slice kq kr ks, vb false], ⟨_, rfl, ⟨_, rfl, ⟨_, rfl, rfl⟩⟩⟩, ([] : List Feat), ([] : List Clash), false, ha, ko, kp, ([] : Ob), ([] : List (List Value)), kq, kr, ks, rfl, H, ku.gr.g0, ku.ok, ku.ge, u9, va, vc⟩
 have H := ite_f H kn
 refine W_skip (W_seq (W_reg (L_mv (.slice aa b5 b6) rfl (L_mv (.slice ad cd ce) rfl (L_as (.slice aa b5 b6) rfl (L_as (.slice ad cd ce) rfl (L_as (vb true) rfl (L_nil ?_))))))))
 refine W_ret ?_
 have kv := id.drop 0 rfl
 have vd := (id.sd (ej.sn ic) 1 0 rfl rfl rfl)
 have ve := (ek.k0 ic)
 have vf := (id.sd (e7.sn ic) 2 0 rfl rfl rfl)
 exact ⟨[.slice aa b5 b6, .slice ad cd ce, vb true], ⟨_, rfl, ⟨_, rfl, ⟨_, rfl, rfl⟩⟩⟩, xs5, xs4, true, aa, b5, b6, ac, cz, ad, cd, ce, rfl, H, kv.gr.g0, kv.ok, kv.ge, vd, ve, vf⟩
end
section
open Go.RowKit
def F123.E (a : Pt) (b : Pt) (Q : Bool → Prop) : Prop :=
 (if a.X != b.X then Q false else (if a.Y != b.Y then Q false else Q true))
theorem F123.calls {O : Ob} (w0 : World) (hO : Ok w0 O) (a : Pt) (b : Pt) (Q : Bool → Prop) (h : F123.E a b Q) :
  Ret Tryz.prog 130 [.agg #[vi a.X, vi a.Y], .agg #[vi b.X, vi b.Y]] w0 (fun v w' => ∃ (r0 : Bool), v = vb r0 ∧ Q r0 ∧ Gr w0 w' none) := by
 unfold F123.E at h
 have H := h
 clear h
 have hc0 := Ct.init hO
 refine Ret_enter Tryz.func130 rfl 15 rfl [.tmp 4] rfl rfl ?_
 refine W_seq (W_reg (L_box [vi a.X, vi a.Y] rfl fun w1 b2 hl4 hu5 g3 hx6 => ?_))
 have h8 := Fb.mk hc0.ok hl4 hx6
 have hc9 := hc0.k0 g3
 refine L_box [vi b.X, vi b.Y] rfl fun ak aa ah hu14 ae ai => ?_
 have af := Fb.mk hc9.ok ah ai
 have ab := hc9.k0 ae
 refine L_as (vb false) rfl (L_nil (W_seq (W_seq (W_reg (L_pu (P_fa fa114_0 ⟨b2, 0, none⟩ ⟨b2, 0, none⟩ rfl rfl) ?_)))))
 have aj := hc9.stn ae
 have ag := (h8.st aj)
 refine L_pu (P_ld ag3 cL ⟨b2, 0, none⟩ (vi a.X) rfl (ag.cell rfl)) (L_pu (P_fa fa114_0 ⟨aa, 0, none⟩ ⟨aa, 0, none⟩ rfl rfl) (L_pu (P_ld ag3 cL ⟨aa, 0, none⟩ (vi b.X) rfl (af.cell rfl)) (L_pu (P_cmp a.X b.X (a.X != b.X) rfl rfl rfl) (L_nil ?_))))
 refine W_cond (a.X != b.X) rfl (fun ac => ?_) (fun ac => ?_)
 ·have H := ite_t H ac
  exact W_seq (W_reg (L_as (vb false) rfl (L_nil (W_ret ⟨[vb false], ⟨_, rfl, rfl⟩, false, rfl, H, ab.gr.g0⟩))))
 have H := ite_f H ac
 refine W_skip (W_seq (W_seq (W_reg (L_pu (P_fa fa114_1 ⟨b2, 0, none⟩ ⟨b2, 1, none⟩ rfl rfl) (L_pu (P_ld ag3 cL ⟨b2, 1, none⟩ (vi a.Y) rfl (ag.cell rfl)) (L_pu (P_fa fa114_1 ⟨aa, 0, none⟩ ⟨aa, 1, none⟩ rfl rfl) (L_pu (P_ld ag3 cL ⟨aa, 1, none⟩ (vi b.Y) rfl (af.cell rfl)) (L_pu (P_cmp a.Y b.Y (a.Y != b.Y) rfl rfl rfl) ?_))))))))
 refine L_nil ?_
 refine W_cond (a.Y != b.Y) rfl (fun ad => ?_) (fun ad => ?_)
 ·have H := ite_t H ad
  exact W_seq (W_reg (L_as (vb false) rfl (L_nil (W_ret ⟨[vb false], ⟨_, rfl, rfl⟩, false, rfl, H, ab.gr.g0⟩))))
 have H := ite_f H ad
 exact W_skip (W_seq (W_reg (L_as (vb true) rfl (L_nil (W_ret ⟨[vb true], ⟨_, rfl, rfl⟩, true, rfl, H, ab.gr.g0⟩)))))
end
theorem F123.law (a b : Pt) (Q : Bool → Prop) (hq : Q (decide (a = b))) : F123.E a b Q := by
 obtain ⟨x0, x1⟩ := a; obtain ⟨y0, y1⟩ := b
 rw [show (decide ((⟨x0, x1⟩ : Pt) = ⟨y0, y1⟩)) = ((decide (x0 = y0)) && (decide (x1 = y1))) by simp only [Pt.mk.injEq, Bool.decide_and]] at hq
 unfold F123.E
 by_cases h0 : x0 = y0
 case neg => simpa [h0] using hq
 simp only [h0, decide_true, Bool.true_and, bne_self_eq_false, Bool.not_true, Bool.false_eq_true, if_false] at hq ⊢
 by_cases h1 : x1 = y1
 case neg => simpa [h1] using hq
 simp only [h1, decide_true, Bool.true_and, bne_self_eq_false, Bool.not_true, Bool.false_eq_true, if_false] at hq ⊢
 all_goals (try exact hq)
theorem F123.is (a b : Pt) : F123.E a b (fun r => r = decide (a = b)) := F123.law a b _ rfl
section
open Go.RowKit
def F109.E (a : List Pt) (b : List Pt) (Q : Bool → Prop) : Prop :=
 (if (a.length : Int) != (b.length : Int) then Q false else (∃ (I32 : Int → Prop) (mu33 : Int → Nat), I32 0 ∧ ∀ (i2 : Int), I32 i2 → (if decide (i2 < (a.length : Int)) then ((0 : Int) ≤ i2 ∧ i2 < (a.length : Int)) ∧ ((0 : Int) ≤ i2 ∧ i2 < (b.length : Int)) ∧ (if !(decide ((nth a i2) = (nth b i2))) then Q false else (-9223372036854775808 ≤ i2) ∧ I32 (i2 + 1) ∧ mu33 (i2 + 1) < mu33 i2) else Q true)))
theorem F109.calls {O : Ob} (w0 : World) (hO : Ok w0 O) (a : List Pt) (A1 : Option Addr) (n2 c3 : Nat) (hp4 : Sl kPt w0 (Fr O) (.slice A1 n2 c3) a) (b : List Pt) (A6 : Option Addr) (n7 c8 : Nat) (hp9 : Sl kPt w0 (Fr O) (.slice A6 n7 c8) b) (Q : Bool → Prop) (h : F109.E a b Q) :
  Ret Tryz.prog 112 [.slice A1 n2 c3, .slice A6 n7 c8] w0 (fun v w' => ∃ (r0 : Bool), v = vb r0 ∧ Q r0 ∧ Gr w0 w' none) := by
 unfold F109.E at h
 have H := h
 clear h
 have hc0 := Ct.init hO
 refine Ret_enter Tryz.func112 rfl 27 rfl [.tmp 4] rfl rfl ?_
 refine W_seq (W_reg (L_as (vb false) rfl (L_nil (W_seq (W_seq (W_reg (L_mv (.slice A1 n2 c3) rfl ?_)))))))
 have a5 := hp4.le
 refine L_pu (P_len Tryz.underlying56 A1 n2 c3 hp4.len rfl) (L_mv (.slice A6 n7 c8) rfl ?_)
 have a6 := hp9.le
 refine L_pu (P_len Tryz.underlying56 A6 n7 c8 hp9.len rfl) (L_pu (P_cmp (a.length : Int) (b.length : Int) ((a.length : Int) != (b.length : Int)) rfl rfl rfl) (L_nil ?_))
 refine W_cond ((a.length : Int) != (b.length : Int)) rfl (fun ae => ?_) (fun ae => ?_)
 ·have H := ite_t H ae
  exact W_seq (W_reg (L_as (vb false) rfl (L_nil (W_ret ⟨[vb false], ⟨_, rfl, rfl⟩, false, rfl, H, hc0.gr.g0⟩))))
 have H := ite_f H ae
 refine W_skip (W_seq (W_seq (W_reg (L_as (vi 0) rfl (L_nil (W_block ?_))))))
 obtain ⟨ap, aq, af, H⟩ := H
 refine W_loop (α := Int) (fun (sv__ : Int) t aa => match sv__ with | i2 => ap i2 ∧ Has t [(0, .slice A1 n2 c3), (1, .slice A6 n7 c8), (5, vi i2)] ∧ Ct [] w0 aa [] O ∧ Sl kPt aa (Fr ([] ++ O)) (.slice A1 n2 c3) a ∧ Sl kPt aa (Fr ([] ++ O)) (.slice A6 n7 c8) b) (fun (sv__ : Int) => match sv__ with | i2 => aq i2) 0 ⟨af, (hasI rfl), hc0, hp4, hp9⟩ ?_
 rintro i2 _ aa ⟨af, ar, ac, ab, ag⟩
 obtain ⟨a7, rfl⟩ := Has.ins ar
 have H := H i2 af
 refine W_seq (W_seq (W_reg (L_mv (vi i2) rfl (L_mv (.slice A1 n2 c3) rfl ?_))))
 have au := ab.le
 refine L_pu (P_len Tryz.underlying56 A1 n2 c3 ab.len rfl) (L_pu (P_cmp i2 (a.length : Int) (decide (i2 < (a.length : Int))) rfl rfl rfl) (L_nil ?_))
 refine W_cond (decide (i2 < (a.length : Int))) rfl (fun ad => ?_) (fun ad => ?_)
 ·have H := ite_t H ad
  refine W_skip (W_seq (W_block (W_seq (W_draw (fun x => Gr aa x none) (by kernel_rfl) (by kernel_rfl) (Gr.drew _) ?_))))
  refine Q_mv (.slice A1 n2 c3) rfl (Q_mv (vi i2) rfl ?_)
  obtain ⟨ai, H⟩ := H
  obtain ⟨aj, a8, av, a9, aw, ax⟩ := ab.get default (by decide) i2 ai
  obtain rfl := kPt.op aw
  refine Q_pu (P_ia Tryz.underlying56 se56 A1 aj n2 c3 ab.len i2 rfl av rfl ai) (Q_pu (P_lda ag114 sz114 cQ (aj.add (i2.toNat * 2)) [vi ((nth a i2).X), vi ((nth a i2).Y)] rfl rfl ax) (Q_mv (.slice A6 n7 c8) rfl (Q_mv (vi i2) rfl ?_)))
  obtain ⟨ak, H⟩ := H
  obtain ⟨al, ba, ay, bb, az, a0⟩ := ag.get default (by decide) i2 ak
  obtain rfl := kPt.op az
  refine Q_pu (P_ia Tryz.underlying56 se56 A6 al n7 c8 ag.len i2 rfl ay rfl ak) (Q_pu (P_lda ag114 sz114 cQ (al.add (i2.toNat * 2)) [vi ((nth b i2).X), vi ((nth b i2).Y)] rfl rfl a0) ?_)
  refine Q_call go130 [.agg #[vi ((nth a i2).X), vi ((nth a i2).Y)], .agg #[vi ((nth b i2).X), vi ((nth b i2).Y)]] rfl (vb (decide ((nth a i2) = (nth b i2)))) (fun w g => (F123.calls w (ac.k0 g).ok (nth a i2) (nth b i2) _ (F123.is (nth a i2) (nth b i2))).mono ?_) ?_
  ·rintro _ w ⟨r, rfl, rfl, g2⟩
   exact ⟨rfl, Gr.t0 g g2⟩
  refine Q_pu (P_not (decide ((nth a i2) = (nth b i2))) rfl) (Q_nil fun bc am => ?_)
  have an := ac.k0 am
  refine W_cond (!(decide ((nth a i2) = (nth b i2)))) rfl (fun ah => ?_) (fun ah => ?_)
  ·have H := ite_t H ah
   exact W_seq (W_reg (L_as (vb false) rfl (L_nil (W_ret ⟨[vb false], ⟨_, rfl, rfl⟩, false, rfl, H, an.gr.g0⟩))))
  have H := ite_f H ah
  refine W_skip (W_reg (L_mv (vi i2) rfl ?_))
  obtain ⟨a1, H⟩ := H
  have a2 : I64 (i2 + 1) := i64_succ (of_decide_eq_true ad) au a1
  refine L_pu (P_add i2 1 rfl rfl a2) (L_as (vi (i2 + 1)) rfl (L_nil ?_))
  obtain ⟨a3, a4⟩ := H
  have ao := ac.stn am
  exact ⟨i2 + 1, a4, a3, (hasI rfl), an, (ab.st ao), (ag.st ao)⟩
 have H := ite_f H ad
 refine W_exit (xin_hit ?_)
 exact W_seq (W_reg (L_as (vb true) rfl (L_nil (W_ret ⟨[vb true], ⟨_, rfl, rfl⟩, true, rfl, H, ac.gr.g0⟩))))
end
section
open Go.RowKit
def F58.E (a : Shape) (b : Shape) (Q : Bool → Prop) : Prop :=
 (if a.Kind != b.Kind then Q false else F109.E a.Pts b.Pts (fun r => (if !r then Q false else Q true)))
theorem F58.calls {O : Ob} (w0 : World) (hO : Ok w0 O) (a : Shape) (A1 : Option Addr) (n2 c3 : Nat) (hp4 : Sl kPt w0 (Fr O) (.slice A1 n2 c3) a.Pts) (b : Shape) (A6 : Option Addr) (n7 c8 : Nat) (hp9 : Sl kPt w0 (Fr O) (.slice A6 n7 c8) b.Pts) (Q : Bool → Prop) (h : F58.E a b Q) :
  Ret Tryz.prog 75 [.agg #[vi a.Kind, .slice A1 n2 c3], .agg #[vi b.Kind, .slice A6 n7 c8]] w0 (fun v w' => ∃ (r0 : Bool), v = vb r0 ∧ Q r0 ∧ Gr w0 w' none) := by
 unfold F58.E at h
 have H := h
 clear h
 have hc0 := Ct.init hO
 refine Ret_enter Tryz.func75 rfl 16 rfl [.tmp 4] rfl rfl ?_
 refine W_seq (W_reg (L_box [vi a.Kind, .slice A1 n2 c3] rfl fun av aa ak hu15 al am => ?_))
 have an := Fb.mk hc0.ok ak am
 have ad := hc0.k0 al
 refine L_box [vi b.Kind, .slice A6 n7 c8] rfl fun ao ab ap hu24 ag aq => ?_
 have ah := Fb.mk ad.ok ap aq
 have ac := ad.k0 ag
 refine L_as (vb false) rfl (L_nil (W_seq (W_seq (W_reg (L_pu (P_fa fa58_0 ⟨aa, 0, none⟩ ⟨aa, 0, none⟩ rfl rfl) ?_)))))
 have ar := ad.stn ag
 have ai := (an.st ar)
 refine L_pu (P_ld ag3 cL ⟨aa, 0, none⟩ (vi a.Kind) rfl (ai.cell rfl)) (L_pu (P_fa fa58_0 ⟨ab, 0, none⟩ ⟨ab, 0, none⟩ rfl rfl) (L_pu (P_ld ag3 cL ⟨ab, 0, none⟩ (vi b.Kind) rfl (ah.cell rfl)) (L_pu (P_cmp a.Kind b.Kind (a.Kind != b.Kind) rfl rfl rfl) (L_nil ?_))))
 refine W_cond (a.Kind != b.Kind) rfl (fun ae => ?_) (fun ae => ?_)
 ·have H := ite_t H ae
  exact W_seq (W_reg (L_as (vb false) rfl (L_nil (W_ret ⟨[vb false], ⟨_, rfl, rfl⟩, false, rfl, H, ac.gr.g0⟩))))
 have H := ite_f H ae
 refine W_skip (W_seq (W_seq (W_reg (L_pu (P_fa fa58_1 ⟨aa, 0, none⟩ ⟨aa, 1, none⟩ rfl rfl) (L_pu (P_ld ag56 cL ⟨aa, 1, none⟩ (.slice A1 n2 c3) rfl (ai.cell rfl)) (L_pu (P_fa fa58_1 ⟨ab, 0, none⟩ ⟨ab, 1, none⟩ rfl rfl) (L_pu (P_ld ag56 cL ⟨ab, 1, none⟩ (.slice A6 n7 c8) rfl (ah.cell rfl)) ?_)))))))
 refine L_call go112 [.slice A1 n2 c3, .slice A6 n7 c8] rfl ((F109.calls ao ac.ok a.Pts A1 n2 c3 (hp4.st ac.st) b.Pts A6 n7 c8 (hp9.st ac.st) _ H).mono ?_)
 rintro _ aw ⟨r, rfl, H, au⟩
 have aj := ac.k0 au
 refine L_pu (P_not r rfl) (L_nil ?_)
 refine W_cond (!r) rfl (fun af => ?_) (fun af => ?_)
 ·have H := ite_t H af
  exact W_seq (W_reg (L_as (vb false) rfl (L_nil (W_ret ⟨[vb false], ⟨_, rfl, rfl⟩, false, rfl, H, aj.gr.g0⟩))))
 have H := ite_f H af
 exact W_skip (W_seq (W_reg (L_as (vb true) rfl (L_nil (W_ret ⟨[vb true], ⟨_, rfl, rfl⟩, true, rfl, H, aj.gr.g0⟩)))))
end
section
open Go.RowKit
def F110.E (a : Tag) (b : Tag) (Q : Bool → Prop) : Prop :=
 (if a.Key != b.Key then Q false else (if a.Val != b.Val then Q false else Q true))
theorem F110.calls {O : Ob} (w0 : World) (hO : Ok w0 O) (a : Tag) (hs1 : Lim a.Key) (hs2 : Lim a.Val) (b : Tag) (hs3 : Lim b.Key) (hs4 : Lim b.Val) (Q : Bool → Prop) (h : F110.E a b Q) :
  Ret Tryz.prog 113 [.agg #[vs a.Key, vs a.Val], .agg #[vs b.Key, vs b.Val]] w0 (fun v w' => ∃ (r0 : Bool), v = vb r0 ∧ Q r0 ∧ Gr w0 w' none) := by
 unfold F110.E at h
 have H := h
 clear h
 have hc0 := Ct.init hO
 refine Ret_enter Tryz.func113 rfl 15 rfl [.tmp 4] rfl rfl ?_
 refine W_seq (W_reg (L_box [vs a.Key, vs a.Val] rfl fun w5 b6 hl8 hu9 g7 ai => ?_))
 have aj := Fb.mk hc0.ok hl8 ai
 have ab := hc0.k0 g7
 refine L_box [vs b.Key, vs b.Val] rfl fun an aa ak hu18 af al => ?_
 have ag := Fb.mk ab.ok ak al
 have ac := ab.k0 af
 refine L_as (vb false) rfl (L_nil (W_seq (W_seq (W_reg (L_pu (P_fa fa106_0 ⟨b6, 0, none⟩ ⟨b6, 0, none⟩ rfl rfl) ?_)))))
 have am := ab.stn af
 have ah := (aj.st am)
 refine L_pu (P_ld ag9 cL ⟨b6, 0, none⟩ (vs a.Key) rfl (ah.cell rfl)) (L_pu (P_fa fa106_0 ⟨aa, 0, none⟩ ⟨aa, 0, none⟩ rfl rfl) (L_pu (P_ld ag9 cL ⟨aa, 0, none⟩ (vs b.Key) rfl (ag.cell rfl)) (L_pu (P_scmp a.Key b.Key (a.Key != b.Key) rfl rfl rfl) (L_nil ?_))))
 refine W_cond (a.Key != b.Key) rfl (fun ad => ?_) (fun ad => ?_)
 ·have H := ite_t H ad
  exact W_seq (W_reg (L_as (vb false) rfl (L_nil (W_ret ⟨[vb false], ⟨_, rfl, rfl⟩, false, rfl, H, ac.gr.g0⟩))))
 have H := ite_f H ad
 refine W_skip (W_seq (W_seq (W_reg (L_pu (P_fa fa106_1 ⟨b6, 0, none⟩ ⟨b6, 1, none⟩ rfl rfl) (L_pu (P_ld ag9 cL ⟨b6, 1, none⟩ (vs a.Val) rfl (ah.cell rfl)) (L_pu (P_fa fa106_1 ⟨aa, 0, none⟩ ⟨aa, 1, none⟩ rfl rfl) (L_pu (P_ld ag9 cL ⟨aa, 1, none⟩ (vs b.Val) rfl (ag.cell rfl)) (L_pu (P_scmp a.Val b.Val (a.Val != b.Val) rfl rfl rfl) ?_))))))))
 refine L_nil ?_
 refine W_cond (a.Val != b.Val) rfl (fun ae => ?_) (fun ae => ?_)
 ·have H := ite_t H ae
  exact W_seq (W_reg (L_as (vb false) rfl (L_nil (W_ret ⟨[vb false], ⟨_, rfl, rfl⟩, false, rfl, H, ac.gr.g0⟩))))
 have H := ite_f H ae
 exact W_skip (W_seq (W_reg (L_as (vb true) rfl (L_nil (W_ret ⟨[vb true], ⟨_, rfl, rfl⟩, true, rfl, H, ac.gr.g0⟩)))))
end
theorem F110.law (a b : Tag) (Q : Bool → Prop) (hq : Q (decide (a = b))) : F110.E a b Q := by
 obtain ⟨x0, x1⟩ := a; obtain ⟨y0, y1⟩ := b
 rw [show (decide ((⟨x0, x1⟩ : Tag) = ⟨y0, y1⟩)) = ((decide (x0 = y0)) && (decide (x1 = y1))) by simp only [Tag.mk.injEq, Bool.decide_and]] at hq
 unfold F110.E
 by_cases h0 : x0 = y0
 case neg => simpa [h0] using hq
 simp only [h0, decide_true, Bool.true_and, bne_self_eq_false, Bool.not_true, Bool.false_eq_true, if_false] at hq ⊢
 by_cases h1 : x1 = y1
 case neg => simpa [h1] using hq
 simp only [h1, decide_true, Bool.true_and, bne_self_eq_false, Bool.not_true, Bool.false_eq_true, if_false] at hq ⊢
 all_goals (try exact hq)
theorem F110.is (a b : Tag) : F110.E a b (fun r => r = decide (a = b)) := F110.law a b _ rfl
section
open Go.RowKit
def F93.E (a : List Tag) (b : List Tag) (Q : Bool → Prop) : Prop :=
 (if (a.length : Int) != (b.length : Int) then Q false else (∃ (I32 : Int → Prop) (mu33 : Int → Nat), I32 0 ∧ ∀ (i2 : Int), I32 i2 → (if decide (i2 < (a.length : Int)) then ((0 : Int) ≤ i2 ∧ i2 < (a.length : Int)) ∧ ((0 : Int) ≤ i2 ∧ i2 < (b.length : Int)) ∧ (if !(decide ((nth a i2) = (nth b i2))) then Q false else (-9223372036854775808 ≤ i2) ∧ I32 (i2 + 1) ∧ mu33 (i2 + 1) < mu33 i2) else Q true)))
theorem F93.calls {O : Ob} (w0 : World) (hO : Ok w0 O) (a : List Tag) (A1 : Option Addr) (n2 c3 : Nat) (hp4 : Sl kTag w0 (Fr O) (.slice A1 n2 c3) a) (b : List Tag) (A6 : Option Addr) (n7 c8 : Nat) (hp9 : Sl kTag w0 (Fr O) (.slice A6 n7 c8) b) (Q : Bool → Prop) (h : F93.E a b Q) :
  Ret Tryz.prog 76 [.slice A1 n2 c3, .slice A6 n7 c8] w0 (fun v w' => ∃ (r0 : Bool), v = vb r0 ∧ Q r0 ∧ Gr w0 w' none) := by
 unfold F93.E at h
 have H := h
 clear h
 have hc0 := Ct.init hO
 refine Ret_enter Tryz.func76 rfl 27 rfl [.tmp 4] rfl rfl ?_
 refine W_seq (W_reg (L_as (vb false) rfl (L_nil (W_seq (W_seq (W_reg (L_mv (.slice A1 n2 c3) rfl ?_)))))))
 have a9 := hp4.le
 refine L_pu (P_len Tryz.underlying59 A1 n2 c3 hp4.len rfl) (L_mv (.slice A6 n7 c8) rfl ?_)
 have ba := hp9.le
 refine L_pu (P_len Tryz.underlying59 A6 n7 c8 hp9.len rfl) (L_pu (P_cmp (a.length : Int) (b.length : Int) ((a.length : Int) != (b.length : Int)) rfl rfl rfl) (L_nil ?_))
 refine W_cond ((a.length : Int) != (b.length : Int)) rfl (fun ae => ?_) (fun ae => ?_)
 ·have H := ite_t H ae
  exact W_seq (W_reg (L_as (vb false) rfl (L_nil (W_ret ⟨[vb false], ⟨_, rfl, rfl⟩, false, rfl, H, hc0.gr.g0⟩))))
 have H := ite_f H ae
 refine W_skip (W_seq (W_seq (W_reg (L_as (vi 0) rfl (L_nil (W_block ?_))))))
 obtain ⟨ap, aq, af, H⟩ := H
 refine W_loop (α := Int) (fun (sv__ : Int) t aa => match sv__ with | i2 => ap i2 ∧ Has t [(0, .slice A1 n2 c3), (1, .slice A6 n7 c8), (5, vi i2)] ∧ Ct [] w0 aa [] O ∧ Sl kTag aa (Fr ([] ++ O)) (.slice A1 n2 c3) a ∧ Sl kTag aa (Fr ([] ++ O)) (.slice A6 n7 c8) b) (fun (sv__ : Int) => match sv__ with | i2 => aq i2) 0 ⟨af, (hasI rfl), hc0, hp4, hp9⟩ ?_
 rintro i2 _ aa ⟨af, ar, ac, ab, ag⟩
 obtain ⟨bb, rfl⟩ := Has.ins ar
 have H := H i2 af
 refine W_seq (W_seq (W_reg (L_mv (vi i2) rfl (L_mv (.slice A1 n2 c3) rfl ?_))))
 have au := ab.le
 refine L_pu (P_len Tryz.underlying59 A1 n2 c3 ab.len rfl) (L_pu (P_cmp i2 (a.length : Int) (decide (i2 < (a.length : Int))) rfl rfl rfl) (L_nil ?_))
 refine W_cond (decide (i2 < (a.length : Int))) rfl (fun ad => ?_) (fun ad => ?_)
 ·have H := ite_t H ad
  refine W_skip (W_seq (W_block (W_seq (W_draw (fun x => Gr aa x none) (by kernel_rfl) (by kernel_rfl) (Gr.drew _) ?_))))
  refine Q_mv (.slice A1 n2 c3) rfl (Q_mv (vi i2) rfl ?_)
  obtain ⟨ai, H⟩ := H
  obtain ⟨aj, bc, av, bd, aw, ax⟩ := ab.get default (by decide) i2 ai
  obtain ⟨rfl, ay, az⟩ := kTag.op aw
  refine Q_pu (P_ia Tryz.underlying59 se59 A1 aj n2 c3 ab.len i2 rfl av rfl ai) (Q_pu (P_lda ag106 sz106 cQ (aj.add (i2.toNat * 2)) [vs ((nth a i2).Key), vs ((nth a i2).Val)] rfl rfl ax) (Q_mv (.slice A6 n7 c8) rfl (Q_mv (vi i2) rfl ?_)))
  obtain ⟨ak, H⟩ := H
  obtain ⟨al, be, a0, bf, a1, a2⟩ := ag.get default (by decide) i2 ak
  obtain ⟨rfl, a3, a4⟩ := kTag.op a1
  refine Q_pu (P_ia Tryz.underlying59 se59 A6 al n7 c8 ag.len i2 rfl a0 rfl ak) (Q_pu (P_lda ag106 sz106 cQ (al.add (i2.toNat * 2)) [vs ((nth b i2).Key), vs ((nth b i2).Val)] rfl rfl a2) ?_)
  refine Q_call go113 [.agg #[vs ((nth a i2).Key), vs ((nth a i2).Val)], .agg #[vs ((nth b i2).Key), vs ((nth b i2).Val)]] rfl (vb (decide ((nth a i2) = (nth b i2)))) (fun w g => (F110.calls w (ac.k0 g).ok (nth a i2) ay az (nth b i2) a3 a4 _ (F110.is (nth a i2) (nth b i2))).mono ?_) ?_
  ·rintro _ w ⟨r, rfl, rfl, g2⟩
   exact ⟨rfl, Gr.t0 g g2⟩
  refine Q_pu (P_not (decide ((nth a i2) = (nth b i2))) rfl) (Q_nil fun bg am => ?_)
  have an := ac.k0 am
  refine W_cond (!(decide ((nth a i2) = (nth b i2)))) rfl (fun ah => ?_) (fun ah => ?_)
  ·have H := ite_t H ah
   exact W_seq (W_reg (L_as (vb false) rfl (L_nil (W_ret ⟨[vb false], ⟨_, rfl, rfl⟩, false, rfl, H, an.gr.g0⟩))))
  have H := ite_f H ah
  refine W_skip (W_reg (L_mv (vi i2) rfl ?_))
  obtain ⟨a5, H⟩ := H
  have a6 : I64 (i2 + 1) := i64_succ (of_decide_eq_true ad) au a5
  refine L_pu (P_add i2 1 rfl rfl a6) (L_as (vi (i2 + 1)) rfl (L_nil ?_))
  obtain ⟨a7, a8⟩ := H
  have ao := ac.stn am
  exact ⟨i2 + 1, a8, a7, (hasI rfl), an, (ab.st ao), (ag.st ao)⟩
 have H := ite_f H ad
 refine W_exit (xin_hit ?_)
 exact W_seq (W_reg (L_as (vb true) rfl (L_nil (W_ret ⟨[vb true], ⟨_, rfl, rfl⟩, true, rfl, H, ac.gr.g0⟩))))
end
section
open Go.RowKit
def F94.E (a : Feat) (b : Feat) (Q : Bool → Prop) : Prop :=
 (if a.Id != b.Id then Q false else F58.E a.Shape b.Shape (fun r => (if !r then Q false else F93.E a.Tags b.Tags (fun r2 => (if !r2 then Q false else Q true)))))
theorem F94.calls {O : Ob} (w0 : World) (hO : Ok w0 O) (a : Feat) (A2 : Option Addr) (n3 c4 : Nat) (A7 : Option Addr) (n8 c9 : Nat) (hs1 : Lim a.Id) (hp5 : Sl kPt w0 (Fr O) (.slice A2 n3 c4) a.Shape.Pts) (aw : Sl kTag w0 (Fr O) (.slice A7 n8 c9) a.Tags) (b : Feat) (ac : Option Addr) (ad ae : Nat) (af : Option Addr) (ag ah : Nat) (bb : Lim b.Id) (ax : Sl kPt w0 (Fr O) (.slice ac ad ae) b.Shape.Pts) (ay : Sl kTag w0 (Fr O) (.slice af ag ah) b.Tags) (Q : Bool → Prop) (h : F94.E a b Q) :
  Ret Tryz.prog 41 [.agg #[vs a.Id, vi a.Shape.Kind, .slice A2 n3 c4, .slice A7 n8 c9], .agg #[vs b.Id, vi b.Shape.Kind, .slice ac ad ae, .slice af ag ah]] w0 (fun v w' => ∃ (r0 : Bool), v = vb r0 ∧ Q r0 ∧ Gr w0 w' none) := by
 unfold F94.E at h
 have H := h
 clear h
 have hc0 := Ct.init hO
 refine Ret_enter Tryz.func41 rfl 22 rfl [.tmp 4] rfl rfl ?_
 refine W_seq (W_reg (L_box [vs a.Id, vi a.Shape.Kind, .slice A2 n3 c4, .slice A7 n8 c9] rfl fun bc aa az hu27 a0 a1 => ?_))
 have a2 := Fb.mk hc0.ok az a1
 have ak := hc0.k0 a0
 refine L_box [vs b.Id, vi b.Shape.Kind, .slice ac ad ae, .slice af ag ah] rfl fun a3 ab a4 hu36 aq a5 => ?_
 have al := Fb.mk ak.ok a4 a5
 have ai := ak.k0 aq
 refine L_as (vb false) rfl (L_nil (W_seq (W_seq (W_reg (L_pu (P_fa fa61_0 ⟨aa, 0, none⟩ ⟨aa, 0, none⟩ rfl rfl) ?_)))))
 have a6 := ak.stn aq
 have am := (a2.st a6)
 refine L_pu (P_ld ag9 cL ⟨aa, 0, none⟩ (vs a.Id) rfl (am.cell rfl)) (L_pu (P_fa fa61_0 ⟨ab, 0, none⟩ ⟨ab, 0, none⟩ rfl rfl) (L_pu (P_ld ag9 cL ⟨ab, 0, none⟩ (vs b.Id) rfl (al.cell rfl)) (L_pu (P_scmp a.Id b.Id (a.Id != b.Id) rfl rfl rfl) (L_nil ?_))))
 refine W_cond (a.Id != b.Id) rfl (fun an => ?_) (fun an => ?_)
 ·have H := ite_t H an
  exact W_seq (W_reg (L_as (vb false) rfl (L_nil (W_ret ⟨[vb false], ⟨_, rfl, rfl⟩, false, rfl, H, ai.gr.g0⟩))))
 have H := ite_f H an
 refine W_skip (W_seq (W_seq (W_reg (L_pu (P_fa fa61_1 ⟨aa, 0, none⟩ ⟨aa, 1, none⟩ rfl rfl) (L_pu (P_lda ag58 sz58 cL ⟨aa, 1, none⟩ [vi a.Shape.Kind, .slice A2 n3 c4] rfl rfl (am.cells (off := 1) rfl)) (L_pu (P_fa fa61_1 ⟨ab, 0, none⟩ ⟨ab, 1, none⟩ rfl rfl) (L_pu (P_lda ag58 sz58 cL ⟨ab, 1, none⟩ [vi b.Shape.Kind, .slice ac ad ae] rfl rfl (al.cells (off := 1) rfl)) ?_)))))))
 refine L_call go75 [.agg #[vi a.Shape.Kind, .slice A2 n3 c4], .agg #[vi b.Shape.Kind, .slice ac ad ae]] rfl ((F58.calls a3 ai.ok a.Shape A2 n3 c4 (hp5.st ai.st) b.Shape ac ad ae (ax.st ai.st) _ H).mono ?_)
 rintro _ a7 ⟨r, rfl, H, ar⟩
 have aj := ai.k0 ar
 refine L_pu (P_not r rfl) (L_nil ?_)
 refine W_cond (!r) rfl (fun ao => ?_) (fun ao => ?_)
 ·have H := ite_t H ao
  exact W_seq (W_reg (L_as (vb false) rfl (L_nil (W_ret ⟨[vb false], ⟨_, rfl, rfl⟩, false, rfl, H, aj.gr.g0⟩))))
 have H := ite_f H ao
 refine W_skip (W_seq (W_seq (W_reg (L_pu (P_fa fa61_2 ⟨aa, 0, none⟩ ⟨aa, 3, none⟩ rfl rfl) ?_))))
 have au := ai.stn ar
 have a8 := (am.st au)
 refine L_pu (P_ld ag59 cL ⟨aa, 3, none⟩ (.slice A7 n8 c9) rfl (a8.cell rfl)) (L_pu (P_fa fa61_2 ⟨ab, 0, none⟩ ⟨ab, 3, none⟩ rfl rfl) ?_)
 have a9 := (al.st au)
 refine L_pu (P_ld ag59 cL ⟨ab, 3, none⟩ (.slice af ag ah) rfl (a9.cell rfl)) ?_
 refine L_call go76 [.slice A7 n8 c9, .slice af ag ah] rfl ((F93.calls a7 aj.ok a.Tags A7 n8 c9 (aw.st aj.st) b.Tags af ag ah (ay.st aj.st) _ H).mono ?_)
 rintro _ bd ⟨r2, rfl, H, ba⟩
 have av := aj.k0 ba
 refine L_pu (P_not r2 rfl) (L_nil ?_)
 refine W_cond (!r2) rfl (fun ap => ?_) (fun ap => ?_)
 ·have H := ite_t H ap
  exact W_seq (W_reg (L_as (vb false) rfl (L_nil (W_ret ⟨[vb false], ⟨_, rfl, rfl⟩, false, rfl, H, av.gr.g0⟩))))
 have H := ite_f H ap
 exact W_skip (W_seq (W_reg (L_as (vb true) rfl (L_nil (W_ret ⟨[vb true], ⟨_, rfl, rfl⟩, true, rfl, H, av.gr.g0⟩)))))
end
theorem F109.law (a b : List Pt) (Q : Bool → Prop) (hq : Q (decide (a = b))) : F109.E a b Q := by
 unfold F109.E
 exact eqS_shape (fun x y => decide (x = y)) (fun _ _ => rfl) a b Q hq
theorem F109.is (a b : List Pt) : F109.E a b (fun r => r = decide (a = b)) := F109.law a b _ rfl
theorem F58.law (a b : Shape) (Q : Bool → Prop) (hq : Q (decide (a = b))) : F58.E a b Q := by
 obtain ⟨x0, x1⟩ := a; obtain ⟨y0, y1⟩ := b
 rw [show (decide ((⟨x0, x1⟩ : Shape) = ⟨y0, y1⟩)) = ((decide (x0 = y0)) && (decide (x1 = y1))) by simp only [Shape.mk.injEq, Bool.decide_and]] at hq
 unfold F58.E
 by_cases h0 : x0 = y0
 case neg => simpa [h0] using hq
 simp only [h0, decide_true, Bool.true_and, bne_self_eq_false, Bool.not_true, Bool.false_eq_true, if_false] at hq ⊢
 try refine F109.law _ _ _ ?_
 by_cases h1 : x1 = y1
 case neg => simpa [h1] using hq
 simp only [h1, decide_true, Bool.true_and, bne_self_eq_false, Bool.not_true, Bool.false_eq_true, if_false] at hq ⊢
 all_goals (try exact hq)
theorem F58.is (a b : Shape) : F58.E a b (fun r => r = decide (a = b)) := F58.law a b _ rfl
theorem F93.law (a b : List Tag) (Q : Bool → Prop) (hq : Q (decide (a = b))) : F93.E a b Q := by
 unfold F93.E
 exact eqS_shape (fun x y => decide (x = y)) (fun _ _ => rfl) a b Q hq
theorem F93.is (a b : List Tag) : F93.E a b (fun r => r = decide (a = b)) := F93.law a b _ rfl
theorem F94.law (a b : Feat) (Q : Bool → Prop) (hq : Q (decide (a = b))) : F94.E a b Q := by
 obtain ⟨x0, x1, x2⟩ := a; obtain ⟨y0, y1, y2⟩ := b
 rw [show (decide ((⟨x0, x1, x2⟩ : Feat) = ⟨y0, y1, y2⟩)) = ((decide (x0 = y0)) && ((decide (x1 = y1)) && (decide (x2 = y2)))) by simp only [Feat.mk.injEq, Bool.decide_and]] at hq
 unfold F94.E
 by_cases h0 : x0 = y0
 case neg => simpa [h0] using hq
 simp only [h0, decide_true, Bool.true_and, bne_self_eq_false, Bool.not_true, Bool.false_eq_true, if_false] at hq ⊢
 try refine F58.law _ _ _ ?_
 by_cases h1 : x1 = y1
 case neg => simpa [h1] using hq
 simp only [h1, decide_true, Bool.true_and, bne_self_eq_false, Bool.not_true, Bool.false_eq_true, if_false] at hq ⊢
 try refine F93.law _ _ _ ?_
 by_cases h2 : x2 = y2
 case neg => simpa [h2] using hq
 simp only [h2, decide_true, Bool.true_and, bne_self_eq_false, Bool.not_true, Bool.false_eq_true, if_false] at hq ⊢
 all_goals (try exact hq)
theorem F94.is (a b : Feat) : F94.E a b (fun r => r = decide (a = b)) := F94.law a b _ rfl
section
open Go.RowKit
def F59.E (a : List Feat) (b : List Feat) (Q : Bool → Prop) : Prop :=
 (if (a.length : Int) != (b.length : Int) then Q false else (∃ (I32 : Int → Prop) (mu33 : Int → Nat), I32 0 ∧ ∀ (i2 : Int), I32 i2 → (if decide (i2 < (a.length : Int)) then ((0 : Int) ≤ i2 ∧ i2 < (a.length : Int)) ∧ ((0 : Int) ≤ i2 ∧ i2 < (b.length : Int)) ∧ (if !(decide ((nth a i2) = (nth b i2))) then Q false else (-9223372036854775808 ≤ i2) ∧ I32 (i2 + 1) ∧ mu33 (i2 + 1) < mu33 i2) else Q true)))
theorem F59.calls {O : Ob} (w0 : World) (hO : Ok w0 O) (a : List Feat) (A1 : Option Addr) (n2 c3 : Nat) (hp4 : Sl kFeat w0 (Fr O) (.slice A1 n2 c3) a) (b : List Feat) (A6 : Option Addr) (n7 c8 : Nat) (hp9 : Sl kFeat w0 (Fr O) (.slice A6 n7 c8) b) (Q : Bool → Prop) (h : F59.E a b Q) :
  Ret Tryz.prog 11 [.slice A1 n2 c3, .slice A6 n7 c8] w0 (fun v w' => ∃ (r0 : Bool), v = vb r0 ∧ Q r0 ∧ Gr w0 w' none) := by
 unfold F59.E at h
 have H := h
 clear h
 have hc0 := Ct.init hO
 refine Ret_enter Tryz.func11 rfl 27 rfl [.tmp 4] rfl rfl ?_
 refine W_seq (W_reg (L_as (vb false) rfl (L_nil (W_seq (W_seq (W_reg (L_mv (.slice A1 n2 c3) rfl ?_)))))))
 have bo := hp4.le
 refine L_pu (P_len Tryz.underlying26 A1 n2 c3 hp4.len rfl) (L_mv (.slice A6 n7 c8) rfl ?_)
 have bp := hp9.le
 refine L_pu (P_len Tryz.underlying26 A6 n7 c8 hp9.len rfl) (L_pu (P_cmp (a.length : Int) (b.length : Int) ((a.length : Int) != (b.length : Int)) rfl rfl rfl) (L_nil ?_))
 refine W_cond ((a.length : Int) != (b.length : Int)) rfl (fun ae => ?_) (fun ae => ?_)
 ·have H := ite_t H ae
  exact W_seq (W_reg (L_as (vb false) rfl (L_nil (W_ret ⟨[vb false], ⟨_, rfl, rfl⟩, false, rfl, H, hc0.gr.g0⟩))))
 have H := ite_f H ae
 refine W_skip (W_seq (W_seq (W_reg (L_as (vi 0) rfl (L_nil (W_block ?_))))))
 obtain ⟨a3, a4, af, H⟩ := H
 refine W_loop (α := Int) (fun (sv__ : Int) t aa => match sv__ with | i2 => a3 i2 ∧ Has t [(0, .slice A1 n2 c3), (1, .slice A6 n7 c8), (5, vi i2)] ∧ Ct [] w0 aa [] O ∧ Sl kFeat aa (Fr ([] ++ O)) (.slice A1 n2 c3) a ∧ Sl kFeat aa (Fr ([] ++ O)) (.slice A6 n7 c8) b) (fun (sv__ : Int) => match sv__ with | i2 => a4 i2) 0 ⟨af, (hasI rfl), hc0, hp4, hp9⟩ ?_
 rintro i2 _ aa ⟨af, a5, ac, ab, ag⟩
 obtain ⟨bq, rfl⟩ := Has.ins a5
 have H := H i2 af
 refine W_seq (W_seq (W_reg (L_mv (vi i2) rfl (L_mv (.slice A1 n2 c3) rfl ?_))))
 have a6 := ab.le
 refine L_pu (P_len Tryz.underlying26 A1 n2 c3 ab.len rfl) (L_pu (P_cmp i2 (a.length : Int) (decide (i2 < (a.length : Int))) rfl rfl rfl) (L_nil ?_))
 refine W_cond (decide (i2 < (a.length : Int))) rfl (fun ad => ?_) (fun ad => ?_)
 ·have H := ite_t H ad
  refine W_skip (W_seq (W_block (W_seq (W_draw (fun x => Gr aa x none) (by kernel_rfl) (by kernel_rfl) (Gr.drew _) ?_))))
  refine Q_mv (.slice A1 n2 c3) rfl (Q_mv (vi i2) rfl ?_)
  obtain ⟨aw, H⟩ := H
  obtain ⟨ax, br, a7, bs, a8, a9⟩ := ab.get default (by decide) i2 aw
  obtain ⟨ah, ai, aj, ak, al, am, rfl, ba, bb, bc⟩ := kFeat.op a8
  refine Q_pu (P_ia Tryz.underlying26 se26 A1 ax n2 c3 ab.len i2 rfl a7 rfl aw) (Q_pu (P_lda ag61 sz61 cQ (ax.add (i2.toNat * 4)) [vs ((nth a i2).Id), vi ((nth a i2).Shape.Kind), .slice ah ai aj, .slice ak al am] rfl rfl a9) (Q_mv (.slice A6 n7 c8) rfl (Q_mv (vi i2) rfl ?_)))
  obtain ⟨ay, H⟩ := H
  obtain ⟨az, bt, bd, bu, be, bf⟩ := ag.get default (by decide) i2 ay
  obtain ⟨an, ao, ap, aq, ar, au, rfl, bg, bh, bi⟩ := kFeat.op be
  refine Q_pu (P_ia Tryz.underlying26 se26 A6 az n7 c8 ag.len i2 rfl bd rfl ay) (Q_pu (P_lda ag61 sz61 cQ (az.add (i2.toNat * 4)) [vs ((nth b i2).Id), vi ((nth b i2).Shape.Kind), .slice an ao ap, .slice aq ar au] rfl rfl bf) ?_)
  refine Q_call go41 [.agg #[vs ((nth a i2).Id), vi ((nth a i2).Shape.Kind), .slice ah ai aj, .slice ak al am], .agg #[vs ((nth b i2).Id), vi ((nth b i2).Shape.Kind), .slice an ao ap, .slice aq ar au]] rfl (vb (decide ((nth a i2) = (nth b i2)))) (fun w g => (F94.calls w (ac.k0 g).ok (nth a i2) ah ai aj ak al am ba (bb.st (.new _ g)) (bc.st (.new _ g)) (nth b i2) an ao ap aq ar au bg (bh.st (.new _ g)) (bi.st (.new _ g)) _ (F94.is (nth a i2) (nth b i2))).mono ?_) ?_
  ·rintro _ w ⟨r, rfl, rfl, g2⟩
   exact ⟨rfl, Gr.t0 g g2⟩
  refine Q_pu (P_not (decide ((nth a i2) = (nth b i2))) rfl) (Q_nil fun bv a0 => ?_)
  have a1 := ac.k0 a0
  refine W_cond (!(decide ((nth a i2) = (nth b i2)))) rfl (fun av => ?_) (fun av => ?_)
  ·have H := ite_t H av
   exact W_seq (W_reg (L_as (vb false) rfl (L_nil (W_ret ⟨[vb false], ⟨_, rfl, rfl⟩, false, rfl, H, a1.gr.g0⟩))))
  have H := ite_f H av
  refine W_skip (W_reg (L_mv (vi i2) rfl ?_))
  obtain ⟨bj, H⟩ := H
  have bl : I64 (i2 + 1) := i64_succ (of_decide_eq_true ad) a6 bj
  refine L_pu (P_add i2 1 rfl rfl bl) (L_as (vi (i2 + 1)) rfl (L_nil ?_))
  obtain ⟨bm, bn⟩ := H
  have a2 := ac.stn a0
  exact ⟨i2 + 1, bn, bm, (hasI rfl), a1, (ab.st a2), (ag.st a2)⟩
 have H := ite_f H ad
 refine W_exit (xin_hit ?_)
 exact W_seq (W_reg (L_as (vb true) rfl (L_nil (W_ret ⟨[vb true], ⟨_, rfl, rfl⟩, true, rfl, H, ac.gr.g0⟩))))
end
section
open Go.RowKit
def F68.E (a : Clash) (b : Clash) (Q : Bool → Prop) : Prop :=
 (if a.Id != b.Id then Q false else (if a.What != b.What then Q false else Q true))
theorem F68.calls {O : Ob} (w0 : World) (hO : Ok w0 O) (a : Clash) (hs1 : Lim a.Id) (hs2 : Lim a.What) (b : Clash) (hs3 : Lim b.Id) (hs4 : Lim b.What) (Q : Bool → Prop) (h : F68.E a b Q) :
  Ret Tryz.prog 54 [.agg #[vs a.Id, vs a.What], .agg #[vs b.Id, vs b.What]] w0 (fun v w' => ∃ (r0 : Bool), v = vb r0 ∧ Q r0 ∧ Gr w0 w' none) := by
 unfold F68.E at h
 have H := h
 clear h
 have hc0 := Ct.init hO
 refine Ret_enter Tryz.func54 rfl 15 rfl [.tmp 4] rfl rfl ?_
 refine W_seq (W_reg (L_box [vs a.Id, vs a.What] rfl fun w5 b6 hl8 hu9 g7 ai => ?_))
 have aj := Fb.mk hc0.ok hl8 ai
 have ab := hc0.k0 g7
 refine L_box [vs b.Id, vs b.What] rfl fun an aa ak hu18 af al => ?_
 have ag := Fb.mk ab.ok ak al
 have ac := ab.k0 af
 refine L_as (vb false) rfl (L_nil (W_seq (W_seq (W_reg (L_pu (P_fa fa90_0 ⟨b6, 0, none⟩ ⟨b6, 0, none⟩ rfl rfl) ?_)))))
 have am := ab.stn af
 have ah := (aj.st am)
 refine L_pu (P_ld ag9 cL ⟨b6, 0, none⟩ (vs a.Id) rfl (ah.cell rfl)) (L_pu (P_fa fa90_0 ⟨aa, 0, none⟩ ⟨aa, 0, none⟩ rfl rfl) (L_pu (P_ld ag9 cL ⟨aa, 0, none⟩ (vs b.Id) rfl (ag.cell rfl)) (L_pu (P_scmp a.Id b.Id (a.Id != b.Id) rfl rfl rfl) (L_nil ?_))))
 refine W_cond (a.Id != b.Id) rfl (fun ad => ?_) (fun ad => ?_)
 ·have H := ite_t H ad
  exact W_seq (W_reg (L_as (vb false) rfl (L_nil (W_ret ⟨[vb false], ⟨_, rfl, rfl⟩, false, rfl, H, ac.gr.g0⟩))))
 have H := ite_f H ad
 refine W_skip (W_seq (W_seq (W_reg (L_pu (P_fa fa90_1 ⟨b6, 0, none⟩ ⟨b6, 1, none⟩ rfl rfl) (L_pu (P_ld ag9 cL ⟨b6, 1, none⟩ (vs a.What) rfl (ah.cell rfl)) (L_pu (P_fa fa90_1 ⟨aa, 0, none⟩ ⟨aa, 1, none⟩ rfl rfl) (L_pu (P_ld ag9 cL ⟨aa, 1, none⟩ (vs b.What) rfl (ag.cell rfl)) (L_pu (P_scmp a.What b.What (a.What != b.What) rfl rfl rfl) ?_))))))))
 refine L_nil ?_
 refine W_cond (a.What != b.What) rfl (fun ae => ?_) (fun ae => ?_)
 ·have H := ite_t H ae
  exact W_seq (W_reg (L_as (vb false) rfl (L_nil (W_ret ⟨[vb false], ⟨_, rfl, rfl⟩, false, rfl, H, ac.gr.g0⟩))))
 have H := ite_f H ae
 exact W_skip (W_seq (W_reg (L_as (vb true) rfl (L_nil (W_ret ⟨[vb true], ⟨_, rfl, rfl⟩, true, rfl, H, ac.gr.g0⟩)))))
end
theorem F68.law (a b : Clash) (Q : Bool → Prop) (hq : Q (decide (a = b))) : F68.E a b Q := by
 obtain ⟨x0, x1⟩ := a; obtain ⟨y0, y1⟩ := b
 rw [show (decide ((⟨x0, x1⟩ : Clash) = ⟨y0, y1⟩)) = ((decide (x0 = y0)) && (decide (x1 = y1))) by simp only [Clash.mk.injEq, Bool.decide_and]] at hq
 unfold F68.E
 by_cases h0 : x0 = y0
 case neg => simpa [h0] using hq
 simp only [h0, decide_true, Bool.true_and, bne_self_eq_false, Bool.not_true, Bool.false_eq_true, if_false] at hq ⊢
 by_cases h1 : x1 = y1
 case neg => simpa [h1] using hq
 simp only [h1, decide_true, Bool.true_and, bne_self_eq_false, Bool.not_true, Bool.false_eq_true, if_false] at hq ⊢
 all_goals (try exact hq)
theorem F68.is (a b : Clash) : F68.E a b (fun r => r = decide (a = b)) := F68.law a b _ rfl
section
open Go.RowKit
def F49.E (a : List Clash) (b : List Clash) (Q : Bool → Prop) : Prop :=
 (if (a.length : Int) != (b.length : Int) then Q false else (∃ (I32 : Int → Prop) (mu33 : Int → Nat), I32 0 ∧ ∀ (i2 : Int), I32 i2 → (if decide (i2 < (a.length : Int)) then ((0 : Int) ≤ i2 ∧ i2 < (a.length : Int)) ∧ ((0 : Int) ≤ i2 ∧ i2 < (b.length : Int)) ∧ (if !(decide ((nth a i2) = (nth b i2))) then Q false else (-9223372036854775808 ≤ i2) ∧ I32 (i2 + 1) ∧ mu33 (i2 + 1) < mu33 i2) else Q true)))
theorem F49.calls {O : Ob} (w0 : World) (hO : Ok w0 O) (a : List Clash) (A1 : Option Addr) (n2 c3 : Nat) (hp4 : Sl kClash w0 (Fr O) (.slice A1 n2 c3) a) (b : List Clash) (A6 : Option Addr) (n7 c8 : Nat) (hp9 : Sl kClash w0 (Fr O) (.slice A6 n7 c8) b) (Q : Bool → Prop) (h : F49.E a b Q) :
  Ret Tryz.prog 18 [.slice A1 n2 c3, .slice A6 n7 c8] w0 (fun v w' => ∃ (r0 : Bool), v = vb r0 ∧ Q r0 ∧ Gr w0 w' none) := by
 unfold F49.E at h
 have H := h
 clear h
 have hc0 := Ct.init hO
 refine Ret_enter Tryz.func18 rfl 27 rfl [.tmp 4] rfl rfl ?_
 refine W_seq (W_reg (L_as (vb false) rfl (L_nil (W_seq (W_seq (W_reg (L_mv (.slice A1 n2 c3) rfl ?_)))))))
 have a9 := hp4.le
 refine L_pu (P_len Tryz.underlying37 A1 n2 c3 hp4.len rfl) (L_mv (.slice A6 n7 c8) rfl ?_)
 have ba := hp9.le
 refine L_pu (P_len Tryz.underlying37 A6 n7 c8 hp9.len rfl) (L_pu (P_cmp (a.length : Int) (b.length : Int) ((a.length : Int) != (b.length : Int)) rfl rfl rfl) (L_nil ?_))
 refine W_cond ((a.length : Int) != (b.length : Int)) rfl (fun ae => ?_) (fun ae => ?_)
 ·have H := ite_t H ae
  exact W_seq (W_reg (L_as (vb false) rfl (L_nil (W_ret ⟨[vb false], ⟨_, rfl, rfl⟩, false, rfl, H, hc0.gr.g0⟩))))
 have H := ite_f H ae
 refine W_skip (W_seq (W_seq (W_reg (L_as (vi 0) rfl (L_nil (W_block ?_))))))
 obtain ⟨ap, aq, af, H⟩ := H
 refine W_loop (α := Int) (fun (sv__ : Int) t aa => match sv__ with | i2 => ap i2 ∧ Has t [(0, .slice A1 n2 c3), (1, .slice A6 n7 c8), (5, vi i2)] ∧ Ct [] w0 aa [] O ∧ Sl kClash aa (Fr ([] ++ O)) (.slice A1 n2 c3) a ∧ Sl kClash aa (Fr ([] ++ O)) (.slice A6 n7 c8) b) (fun (sv__ : Int) => match sv__ with | i2 => aq i2) 0 ⟨af, (hasI rfl), hc0, hp4, hp9⟩ ?_
 rintro i2 _ aa ⟨af, ar, ac, ab, ag⟩
 obtain ⟨bb, rfl⟩ := Has.ins ar
 have H := H i2 af
 refine W_seq (W_seq (W_reg (L_mv (vi i2) rfl (L_mv (.slice A1 n2 c3) rfl ?_))))
 have au := ab.le
 refine L_pu (P_len Tryz.underlying37 A1 n2 c3 ab.len rfl) (L_pu (P_cmp i2 (a.length : Int) (decide (i2 < (a.length : Int))) rfl rfl rfl) (L_nil ?_))
 refine W_cond (decide (i2 < (a.length : Int))) rfl (fun ad => ?_) (fun ad => ?_)
 ·have H := ite_t H ad
  refine W_skip (W_seq (W_block (W_seq (W_draw (fun x => Gr aa x none) (by kernel_rfl) (by kernel_rfl) (Gr.drew _) ?_))))
  refine Q_mv (.slice A1 n2 c3) rfl (Q_mv (vi i2) rfl ?_)
  obtain ⟨ai, H⟩ := H
  obtain ⟨aj, bc, av, bd, aw, ax⟩ := ab.get default (by decide) i2 ai
  obtain ⟨rfl, ay, az⟩ := kClash.op aw
  refine Q_pu (P_ia Tryz.underlying37 se37 A1 aj n2 c3 ab.len i2 rfl av rfl ai) (Q_pu (P_lda ag90 sz90 cQ (aj.add (i2.toNat * 2)) [vs ((nth a i2).Id), vs ((nth a i2).What)] rfl rfl ax) (Q_mv (.slice A6 n7 c8) rfl (Q_mv (vi i2) rfl ?_)))
  obtain ⟨ak, H⟩ := H
  obtain ⟨al, be, a0, bf, a1, a2⟩ := ag.get default (by decide) i2 ak
  obtain ⟨rfl, a3, a4⟩ := kClash.op a1
  refine Q_pu (P_ia Tryz.underlying37 se37 A6 al n7 c8 ag.len i2 rfl a0 rfl ak) (Q_pu (P_lda ag90 sz90 cQ (al.add (i2.toNat * 2)) [vs ((nth b i2).Id), vs ((nth b i2).What)] rfl rfl a2) ?_)
  refine Q_call go54 [.agg #[vs ((nth a i2).Id), vs ((nth a i2).What)], .agg #[vs ((nth b i2).Id), vs ((nth b i2).What)]] rfl (vb (decide ((nth a i2) = (nth b i2)))) (fun w g => (F68.calls w (ac.k0 g).ok (nth a i2) ay az (nth b i2) a3 a4 _ (F68.is (nth a i2) (nth b i2))).mono ?_) ?_
  ·rintro _ w ⟨r, rfl, rfl, g2⟩
   exact ⟨rfl, Gr.t0 g g2⟩
  refine Q_pu (P_not (decide ((nth a i2) = (nth b i2))) rfl) (Q_nil fun bg am => ?_)
  have an := ac.k0 am
  refine W_cond (!(decide ((nth a i2) = (nth b i2)))) rfl (fun ah => ?_) (fun ah => ?_)
  ·have H := ite_t H ah
   exact W_seq (W_reg (L_as (vb false) rfl (L_nil (W_ret ⟨[vb false], ⟨_, rfl, rfl⟩, false, rfl, H, an.gr.g0⟩))))
  have H := ite_f H ah
  refine W_skip (W_reg (L_mv (vi i2) rfl ?_))
  obtain ⟨a5, H⟩ := H
  have a6 : I64 (i2 + 1) := i64_succ (of_decide_eq_true ad) au a5
  refine L_pu (P_add i2 1 rfl rfl a6) (L_as (vi (i2 + 1)) rfl (L_nil ?_))
  obtain ⟨a7, a8⟩ := H
  have ao := ac.stn am
  exact ⟨i2 + 1, a8, a7, (hasI rfl), an, (ab.st ao), (ag.st ao)⟩
 have H := ite_f H ad
 refine W_exit (xin_hit ?_)
 exact W_seq (W_reg (L_as (vb true) rfl (L_nil (W_ret ⟨[vb true], ⟨_, rfl, rfl⟩, true, rfl, H, ac.gr.g0⟩))))
end
section
open Go.RowKit
def F41.E (k : Int) (Q : Str → Prop) : Prop :=
 (if decide (k ≤ 0) then Q ([109, 48] : Str) else (∃ (I10 : Int → Str → Prop) (mu11 : Int → Str → Nat), I10 k ([] : Str) ∧ ∀ (k3 : Int) (out2 : Str), I10 k3 out2 → (if decide (k3 > 0) then ((0 : Int) ≤ k3 ∧ (0 : Int) < 10) ∧ (I64 (48 + (k3 % 10))) ∧ ((0 : Int) ≤ 48 + (k3 % 10) ∧ 48 + (k3 % 10) ≤ (255 : Int)) ∧ (([(UInt8.ofNat (48 + (k3 % 10)).toNat)] : List UInt8).length + out2.length ≤ 9223372036854775807) ∧ (((0 : Int) ≤ k3 ∧ k3 ≤ (9223372036854775807 : Int)) ∧ (0 : Int) < 10) ∧ I10 (k3 / 10) (([(UInt8.ofNat (48 + (k3 % 10)).toNat)] : List UInt8) ++ out2) ∧ mu11 (k3 / 10) (([(UInt8.ofNat (48 + (k3 % 10)).toNat)] : List UInt8) ++ out2) < mu11 k3 out2 else (([109] : Str).length + out2.length ≤ 9223372036854775807) ∧ Q (([109] : Str) ++ out2))))
theorem F41.calls {O : Ob} (w0 : World) (hO : Ok w0 O) (k : Int) (Q : Str → Prop) (h : F41.E k Q) :
  Ret Tryz.prog 43 [vi k] w0 (fun v w' => ∃ (r0 : Str), v = vs r0 ∧ Q r0 ∧ Gr w0 w' none ∧ Lim r0) := by
 unfold F41.E at h
 have H := h
 clear h
 have hc0 := Ct.init hO
 refine Ret_enter Tryz.func43 rfl 20 rfl [.tmp 2] rfl rfl ?_
 refine W_seq (W_reg (L_as (vs ([] : Str)) rfl (L_nil (W_seq (W_seq (W_reg (L_mv (vi k) rfl (L_pu (P_cmp k 0 (decide (k ≤ 0)) rfl rfl rfl) ?_))))))))
 refine L_nil ?_
 refine W_cond (decide (k ≤ 0)) rfl (fun hq1 => ?_) (fun hq1 => ?_)
 ·have H := ite_t H hq1
  exact W_seq (W_reg (L_as (vs ([109, 48] : Str)) rfl (L_nil (W_ret ⟨[vs ([109, 48] : Str)], ⟨_, rfl, rfl⟩, ([109, 48] : Str), rfl, H, hc0.gr.g0, (by decide : Lim ([109, 48] : Str))⟩))))
 have H := ite_f H hq1
 refine W_skip (W_seq (W_reg (L_as (vs ([] : Str)) rfl (L_nil (W_seq (W_block ?_))))))
 obtain ⟨af, ag, aa, H⟩ := H
 refine W_loop (α := Int × Str) (fun (sv__ : Int × Str) t w7 => match sv__ with | (k3, out2) => af k3 out2 ∧ Has t [(0, vi k3), (3, vs out2)] ∧ Ct [] w0 w7 [] O ∧ Lim out2) (fun (sv__ : Int × Str) => match sv__ with | (k3, out2) => ag k3 out2) (k, ([] : Str)) ⟨aa, (hasI rfl), hc0, (by decide : Lim ([] : Str))⟩ ?_
 rintro ⟨k3, out2⟩ _ w7 ⟨aa, ah, hc9, hs8⟩
 obtain ⟨av, rfl⟩ := Has.ins ah
 have H := H k3 out2 aa
 refine W_seq (W_seq (W_reg (L_mv (vi k3) rfl (L_pu (P_cmp k3 0 (decide (k3 > 0)) rfl rfl rfl) (L_nil ?_)))))
 refine W_cond (decide (k3 > 0)) rfl (fun ab => ?_) (fun ab => ?_)
 ·have H := ite_t H ab
  refine W_skip (W_block (W_seq (W_reg (L_mv (vi k3) rfl ?_))))
  obtain ⟨ai, H⟩ := H
  refine L_pu (P_rem k3 10 rfl rfl ai) ?_
  obtain ⟨aj, H⟩ := H
  refine L_pu (P_add 48 (k3 % 10) rfl rfl aj) ?_
  obtain ⟨ak, H⟩ := H
  refine L_pu (P_convb Tryz.underlying3 Tryz.underlying5 (48 + (k3 % 10)) rfl ak) (L_lit (kd := Kd.byte) ei112 hc9 ([(UInt8.ofNat (48 + (k3 % 10)).toNat)] : List UInt8) (cells := [v8 (UInt8.ofNat (48 + (k3 % 10)).toNat)]) ⟨[v8 (UInt8.ofNat (48 + (k3 % 10)).toNat)], _, rfl, rfl, rfl⟩ (fun _ => by kernel_rfl) fun aw al am an ax hr25 ao ac => ?_)
  refine L_pu (P_b2s Tryz.underlying112 Tryz.underlying5 Tryz.underlying9 al am an ([(UInt8.ofNat (48 + (k3 % 10)).toNat)] : List UInt8) rfl (fun _ e => e ▸ ⟨_, ac.sx⟩)) ?_
  have ay : Lim ([(UInt8.ofNat (48 + (k3 % 10)).toNat)] : List UInt8) := ac.le
  refine L_mv (vs out2) rfl ?_
  obtain ⟨ad, H⟩ := H
  refine L_pu (P_cat ([(UInt8.ofNat (48 + (k3 % 10)).toNat)] : List UInt8) out2 rfl rfl ad) (L_as (vs (([(UInt8.ofNat (48 + (k3 % 10)).toNat)] : List UInt8) ++ out2)) rfl (L_nil (W_reg (L_mv (vi k3) rfl ?_))))
  obtain ⟨ap, H⟩ := H
  refine L_pu (P_quo k3 10 rfl rfl ap) (L_as (vi (k3 / 10)) rfl (L_nil ?_))
  have aq := ao.drop 0 rfl
  obtain ⟨ar, au⟩ := H
  exact ⟨(k3 / 10, (([(UInt8.ofNat (48 + (k3 % 10)).toNat)] : List UInt8) ++ out2)), au, ar, (hasI rfl), aq, (lim_cat ad)⟩
 have H := ite_f H ab
 refine W_exit (xin_hit ?_)
 refine W_seq (W_reg (L_mv (vs out2) rfl ?_))
 obtain ⟨ae, H⟩ := H
 exact L_pu (P_cat ([109] : Str) out2 rfl rfl ae) (L_as (vs (([109] : Str) ++ out2)) rfl (L_nil (W_ret ⟨[vs (([109] : Str) ++ out2)], ⟨_, rfl, rfl⟩, (([109] : Str) ++ out2), rfl, H, hc9.gr.g0, (lim_cat ae)⟩)))
end
section
open Go.RowKit
def F60.E (a : List Pt) (k : Int) (Q : Int → List Pt → Prop) : Prop :=
 (∃ (I23 : (List Pt) → Int → Int → Prop) (mu24 : (List Pt) → Int → Int → Nat), I23 a k 0 ∧ ∀ (xs2 : List Pt) (k3 : Int) (i2 : Int), I23 xs2 k3 i2 → (if decide (i2 < (xs2.length : Int)) then ((0 : Int) ≤ i2 ∧ i2 < (xs2.length : Int)) ∧ ((xs2.length : Int) ≤ 9223372036854775807 → I64 (k3 + 1)) ∧ ((0 : Int) ≤ i2 ∧ i2 < ((xs2.set i2.toNat (⟨k3, (nth xs2 i2).Y⟩ : Pt)).length : Int)) ∧ ((xs2.length : Int) ≤ 9223372036854775807 → I64 (k3 + 1 + 1)) ∧ (-9223372036854775808 ≤ i2) ∧ I23 ((xs2.set i2.toNat (⟨k3, (nth xs2 i2).Y⟩ : Pt)).set i2.toNat (⟨(nth (xs2.set i2.toNat (⟨k3, (nth xs2 i2).Y⟩ : Pt)) i2).X, k3 + 1⟩ : Pt)) (k3 + 1 + 1) (i2 + 1) ∧ mu24 ((xs2.set i2.toNat (⟨k3, (nth xs2 i2).Y⟩ : Pt)).set i2.toNat (⟨(nth (xs2.set i2.toNat (⟨k3, (nth xs2 i2).Y⟩ : Pt)) i2).X, k3 + 1⟩ : Pt)) (k3 + 1 + 1) (i2 + 1) < mu24 xs2 k3 i2 else Q k3 xs2))
theorem F60.calls {O : Ob} (w0 : World) (hO : Ok w0 O) (A1 : Option Addr) (n2 c3 : Nat) (a : List Pt) (hp0 : Ow kPt 114 w0 O (.slice A1 n2 c3) a) (k : Int) (Q : Int → List Pt → Prop) (h : F60.E a k Q) :
  Ret Tryz.prog 44 [.slice A1 n2 c3, vi k] w0 (fun v w' => ∃ (r0 : Int) (m0 : List Pt), v = vi r0 ∧ Q r0 m0 ∧ Gr w0 w' (bk A1) ∧ Ow kPt 114 w' O (.slice A1 n2 c3) m0) := by
 unfold F60.E at h
 have H := h
 clear h
 have hc0 := Ct.initm1 (r := bk A1) hO (by intro b e; exact hp0.mem b e)
 refine Ret_enter Tryz.func44 rfl 27 rfl [.tmp 4] rfl rfl ?_
 refine W_seq (W_reg (L_as (vi 0) rfl (L_nil (W_seq (W_seq (W_reg (L_as (vi 0) rfl (L_nil ?_))))))))
 refine W_block ?_
 obtain ⟨an, ao, ae, H⟩ := H
 refine W_loop (α := (List Pt) × Int × Int) (fun (sv__ : (List Pt) × Int × Int) t af => match sv__ with | (xs2, k3, i2) => an xs2 k3 i2 ∧ Has t [(0, .slice A1 n2 c3), (1, vi k3), (5, vi i2)] ∧ Ct [bk A1] w0 af [] O ∧ Ow kPt 114 af O (.slice A1 n2 c3) xs2) (fun (sv__ : (List Pt) × Int × Int) => match sv__ with | (xs2, k3, i2) => ao xs2 k3 i2) (a, k, 0) ⟨ae, (hasI rfl), hc0, hp0⟩ ?_
 rintro ⟨xs2, k3, i2⟩ _ af ⟨ae, ap, ak, aa⟩
 obtain ⟨a9, rfl⟩ := Has.ins ap
 have H := H xs2 k3 i2 ae
 refine W_seq (W_seq (W_reg (L_mv (vi i2) rfl (L_mv (.slice A1 n2 c3) rfl ?_))))
 have ag := aa.le
 refine L_pu (P_len Tryz.underlying56 A1 n2 c3 aa.len rfl) (L_pu (P_cmp i2 (xs2.length : Int) (decide (i2 < (xs2.length : Int))) rfl rfl rfl) (L_nil ?_))
 refine W_cond (decide (i2 < (xs2.length : Int))) rfl (fun ab => ?_) (fun ab => ?_)
 ·have H := ite_t H ab
  refine W_skip (W_seq (W_block (W_seq (W_reg (L_mv (.slice A1 n2 c3) rfl (L_mv (vi i2) rfl (L_mv (vi k3) rfl ?_)))))))
  obtain ⟨ah, H⟩ := H
  obtain ⟨ac, ba, al, aq, ar⟩ := aa.get default (by decide) i2 ah
  obtain rfl := kPt.op aq
  refine L_pu (P_ia Tryz.underlying56 se56 A1 ac n2 c3 aa.len i2 rfl al rfl ah) (L_pu (P_fa fa114_0 (ac.add (i2.toNat * 2)) ((ac.add (i2.toNat * 2)).add 0) rfl rfl) (L_ste1 A1 n2 c3 xs2 aa i2 ah ac al 0 rfl [vi k3] rfl sz3 rfl (⟨k3, (nth xs2 i2).Y⟩ : Pt) [vi ((nth xs2 i2).X), vi ((nth xs2 i2).Y)] [vi k3, vi ((nth xs2 i2).Y)] ar rfl rfl (kPt.mk _ _ (⟨k3, (nth xs2 i2).Y⟩ : Pt)) fun bb au ai => ?_))
  have av := ak.wm au
  refine L_nil (W_seq (W_reg (L_mv (vi k3) rfl ?_)))
  obtain ⟨aw, H⟩ := H
  have ax := aw (len_le ag)
  refine L_pu (P_add k3 1 rfl rfl ax) (L_as (vi (k3 + 1)) rfl (L_nil (W_seq (W_reg (L_mv (.slice A1 n2 c3) rfl (L_mv (vi i2) rfl (L_mv (vi (k3 + 1)) rfl ?_)))))))
  obtain ⟨aj, H⟩ := H
  obtain ⟨ad, bc, am, ay, az⟩ := ai.get default (by decide) i2 aj
  obtain rfl := kPt.op ay
  refine L_pu (P_ia Tryz.underlying56 se56 A1 ad n2 c3 ai.len i2 rfl am rfl aj) (L_pu (P_fa fa114_1 (ad.add (i2.toNat * 2)) ((ad.add (i2.toNat * 2)).add 1) rfl rfl) (L_ste1 A1 n2 c3 (xs2.set i2.toNat (⟨k3, (nth xs2 i2).Y⟩ : Pt)) ai i2 aj ad am 1 rfl [vi (k3 + 1)] rfl sz3 rfl (⟨(nth (xs2.set i2.toNat (⟨k3, (nth xs2 i2).Y⟩ : Pt)) i2).X, k3 + 1⟩ : Pt) [vi ((nth (xs2.set i2.toNat (⟨k3, (nth xs2 i2).Y⟩ : Pt)) i2).X), vi ((nth (xs2.set i2.toNat (⟨k3, (nth xs2 i2).Y⟩ : Pt)) i2).Y)] [vi ((nth (xs2.set i2.toNat (⟨k3, (nth xs2 i2).Y⟩ : Pt)) i2).X), vi (k3 + 1)] az rfl rfl (kPt.mk _ _ (⟨(nth (xs2.set i2.toNat (⟨k3, (nth xs2 i2).Y⟩ : Pt)) i2).X, k3 + 1⟩ : Pt)) fun bd a0 a1 => ?_))
  have a2 := av.wm a0
  refine L_nil (W_reg (L_mv (vi (k3 + 1)) rfl ?_))
  obtain ⟨a3, H⟩ := H
  have a4 := a3 (len_le ag)
  refine L_pu (P_add (k3 + 1) 1 rfl rfl a4) (L_as (vi (k3 + 1 + 1)) rfl (L_nil (W_reg (L_mv (vi i2) rfl ?_))))
  obtain ⟨a5, H⟩ := H
  have a6 : I64 (i2 + 1) := i64_succ (of_decide_eq_true ab) ag a5
  refine L_pu (P_add i2 1 rfl rfl a6) (L_as (vi (i2 + 1)) rfl (L_nil ?_))
  obtain ⟨a7, a8⟩ := H
  exact ⟨(((xs2.set i2.toNat (⟨k3, (nth xs2 i2).Y⟩ : Pt)).set i2.toNat (⟨(nth (xs2.set i2.toNat (⟨k3, (nth xs2 i2).Y⟩ : Pt)) i2).X, k3 + 1⟩ : Pt)), k3 + 1 + 1, i2 + 1), a8, a7, (hasI rfl), a2, a1⟩
 have H := ite_f H ab
 refine W_exit (xin_hit ?_)
 exact W_seq (W_reg (L_mv (vi k3) rfl (L_as (vi k3) rfl (L_nil (W_ret ⟨[vi k3], ⟨_, rfl, rfl⟩, k3, xs2, rfl, H, ak.gr.g1, aa⟩)))))
end
section
open Go.RowKit
def F42.E (a : List Tag) (k : Int) (Q : Int → List Tag → Prop) : Prop :=
 (∃ (I23 : (List Tag) → Int → Int → Prop) (mu24 : (List Tag) → Int → Int → Nat), I23 a k 0 ∧ ∀ (xs2 : List Tag) (k3 : Int) (i2 : Int), I23 xs2 k3 i2 → (if decide (i2 < (xs2.length : Int)) then F41.E k3 (fun r => ((0 : Int) ≤ i2 ∧ i2 < (xs2.length : Int)) ∧ ((xs2.length : Int) ≤ 9223372036854775807 → I64 (k3 + 1)) ∧ F41.E (k3 + 1) (fun r2 => ((0 : Int) ≤ i2 ∧ i2 < ((xs2.set i2.toNat (⟨r, (nth xs2 i2).Val⟩ : Tag)).length : Int)) ∧ ((xs2.length : Int) ≤ 9223372036854775807 → I64 (k3 + 1 + 1)) ∧ (-9223372036854775808 ≤ i2) ∧ I23 ((xs2.set i2.toNat (⟨r, (nth xs2 i2).Val⟩ : Tag)).set i2.toNat (⟨(nth (xs2.set i2.toNat (⟨r, (nth xs2 i2).Val⟩ : Tag)) i2).Key, r2⟩ : Tag)) (k3 + 1 + 1) (i2 + 1) ∧ mu24 ((xs2.set i2.toNat (⟨r, (nth xs2 i2).Val⟩ : Tag)).set i2.toNat (⟨(nth (xs2.set i2.toNat (⟨r, (nth xs2 i2).Val⟩ : Tag)) i2).Key, r2⟩ : Tag)) (k3 + 1 + 1) (i2 + 1) < mu24 xs2 k3 i2)) else Q k3 xs2))
theorem F42.calls {O : Ob} (w0 : World) (hO : Ok w0 O) (A1 : Option Addr) (n2 c3 : Nat) (a : List Tag) (hp0 : Ow kTag 106 w0 O (.slice A1 n2 c3) a) (k : Int) (Q : Int → List Tag → Prop) (h : F42.E a k Q) :
  Ret Tryz.prog 45 [.slice A1 n2 c3, vi k] w0 (fun v w' => ∃ (r0 : Int) (m0 : List Tag), v = vi r0 ∧ Q r0 m0 ∧ Gr w0 w' (bk A1) ∧ Ow kTag 106 w' O (.slice A1 n2 c3) m0) := by
 unfold F42.E at h
 have H := h
 clear h
 have hc0 := Ct.initm1 (r := bk A1) hO (by intro b e; exact hp0.mem b e)
 refine Ret_enter Tryz.func45 rfl 29 rfl [.tmp 4] rfl rfl ?_
 refine W_seq (W_reg (L_as (vi 0) rfl (L_nil (W_seq (W_seq (W_reg (L_as (vi 0) rfl (L_nil ?_))))))))
 refine W_block ?_
 obtain ⟨ar, au, af, H⟩ := H
 refine W_loop (α := (List Tag) × Int × Int) (fun (sv__ : (List Tag) × Int × Int) t aa => match sv__ with | (xs2, k3, i2) => ar xs2 k3 i2 ∧ Has t [(0, .slice A1 n2 c3), (1, vi k3), (5, vi i2)] ∧ Ct [bk A1] w0 aa [] O ∧ Ow kTag 106 aa O (.slice A1 n2 c3) xs2) (fun (sv__ : (List Tag) × Int × Int) => match sv__ with | (xs2, k3, i2) => au xs2 k3 i2) (a, k, 0) ⟨af, (hasI rfl), hc0, hp0⟩ ?_
 rintro ⟨xs2, k3, i2⟩ _ aa ⟨af, av, ag, ab⟩
 obtain ⟨bl, rfl⟩ := Has.ins av
 have H := H xs2 k3 i2 af
 refine W_seq (W_seq (W_reg (L_mv (vi i2) rfl (L_mv (.slice A1 n2 c3) rfl ?_))))
 have ah := ab.le
 refine L_pu (P_len Tryz.underlying59 A1 n2 c3 ab.len rfl) (L_pu (P_cmp i2 (xs2.length : Int) (decide (i2 < (xs2.length : Int))) rfl rfl rfl) (L_nil ?_))
 refine W_cond (decide (i2 < (xs2.length : Int))) rfl (fun ac => ?_) (fun ac => ?_)
 ·have H := ite_t H ac
  refine W_skip (W_seq (W_block (W_seq (W_reg (L_mv (.slice A1 n2 c3) rfl (L_mv (vi i2) rfl (L_mv (vi k3) rfl ?_)))))))
  refine L_call go43 [vi k3] rfl ((F41.calls aa ag.ok k3 _ H).mono ?_)
  rintro _ bm ⟨r, rfl, H, am, aw⟩
  have ax := ag.k0 am
  obtain ⟨ai, H⟩ := H
  have aj := (ab.sn am)
  obtain ⟨ad, bn, an, ay, az⟩ := aj.get default (by decide) i2 ai
  obtain ⟨rfl, bo, a0⟩ := kTag.op ay
  refine L_pu (P_ia Tryz.underlying59 se59 A1 ad n2 c3 aj.len i2 rfl an rfl ai) (L_pu (P_fa fa106_0 (ad.add (i2.toNat * 2)) ((ad.add (i2.toNat * 2)).add 0) rfl rfl) (L_ste1 A1 n2 c3 xs2 aj i2 ai ad an 0 rfl [vs r] rfl sz9 rfl (⟨r, (nth xs2 i2).Val⟩ : Tag) [vs ((nth xs2 i2).Key), vs ((nth xs2 i2).Val)] [vs r, vs ((nth xs2 i2).Val)] az rfl rfl (kTag.mk _ _ (⟨r, (nth xs2 i2).Val⟩ : Tag) aw a0) fun a1 a2 a3 => ?_))
  have ao := ax.wm a2
  refine L_nil (W_seq (W_reg (L_mv (vi k3) rfl ?_)))
  obtain ⟨a4, H⟩ := H
  have a5 := a4 (len_le ah)
  refine L_pu (P_add k3 1 rfl rfl a5) (L_as (vi (k3 + 1)) rfl (L_nil (W_seq (W_reg (L_mv (.slice A1 n2 c3) rfl (L_mv (vi i2) rfl (L_mv (vi (k3 + 1)) rfl ?_)))))))
  refine L_call go43 [vi (k3 + 1)] rfl ((F41.calls a1 ao.ok (k3 + 1) _ H).mono ?_)
  rintro _ bp ⟨r2, rfl, H, ap, a6⟩
  have a7 := ao.k0 ap
  obtain ⟨ak, H⟩ := H
  have al := (a3.sn ap)
  obtain ⟨ae, bq, aq, a8, a9⟩ := al.get default (by decide) i2 ak
  obtain ⟨rfl, ba, br⟩ := kTag.op a8
  refine L_pu (P_ia Tryz.underlying59 se59 A1 ae n2 c3 al.len i2 rfl aq rfl ak) (L_pu (P_fa fa106_1 (ae.add (i2.toNat * 2)) ((ae.add (i2.toNat * 2)).add 1) rfl rfl) (L_ste1 A1 n2 c3 (xs2.set i2.toNat (⟨r, (nth xs2 i2).Val⟩ : Tag)) al i2 ak ae aq 1 rfl [vs r2] rfl sz9 rfl (⟨(nth (xs2.set i2.toNat (⟨r, (nth xs2 i2).Val⟩ : Tag)) i2).Key, r2⟩ : Tag) [vs ((nth (xs2.set i2.toNat (⟨r, (nth xs2 i2).Val⟩ : Tag)) i2).Key), vs ((nth (xs2.set i2.toNat (⟨r, (nth xs2 i2).Val⟩ : Tag)) i2).Val)] [vs ((nth (xs2.set i2.toNat (⟨r, (nth xs2 i2).Val⟩ : Tag)) i2).Key), vs r2] a9 rfl rfl (kTag.mk _ _ (⟨(nth (xs2.set i2.toNat (⟨r, (nth xs2 i2).Val⟩ : Tag)) i2).Key, r2⟩ : Tag) ba a6) fun bs bb bc => ?_))
  have bd := a7.wm bb
  refine L_nil (W_reg (L_mv (vi (k3 + 1)) rfl ?_))
  obtain ⟨be, H⟩ := H
  have bf := be (len_le ah)
  refine L_pu (P_add (k3 + 1) 1 rfl rfl bf) (L_as (vi (k3 + 1 + 1)) rfl (L_nil (W_reg (L_mv (vi i2) rfl ?_))))
  obtain ⟨bg, H⟩ := H
  have bh : I64 (i2 + 1) := i64_succ (of_decide_eq_true ac) ah bg
  refine L_pu (P_add i2 1 rfl rfl bh) (L_as (vi (i2 + 1)) rfl (L_nil ?_))
  obtain ⟨bi, bj⟩ := H
  exact ⟨(((xs2.set i2.toNat (⟨r, (nth xs2 i2).Val⟩ : Tag)).set i2.toNat (⟨(nth (xs2.set i2.toNat (⟨r, (nth xs2 i2).Val⟩ : Tag)) i2).Key, r2⟩ : Tag)), k3 + 1 + 1, i2 + 1), bj, bi, (hasI rfl), bd, bc⟩
 have H := ite_f H ac
 refine W_exit (xin_hit ?_)
 exact W_seq (W_reg (L_mv (vi k3) rfl (L_as (vi k3) rfl (L_nil (W_ret ⟨[vi k3], ⟨_, rfl, rfl⟩, k3, xs2, rfl, H, ag.gr.g1, ab⟩)))))
end
section
open Go.RowKit
def F29.E (a : List Feat) (k : Int) (Q : Int → List Feat → Prop) : Prop :=
 (∃ (I32 : (List Feat) → Int → Int → Prop) (mu33 : (List Feat) → Int → Int → Nat), I32 a k 0 ∧ ∀ (xs2 : List Feat) (k3 : Int) (i2 : Int), I32 xs2 k3 i2 → (if decide (i2 < (xs2.length : Int)) then F41.E k3 (fun r => ((0 : Int) ≤ i2 ∧ i2 < (xs2.length : Int)) ∧ (∀ xs3 : List Feat, xs3 = (xs2.set i2.toNat (⟨r, (nth xs2 i2).Shape, (nth xs2 i2).Tags⟩ : Feat)) → ((xs2.length : Int) ≤ 9223372036854775807 → I64 (k3 + 1)) ∧ ((0 : Int) ≤ i2 ∧ i2 < (xs3.length : Int)) ∧ (∀ xs4 : List Feat, xs4 = (xs3.set i2.toNat (⟨(nth xs3 i2).Id, (⟨k3 + 1, (nth xs3 i2).Shape.Pts⟩ : Shape), (nth xs3 i2).Tags⟩ : Feat)) → ((xs2.length : Int) ≤ 9223372036854775807 → I64 (k3 + 1 + 1)) ∧ ((0 : Int) ≤ i2 ∧ i2 < (xs4.length : Int)) ∧ F60.E ((nth xs4 i2).Shape.Pts) (k3 + 1 + 1) (fun r2 m => (∀ xs5 : List Feat, xs5 = (xs4.set i2.toNat (⟨(nth xs4 i2).Id, (⟨(nth xs4 i2).Shape.Kind, m⟩ : Shape), (nth xs4 i2).Tags⟩ : Feat)) → ((0 : Int) ≤ i2 ∧ i2 < (xs5.length : Int)) ∧ F42.E ((nth xs5 i2).Tags) r2 (fun r3 m2 => (∀ xs6 : List Feat, xs6 = (xs5.set i2.toNat (⟨(nth xs5 i2).Id, (nth xs5 i2).Shape, m2⟩ : Feat)) → (-9223372036854775808 ≤ i2) ∧ I32 xs6 r3 (i2 + 1) ∧ mu33 xs6 r3 (i2 + 1) < mu33 xs2 k3 i2))))))) else Q k3 xs2))
theorem F29.calls {O : Ob} (w0 : World) (hO : Ok w0 O) (a : List Feat) (A1 : Option Addr) (n2 c3 : Nat) (ra6 : List (List Value)) (q7 : Ob) (hp5 : Ow (Kd.cells 4) 61 w0 O (.slice A1 n2 c3) ra6) (hd8 : DArr dFeat_61 w0 q7 a ra6) (hdj : Dj (bk A1 :: (q7 ++ []))) (hmm : ∀ b, some b ∈ ((bk A1 :: (q7 ++ [])) : Ob) → some b ∈ O) (k : Int) (Q : Int → List Feat → Prop) (h : F29.E a k Q) :
  Ret Tryz.prog 13 [.slice A1 n2 c3, vi k] w0 (fun v w' => ∃ (r0 : Int) (m0 : List Feat) (mra0 : List (List Value)), v = vi r0 ∧ Q r0 m0 ∧ Gm w0 w' (bk A1 :: (q7 ++ [])) ∧ Ow (Kd.cells 4) 61 w' O (.slice A1 n2 c3) mra0 ∧ DArr dFeat_61 w' q7 m0 mra0) := by
 unfold F29.E at h
 have H := h
 clear h
 have hc0 := Ct.initm hO hmm
 refine Ret_enter Tryz.func13 rfl 44 rfl [.tmp 4] rfl rfl ?_
 refine W_seq (W_reg (L_as (vi 0) rfl (L_nil (W_seq (W_seq (W_reg (L_as (vi 0) rfl (L_nil ?_))))))))
 refine W_block ?_
 obtain ⟨ci, cj, bc, H⟩ := H
 refine W_loop (α := (List Feat) × (List (List Value)) × Int × Int) (fun (sv__ : (List Feat) × (List (List Value)) × Int × Int) t aj => match sv__ with | (xs2, aa, k3, i2) => ci xs2 k3 i2 ∧ Has t [(0, .slice A1 n2 c3), (1, vi k3), (5, vi i2)] ∧ Ct (bk A1 :: (q7 ++ [])) w0 aj [] O ∧ Ow (Kd.cells 4) 61 aj O (.slice A1 n2 c3) aa ∧ DArr dFeat_61 aj q7 xs2 aa) (fun (sv__ : (List Feat) × (List (List Value)) × Int × Int) => match sv__ with | (xs2, _, k3, i2) => cj xs2 k3 i2) (a, ra6, k, 0) ⟨bc, (hasI rfl), hc0, hp5, hd8⟩ ?_
 rintro ⟨xs2, aa, k3, i2⟩ _ aj ⟨bc, ck, bd, ay, az⟩
 obtain ⟨ej, rfl⟩ := Has.ins ck
 have H := H xs2 k3 i2 bc
 refine W_seq (W_seq (W_reg (L_mv (vi i2) rfl (L_mv (.slice A1 n2 c3) rfl ?_))))
 have be := (Dp.le ay az)
 refine L_pu (P_len Tryz.underlying26 A1 n2 c3 (Dp.len ay az) rfl) (L_pu (P_cmp i2 (xs2.length : Int) (decide (i2 < (xs2.length : Int))) rfl rfl rfl) (L_nil ?_))
 refine W_cond (decide (i2 < (xs2.length : Int))) rfl (fun a0 => ?_) (fun a0 => ?_)
 ·have H := ite_t H a0
  refine W_skip (W_seq (W_block (W_seq (W_reg (L_mv (.slice A1 n2 c3) rfl (L_mv (vi i2) rfl (L_mv (vi k3) rfl ?_)))))))
  refine L_call go43 [vi k3] rfl ((F41.calls aj bd.ok k3 _ H).mono ?_)
  rintro _ cl ⟨r, rfl, H, bf, cm⟩
  have cn := bd.k0 bf
  obtain ⟨bg, H⟩ := H
  have bh := (ay.sn bf)
  have a1 := (az.k0 bf)
  have bo : (0 : Int) ≤ i2 ∧ i2 < (aa.length : Int) := by rw [a1.len]; exact bg
  obtain ⟨a2, ek, bp, bq, co⟩ := bh.get default (by decide) i2 bo
  obtain rfl := Kd.cells.op bq
  refine L_pu (P_ia Tryz.underlying26 se26 A1 a2 n2 c3 (Dp.len bh a1) i2 rfl bp rfl bg) (L_pu (P_fa fa61_0 (a2.add (i2.toNat * 4)) ((a2.add (i2.toNat * 4)).add 0) rfl rfl) ?_)
  obtain ⟨el, cp, br, cq, cr⟩ := DArr.at_ (Int.toNat i2) default a1 (by have := bg; omega)
  obtain ⟨cs, ac, ct, ad, em, en, cu, cv, bs, bt⟩ := foc61_0 _ _ _ _ cq
  have bu : ((Dd.flat (k := Kd.str) str_flat)).D cl cs r [vs r] := ⟨bs.1, ⟨rfl, cm⟩⟩
  have cw := bt _ _ _ (br (Dj.left hdj.2)) (fun _ _ _ => rfl) bu
  have cx : ct.length = [vs r].length := (((Dd.flat (k := Kd.str) str_flat)).toR (S := fun _ => True) bs fun _ _ => trivial) |> Kd.len _
  refine L_ste1 (kd := Kd.cells 4) A1 n2 c3 aa bh i2 bo a2 bp 0 rfl [vs r] rfl sz9 rfl (ac ++ [vs r] ++ ad) _ (ac ++ [vs r] ++ ad) co (Kd.len _ bq) (foc_put cu cv cx) (Dd.raw _ cw) fun bi bv bj => ?_
  have cy := cn.wmm (memi (L := (bk A1 :: (q7 ++ []))) 0 rfl) bv
  have bw : ∀ b, some b ∈ (q7 : Ob) → bi.heap[b]? = _ := fun b hb => bv.block b (a1.lt b hb) (fun e => (hdj).1 b e.symm (List.mem_append_left _ hb))
  have ak := cr bi _ _ (Dj.left hdj.2) (fun b hb _ => bw b hb) (bt _ _ _ (br (Dj.left hdj.2)) (fun b hb _ => bw b (cp b hb)) bu)
  obtain ⟨xs3, bx⟩ : ∃ y__ : List Feat, y__ = (xs2.set i2.toNat (⟨r, (nth xs2 i2).Shape, (nth xs2 i2).Tags⟩ : Feat)) := ⟨_, rfl⟩
  have H := H xs3 bx
  rw [← bx] at ak
  refine L_nil (W_seq (W_reg (L_mv (vi k3) rfl ?_)))
  obtain ⟨cz, H⟩ := H
  have c0 := cz (len_le be)
  refine L_pu (P_add k3 1 rfl rfl c0) (L_as (vi (k3 + 1)) rfl (L_nil (W_seq (W_reg (L_mv (.slice A1 n2 c3) rfl (L_mv (vi i2) rfl (L_mv (vi (k3 + 1)) rfl ?_)))))))
  obtain ⟨bl, H⟩ := H
  have bz : (0 : Int) ≤ i2 ∧ i2 < ((aa.set i2.toNat (ac ++ [vs r] ++ ad)).length : Int) := by rw [ak.len]; exact bl
  obtain ⟨ae, eo, b0, b1, c1⟩ := bj.get default (by decide) i2 bz
  obtain rfl := Kd.cells.op b1
  refine L_pu (P_ia Tryz.underlying26 se26 A1 ae n2 c3 (Dp.len bj ak) i2 rfl b0 rfl bl) (L_pu (P_fa fa61_1 (ae.add (i2.toNat * 4)) ((ae.add (i2.toNat * 4)).add 1) rfl rfl) (L_pu (P_fa fa58_0 ((ae.add (i2.toNat * 4)).add 1) (((ae.add (i2.toNat * 4)).add 1).add 0) rfl rfl) ?_))
  obtain ⟨ep, c2, b2, c4, c5⟩ := DArr.at_ (Int.toNat i2) default ak (by have := bl; omega)
  obtain ⟨c6, al, c7, am, eq, er, c8, c9, b3, b4⟩ := foc61_1 _ _ _ _ c4
  have b5 : ((Dd.flat (k := (Kd.int .i64)) (int_flat _))).D bi c6 (k3 + 1) [vi (k3 + 1)] := ⟨b3.1, rfl⟩
  have da := b4 _ _ _ (b2 (Dj.left hdj.2)) (fun _ _ _ => rfl) b5
  have db : c7.length = [vi (k3 + 1)].length := (((Dd.flat (k := (Kd.int .i64)) (int_flat _))).toR (S := fun _ => True) b3 fun _ _ => trivial) |> Kd.len _
  refine L_ste2 (kd := Kd.cells 4) A1 n2 c3 (aa.set i2.toNat (ac ++ [vs r] ++ ad)) bj i2 bz ae b0 1 rfl rfl [vi (k3 + 1)] rfl sz3 rfl (al ++ [vi (k3 + 1)] ++ am) _ (al ++ [vi (k3 + 1)] ++ am) c1 (Kd.len _ b1) (foc_put c8 c9 db) (Dd.raw _ da) fun af b6 an => ?_
  have b7 := cy.wmm (memi (L := (bk A1 :: (q7 ++ []))) 0 rfl) b6
  have b8 : ∀ b, some b ∈ (q7 : Ob) → af.heap[b]? = _ := fun b hb => b6.block b (ak.lt b hb) (fun e => (hdj).1 b e.symm (List.mem_append_left _ hb))
  have ag := c5 af _ _ (Dj.left hdj.2) (fun b hb _ => b8 b hb) (b4 _ _ _ (b2 (Dj.left hdj.2)) (fun b hb _ => b8 b (c2 b hb)) b5)
  obtain ⟨xs4, b9⟩ : ∃ y__ : List Feat, y__ = (xs3.set i2.toNat (⟨(nth xs3 i2).Id, (⟨k3 + 1, (nth xs3 i2).Shape.Pts⟩ : Shape), (nth xs3 i2).Tags⟩ : Feat)) := ⟨_, rfl⟩
  have H := H xs4 b9
  rw [← b9] at ag
  refine L_nil (W_seq (W_reg (L_mv (vi (k3 + 1)) rfl ?_)))
  obtain ⟨dc, H⟩ := H
  have dd := dc (len_le be)
  refine L_pu (P_add (k3 + 1) 1 rfl rfl dd) (L_as (vi (k3 + 1 + 1)) rfl (L_nil (W_seq (W_reg (L_mv (.slice A1 n2 c3) rfl (L_mv (vi i2) rfl ?_))))))
  obtain ⟨bm, H⟩ := H
  have de : (0 : Int) ≤ i2 ∧ i2 < (((aa.set i2.toNat (ac ++ [vs r] ++ ad)).set i2.toNat (al ++ [vi (k3 + 1)] ++ am)).length : Int) := by rw [ag.len]; exact bm
  obtain ⟨ah, es, df, dg, dh⟩ := an.get default (by decide) i2 de
  obtain rfl := Kd.cells.op dg
  refine L_pu (P_ia Tryz.underlying26 se26 A1 ah n2 c3 (Dp.len an ag) i2 rfl df rfl bm) (L_pu (P_fa fa61_1 (ah.add (i2.toNat * 4)) ((ah.add (i2.toNat * 4)).add 1) rfl rfl) (L_pu (P_fa fa58_1 ((ah.add (i2.toNat * 4)).add 1) (((ah.add (i2.toNat * 4)).add 1).add 1) rfl rfl) ?_))
  obtain ⟨et, a3, di, dj, dk⟩ := DArr.at_ (Int.toNat i2) default ag (by have := bm; omega)
  obtain ⟨ca, eu, ev, ew, a4, ex, cb, dl, dm, dn⟩ := foc61_2 _ _ _ _ dj
  obtain ⟨v142, dp, a5⟩ := dm
  obtain ⟨ao, ap, aq, rfl⟩ := a5.shape
  subst dp
  have dq := dh 2 _ (foc_cell cb dl)
  refine L_pu (P_ld ag56 cL (((ah.add (i2.toNat * 4)).add 1).add 1) (.slice ao ap aq) rfl ((congrArg af.cell? (addr2 (o := 2) rfl)).trans dq)) (L_mv (vi (k3 + 1 + 1)) rfl ?_)
  have dr : Ow kPt 114 af ([] ++ O) (.slice ao ap aq) ((nth xs4 i2).Shape.Pts) := Ds.toOw a5 (fun b hb => List.mem_append_right _ (hmm b (mcm (List.mem_append_left _ (a3 _ (a4 _ hb))))))
  refine L_call go44 [.slice ao ap aq, vi (k3 + 1 + 1)] rfl ((F60.calls af b7.ok ao ap aq ((nth xs4 i2).Shape.Pts) dr (k3 + 1 + 1) _ H).mono ?_)
  rintro _ ab ⟨r2, m, rfl, H, ds, dt⟩
  have a6 : Gm af ab ca := ds.gm fun b hb => by rw [Ds.rows a5, ← hb]; exact List.mem_cons_self
  have du := Ds.upf a5 dt
  have dv : ((Dd.sl (Dd.flat (k := kPt) kPt_flat) 114)).D ab ca m [.slice ao ap aq] := ⟨_, rfl, du⟩
  have ai := DArr.fset (dk ab _ _ (Dj.left hdj.2) (fun b hb hn => a6.block b (ag.lt b hb) fun hm => hn (a4 b hm)) (dn ab _ _ (di (Dj.left hdj.2)) (fun b hb hn => a6.block b (ag.lt b (a3 b hb)) hn) dv)) cb rfl
  have ar := an.flto (w' := ab) (O' := O) (cells_flat _) fun b hb => ⟨a6.block b (an.ltb b hb) fun hm => (hdj).1 b hb (List.mem_append_left _ (a3 _ (a4 _ hm))), an.mem b hb⟩
  have cc := b7.wmg a6 (fun b hb => (mcm (List.mem_append_left _ (a3 _ (a4 _ hb)))))
  obtain ⟨xs5, cd⟩ : ∃ y__ : List Feat, y__ = (xs4.set i2.toNat (⟨(nth xs4 i2).Id, (⟨(nth xs4 i2).Shape.Kind, m⟩ : Shape), (nth xs4 i2).Tags⟩ : Feat)) := ⟨_, rfl⟩
  have H := H xs5 cd
  rw [← cd] at ai
  refine L_as (vi r2) rfl (L_nil (W_reg (L_mv (.slice A1 n2 c3) rfl (L_mv (vi i2) rfl ?_))))
  obtain ⟨bn, H⟩ := H
  have dw : (0 : Int) ≤ i2 ∧ i2 < (((aa.set i2.toNat (ac ++ [vs r] ++ ad)).set i2.toNat (al ++ [vi (k3 + 1)] ++ am)).length : Int) := by rw [ai.len]; exact bn
  obtain ⟨a7, ey, dx, dy, dz⟩ := ar.get default (by decide) i2 dw
  obtain rfl := Kd.cells.op dy
  refine L_pu (P_ia Tryz.underlying26 se26 A1 a7 n2 c3 (Dp.len ar ai) i2 rfl dx rfl bn) (L_pu (P_fa fa61_2 (a7.add (i2.toNat * 4)) ((a7.add (i2.toNat * 4)).add 3) rfl rfl) ?_)
  obtain ⟨ez, a8, d0, d1, d2⟩ := DArr.at_ (Int.toNat i2) default ai (by have := bn; omega)
  obtain ⟨ce, e0, e1, e2, a9, e3, cf, d3, d4, d5⟩ := foc61_3 _ _ _ _ d1
  obtain ⟨v184, d6, ba⟩ := d4
  obtain ⟨au, av, aw, rfl⟩ := ba.shape
  subst d6
  have d7 := dz 3 _ (foc_cell cf d3)
  refine L_pu (P_ld ag59 cL ((a7.add (i2.toNat * 4)).add 3) (.slice au av aw) rfl d7) (L_mv (vi r2) rfl ?_)
  have d8 : Ow kTag 106 ab ([] ++ O) (.slice au av aw) ((nth xs5 i2).Tags) := Ds.toOw ba (fun b hb => List.mem_append_right _ (hmm b (mcm (List.mem_append_left _ (a8 _ (a9 _ hb))))))
  refine L_call go45 [.slice au av aw, vi r2] rfl ((F42.calls ab cc.ok au av aw ((nth xs5 i2).Tags) d8 r2 _ H).mono ?_)
  rintro _ ax ⟨r3, m2, rfl, H, d9, ea⟩
  have bb : Gm ab ax ce := d9.gm fun b hb => by rw [Ds.rows ba, ← hb]; exact List.mem_cons_self
  have eb := Ds.upf ba ea
  have ec : ((Dd.sl (Dd.flat (k := kTag) kTag_flat) 106)).D ax ce m2 [.slice au av aw] := ⟨_, rfl, eb⟩
  have cg := DArr.fset (d2 ax _ _ (Dj.left hdj.2) (fun b hb hn => bb.block b (ai.lt b hb) fun hm => hn (a9 b hm)) (d5 ax _ _ (d0 (Dj.left hdj.2)) (fun b hb hn => bb.block b (ai.lt b (a8 b hb)) hn) ec)) cf rfl
  have ed := ar.flto (w' := ax) (O' := O) (cells_flat _) fun b hb => ⟨bb.block b (ar.ltb b hb) fun hm => (hdj).1 b hb (List.mem_append_left _ (a8 _ (a9 _ hm))), ar.mem b hb⟩
  have ee := cc.wmg bb (fun b hb => (mcm (List.mem_append_left _ (a8 _ (a9 _ hb)))))
  obtain ⟨xs6, ch⟩ : ∃ y__ : List Feat, y__ = (xs5.set i2.toNat (⟨(nth xs5 i2).Id, (nth xs5 i2).Shape, m2⟩ : Feat)) := ⟨_, rfl⟩
  have H := H xs6 ch
  rw [← ch] at cg
  refine L_as (vi r3) rfl (L_nil (W_reg (L_mv (vi i2) rfl ?_)))
  obtain ⟨ef, H⟩ := H
  have eg : I64 (i2 + 1) := i64_succ (of_decide_eq_true a0) be ef
  refine L_pu (P_add i2 1 rfl rfl eg) (L_as (vi (i2 + 1)) rfl (L_nil ?_))
  obtain ⟨eh, ei⟩ := H
  exact ⟨(xs6, ((aa.set i2.toNat (ac ++ [vs r] ++ ad)).set i2.toNat (al ++ [vi (k3 + 1)] ++ am)), r3, i2 + 1), ei, eh, (hasI rfl), ee, ed, cg⟩
 have H := ite_f H a0
 refine W_exit (xin_hit ?_)
 exact W_seq (W_reg (L_mv (vi k3) rfl (L_as (vi k3) rfl (L_nil (W_ret ⟨[vi k3], ⟨_, rfl, rfl⟩, k3, xs2, aa, rfl, H, bd.gr, ay, az⟩)))))
end
section
open Go.RowKit
def F21.E (a : List Clash) (k : Int) (Q : Int → List Clash → Prop) : Prop :=
 (∃ (I23 : (List Clash) → Int → Int → Prop) (mu24 : (List Clash) → Int → Int → Nat), I23 a k 0 ∧ ∀ (xs2 : List Clash) (k3 : Int) (i2 : Int), I23 xs2 k3 i2 → (if decide (i2 < (xs2.length : Int)) then F41.E k3 (fun r => ((0 : Int) ≤ i2 ∧ i2 < (xs2.length : Int)) ∧ ((xs2.length : Int) ≤ 9223372036854775807 → I64 (k3 + 1)) ∧ F41.E (k3 + 1) (fun r2 => ((0 : Int) ≤ i2 ∧ i2 < ((xs2.set i2.toNat (⟨r, (nth xs2 i2).What⟩ : Clash)).length : Int)) ∧ ((xs2.length : Int) ≤ 9223372036854775807 → I64 (k3 + 1 + 1)) ∧ (-9223372036854775808 ≤ i2) ∧ I23 ((xs2.set i2.toNat (⟨r, (nth xs2 i2).What⟩ : Clash)).set i2.toNat (⟨(nth (xs2.set i2.toNat (⟨r, (nth xs2 i2).What⟩ : Clash)) i2).Id, r2⟩ : Clash)) (k3 + 1 + 1) (i2 + 1) ∧ mu24 ((xs2.set i2.toNat (⟨r, (nth xs2 i2).What⟩ : Clash)).set i2.toNat (⟨(nth (xs2.set i2.toNat (⟨r, (nth xs2 i2).What⟩ : Clash)) i2).Id, r2⟩ : Clash)) (k3 + 1 + 1) (i2 + 1) < mu24 xs2 k3 i2)) else Q k3 xs2))
theorem F21.calls {O : Ob} (w0 : World) (hO : Ok w0 O) (A1 : Option Addr) (n2 c3 : Nat) (a : List Clash) (hp0 : Ow kClash 90 w0 O (.slice A1 n2 c3) a) (k : Int) (Q : Int → List Clash → Prop) (h : F21.E a k Q) :
  Ret Tryz.prog 19 [.slice A1 n2 c3, vi k] w0 (fun v w' => ∃ (r0 : Int) (m0 : List Clash), v = vi r0 ∧ Q r0 m0 ∧ Gr w0 w' (bk A1) ∧ Ow kClash 90 w' O (.slice A1 n2 c3) m0) := by
 unfold F21.E at h
 have H := h
 clear h
 have hc0 := Ct.initm1 (r := bk A1) hO (by intro b e; exact hp0.mem b e)
 refine Ret_enter Tryz.func19 rfl 29 rfl [.tmp 4] rfl rfl ?_
 refine W_seq (W_reg (L_as (vi 0) rfl (L_nil (W_seq (W_seq (W_reg (L_as (vi 0) rfl (L_nil ?_))))))))
 refine W_block ?_
 obtain ⟨ar, au, af, H⟩ := H
 refine W_loop (α := (List Clash) × Int × Int) (fun (sv__ : (List Clash) × Int × Int) t aa => match sv__ with | (xs2, k3, i2) => ar xs2 k3 i2 ∧ Has t [(0, .slice A1 n2 c3), (1, vi k3), (5, vi i2)] ∧ Ct [bk A1] w0 aa [] O ∧ Ow kClash 90 aa O (.slice A1 n2 c3) xs2) (fun (sv__ : (List Clash) × Int × Int) => match sv__ with | (xs2, k3, i2) => au xs2 k3 i2) (a, k, 0) ⟨af, (hasI rfl), hc0, hp0⟩ ?_
 rintro ⟨xs2, k3, i2⟩ _ aa ⟨af, av, ag, ab⟩
 obtain ⟨bl, rfl⟩ := Has.ins av
 have H := H xs2 k3 i2 af
 refine W_seq (W_seq (W_reg (L_mv (vi i2) rfl (L_mv (.slice A1 n2 c3) rfl ?_))))
 have ah := ab.le
 refine L_pu (P_len Tryz.underlying37 A1 n2 c3 ab.len rfl) (L_pu (P_cmp i2 (xs2.length : Int) (decide (i2 < (xs2.length : Int))) rfl rfl rfl) (L_nil ?_))
 refine W_cond (decide (i2 < (xs2.length : Int))) rfl (fun ac => ?_) (fun ac => ?_)
 ·have H := ite_t H ac
  refine W_skip (W_seq (W_block (W_seq (W_reg (L_mv (.slice A1 n2 c3) rfl (L_mv (vi i2) rfl (L_mv (vi k3) rfl ?_)))))))
  refine L_call go43 [vi k3] rfl ((F41.calls aa ag.ok k3 _ H).mono ?_)
  rintro _ bm ⟨r, rfl, H, am, aw⟩
  have ax := ag.k0 am
  obtain ⟨ai, H⟩ := H
  have aj := (ab.sn am)
  obtain ⟨ad, bn, an, ay, az⟩ := aj.get default (by decide) i2 ai
  obtain ⟨rfl, bo, a0⟩ := kClash.op ay
  refine L_pu (P_ia Tryz.underlying37 se37 A1 ad n2 c3 aj.len i2 rfl an rfl ai) (L_pu (P_fa fa90_0 (ad.add (i2.toNat * 2)) ((ad.add (i2.toNat * 2)).add 0) rfl rfl) (L_ste1 A1 n2 c3 xs2 aj i2 ai ad an 0 rfl [vs r] rfl sz9 rfl (⟨r, (nth xs2 i2).What⟩ : Clash) [vs ((nth xs2 i2).Id), vs ((nth xs2 i2).What)] [vs r, vs ((nth xs2 i2).What)] az rfl rfl (kClash.mk _ _ (⟨r, (nth xs2 i2).What⟩ : Clash) aw a0) fun a1 a2 a3 => ?_))
  have ao := ax.wm a2
  refine L_nil (W_seq (W_reg (L_mv (vi k3) rfl ?_)))
  obtain ⟨a4, H⟩ := H
  have a5 := a4 (len_le ah)
  refine L_pu (P_add k3 1 rfl rfl a5) (L_as (vi (k3 + 1)) rfl (L_nil (W_seq (W_reg (L_mv (.slice A1 n2 c3) rfl (L_mv (vi i2) rfl (L_mv (vi (k3 + 1)) rfl ?_)))))))
  refine L_call go43 [vi (k3 + 1)] rfl ((F41.calls a1 ao.ok (k3 + 1) _ H).mono ?_)
  rintro _ bp ⟨r2, rfl, H, ap, a6⟩
  have a7 := ao.k0 ap
  obtain ⟨ak, H⟩ := H
  have al := (a3.sn ap)
  obtain ⟨ae, bq, aq, a8, a9⟩ := al.get default (by decide) i2 ak
  obtain ⟨rfl, ba, br⟩ := kClash.op a8
  refine L_pu (P_ia Tryz.underlying37 se37 A1 ae n2 c3 al.len i2 rfl aq rfl ak) (L_pu (P_fa fa90_1 (ae.add (i2.toNat * 2)) ((ae.add (i2.toNat * 2)).add 1) rfl rfl) (L_ste1 A1 n2 c3 (xs2.set i2.toNat (⟨r, (nth xs2 i2).What⟩ : Clash)) al i2 ak ae aq 1 rfl [vs r2] rfl sz9 rfl (⟨(nth (xs2.set i2.toNat (⟨r, (nth xs2 i2).What⟩ : Clash)) i2).Id, r2⟩ : Clash) [vs ((nth (xs2.set i2.toNat (⟨r, (nth xs2 i2).What⟩ : Clash)) i2).Id), vs ((nth (xs2.set i2.toNat (⟨r, (nth xs2 i2).What⟩ : Clash)) i2).What)] [vs ((nth (xs2.set i2.toNat (⟨r, (nth xs2 i2).What⟩ : Clash)) i2).Id), vs r2] a9 rfl rfl (kClash.mk _ _ (⟨(nth (xs2.set i2.toNat (⟨r, (nth xs2 i2).What⟩ : Clash)) i2).Id, r2⟩ : Clash) ba a6) fun bs bb bc => ?_))
  have bd := a7.wm bb
  refine L_nil (W_reg (L_mv (vi (k3 + 1)) rfl ?_))
  obtain ⟨be, H⟩ := H
  have bf := be (len_le ah)
  refine L_pu (P_add (k3 + 1) 1 rfl rfl bf) (L_as (vi (k3 + 1 + 1)) rfl (L_nil (W_reg (L_mv (vi i2) rfl ?_))))
  obtain ⟨bg, H⟩ := H
  have bh : I64 (i2 + 1) := i64_succ (of_decide_eq_true ac) ah bg
  refine L_pu (P_add i2 1 rfl rfl bh) (L_as (vi (i2 + 1)) rfl (L_nil ?_))
  obtain ⟨bi, bj⟩ := H
  exact ⟨(((xs2.set i2.toNat (⟨r, (nth xs2 i2).What⟩ : Clash)).set i2.toNat (⟨(nth (xs2.set i2.toNat (⟨r, (nth xs2 i2).What⟩ : Clash)) i2).Id, r2⟩ : Clash)), k3 + 1 + 1, i2 + 1), bj, bi, (hasI rfl), bd, bc⟩
 have H := ite_f H ac
 refine W_exit (xin_hit ?_)
 exact W_seq (W_reg (L_mv (vi k3) rfl (L_as (vi k3) rfl (L_nil (W_ret ⟨[vi k3], ⟨_, rfl, rfl⟩, k3, xs2, rfl, H, ag.gr.g1, ab⟩)))))
end
section
open Go.RowKit
def F61.E (a : List Pt) (k : Int) (Q : Int → Prop) : Prop :=
 (∃ (I18 : Int → Int → Prop) (mu19 : Int → Int → Nat), I18 k 0 ∧ ∀ (k3 : Int) (i2 : Int), I18 k3 i2 → (if decide (i2 < (a.length : Int)) then ((0 : Int) ≤ i2 ∧ i2 < (a.length : Int)) ∧ (if ((nth a i2).X) != k3 then Q (-1) else ((a.length : Int) ≤ 9223372036854775807 → I64 (k3 + 1)) ∧ ((0 : Int) ≤ i2 ∧ i2 < (a.length : Int)) ∧ (if ((nth a i2).Y) != (k3 + 1) then Q (-1) else ((a.length : Int) ≤ 9223372036854775807 → I64 (k3 + 1 + 1)) ∧ (-9223372036854775808 ≤ i2) ∧ I18 (k3 + 1 + 1) (i2 + 1) ∧ mu19 (k3 + 1 + 1) (i2 + 1) < mu19 k3 i2)) else Q k3))
theorem F61.calls {O : Ob} (w0 : World) (hO : Ok w0 O) (a : List Pt) (A1 : Option Addr) (n2 c3 : Nat) (hp4 : Sl kPt w0 (Fr O) (.slice A1 n2 c3) a) (k : Int) (Q : Int → Prop) (h : F61.E a k Q) :
  Ret Tryz.prog 46 [.slice A1 n2 c3, vi k] w0 (fun v w' => ∃ (r0 : Int), v = vi r0 ∧ Q r0 ∧ Gr w0 w' none) := by
 unfold F61.E at h
 have H := h
 clear h
 have hc0 := Ct.init hO
 refine Ret_enter Tryz.func46 rfl 31 rfl [.tmp 4] rfl rfl ?_
 refine W_seq (W_reg (L_as (vi 0) rfl (L_nil (W_seq (W_seq (W_reg (L_as (vi 0) rfl (L_nil ?_))))))))
 refine W_block ?_
 obtain ⟨am, an, af, H⟩ := H
 refine W_loop (α := Int × Int) (fun (sv__ : Int × Int) t ag => match sv__ with | (k3, i2) => am k3 i2 ∧ Has t [(0, .slice A1 n2 c3), (1, vi k3), (5, vi i2)] ∧ Ct [] w0 ag [] O ∧ Sl kPt ag (Fr ([] ++ O)) (.slice A1 n2 c3) a) (fun (sv__ : Int × Int) => match sv__ with | (k3, i2) => an k3 i2) (k, 0) ⟨af, (hasI rfl), hc0, hp4⟩ ?_
 rintro ⟨k3, i2⟩ _ ag ⟨af, ao, ab, aa⟩
 obtain ⟨a5, rfl⟩ := Has.ins ao
 have H := H k3 i2 af
 refine W_seq (W_seq (W_reg (L_mv (vi i2) rfl (L_mv (.slice A1 n2 c3) rfl ?_))))
 have ah := aa.le
 refine L_pu (P_len Tryz.underlying56 A1 n2 c3 aa.len rfl) (L_pu (P_cmp i2 (a.length : Int) (decide (i2 < (a.length : Int))) rfl rfl rfl) (L_nil ?_))
 refine W_cond (decide (i2 < (a.length : Int))) rfl (fun ac => ?_) (fun ac => ?_)
 ·have H := ite_t H ac
  refine W_skip (W_seq (W_block (W_seq (W_seq (W_reg (L_mv (.slice A1 n2 c3) rfl (L_mv (vi i2) rfl ?_)))))))
  obtain ⟨ak, H⟩ := H
  obtain ⟨ad, a6, ap, a7, aq, ar⟩ := aa.get default (by decide) i2 ak
  obtain rfl := kPt.op aq
  refine L_pu (P_ia Tryz.underlying56 se56 A1 ad n2 c3 aa.len i2 rfl ap rfl ak) (L_pu (P_fa fa114_0 (ad.add (i2.toNat * 2)) ((ad.add (i2.toNat * 2)).add 0) rfl rfl) (L_pu (P_ld ag3 cL ((ad.add (i2.toNat * 2)).add 0) (vi ((nth a i2).X)) rfl (ar 0 _ rfl)) (L_mv (vi k3) rfl (L_pu (P_cmp ((nth a i2).X) k3 (((nth a i2).X) != k3) rfl rfl rfl) (L_nil ?_)))))
  refine W_cond (((nth a i2).X) != k3) rfl (fun ai => ?_) (fun ai => ?_)
  ·have H := ite_t H ai
   exact W_seq (W_reg (L_as (vi (-1)) rfl (L_nil (W_ret ⟨[vi (-1)], ⟨_, rfl, rfl⟩, (-1), rfl, H, ab.gr.g0⟩))))
  have H := ite_f H ai
  refine W_skip (W_seq (W_reg (L_mv (vi k3) rfl ?_)))
  obtain ⟨au, H⟩ := H
  have av := au (len_le ah)
  refine L_pu (P_add k3 1 rfl rfl av) (L_as (vi (k3 + 1)) rfl (L_nil (W_seq (W_seq (W_reg (L_mv (.slice A1 n2 c3) rfl (L_mv (vi i2) rfl ?_)))))))
  obtain ⟨al, H⟩ := H
  obtain ⟨ae, a8, aw, a9, ax, ay⟩ := aa.get default (by decide) i2 al
  obtain rfl := kPt.op ax
  refine L_pu (P_ia Tryz.underlying56 se56 A1 ae n2 c3 aa.len i2 rfl aw rfl al) (L_pu (P_fa fa114_1 (ae.add (i2.toNat * 2)) ((ae.add (i2.toNat * 2)).add 1) rfl rfl) (L_pu (P_ld ag3 cL ((ae.add (i2.toNat * 2)).add 1) (vi ((nth a i2).Y)) rfl (ay 1 _ rfl)) (L_mv (vi (k3 + 1)) rfl (L_pu (P_cmp ((nth a i2).Y) (k3 + 1) (((nth a i2).Y) != (k3 + 1)) rfl rfl rfl) (L_nil ?_)))))
  refine W_cond (((nth a i2).Y) != (k3 + 1)) rfl (fun aj => ?_) (fun aj => ?_)
  ·have H := ite_t H aj
   exact W_seq (W_reg (L_as (vi (-1)) rfl (L_nil (W_ret ⟨[vi (-1)], ⟨_, rfl, rfl⟩, (-1), rfl, H, ab.gr.g0⟩))))
  have H := ite_f H aj
  refine W_skip (W_reg (L_mv (vi (k3 + 1)) rfl ?_))
  obtain ⟨az, H⟩ := H
  have a0 := az (len_le ah)
  refine L_pu (P_add (k3 + 1) 1 rfl rfl a0) (L_as (vi (k3 + 1 + 1)) rfl (L_nil (W_reg (L_mv (vi i2) rfl ?_))))
  obtain ⟨a1, H⟩ := H
  have a2 : I64 (i2 + 1) := i64_succ (of_decide_eq_true ac) ah a1
  refine L_pu (P_add i2 1 rfl rfl a2) (L_as (vi (i2 + 1)) rfl (L_nil ?_))
  obtain ⟨a3, a4⟩ := H
  exact ⟨(k3 + 1 + 1, i2 + 1), a4, a3, (hasI rfl), ab, aa⟩
 have H := ite_f H ac
 refine W_exit (xin_hit ?_)
 exact W_seq (W_reg (L_mv (vi k3) rfl (L_as (vi k3) rfl (L_nil (W_ret ⟨[vi k3], ⟨_, rfl, rfl⟩, k3, rfl, H, ab.gr.g0⟩)))))
end
section
open Go.RowKit
def F43.E (a : List Tag) (k : Int) (Q : Int → Prop) : Prop :=
 (∃ (I18 : Int → Int → Prop) (mu19 : Int → Int → Nat), I18 k 0 ∧ ∀ (k3 : Int) (i2 : Int), I18 k3 i2 → (if decide (i2 < (a.length : Int)) then ((0 : Int) ≤ i2 ∧ i2 < (a.length : Int)) ∧ (∃ q : Str, F41.E k3 (fun x => x = q) ∧ (Lim q) ∧ (if ((nth a i2).Key) != q then Q (-1) else ((a.length : Int) ≤ 9223372036854775807 → I64 (k3 + 1)) ∧ ((0 : Int) ≤ i2 ∧ i2 < (a.length : Int)) ∧ (∃ q2 : Str, F41.E (k3 + 1) (fun x => x = q2) ∧ (Lim q2) ∧ (if ((nth a i2).Val) != q2 then Q (-1) else ((a.length : Int) ≤ 9223372036854775807 → I64 (k3 + 1 + 1)) ∧ (-9223372036854775808 ≤ i2) ∧ I18 (k3 + 1 + 1) (i2 + 1) ∧ mu19 (k3 + 1 + 1) (i2 + 1) < mu19 k3 i2)))) else Q k3))
theorem F43.calls {O : Ob} (w0 : World) (hO : Ok w0 O) (a : List Tag) (A1 : Option Addr) (n2 c3 : Nat) (hp4 : Sl kTag w0 (Fr O) (.slice A1 n2 c3) a) (k : Int) (Q : Int → Prop) (h : F43.E a k Q) :
  Ret Tryz.prog 47 [.slice A1 n2 c3, vi k] w0 (fun v w' => ∃ (r0 : Int), v = vi r0 ∧ Q r0 ∧ Gr w0 w' none) := by
 unfold F43.E at h
 have H := h
 clear h
 have hc0 := Ct.init hO
 refine Ret_enter Tryz.func47 rfl 33 rfl [.tmp 4] rfl rfl ?_
 refine W_seq (W_reg (L_as (vi 0) rfl (L_nil (W_seq (W_seq (W_reg (L_as (vi 0) rfl (L_nil ?_))))))))
 refine W_block ?_
 obtain ⟨ar, au, ah, H⟩ := H
 refine W_loop (α := Int × Int) (fun (sv__ : Int × Int) t ab => match sv__ with | (k3, i2) => ar k3 i2 ∧ Has t [(0, .slice A1 n2 c3), (1, vi k3), (5, vi i2)] ∧ Ct [] w0 ab [] O ∧ Sl kTag ab (Fr ([] ++ O)) (.slice A1 n2 c3) a) (fun (sv__ : Int × Int) => match sv__ with | (k3, i2) => au k3 i2) (k, 0) ⟨ah, (hasI rfl), hc0, hp4⟩ ?_
 rintro ⟨k3, i2⟩ _ ab ⟨ah, av, ac, aa⟩
 obtain ⟨bf, rfl⟩ := Has.ins av
 have H := H k3 i2 ah
 refine W_seq (W_seq (W_reg (L_mv (vi i2) rfl (L_mv (.slice A1 n2 c3) rfl ?_))))
 have ai := aa.le
 refine L_pu (P_len Tryz.underlying59 A1 n2 c3 aa.len rfl) (L_pu (P_cmp i2 (a.length : Int) (decide (i2 < (a.length : Int))) rfl rfl rfl) (L_nil ?_))
 refine W_cond (decide (i2 < (a.length : Int))) rfl (fun ad => ?_) (fun ad => ?_)
 ·have H := ite_t H ad
  refine W_skip (W_seq (W_block (W_seq (W_seq (W_draw (fun x => Gr ab x none) (by kernel_rfl) (by kernel_rfl) (Gr.drew _) ?_)))))
  refine Q_mv (.slice A1 n2 c3) rfl (Q_mv (vi i2) rfl ?_)
  obtain ⟨am, H⟩ := H
  obtain ⟨ae, bg, aw, bh, ax, ay⟩ := aa.get default (by decide) i2 am
  obtain ⟨rfl, bi, bj⟩ := kTag.op ax
  refine Q_pu (P_ia Tryz.underlying59 se59 A1 ae n2 c3 aa.len i2 rfl aw rfl am) (Q_pu (P_fa fa106_0 (ae.add (i2.toNat * 2)) ((ae.add (i2.toNat * 2)).add 0) rfl rfl) (Q_pu (P_ld ag9 cQ ((ae.add (i2.toNat * 2)).add 0) (vs ((nth a i2).Key)) rfl (ay 0 _ rfl)) (Q_mv (vi k3) rfl ?_)))
  obtain ⟨q, az, bl, H⟩ := H
  refine Q_call go43 [vi k3] rfl (vs q) (fun w g => (F41.calls w (ac.k0 g).ok k3 _ az).mono ?_) ?_
  ·rintro _ w ⟨r, rfl, rfl, g2, _⟩
   exact ⟨rfl, Gr.t0 g g2⟩
  refine Q_pu (P_scmp ((nth a i2).Key) q (((nth a i2).Key) != q) rfl rfl rfl) (Q_nil fun a0 an => ?_)
  have af := ac.k0 an
  refine W_cond (((nth a i2).Key) != q) rfl (fun aj => ?_) (fun aj => ?_)
  ·have H := ite_t H aj
   exact W_seq (W_reg (L_as (vi (-1)) rfl (L_nil (W_ret ⟨[vi (-1)], ⟨_, rfl, rfl⟩, (-1), rfl, H, af.gr.g0⟩))))
  have H := ite_f H aj
  refine W_skip (W_seq (W_reg (L_mv (vi k3) rfl ?_)))
  obtain ⟨a1, H⟩ := H
  have a2 := a1 (len_le ai)
  refine L_pu (P_add k3 1 rfl rfl a2) (L_as (vi (k3 + 1)) rfl (L_nil (W_seq (W_seq (W_draw (fun x => Gr a0 x none) (by kernel_rfl) (by kernel_rfl) (Gr.drew _) ?_)))))
  refine Q_mv (.slice A1 n2 c3) rfl (Q_mv (vi i2) rfl ?_)
  obtain ⟨ao, H⟩ := H
  have ak := ac.stn an
  obtain ⟨ag, bm, a3, bn, a4, a5⟩ := (aa.st ak).get default (by decide) i2 ao
  obtain ⟨rfl, bo, bp⟩ := kTag.op a4
  refine Q_pu (P_ia Tryz.underlying59 se59 A1 ag n2 c3 (aa.st ak).len i2 rfl a3 rfl ao) (Q_pu (P_fa fa106_1 (ag.add (i2.toNat * 2)) ((ag.add (i2.toNat * 2)).add 1) rfl rfl) (Q_pu (P_ld ag9 cQ ((ag.add (i2.toNat * 2)).add 1) (vs ((nth a i2).Val)) rfl (a5 1 _ rfl)) (Q_mv (vi (k3 + 1)) rfl ?_)))
  obtain ⟨q2, a6, bq, H⟩ := H
  refine Q_call go43 [vi (k3 + 1)] rfl (vs q2) (fun w g => (F41.calls w (af.k0 g).ok (k3 + 1) _ a6).mono ?_) ?_
  ·rintro _ w ⟨r, rfl, rfl, g2, _⟩
   exact ⟨rfl, Gr.t0 g g2⟩
  refine Q_pu (P_scmp ((nth a i2).Val) q2 (((nth a i2).Val) != q2) rfl rfl rfl) (Q_nil fun br ap => ?_)
  have aq := af.k0 ap
  refine W_cond (((nth a i2).Val) != q2) rfl (fun al => ?_) (fun al => ?_)
  ·have H := ite_t H al
   exact W_seq (W_reg (L_as (vi (-1)) rfl (L_nil (W_ret ⟨[vi (-1)], ⟨_, rfl, rfl⟩, (-1), rfl, H, aq.gr.g0⟩))))
  have H := ite_f H al
  refine W_skip (W_reg (L_mv (vi (k3 + 1)) rfl ?_))
  obtain ⟨a7, H⟩ := H
  have a8 := a7 (len_le ai)
  refine L_pu (P_add (k3 + 1) 1 rfl rfl a8) (L_as (vi (k3 + 1 + 1)) rfl (L_nil (W_reg (L_mv (vi i2) rfl ?_))))
  obtain ⟨a9, H⟩ := H
  have ba : I64 (i2 + 1) := i64_succ (of_decide_eq_true ad) ai a9
  refine L_pu (P_add i2 1 rfl rfl ba) (L_as (vi (i2 + 1)) rfl (L_nil ?_))
  obtain ⟨bb, bc⟩ := H
  have bd := af.stn ap
  have be := ((aa.st ak).st bd)
  exact ⟨(k3 + 1 + 1, i2 + 1), bc, bb, (hasI rfl), aq, be⟩
 have H := ite_f H ad
 refine W_exit (xin_hit ?_)
 exact W_seq (W_reg (L_mv (vi k3) rfl (L_as (vi k3) rfl (L_nil (W_ret ⟨[vi k3], ⟨_, rfl, rfl⟩, k3, rfl, H, ac.gr.g0⟩)))))
end
section
open Go.RowKit
def F30.E (a : List Feat) (k : Int) (Q : Int → Prop) : Prop :=
 (∃ (I18 : Int → Int → Prop) (mu19 : Int → Int → Nat), I18 k 0 ∧ ∀ (k3 : Int) (i2 : Int), I18 k3 i2 → (if decide (i2 < (a.length : Int)) then ((0 : Int) ≤ i2 ∧ i2 < (a.length : Int)) ∧ (∃ q : Str, F41.E k3 (fun x => x = q) ∧ (Lim q) ∧ (if ((nth a i2).Id) != q then Q (-1) else ((a.length : Int) ≤ 9223372036854775807 → I64 (k3 + 1)) ∧ ((0 : Int) ≤ i2 ∧ i2 < (a.length : Int)) ∧ (if ((nth a i2).Shape.Kind) != (k3 + 1) then Q (-1) else ((a.length : Int) ≤ 9223372036854775807 → I64 (k3 + 1 + 1)) ∧ ((0 : Int) ≤ i2 ∧ i2 < (a.length : Int)) ∧ F61.E ((nth a i2).Shape.Pts) (k3 + 1 + 1) (fun r2 => (if decide (r2 < 0) then Q (-1) else ((0 : Int) ≤ i2 ∧ i2 < (a.length : Int)) ∧ F43.E ((nth a i2).Tags) r2 (fun r3 => (if decide (r3 < 0) then Q (-1) else (-9223372036854775808 ≤ i2) ∧ I18 r3 (i2 + 1) ∧ mu19 r3 (i2 + 1) < mu19 k3 i2))))))) else Q k3))
theorem F30.calls {O : Ob} (w0 : World) (hO : Ok w0 O) (a : List Feat) (A1 : Option Addr) (n2 c3 : Nat) (hp4 : Sl kFeat w0 (Fr O) (.slice A1 n2 c3) a) (k : Int) (Q : Int → Prop) (h : F30.E a k Q) :
  Ret Tryz.prog 15 [.slice A1 n2 c3, vi k] w0 (fun v w' => ∃ (r0 : Int), v = vi r0 ∧ Q r0 ∧ Gr w0 w' none) := by
 unfold F30.E at h
 have H := h
 clear h
 have hc0 := Ct.init hO
 refine Ret_enter Tryz.func15 rfl 52 rfl [.tmp 4] rfl rfl ?_
 refine W_seq (W_reg (L_as (vi 0) rfl (L_nil (W_seq (W_seq (W_reg (L_as (vi 0) rfl (L_nil ?_))))))))
 refine W_block ?_
 obtain ⟨a9, ba, al, H⟩ := H
 refine W_loop (α := Int × Int) (fun (sv__ : Int × Int) t af => match sv__ with | (k3, i2) => a9 k3 i2 ∧ Has t [(0, .slice A1 n2 c3), (1, vi k3), (5, vi i2)] ∧ Ct [] w0 af [] O ∧ Sl kFeat af (Fr ([] ++ O)) (.slice A1 n2 c3) a) (fun (sv__ : Int × Int) => match sv__ with | (k3, i2) => ba k3 i2) (k, 0) ⟨al, (hasI rfl), hc0, hp4⟩ ?_
 rintro ⟨k3, i2⟩ _ af ⟨al, bb, ag, aa⟩
 obtain ⟨b4, rfl⟩ := Has.ins bb
 have H := H k3 i2 al
 refine W_seq (W_seq (W_reg (L_mv (vi i2) rfl (L_mv (.slice A1 n2 c3) rfl ?_))))
 have am := aa.le
 refine L_pu (P_len Tryz.underlying26 A1 n2 c3 aa.len rfl) (L_pu (P_cmp i2 (a.length : Int) (decide (i2 < (a.length : Int))) rfl rfl rfl) (L_nil ?_))
 refine W_cond (decide (i2 < (a.length : Int))) rfl (fun ah => ?_) (fun ah => ?_)
 ·have H := ite_t H ah
  refine W_skip (W_seq (W_block (W_seq (W_seq (W_draw (fun x => Gr af x none) (by kernel_rfl) (by kernel_rfl) (Gr.drew _) ?_)))))
  refine Q_mv (.slice A1 n2 c3) rfl (Q_mv (vi i2) rfl ?_)
  obtain ⟨a1, H⟩ := H
  obtain ⟨ai, b5, bc, b6, bd, be⟩ := aa.get default (by decide) i2 a1
  obtain ⟨b7, b8, b9, ca, cb, cc, rfl, cd, ce, cf⟩ := kFeat.op bd
  refine Q_pu (P_ia Tryz.underlying26 se26 A1 ai n2 c3 aa.len i2 rfl bc rfl a1) (Q_pu (P_fa fa61_0 (ai.add (i2.toNat * 4)) ((ai.add (i2.toNat * 4)).add 0) rfl rfl) (Q_pu (P_ld ag9 cQ ((ai.add (i2.toNat * 4)).add 0) (vs ((nth a i2).Id)) rfl (be 0 _ rfl)) (Q_mv (vi k3) rfl ?_)))
  obtain ⟨q, bf, cg, H⟩ := H
  refine Q_call go43 [vi k3] rfl (vs q) (fun w g => (F41.calls w (ag.k0 g).ok k3 _ bf).mono ?_) ?_
  ·rintro _ w ⟨r, rfl, rfl, g2, _⟩
   exact ⟨rfl, Gr.t0 g g2⟩
  refine Q_pu (P_scmp ((nth a i2).Id) q (((nth a i2).Id) != q) rfl rfl rfl) (Q_nil fun an a2 => ?_)
  have ad := ag.k0 a2
  refine W_cond (((nth a i2).Id) != q) rfl (fun ao => ?_) (fun ao => ?_)
  ·have H := ite_t H ao
   exact W_seq (W_reg (L_as (vi (-1)) rfl (L_nil (W_ret ⟨[vi (-1)], ⟨_, rfl, rfl⟩, (-1), rfl, H, ad.gr.g0⟩))))
  have H := ite_f H ao
  refine W_skip (W_seq (W_reg (L_mv (vi k3) rfl ?_)))
  obtain ⟨bg, H⟩ := H
  have bh := bg (len_le am)
  refine L_pu (P_add k3 1 rfl rfl bh) (L_as (vi (k3 + 1)) rfl (L_nil (W_seq (W_seq (W_reg (L_mv (.slice A1 n2 c3) rfl (L_mv (vi i2) rfl ?_)))))))
  obtain ⟨a3, H⟩ := H
  have ae := ag.stn a2
  obtain ⟨ab, ch, bi, ci, bj, bl⟩ := (aa.st ae).get default (by decide) i2 a3
  obtain ⟨cj, ck, cl, cm, cn, co, rfl, cp, cq, cr⟩ := kFeat.op bj
  refine L_pu (P_ia Tryz.underlying26 se26 A1 ab n2 c3 (aa.st ae).len i2 rfl bi rfl a3) (L_pu (P_fa fa61_1 (ab.add (i2.toNat * 4)) ((ab.add (i2.toNat * 4)).add 1) rfl rfl) (L_pu (P_fa fa58_0 ((ab.add (i2.toNat * 4)).add 1) (((ab.add (i2.toNat * 4)).add 1).add 0) rfl rfl) (L_pu (P_ld ag3 cL (((ab.add (i2.toNat * 4)).add 1).add 0) (vi ((nth a i2).Shape.Kind)) rfl ((congrArg an.cell? (add_add _ _ _)).trans (bl 1 _ rfl))) (L_mv (vi (k3 + 1)) rfl (L_pu (P_cmp ((nth a i2).Shape.Kind) (k3 + 1) (((nth a i2).Shape.Kind) != (k3 + 1)) rfl rfl rfl) (L_nil ?_))))))
  refine W_cond (((nth a i2).Shape.Kind) != (k3 + 1)) rfl (fun ap => ?_) (fun ap => ?_)
  ·have H := ite_t H ap
   exact W_seq (W_reg (L_as (vi (-1)) rfl (L_nil (W_ret ⟨[vi (-1)], ⟨_, rfl, rfl⟩, (-1), rfl, H, ad.gr.g0⟩))))
  have H := ite_f H ap
  refine W_skip (W_seq (W_reg (L_mv (vi (k3 + 1)) rfl ?_)))
  obtain ⟨bm, H⟩ := H
  have bn := bm (len_le am)
  refine L_pu (P_add (k3 + 1) 1 rfl rfl bn) (L_as (vi (k3 + 1 + 1)) rfl (L_nil (W_seq (W_reg (L_mv (.slice A1 n2 c3) rfl (L_mv (vi i2) rfl ?_))))))
  obtain ⟨a4, H⟩ := H
  obtain ⟨ac, cs, bo, ct, bp, bq⟩ := (aa.st ae).get default (by decide) i2 a4
  obtain ⟨aq, ar, au, cu, cv, cw, rfl, cx, br, cy⟩ := kFeat.op bp
  refine L_pu (P_ia Tryz.underlying26 se26 A1 ac n2 c3 (aa.st ae).len i2 rfl bo rfl a4) (L_pu (P_fa fa61_1 (ac.add (i2.toNat * 4)) ((ac.add (i2.toNat * 4)).add 1) rfl rfl) (L_pu (P_fa fa58_1 ((ac.add (i2.toNat * 4)).add 1) (((ac.add (i2.toNat * 4)).add 1).add 1) rfl rfl) (L_pu (P_ld ag56 cL (((ac.add (i2.toNat * 4)).add 1).add 1) (.slice aq ar au) rfl ((congrArg an.cell? (add_add _ _ _)).trans (bq 2 _ rfl))) (L_mv (vi (k3 + 1 + 1)) rfl ?_))))
  refine L_call go46 [.slice aq ar au, vi (k3 + 1 + 1)] rfl ((F61.calls an ad.ok ((nth a i2).Shape.Pts) aq ar au br (k3 + 1 + 1) _ H).mono ?_)
  rintro _ bs ⟨r2, rfl, H, a5⟩
  have aj := ad.k0 a5
  refine L_as (vi r2) rfl (L_nil (W_seq (W_seq (W_reg (L_mv (vi r2) rfl (L_pu (P_cmp r2 0 (decide (r2 < 0)) rfl rfl rfl) (L_nil ?_)))))))
  refine W_cond (decide (r2 < 0)) rfl (fun av => ?_) (fun av => ?_)
  ·have H := ite_t H av
   exact W_seq (W_reg (L_as (vi (-1)) rfl (L_nil (W_ret ⟨[vi (-1)], ⟨_, rfl, rfl⟩, (-1), rfl, H, aj.gr.g0⟩))))
  have H := ite_f H av
  refine W_skip (W_seq (W_reg (L_mv (.slice A1 n2 c3) rfl (L_mv (vi i2) rfl ?_))))
  obtain ⟨a6, H⟩ := H
  have bt := ad.stn a5
  have aw := ((aa.st ae).st bt)
  obtain ⟨ak, cz, bu, c0, bv, bw⟩ := aw.get default (by decide) i2 a6
  obtain ⟨c1, c2, c4, ax, ay, az, rfl, c5, c6, bx⟩ := kFeat.op bv
  refine L_pu (P_ia Tryz.underlying26 se26 A1 ak n2 c3 aw.len i2 rfl bu rfl a6) (L_pu (P_fa fa61_2 (ak.add (i2.toNat * 4)) ((ak.add (i2.toNat * 4)).add 3) rfl rfl) (L_pu (P_ld ag59 cL ((ak.add (i2.toNat * 4)).add 3) (.slice ax ay az) rfl (bw 3 _ rfl)) (L_mv (vi r2) rfl ?_)))
  refine L_call go47 [.slice ax ay az, vi r2] rfl ((F43.calls bs aj.ok ((nth a i2).Tags) ax ay az bx r2 _ H).mono ?_)
  rintro _ c7 ⟨r3, rfl, H, a7⟩
  have a8 := aj.k0 a7
  refine L_as (vi r3) rfl (L_nil (W_seq (W_reg (L_mv (vi r3) rfl (L_pu (P_cmp r3 0 (decide (r3 < 0)) rfl rfl rfl) (L_nil ?_))))))
  refine W_cond (decide (r3 < 0)) rfl (fun a0 => ?_) (fun a0 => ?_)
  ·have H := ite_t H a0
   exact W_seq (W_reg (L_as (vi (-1)) rfl (L_nil (W_ret ⟨[vi (-1)], ⟨_, rfl, rfl⟩, (-1), rfl, H, a8.gr.g0⟩))))
  have H := ite_f H a0
  refine W_skip (W_reg (L_mv (vi i2) rfl ?_))
  obtain ⟨bz, H⟩ := H
  have b0 : I64 (i2 + 1) := i64_succ (of_decide_eq_true ah) am bz
  refine L_pu (P_add i2 1 rfl rfl b0) (L_as (vi (i2 + 1)) rfl (L_nil ?_))
  obtain ⟨b1, b2⟩ := H
  have b3 := aj.stn a7
  exact ⟨(r3, i2 + 1), b2, b1, (hasI rfl), a8, (aw.st b3)⟩
 have H := ite_f H ah
 refine W_exit (xin_hit ?_)
 exact W_seq (W_reg (L_mv (vi k3) rfl (L_as (vi k3) rfl (L_nil (W_ret ⟨[vi k3], ⟨_, rfl, rfl⟩, k3, rfl, H, ag.gr.g0⟩)))))
end
section
open Go.RowKit
def F22.E (a : List Clash) (k : Int) (Q : Int → Prop) : Prop :=
 (∃ (I18 : Int → Int → Prop) (mu19 : Int → Int → Nat), I18 k 0 ∧ ∀ (k3 : Int) (i2 : Int), I18 k3 i2 → (if decide (i2 < (a.length : Int)) then ((0 : Int) ≤ i2 ∧ i2 < (a.length : Int)) ∧ (∃ q : Str, F41.E k3 (fun x => x = q) ∧ (Lim q) ∧ (if ((nth a i2).Id) != q then Q (-1) else ((a.length : Int) ≤ 9223372036854775807 → I64 (k3 + 1)) ∧ ((0 : Int) ≤ i2 ∧ i2 < (a.length : Int)) ∧ (∃ q2 : Str, F41.E (k3 + 1) (fun x => x = q2) ∧ (Lim q2) ∧ (if ((nth a i2).What) != q2 then Q (-1) else ((a.length : Int) ≤ 9223372036854775807 → I64 (k3 + 1 + 1)) ∧ (-9223372036854775808 ≤ i2) ∧ I18 (k3 + 1 + 1) (i2 + 1) ∧ mu19 (k3 + 1 + 1) (i2 + 1) < mu19 k3 i2)))) else Q k3))
theorem F22.calls {O : Ob} (w0 : World) (hO : Ok w0 O) (a : List Clash) (A1 : Option Addr) (n2 c3 : Nat) (hp4 : Sl kClash w0 (Fr O) (.slice A1 n2 c3) a) (k : Int) (Q : Int → Prop) (h : F22.E a k Q) :
  Ret Tryz.prog 20 [.slice A1 n2 c3, vi k] w0 (fun v w' => ∃ (r0 : Int), v = vi r0 ∧ Q r0 ∧ Gr w0 w' none) := by
 unfold F22.E at h
 have H := h
 clear h
 have hc0 := Ct.init hO
 refine Ret_enter Tryz.func20 rfl 33 rfl [.tmp 4] rfl rfl ?_
 refine W_seq (W_reg (L_as (vi 0) rfl (L_nil (W_seq (W_seq (W_reg (L_as (vi 0) rfl (L_nil ?_))))))))
 refine W_block ?_
 obtain ⟨ar, au, ah, H⟩ := H
 refine W_loop (α := Int × Int) (fun (sv__ : Int × Int) t ab => match sv__ with | (k3, i2) => ar k3 i2 ∧ Has t [(0, .slice A1 n2 c3), (1, vi k3), (5, vi i2)] ∧ Ct [] w0 ab [] O ∧ Sl kClash ab (Fr ([] ++ O)) (.slice A1 n2 c3) a) (fun (sv__ : Int × Int) => match sv__ with | (k3, i2) => au k3 i2) (k, 0) ⟨ah, (hasI rfl), hc0, hp4⟩ ?_
 rintro ⟨k3, i2⟩ _ ab ⟨ah, av, ac, aa⟩
 obtain ⟨bf, rfl⟩ := Has.ins av
 have H := H k3 i2 ah
 refine W_seq (W_seq (W_reg (L_mv (vi i2) rfl (L_mv (.slice A1 n2 c3) rfl ?_))))
 have ai := aa.le
 refine L_pu (P_len Tryz.underlying37 A1 n2 c3 aa.len rfl) (L_pu (P_cmp i2 (a.length : Int) (decide (i2 < (a.length : Int))) rfl rfl rfl) (L_nil ?_))
 refine W_cond (decide (i2 < (a.length : Int))) rfl (fun ad => ?_) (fun ad => ?_)
 ·have H := ite_t H ad
  refine W_skip (W_seq (W_block (W_seq (W_seq (W_draw (fun x => Gr ab x none) (by kernel_rfl) (by kernel_rfl) (Gr.drew _) ?_)))))
  refine Q_mv (.slice A1 n2 c3) rfl (Q_mv (vi i2) rfl ?_)
  obtain ⟨am, H⟩ := H
  obtain ⟨ae, bg, aw, bh, ax, ay⟩ := aa.get default (by decide) i2 am
  obtain ⟨rfl, bi, bj⟩ := kClash.op ax
  refine Q_pu (P_ia Tryz.underlying37 se37 A1 ae n2 c3 aa.len i2 rfl aw rfl am) (Q_pu (P_fa fa90_0 (ae.add (i2.toNat * 2)) ((ae.add (i2.toNat * 2)).add 0) rfl rfl) (Q_pu (P_ld ag9 cQ ((ae.add (i2.toNat * 2)).add 0) (vs ((nth a i2).Id)) rfl (ay 0 _ rfl)) (Q_mv (vi k3) rfl ?_)))
  obtain ⟨q, az, bl, H⟩ := H
  refine Q_call go43 [vi k3] rfl (vs q) (fun w g => (F41.calls w (ac.k0 g).ok k3 _ az).mono ?_) ?_
  ·rintro _ w ⟨r, rfl, rfl, g2, _⟩
   exact ⟨rfl, Gr.t0 g g2⟩
  refine Q_pu (P_scmp ((nth a i2).Id) q (((nth a i2).Id) != q) rfl rfl rfl) (Q_nil fun a0 an => ?_)
  have af := ac.k0 an
  refine W_cond (((nth a i2).Id) != q) rfl (fun aj => ?_) (fun aj => ?_)
  ·have H := ite_t H aj
   exact W_seq (W_reg (L_as (vi (-1)) rfl (L_nil (W_ret ⟨[vi (-1)], ⟨_, rfl, rfl⟩, (-1), rfl, H, af.gr.g0⟩))))
  have H := ite_f H aj
  refine W_skip (W_seq (W_reg (L_mv (vi k3) rfl ?_)))
  obtain ⟨a1, H⟩ := H
  have a2 := a1 (len_le ai)
  refine L_pu (P_add k3 1 rfl rfl a2) (L_as (vi (k3 + 1)) rfl (L_nil (W_seq (W_seq (W_draw (fun x => Gr a0 x none) (by kernel_rfl) (by kernel_rfl) (Gr.drew _) ?_)))))
  refine Q_mv (.slice A1 n2 c3) rfl (Q_mv (vi i2) rfl ?_)
  obtain ⟨ao, H⟩ := H
  have ak := ac.stn an
  obtain ⟨ag, bm, a3, bn, a4, a5⟩ := (aa.st ak).get default (by decide) i2 ao
  obtain ⟨rfl, bo, bp⟩ := kClash.op a4
  refine Q_pu (P_ia Tryz.underlying37 se37 A1 ag n2 c3 (aa.st ak).len i2 rfl a3 rfl ao) (Q_pu (P_fa fa90_1 (ag.add (i2.toNat * 2)) ((ag.add (i2.toNat * 2)).add 1) rfl rfl) (Q_pu (P_ld ag9 cQ ((ag.add (i2.toNat * 2)).add 1) (vs ((nth a i2).What)) rfl (a5 1 _ rfl)) (Q_mv (vi (k3 + 1)) rfl ?_)))
  obtain ⟨q2, a6, bq, H⟩ := H
  refine Q_call go43 [vi (k3 + 1)] rfl (vs q2) (fun w g => (F41.calls w (af.k0 g).ok (k3 + 1) _ a6).mono ?_) ?_
  ·rintro _ w ⟨r, rfl, rfl, g2, _⟩
   exact ⟨rfl, Gr.t0 g g2⟩
  refine Q_pu (P_scmp ((nth a i2).What) q2 (((nth a i2).What) != q2) rfl rfl rfl) (Q_nil fun br ap => ?_)
  have aq := af.k0 ap
  refine W_cond (((nth a i2).What) != q2) rfl (fun al => ?_) (fun al => ?_)
  ·have H := ite_t H al
   exact W_seq (W_reg (L_as (vi (-1)) rfl (L_nil (W_ret ⟨[vi (-1)], ⟨_, rfl, rfl⟩, (-1), rfl, H, aq.gr.g0⟩))))
  have H := ite_f H al
  refine W_skip (W_reg (L_mv (vi (k3 + 1)) rfl ?_))
  obtain ⟨a7, H⟩ := H
  have a8 := a7 (len_le ai)
  refine L_pu (P_add (k3 + 1) 1 rfl rfl a8) (L_as (vi (k3 + 1 + 1)) rfl (L_nil (W_reg (L_mv (vi i2) rfl ?_))))
  obtain ⟨a9, H⟩ := H
  have ba : I64 (i2 + 1) := i64_succ (of_decide_eq_true ad) ai a9
  refine L_pu (P_add i2 1 rfl rfl ba) (L_as (vi (i2 + 1)) rfl (L_nil ?_))
  obtain ⟨bb, bc⟩ := H
  have bd := af.stn ap
  have be := ((aa.st ak).st bd)
  exact ⟨(k3 + 1 + 1, i2 + 1), bc, bb, (hasI rfl), aq, be⟩
 have H := ite_f H ad
 refine W_exit (xin_hit ?_)
 exact W_seq (W_reg (L_mv (vi k3) rfl (L_as (vi k3) rfl (L_nil (W_ret ⟨[vi k3], ⟨_, rfl, rfl⟩, k3, rfl, H, ac.gr.g0⟩)))))
end
section
open Go.RowKit
def laws_FnExactSheetJoin.E (aBase : List Feat) (aA : List Feat) (aB : List Feat) (Q : Bool → Prop) : Prop :=
 F51.E aBase 1048576 (fun r => (if decide (r < 0) then Q true else F51.E aA r (fun r2 => (if decide (r2 < 0) then Q true else F51.E aB r2 (fun r3 => (if decide (r3 < 0) then Q true else F53.E aBase (fun r4 => F53.E aA (fun r5 => F53.E aB (fun r6 => F31.E r4 r5 r6 (fun r7 r8 r9 => F53.E aBase (fun r10 => F53.E aA (fun r11 => F53.E aB (fun r12 => F33.E r10 r11 r12 (fun r13 r14 r15 => F59.E r13 r7 (fun r16 => (if !r16 then Q false else F49.E r14 r8 (fun r17 => (if !r17 then Q false else (if r15 != r9 then Q false else F53.E aBase (fun r18 => F59.E r10 r18 (fun r19 => (if !r19 then Q false else F53.E aA (fun r20 => F59.E r11 r20 (fun r21 => (if !r21 then Q false else F53.E aB (fun r22 => F59.E r12 r22 (fun r23 => (if !r23 then Q false else F29.E r10 1 (fun r24 m => F29.E r11 r24 (fun r25 m2 => F29.E r12 r25 (fun r26 m3 => (if decide (r26 < 0) then Q false else F59.E r13 r7 (fun r27 => (if !r27 then Q false else F49.E r14 r8 (fun r28 => (if !r28 then Q false else F29.E r13 1 (fun r29 m4 => F21.E r14 r29 (fun r30 m5 => F30.E m4 1 (fun r31 => (if decide (r31 < 0) then Q false else F22.E m5 r31 (fun r32 => (if decide (r32 < 0) then Q false else (if r32 != r30 then Q false else F53.E aBase (fun r33 => F53.E aA (fun r34 => F53.E aB (fun r35 => F33.E r33 r34 r35 (fun r36 r37 r38 => F59.E r36 r7 (fun r39 => (if !r39 then Q false else F49.E r37 r8 (fun r40 => (if !r40 then Q false else (if r38 != r9 then Q false else F30.E m4 1 (fun r41 => (if decide (r41 < 0) then Q false else F22.E m5 r41 (fun r42 => (if decide (r42 < 0) then Q false else (if r42 != r30 then Q false else Q true)))))))))))))))))))))))))))))))))))))))))))))))))))))))))
theorem laws_FnExactSheetJoin.calls {O : Ob} (w0 : World) (hO : Ok w0 O) (aBase : List Feat) (A1 : Option Addr) (n2 c3 : Nat) (hp4 : Sl kFeat w0 (Fr O) (.slice A1 n2 c3) aBase) (aA : List Feat) (A6 : Option Addr) (n7 c8 : Nat) (hp9 : Sl kFeat w0 (Fr O) (.slice A6 n7 c8) aA) (aB : List Feat) (be : Option Addr) (bf bg : Nat) (d7 : Sl kFeat w0 (Fr O) (.slice be bf bg) aB) (Q : Bool → Prop) (h : laws_FnExactSheetJoin.E aBase aA aB Q) :
  Ret Tryz.prog 4 [.slice A1 n2 c3, .slice A6 n7 c8, .slice be bf bg] w0 (fun v w' => ∃ (r0 : Bool), v = vb r0 ∧ Q r0 ∧ Gr w0 w' none) := by
 unfold laws_FnExactSheetJoin.E at h
 have H := h
 clear h
 have hc0 := Ct.init hO
 refine Ret_enter Tryz.func4 rfl 179 rfl [.tmp 6] rfl rfl ?_
 refine W_seq (W_reg (L_as (vb false) rfl (L_nil (W_seq (W_reg (L_as (vi 1048576) rfl (L_nil (W_seq ?_))))))))
 refine W_reg (L_mv (.slice A1 n2 c3) rfl (L_mv (vi 1048576) rfl ?_))
 refine L_call go5 [.slice A1 n2 c3, vi 1048576] rfl ((F51.calls w0 hc0.ok aBase A1 n2 c3 hp4 1048576 _ H).mono ?_)
 rintro _ hn ⟨r, rfl, H, ho⟩
 have ei := hc0.k0 ho
 refine L_as (vi r) rfl (L_nil (W_seq (W_seq (W_reg (L_mv (vi r) rfl (L_pu (P_cmp r 0 (decide (r < 0)) rfl rfl rfl) (L_nil ?_)))))))
 refine W_cond (decide (r < 0)) rfl (fun ev => ?_) (fun ev => ?_)
 ·have H := ite_t H ev
  exact W_seq (W_reg (L_as (vb true) rfl (L_nil (W_ret ⟨[vb true], ⟨_, rfl, rfl⟩, true, rfl, H, ei.gr.g0⟩))))
 have H := ite_f H ev
 refine W_skip (W_seq (W_reg (L_mv (.slice A6 n7 c8) rfl (L_mv (vi r) rfl ?_))))
 refine L_call go5 [.slice A6 n7 c8, vi r] rfl ((F51.calls hn ei.ok aA A6 n7 c8 (hp9.st ei.st) r _ H).mono ?_)
 rintro _ hp ⟨r2, rfl, H, hq⟩
 have ej := ei.k0 hq
 refine L_as (vi r2) rfl (L_nil (W_seq (W_seq (W_reg (L_mv (vi r2) rfl (L_pu (P_cmp r2 0 (decide (r2 < 0)) rfl rfl rfl) (L_nil ?_)))))))
 refine W_cond (decide (r2 < 0)) rfl (fun ew => ?_) (fun ew => ?_)
 ·have H := ite_t H ew
  exact W_seq (W_reg (L_as (vb true) rfl (L_nil (W_ret ⟨[vb true], ⟨_, rfl, rfl⟩, true, rfl, H, ej.gr.g0⟩))))
 have H := ite_f H ew
 refine W_skip (W_seq (W_reg (L_mv (.slice be bf bg) rfl (L_mv (vi r2) rfl ?_))))
 refine L_call go5 [.slice be bf bg, vi r2] rfl ((F51.calls hp ej.ok aB be bf bg (d7.st ej.st) r2 _ H).mono ?_)
 rintro _ hr ⟨r3, rfl, H, hs⟩
 have ek := ej.k0 hs
 refine L_as (vi r3) rfl (L_nil (W_seq (W_seq (W_reg (L_mv (vi r3) rfl (L_pu (P_cmp r3 0 (decide (r3 < 0)) rfl rfl rfl) (L_nil ?_)))))))
 refine W_cond (decide (r3 < 0)) rfl (fun ex => ?_) (fun ex => ?_)
 ·have H := ite_t H ex
  exact W_seq (W_reg (L_as (vb true) rfl (L_nil (W_ret ⟨[vb true], ⟨_, rfl, rfl⟩, true, rfl, H, ek.gr.g0⟩))))
 have H := ite_f H ex
 refine W_skip (W_seq (W_reg (L_mv (.slice A1 n2 c3) rfl ?_)))
 refine L_call go8 [.slice A1 n2 c3] rfl ((F53.calls hr ek.ok aBase A1 n2 c3 (hp4.st ek.st) _ H).mono ?_)
 rintro _ ht ⟨r4, b2, ey, ez, cu, o7, rfl, H, hu, hv, hw, hx, hy⟩
 have gw := ek.owns hu hv hw
 have gx : (((bk b2 :: (cu ++ [])) ++ []) : Ob).Perm (bk b2 :: (cu ++ [])) := (pc fun a => by (try simp only [pca, pcc, pcn, Nat.add_zero, Nat.zero_add]); first | done | ac_rfl)
 have e0 := gw.perm gx
 refine L_mv (.slice A6 n7 c8) rfl ?_
 refine L_call go8 [.slice A6 n7 c8] rfl ((F53.calls ht e0.ok aA A6 n7 c8 (hp9.st e0.st) _ H).mono ?_)
 rintro _ hz ⟨r5, b3, e1, e2, cv, o8, rfl, H, e3, h0, gy, h1, h2⟩
 have e4 := e0.owns e3 h0 gy
 have e5 : (((bk b3 :: (cv ++ [])) ++ (bk b2 :: (cu ++ []))) : Ob).Perm (bk b3 :: bk b2 :: (cv ++ (cu ++ []))) := (pc fun a => by (try simp only [pca, pcc, pcn, Nat.add_zero, Nat.zero_add]); first | done | ac_rfl)
 have e6 := e4.perm e5
 refine L_mv (.slice be bf bg) rfl ?_
 refine L_call go8 [.slice be bf bg] rfl ((F53.calls hz e6.ok aB be bf bg (d7.st e6.st) _ H).mono ?_)
 rintro _ h3 ⟨r6, b4, e7, e8, cw, o9, rfl, H, d8, h4, e9, h5, h6⟩
 have el := e6.owns d8 h4 e9
 have em : (((bk b4 :: (cw ++ [])) ++ (bk b3 :: bk b2 :: (cv ++ (cu ++ [])))) : Ob).Perm (bk b4 :: bk b3 :: bk b2 :: (cw ++ (cv ++ (cu ++ [])))) := (pc fun a => by (try simp only [pca, pcc, pcn, Nat.add_zero, Nat.zero_add]); first | done | ac_rfl)
 have fa := el.perm em
 have h7 := (el.spa ((e4.spa ((gw.spa hx gx).sos e3 gy) e5).sos d8 e9) em)
 have h8 := ((hy.k0 e3).k0 d8)
 have fb : ((bk b4 :: bk b3 :: bk b2 :: (cw ++ (cv ++ (cu ++ [])))) : Ob).Perm (bk b2 :: (cu ++ (bk b4 :: bk b3 :: (cw ++ (cv ++ []))))) := (pc fun a => by (try simp only [pca, pcc, pcn, Nat.add_zero, Nat.zero_add]); first | done | ac_rfl)
 obtain ⟨h9, gz, pa⟩ := Dp.gv (L := (bk b4 :: bk b3 :: bk b2 :: (cw ++ (cv ++ (cu ++ []))))) (O := O) (v := .slice b2 ey ez) h7 h8 fa fb
 have ia := (fa.odr (rs := bk b2 :: cu) (el.spa ((e4.spa h1 e5).sos d8 e9) em) fb 1 rfl)
 have ib := (h2.k0 d8)
 have g1 : ((bk b4 :: bk b3 :: (cw ++ (cv ++ []))) : Ob).Perm (bk b3 :: (cv ++ (bk b4 :: (cw ++ [])))) := (pc fun a => by (try simp only [pca, pcc, pcn, Nat.add_zero, Nat.zero_add]); first | done | ac_rfl)
 obtain ⟨ic, id, ie⟩ := Dp.gv (L := (bk b4 :: bk b3 :: (cw ++ (cv ++ [])))) (O := O) (v := .slice b3 e1 e2) ia ib gz g1
 have ig := (gz.odr (rs := bk b3 :: cv) (fa.odr (rs := bk b2 :: cu) (el.spa h5 em) fb 0 rfl) g1 0 rfl)
 have ih := h6
 have ii : ((bk b4 :: (cw ++ [])) : Ob).Perm (bk b4 :: (cw ++ [])) := (pc fun a => by (try simp only [pca, pcc, pcn, Nat.add_zero, Nat.zero_add]); first | done | ac_rfl)
 obtain ⟨ij, g2, g3⟩ := Dp.gv (L := (bk b4 :: (cw ++ []))) (O := O) (v := .slice b4 e7 e8) ig ih id ii
 have ik := ((h9.st ie).st g3)
 refine L_call go16 [.slice b2 ey ez, .slice b3 e1 e2, .slice b4 e7 e8] rfl ((F31.calls h3 g2.ok r4 b2 ey ez ik r5 b3 e1 e2 (ic.st g3) r6 b4 e7 e8 ij _ H).mono ?_)
 rintro _ il ⟨r7, r8, r9, aa, bq, br, ab, bs, bt, rfl, H, im, io, ip, fc, fd⟩
 have fe := g2.owns im io ip
 refine L_mv (.tuple #[.slice aa bq br, .slice ab bs bt, vb r9]) rfl (L_pu (P_ext [.slice aa bq br, .slice ab bs bt, vb r9] 0 (.slice aa bq br) rfl rfl) (L_pu (P_ext [.slice aa bq br, .slice ab bs bt, vb r9] 1 (.slice ab bs bt) rfl rfl) (L_pu (P_ext [.slice aa bq br, .slice ab bs bt, vb r9] 2 (vb r9) rfl rfl) (L_as (.slice aa bq br) rfl (L_as (.slice ab bs bt) rfl (L_as (vb r9) rfl (L_nil (W_seq ?_))))))))
 refine W_reg (L_mv (.slice A1 n2 c3) rfl ?_)
 refine L_call go8 [.slice A1 n2 c3] rfl ((F53.calls il fe.ok aBase A1 n2 c3 (hp4.st fe.st) _ H).mono ?_)
 rintro _ iq ⟨r10, af, cm, cn, ai, ir, rfl, H, di, it, dk, ff, fg⟩
 have c1 := fe.owns di it dk
 have c2 : (((bk af :: (ai ++ [])) ++ [bk aa, bk ab]) : Ob).Perm (bk af :: bk aa :: bk ab :: (ai ++ [])) := (pc fun a => by (try simp only [pca, pcc, pcn, Nat.add_zero, Nat.zero_add]); first | done | ac_rfl)
 have fh := c1.perm c2
 refine L_as (.slice af cm cn) rfl (L_nil (W_seq (W_reg (L_mv (.slice A6 n7 c8) rfl ?_))))
 refine L_call go8 [.slice A6 n7 c8] rfl ((F53.calls iq fh.ok aA A6 n7 c8 (hp9.st fh.st) _ H).mono ?_)
 rintro _ iu ⟨r11, ag, co, cp, aj, iv, rfl, H, b9, iw, c4, fi, fj⟩
 have ca := fh.owns b9 iw c4
 have cb : (((bk ag :: (aj ++ [])) ++ (bk af :: bk aa :: bk ab :: (ai ++ []))) : Ob).Perm (bk ag :: bk af :: bk aa :: bk ab :: (aj ++ (ai ++ []))) := (pc fun a => by (try simp only [pca, pcc, pcn, Nat.add_zero, Nat.zero_add]); first | done | ac_rfl)
 have fk := ca.perm cb
 refine L_as (.slice ag co cp) rfl (L_nil (W_seq (W_reg (L_mv (.slice be bf bg) rfl ?_))))
 refine L_call go8 [.slice be bf bg] rfl ((F53.calls iu fk.ok aB be bf bg (d7.st fk.st) _ H).mono ?_)
 rintro _ ix ⟨r12, ah, cq, cr, ak, iy, rfl, H, a6, iz, cc, fl, fm⟩
 have bl := fk.owns a6 iz cc
 have bm : (((bk ah :: (ak ++ [])) ++ (bk ag :: bk af :: bk aa :: bk ab :: (aj ++ (ai ++ [])))) : Ob).Perm (bk ah :: bk ag :: bk af :: bk aa :: bk ab :: (ak ++ (aj ++ (ai ++ [])))) := (pc fun a => by (try simp only [pca, pcc, pcn, Nat.add_zero, Nat.zero_add]); first | done | ac_rfl)
 have d9 := bl.perm bm
 refine L_as (.slice ah cq cr) rfl (L_nil (W_seq (W_reg (L_mv (.slice af cm cn) rfl (L_mv (.slice ag co cp) rfl (L_mv (.slice ah cq cr) rfl ?_))))))
 have i0 := (bl.spa ((ca.spa ((c1.spa ff c2).sos b9 c4) cb).sos a6 cc) bm)
 have i1 := ((fg.k0 b9).k0 a6)
 have fn : ((bk ah :: bk ag :: bk af :: bk aa :: bk ab :: (ak ++ (aj ++ (ai ++ [])))) : Ob).Perm (bk af :: (ai ++ (bk ah :: bk ag :: bk aa :: bk ab :: (ak ++ (aj ++ []))))) := (pc fun a => by (try simp only [pca, pcc, pcn, Nat.add_zero, Nat.zero_add]); first | done | ac_rfl)
 obtain ⟨i2, g4, pb⟩ := Dp.gv (L := (bk ah :: bk ag :: bk af :: bk aa :: bk ab :: (ak ++ (aj ++ (ai ++ []))))) (O := O) (v := .slice af cm cn) i0 i1 d9 fn
 have i3 := (d9.odr (rs := bk af :: ai) (bl.spa ((ca.spa fi cb).sos a6 cc) bm) fn 1 rfl)
 have i4 := (fj.k0 a6)
 have g5 : ((bk ah :: bk ag :: bk aa :: bk ab :: (ak ++ (aj ++ []))) : Ob).Perm (bk ag :: (aj ++ (bk ah :: bk aa :: bk ab :: (ak ++ [])))) := (pc fun a => by (try simp only [pca, pcc, pcn, Nat.add_zero, Nat.zero_add]); first | done | ac_rfl)
 obtain ⟨i5, i6, i7⟩ := Dp.gv (L := (bk ah :: bk ag :: bk aa :: bk ab :: (ak ++ (aj ++ [])))) (O := O) (v := .slice ag co cp) i3 i4 g4 g5
 have i8 := (g4.odr (rs := bk ag :: aj) (d9.odr (rs := bk af :: ai) (bl.spa fl bm) fn 0 rfl) g5 0 rfl)
 have i9 := fm
 have ja : ((bk ah :: bk aa :: bk ab :: (ak ++ [])) : Ob).Perm (bk ah :: (ak ++ [bk aa, bk ab])) := (pc fun a => by (try simp only [pca, pcc, pcn, Nat.add_zero, Nat.zero_add]); first | done | ac_rfl)
 obtain ⟨jb, jc, g6⟩ := Dp.gv (L := (bk ah :: bk aa :: bk ab :: (ak ++ []))) (O := O) (v := .slice ah cq cr) i8 i9 i6 ja
 have jd := ((i2.st i7).st g6)
 refine L_call go17 [.slice af cm cn, .slice ag co cp, .slice ah cq cr] rfl ((F33.calls ix jc.ok r10 af cm cn jd r11 ag co cp (i5.st g6) r12 ah cq cr jb _ H).mono ?_)
 rintro _ je ⟨r13, r14, r15, ac, ao, ap, ae, jf, ad, ay, az, rfl, H, a5, jg, b5, jh, fo, ji⟩
 have jj := Ok.unl (L := (bk ah :: bk ag :: bk af :: bk aa :: bk ab :: (ak ++ (aj ++ (ai ++ []))))) (L' := [bk aa, bk ab]) (O := O) d9 a5 jg b5
 have fp := Ow.unl (L := (bk ah :: bk ag :: bk af :: bk aa :: bk ab :: (ak ++ (aj ++ (ai ++ []))))) (L' := [bk aa, bk ab]) (O := O) (fun _ _ _ _ _ _ h => h) (.cons _ (.cons _ (.cons _ (.cons_cons _ (.cons_cons _ ((List.sublist_append_of_sublist_right (List.sublist_append_of_sublist_right (List.sublist_append_of_sublist_right (.refl _)))))))))) jh
 have fq := Ow.unl (L := (bk ah :: bk ag :: bk af :: bk aa :: bk ab :: (ak ++ (aj ++ (ai ++ []))))) (L' := [bk aa, bk ab]) (O := O) (fun _ _ _ _ _ _ h => h) (.cons _ (.cons _ (.cons _ (.cons_cons _ (.cons_cons _ ((List.sublist_append_of_sublist_right (List.sublist_append_of_sublist_right (List.sublist_append_of_sublist_right (.refl _)))))))))) ji
 have a7 := d9.owns a5 jj b5
 have a8 : (((bk ac :: bk ad :: (ae ++ [])) ++ (bk ah :: bk ag :: bk af :: bk aa :: bk ab :: (ak ++ (aj ++ (ai ++ []))))) : Ob).Perm (bk ac :: bk ad :: bk ah :: bk ag :: bk af :: bk aa :: bk ab :: (ae ++ (ak ++ (aj ++ (ai ++ []))))) := (pc fun a => by (try simp only [pca, pcc, pcn, Nat.add_zero, Nat.zero_add]); first | done | ac_rfl)
 have fr := a7.perm a8
 refine L_mv (.tuple #[.slice ac ao ap, .slice ad ay az, vb r15]) rfl (L_pu (P_ext [.slice ac ao ap, .slice ad ay az, vb r15] 0 (.slice ac ao ap) rfl rfl) (L_pu (P_ext [.slice ac ao ap, .slice ad ay az, vb r15] 1 (.slice ad ay az) rfl rfl) (L_pu (P_ext [.slice ac ao ap, .slice ad ay az, vb r15] 2 (vb r15) rfl rfl) (L_as (.slice ac ao ap) rfl (L_as (.slice ad ay az) rfl (L_as (vb r15) rfl (L_nil (W_seq ?_))))))))
 refine W_seq (W_reg (L_mv (.slice ac ao ap) rfl (L_mv (.slice aa bq br) rfl ?_)))
 have jk := (a7.spa fp a8)
 have jl := fo
 have g7 : ((bk ac :: bk ad :: bk ah :: bk ag :: bk af :: bk aa :: bk ab :: (ae ++ (ak ++ (aj ++ (ai ++ []))))) : Ob).Perm (bk ac :: (ae ++ (bk ad :: bk ah :: bk ag :: bk af :: bk aa :: bk ab :: (ak ++ (aj ++ (ai ++ [])))))) := (pc fun a => by (try simp only [pca, pcc, pcn, Nat.add_zero, Nat.zero_add]); first | done | ac_rfl)
 obtain ⟨jm, fs, pd⟩ := Dp.gv (L := (bk ac :: bk ad :: bk ah :: bk ag :: bk af :: bk aa :: bk ab :: (ae ++ (ak ++ (aj ++ (ai ++ [])))))) (O := O) (v := .slice ac ao ap) jk jl fr g7
 have jn := (fr.odr (rs := bk ac :: ae) (a7.spa ((bl.spa ((ca.spa ((c1.spa (fc.sos di dk) c2).sos b9 c4) cb).sos a6 cc) bm).sos a5 b5) a8) g7 4 rfl)
 have jo := fs.gv jn 4 rfl
 have jp := fs.drop 4 rfl
 have jq := fs.std 4 rfl
 refine L_call go11 [.slice ac ao ap, .slice aa bq br] rfl ((F59.calls je jp.ok r13 ac ao ap (jm.st jq) r7 aa bq br jo _ H).mono ?_)
 rintro _ jr ⟨r16, rfl, H, aq⟩
 have ea := fr.k0 aq
 refine L_pu (P_not r16 rfl) (L_mv (vb (!r16)) rfl ?_)
 rcases bool_or (!r16) with cd | cd
 ·have H := ite_t H cd
  refine L_pb cd rfl (L_pb cd rfl (L_pb cd rfl (L_pb cd rfl (L_pu (P_pick true (vb true) (by exact congrArg Value.bool cd) rfl) (L_mv (vb true) rfl (L_pass (dj := 73) rfl rfl (.inl rfl) (L_pass (dj := 73) rfl rfl (.inl rfl) (L_pass (dj := 73) rfl rfl (.inl rfl) ?_))))))))
  refine L_pu (P_pick true (vb true) (by exact congrArg Value.bool rfl) rfl) (L_nil (W_ct (b := true) rfl rfl ?_))
  refine W_seq ?_
  have js : ((bk ac :: bk ad :: bk ah :: bk ag :: bk af :: bk aa :: bk ab :: (ae ++ (ak ++ (aj ++ (ai ++ []))))) : Ob).Perm ((bk ac :: bk ad :: bk ah :: bk ag :: bk af :: bk aa :: bk ab :: (ae ++ (ak ++ (aj ++ (ai ++ []))))) ++ []) := (pc fun a => by (try simp only [pca, pcc, pcn, Nat.add_zero, Nat.zero_add]); first | done | ac_rfl)
  have jt := ea.drops js
  exact W_reg (L_as (vb false) rfl (L_nil (W_ret ⟨[vb false], ⟨_, rfl, rfl⟩, false, rfl, H, jt.gr.g0⟩)))
 have H := ite_f H cd
 refine L_rb cd rfl (L_mv (.slice ad ay az) rfl (L_rb cd rfl (L_mv (.slice ab bs bt) rfl (L_rb cd rfl ?_))))
 have ju := ((a7.spa fq a8).sn aq)
 have jv := ea.gv ju 1 rfl
 have ft := ea.drop 1 rfl
 have jw := (ea.sd ((a7.spa ((bl.spa ((ca.spa ((c1.spa (fd.sos di dk) c2).sos b9 c4) cb).sos a6 cc) bm).sos a5 b5) a8).sn aq) 6 1 rfl rfl rfl)
 have jx := ft.gv jw 5 rfl
 have jy := ft.drop 5 rfl
 have jz := ft.std 5 rfl
 refine L_call go18 [.slice ad ay az, .slice ab bs bt] rfl ((F49.calls jr jy.ok r14 ad ay az (jv.st jz) r8 ab bs bt jx _ H).mono ?_)
 rintro _ j0 ⟨r17, rfl, H, av⟩
 have eb := ea.k0 av
 refine L_rb cd rfl (L_pu (P_not r17 rfl) (L_pu (P_pick false (vb (!r17)) (by exact congrArg Value.bool cd) rfl) (L_mv (vb (!r17)) rfl ?_)))
 rcases bool_or (!r17) with cx | cx
 ·have H := ite_t H cx
  refine L_pb cx rfl (L_pb cx rfl (L_pb cx rfl (L_pu (P_pick true (vb true) (by exact congrArg Value.bool cx) rfl) (L_nil (W_ct (b := true) rfl rfl ?_)))))
  refine W_seq ?_
  have j1 : ((bk ac :: bk ad :: bk ah :: bk ag :: bk af :: bk aa :: bk ab :: (ae ++ (ak ++ (aj ++ (ai ++ []))))) : Ob).Perm ((bk ac :: bk ad :: bk ah :: bk ag :: bk af :: bk aa :: bk ab :: (ae ++ (ak ++ (aj ++ (ai ++ []))))) ++ []) := (pc fun a => by (try simp only [pca, pcc, pcn, Nat.add_zero, Nat.zero_add]); first | done | ac_rfl)
  have j2 := eb.drops j1
  exact W_reg (L_as (vb false) rfl (L_nil (W_ret ⟨[vb false], ⟨_, rfl, rfl⟩, false, rfl, H, j2.gr.g0⟩)))
 have H := ite_f H cx
 refine L_rb cx rfl (L_mv (vb r15) rfl (L_rb cx rfl (L_mv (vb r9) rfl (L_rb cx rfl (L_pu (P_bcmp Tryz.underlying4 r15 r9 (r15 != r9) rfl rfl rfl) (L_pu (P_pick false (vb (r15 != r9)) (by exact congrArg Value.bool cx) rfl) (L_nil ?_)))))))
 refine W_cond (r15 != r9) rfl (fun en => ?_) (fun en => ?_)
 ·have H := ite_t H en
  refine W_seq ?_
  have j3 : ((bk ac :: bk ad :: bk ah :: bk ag :: bk af :: bk aa :: bk ab :: (ae ++ (ak ++ (aj ++ (ai ++ []))))) : Ob).Perm ((bk ac :: bk ad :: bk ah :: bk ag :: bk af :: bk aa :: bk ab :: (ae ++ (ak ++ (aj ++ (ai ++ []))))) ++ []) := (pc fun a => by (try simp only [pca, pcc, pcn, Nat.add_zero, Nat.zero_add]); first | done | ac_rfl)
  have j4 := eb.drops j3
  exact W_reg (L_as (vb false) rfl (L_nil (W_ret ⟨[vb false], ⟨_, rfl, rfl⟩, false, rfl, H, j4.gr.g0⟩)))
 have H := ite_f H en
 refine W_skip (W_seq (W_seq (W_reg (L_mv (.slice af cm cn) rfl (L_mv (.slice A1 n2 c3) rfl ?_)))))
 refine L_call go8 [.slice A1 n2 c3] rfl ((F53.calls j0 eb.ok aBase A1 n2 c3 (hp4.st eb.st) _ H).mono ?_)
 rintro _ j5 ⟨r18, al, fu, fv, am, pe, rfl, H, aw, j6, bu, j7, j8⟩
 have bn := eb.owns aw j6 bu
 have bo : (((bk al :: (am ++ [])) ++ (bk ac :: bk ad :: bk ah :: bk ag :: bk af :: bk aa :: bk ab :: (ae ++ (ak ++ (aj ++ (ai ++ [])))))) : Ob).Perm (bk al :: bk ac :: bk ad :: bk ah :: bk ag :: bk af :: bk aa :: bk ab :: (am ++ (ae ++ (ak ++ (aj ++ (ai ++ [])))))) := (pc fun a => by (try simp only [pca, pcc, pcn, Nat.add_zero, Nat.zero_add]); first | done | ac_rfl)
 have fw := bn.perm bo
 have j9 := (bn.spa ((((a7.spa ((bl.spa ((ca.spa ((c1.spa ff c2).sos b9 c4) cb).sos a6 cc) bm).sos a5 b5) a8).sn aq).sn av).sos aw bu) bo)
 have ka := ((((((fg.k0 b9).k0 a6).k0 a5).k0 aq).k0 av).k0 aw)
 have g8 : ((bk al :: bk ac :: bk ad :: bk ah :: bk ag :: bk af :: bk aa :: bk ab :: (am ++ (ae ++ (ak ++ (aj ++ (ai ++ [])))))) : Ob).Perm (bk af :: (ai ++ (bk al :: bk ac :: bk ad :: bk ah :: bk ag :: bk aa :: bk ab :: (am ++ (ae ++ (ak ++ (aj ++ []))))))) := (pc fun a => by (try simp only [pca, pcc, pcn, Nat.add_zero, Nat.zero_add]); first | done | ac_rfl)
 obtain ⟨kb, kc, pf⟩ := Dp.gv (L := (bk al :: bk ac :: bk ad :: bk ah :: bk ag :: bk af :: bk aa :: bk ab :: (am ++ (ae ++ (ak ++ (aj ++ (ai ++ []))))))) (O := O) (v := .slice af cm cn) j9 ka fw g8
 have kd := (fw.odr (rs := bk af :: ai) (bn.spa j7 bo) g8 0 rfl)
 have ke := j8
 have kf : ((bk al :: bk ac :: bk ad :: bk ah :: bk ag :: bk aa :: bk ab :: (am ++ (ae ++ (ak ++ (aj ++ []))))) : Ob).Perm (bk al :: (am ++ (bk ac :: bk ad :: bk ah :: bk ag :: bk aa :: bk ab :: (ae ++ (ak ++ (aj ++ [])))))) := (pc fun a => by (try simp only [pca, pcc, pcn, Nat.add_zero, Nat.zero_add]); first | done | ac_rfl)
 obtain ⟨kg, kh, ki⟩ := Dp.gv (L := (bk al :: bk ac :: bk ad :: bk ah :: bk ag :: bk aa :: bk ab :: (am ++ (ae ++ (ak ++ (aj ++ [])))))) (O := O) (v := .slice al fu fv) kd ke kc kf
 refine L_call go11 [.slice af cm cn, .slice al fu fv] rfl ((F59.calls j5 kh.ok r10 af cm cn (kb.st ki) r18 al fu fv kg _ H).mono ?_)
 rintro _ kj ⟨r19, rfl, H, a0⟩
 have eo := fw.k0 a0
 refine L_pu (P_not r19 rfl) (L_nil ?_)
 refine W_cond (!r19) rfl (fun fx => ?_) (fun fx => ?_)
 ·have H := ite_t H fx
  refine W_seq ?_
  have kk : ((bk al :: bk ac :: bk ad :: bk ah :: bk ag :: bk af :: bk aa :: bk ab :: (am ++ (ae ++ (ak ++ (aj ++ (ai ++ [])))))) : Ob).Perm ((bk al :: bk ac :: bk ad :: bk ah :: bk ag :: bk af :: bk aa :: bk ab :: (am ++ (ae ++ (ak ++ (aj ++ (ai ++ [])))))) ++ []) := (pc fun a => by (try simp only [pca, pcc, pcn, Nat.add_zero, Nat.zero_add]); first | done | ac_rfl)
  have kl := eo.drops kk
  exact W_reg (L_as (vb false) rfl (L_nil (W_ret ⟨[vb false], ⟨_, rfl, rfl⟩, false, rfl, H, kl.gr.g0⟩)))
 have H := ite_f H fx
 refine W_skip (W_seq (W_seq (W_reg (L_mv (.slice ag co cp) rfl (L_mv (.slice A6 n7 c8) rfl ?_)))))
 refine L_call go8 [.slice A6 n7 c8] rfl ((F53.calls kj eo.ok aA A6 n7 c8 (hp9.st eo.st) _ H).mono ?_)
 rintro _ km ⟨r20, ar, fy, fz, ax, pg, rfl, H, a1, kn, b6, ko, kp⟩
 have bv := eo.owns a1 kn b6
 have bw : (((bk ar :: (ax ++ [])) ++ (bk al :: bk ac :: bk ad :: bk ah :: bk ag :: bk af :: bk aa :: bk ab :: (am ++ (ae ++ (ak ++ (aj ++ (ai ++ []))))))) : Ob).Perm (bk ar :: bk al :: bk ac :: bk ad :: bk ah :: bk ag :: bk af :: bk aa :: bk ab :: (ax ++ (am ++ (ae ++ (ak ++ (aj ++ (ai ++ []))))))) := (pc fun a => by (try simp only [pca, pcc, pcn, Nat.add_zero, Nat.zero_add]); first | done | ac_rfl)
 have f0 := bv.perm bw
 have kq := (bv.spa (((bn.spa ((((a7.spa ((bl.spa ((ca.spa fi cb).sos a6 cc) bm).sos a5 b5) a8).sn aq).sn av).sos aw bu) bo).sn a0).sos a1 b6) bw)
 have kr := (((((((fj.k0 a6).k0 a5).k0 aq).k0 av).k0 aw).k0 a0).k0 a1)
 have g9 : ((bk ar :: bk al :: bk ac :: bk ad :: bk ah :: bk ag :: bk af :: bk aa :: bk ab :: (ax ++ (am ++ (ae ++ (ak ++ (aj ++ (ai ++ []))))))) : Ob).Perm (bk ag :: (aj ++ (bk ar :: bk al :: bk ac :: bk ad :: bk ah :: bk af :: bk aa :: bk ab :: (ax ++ (am ++ (ae ++ (ak ++ (ai ++ [])))))))) := (pc fun a => by (try simp only [pca, pcc, pcn, Nat.add_zero, Nat.zero_add]); first | done | ac_rfl)
 obtain ⟨ks, kt, ph⟩ := Dp.gv (L := (bk ar :: bk al :: bk ac :: bk ad :: bk ah :: bk ag :: bk af :: bk aa :: bk ab :: (ax ++ (am ++ (ae ++ (ak ++ (aj ++ (ai ++ [])))))))) (O := O) (v := .slice ag co cp) kq kr f0 g9
 have ku := (f0.odr (rs := bk ag :: aj) (bv.spa ko bw) g9 0 rfl)
 have kv := kp
 have kx : ((bk ar :: bk al :: bk ac :: bk ad :: bk ah :: bk af :: bk aa :: bk ab :: (ax ++ (am ++ (ae ++ (ak ++ (ai ++ [])))))) : Ob).Perm (bk ar :: (ax ++ (bk al :: bk ac :: bk ad :: bk ah :: bk af :: bk aa :: bk ab :: (am ++ (ae ++ (ak ++ (ai ++ []))))))) := (pc fun a => by (try simp only [pca, pcc, pcn, Nat.add_zero, Nat.zero_add]); first | done | ac_rfl)
 obtain ⟨ky, kz, k1⟩ := Dp.gv (L := (bk ar :: bk al :: bk ac :: bk ad :: bk ah :: bk af :: bk aa :: bk ab :: (ax ++ (am ++ (ae ++ (ak ++ (ai ++ []))))))) (O := O) (v := .slice ar fy fz) ku kv kt kx
 refine L_call go11 [.slice ag co cp, .slice ar fy fz] rfl ((F59.calls km kz.ok r11 ag co cp (ks.st k1) r20 ar fy fz ky _ H).mono ?_)
 rintro _ k2 ⟨r21, rfl, H, a9⟩
 have ep := f0.k0 a9
 refine L_pu (P_not r21 rfl) (L_nil ?_)
 refine W_cond (!r21) rfl (fun f1 => ?_) (fun f1 => ?_)
 ·have H := ite_t H f1
  refine W_seq ?_
  have k3 : ((bk ar :: bk al :: bk ac :: bk ad :: bk ah :: bk ag :: bk af :: bk aa :: bk ab :: (ax ++ (am ++ (ae ++ (ak ++ (aj ++ (ai ++ []))))))) : Ob).Perm ((bk ar :: bk al :: bk ac :: bk ad :: bk ah :: bk ag :: bk af :: bk aa :: bk ab :: (ax ++ (am ++ (ae ++ (ak ++ (aj ++ (ai ++ []))))))) ++ []) := (pc fun a => by (try simp only [pca, pcc, pcn, Nat.add_zero, Nat.zero_add]); first | done | ac_rfl)
  have k4 := ep.drops k3
  exact W_reg (L_as (vb false) rfl (L_nil (W_ret ⟨[vb false], ⟨_, rfl, rfl⟩, false, rfl, H, k4.gr.g0⟩)))
 have H := ite_f H f1
 refine W_skip (W_seq (W_seq (W_reg (L_mv (.slice ah cq cr) rfl (L_mv (.slice be bf bg) rfl ?_)))))
 refine L_call go8 [.slice be bf bg] rfl ((F53.calls k2 ep.ok aB be bf bg (d7.st ep.st) _ H).mono ?_)
 rintro _ k5 ⟨r22, bx, f2, f3, cs, pi, rfl, H, ba, k6, ce, k7, k8⟩
 have b7 := ep.owns ba k6 ce
 have b8 : (((bk bx :: (cs ++ [])) ++ (bk ar :: bk al :: bk ac :: bk ad :: bk ah :: bk ag :: bk af :: bk aa :: bk ab :: (ax ++ (am ++ (ae ++ (ak ++ (aj ++ (ai ++ [])))))))) : Ob).Perm (bk bx :: bk ar :: bk al :: bk ac :: bk ad :: bk ah :: bk ag :: bk af :: bk aa :: bk ab :: (cs ++ (ax ++ (am ++ (ae ++ (ak ++ (aj ++ (ai ++ [])))))))) := (pc fun a => by (try simp only [pca, pcc, pcn, Nat.add_zero, Nat.zero_add]); first | done | ac_rfl)
 have f4 := b7.perm b8
 have k9 := (b7.spa (((bv.spa (((bn.spa ((((a7.spa ((bl.spa fl bm).sos a5 b5) a8).sn aq).sn av).sos aw bu) bo).sn a0).sos a1 b6) bw).sn a9).sos ba ce) b8)
 have la := ((((((((fm.k0 a5).k0 aq).k0 av).k0 aw).k0 a0).k0 a1).k0 a9).k0 ba)
 have ha : ((bk bx :: bk ar :: bk al :: bk ac :: bk ad :: bk ah :: bk ag :: bk af :: bk aa :: bk ab :: (cs ++ (ax ++ (am ++ (ae ++ (ak ++ (aj ++ (ai ++ [])))))))) : Ob).Perm (bk ah :: (ak ++ (bk bx :: bk ar :: bk al :: bk ac :: bk ad :: bk ag :: bk af :: bk aa :: bk ab :: (cs ++ (ax ++ (am ++ (ae ++ (aj ++ (ai ++ []))))))))) := (pc fun a => by (try simp only [pca, pcc, pcn, Nat.add_zero, Nat.zero_add]); first | done | ac_rfl)
 obtain ⟨lb, lc, pj⟩ := Dp.gv (L := (bk bx :: bk ar :: bk al :: bk ac :: bk ad :: bk ah :: bk ag :: bk af :: bk aa :: bk ab :: (cs ++ (ax ++ (am ++ (ae ++ (ak ++ (aj ++ (ai ++ []))))))))) (O := O) (v := .slice ah cq cr) k9 la f4 ha
 have ld := (f4.odr (rs := bk ah :: ak) (b7.spa k7 b8) ha 0 rfl)
 have le := k8
 have lf : ((bk bx :: bk ar :: bk al :: bk ac :: bk ad :: bk ag :: bk af :: bk aa :: bk ab :: (cs ++ (ax ++ (am ++ (ae ++ (aj ++ (ai ++ []))))))) : Ob).Perm (bk bx :: (cs ++ (bk ar :: bk al :: bk ac :: bk ad :: bk ag :: bk af :: bk aa :: bk ab :: (ax ++ (am ++ (ae ++ (aj ++ (ai ++ [])))))))) := (pc fun a => by (try simp only [pca, pcc, pcn, Nat.add_zero, Nat.zero_add]); first | done | ac_rfl)
 obtain ⟨lg, lh, li⟩ := Dp.gv (L := (bk bx :: bk ar :: bk al :: bk ac :: bk ad :: bk ag :: bk af :: bk aa :: bk ab :: (cs ++ (ax ++ (am ++ (ae ++ (aj ++ (ai ++ [])))))))) (O := O) (v := .slice bx f2 f3) ld le lc lf
 refine L_call go11 [.slice ah cq cr, .slice bx f2 f3] rfl ((F59.calls k5 lh.ok r12 ah cq cr (lb.st li) r22 bx f2 f3 lg _ H).mono ?_)
 rintro _ lj ⟨r23, rfl, H, bh⟩
 have cf := f4.k0 bh
 refine L_pu (P_not r23 rfl) (L_nil ?_)
 refine W_cond (!r23) rfl (fun f5 => ?_) (fun f5 => ?_)
 ·have H := ite_t H f5
  refine W_seq ?_
  have lk : ((bk bx :: bk ar :: bk al :: bk ac :: bk ad :: bk ah :: bk ag :: bk af :: bk aa :: bk ab :: (cs ++ (ax ++ (am ++ (ae ++ (ak ++ (aj ++ (ai ++ [])))))))) : Ob).Perm ((bk bx :: bk ar :: bk al :: bk ac :: bk ad :: bk ah :: bk ag :: bk af :: bk aa :: bk ab :: (cs ++ (ax ++ (am ++ (ae ++ (ak ++ (aj ++ (ai ++ [])))))))) ++ []) := (pc fun a => by (try simp only [pca, pcc, pcn, Nat.add_zero, Nat.zero_add]); first | done | ac_rfl)
  have ll := cf.drops lk
  exact W_reg (L_as (vb false) rfl (L_nil (W_ret ⟨[vb false], ⟨_, rfl, rfl⟩, false, rfl, H, ll.gr.g0⟩)))
 have H := ite_f H f5
 refine W_skip (W_seq ?_)
 have ct : ((bk bx :: bk ar :: bk al :: bk ac :: bk ad :: bk ah :: bk ag :: bk af :: bk aa :: bk ab :: (cs ++ (ax ++ (am ++ (ae ++ (ak ++ (aj ++ (ai ++ [])))))))) : Ob).Perm ((bk bx :: bk ar :: bk al :: (cs ++ (ax ++ (am ++ [])))) ++ (bk ac :: bk ad :: bk ah :: bk ag :: bk af :: bk aa :: bk ab :: (ae ++ (ak ++ (aj ++ (ai ++ [])))))) := (pc fun a => by (try simp only [pca, pcc, pcn, Nat.add_zero, Nat.zero_add]); first | done | ac_rfl)
 have bi := cf.drops ct
 refine W_reg (L_as (vi 1) rfl (L_nil (W_seq (W_reg (L_mv (.slice af cm cn) rfl (L_mv (vi 1) rfl ?_))))))
 have lm := (cf.odr ((b7.spa (((bv.spa (((bn.spa ((((a7.spa ((bl.spa ((ca.spa ((c1.spa ff c2).sos b9 c4) cb).sos a6 cc) bm).sos a5 b5) a8).sn aq).sn av).sos aw bu) bo).sn a0).sos a1 b6) bw).sn a9).sos ba ce) b8).sn bh) ct 4 rfl)
 have ln := (((((((((((fg.k0 b9).k0 a6).k0 a5).k0 aq).k0 av).k0 aw).k0 a0).k0 a1).k0 a9).k0 ba).k0 bh)
 have bj : ((bk ac :: bk ad :: bk ah :: bk ag :: bk af :: bk aa :: bk ab :: (ae ++ (ak ++ (aj ++ (ai ++ []))))) : Ob).Perm ((bk af :: (ai ++ [])) ++ (bk ac :: bk ad :: bk ah :: bk ag :: bk aa :: bk ab :: (ae ++ (ak ++ (aj ++ []))))) := (pc fun a => by (try simp only [pca, pcc, pcn, Nat.add_zero, Nat.zero_add]); first | done | ac_rfl)
 refine L_call go13 [.slice af cm cn, vi 1] rfl ((F29.calls lj bi.ok r10 af cm cn ir ai lm ln (Dj.left (Dj.left (bi.perm bj).dj)) (fun b hb => List.mem_append_left _ (bj.mem_iff.2 (List.mem_append_left _ hb))) 1 _ H).mono ?_)
 rintro _ lo ⟨r24, m, pk, rfl, H, bz, pl, pm⟩
 have b0 := bi.dm bz (fun b hb => bj.mem_iff.2 (List.mem_append_left _ hb))
 refine L_as (vi r24) rfl (L_nil (W_seq (W_reg (L_mv (.slice ag co cp) rfl (L_mv (vi r24) rfl ?_)))))
 have lp := (bi.ogm (cf.odr ((b7.spa (((bv.spa (((bn.spa ((((a7.spa ((bl.spa ((ca.spa fi cb).sos a6 cc) bm).sos a5 b5) a8).sn aq).sn av).sos aw bu) bo).sn a0).sos a1 b6) bw).sn a9).sos ba ce) b8).sn bh) ct 3 rfl) bz bj 3 rfl)
 have lq := (bi.dgm ((((((((((fj.k0 a6).k0 a5).k0 aq).k0 av).k0 aw).k0 a0).k0 a1).k0 a9).k0 ba).k0 bh) bz bj fun b hb => (mcm (mcm (mcm (mcm (mcm (mcm (List.mem_append_right _ (List.mem_append_right _ (List.mem_append_left _ hb))))))))))
 have b1 : ((bk ac :: bk ad :: bk ah :: bk ag :: bk af :: bk aa :: bk ab :: (ae ++ (ak ++ (aj ++ (ai ++ []))))) : Ob).Perm ((bk ag :: (aj ++ [])) ++ (bk ac :: bk ad :: bk ah :: bk af :: bk aa :: bk ab :: (ae ++ (ak ++ (ai ++ []))))) := (pc fun a => by (try simp only [pca, pcc, pcn, Nat.add_zero, Nat.zero_add]); first | done | ac_rfl)
 refine L_call go13 [.slice ag co cp, vi r24] rfl ((F29.calls lo b0.ok r11 ag co cp iv aj lp lq (Dj.left (Dj.left (b0.perm b1).dj)) (fun b hb => List.mem_append_left _ (b1.mem_iff.2 (List.mem_append_left _ hb))) r24 _ H).mono ?_)
 rintro _ lr ⟨r25, m2, pn, rfl, H, cg, po, pp⟩
 have ch := b0.dm cg (fun b hb => b1.mem_iff.2 (List.mem_append_left _ hb))
 refine L_as (vi r25) rfl (L_nil (W_seq (W_reg (L_mv (.slice ah cq cr) rfl (L_mv (vi r25) rfl ?_)))))
 have ls := (b0.ogm (bi.ogm (cf.odr ((b7.spa (((bv.spa (((bn.spa ((((a7.spa ((bl.spa fl bm).sos a5 b5) a8).sn aq).sn av).sos aw bu) bo).sn a0).sos a1 b6) bw).sn a9).sos ba ce) b8).sn bh) ct 2 rfl) bz bj 2 rfl) cg b1 2 rfl)
 have lt := (b0.dgm (bi.dgm (((((((((fm.k0 a5).k0 aq).k0 av).k0 aw).k0 a0).k0 a1).k0 a9).k0 ba).k0 bh) bz bj fun b hb => (mcm (mcm (mcm (mcm (mcm (mcm (List.mem_append_right _ (List.mem_append_left _ hb))))))))) cg b1 fun b hb => (mcm (mcm (mcm (mcm (mcm (mcm (List.mem_append_right _ (List.mem_append_left _ hb)))))))))
 have ci : ((bk ac :: bk ad :: bk ah :: bk ag :: bk af :: bk aa :: bk ab :: (ae ++ (ak ++ (aj ++ (ai ++ []))))) : Ob).Perm ((bk ah :: (ak ++ [])) ++ (bk ac :: bk ad :: bk ag :: bk af :: bk aa :: bk ab :: (ae ++ (aj ++ (ai ++ []))))) := (pc fun a => by (try simp only [pca, pcc, pcn, Nat.add_zero, Nat.zero_add]); first | done | ac_rfl)
 refine L_call go13 [.slice ah cq cr, vi r25] rfl ((F29.calls lr ch.ok r12 ah cq cr iy ak ls lt (Dj.left (Dj.left (ch.perm ci).dj)) (fun b hb => List.mem_append_left _ (ci.mem_iff.2 (List.mem_append_left _ hb))) r25 _ H).mono ?_)
 rintro _ lu ⟨r26, m3, pq, rfl, H, cy, pr, ps⟩
 have c9 := ch.dm cy (fun b hb => ci.mem_iff.2 (List.mem_append_left _ hb))
 refine L_as (vi r26) rfl (L_nil (W_seq (W_seq ?_)))
 have da : ((bk ac :: bk ad :: bk ah :: bk ag :: bk af :: bk aa :: bk ab :: (ae ++ (ak ++ (aj ++ (ai ++ []))))) : Ob).Perm ((bk ah :: bk ag :: bk af :: (ak ++ (aj ++ (ai ++ [])))) ++ (bk ac :: bk ad :: bk aa :: bk ab :: (ae ++ []))) := (pc fun a => by (try simp only [pca, pcc, pcn, Nat.add_zero, Nat.zero_add]); first | done | ac_rfl)
 have eq := c9.drops da
 refine W_reg (L_mv (vi r26) rfl (L_pu (P_cmp r26 0 (decide (r26 < 0)) rfl rfl rfl) (L_mv (vb (decide (r26 < 0))) rfl ?_)))
 rcases bool_or (decide (r26 < 0)) with cj | cj
 ·have H := ite_t H cj
  refine L_pb cj rfl (L_pb cj rfl (L_pb cj rfl (L_pb cj rfl (L_pu (P_pick true (vb true) (by exact congrArg Value.bool cj) rfl) (L_mv (vb true) rfl (L_pass (dj := 110) rfl rfl (.inl rfl) (L_pass (dj := 110) rfl rfl (.inl rfl) (L_pass (dj := 110) rfl rfl (.inl rfl) ?_))))))))
  refine L_pass (dj := 110) rfl rfl (.inl rfl) (L_pu (P_pick true (vb true) (by exact congrArg Value.bool rfl) rfl) (L_mv (vb true) rfl (L_pass (dj := 116) rfl rfl (.inl rfl) (L_pass (dj := 116) rfl rfl (.inl rfl) (L_pass (dj := 116) rfl rfl (.inl rfl) (L_pu (P_pick true (vb true) (by exact congrArg Value.bool rfl) rfl) (L_nil (W_ct (b := true) rfl rfl ?_))))))))
  refine W_seq ?_
  have lv : ((bk ac :: bk ad :: bk aa :: bk ab :: (ae ++ [])) : Ob).Perm ((bk ac :: bk ad :: bk aa :: bk ab :: (ae ++ [])) ++ []) := (pc fun a => by (try simp only [pca, pcc, pcn, Nat.add_zero, Nat.zero_add]); first | done | ac_rfl)
  have lw := eq.drops lv
  exact W_reg (L_as (vb false) rfl (L_nil (W_ret ⟨[vb false], ⟨_, rfl, rfl⟩, false, rfl, H, lw.gr.g0⟩)))
 have H := ite_f H cj
 refine L_rb cj rfl (L_mv (.slice ac ao ap) rfl (L_rb cj rfl (L_mv (.slice aa bq br) rfl (L_rb cj rfl ?_))))
 have lx := (c9.odr (ch.ogm (b0.ogm (bi.ogm (cf.odr ((b7.spa (((bv.spa (((bn.spa ((((a7.spa fp a8).sn aq).sn av).sos aw bu) bo).sn a0).sos a1 b6) bw).sn a9).sos ba ce) b8).sn bh) ct 0 rfl) bz bj 0 rfl) cg b1 0 rfl) cy ci 0 rfl) da 0 rfl)
 have ly := (ch.dgm (b0.dgm (bi.dgm ((((((((fo.k0 aq).k0 av).k0 aw).k0 a0).k0 a1).k0 a9).k0 ba).k0 bh) bz bj fun b hb => (mcm (mcm (mcm (mcm (mcm (mcm (List.mem_append_left _ hb)))))))) cg b1 fun b hb => (mcm (mcm (mcm (mcm (mcm (mcm (List.mem_append_left _ hb)))))))) cy ci fun b hb => (mcm (mcm (mcm (mcm (mcm (mcm (List.mem_append_left _ hb))))))))
 have hc : ((bk ac :: bk ad :: bk aa :: bk ab :: (ae ++ [])) : Ob).Perm (bk ac :: (ae ++ [bk ad, bk aa, bk ab])) := (pc fun a => by (try simp only [pca, pcc, pcn, Nat.add_zero, Nat.zero_add]); first | done | ac_rfl)
 obtain ⟨lz, f6, pt⟩ := Dp.gv (L := (bk ac :: bk ad :: bk aa :: bk ab :: (ae ++ []))) (O := O) (v := .slice ac ao ap) lx ly eq hc
 have l0 := (eq.odr (rs := bk ac :: ae) (c9.odr (ch.ogm (b0.ogm (bi.ogm (cf.odr ((b7.spa (((bv.spa (((bn.spa ((((a7.spa ((bl.spa ((ca.spa ((c1.spa (fc.sos di dk) c2).sos b9 c4) cb).sos a6 cc) bm).sos a5 b5) a8).sn aq).sn av).sos aw bu) bo).sn a0).sos a1 b6) bw).sn a9).sos ba ce) b8).sn bh) ct 5 rfl) bz bj 4 rfl) cg b1 4 rfl) cy ci 4 rfl) da 2 rfl) hc 1 rfl)
 have l1 := f6.gv l0 1 rfl
 have l2 := f6.drop 1 rfl
 have l3 := f6.std 1 rfl
 refine L_call go11 [.slice ac ao ap, .slice aa bq br] rfl ((F59.calls lu l2.ok r13 ac ao ap (lz.st l3) r7 aa bq br l1 _ H).mono ?_)
 rintro _ l4 ⟨r27, rfl, H, dd⟩
 have ec := eq.k0 dd
 refine L_rb cj rfl (L_pu (P_not r27 rfl) (L_pu (P_pick false (vb (!r27)) (by exact congrArg Value.bool cj) rfl) (L_mv (vb (!r27)) rfl ?_)))
 rcases bool_or (!r27) with ck | ck
 ·have H := ite_t H ck
  refine L_pb ck rfl (L_pb ck rfl (L_pb ck rfl (L_pb ck rfl (L_pu (P_pick true (vb true) (by exact congrArg Value.bool ck) rfl) (L_mv (vb true) rfl (L_pass (dj := 116) rfl rfl (.inl rfl) (L_pass (dj := 116) rfl rfl (.inl rfl) (L_pass (dj := 116) rfl rfl (.inl rfl) ?_))))))))
  refine L_pu (P_pick true (vb true) (by exact congrArg Value.bool rfl) rfl) (L_nil (W_ct (b := true) rfl rfl ?_))
  refine W_seq ?_
  have l5 : ((bk ac :: bk ad :: bk aa :: bk ab :: (ae ++ [])) : Ob).Perm ((bk ac :: bk ad :: bk aa :: bk ab :: (ae ++ [])) ++ []) := (pc fun a => by (try simp only [pca, pcc, pcn, Nat.add_zero, Nat.zero_add]); first | done | ac_rfl)
  have l6 := ec.drops l5
  exact W_reg (L_as (vb false) rfl (L_nil (W_ret ⟨[vb false], ⟨_, rfl, rfl⟩, false, rfl, H, l6.gr.g0⟩)))
 have H := ite_f H ck
 refine L_rb ck rfl (L_mv (.slice ad ay az) rfl (L_rb ck rfl (L_mv (.slice ab bs bt) rfl (L_rb ck rfl ?_))))
 have l7 := ((c9.odr (ch.ogm (b0.ogm (bi.ogm (cf.odr ((b7.spa (((bv.spa (((bn.spa ((((a7.spa fq a8).sn aq).sn av).sos aw bu) bo).sn a0).sos a1 b6) bw).sn a9).sos ba ce) b8).sn bh) ct 1 rfl) bz bj 1 rfl) cg b1 1 rfl) cy ci 1 rfl) da 1 rfl).sn dd)
 have l8 := ec.gv l7 1 rfl
 have f7 := ec.drop 1 rfl
 have l9 := (ec.sd ((c9.odr (ch.ogm (b0.ogm (bi.ogm (cf.odr ((b7.spa (((bv.spa (((bn.spa ((((a7.spa ((bl.spa ((ca.spa ((c1.spa (fd.sos di dk) c2).sos b9 c4) cb).sos a6 cc) bm).sos a5 b5) a8).sn aq).sn av).sos aw bu) bo).sn a0).sos a1 b6) bw).sn a9).sos ba ce) b8).sn bh) ct 6 rfl) bz bj 5 rfl) cg b1 5 rfl) cy ci 5 rfl) da 3 rfl).sn dd) 3 1 rfl rfl rfl)
 have ma := f7.gv l9 2 rfl
 have mb := f7.drop 2 rfl
 have mc := f7.std 2 rfl
 refine L_call go18 [.slice ad ay az, .slice ab bs bt] rfl ((F49.calls l4 mb.ok r14 ad ay az (l8.st mc) r8 ab bs bt ma _ H).mono ?_)
 rintro _ md ⟨r28, rfl, H, dy⟩
 have dl := ec.k0 dy
 refine L_rb ck rfl (L_pu (P_not r28 rfl) (L_pu (P_pick false (vb (!r28)) (by exact congrArg Value.bool ck) rfl) (L_mv (vb (!r28)) rfl ?_)))
 rcases bool_or (!r28) with cz | cz
 ·have H := ite_t H cz
  refine L_pb cz rfl (L_pb cz rfl (L_pb cz rfl (L_pu (P_pick true (vb true) (by exact congrArg Value.bool cz) rfl) (L_nil (W_ct (b := true) rfl rfl ?_)))))
  refine W_seq ?_
  have me : ((bk ac :: bk ad :: bk aa :: bk ab :: (ae ++ [])) : Ob).Perm ((bk ac :: bk ad :: bk aa :: bk ab :: (ae ++ [])) ++ []) := (pc fun a => by (try simp only [pca, pcc, pcn, Nat.add_zero, Nat.zero_add]); first | done | ac_rfl)
  have mf := dl.drops me
  exact W_reg (L_as (vb false) rfl (L_nil (W_ret ⟨[vb false], ⟨_, rfl, rfl⟩, false, rfl, H, mf.gr.g0⟩)))
 have H := ite_f H cz
 refine L_rb cz rfl (L_mv (vb r15) rfl (L_rb cz rfl (L_mv (vb r9) rfl (L_rb cz rfl (L_pu (P_bcmp Tryz.underlying4 r15 r9 (r15 != r9) rfl rfl rfl) (L_pu (P_pick false (vb (r15 != r9)) (by exact congrArg Value.bool cz) rfl) (L_nil (W_cf (b := r15 != r9) rfl en ?_))))))))
 refine W_skip (W_seq (W_reg (L_as (vi 1) rfl (L_nil (W_seq (W_reg (L_mv (.slice ac ao ap) rfl (L_mv (vi 1) rfl ?_))))))))
 have mg := (((c9.odr (ch.ogm (b0.ogm (bi.ogm (cf.odr ((b7.spa (((bv.spa (((bn.spa ((((a7.spa fp a8).sn aq).sn av).sos aw bu) bo).sn a0).sos a1 b6) bw).sn a9).sos ba ce) b8).sn bh) ct 0 rfl) bz bj 0 rfl) cg b1 0 rfl) cy ci 0 rfl) da 0 rfl).sn dd).sn dy)
 have mh := (((ch.dgm (b0.dgm (bi.dgm ((((((((fo.k0 aq).k0 av).k0 aw).k0 a0).k0 a1).k0 a9).k0 ba).k0 bh) bz bj fun b hb => (mcm (mcm (mcm (mcm (mcm (mcm (List.mem_append_left _ hb)))))))) cg b1 fun b hb => (mcm (mcm (mcm (mcm (mcm (mcm (List.mem_append_left _ hb)))))))) cy ci fun b hb => (mcm (mcm (mcm (mcm (mcm (mcm (List.mem_append_left _ hb)))))))).k0 dd).k0 dy)
 have dz : ((bk ac :: bk ad :: bk aa :: bk ab :: (ae ++ [])) : Ob).Perm ((bk ac :: (ae ++ [])) ++ [bk ad, bk aa, bk ab]) := (pc fun a => by (try simp only [pca, pcc, pcn, Nat.add_zero, Nat.zero_add]); first | done | ac_rfl)
 refine L_call go13 [.slice ac ao ap, vi 1] rfl ((F29.calls md dl.ok r13 ac ao ap jf ae mg mh (Dj.left (Dj.left (dl.perm dz).dj)) (fun b hb => List.mem_append_left _ (dz.mem_iff.2 (List.mem_append_left _ hb))) 1 _ H).mono ?_)
 rintro _ mi ⟨r29, m4, pu, rfl, H, er, hd, he⟩
 have de := dl.dm er (fun b hb => dz.mem_iff.2 (List.mem_append_left _ hb))
 refine L_as (vi r29) rfl (L_nil (W_seq (W_reg (L_mv (.slice ad ay az) rfl (L_mv (vi r29) rfl ?_)))))
 have mj := (dl.ogm (((c9.odr (ch.ogm (b0.ogm (bi.ogm (cf.odr ((b7.spa (((bv.spa (((bn.spa ((((a7.spa fq a8).sn aq).sn av).sos aw bu) bo).sn a0).sos a1 b6) bw).sn a9).sos ba ce) b8).sn bh) ct 1 rfl) bz bj 1 rfl) cg b1 1 rfl) cy ci 1 rfl) da 1 rfl).sn dd).sn dy) er dz 0 rfl)
 refine L_call go19 [.slice ad ay az, vi r29] rfl ((F21.calls mi de.ok ad ay az r14 mj r29 _ H).mono ?_)
 rintro _ mk ⟨r30, m5, rfl, H, dn, hf⟩
 have hg := de.wr 1 rfl dn
 refine L_as (vi r30) rfl (L_nil (W_seq (W_reg (L_as (vi 1) rfl (L_nil (W_seq (W_reg (L_mv (.slice ac ao ap) rfl ?_))))))))
 refine L_mv (vi 1) rfl ?_
 have ml := (de.sw hd 0 1 rfl rfl rfl dn)
 have mm := (DArr.sm (L := (bk ac :: bk ad :: bk aa :: bk ab :: (ae ++ []))) (O := O) (i := 1) he de rfl (fun b hb => (mcm (mcm (List.mem_append_left _ hb)))) dn)
 have mn : ((bk ac :: bk ad :: bk aa :: bk ab :: (ae ++ [])) : Ob).Perm (bk ac :: (ae ++ [bk ad, bk aa, bk ab])) := (pc fun a => by (try simp only [pca, pcc, pcn, Nat.add_zero, Nat.zero_add]); first | done | ac_rfl)
 obtain ⟨mo, mp, pv⟩ := Dp.gv (L := (bk ac :: bk ad :: bk aa :: bk ab :: (ae ++ []))) (O := O) (v := .slice ac ao ap) ml mm hg mn
 refine L_call go15 [.slice ac ao ap, vi 1] rfl ((F30.calls mk mp.ok m4 ac ao ap mo 1 _ H).mono ?_)
 rintro _ mq ⟨r31, rfl, H, dp⟩
 have es := hg.k0 dp
 refine L_as (vi r31) rfl (L_nil (W_seq (W_seq (W_reg (L_mv (vi r31) rfl (L_pu (P_cmp r31 0 (decide (r31 < 0)) rfl rfl rfl) (L_nil ?_)))))))
 refine W_cond (decide (r31 < 0)) rfl (fun f8 => ?_) (fun f8 => ?_)
 ·have H := ite_t H f8
  refine W_seq ?_
  have mr : ((bk ac :: bk ad :: bk aa :: bk ab :: (ae ++ [])) : Ob).Perm ((bk ac :: bk ad :: bk aa :: bk ab :: (ae ++ [])) ++ []) := (pc fun a => by (try simp only [pca, pcc, pcn, Nat.add_zero, Nat.zero_add]); first | done | ac_rfl)
  have ms := es.drops mr
  exact W_reg (L_as (vb false) rfl (L_nil (W_ret ⟨[vb false], ⟨_, rfl, rfl⟩, false, rfl, H, ms.gr.g0⟩)))
 have H := ite_f H f8
 refine W_skip (W_seq (W_reg (L_mv (.slice ad ay az) rfl (L_mv (vi r31) rfl ?_))))
 have mt := (hf.sn dp)
 have mu := es.gv mt 1 rfl
 have mv := es.drop 1 rfl
 refine L_call go20 [.slice ad ay az, vi r31] rfl ((F22.calls mq mv.ok m5 ad ay az mu r31 _ H).mono ?_)
 rintro _ mw ⟨r32, rfl, H, d0⟩
 have ed := es.k0 d0
 refine L_as (vi r32) rfl (L_nil (W_seq (W_seq (W_reg (L_mv (vi r32) rfl (L_pu (P_cmp r32 0 (decide (r32 < 0)) rfl rfl rfl) (L_nil ?_)))))))
 refine W_cond (decide (r32 < 0)) rfl (fun f9 => ?_) (fun f9 => ?_)
 ·have H := ite_t H f9
  refine W_seq ?_
  have mx : ((bk ac :: bk ad :: bk aa :: bk ab :: (ae ++ [])) : Ob).Perm ((bk ac :: bk ad :: bk aa :: bk ab :: (ae ++ [])) ++ []) := (pc fun a => by (try simp only [pca, pcc, pcn, Nat.add_zero, Nat.zero_add]); first | done | ac_rfl)
  have my := ed.drops mx
  exact W_reg (L_as (vb false) rfl (L_nil (W_ret ⟨[vb false], ⟨_, rfl, rfl⟩, false, rfl, H, my.gr.g0⟩)))
 have H := ite_f H f9
 refine W_skip (W_seq (W_seq (W_reg (L_mv (vi r32) rfl (L_mv (vi r30) rfl (L_pu (P_cmp r32 r30 (r32 != r30) rfl rfl rfl) (L_nil ?_)))))))
 refine W_cond (r32 != r30) rfl (fun ga => ?_) (fun ga => ?_)
 ·have H := ite_t H ga
  refine W_seq ?_
  have mz : ((bk ac :: bk ad :: bk aa :: bk ab :: (ae ++ [])) : Ob).Perm ((bk ac :: bk ad :: bk aa :: bk ab :: (ae ++ [])) ++ []) := (pc fun a => by (try simp only [pca, pcc, pcn, Nat.add_zero, Nat.zero_add]); first | done | ac_rfl)
  have m0 := ed.drops mz
  exact W_reg (L_as (vb false) rfl (L_nil (W_ret ⟨[vb false], ⟨_, rfl, rfl⟩, false, rfl, H, m0.gr.g0⟩)))
 have H := ite_f H ga
 refine W_skip (W_seq (W_reg (L_mv (.slice A1 n2 c3) rfl ?_)))
 refine L_call go8 [.slice A1 n2 c3] rfl ((F53.calls mw ed.ok aBase A1 n2 c3 (hp4.st ed.st) _ H).mono ?_)
 rintro _ m1 ⟨r33, a2, gb, gc, bb, pw, rfl, H, d1, m6, ee, m7, m8⟩
 have d2 := ed.owns d1 m6 ee
 have d3 : (((bk a2 :: (bb ++ [])) ++ (bk ac :: bk ad :: bk aa :: bk ab :: (ae ++ []))) : Ob).Perm (bk a2 :: bk ac :: bk ad :: bk aa :: bk ab :: (bb ++ (ae ++ []))) := (pc fun a => by (try simp only [pca, pcc, pcn, Nat.add_zero, Nat.zero_add]); first | done | ac_rfl)
 have gd := d2.perm d3
 refine L_mv (.slice A6 n7 c8) rfl ?_
 refine L_call go8 [.slice A6 n7 c8] rfl ((F53.calls m1 gd.ok aA A6 n7 c8 (hp9.st gd.st) _ H).mono ?_)
 rintro _ m9 ⟨r34, a3, ge, gf, bc, px, rfl, H, df, na, d4, nb, nc⟩
 have dq := gd.owns df na d4
 have dr : (((bk a3 :: (bc ++ [])) ++ (bk a2 :: bk ac :: bk ad :: bk aa :: bk ab :: (bb ++ (ae ++ [])))) : Ob).Perm (bk a3 :: bk a2 :: bk ac :: bk ad :: bk aa :: bk ab :: (bc ++ (bb ++ (ae ++ [])))) := (pc fun a => by (try simp only [pca, pcc, pcn, Nat.add_zero, Nat.zero_add]); first | done | ac_rfl)
 have gg := dq.perm dr
 refine L_mv (.slice be bf bg) rfl ?_
 refine L_call go8 [.slice be bf bg] rfl ((F53.calls m9 gg.ok aB be bf bg (d7.st gg.st) _ H).mono ?_)
 rintro _ nd ⟨r35, a4, gh, gi, bd, py, rfl, H, c5, ne, ds, nf, ng⟩
 have dg := gg.owns c5 ne ds
 have dh : (((bk a4 :: (bd ++ [])) ++ (bk a3 :: bk a2 :: bk ac :: bk ad :: bk aa :: bk ab :: (bc ++ (bb ++ (ae ++ []))))) : Ob).Perm (bk a4 :: bk a3 :: bk a2 :: bk ac :: bk ad :: bk aa :: bk ab :: (bd ++ (bc ++ (bb ++ (ae ++ []))))) := (pc fun a => by (try simp only [pca, pcc, pcn, Nat.add_zero, Nat.zero_add]); first | done | ac_rfl)
 have ef := dg.perm dh
 have nh := (dg.spa ((dq.spa ((d2.spa m7 d3).sos df d4) dr).sos c5 ds) dh)
 have ni := ((m8.k0 df).k0 c5)
 have gj : ((bk a4 :: bk a3 :: bk a2 :: bk ac :: bk ad :: bk aa :: bk ab :: (bd ++ (bc ++ (bb ++ (ae ++ []))))) : Ob).Perm (bk a2 :: (bb ++ (bk a4 :: bk a3 :: bk ac :: bk ad :: bk aa :: bk ab :: (bd ++ (bc ++ (ae ++ [])))))) := (pc fun a => by (try simp only [pca, pcc, pcn, Nat.add_zero, Nat.zero_add]); first | done | ac_rfl)
 obtain ⟨nj, hh, pz⟩ := Dp.gv (L := (bk a4 :: bk a3 :: bk a2 :: bk ac :: bk ad :: bk aa :: bk ab :: (bd ++ (bc ++ (bb ++ (ae ++ [])))))) (O := O) (v := .slice a2 gb gc) nh ni ef gj
 have nk := (ef.odr (rs := bk a2 :: bb) (dg.spa ((dq.spa nb dr).sos c5 ds) dh) gj 1 rfl)
 have nl := (nc.k0 c5)
 have hi : ((bk a4 :: bk a3 :: bk ac :: bk ad :: bk aa :: bk ab :: (bd ++ (bc ++ (ae ++ [])))) : Ob).Perm (bk a3 :: (bc ++ (bk a4 :: bk ac :: bk ad :: bk aa :: bk ab :: (bd ++ (ae ++ []))))) := (pc fun a => by (try simp only [pca, pcc, pcn, Nat.add_zero, Nat.zero_add]); first | done | ac_rfl)
 obtain ⟨nm, nn, no⟩ := Dp.gv (L := (bk a4 :: bk a3 :: bk ac :: bk ad :: bk aa :: bk ab :: (bd ++ (bc ++ (ae ++ []))))) (O := O) (v := .slice a3 ge gf) nk nl hh hi
 have np := (hh.odr (rs := bk a3 :: bc) (ef.odr (rs := bk a2 :: bb) (dg.spa nf dh) gj 0 rfl) hi 0 rfl)
 have nq := ng
 have nr : ((bk a4 :: bk ac :: bk ad :: bk aa :: bk ab :: (bd ++ (ae ++ []))) : Ob).Perm (bk a4 :: (bd ++ (bk ac :: bk ad :: bk aa :: bk ab :: (ae ++ [])))) := (pc fun a => by (try simp only [pca, pcc, pcn, Nat.add_zero, Nat.zero_add]); first | done | ac_rfl)
 obtain ⟨ns, nt, hj⟩ := Dp.gv (L := (bk a4 :: bk ac :: bk ad :: bk aa :: bk ab :: (bd ++ (ae ++ [])))) (O := O) (v := .slice a4 gh gi) np nq nn nr
 have nu := ((nj.st no).st hj)
 refine L_call go17 [.slice a2 gb gc, .slice a3 ge gf, .slice a4 gh gi] rfl ((F33.calls nd nt.ok r33 a2 gb gc nu r34 a3 ge gf (nm.st hj) r35 a4 gh gi ns _ H).mono ?_)
 rintro _ nv ⟨r36, r37, r38, an, c6, c7, bp, p0, au, db, dc, rfl, H, dt, nw, d5, nx, ny, nz⟩
 have n0 := Ok.unl (L := (bk a4 :: bk a3 :: bk a2 :: bk ac :: bk ad :: bk aa :: bk ab :: (bd ++ (bc ++ (bb ++ (ae ++ [])))))) (L' := (bk ac :: bk ad :: bk aa :: bk ab :: (ae ++ []))) (O := O) ef dt nw d5
 have n1 := Ow.unl (L := (bk a4 :: bk a3 :: bk a2 :: bk ac :: bk ad :: bk aa :: bk ab :: (bd ++ (bc ++ (bb ++ (ae ++ [])))))) (L' := (bk ac :: bk ad :: bk aa :: bk ab :: (ae ++ []))) (O := O) (fun _ _ _ _ _ _ h => h) (.cons _ (.cons _ (.cons _ (.cons_cons _ (.cons_cons _ (.cons_cons _ (.cons_cons _ (List.sublist_append_of_sublist_right (List.sublist_append_of_sublist_right (List.sublist_append_of_sublist_right (.append (.refl _) (.refl _)))))))))))) nx
 have n3 := Ow.unl (L := (bk a4 :: bk a3 :: bk a2 :: bk ac :: bk ad :: bk aa :: bk ab :: (bd ++ (bc ++ (bb ++ (ae ++ [])))))) (L' := (bk ac :: bk ad :: bk aa :: bk ab :: (ae ++ []))) (O := O) (fun _ _ _ _ _ _ h => h) (.cons _ (.cons _ (.cons _ (.cons_cons _ (.cons_cons _ (.cons_cons _ (.cons_cons _ (List.sublist_append_of_sublist_right (List.sublist_append_of_sublist_right (List.sublist_append_of_sublist_right (.append (.refl _) (.refl _)))))))))))) nz
 have du := ef.owns dt n0 d5
 have dv : (((bk an :: bk au :: (bp ++ [])) ++ (bk a4 :: bk a3 :: bk a2 :: bk ac :: bk ad :: bk aa :: bk ab :: (bd ++ (bc ++ (bb ++ (ae ++ [])))))) : Ob).Perm (bk an :: bk au :: bk a4 :: bk a3 :: bk a2 :: bk ac :: bk ad :: bk aa :: bk ab :: (bp ++ (bd ++ (bc ++ (bb ++ (ae ++ [])))))) := (pc fun a => by (try simp only [pca, pcc, pcn, Nat.add_zero, Nat.zero_add]); first | done | ac_rfl)
 have dw := du.perm dv
 refine L_mv (.tuple #[.slice an c6 c7, .slice au db dc, vb r38]) rfl (L_pu (P_ext [.slice an c6 c7, .slice au db dc, vb r38] 0 (.slice an c6 c7) rfl rfl) (L_pu (P_ext [.slice an c6 c7, .slice au db dc, vb r38] 1 (.slice au db dc) rfl rfl) (L_pu (P_ext [.slice an c6 c7, .slice au db dc, vb r38] 2 (vb r38) rfl rfl) (L_as (.slice an c6 c7) rfl (L_as (.slice au db dc) rfl (L_as (vb r38) rfl (L_nil (W_seq ?_))))))))
 refine W_seq ?_
 have dx : ((bk an :: bk au :: bk a4 :: bk a3 :: bk a2 :: bk ac :: bk ad :: bk aa :: bk ab :: (bp ++ (bd ++ (bc ++ (bb ++ (ae ++ [])))))) : Ob).Perm ((bk a4 :: bk a3 :: bk a2 :: (bd ++ (bc ++ (bb ++ [])))) ++ (bk an :: bk au :: bk ac :: bk ad :: bk aa :: bk ab :: (bp ++ (ae ++ [])))) := (pc fun a => by (try simp only [pca, pcc, pcn, Nat.add_zero, Nat.zero_add]); first | done | ac_rfl)
 have gk := dw.drops dx
 refine W_reg (L_mv (.slice an c6 c7) rfl (L_mv (.slice aa bq br) rfl ?_))
 have n4 := (dw.odr (du.spa n1 dv) dx 0 rfl)
 have n5 := ny
 have hk : ((bk an :: bk au :: bk ac :: bk ad :: bk aa :: bk ab :: (bp ++ (ae ++ []))) : Ob).Perm (bk an :: (bp ++ (bk au :: bk ac :: bk ad :: bk aa :: bk ab :: (ae ++ [])))) := (pc fun a => by (try simp only [pca, pcc, pcn, Nat.add_zero, Nat.zero_add]); first | done | ac_rfl)
 obtain ⟨n6, gl, p1⟩ := Dp.gv (L := (bk an :: bk au :: bk ac :: bk ad :: bk aa :: bk ab :: (bp ++ (ae ++ [])))) (O := O) (v := .slice an c6 c7) n4 n5 gk hk
 have n8 := (gk.odr (rs := bk an :: bp) (dw.odr (du.spa ((dg.spa ((dq.spa ((d2.spa ((((de.sw (dl.ogm (((c9.odr (ch.ogm (b0.ogm (bi.ogm (cf.odr ((b7.spa (((bv.spa (((bn.spa ((((a7.spa ((bl.spa ((ca.spa ((c1.spa (fc.sos di dk) c2).sos b9 c4) cb).sos a6 cc) bm).sos a5 b5) a8).sn aq).sn av).sos aw bu) bo).sn a0).sos a1 b6) bw).sn a9).sos ba ce) b8).sn bh) ct 5 rfl) bz bj 4 rfl) cg b1 4 rfl) cy ci 4 rfl) da 2 rfl).sn dd).sn dy) er dz 1 rfl) 2 1 rfl rfl rfl dn).sn dp).sn d0).sos d1 ee) d3).sos df d4) dr).sos c5 ds) dh).sos dt d5) dv) dx 4 rfl) hk 3 rfl)
 have n9 := gl.gv n8 3 rfl
 have oa := gl.drop 3 rfl
 have ob := gl.std 3 rfl
 refine L_call go11 [.slice an c6 c7, .slice aa bq br] rfl ((F59.calls nv oa.ok r36 an c6 c7 (n6.st ob) r7 aa bq br n9 _ H).mono ?_)
 rintro _ oc ⟨r39, rfl, H, d6⟩
 have eg := gk.k0 d6
 refine L_pu (P_not r39 rfl) (L_mv (vb (!r39)) rfl ?_)
 rcases bool_or (!r39) with cl | cl
 ·have H := ite_t H cl
  refine L_pb cl rfl (L_pb cl rfl (L_pb cl rfl (L_pb cl rfl (L_pu (P_pick true (vb true) (by exact congrArg Value.bool cl) rfl) (L_mv (vb true) rfl (L_pass (dj := 161) rfl rfl (.inl rfl) (L_pass (dj := 161) rfl rfl (.inl rfl) (L_pass (dj := 161) rfl rfl (.inl rfl) ?_))))))))
  refine L_pu (P_pick true (vb true) (by exact congrArg Value.bool rfl) rfl) (L_nil (W_ct (b := true) rfl rfl ?_))
  refine W_seq ?_
  have od : ((bk an :: bk au :: bk ac :: bk ad :: bk aa :: bk ab :: (bp ++ (ae ++ []))) : Ob).Perm ((bk an :: bk au :: bk ac :: bk ad :: bk aa :: bk ab :: (bp ++ (ae ++ []))) ++ []) := (pc fun a => by (try simp only [pca, pcc, pcn, Nat.add_zero, Nat.zero_add]); first | done | ac_rfl)
  have oe := eg.drops od
  exact W_reg (L_as (vb false) rfl (L_nil (W_ret ⟨[vb false], ⟨_, rfl, rfl⟩, false, rfl, H, oe.gr.g0⟩)))
 have H := ite_f H cl
 refine L_rb cl rfl (L_mv (.slice au db dc) rfl (L_rb cl rfl (L_mv (.slice ab bs bt) rfl (L_rb cl rfl ?_))))
 have og := ((dw.odr (du.spa n3 dv) dx 1 rfl).sn d6)
 have oh := eg.gv og 1 rfl
 have gm := eg.drop 1 rfl
 have oi := (eg.sd ((dw.odr (du.spa ((dg.spa ((dq.spa ((d2.spa ((((de.sw (dl.ogm (((c9.odr (ch.ogm (b0.ogm (bi.ogm (cf.odr ((b7.spa (((bv.spa (((bn.spa ((((a7.spa ((bl.spa ((ca.spa ((c1.spa (fd.sos di dk) c2).sos b9 c4) cb).sos a6 cc) bm).sos a5 b5) a8).sn aq).sn av).sos aw bu) bo).sn a0).sos a1 b6) bw).sn a9).sos ba ce) b8).sn bh) ct 6 rfl) bz bj 5 rfl) cg b1 5 rfl) cy ci 5 rfl) da 3 rfl).sn dd).sn dy) er dz 2 rfl) 3 1 rfl rfl rfl dn).sn dp).sn d0).sos d1 ee) d3).sos df d4) dr).sos c5 ds) dh).sos dt d5) dv) dx 5 rfl).sn d6) 5 1 rfl rfl rfl)
 have oj := gm.gv oi 4 rfl
 have ol := gm.drop 4 rfl
 have om := gm.std 4 rfl
 refine L_call go18 [.slice au db dc, .slice ab bs bt] rfl ((F49.calls oc ol.ok r37 au db dc (oh.st om) r8 ab bs bt oj _ H).mono ?_)
 rintro _ on ⟨r40, rfl, H, et⟩
 have eh := eg.k0 et
 refine L_rb cl rfl (L_pu (P_not r40 rfl) (L_pu (P_pick false (vb (!r40)) (by exact congrArg Value.bool cl) rfl) (L_mv (vb (!r40)) rfl ?_)))
 rcases bool_or (!r40) with c0 | c0
 ·have H := ite_t H c0
  refine L_pb c0 rfl (L_pb c0 rfl (L_pb c0 rfl (L_pu (P_pick true (vb true) (by exact congrArg Value.bool c0) rfl) (L_nil (W_ct (b := true) rfl rfl ?_)))))
  refine W_seq ?_
  have oo : ((bk an :: bk au :: bk ac :: bk ad :: bk aa :: bk ab :: (bp ++ (ae ++ []))) : Ob).Perm ((bk an :: bk au :: bk ac :: bk ad :: bk aa :: bk ab :: (bp ++ (ae ++ []))) ++ []) := (pc fun a => by (try simp only [pca, pcc, pcn, Nat.add_zero, Nat.zero_add]); first | done | ac_rfl)
  have op := eh.drops oo
  exact W_reg (L_as (vb false) rfl (L_nil (W_ret ⟨[vb false], ⟨_, rfl, rfl⟩, false, rfl, H, op.gr.g0⟩)))
 have H := ite_f H c0
 refine L_rb c0 rfl (L_mv (vb r38) rfl (L_rb c0 rfl (L_mv (vb r9) rfl (L_rb c0 rfl (L_pu (P_bcmp Tryz.underlying4 r38 r9 (r38 != r9) rfl rfl rfl) (L_pu (P_pick false (vb (r38 != r9)) (by exact congrArg Value.bool c0) rfl) (L_nil ?_)))))))
 refine W_cond (r38 != r9) rfl (fun gn => ?_) (fun gn => ?_)
 ·have H := ite_t H gn
  refine W_seq ?_
  have oq : ((bk an :: bk au :: bk ac :: bk ad :: bk aa :: bk ab :: (bp ++ (ae ++ []))) : Ob).Perm ((bk an :: bk au :: bk ac :: bk ad :: bk aa :: bk ab :: (bp ++ (ae ++ []))) ++ []) := (pc fun a => by (try simp only [pca, pcc, pcn, Nat.add_zero, Nat.zero_add]); first | done | ac_rfl)
  have os := eh.drops oq
  exact W_reg (L_as (vb false) rfl (L_nil (W_ret ⟨[vb false], ⟨_, rfl, rfl⟩, false, rfl, H, os.gr.g0⟩)))
 have H := ite_f H gn
 refine W_skip (W_seq ?_)
 have gp : ((bk an :: bk au :: bk ac :: bk ad :: bk aa :: bk ab :: (bp ++ (ae ++ []))) : Ob).Perm ((bk an :: bk au :: bk aa :: bk ab :: (bp ++ [])) ++ (bk ac :: bk ad :: (ae ++ []))) := (pc fun a => by (try simp only [pca, pcc, pcn, Nat.add_zero, Nat.zero_add]); first | done | ac_rfl)
 have hl := eh.drops gp
 refine W_reg (L_as (vi 1) rfl (L_nil (W_seq (W_reg (L_mv (.slice ac ao ap) rfl (L_mv (vi 1) rfl ?_))))))
 have ot := (eh.odr (((dw.odr (du.spa ((dg.spa ((dq.spa ((d2.spa ((((de.sw hd 0 1 rfl rfl rfl dn).sn dp).sn d0).sos d1 ee) d3).sos df d4) dr).sos c5 ds) dh).sos dt d5) dv) dx 2 rfl).sn d6).sn et) gp 0 rfl)
 have ou := (((((((((DArr.sm (L := (bk ac :: bk ad :: bk aa :: bk ab :: (ae ++ []))) (O := O) (i := 1) he de rfl (fun b hb => (mcm (mcm (List.mem_append_left _ hb)))) dn).k0 dp).k0 d0).k0 d1).k0 df).k0 c5).k0 dt).k0 d6).k0 et)
 have ov : ((bk ac :: bk ad :: (ae ++ [])) : Ob).Perm (bk ac :: (ae ++ [bk ad])) := (pc fun a => by (try simp only [pca, pcc, pcn, Nat.add_zero, Nat.zero_add]); first | done | ac_rfl)
 obtain ⟨ow, ox, p2⟩ := Dp.gv (L := (bk ac :: bk ad :: (ae ++ []))) (O := O) (v := .slice ac ao ap) ot ou hl ov
 refine L_call go15 [.slice ac ao ap, vi 1] rfl ((F30.calls on ox.ok m4 ac ao ap ow 1 _ H).mono ?_)
 rintro _ oy ⟨r41, rfl, H, hm⟩
 have eu := hl.k0 hm
 refine L_as (vi r41) rfl (L_nil (W_seq (W_seq (W_reg (L_mv (vi r41) rfl (L_pu (P_cmp r41 0 (decide (r41 < 0)) rfl rfl rfl) (L_nil ?_)))))))
 refine W_cond (decide (r41 < 0)) rfl (fun gq => ?_) (fun gq => ?_)
 ·have H := ite_t H gq
  refine W_seq (W_reg (L_as (vb false) rfl (L_nil (W_ret ?_))))
  have oz := eu.clear
  exact ⟨[vb false], ⟨_, rfl, rfl⟩, false, rfl, H, oz.gr.g0⟩
 have H := ite_f H gq
 refine W_skip (W_seq (W_reg (L_mv (.slice ad ay az) rfl (L_mv (vi r41) rfl ?_))))
 have o0 := ((eh.odr (((dw.odr (du.spa ((dg.spa ((dq.spa ((d2.spa (((hf.sn dp).sn d0).sos d1 ee) d3).sos df d4) dr).sos c5 ds) dh).sos dt d5) dv) dx 3 rfl).sn d6).sn et) gp 1 rfl).sn hm)
 have o1 := eu.gv o0 1 rfl
 have o2 := eu.drop 1 rfl
 refine L_call go20 [.slice ad ay az, vi r41] rfl ((F22.calls oy o2.ok m5 ad ay az o1 r41 _ H).mono ?_)
 rintro _ p3 ⟨r42, rfl, H, o3⟩
 have gs := eu.k0 o3
 refine L_as (vi r42) rfl (L_nil (W_seq (W_seq (W_reg (L_mv (vi r42) rfl (L_pu (P_cmp r42 0 (decide (r42 < 0)) rfl rfl rfl) (L_nil ?_)))))))
 refine W_cond (decide (r42 < 0)) rfl (fun gt => ?_) (fun gt => ?_)
 ·have H := ite_t H gt
  refine W_seq (W_reg (L_as (vb false) rfl (L_nil (W_ret ?_))))
  have o4 := gs.clear
  exact ⟨[vb false], ⟨_, rfl, rfl⟩, false, rfl, H, o4.gr.g0⟩
 have H := ite_f H gt
 refine W_skip (W_seq (W_seq (W_reg (L_mv (vi r42) rfl (L_mv (vi r30) rfl (L_pu (P_cmp r42 r30 (r42 != r30) rfl rfl rfl) (L_nil ?_)))))))
 refine W_cond (r42 != r30) rfl (fun gu => ?_) (fun gu => ?_)
 ·have H := ite_t H gu
  refine W_seq (W_reg (L_as (vb false) rfl (L_nil (W_ret ?_))))
  have o5 := gs.clear
  exact ⟨[vb false], ⟨_, rfl, rfl⟩, false, rfl, H, o5.gr.g0⟩
 have H := ite_f H gu
 refine W_skip (W_seq (W_reg (L_as (vb true) rfl (L_nil (W_ret ?_)))))
 have o6 := gs.clear
 exact ⟨[vb true], ⟨_, rfl, rfl⟩, true, rfl, H, o6.gr.g0⟩
end
section
section
variable {α : Type} [DecidableEq α]
def lcsR (x : α) (p : List α → Nat) : List α → Nat
  | [] => 0
  | y :: b => if x = y then p b + 1 else max (p (y :: b)) (lcsR x p b)
def lcs : List α → List α → Nat
  | [] => fun _ => 0
  | x :: a => lcsR x (lcs a)
@[simp] theorem lcs_nil (b : List α) : lcs [] b = 0 := rfl
@[simp] theorem lcs_nil2 (a : List α) : lcs a [] = 0 := by cases a <;> rfl
theorem lcs_cons (x y : α) (a b : List α) : lcs (x :: a) (y :: b) = if x = y then lcs a b + 1 else max (lcs a (y :: b)) (lcs (x :: a) b) := rfl
theorem lcs_sub (a b : List α) : ∃ s : List α, s.Sublist a ∧ s.Sublist b ∧ s.length = lcs a b := by
  induction a generalizing b with
  | nil => exact ⟨[], List.nil_sublist _, List.nil_sublist _, rfl⟩
  | cons x a ih =>
    induction b with
    | nil => exact ⟨[], List.nil_sublist _, List.nil_sublist _, rfl⟩
    | cons y b ihb =>
      rw [lcs_cons]
      by_cases h : x = y
      · subst h
        obtain ⟨s, h1, h2, h3⟩ := ih b
        exact ⟨x :: s, h1.cons_cons x, h2.cons_cons x, by rw [if_pos rfl, ← h3]; rfl⟩
      · rw [if_neg h]
        by_cases hm : lcs (x :: a) b ≤ lcs a (y :: b)
        · obtain ⟨s, h1, h2, h3⟩ := ih (y :: b)
          exact ⟨s, h1.cons x, h2, by omega⟩
        · obtain ⟨s, h1, h2, h3⟩ := ihb
          exact ⟨s, h1, h2.cons y, by omega⟩
theorem lcs_le1 (a b : List α) : lcs a b ≤ a.length := by
  obtain ⟨s, h1, h2, h3⟩ := lcs_sub a b; rw [← h3]; exact h1.length_le
theorem lcs_le2 (a b : List α) : lcs a b ≤ b.length := by
  obtain ⟨s, h1, h2, h3⟩ := lcs_sub a b; rw [← h3]; exact h2.length_le
theorem pp {a b c d : Nat} (h : a = c) (k : b = d) : (a, b) = (c, d) := by rw [h, k]
def pairs (i j : Nat) : List α → List α → List (Nat × Nat)
  | x :: a, y :: b => if x = y then (i, j) :: pairs (i + 1) (j + 1) a b else if lcs (x :: a) b ≤ lcs a (y :: b) then pairs (i + 1) j a (y :: b) else pairs i (j + 1) (x :: a) b
  | [], _ => []
  | _ :: _, [] => []
  termination_by a b => a.length + b.length
theorem pairs_nil (i j : Nat) (b : List α) : pairs i j [] b = [] := by rw [pairs]
theorem pairs_nil2 (i j : Nat) (a : List α) : pairs i j a [] = [] := by cases a <;> rw [pairs]
theorem pairs_cons (i j : Nat) (x y : α) (a b : List α) : pairs i j (x :: a) (y :: b) = if x = y then (i, j) :: pairs (i + 1) (j + 1) a b else if lcs (x :: a) b ≤ lcs a (y :: b) then pairs (i + 1) j a (y :: b) else pairs i (j + 1) (x :: a) b := by rw [pairs]
theorem pairs_ind {C : Nat → Nat → List α → List α → Prop} (h0 : ∀ i j b, C i j [] b) (h1 : ∀ i j a, C i j a [])
    (he : ∀ i j x a b, C (i + 1) (j + 1) a b → C i j (x :: a) (x :: b))
    (ha : ∀ i j x y a b, x ≠ y → lcs (x :: a) b ≤ lcs a (y :: b) → C (i + 1) j a (y :: b) → C i j (x :: a) (y :: b))
    (hb : ∀ i j x y a b, x ≠ y → ¬ lcs (x :: a) b ≤ lcs a (y :: b) → C i (j + 1) (x :: a) b → C i j (x :: a) (y :: b)) : ∀ i j (a b : List α), C i j a b := by
  have : ∀ n i j (a b : List α), a.length + b.length ≤ n → C i j a b := by
    intro n
    induction n with
    | zero => intro i j a b h; cases a with
      | nil => exact h0 _ _ _
      | cons _ _ => simp at h
    | succ n ih =>
      intro i j a b h
      cases a with
      | nil => exact h0 _ _ _
      | cons x a => cases b with
        | nil => exact h1 _ _ _
        | cons y b =>
          simp only [List.length_cons] at h
          by_cases e : x = y
          · subst e; exact he _ _ _ _ _ (ih _ _ _ _ (by omega))
          · by_cases l : lcs (x :: a) b ≤ lcs a (y :: b)
            · exact ha _ _ _ _ _ _ e l (ih _ _ _ _ (by simp only [List.length_cons]; omega))
            · exact hb _ _ _ _ _ _ e l (ih _ _ _ _ (by simp only [List.length_cons]; omega))
  exact fun i j a b => this _ i j a b (Nat.le_refl _)
theorem pairs_len (i j : Nat) (a b : List α) : (pairs i j a b).length = lcs a b := by
  refine pairs_ind (C := fun i j a b => (pairs i j a b).length = lcs a b) ?_ ?_ ?_ ?_ ?_ i j a b
  · intros; rw [pairs_nil]; rfl
  · intros; rw [pairs_nil2, lcs_nil2]; rfl
  · intro i j x a b h; rw [pairs_cons, if_pos rfl, lcs_cons, if_pos rfl, List.length_cons, h]
  · intro i j x y a b e l h; rw [pairs_cons, if_neg e, if_pos l, lcs_cons, if_neg e, h]; exact (Nat.max_eq_left l).symm
  · intro i j x y a b e l h; rw [pairs_cons, if_neg e, if_neg l, lcs_cons, if_neg e, h]; exact (Nat.max_eq_right (by omega)).symm
theorem pairs_mem (i j : Nat) (a b : List α) : ∀ p ∈ pairs i j a b, ∃ k l, p = (i + k, j + l) ∧ ∃ x, a[k]? = some x ∧ b[l]? = some x := by
  refine pairs_ind (C := fun i j a b => ∀ p ∈ pairs i j a b, ∃ k l, p = (i + k, j + l) ∧ ∃ x, a[k]? = some x ∧ b[l]? = some x) ?_ ?_ ?_ ?_ ?_ i j a b
  · intro i j b p h; rw [pairs_nil] at h; cases h
  · intro i j a p h; rw [pairs_nil2] at h; cases h
  · intro i j x a b ih p h
    rw [pairs_cons, if_pos rfl] at h
    rcases List.mem_cons.1 h with rfl | h
    · exact ⟨0, 0, rfl, x, rfl, rfl⟩
    · obtain ⟨k, l, rfl, z, h1, h2⟩ := ih p h
      exact ⟨k + 1, l + 1, pp (by omega) (by omega), z, h1, h2⟩
  · intro i j x y a b e l ih p h
    rw [pairs_cons, if_neg e, if_pos l] at h
    obtain ⟨k, l, rfl, z, h1, h2⟩ := ih p h
    exact ⟨k + 1, l, pp (by omega) (by omega), z, h1, h2⟩
  · intro i j x y a b e l ih p h
    rw [pairs_cons, if_neg e, if_neg l] at h
    obtain ⟨k, l, rfl, z, h1, h2⟩ := ih p h
    exact ⟨k, l + 1, pp (by omega) (by omega), z, h1, h2⟩
theorem pairs_ord (i j : Nat) (a b : List α) : (pairs i j a b).Pairwise (fun p q => p.1 < q.1 ∧ p.2 < q.2) := by
  refine pairs_ind (C := fun i j a b => (pairs i j a b).Pairwise (fun p q => p.1 < q.1 ∧ p.2 < q.2)) ?_ ?_ ?_ ?_ ?_ i j a b
  · intros; rw [pairs_nil]; exact List.Pairwise.nil
  · intros; rw [pairs_nil2]; exact List.Pairwise.nil
  · intro i j x a b h; rw [pairs_cons, if_pos rfl]
    refine List.Pairwise.cons (fun p hp => ?_) h
    obtain ⟨k, l, rfl, _⟩ := pairs_mem _ _ _ _ p hp
    exact ⟨by dsimp only; omega, by dsimp only; omega⟩
  · intro i j x y a b e l h; rw [pairs_cons, if_neg e, if_pos l]; exact h
  · intro i j x y a b e l h; rw [pairs_cons, if_neg e, if_neg l]; exact h
end
section
variable {α : Type} [Inhabited α]
theorem nth_set (l : List α) {k : Nat} (h : k < l.length) (m : Nat) (v : α) : nth (l.set k v) (m : Int) = if m = k then v else nth l (m : Int) := by
  unfold nth
  rw [Int.toNat_natCast, List.getD_eq_getElem?_getD, List.getD_eq_getElem?_getD, List.getElem?_set]
  by_cases e : m = k
  · subst e; rw [if_pos rfl, if_pos rfl, if_pos h]; rfl
  · rw [if_neg (fun x => e x.symm), if_neg e]
theorem nth_rep (n m : Nat) (v : α) (h : m < n) : nth (List.replicate n v) (m : Int) = v := by
  rw [nth_nat _ (by simpa using h)]; simp
theorem drop_nth (l : List α) {k : Nat} (h : k < l.length) : l.drop k = nth l (k : Int) :: l.drop (k + 1) := by
  rw [nth_nat l h]; exact List.drop_eq_getElem_cons h
def seg (l : List α) (i j : Nat) : List α := (l.drop i).take (j - i)
theorem seg_len (l : List α) (i j : Nat) (h : j ≤ l.length) : (seg l i j).length = j - i := by
  unfold seg; rw [List.length_take, List.length_drop]; omega
theorem seg_end (l : List α) (i : Nat) : seg l i l.length = l.drop i := List.take_of_length_le (by simp)
theorem seg_app (l : List α) {i j : Nat} (h : i ≤ j) : seg l i j ++ l.drop j = l.drop i := by
  unfold seg
  have : l.drop j = (l.drop i).drop (j - i) := by rw [List.drop_drop]; congr 1; omega
  rw [this, List.take_append_drop]
variable [DecidableEq α]
theorem lcs_drop (a b : List α) {i j : Nat} (hi : i < a.length) (hj : j < b.length) : lcs (a.drop i) (b.drop j) = if nth a (i : Int) = nth b (j : Int) then lcs (a.drop (i + 1)) (b.drop (j + 1)) + 1 else max (lcs (a.drop (i + 1)) (b.drop j)) (lcs (a.drop i) (b.drop (j + 1))) := by
  rw [drop_nth a hi, drop_nth b hj, lcs_cons, ← drop_nth a hi, ← drop_nth b hj]
theorem pairs_drop (a b : List α) {i j : Nat} (hi : i < a.length) (hj : j < b.length) : pairs i j (a.drop i) (b.drop j) = if nth a (i : Int) = nth b (j : Int) then (i, j) :: pairs (i + 1) (j + 1) (a.drop (i + 1)) (b.drop (j + 1)) else if lcs (a.drop i) (b.drop (j + 1)) ≤ lcs (a.drop (i + 1)) (b.drop j) then pairs (i + 1) j (a.drop (i + 1)) (b.drop j) else pairs i (j + 1) (a.drop i) (b.drop (j + 1)) := by
  rw [drop_nth a hi, drop_nth b hj, pairs_cons, ← drop_nth a hi, ← drop_nth b hj]

def pickL (o a b : List α) : Option (List α) := if a = o then some b else if b = o then some a else if a = b then some a else none
theorem pickL_mem {o a b r : List α} (h : pickL o a b = some r) : (∀ z ∈ r, z ∈ a ∨ z ∈ b) ∧ (∀ z ∈ a, z ∈ o ∨ z ∈ r) ∧ (∀ z ∈ b, z ∈ o ∨ z ∈ r) ∧ r.length ≤ a.length + b.length := by
  unfold pickL at h
  by_cases h1 : a = o
  · rw [if_pos h1] at h; cases h; subst h1
    exact ⟨fun z hz => .inr hz, fun z hz => .inl hz, fun z hz => .inr hz, by omega⟩
  · rw [if_neg h1] at h
    by_cases h2 : b = o
    · rw [if_pos h2] at h; cases h; subst h2
      exact ⟨fun z hz => .inl hz, fun z hz => .inr hz, fun z hz => .inl hz, by omega⟩
    · rw [if_neg h2] at h
      by_cases h3 : a = b
      · rw [if_pos h3] at h; cases h; subst h3
        exact ⟨fun z hz => .inl hz, fun z hz => .inr hz, fun z hz => .inr hz, by omega⟩
      · rw [if_neg h3] at h; cases h
def mloop (o a b : List α) (f g : Nat → Option Nat) : Nat → Nat → Nat → Nat → Nat → Option (List α)
  | 0, _, i, j, k => pickL (o.drop i) (a.drop j) (b.drop k)
  | n + 1, at_, i, j, k => match f at_, g at_ with
    | some x, some y => (pickL (seg o i at_) (seg a j x) (seg b k y)).bind fun p => (mloop o a b f g n (at_ + 1) (at_ + 1) (x + 1) (y + 1)).map fun r => p ++ nth o (at_ : Int) :: r
    | _, _ => mloop o a b f g n (at_ + 1) i j k
theorem mloop_zero (o a b : List α) (f g : Nat → Option Nat) (t i j k : Nat) : mloop o a b f g 0 t i j k = pickL (o.drop i) (a.drop j) (b.drop k) := rfl
theorem mloop_some {o a b : List α} {f g : Nat → Option Nat} {n t i j k x y : Nat} (hf : f t = some x) (hg : g t = some y) : mloop o a b f g (n + 1) t i j k = (pickL (seg o i t) (seg a j x) (seg b k y)).bind fun p => (mloop o a b f g n (t + 1) (t + 1) (x + 1) (y + 1)).map fun r => p ++ nth o (t : Int) :: r := by
  rw [mloop, hf, hg]
theorem mloop_none {o a b : List α} {f g : Nat → Option Nat} {n t i j k : Nat} (h : f t = none ∨ g t = none) : mloop o a b f g (n + 1) t i j k = mloop o a b f g n (t + 1) i j k := by
  rw [mloop]
  rcases h with h | h
  · rw [h]
  · rw [h]; cases f t <;> rfl
structure Mates (o a : List α) (f : Nat → Option Nat) : Prop where
  lt : ∀ {t x}, f t = some x → t < o.length ∧ x < a.length
  eq : ∀ {t x}, f t = some x → nth o (t : Int) = nth a (x : Int)
  mono : ∀ {t x u y}, f t = some x → f u = some y → t < u → x < y
def From (f : Nat → Option Nat) (t j : Nat) : Prop := ∀ u x, t ≤ u → f u = some x → j ≤ x
theorem From.zero (f : Nat → Option Nat) (t : Nat) : From f t 0 := fun _ _ _ _ => Nat.zero_le _
theorem From.skip {f : Nat → Option Nat} {t j : Nat} (h : From f t j) : From f (t + 1) j := fun u x hu hx => h u x (by omega) hx
theorem From.step {o a : List α} {f : Nat → Option Nat} (m : Mates o a f) {t x : Nat} (h : f t = some x) : From f (t + 1) (x + 1) := fun u y hu hy => m.mono h hy (by omega)
theorem mem_seg {l : List α} {i j : Nat} {z : α} (h : z ∈ seg l i j) : z ∈ l := List.mem_of_mem_drop (List.mem_of_mem_take h)
theorem mem_split {l : List α} {i j : Nat} (hij : i ≤ j) (hj : j < l.length) {z : α} (h : z ∈ l.drop i) : z ∈ seg l i j ∨ z = nth l (j : Int) ∨ z ∈ l.drop (j + 1) := by
  rw [← seg_app l hij, drop_nth l hj] at h
  rcases List.mem_append.1 h with h | h
  · exact .inl h
  · rcases List.mem_cons.1 h with h | h
    · exact .inr (.inl h)
    · exact .inr (.inr h)
theorem mloop_keep {o a b : List α} {f g : Nat → Option Nat} (mf : Mates o a f) (mg : Mates o b g) (n t i j k : Nat) (hn : t + n = o.length) (hj : From f t j) (hk : From g t k) (r : List α) (h : mloop o a b f g n t i j k = some r) :
    (∀ z ∈ r, z ∈ a ∨ z ∈ b) ∧ (∀ z ∈ a.drop j, z ∈ o ∨ z ∈ r) ∧ (∀ z ∈ b.drop k, z ∈ o ∨ z ∈ r) ∧ r.length ≤ (a.drop j).length + (b.drop k).length := by
  induction n generalizing t i j k r with
  | zero =>
    rw [mloop_zero] at h
    obtain ⟨h1, h2, h3, h4⟩ := pickL_mem h
    exact ⟨fun z hz => (h1 z hz).imp List.mem_of_mem_drop List.mem_of_mem_drop, fun z hz => (h2 z hz).imp List.mem_of_mem_drop id, fun z hz => (h3 z hz).imp List.mem_of_mem_drop id, h4⟩
  | succ n ih =>
    cases hf : f t with
    | none => rw [mloop_none (.inl hf)] at h; exact ih _ _ _ _ (by omega) hj.skip hk.skip _ h
    | some x => cases hg : g t with
      | none => rw [mloop_none (.inr hg)] at h; exact ih _ _ _ _ (by omega) hj.skip hk.skip _ h
      | some y =>
        rw [mloop_some hf hg] at h
        cases hp : pickL (seg o i t) (seg a j x) (seg b k y) with
        | none => rw [hp] at h; cases h
        | some p =>
          rw [hp, Option.bind_some] at h
          cases hr : mloop o a b f g n (t + 1) (t + 1) (x + 1) (y + 1) with
          | none => rw [hr] at h; cases h
          | some q =>
            rw [hr, Option.map_some] at h; cases h
            obtain ⟨h1, h2, h3, h4⟩ := pickL_mem hp
            obtain ⟨g1, g2, g3, g4⟩ := ih _ _ _ _ (by omega) (.step mf hf) (.step mg hg) _ hr
            have hjx := hj t x (Nat.le_refl _) hf
            have hky := hk t y (Nat.le_refl _) hg
            have hx := (mf.lt hf).2
            have hy := (mg.lt hg).2
            have ex := mf.eq hf
            have ey := mg.eq hg
            refine ⟨fun z hz => ?_, fun z hz => ?_, fun z hz => ?_, ?_⟩
            · rcases List.mem_append.1 hz with hz | hz
              · exact (h1 z hz).imp mem_seg mem_seg
              · rcases List.mem_cons.1 hz with rfl | hz
                · rw [ex]; exact .inl (nth_mem a hx)
                · exact g1 z hz
            · rcases mem_split hjx hx hz with hz | rfl | hz
              · exact (h2 z hz).imp mem_seg (fun h => List.mem_append_left _ h)
              · exact .inr (List.mem_append_right _ (by rw [ex]; exact List.mem_cons_self))
              · exact (g2 z hz).imp id (fun h => List.mem_append_right _ (List.mem_cons_of_mem _ h))
            · rcases mem_split hky hy hz with hz | rfl | hz
              · exact (h3 z hz).imp mem_seg (fun h => List.mem_append_left _ h)
              · exact .inr (List.mem_append_right _ (by rw [ey]; exact List.mem_cons_self))
              · exact (g3 z hz).imp id (fun h => List.mem_append_right _ (List.mem_cons_of_mem _ h))
            · rw [seg_len a _ _ (by omega), seg_len b _ _ (by omega)] at h4
              simp only [List.length_append, List.length_cons, List.length_drop] at g4 ⊢
              omega
end
end
def few (a b : List Pt) : Bool := decide (a.length ≤ 12) && decide (b.length ≤ 12)
theorem few_iff {a b : List Pt} : few a b = true ↔ a.length ≤ 12 ∧ b.length ≤ 12 := by simp [few]
theorem few_not {a b : List Pt} : few a b = false ↔ ¬ (a.length ≤ 12 ∧ b.length ≤ 12) := by rw [← few_iff]; simp
def slen (a b : List Pt) : Int := if few a b then (lcs a b : Nat) else 0
def mkP (p : Nat × Nat) : Pair := ⟨p.1, p.2⟩
def spairs (a b : List Pt) : List Pair := if few a b then (pairs 0 0 a b).map mkP else []
theorem spairs_few {a b : List Pt} (h : few a b = true) : spairs a b = (pairs 0 0 a b).map mkP := by unfold spairs; rw [if_pos h]
theorem spairs_len (a b : List Pt) : ((spairs a b).length : Int) = slen a b := by
  unfold spairs slen
  by_cases h : few a b = true
  · rw [if_pos h, if_pos h, List.length_map, pairs_len]
  · rw [if_neg h, if_neg h]; rfl
theorem slen_le (a b : List Pt) : 0 ≤ slen a b ∧ slen a b ≤ a.length ∧ slen a b ≤ b.length ∧ slen a b ≤ 12 := by
  unfold slen
  by_cases h : few a b = true
  · have := few_iff.1 h
    have h1 := lcs_le1 a b; have h2 := lcs_le2 a b
    rw [if_pos h]; omega
  · rw [if_neg h]; omega
def RowOk (a b : List Pt) (i : Nat) (j : Nat) (xs : List Int) : Prop := xs.length = b.length + 1 ∧ ∀ m : Nat, j ≤ m → m ≤ b.length → nth xs (m : Int) = (lcs (a.drop i) (b.drop m) : Nat)
def Tab (a b : List Pt) (D : Nat → Nat → Prop) (t : List (List Int)) : Prop := t.length = a.length + 1 ∧ ∀ r : Nat, r ≤ a.length → (nth t (r : Int)).length = b.length + 1 ∧ ∀ m : Nat, m ≤ b.length → D r m → nth (nth t (r : Int)) (m : Int) = (lcs (a.drop r) (b.drop m) : Nat)
theorem Tab.set {a b : List Pt} {D : Nat → Nat → Prop} {t : List (List Int)} (h : Tab a b D t) {i j : Nat} (hi : i ≤ a.length) (hj : j ≤ b.length) {v : Int} (hv : v = (lcs (a.drop i) (b.drop j) : Nat)) {D' : Nat → Nat → Prop} (hD : ∀ r m, D' r m → D r m ∨ (r = i ∧ m = j)) :
    Tab a b D' (t.set i ((nth t (i : Int)).set j v)) := by
  obtain ⟨h1, h2⟩ := h
  refine ⟨by rw [List.length_set]; exact h1, fun r hr => ?_⟩
  rw [nth_set _ (by omega)]
  by_cases e : r = i
  · subst e
    rw [if_pos rfl]
    refine ⟨by rw [List.length_set]; exact (h2 r hr).1, fun m hm hd => ?_⟩
    rw [nth_set _ (by rw [(h2 r hr).1]; omega)]
    by_cases f : m = j
    · subst f; rw [if_pos rfl, hv]
    · rw [if_neg f]
      exact (h2 r hr).2 m hm ((hD r m hd).resolve_right fun x => f x.2)
  · rw [if_neg e]
    exact ⟨(h2 r hr).1, fun m hm hd => (h2 r hr).2 m hm ((hD r m hd).resolve_right fun x => e x.1)⟩
def mateI (l : List Pair) (k : Int) : Int := match l with
  | [] => -1
  | p :: l => if p.A == k then p.B else mateI l k
theorem mateI_nil (k : Int) : mateI [] k = -1 := rfl
theorem mateI_cons (p : Pair) (l : List Pair) (k : Int) : mateI (p :: l) k = if p.A == k then p.B else mateI l k := rfl
def mateN (l : List (Nat × Nat)) (k : Nat) : Option Nat := match l with
  | [] => none
  | p :: l => if p.1 = k then some p.2 else mateN l k
theorem mateI_mk (l : List (Nat × Nat)) (k : Nat) : mateI (l.map mkP) (k : Int) = match mateN l k with | some x => (x : Int) | none => -1 := by
  induction l with
  | nil => rfl
  | cons p l ih =>
    rw [List.map_cons, mateI_cons, mateN]
    by_cases h : p.1 = k
    · rw [if_pos (by simp [mkP, h]), if_pos h]; rfl
    · rw [if_neg (by simp [mkP]; omega), if_neg h, ih]
theorem mateN_mem {l : List (Nat × Nat)} {k x : Nat} (h : mateN l k = some x) : (k, x) ∈ l := by
  induction l with
  | nil => cases h
  | cons p l ih =>
    rw [mateN] at h
    by_cases e : p.1 = k
    · rw [if_pos e] at h; cases h; subst e; exact List.mem_cons_self
    · rw [if_neg e] at h; exact List.mem_cons_of_mem _ (ih h)
def part (o a : List Pt) : Nat → Option Nat := mateN (pairs 0 0 o a)
theorem part_mates (o a : List Pt) : Mates o a (part o a) := by
  have hm : ∀ {t x}, part o a t = some x → ∃ z, o[t]? = some z ∧ a[x]? = some z := fun {t x} h => by
    obtain ⟨k, l, e, z, h1, h2⟩ := pairs_mem 0 0 o a _ (mateN_mem h)
    rw [Nat.zero_add, Nat.zero_add] at e; cases e
    exact ⟨z, h1, h2⟩
  refine ⟨fun {t x} h => ?_, fun {t x} h => ?_, fun {t x u y} h1 h2 hu => ?_⟩
  · obtain ⟨z, h1, h2⟩ := hm h
    exact ⟨(List.getElem?_eq_some_iff.1 h1).1, (List.getElem?_eq_some_iff.1 h2).1⟩
  · obtain ⟨z, h1, h2⟩ := hm h
    obtain ⟨e1, e2⟩ := List.getElem?_eq_some_iff.1 h1
    obtain ⟨e3, e4⟩ := List.getElem?_eq_some_iff.1 h2
    rw [nth_nat _ e1, nth_nat _ e3, e2, e4]
  · have ho := pairs_ord 0 0 o a
    have m1 := mateN_mem h1; have m2 := mateN_mem h2
    generalize pairs 0 0 o a = l at ho m1 m2
    induction l with
    | nil => cases m1
    | cons p l ih =>
      obtain ⟨q1, q2⟩ := List.pairwise_cons.1 ho
      rcases List.mem_cons.1 m1 with e1 | n1
      · rcases List.mem_cons.1 m2 with e2 | n2
        · subst e1; cases e2; omega
        · subst e1; exact (q1 _ n2).2
      · rcases List.mem_cons.1 m2 with e2 | n2
        · subst e2; have := (q1 _ n1).1; dsimp only at this; omega
        · exact ih q2 n1 n2
def smerge (o a b : List Pt) : Option (List Pt) := if few o a && few o b then mloop o a b (part o a) (part o b) o.length 0 0 0 0 else none
theorem smerge_few {o a b : List Pt} (h1 : few o a = true) (h2 : few o b = true) : smerge o a b = mloop o a b (part o a) (part o b) o.length 0 0 0 0 := by unfold smerge; rw [h1, h2]; rfl
theorem smerge_not {o a b : List Pt} (h : few o a = false ∨ few o b = false) : smerge o a b = none := by
  unfold smerge; rcases h with h | h <;> rw [h] <;> simp
theorem smerge_keep {o a b r : List Pt} (h : smerge o a b = some r) : (∀ z ∈ r, z ∈ a ∨ z ∈ b) ∧ (∀ z ∈ a, z ∈ o ∨ z ∈ r) ∧ (∀ z ∈ b, z ∈ o ∨ z ∈ r) ∧ r.length ≤ a.length + b.length := by
  unfold smerge at h
  by_cases hf : (few o a && few o b) = true
  · rw [if_pos hf] at h
    exact mloop_keep (part_mates o a) (part_mates o b) _ _ _ _ _ (by omega) (From.zero _ _) (From.zero _ _) _ h
  · rw [if_neg hf] at h; cases h
theorem smerge_len {o a b r : List Pt} (h : smerge o a b = some r) : r.length ≤ 24 := by
  have h1 := (smerge_keep h).2.2.2
  unfold smerge at h
  by_cases hf : (few o a && few o b) = true
  · rw [Bool.and_eq_true, few_iff, few_iff] at hf; omega
  · rw [if_neg hf] at h; cases h
def allN (n : Nat) (c : Nat → Bool) : Bool := (List.range n).all c
theorem allN_true {n : Nat} {c : Nat → Bool} (h : ∀ j, j < n → c j = true) : allN n c = true := by
  unfold allN; rw [List.all_eq_true]; intro j hj; exact h j (List.mem_range.1 hj)
theorem allN_false {n k : Nat} {c : Nat → Bool} (hk : k < n) (h : c k = false) : allN n c = false := by
  unfold allN
  rw [Bool.eq_false_iff]; intro ha
  rw [List.all_eq_true] at ha
  rw [ha k (List.mem_range.2 hk)] at h; cases h
theorem allN_iff {n : Nat} {c : Nat → Bool} : allN n c = true ↔ ∀ j, j < n → c j = true := by
  unfold allN; rw [List.all_eq_true]; exact ⟨fun h j hj => h j (List.mem_range.2 hj), fun h j hj => h j (List.mem_range.1 hj)⟩
theorem loop_all (n : Nat) (c : Nat → Bool) {B : (Int → Prop) → (Int → Nat) → Int → Prop} {F : Prop}
    (hs : ∀ (I : Int → Prop) (mu : Int → Nat) (k : Nat), k < n → (∀ j, j < k → c j = true) → (c k = true → I ((k : Int) + 1) ∧ mu ((k : Int) + 1) < mu (k : Int)) → B I mu (k : Int))
    (hF : (∀ j, j < n → c j = true) → F) :
    ∃ (I : Int → Prop) (mu : Int → Nat), I 0 ∧ ∀ (i : Int), I i → (if decide (i < (n : Int)) then B I mu i else F) := by
  refine ⟨fun i => ∃ k : Nat, i = k ∧ k ≤ n ∧ ∀ j, j < k → c j = true, fun i => ((n : Int) - i).toNat, ⟨0, rfl, Nat.zero_le _, fun j hj => absurd hj (Nat.not_lt_zero _)⟩, ?_⟩
  rintro _ ⟨k, rfl, hk, ha⟩
  by_cases h : (k : Int) < (n : Int)
  · rw [if_pos (by simpa using h)]
    refine hs _ _ k (by omega) ha fun hc => ⟨⟨k + 1, by omega, by omega, fun j hj => ?_⟩, by omega⟩
    by_cases e : j = k
    · subst e; exact hc
    · exact ha j (by omega)
  · rw [if_neg (by simpa using h)]
    exact hF fun j hj => ha j (by omega)
theorem less_irr : ∀ a : Str, Op.bytesLess a a = false
  | [] => rfl
  | x :: a => by rw [Op.bytesLess]; simp [less_irr a]
theorem less_tri : ∀ a b : Str, (!(Op.bytesLess a b)) = (Op.bytesLess b a || b == a)
  | [], [] => rfl
  | [], y :: b => rfl
  | x :: a, [] => rfl
  | x :: a, y :: b => by
    rw [Op.bytesLess, Op.bytesLess]
    have h := less_tri a b
    by_cases h1 : x < y
    · have h2 : ¬ y < x := fun h => absurd (UInt8.lt_trans h1 h) (UInt8.lt_irrefl _)
      have h3 : ¬ y = x := fun e => by subst e; exact UInt8.lt_irrefl _ h1
      simp [h1, h2, h3]
    · by_cases h2 : y < x
      · have h3 : ¬ x = y := fun e => by subst e; exact UInt8.lt_irrefl _ h2
        simp [h1, h2, h3]
      · have h3 : x = y := UInt8.le_antisymm (UInt8.not_lt.1 h2) (UInt8.not_lt.1 h1)
        subst h3
        simp only [h1, decide_false, Bool.false_or, beq_self_eq_true, Bool.true_and]
        rw [h]
        congr 1
        rw [Bool.eq_iff_iff, beq_iff_eq, beq_iff_eq]
        simp
def byteOk (b : UInt8) : Bool := !(decide ((b.toNat : Int) < 97)) && !(decide ((b.toNat : Int) > 122))
def wordOk (s : Str) : Bool := allN s.length (fun k => byteOk (nth s (k : Int))) && (decide (1 ≤ s.length) && decide (s.length ≤ 6))
def inR (x : Int) : Bool := decide (-1000 ≤ x) && decide (x ≤ 1000)
def ptOk (p : Pt) : Bool := inR p.X && inR p.Y
def ptsOk (p : List Pt) : Bool := allN p.length fun k => ptOk (nth p (k : Int)) && (decide (k = 0) || !(decide (nth p ((k : Int) - 1) = nth p (k : Int))))
def kindOk (kind : Int) (p : List Pt) : Bool :=
  if kind = 1 then decide (p.length = 1) else if kind = 2 then decide (2 ≤ p.length) && decide (p.length ≤ 6)
  else if kind = 3 then decide (3 ≤ p.length) && decide (p.length ≤ 6) && !(decide (nth p 0 = nth p ((p.length : Int) - 1))) else false
def shapeOk (s : Shape) : Bool := ptsOk s.Pts && kindOk s.Kind s.Pts
def tagsOk (t : List Tag) : Bool := allN t.length fun k => wordOk (nth t (k : Int)).Key && wordOk (nth t (k : Int)).Val && (decide (k = 0) || Op.bytesLess (nth t ((k : Int) - 1)).Key (nth t (k : Int)).Key)
def featOk (f : Feat) : Bool := tagsOk f.Tags && decide (f.Tags.length ≤ 4) && wordOk f.Id && shapeOk f.Shape
def sheetOk (s : List Feat) : Bool := allN s.length (fun k => featOk (nth s (k : Int)) && (decide (k = 0) || Op.bytesLess (nth s ((k : Int) - 1)).Id (nth s (k : Int)).Id)) && decide (s.length ≤ 8)
theorem Feat.ext_iff' (a b : Feat) : a = b ↔ a.Id = b.Id ∧ a.Shape = b.Shape ∧ a.Tags = b.Tags := by cases a; cases b; simp
theorem Shape.ext_iff' (a b : Shape) : a = b ↔ a.Kind = b.Kind ∧ a.Pts = b.Pts := by cases a; cases b; simp
section
def findN (n : Nat) (c : Nat → Bool) : Int := match (List.range n).find? c with | some k => (k : Int) | none => -1
theorem findN_hit {n k : Nat} {c : Nat → Bool} (hk : k < n) (h : c k = true) (hp : ∀ j, j < k → c j = false) : findN n c = (k : Int) := by
  unfold findN
  have : (List.range n).find? c = some k := by
    rw [List.find?_range_eq_some]
    exact ⟨h, List.mem_range.2 hk, fun j hj => by rw [hp j hj]; rfl⟩
  rw [this]
theorem findN_none {n : Nat} {c : Nat → Bool} (h : ∀ j, j < n → c j = false) : findN n c = -1 := by
  unfold findN
  have : (List.range n).find? c = none := by
    rw [List.find?_eq_none]; intro j hj; rw [h j (List.mem_range.1 hj)]; exact Bool.false_ne_true
  rw [this]
theorem findN_le (n : Nat) (c : Nat → Bool) : -1 ≤ findN n c ∧ findN n c < n := by
  unfold findN
  cases h : (List.range n).find? c with
  | none => exact ⟨Int.le_refl _, by dsimp only; omega⟩
  | some k => have := List.mem_range.1 (List.mem_of_find?_eq_some h); exact ⟨by dsimp only; omega, by dsimp only; omega⟩
theorem loop_find (n : Nat) (c : Nat → Bool) {B : (Int → Prop) → (Int → Nat) → Int → Prop} {Q : Int → Prop} (hq : Q (findN n c))
    (hs : ∀ (I : Int → Prop) (mu : Int → Nat) (k : Nat), k < n → (c k = true → Q (k : Int)) → (c k = false → I ((k : Int) + 1) ∧ mu ((k : Int) + 1) < mu (k : Int)) → B I mu (k : Int)) :
    ∃ (I : Int → Prop) (mu : Int → Nat), I 0 ∧ ∀ (i : Int), I i → (if decide (i < (n : Int)) then B I mu i else Q (-1)) := by
  refine loop_all n (fun k => !(c k)) (fun I mu k hk hp hn => hs I mu k hk (fun h => ?_) (fun h => hn (by rw [h]; rfl))) (fun ha => ?_)
  · rw [findN_hit hk h (fun j hj => by have := hp j hj; rwa [Bool.not_eq_true'] at this)] at hq; exact hq
  · rw [findN_none (fun j hj => by have := ha j hj; rwa [Bool.not_eq_true'] at this)] at hq; exact hq
section
variable {α : Type} [Inhabited α] [DecidableEq α]
end
end
section
theorem less_trans : ∀ {a b c : Str}, Op.bytesLess a b = true → Op.bytesLess b c = true → Op.bytesLess a c = true
  | _, _, [], _, h => by rename_i b _; cases b <;> simp [Op.bytesLess] at h
  | _, [], _ :: _, h, _ => by rename_i a _ _ _; cases a <;> simp [Op.bytesLess] at h
  | [], _ :: _, _ :: _, _, _ => by simp [Op.bytesLess]
  | x :: a, y :: b, z :: c, h1, h2 => by
    rw [Op.bytesLess] at h1 h2 ⊢
    simp only [Bool.or_eq_true, Bool.and_eq_true, decide_eq_true_eq, beq_iff_eq] at h1 h2 ⊢
    rcases h1 with h1 | ⟨rfl, h1⟩
    · rcases h2 with h2 | ⟨rfl, h2⟩
      · exact .inl (UInt8.lt_trans h1 h2)
      · exact .inl h1
    · rcases h2 with h2 | ⟨rfl, h2⟩
      · exact .inl h2
      · exact .inr ⟨rfl, less_trans h1 h2⟩
theorem less_asym {a b : Str} (h : Op.bytesLess a b = true) : Op.bytesLess b a = false := by
  cases e : Op.bytesLess b a with
  | false => rfl
  | true => have := less_trans h e; rw [less_irr] at this; cases this
theorem less_or {a b : Str} (h : Op.bytesLess a b = false) : Op.bytesLess b a = true ∨ b = a := by
  have := less_tri a b
  rw [h] at this
  simpa using this.symm
def SS (l : List Str) : Prop := l.Pairwise fun x y => Op.bytesLess x y = true
theorem SS.ext : ∀ {l m : List Str}, SS l → SS m → (∀ x, x ∈ l ↔ x ∈ m) → l = m
  | [], [], _, _, _ => rfl
  | [], y :: m, _, _, h => by have := (h y).2 List.mem_cons_self; cases this
  | x :: l, [], _, _, h => by have := (h x).1 List.mem_cons_self; cases this
  | x :: l, y :: m, hl, hm, h => by
    obtain ⟨l1, l2⟩ := List.pairwise_cons.1 hl
    obtain ⟨m1, m2⟩ := List.pairwise_cons.1 hm
    have e : x = y := by
      rcases List.mem_cons.1 ((h x).1 List.mem_cons_self) with e | e
      · exact e
      · rcases List.mem_cons.1 ((h y).2 List.mem_cons_self) with e' | e'
        · exact e'.symm
        · have := less_trans (m1 x e) (l1 y e'); rw [less_irr] at this; cases this
    subst e
    rw [SS.ext l2 m2 fun z => ⟨fun hz => ?_, fun hz => ?_⟩]
    · rcases List.mem_cons.1 ((h z).1 (List.mem_cons_of_mem _ hz)) with e | e
      · subst e; have := l1 z hz; rw [less_irr] at this; cases this
      · exact e
    · rcases List.mem_cons.1 ((h z).2 (List.mem_cons_of_mem _ hz)) with e | e
      · subst e; have := m1 z hz; rw [less_irr] at this; cases this
      · exact e
theorem le_less (x y : Str) : decide (x ≤ y) = !(Op.bytesLess y x) := by
  rw [bytesLess_eq]
  by_cases h : y < x
  · rw [decide_eq_true h, decide_eq_false (by rw [List.not_le]; exact h)]; rfl
  · rw [decide_eq_false h, decide_eq_true (List.not_lt.1 h)]; rfl
theorem sortS_le (l : List Str) : (sortS l).Pairwise fun x y => Op.bytesLess y x = false := by
  have h := List.pairwise_mergeSort (le := fun x y : Str => decide (x ≤ y)) (fun a b c h1 h2 => by
    rw [le_less, Bool.not_eq_true'] at h1 h2 ⊢
    cases e : Op.bytesLess c a with
    | false => rfl
    | true =>
      rcases less_or h1 with h3 | h3
      · have := less_trans e h3; rw [h2] at this; cases this
      · subst h3; rw [h2] at e; cases e) (fun a b => by
    rw [le_less, le_less]
    cases e : Op.bytesLess b a with
    | false => rfl
    | true => rw [less_asym e]; rfl) l
  exact h.imp fun {x y} h => by rw [le_less, Bool.not_eq_true'] at h; exact h
theorem sortS_mem {l : List Str} {x : Str} : x ∈ sortS l ↔ x ∈ l := List.mem_mergeSort
section
open Go.Lib
theorem compact_of (l : List Str) (h : l.Pairwise fun x y => Op.bytesLess y x = false) : SS (compact l) ∧ ∀ x, x ∈ compact l ↔ x ∈ l := by
  have hle : ∀ i j, i ≤ j → j < l.length → Op.bytesLess (l.toArray[j]!) (l.toArray[i]!) = false := fun i j hij hj => by
    have hi : i < l.length := by omega
    simp only [List.getElem!_toArray, getElem!_pos l i hi, getElem!_pos l j hj]
    rcases Nat.lt_or_eq_of_le hij with hlt | rfl
    · exact List.pairwise_iff_getElem.1 h i j hi hj hlt
    · exact less_irr _
  constructor
  · unfold compact compactUpTo SS
    rw [List.pairwise_map, List.pairwise_filter]
    refine List.pairwise_iff_getElem.2 fun i j hi hj hij => ?_
    simp only [List.length_range] at hi hj
    simp only [List.getElem_range]
    intro _ hk
    have hj0 : 0 < j := by omega
    have hne : l.toArray[j]! ≠ l.toArray[j - 1]! := fun e => by rw [keeps_neg hj0 e] at hk; cases hk
    have h1 : Op.bytesLess (l.toArray[j - 1]!) (l.toArray[j]!) = true := by
      rcases less_or (hle (j - 1) j (by omega) hj) with h2 | h2
      · exact h2
      · exact absurd h2.symm hne
    rcases less_or (hle i (j - 1) (by omega) (by omega)) with h3 | h3
    · exact less_trans h3 h1
    · rw [h3]; exact h1
  · intro x
    constructor
    · exact compact_mem
    · intro hx
      obtain ⟨k, hk, rfl⟩ := List.getElem_of_mem hx
      have key : ∀ k, k < l.length → l.toArray[k]! ∈ compact l := by
        intro k
        induction k using Nat.strongRecOn with
        | _ k ih =>
          intro hk
          cases e : keeps l.toArray k with
          | true =>
            unfold compact compactUpTo
            exact List.mem_map.2 ⟨k, List.mem_filter.2 ⟨List.mem_range.2 hk, e⟩, rfl⟩
          | false =>
            have hk0 : 0 < k := by
              rcases Nat.eq_zero_or_pos k with h0 | h0
              · subst h0; rw [keeps_lt_one _ 0 (by omega)] at e; cases e
              · exact h0
            have he : l.toArray[k]! = l.toArray[k - 1]! := Classical.byContradiction fun hne => by rw [keeps_pos hne] at e; cases e
            rw [he]; exact ih (k - 1) (by omega) (by omega)
      have := key k hk
      simpa [getElem!_pos l k hk] using this
end
def uniq (l : List Str) : List Str := Lib.compact (sortS l)
theorem uniq_ss (l : List Str) : SS (uniq l) := (compact_of _ (sortS_le l)).1
theorem uniq_mem {l : List Str} {x : Str} : x ∈ uniq l ↔ x ∈ l := ((compact_of _ (sortS_le l)).2 x).trans sortS_mem
def ids (s : List Feat) : List Str := s.map (·.Id)
theorem ids_app (s t : List Feat) : ids (s ++ t) = ids s ++ ids t := List.map_append
theorem sheet_ss {s : List Feat} (h : sheetOk s = true) : SS (ids s) ∧ s.length ≤ 8 ∧ ∀ f ∈ s, featOk f = true := by
  unfold sheetOk at h
  simp only [Bool.and_eq_true, decide_eq_true_eq] at h
  obtain ⟨h1, h2⟩ := h
  have h1 := allN_iff.1 h1
  have hadj : ∀ k, 0 < k → k < s.length → Op.bytesLess (nth s ((k : Int) - 1)).Id (nth s (k : Int)).Id = true := fun k h0 hk => by
    have := h1 k hk
    simp only [Bool.and_eq_true, Bool.or_eq_true, decide_eq_true_eq] at this
    rcases this.2 with h | h
    · omega
    · exact h
  refine ⟨?_, h2, fun f hf => ?_⟩
  · unfold SS ids
    rw [List.pairwise_map]
    refine List.pairwise_iff_getElem.2 fun i j hi hj hij => ?_
    have key : ∀ d, i + d + 1 < s.length → Op.bytesLess s[i].Id (nth s ((i + d + 1 : Nat) : Int)).Id = true := by
      intro d
      induction d with
      | zero =>
        intro hd
        have := hadj (i + 0 + 1) (by omega) hd
        rw [show (((i + 0 + 1 : Nat) : Int) - 1) = (i : Int) by omega, nth_nat s hi] at this
        exact this
      | succ d ih =>
        intro hd
        have := hadj (i + (d + 1) + 1) (by omega) hd
        rw [show (((i + (d + 1) + 1 : Nat) : Int) - 1) = ((i + d + 1 : Nat) : Int) by omega] at this
        exact less_trans (ih (by omega)) this
    have := key (j - i - 1) (by omega)
    rw [show i + (j - i - 1) + 1 = j by omega, nth_nat s hj] at this
    exact this
  · obtain ⟨k, hk, rfl⟩ := List.getElem_of_mem hf
    have := h1 k hk
    rw [nth_nat s hk] at this
    simp only [Bool.and_eq_true] at this
    exact this.1
theorem word_len {s : Str} (h : wordOk s = true) : s.length ≤ 6 := by
  unfold wordOk at h
  simp only [Bool.and_eq_true, decide_eq_true_eq] at h
  exact h.2.2
theorem bulk_small {α : Type} [Bulk α] (l : List α) (m : Nat) (h : ∀ x ∈ l, bulk x ≤ m) : bulk l ≤ l.length * (m + 1) := by
  induction l with
  | nil => exact Nat.zero_le _
  | cons x l ih =>
    have h1 := h x List.mem_cons_self
    have h2 := ih fun y hy => h y (List.mem_cons_of_mem _ hy)
    rw [bulk_cons, List.length_cons, Nat.add_mul]
    omega
theorem feat_small {f : Feat} (h : featOk f = true) : bulk f ≤ 100 ∧ f.Id.length ≤ 6 := by
  unfold featOk at h
  simp only [Bool.and_eq_true, decide_eq_true_eq] at h
  obtain ⟨⟨⟨h1, h2⟩, h3⟩, h4⟩ := h
  have hi := word_len h3
  have e1 : bulk f = bulk f.Id + (bulk f.Shape.Kind + bulk f.Shape.Pts) + bulk f.Tags := rfl
  have e2 : bulk f.Id = f.Id.length := bulk_str _
  have e3 : bulk f.Shape.Kind = 0 := rfl
  have e4 : bulk f.Shape.Pts = f.Shape.Pts.length := bulk_flat (fun _ => rfl) _
  have ht : bulk f.Tags ≤ f.Tags.length * (12 + 1) := bulk_small _ 12 fun t hm => by
    unfold tagsOk at h1
    obtain ⟨k, hk, rfl⟩ := List.getElem_of_mem hm
    have := allN_iff.1 h1 k hk
    rw [nth_nat _ hk] at this
    simp only [Bool.and_eq_true] at this
    have a1 := word_len this.1.1
    have a2 := word_len this.1.2
    have b0 : bulk f.Tags[k] = bulk f.Tags[k].Key + bulk f.Tags[k].Val := rfl
    have b1 : bulk f.Tags[k].Key = f.Tags[k].Key.length := bulk_str _
    have b2 : bulk f.Tags[k].Val = f.Tags[k].Val.length := bulk_str _
    omega
  have hp : f.Shape.Pts.length ≤ 6 := by
    unfold shapeOk kindOk at h4
    simp only [Bool.and_eq_true] at h4
    have := h4.2
    split at this
    · simp only [decide_eq_true_eq] at this; omega
    · split at this
      · simp only [Bool.and_eq_true, decide_eq_true_eq] at this; omega
      · split at this
        · simp only [Bool.and_eq_true, decide_eq_true_eq] at this; omega
        · cases this
  have : f.Tags.length * (12 + 1) ≤ 52 := by omega
  omega
def zeroF : Feat := ⟨[], ⟨0, []⟩, []⟩
def sideOf (s : List Feat) (id : Str) : Feat × Bool :=
  if findN s.length (fun j => (nth s (j : Int)).Id == id) < 0 then (zeroF, false) else (nth s (findN s.length fun j => (nth s (j : Int)).Id == id), true)
theorem uniq_len (l : List Str) : (uniq l).length ≤ l.length := by
  unfold uniq
  have := compact_le (sortS l)
  have h2 : (sortS l).length = l.length := List.length_mergeSort _
  omega
end
theorem mate_part {o a : List Pt} (h : few o a = true) (t : Nat) : mateI (spairs o a) (t : Int) = match part o a t with | some x => (x : Int) | none => -1 := by
  rw [spairs_few h, mateI_mk]; rfl
structure MInv (o a b : List Pt) (xs : List Pt) (i j k t : Nat) : Prop where
  hi : i ≤ t
  ht : t ≤ o.length
  hj : j ≤ a.length
  hk : k ≤ b.length
  fj : From (part o a) t j
  fk : From (part o b) t k
  len : xs.length ≤ j + k
  eq : (mloop o a b (part o a) (part o b) (o.length - t) t i j k).map (xs ++ ·) = smerge o a b
theorem MInv.zero {o a b : List Pt} (h1 : few o a = true) (h2 : few o b = true) : MInv o a b [] 0 0 0 0 :=
  ⟨Nat.le_refl _, Nat.zero_le _, Nat.zero_le _, Nat.zero_le _, From.zero _ _, From.zero _ _, Nat.le_refl _, by rw [smerge_few h1 h2, Nat.sub_zero]; cases mloop o a b (part o a) (part o b) o.length 0 0 0 0 <;> rfl⟩
theorem MInv.skip {o a b xs : List Pt} {i j k t : Nat} (h : MInv o a b xs i j k t) (ht : t < o.length) (hn : part o a t = none ∨ part o b t = none) : MInv o a b xs i j k (t + 1) :=
  ⟨by have := h.hi; omega, ht, h.hj, h.hk, h.fj.skip, h.fk.skip, h.len, by
    have := h.eq
    rw [show o.length - t = (o.length - (t + 1)) + 1 by omega, mloop_none hn] at this
    exact this⟩
theorem MInv.step {o a b xs : List Pt} {i j k t x y : Nat} (h : MInv o a b xs i j k t) (ht : t < o.length) (hx : part o a t = some x) (hy : part o b t = some y) {p : List Pt} (hp : pickL (seg o i t) (seg a j x) (seg b k y) = some p) : MInv o a b (xs ++ p ++ [nth o (t : Int)]) (t + 1) (x + 1) (y + 1) (t + 1) := by
  have h1 := (part_mates o a).lt hx
  have h2 := (part_mates o b).lt hy
  refine ⟨Nat.le_refl _, ht, h1.2, h2.2, .step (part_mates o a) hx, .step (part_mates o b) hy, ?_, ?_⟩
  · have := (pickL_mem hp).2.2.2
    rw [seg_len a _ _ (by omega), seg_len b _ _ (by omega)] at this
    have h3 := h.fj t x (Nat.le_refl _) hx
    have h4 := h.fk t y (Nat.le_refl _) hy
    have h5 := h.len
    simp only [List.length_append, List.length_singleton]; omega
  · have := h.eq
    rw [show o.length - t = (o.length - (t + 1)) + 1 by omega, mloop_some hx hy, hp, Option.bind_some, Option.map_map] at this
    rw [← this]
    congr 1
    funext r
    simp
theorem MInv.stop {o a b xs : List Pt} {i j k t x y : Nat} (h : MInv o a b xs i j k t) (ht : t < o.length) (hx : part o a t = some x) (hy : part o b t = some y) (hp : pickL (seg o i t) (seg a j x) (seg b k y) = none) : smerge o a b = none := by
  have := h.eq
  rw [show o.length - t = (o.length - (t + 1)) + 1 by omega, mloop_some hx hy, hp] at this
  exact this.symm
theorem MInv.last {o a b xs : List Pt} {i j k : Nat} (h : MInv o a b xs i j k o.length) : (pickL (o.drop i) (a.drop j) (b.drop k)).map (xs ++ ·) = smerge o a b := by
  have := h.eq
  rw [Nat.sub_self, mloop_zero] at this
  exact this
theorem MInv.from {o a b xs : List Pt} {i j k t x y : Nat} (h : MInv o a b xs i j k t) (hx : part o a t = some x) (hy : part o b t = some y) : j ≤ x ∧ x < a.length ∧ k ≤ y ∧ y < b.length :=
  ⟨h.fj t x (Nat.le_refl _) hx, ((part_mates o a).lt hx).2, h.fk t y (Nat.le_refl _) hy, ((part_mates o b).lt hy).2⟩
def keysT (t : List Tag) : List Str := t.map (·.Key)
theorem keys_app (s t : List Tag) : keysT (s ++ t) = keysT s ++ keysT t := List.map_append
def valT (t : List Tag) (key : Str) : value :=
  if findN t.length (fun j => (nth t (j : Int)).Key == key) < 0 then ⟨false, []⟩ else ⟨true, (nth t (findN t.length fun j => (nth t (j : Int)).Key == key)).Val⟩
theorem valT_no (t : List Tag) (key : Str) (h : (valT t key).has = false) : valT t key = ⟨false, []⟩ := by
  unfold valT at h ⊢
  split
  · rfl
  · rename_i h1; rw [if_neg h1] at h; cases h
def three {α : Type} [DecidableEq α] (o a b : α) : α × Bool := if a = o then (b, true) else if b = o then (a, true) else if a = b then (a, true) else (a, false)
def tagF (o a b : value) : value × Bool := if (three o a b).2 then three o a b else (if a.has then a else b, false)
def tagS : Str := [116, 97, 103, 32]
def tagK (o a b : List Tag) (k : Str) : value × Bool := tagF (valT o k) (valT a k) (valT b k)
def clashL (o a b : List Tag) (ks : List Str) : List Str := (ks.filter fun k => !(tagK o a b k).2).map fun k => tagS ++ k
def tagsL (o a b : List Tag) (ks : List Str) : List Tag := (ks.filter fun k => (tagK o a b k).1.has).map fun k => ⟨k, (tagK o a b k).1.val⟩
theorem clashL_snoc (o a b : List Tag) (ks : List Str) (k : Str) : clashL o a b (ks ++ [k]) = clashL o a b ks ++ (if (tagK o a b k).2 then [] else [tagS ++ k]) := by
  unfold clashL
  rw [List.filter_append, List.map_append]
  congr 1
  cases h : (tagK o a b k).2 <;> simp [h]
theorem tagsL_snoc (o a b : List Tag) (ks : List Str) (k : Str) : tagsL o a b (ks ++ [k]) = tagsL o a b ks ++ (if (tagK o a b k).1.has then [⟨k, (tagK o a b k).1.val⟩] else []) := by
  unfold tagsL
  rw [List.filter_append, List.map_append]
  congr 1
  cases h : (tagK o a b k).1.has <;> simp [h]
theorem clashL_len (o a b : List Tag) (ks : List Str) : (clashL o a b ks).length ≤ ks.length := by
  unfold clashL; rw [List.length_map]; exact List.length_filter_le _ _
theorem tagsL_len (o a b : List Tag) (ks : List Str) : (tagsL o a b ks).length ≤ ks.length := by
  unfold tagsL; rw [List.length_map]; exact List.length_filter_le _ _
def shapeF (o a b : Shape) : Shape × Bool :=
  if (three o a b).2 then three o a b
  else if a.Kind = o.Kind ∧ b.Kind = o.Kind then
    match smerge o.Pts a.Pts b.Pts with
    | some p => if shapeOk ⟨a.Kind, p⟩ then (⟨a.Kind, p⟩, true) else (a, false)
    | none => (a, false)
  else (a, false)
def allKeys (o a b : Feat) : List Str := uniq (keysT (o.Tags ++ a.Tags ++ b.Tags))
def shapeS : Str := [115, 104, 97, 112, 101]
def joinF (o a b : Feat) : Feat := ⟨a.Id, (shapeF o.Shape a.Shape b.Shape).1, tagsL o.Tags a.Tags b.Tags (allKeys o a b)⟩
def joinW (o a b : Feat) : List Str := (if (shapeF o.Shape a.Shape b.Shape).2 then [] else [shapeS]) ++ clashL o.Tags a.Tags b.Tags (allKeys o a b)
def joinOf (o a b : Feat) : Feat × List Str := if featOk (joinF o a b) then (joinF o a b, joinW o a b) else (a, [[109, 117, 99, 104]])
def featJoin (o a b : Feat) : Feat × List Str := if featOk o && featOk a && featOk b && decide (o.Id = a.Id) && decide (o.Id = b.Id) then joinOf o a b else (zeroF, [])
theorem feat_facts {f : Feat} (h : featOk f = true) : f.Tags.length ≤ 4 ∧ shapeOk f.Shape = true ∧ f.Shape.Pts.length ≤ 6 ∧ f.Id.length ≤ 6 ∧ ∀ t ∈ f.Tags, t.Key.length ≤ 6 ∧ t.Val.length ≤ 6 := by
  have hb := (feat_small h).2
  unfold featOk at h
  simp only [Bool.and_eq_true, decide_eq_true_eq] at h
  obtain ⟨⟨⟨h1, h2⟩, h3⟩, h4⟩ := h
  refine ⟨h2, h4, ?_, hb, fun t hm => ?_⟩
  · unfold shapeOk kindOk at h4
    simp only [Bool.and_eq_true] at h4
    have := h4.2
    split at this
    · simp only [decide_eq_true_eq] at this; omega
    · split at this
      · simp only [Bool.and_eq_true, decide_eq_true_eq] at this; omega
      · split at this
        · simp only [Bool.and_eq_true, decide_eq_true_eq] at this; omega
        · cases this
  · unfold tagsOk at h1
    obtain ⟨k, hk, rfl⟩ := List.getElem_of_mem hm
    have := allN_iff.1 h1 k hk
    rw [nth_nat _ hk] at this
    simp only [Bool.and_eq_true] at this
    exact ⟨word_len this.1.1, word_len this.1.2⟩
theorem shape_pts {s : Shape} (h : shapeOk s = true) : s.Pts.length ≤ 6 := by
  unfold shapeOk kindOk at h
  simp only [Bool.and_eq_true] at h
  have := h.2
  split at this
  · simp only [decide_eq_true_eq] at this; omega
  · split at this
    · simp only [Bool.and_eq_true, decide_eq_true_eq] at this; omega
    · split at this
      · simp only [Bool.and_eq_true, decide_eq_true_eq] at this; omega
      · cases this
theorem three_in {α : Type} [DecidableEq α] (o a b : α) : (three o a b).1 = a ∨ (three o a b).1 = b := by
  unfold three
  split
  · exact .inr rfl
  · split
    · exact .inl rfl
    · split <;> exact .inl rfl
theorem shapeF_pts {o a b : Shape} (ha : a.Pts.length ≤ 6) (hb : b.Pts.length ≤ 6) : (shapeF o a b).1.Pts.length ≤ 6 := by
  unfold shapeF
  split
  · rcases three_in o a b with h | h <;> rw [h] <;> assumption
  · split
    · split
      · split
        · rename_i h; exact shape_pts h
        · exact ha
      · exact ha
    · exact ha
theorem valT_len {t : List Tag} (h : ∀ x ∈ t, x.Val.length ≤ 6) (k : Str) : (valT t k).val.length ≤ 6 := by
  unfold valT
  split
  · exact Nat.zero_le _
  · have h1 := findN_le t.length fun j => (nth t (j : Int)).Key == k
    exact h _ (nth_memi t (by omega) h1.2)
theorem tagF_in (o a b : value) : (tagF o a b).1 = a ∨ (tagF o a b).1 = b := by
  unfold tagF
  split
  · exact three_in o a b
  · split
    · exact .inl rfl
    · exact .inr rfl
theorem allKeys_len (o a b : Feat) : (allKeys o a b).length ≤ o.Tags.length + a.Tags.length + b.Tags.length := by
  have h := uniq_len (keysT (o.Tags ++ a.Tags ++ b.Tags))
  have e : (keysT (o.Tags ++ a.Tags ++ b.Tags)).length = o.Tags.length + a.Tags.length + b.Tags.length := by unfold keysT; simp; omega
  unfold allKeys; omega
theorem allKeys_small {o a b : Feat} (ho : featOk o = true) (ha : featOk a = true) (hb : featOk b = true) : (allKeys o a b).length ≤ 12 ∧ ∀ k ∈ allKeys o a b, k.length ≤ 6 := by
  have h1 := feat_facts ho; have h2 := feat_facts ha; have h3 := feat_facts hb
  refine ⟨by have := allKeys_len o a b; omega, fun k hk => ?_⟩
  unfold allKeys at hk
  rw [uniq_mem] at hk
  obtain ⟨t, ht, rfl⟩ := List.mem_map.1 hk
  rcases List.mem_append.1 ht with ht | ht
  · rcases List.mem_append.1 ht with ht | ht
    · exact (h1.2.2.2.2 t ht).1
    · exact (h2.2.2.2.2 t ht).1
  · exact (h3.2.2.2.2 t ht).1
theorem tagsL_small {o a b : Feat} (ho : featOk o = true) (ha : featOk a = true) (hb : featOk b = true) : bulk (tagsL o.Tags a.Tags b.Tags (allKeys o a b)) ≤ 200 := by
  obtain ⟨k1, k2⟩ := allKeys_small ho ha hb
  have hl := tagsL_len o.Tags a.Tags b.Tags (allKeys o a b)
  have hs := bulk_small (tagsL o.Tags a.Tags b.Tags (allKeys o a b)) 12 fun t ht => by
    unfold tagsL at ht
    obtain ⟨k, hk, rfl⟩ := List.mem_map.1 ht
    have hk := k2 k (List.mem_filter.1 hk).1
    have hv : (tagK o.Tags a.Tags b.Tags k).1.val.length ≤ 6 := by
      rcases tagF_in (valT o.Tags k) (valT a.Tags k) (valT b.Tags k) with h | h
      · unfold tagK; rw [h]; exact valT_len (fun x hx => ((feat_facts ha).2.2.2.2 x hx).2) k
      · unfold tagK; rw [h]; exact valT_len (fun x hx => ((feat_facts hb).2.2.2.2 x hx).2) k
    have e : bulk (⟨k, (tagK o.Tags a.Tags b.Tags k).1.val⟩ : Tag) = bulk k + bulk (tagK o.Tags a.Tags b.Tags k).1.val := rfl
    rw [e, bulk_str, bulk_str]; omega
  have : (tagsL o.Tags a.Tags b.Tags (allKeys o a b)).length * (12 + 1) ≤ 12 * 13 := Nat.mul_le_mul (by omega) (Nat.le_refl _)
  omega
theorem joinF_small {o a b : Feat} (ho : featOk o = true) (ha : featOk a = true) (hb : featOk b = true) : bulk (joinF o a b) ≤ 300 := by
  have h2 := feat_facts ha; have h3 := feat_facts hb
  have ht := tagsL_small ho ha hb
  have hp := shapeF_pts (o := o.Shape) h2.2.2.1 h3.2.2.1
  have e : bulk (joinF o a b) = bulk a.Id + (0 + bulk (shapeF o.Shape a.Shape b.Shape).1.Pts) + bulk (tagsL o.Tags a.Tags b.Tags (allKeys o a b)) := rfl
  have e2 : bulk a.Id = a.Id.length := bulk_str _
  have e3 : bulk (shapeF o.Shape a.Shape b.Shape).1.Pts = (shapeF o.Shape a.Shape b.Shape).1.Pts.length := bulk_flat (fun _ => rfl) _
  omega
section
def decA : Nat → Int → Str → Str
  | 0, _, out => out
  | f + 1, k, out => if 0 < k then decA f (k / 10) (UInt8.ofNat (48 + k % 10).toNat :: out) else out
theorem decA_stop (f : Nat) {k : Int} (h : ¬ 0 < k) (out : Str) : decA f k out = out := by
  cases f with
  | zero => rfl
  | succ f => unfold decA; rw [if_neg h]
def tx (k : Int) : Str := if k ≤ 0 then [109, 48] else [109] ++ decA k.toNat k []
def mkL {α : Type} (g : α → Int → α × Int) : List α → Int → List α × Int
  | [], k => ([], k)
  | x :: l, k => ((g x k).1 :: (mkL g l (g x k).2).1, (mkL g l (g x k).2).2)
section
variable {α : Type} {g : α → Int → α × Int}
theorem mkL_snoc (x : α) : ∀ (l : List α) (k : Int), mkL g (l ++ [x]) k = ((mkL g l k).1 ++ [(g x (mkL g l k).2).1], (g x (mkL g l k).2).2)
  | [], k => rfl
  | y :: l, k => by
    rw [List.cons_append, mkL, mkL_snoc x l]; rfl
theorem mkL_len : ∀ (l : List α) (k : Int), (mkL g l k).1.length = l.length
  | [], k => rfl
  | y :: l, k => by rw [mkL, List.length_cons, List.length_cons, mkL_len l]
theorem mkL_bd [Bulk α] (hb : ∀ x k, k ≤ (g x k).2 ∧ (g x k).2 ≤ k + 8 * (1 + (bulk x : Nat))) : ∀ (l : List α) (k : Int), k ≤ (mkL g l k).2 ∧ (mkL g l k).2 ≤ k + 8 * (bulk l : Nat)
  | [], k => ⟨Int.le_refl _, by simp [mkL, bulk_nil]⟩
  | y :: l, k => by
    have h1 := hb y k
    have h2 := mkL_bd hb l (g y k).2
    rw [bulk_cons, mkL]
    exact ⟨by dsimp only; omega, by dsimp only; omega⟩
theorem mkL_app : ∀ (l m : List α) (k : Int), mkL g (l ++ m) k = ((mkL g l k).1 ++ (mkL g m (mkL g l k).2).1, (mkL g m (mkL g l k).2).2)
  | [], m, k => rfl
  | y :: l, m, k => by rw [List.cons_append, mkL, mkL_app l]; rfl
variable [Inhabited α]
def Mk (g : α → Int → α × Int) (a : List α) (k : Int) (u : Nat) (xs : List α) (k' : Int) : Prop := u ≤ a.length ∧ xs = (mkL g (a.take u) k).1 ++ a.drop u ∧ k' = (mkL g (a.take u) k).2
variable {a xs : List α} {k k' : Int} {u : Nat}
theorem Mk.zero (a : List α) (k : Int) : Mk g a k 0 a k := ⟨Nat.zero_le _, by simp [mkL], by simp [mkL]⟩
theorem Mk.len (h : Mk g a k u xs k') : xs.length = a.length := by
  rw [h.2.1, List.length_append, mkL_len, List.length_take, List.length_drop]; have := h.1; omega
theorem Mk.nth (h : Mk g a k u xs k') (hu : u < a.length) : nth xs (u : Int) = Go.Proofs.YtndjggncgpjolaaGreat.nth a (u : Int) := by
  rw [nth_nat xs (by rw [h.len]; exact hu), nth_nat a hu]
  have hl : (mkL g (a.take u) k).1.length = u := by rw [mkL_len, List.length_take]; omega
  have := h.2.1
  subst this
  rw [List.getElem_append_right (by omega)]
  simp [hl]
theorem Mk.next (h : Mk g a k u xs k') (hu : u < a.length) {y : α} {k'' : Int} (e : g (Go.Proofs.YtndjggncgpjolaaGreat.nth a (u : Int)) k' = (y, k'')) : Mk g a k (u + 1) (xs.set u y) k'' := by
  have hl : (mkL g (a.take u) k).1.length = u := by rw [mkL_len, List.length_take]; omega
  have h1 : mkL g (a.take (u + 1)) k = ((mkL g (a.take u) k).1 ++ [y], k'') := by
    rw [take_nth a hu, mkL_snoc, ← h.2.2, e]
  refine ⟨hu, ?_, by rw [h1]⟩
  rw [h1, h.2.1, List.set_append_right _ _ (by omega), hl, Nat.sub_self, List.drop_eq_getElem_cons hu, List.set_cons_zero]
  dsimp only
  rw [List.append_assoc]; rfl
theorem Mk.bd [Bulk α] (h : Mk g a k u xs k') (hb : ∀ x k, k ≤ (g x k).2 ∧ (g x k).2 ≤ k + 8 * (1 + (bulk x : Nat))) : k ≤ k' ∧ k' ≤ k + 8 * (bulk a : Nat) := by
  have h1 := mkL_bd hb (a.take u) k
  have h2 := bulk_take a u
  rw [h.2.2]
  exact ⟨h1.1, by omega⟩
theorem Mk.full (h : Mk g a k u xs k') (hu : ¬ u < a.length) : xs = (mkL g a k).1 ∧ k' = (mkL g a k).2 := by
  have : u = a.length := by have := h.1; omega
  subst this
  obtain ⟨_, h1, h2⟩ := h
  simpa using And.intro h1 h2
def Hd (g : α → Int → α × Int) (a : List α) (k : Int) (u : Nat) (k' : Int) : Prop := u ≤ a.length ∧ k' = (mkL g (a.take u) k).2
theorem Hd.zero (a : List α) (k : Int) : Hd g a k 0 k := ⟨Nat.zero_le _, by simp [mkL]⟩
theorem Hd.nth (h : Hd g a k u k') (hu : u < a.length) : nth (mkL g a k).1 (u : Int) = (g (Go.Proofs.YtndjggncgpjolaaGreat.nth a (u : Int)) k').1 := by
  have e : a = (a.take u ++ [Go.Proofs.YtndjggncgpjolaaGreat.nth a (u : Int)]) ++ a.drop (u + 1) := by rw [← take_nth a hu, List.take_append_drop]
  have hl : (mkL g (a.take u) k).1.length = u := by rw [mkL_len, List.length_take]; omega
  rw [nth_nat _ (by rw [mkL_len]; exact hu)]
  have h1 : (mkL g a k).1[u]? = some (g (Go.Proofs.YtndjggncgpjolaaGreat.nth a (u : Int)) k').1 := by
    conv => lhs; rw [e]
    rw [mkL_app, mkL_snoc]
    dsimp only
    rw [List.append_assoc, List.getElem?_append_right (by omega), hl, Nat.sub_self, h.2]; rfl
  rw [List.getElem?_eq_getElem (by rw [mkL_len]; exact hu)] at h1
  exact Option.some.inj h1
theorem Hd.next (h : Hd g a k u k') (hu : u < a.length) : Hd g a k (u + 1) (g (Go.Proofs.YtndjggncgpjolaaGreat.nth a (u : Int)) k').2 := ⟨hu, by rw [take_nth a hu, mkL_snoc, h.2]⟩
theorem Hd.bd [Bulk α] (h : Hd g a k u k') (hb : ∀ x k, k ≤ (g x k).2 ∧ (g x k).2 ≤ k + 8 * (1 + (bulk x : Nat))) : k ≤ k' ∧ k' ≤ k + 8 * (bulk a : Nat) := by
  have h1 := mkL_bd hb (a.take u) k
  have h2 := bulk_take a u
  rw [h.2]
  exact ⟨h1.1, by omega⟩
theorem Hd.full (h : Hd g a k u k') (hu : ¬ u < a.length) : k' = (mkL g a k).2 := by
  have : u = a.length := by have := h.1; omega
  subst this
  simpa using h.2
end
theorem set_facts {α : Type} [Inhabited α] {xs ys : List α} {u : Nat} {y : α} (hu : u < xs.length) (e : ys = xs.set (Int.toNat (u : Int)) y) : nth ys (u : Int) = y ∧ ys.length = xs.length ∧ (∀ z, ys.set (Int.toNat (u : Int)) z = xs.set (Int.toNat (u : Int)) z) := by
  subst e
  rw [Int.toNat_natCast]
  exact ⟨by rw [nth_set _ hu, if_pos rfl], List.length_set, fun z => List.set_set ..⟩
def gPt (_ : Pt) (k : Int) : Pt × Int := (⟨k, k + 1⟩, k + 2)
def gTag (_ : Tag) (k : Int) : Tag × Int := (⟨tx k, tx (k + 1)⟩, k + 2)
theorem gPt_bd (x : Pt) (k : Int) : k ≤ (gPt x k).2 ∧ (gPt x k).2 ≤ k + 8 * (1 + (bulk x : Nat)) := by unfold gPt; exact ⟨by dsimp only; omega, by dsimp only; omega⟩
theorem gTag_bd (x : Tag) (k : Int) : k ≤ (gTag x k).2 ∧ (gTag x k).2 ≤ k + 8 * (1 + (bulk x : Nat)) := by unfold gTag; exact ⟨by dsimp only; omega, by dsimp only; omega⟩
def gFeat (x : Feat) (k : Int) : Feat × Int :=
  (⟨tx k, ⟨k + 1, (mkL gPt x.Shape.Pts (k + 2)).1⟩, (mkL gTag x.Tags (mkL gPt x.Shape.Pts (k + 2)).2).1⟩, (mkL gTag x.Tags (mkL gPt x.Shape.Pts (k + 2)).2).2)
theorem gFeat_bd (x : Feat) (k : Int) : k ≤ (gFeat x k).2 ∧ (gFeat x k).2 ≤ k + 8 * (1 + (bulk x : Nat)) := by
  have hb : bulk x = bulk x.Id + bulk x.Shape + bulk x.Tags := rfl
  have hs : bulk x.Shape = bulk x.Shape.Kind + bulk x.Shape.Pts := rfl
  have h1 := mkL_bd gPt_bd x.Shape.Pts (k + 2)
  have h2 := mkL_bd gTag_bd x.Tags (mkL gPt x.Shape.Pts (k + 2)).2
  unfold gFeat
  exact ⟨by dsimp only; omega, by dsimp only; omega⟩
theorem bulk_feat (x : Feat) : bulk x = bulk x.Id + (bulk x.Shape.Kind + bulk x.Shape.Pts) + bulk x.Tags := rfl
end
theorem pw_ext {α : Type} {R : α → α → Prop} (irr : ∀ x, ¬ R x x) (tr : ∀ x y z, R x y → R y z → R x z) : ∀ {l m : List α}, l.Pairwise R → m.Pairwise R → (∀ x, x ∈ l ↔ x ∈ m) → l = m
  | [], [], _, _, _ => rfl
  | [], y :: m, _, _, h => by have := (h y).2 List.mem_cons_self; cases this
  | x :: l, [], _, _, h => by have := (h x).1 List.mem_cons_self; cases this
  | x :: l, y :: m, hl, hm, h => by
    obtain ⟨l1, l2⟩ := List.pairwise_cons.1 hl
    obtain ⟨m1, m2⟩ := List.pairwise_cons.1 hm
    have e : x = y := by
      rcases List.mem_cons.1 ((h x).1 List.mem_cons_self) with e | e
      · exact e
      · rcases List.mem_cons.1 ((h y).2 List.mem_cons_self) with e' | e'
        · exact e'.symm
        · exact absurd (tr _ _ _ (m1 x e) (l1 y e')) (irr _)
    subst e
    rw [pw_ext irr tr l2 m2 fun z => ⟨fun hz => ?_, fun hz => ?_⟩]
    · rcases List.mem_cons.1 ((h z).1 (List.mem_cons_of_mem _ hz)) with e | e
      · subst e; exact absurd (l1 z hz) (irr _)
      · exact e
    · rcases List.mem_cons.1 ((h z).2 (List.mem_cons_of_mem _ hz)) with e | e
      · subst e; exact absurd (m1 z hz) (irr _)
      · exact e
def idsC (d : List Change) : List Str := d.map (·.Id)
def CS (d : List Change) : Prop := d.Pairwise fun x y => Op.bytesLess x.Id y.Id = true
theorem CS.ext {l m : List Change} (hl : CS l) (hm : CS m) (h : ∀ x, x ∈ l ↔ x ∈ m) : l = m :=
  pw_ext (R := fun x y : Change => Op.bytesLess x.Id y.Id = true) (fun x e => by rw [less_irr] at e; cases e) (fun x y z h1 h2 => less_trans h1 h2) hl hm h
theorem CS.ids {d : List Change} (h : CS d) : SS (idsC d) := List.pairwise_map.2 h
theorem findN_true {n : Nat} {c : Nat → Bool} {k : Nat} (h : findN n c = (k : Int)) : k < n ∧ c k = true := by
  unfold findN at h
  cases e : (List.range n).find? c with
  | none => rw [e] at h; dsimp only at h; omega
  | some j =>
    rw [e] at h; dsimp only at h
    have : j = k := by omega
    subst this
    exact ⟨List.mem_range.1 (List.mem_of_find?_eq_some e), List.find?_some e⟩
theorem findN_neg {n : Nat} {c : Nat → Bool} (h : findN n c < 0) : ∀ j, j < n → c j = false := fun j hj => by
  unfold findN at h
  cases e : (List.range n).find? c with
  | some k => rw [e] at h; dsimp only at h; omega
  | none =>
    have := List.find?_eq_none.1 e j (List.mem_range.2 hj)
    simpa using this
theorem CS.inj {d : List Change} (h : CS d) {x y : Change} (hx : x ∈ d) (hy : y ∈ d) (e : x.Id = y.Id) : x = y := by
  obtain ⟨i, hi, rfl⟩ := List.getElem_of_mem hx
  obtain ⟨j, hj, rfl⟩ := List.getElem_of_mem hy
  rcases Nat.lt_trichotomy i j with g | g | g
  · have := List.pairwise_iff_getElem.1 h i j hi hj g
    rw [e, less_irr] at this; cases this
  · subst g; rfl
  · have := List.pairwise_iff_getElem.1 h j i hj hi g
    rw [e, less_irr] at this; cases this
end Go.Proofs.YtndjggncgpjolaaGreat