/- It is proved here that the law FnExactFeatJoin of the given program holds whatever it is handed: the walks through the code, the plain laws and the row, in this order.
   Conditions: none. -/
import Derived.Below
import Derived.ChangeArms
import Derived.ChangeOld
import Derived.ChangeSlices
import Derived.DataReads
import Derived.Deep.Quiet
import Derived.KernelRfl
import Derived.Laws.Build
import Derived.Laws.IdiomStrings
import Derived.Laws.OwnMore
import Derived.Laws.Slices
import Derived.Laws.StructEq
import Derived.OpenShut
import Derived.ProofKit
import Derived.Shelf.Slices.Cells
import Derived.Shelf.Slices.CompactS
import Derived.Shelf.Slices.In.SortNone
import Derived.Shelf.Small.Bits
import Derived.Shelf.Sort.Plain
import Derived.Shelf.Strconv.Itoa0
import Derived.ShutString
import Derived.SizedLaws
import Derived.StillTail
import Derived.Test.YtndjggncgpjolaaProg
import Derived.Test.YtndjggncgpjolaaRows
import Derived.WalkKit
import Derived.Test.YtndjggncgpjolaaCExactFeatJoina
import Derived.Test.YtndjggncgpjolaaCExactFeatJoinb
import Derived.Test.YtndjggncgpjolaaCExactFeatJoinc
namespace Go.Proofs.Ytndjggncgpjolaa
open Go.RowKit
set_option linter.unusedVariables false
set_option linter.unusedSimpArgs false
def slices_Grow_Tag.E (n : Int) (Q : List Tag → Prop) : Prop :=
 (if decide (n < 0) then False else (I64 (0 - 0)) ∧ (I64 (n - (0 - 0))) ∧ (if decide (n - (0 - 0) > 0) then ((0 : Int) < n - (0 - 0) ∧ n - (0 - 0) ≤ (268435456 : Int)) ∧ ((0 : Int) ≤ 0 ∧ 0 ≤ ((List.replicate (n - (0 - 0)).toNat ((⟨([] : Str), ([] : Str)⟩ : Tag) : Tag)).length : Int)) ∧ Q ((List.replicate (n - (0 - 0)).toNat ((⟨([] : Str), ([] : Str)⟩ : Tag) : Tag)).take (0 : Int).toNat) else Q ([] : List Tag)))
set_option maxHeartbeats 8000000 in
set_option maxRecDepth 100000 in
theorem slices_Grow_Tag.calls {O : Ob} (w0 : World) (hO : Ok w0 O) (n : Int) (Q : List Tag → Prop) (h : slices_Grow_Tag.E n Q) :
  Ret Try.prog 142 [.slice none 0 0, vi n] w0 (fun v w' => ∃ (r0 : List Tag) (A0 : Option Addr) (n0 c0 : Nat), v = .slice A0 n0 c0 ∧ Q r0 ∧ Gr w0 w' none ∧ Ok w' ([bk A0] ++ O) ∧ (∀ b, some b ∈ [bk A0] → w0.heap.size ≤ b) ∧ Ow kTag 133 w' ([bk A0] ++ O) (.slice A0 n0 c0) r0) := by
 unfold slices_Grow_Tag.E at h
 have H := h
 clear h
 have hc0 := Ct.init hO
 refine Ret_enter Try.func142 rfl 27 rfl [.tmp 4] rfl rfl ?_
 refine W_seq ?_
 refine W_reg ?_
 refine L_pu (P_assign (.slice none 0 0) rfl) ?_
 refine L_nil ?_
 refine W_seq ?_
 refine W_seq ?_
 refine W_reg ?_
 refine L_pu (P_move (vi n) rfl) ?_
 refine L_pu (P_cmp n 0 (decide (n < 0)) rfl rfl rfl) ?_
 refine L_nil ?_
 refine W_cond (decide (n < 0)) rfl (fun hq1 => ?_) (fun hq1 => ?_)
 ·have H := ite_t H hq1
  exact False.elim H
 ·have H := ite_f H hq1
  refine W_skip ?_
  refine W_seq ?_
  refine W_seq ?_
  refine W_reg ?_
  refine L_pu (P_move (vi n) rfl) ?_
  refine L_pu (P_move (.slice none 0 0) rfl) ?_
  refine L_pu (P_capn Try.underlying69 rfl) ?_
  refine L_pu (P_move (.slice none 0 0) rfl) ?_
  refine L_pu (P_len Try.underlying69 none 0 0 rfl rfl) ?_
  obtain ⟨hb2, H⟩ := H
  refine L_pu (P_sub 0 0 rfl rfl hb2) ?_
  obtain ⟨hb3, H⟩ := H
  refine L_pu (P_sub n (0 - 0) rfl rfl hb3) ?_
  refine L_pu (P_assign (vi (n - (0 - 0))) rfl) ?_
  refine L_nil ?_
  refine W_seq ?_
  refine W_reg ?_
  refine L_pu (P_move (vi (n - (0 - 0))) rfl) ?_
  refine L_pu (P_cmp (n - (0 - 0)) 0 (decide (n - (0 - 0) > 0)) rfl rfl rfl) ?_
  refine L_nil ?_
  refine W_cond (decide (n - (0 - 0) > 0)) rfl (fun hq4 => ?_) (fun hq4 => ?_)
  ·have H := ite_t H hq4
   refine W_reg ?_
   refine L_pu (P_move (.slice none 0 0) rfl) ?_
   refine L_pu (P_move (.slice none 0 0) rfl) ?_
   refine L_pu (P_capn Try.underlying69 rfl) ?_
   refine L_pu (P_cutn Try.underlying69 se69 rfl rfl rfl) ?_
   refine L_pu (P_move (vi (n - (0 - 0))) rfl) ?_
   obtain ⟨hb5, H⟩ := H
   refine L_appz (kd := kTag) ei69 Try.underlying3 hc0 ((⟨([] : Str), ([] : Str)⟩ : Tag) : Tag) ((kTag.mk _ _ (⟨([] : Str), ([] : Str)⟩ : Tag) (by decide) (by decide))) (n - (0 - 0)) rfl rfl hb5 fun w6 A7 n8 c9 ah hr11 ab ad => ?_
   refine L_pu (P_move (.slice none 0 0) rfl) ?_
   refine L_pu (P_len Try.underlying69 none 0 0 rfl rfl) ?_
   obtain ⟨ae, H⟩ := H
   refine L_cuto Try.underlying69 se69 A7 n8 c9 (List.replicate (n - (0 - 0)).toNat ((⟨([] : Str), ([] : Str)⟩ : Tag) : Tag)) rfl ad 0 rfl rfl ae fun aa af => ?_
   refine L_pu (P_assign (.slice A7 aa c9) rfl) ?_
   refine L_nil ?_
   refine W_seq ?_
   refine W_reg ?_
   refine L_pu (P_move (.slice A7 aa c9) rfl) ?_
   refine L_pu (P_assign (.slice A7 aa c9) rfl) ?_
   refine L_nil ?_
   refine W_ret ?_
   exact ⟨[.slice A7 aa c9], ⟨_, rfl, rfl⟩, ((List.replicate (n - (0 - 0)).toNat ((⟨([] : Str), ([] : Str)⟩ : Tag) : Tag)).take (0 : Int).toNat), A7, aa, c9, rfl, H, ab.gr.g0, ab.ok, ab.ge, af⟩
  ·have H := ite_f H hq4
   refine W_skip ?_
   refine W_seq ?_
   refine W_reg ?_
   refine L_pu (P_move (.slice none 0 0) rfl) ?_
   refine L_pu (P_assign (.slice none 0 0) rfl) ?_
   refine L_nil ?_
   refine W_ret ?_
   have ac := hc0.own (Gr.refl _ none) none (by simp)
   have ag : Ow kTag 133 w0 ([bk none] ++ O) (.slice none 0 0) [] := Ow.nil _ _ _ _
   exact ⟨[.slice none 0 0], ⟨_, rfl, rfl⟩, ([] : List Tag), none, 0, 0, rfl, H, ac.gr.g0, ac.ok, ac.ge, ag⟩
end Go.Proofs.Ytndjggncgpjolaa

namespace Go.Proofs.Ytndjggncgpjolaa
open Go.RowKit
set_option linter.unusedVariables false
set_option linter.unusedSimpArgs false
def slices_Concat_Tag.E (slices : List (List Tag)) (Q : List Tag → Prop) : Prop :=
 (∃ (I19 : Int → Int → Prop) (mu20 : Int → Int → Nat), I19 0 0 ∧ ∀ (size2 : Int) (v2 : Int), I19 size2 v2 → (if decide (v2 < (slices.length : Int)) then ((0 : Int) ≤ v2 ∧ v2 < (slices.length : Int)) ∧ (((nth slices v2).length : Int) ≤ 9223372036854775807 → I64 (size2 + ((nth slices v2).length : Int))) ∧ (if decide (size2 + ((nth slices v2).length : Int) < 0) then False else (((nth slices v2).length : Int) ≤ 9223372036854775807 → I64 (v2 + 1)) ∧ I19 (size2 + ((nth slices v2).length : Int)) (v2 + 1) ∧ mu20 (size2 + ((nth slices v2).length : Int)) (v2 + 1) < mu20 size2 v2) else slices_Grow_Tag.E size2 (fun r => (∃ (I83 : (List Tag) → Int → Prop) (mu84 : (List Tag) → Int → Nat), I83 r 0 ∧ ∀ (xs2 : List Tag) (v4 : Int), I83 xs2 v4 → (if decide (v4 < (slices.length : Int)) then ((0 : Int) ≤ v4 ∧ v4 < (slices.length : Int)) ∧ (xs2.length + (nth slices v4).length ≤ 268435456) ∧ (I64 (v4 + 1)) ∧ I83 (xs2 ++ (nth slices v4)) (v4 + 1) ∧ mu84 (xs2 ++ (nth slices v4)) (v4 + 1) < mu84 xs2 v4 else Q xs2)))))
set_option maxHeartbeats 8000000 in
set_option maxRecDepth 100000 in
theorem slices_Concat_Tag.calls {O : Ob} (w0 : World) (hO : Ok w0 O) (slices : List (List Tag)) (A1 : Option Addr) (n2 c3 : Nat) (hp4 : Sl (Kd.sl kTag) w0 (Fr O) (.slice A1 n2 c3) slices) (Q : List Tag → Prop) (h : slices_Concat_Tag.E slices Q) :
  Ret Try.prog 98 [.slice A1 n2 c3] w0 (fun v w' => ∃ (r0 : List Tag) (A0 : Option Addr) (n0 c0 : Nat), v = .slice A0 n0 c0 ∧ Q r0 ∧ Gr w0 w' none ∧ Ok w' ([bk A0] ++ O) ∧ (∀ b, some b ∈ [bk A0] → w0.heap.size ≤ b) ∧ Ow kTag 133 w' ([bk A0] ++ O) (.slice A0 n0 c0) r0) := by
 unfold slices_Concat_Tag.E at h
 have H := h
 clear h
 have hc0 := Ct.init hO
 refine Ret_enter Try.func98 rfl 36 rfl [.tmp 2] rfl rfl ?_
 refine W_seq ?_
 refine W_reg ?_
 refine L_pu (P_assign (.slice none 0 0) rfl) ?_
 refine L_nil ?_
 refine W_seq ?_
 refine W_reg ?_
 refine L_pu (P_assign (vi 0) rfl) ?_
 refine L_nil ?_
 refine W_seq ?_
 refine W_seq ?_
 refine W_reg ?_
 refine L_pu (P_move (.slice A1 n2 c3) rfl) ?_
 have hl6 := hp4.le
 refine L_pu (P_len Try.underlying175 A1 n2 c3 hp4.len rfl) ?_
 refine L_pu (P_move (vi 0) rfl) ?_
 refine L_nil ?_
 refine W_block ?_
 obtain ⟨bc, bd, ao, H⟩ := H
 refine W_loop (α := Int × Int) (fun (sv__ : Int × Int) t ae => match sv__ with | (size2, v2) => bc size2 v2 ∧ Has t [(0, .slice A1 n2 c3), (3, vi size2), (9, .slice A1 n2 c3), (10, vi (slices.length : Int)), (11, vi v2)] ∧ Ct [] w0 ae [] O ∧ Sl (Kd.sl kTag) ae (Fr ([] ++ O)) (.slice A1 n2 c3) slices) (fun (sv__ : Int × Int) => match sv__ with | (size2, v2) => bd size2 v2) (0, 0) ⟨ao, ⟨rfl, rfl, rfl, rfl, rfl, trivial⟩, hc0, hp4⟩ ?_
 rintro ⟨size2, v2⟩ _ ae ⟨ao, be, af, ad⟩
 obtain ⟨b7, rfl⟩ := Has.ins be
 have H := H size2 v2 ao
 refine W_seq ?_
 refine W_reg ?_
 refine L_pu (P_cmp v2 (slices.length : Int) (decide (v2 < (slices.length : Int))) rfl rfl rfl) ?_
 refine L_nil ?_
 refine W_seq ?_
 refine W_cond (decide (v2 < (slices.length : Int))) rfl (fun ap => ?_) (fun ap => ?_)
 ·have H := ite_t H ap
  refine W_skip ?_
  refine W_seq ?_
  refine W_block ?_
  refine W_seq ?_
  refine W_reg ?_
  obtain ⟨ax, H⟩ := H
  obtain ⟨ay, b8, bf, b9, bg, bh⟩ := ad.get default (by decide) v2 ax
  obtain ⟨ag, ah, ai, rfl, az⟩ := Kd.sl.op bg
  refine L_pu (P_ia Try.underlying175 se175 A1 ay n2 c3 ad.len v2 rfl bf rfl ax) ?_
  refine L_pu (P_ld ag69 cL (ay.add (v2.toNat * 1)) (.slice ag ah ai) rfl (bh 0 _ rfl)) ?_
  refine L_pu (P_assign (.slice ag ah ai) rfl) ?_
  refine L_nil ?_
  refine W_seq ?_
  refine W_reg ?_
  refine L_pu (P_move (vi size2) rfl) ?_
  refine L_pu (P_move (.slice ag ah ai) rfl) ?_
  have a0 := az.le
  refine L_pu (P_len Try.underlying69 ag ah ai az.len rfl) ?_
  obtain ⟨bi, H⟩ := H
  have bj := bi (len_le a0)
  refine L_pu (P_add size2 ((nth slices v2).length : Int) rfl rfl bj) ?_
  refine L_pu (P_assign (vi (size2 + ((nth slices v2).length : Int))) rfl) ?_
  refine L_nil ?_
  refine W_seq ?_
  refine W_reg ?_
  refine L_pu (P_move (vi (size2 + ((nth slices v2).length : Int))) rfl) ?_
  refine L_pu (P_cmp (size2 + ((nth slices v2).length : Int)) 0 (decide (size2 + ((nth slices v2).length : Int) < 0)) rfl rfl rfl) ?_
  refine L_nil ?_
  refine W_cond (decide (size2 + ((nth slices v2).length : Int) < 0)) rfl (fun aq => ?_) (fun aq => ?_)
  ·have H := ite_t H aq
   exact False.elim H
  ·have H := ite_f H aq
   refine W_skip ?_
   refine W_reg ?_
   obtain ⟨bl, H⟩ := H
   have bm := bl (len_le a0)
   refine L_pu (P_add v2 1 rfl rfl bm) ?_
   refine L_pu (P_move (vi (v2 + 1)) rfl) ?_
   refine L_nil ?_
   obtain ⟨bn, bo⟩ := H
   exact ⟨(size2 + ((nth slices v2).length : Int), v2 + 1), bo, bn, ⟨rfl, rfl, rfl, rfl, rfl, trivial⟩, af, ad⟩
 ·have H := ite_f H ap
  refine W_exit (xin_hit ?_)
  refine W_seq ?_
  refine W_reg ?_
  refine L_pu (P_move (vi size2) rfl) ?_
  refine L_call go142 [.slice none 0 0, vi size2] rfl ((slices_Grow_Tag.calls ae af.ok size2 _ H).mono ?_)
  rintro _ ca ⟨r, a1, a2, a3, rfl, H, a4, bp, a5, bq⟩
  have br := af.owns a4 bp a5
  refine L_pu (P_assign (.slice a1 a2 a3) rfl) ?_
  refine L_nil ?_
  refine W_seq ?_
  refine W_seq ?_
  refine W_reg ?_
  refine L_pu (P_move (.slice A1 n2 c3) rfl) ?_
  have ar := af.stos a4 a5
  have cb := (ad.st ar).le
  refine L_pu (P_len Try.underlying175 A1 n2 c3 (ad.st ar).len rfl) ?_
  refine L_pu (P_move (vi 0) rfl) ?_
  refine L_nil ?_
  refine W_block ?_
  obtain ⟨bs, bt, au, H⟩ := H
  refine W_loop (α := (List Tag) × (Option Addr) × Nat × Nat × Int) (fun (sv__ : (List Tag) × (Option Addr) × Nat × Nat × Int) t aj => match sv__ with | (xs2, aa, ab, ac, v4) => bs xs2 v4 ∧ Has t [(6, .slice aa ab ac), (25, .slice A1 n2 c3), (26, vi (slices.length : Int)), (27, vi v4)] ∧ Ct [] w0 aj [bk aa] O ∧ Sl (Kd.sl kTag) aj (Fr ([bk aa] ++ O)) (.slice A1 n2 c3) slices ∧ Ow kTag 133 aj ([bk aa] ++ O) (.slice aa ab ac) xs2) (fun (sv__ : (List Tag) × (Option Addr) × Nat × Nat × Int) => match sv__ with | (xs2, _, _, _, v4) => bt xs2 v4) (r, a1, a2, a3, 0) ⟨au, ⟨rfl, rfl, rfl, rfl, trivial⟩, br, (ad.st ar), bq⟩ ?_
  rintro ⟨xs2, aa, ab, ac, v4⟩ _ aj ⟨au, bu, ak, av, a6⟩
  obtain ⟨cc, rfl⟩ := Has.ins bu
  have H := H xs2 v4 au
  refine W_seq ?_
  refine W_reg ?_
  refine L_pu (P_cmp v4 (slices.length : Int) (decide (v4 < (slices.length : Int))) rfl rfl rfl) ?_
  refine L_nil ?_
  refine W_seq ?_
  refine W_cond (decide (v4 < (slices.length : Int))) rfl (fun aw => ?_) (fun aw => ?_)
  ·have H := ite_t H aw
   refine W_skip ?_
   refine W_seq ?_
   refine W_block ?_
   refine W_seq ?_
   refine W_reg ?_
   obtain ⟨a7, H⟩ := H
   obtain ⟨a8, cd, bv, ce, bw, bx⟩ := av.get default (by decide) v4 a7
   obtain ⟨al, am, an, rfl, bz⟩ := Kd.sl.op bw
   refine L_pu (P_ia Try.underlying175 se175 A1 a8 n2 c3 av.len v4 rfl bv rfl a7) ?_
   refine L_pu (P_ld ag69 cL (a8.add (v4.toNat * 1)) (.slice al am an) rfl (bx 0 _ rfl)) ?_
   refine L_pu (P_assign (.slice al am an) rfl) ?_
   refine L_nil ?_
   refine W_reg ?_
   refine L_pu (P_move (.slice aa ab ac) rfl) ?_
   refine L_pu (P_move (.slice al am an) rfl) ?_
   obtain ⟨b0, H⟩ := H
   refine L_app ei69 ak (.slice aa ab ac) xs2 (nth slices v4) rfl a6 (.slice al am an) rfl bz.sx 0 rfl b0 fun cf a9 ba bb cg b1 b2 b3 => ?_
   refine L_pu (P_assign (.slice a9 ba bb) rfl) ?_
   refine L_nil ?_
   refine W_reg ?_
   obtain ⟨b4, H⟩ := H
   refine L_pu (P_add v4 1 rfl rfl b4) ?_
   refine L_pu (P_move (vi (v4 + 1)) rfl) ?_
   refine L_nil ?_
   obtain ⟨b5, b6⟩ := H
   exact ⟨((xs2 ++ (nth slices v4)), a9, ba, bb, v4 + 1), b6, b5, ⟨rfl, rfl, rfl, rfl, trivial⟩, b2, (av.st b1), b3⟩
  ·have H := ite_f H aw
   refine W_exit (xin_hit ?_)
   refine W_seq ?_
   refine W_reg ?_
   refine L_pu (P_move (.slice aa ab ac) rfl) ?_
   refine L_pu (P_assign (.slice aa ab ac) rfl) ?_
   refine L_nil ?_
   refine W_ret ?_
   exact ⟨[.slice aa ab ac], ⟨_, rfl, rfl⟩, xs2, aa, ab, ac, rfl, H, ak.gr.g0, ak.ok, ak.ge, a6⟩
end Go.Proofs.Ytndjggncgpjolaa

namespace Go.Proofs
open Go.Shelf
def Try.lays190_ren : Go.Shelf.Ren := ⟨fun | 190 => 83 | 125 => 128 | 258 => 127 | 128 => 163 | 129 => 164 | 302 => 154 | 303 => 155 | 304 => 156 | 305 => 157 | 306 => 158 | 307 => 159 | 308 => 160 | 309 => 161 | 310 => 162 | 333 => 173 | 329 => 174 | 330 => 175 | 334 => 176 | 335 => 177 | 336 => 178 | 344 => 180 | n => n, fun | 31 => 72 | 9 => 9 | 3 => 3 | 46 => 162 | 0 => 0 | 51 => 193 | 53 => 195 | 4 => 4 | 183 => 185 | 182 => 184 | 131 => 190 | 5 => 5 | 218 => 205 | 222 => 209 | 228 => 212 | 229 => 213 | n => n, fun | n => n⟩
theorem Try.lays190 : Go.Proofs.Lays.n190 Try.prog Try.lays190_ren := {
  mixed := by kernel_rfl
  f125 := Try.func128.trans (congrArg some (by kernel_rfl))
  f128 := Try.func163.trans (congrArg some (by kernel_rfl))
  f129 := Try.func164.trans (congrArg some (by kernel_rfl))
  f190 := Try.func83.trans (congrArg some (by kernel_rfl))
  f258 := Try.func127.trans (congrArg some (by kernel_rfl))
  f302 := Try.func154.trans (congrArg some (by kernel_rfl))
  f303 := Try.func155.trans (congrArg some (by kernel_rfl))
  f304 := Try.func156.trans (congrArg some (by kernel_rfl))
  f305 := Try.func157.trans (congrArg some (by kernel_rfl))
  f306 := Try.func158.trans (congrArg some (by kernel_rfl))
  f307 := Try.func159.trans (congrArg some (by kernel_rfl))
  f308 := Try.func160.trans (congrArg some (by kernel_rfl))
  f309 := Try.func161.trans (congrArg some (by kernel_rfl))
  f310 := Try.func162.trans (congrArg some (by kernel_rfl))
  f329 := Try.func174.trans (congrArg some (by kernel_rfl))
  f330 := Try.func175.trans (congrArg some (by kernel_rfl))
  f333 := Try.func173.trans (congrArg some (by kernel_rfl))
  f334 := Try.func176.trans (congrArg some (by kernel_rfl))
  f335 := Try.func177.trans (congrArg some (by kernel_rfl))
  f336 := Try.func178.trans (congrArg some (by kernel_rfl))
  f344 := Try.func180.trans (congrArg some (by kernel_rfl))
  t0 := Try.underlying0
  a0 := Try.isAgg0
  z0 := Try.sizeOf0
  v0 := Try.zeroValue0
  t3 := Try.underlying3
  a3 := Try.isAgg3
  z3 := Try.sizeOf3
  v3 := Try.zeroValue3
  t4 := Try.underlying4
  a4 := Try.isAgg4
  z4 := Try.sizeOf4
  v4 := Try.zeroValue4
  t5 := Try.underlying5
  a5 := Try.isAgg5
  z5 := Try.sizeOf5
  v5 := Try.zeroValue5
  t9 := Try.underlying9
  a9 := Try.isAgg9
  z9 := Try.sizeOf9
  v9 := Try.zeroValue9
  t31 := Try.underlying72
  a31 := Try.isAgg72
  z31 := Try.sizeOf72
  v31 := Try.zeroValue72
  t46 := Try.underlying162
  a46 := Try.isAgg162
  z46 := Try.sizeOf162
  v46 := Try.zeroValue162
  t51 := Try.underlying193
  a51 := Try.isAgg193
  z51 := Try.sizeOf193
  v51 := Try.zeroValue193
  t53 := Try.underlying195
  a53 := Try.isAgg195
  z53 := Try.sizeOf195
  v53 := Try.zeroValue195
  t131 := Try.underlying190
  a131 := Try.isAgg190
  z131 := Try.sizeOf190
  v131 := Try.zeroValue190
  t182 := Try.underlying184
  a182 := Try.isAgg184
  z182 := Try.sizeOf184
  v182 := Try.zeroValue184
  t183 := Try.underlying185
  a183 := Try.isAgg185
  z183 := Try.sizeOf185
  v183 := Try.zeroValue185
  t218 := Try.underlying205
  a218 := Try.isAgg205
  z218 := Try.sizeOf205
  v218 := Try.zeroValue205
  t222 := Try.underlying209
  a222 := Try.isAgg209
  z222 := Try.sizeOf209
  v222 := Try.zeroValue209
  t228 := Try.underlying212
  a228 := Try.isAgg212
  z228 := Try.sizeOf212
  v228 := Try.zeroValue212
  t229 := Try.underlying213
  a229 := Try.isAgg213
  z229 := Try.sizeOf213
  v229 := Try.zeroValue213 }
open Go.Sort Go.RowKit in
theorem Try.slices_Sort_string (blk off cap : Nat) (ss : List (List UInt8)) (w : World) (hH : Holds encStr w blk off ss.toArray) (hblk : blk < w.heap.size) (hsz : ss.length < 4611686018427387904) :
    Calls Try.prog 83 #[.slice (some ⟨blk, off, none⟩) ss.length cap] w fun e w' =>
      e = .returned (.tuple #[]) ∧ ∃ n os, w' = grow (putRow encStr (Sort.ahead w n) blk off (ss.mergeSort fun x y => decide (x ≤ y)).toArray) os := Any.slices_Sort_string Try.lays190 blk off cap ss w hH hblk hsz
def Try.lays194_ren : Go.Shelf.Ren := ⟨fun | 194 => 84 | n => n, fun | 31 => 72 | 9 => 9 | 3 => 3 | 4 => 4 | 0 => 0 | n => n, fun | n => n⟩
theorem Try.lays194 : Go.Proofs.Lays.n194 Try.prog Try.lays194_ren := {
  mixed := by kernel_rfl
  f194 := Try.func84.trans (congrArg some (by kernel_rfl))
  t0 := Try.underlying0
  a0 := Try.isAgg0
  z0 := Try.sizeOf0
  v0 := Try.zeroValue0
  t3 := Try.underlying3
  a3 := Try.isAgg3
  z3 := Try.sizeOf3
  v3 := Try.zeroValue3
  t4 := Try.underlying4
  a4 := Try.isAgg4
  z4 := Try.sizeOf4
  v4 := Try.zeroValue4
  t9 := Try.underlying9
  a9 := Try.isAgg9
  z9 := Try.sizeOf9
  v9 := Try.zeroValue9
  t31 := Try.underlying72
  a31 := Try.isAgg72
  z31 := Try.sizeOf72
  v31 := Try.zeroValue72 }
open Go.RowKit Go.Lib Go.Sort in
open Go.RowKit Go.Lib Go.Sort in
theorem Try.slices_Compact_string (blk off cap : Nat) (zs : List (List UInt8)) (w : World) (hH : Holds encStr w blk off zs.toArray) (hsz : zs.length ≤ 9223372036854775807) (hcap : zs.length ≤ cap) :
    Calls Try.prog 84 #[.slice (some ⟨blk, off, none⟩) zs.length cap] w fun e w' => e = .returned (.slice (some ⟨blk, off, none⟩) (Lib.compact zs).length cap) ∧ ∃ q, w' = putRow encStr (Sort.ahead w q) blk off (Lib.compact zs ++ List.replicate (zs.length - (Lib.compact zs).length) []).toArray := Any.slices_Compact_string Try.lays194 blk off cap zs w hH hsz hcap
open Go.RowKit Go.Lib Go.Sort in
theorem Try.slices_Compact_string_empty (a : Option Addr) (cap : Nat) (w : World) :
    Calls Try.prog 84 #[.slice a 0 cap] w fun e w' => e = .returned (.slice a 0 cap) ∧ w' = w := Any.slices_Compact_string_empty Try.lays194 a cap w
open Go.RowKit Go.Lib Go.Sort in
open Go.RowKit Go.Sort in
theorem Try.slices_Sort_string_none (p : Option Addr) (cap : Nat) (w : World) :
    Calls Try.prog 83 #[.slice p 0 cap] w fun e w' => e = .returned (.tuple #[]) ∧ w' = w := Any.slices_Sort_string_none Try.lays190 p cap w
end Go.Proofs

namespace Go.Proofs.Ytndjggncgpjolaa
open Go.RowKit Go.Shelf Go.Sort Go.Lib
set_option linter.unusedSimpArgs false
set_option linter.unusedVariables false
theorem strs_arr {w : World} {S : Sp} : ∀ {xs : List Str} {cs : List Value}, Arr Kd.str w S xs cs → cs = xs.map vs ∧ ∀ x ∈ xs, Lim x
  | [], _, h => ⟨h, fun x hx => by cases hx⟩
  | x :: xs, _, ⟨c1, c2, e, h1, h2⟩ => by
    obtain ⟨e2, h3⟩ := strs_arr h2
    refine ⟨by rw [e, h1.1, e2]; rfl, fun y hy => ?_⟩
    rcases List.mem_cons.1 hy with rfl | hy
    · exact h1.2
    · exact h3 y hy
theorem arr_strs {w : World} {S : Sp} : ∀ {xs : List Str}, (∀ x ∈ xs, Lim x) → Arr Kd.str w S xs (xs.map vs)
  | [], _ => rfl
  | x :: xs, h => ⟨[vs x], xs.map vs, rfl, ⟨rfl, h x List.mem_cons_self⟩, arr_strs fun y hy => h y (List.mem_cons_of_mem _ hy)⟩
theorem heap_put (w : World) (q g : Nat) (ys : List Str) (os : Array Obj) (b : Nat) (hb : b < w.heap.size) (hne : b ≠ g) : (grow (putRow encStr (Sort.ahead w q) g 0 ys.toArray) os).heap[b]? = w.heap[b]? := by
  have h1 : (w.heap.modify g (onCells (putCells encStr 0 ys.toArray))).size = w.heap.size := Array.size_modify
  simp only [grow, putRow, mapBlock, Sort.ahead]
  rw [Array.getElem?_append_left (by rw [h1]; exact hb), Array.getElem?_modify, if_neg (fun e => hne e.symm)]
theorem Ow.putS {e : TypeId} {w : World} {O : Ob} {g n c : Nat} {xs : List Str} (h : Ow Kd.str e w O (.slice (some ⟨g, 0, none⟩) n c) xs) (ys : List Str) (hl : ys.length = xs.length) (hy : ∀ y ∈ ys, Lim y) (q : Nat) (os : Array Obj) (hx : 0 < xs.length) :
    Gr w (grow (putRow encStr (Sort.ahead w q) g 0 ys.toArray) os) (some g) ∧ Ow Kd.str e (grow (putRow encStr (Sort.ahead w q) g 0 ys.toArray) os) O (.slice (some ⟨g, 0, none⟩) n c) ys := by
  have hgl := h.ltb g rfl
  have h1 : (w.heap.modify g (onCells (putCells encStr 0 ys.toArray))).size = w.heap.size := Array.size_modify
  refine ⟨⟨rfl, rfl, rfl, ?_, fun b hb hn => heap_put w q g ys os b hb fun e => hn (by rw [e])⟩, ?_⟩
  · simp only [grow, putRow, mapBlock, Sort.ahead, Array.size_append, h1]; omega
  obtain ⟨cells, o1, o2, o3⟩ := h
  rcases o1.2 with ⟨_, e'⟩ | ⟨g', cap, cur, ev, h0, hg, hle, hmx, hcur, htake⟩
  · omega
  · cases ev
    have hk : Kd.str.sz = 1 := rfl
    refine ⟨ys.map vs, ⟨by rw [List.length_map, hk, Nat.mul_one], .inr ⟨g, c, putCells encStr 0 ys.toArray cur, by rw [hl], h0, ?_, by rw [hl]; exact hle, hmx, ?_, ?_⟩⟩, arr_strs hy, o3⟩
    · simp only [grow, putRow, mapBlock, Sort.ahead]
      rw [Array.getElem?_append_left (by rw [h1]; exact hgl), Array.getElem?_modify, if_pos rfl, hg]; rfl
    · rw [putCells, Array.size_mapIdx]; exact hcur
    · rw [hk, Nat.mul_one]
      have hc1 : xs.length ≤ cur.size := by rw [hcur, hk, Nat.mul_one]; exact hle
      apply List.ext_getElem?
      intro j
      rw [List.getElem?_take, List.getElem?_map]
      by_cases hj : j < ys.length
      · rw [if_pos hj, putCells, Array.getElem?_toList, Array.getElem?_mapIdx, Array.getElem?_eq_getElem (by omega), List.getElem?_eq_getElem hj]
        simp only [Option.map_some, Nat.zero_le, true_and, Nat.zero_add, List.size_toArray, hj, if_true, Nat.sub_zero]
        simp [hj]
      · rw [if_neg hj, List.getElem?_eq_none (by omega)]; rfl
theorem Ow.holds {e : TypeId} {w : World} {O : Ob} {g n c : Nat} {xs : List Str} (h : Ow Kd.str e w O (.slice (some ⟨g, 0, none⟩) n c) xs) : Holds encStr w g 0 xs.toArray := by
  obtain ⟨cells, o1, o2, o3⟩ := h
  obtain ⟨e2, _⟩ := strs_arr o2
  intro j hj
  simp only [List.size_toArray] at hj
  rcases o1.2 with ⟨_, e'⟩ | ⟨g', cap, cur, ev, h0, hg, hle, hmx, hcur, htake⟩
  · omega
  · cases ev
    have hc := World.ownsRow.cells o1 (g := g) rfl j (vs xs[j]) (by rw [e2]; simp [hj])
    have ha : (⟨g, 0, none⟩ : Addr).add j = ⟨g, 0 + j, none⟩ := by unfold Addr.add; split <;> simp_all
    rw [ha] at hc
    refine ⟨by rw [hc]; simp [hj], ?_⟩
    simp [World.frozen?, hg]
def sortS (xs : List Str) : List Str := xs.mergeSort fun x y => decide (x ≤ y)
theorem Ow.form {e : TypeId} {w : World} {O : Ob} {A : Option Addr} {n c : Nat} {xs : List Str} (h : Ow Kd.str e w O (.slice A n c) xs) (hx : 0 < xs.length) : ∃ g, A = some ⟨g, 0, none⟩ ∧ n = xs.length ∧ xs.length ≤ c ∧ g < w.heap.size := by
  obtain ⟨cells, o1, o2, o3⟩ := h
  rcases o1.2 with ⟨_, e'⟩ | ⟨g', cap, cur, ev, h0, hg, hle, hmx, hcur, htake⟩
  · omega
  · cases ev; exact ⟨g', rfl, rfl, hle, (Array.getElem?_eq_some_iff.1 hg).1⟩
theorem Ow.lims {e : TypeId} {w : World} {O : Ob} {v : Value} {xs : List Str} (h : Ow Kd.str e w O v xs) : ∀ x ∈ xs, Lim x := by
  obtain ⟨cells, o1, o2, o3⟩ := h
  exact (strs_arr o2).2
end Go.Proofs.Ytndjggncgpjolaa

namespace Go.Proofs.Ytndjggncgpjolaa
open Go.RowKit
set_option linter.unusedVariables false
set_option linter.unusedSimpArgs false
open Go.Shelf Go.Sort Go.Lib
def slices_Sort_string.E (x : List Str) (Q : List Str → Prop) : Prop := x.length ≤ 268435456 ∧ Q (sortS x)
theorem slices_Sort_string.calls {O : Ob} (w0 : World) (hO : Ok w0 O) (A : Option Addr) (n c : Nat) (x : List Str) (hp : Ow Kd.str 9 w0 O (.slice A n c) x) (Q : List Str → Prop) (h : slices_Sort_string.E x Q) :
  Ret Try.prog 83 [.slice A n c] w0 (fun v w' => ∃ (m0 : List Str), v = .tuple #[] ∧ Q m0 ∧ Gr w0 w' (blk (.slice A n c)) ∧ Ow Kd.str 9 w' O (.slice A n c) m0) := by
 obtain ⟨hl, hq⟩ := h
 by_cases hx : 0 < x.length
 ·obtain ⟨g, rfl, rfl, hc, hg⟩ := hp.form hx
  refine Calls.mono (Try.slices_Sort_string g 0 c x w0 hp.holds hg (by omega)) fun e w' ⟨he, q, os, hw⟩ => ?_
  subst he; subst hw
  have hs : (sortS x).length = x.length := List.length_mergeSort _
  obtain ⟨h1, h2⟩ := hp.putS (sortS x) hs (fun y hy => hp.lims y (List.mem_mergeSort.1 hy)) q os hx
  exact ⟨_, rfl, sortS x, rfl, hq, h1, h2⟩
 ·have e0 : x = [] := List.length_eq_zero_iff.1 (by omega)
  subst e0
  obtain rfl : n = 0 := hp.len
  refine Calls.mono (Try.slices_Sort_string_none A c w0) fun e w' ⟨he, hw⟩ => ?_
  subst he; subst hw
  exact ⟨_, rfl, [], rfl, (by simpa [sortS] using hq), Gr.refl _ _, hp⟩
end Go.Proofs.Ytndjggncgpjolaa

namespace Go.Proofs.Ytndjggncgpjolaa
open Go.RowKit
set_option linter.unusedVariables false
set_option linter.unusedSimpArgs false
open Go.Shelf Go.Sort Go.Lib
def slices_Compact_string.E (x : List Str) (Q : List Str → Prop) : Prop := x.length ≤ 268435456 ∧ Q (Lib.compact x)
theorem compact_le (x : List Str) : (Lib.compact x).length ≤ x.length := by
 unfold Lib.compact Lib.compactUpTo
 rw [List.length_map]
 exact Nat.le_trans (List.length_filter_le _ _) (by rw [List.length_range]; exact Nat.le_refl _)
theorem compact_mem {x : List Str} {y : Str} (h : y ∈ Lib.compact x) : y ∈ x := by
 unfold Lib.compact Lib.compactUpTo at h
 obtain ⟨j, hj, rfl⟩ := List.mem_map.1 h
 have hl : j < x.length := List.mem_range.1 (List.mem_filter.1 hj).1
 simp [hl]
theorem slices_Compact_string.calls {O : Ob} (w0 : World) (hO : Ok w0 O) (A : Option Addr) (n c : Nat) (x : List Str) (hp : Ow Kd.str 9 w0 O (.slice A n c) x) (Q : List Str → Prop) (h : slices_Compact_string.E x Q) :
  Ret Try.prog 84 [.slice A n c] w0 (fun v w' => ∃ (m0 : List Str) (l : Nat), v = .slice A l c ∧ Q m0 ∧ Gr w0 w' (blk (.slice A n c)) ∧ Ow Kd.str 9 w' O (.slice A l c) m0) := by
 obtain ⟨hl, hq⟩ := h
 by_cases hx : 0 < x.length
 ·obtain ⟨g, rfl, rfl, hc, hg⟩ := hp.form hx
  refine Calls.mono (Try.slices_Compact_string g 0 c x w0 hp.holds (by omega) hc) fun e w' ⟨he, q, hw⟩ => ?_
  have hcl := compact_le x
  rw [← grow_empty (putRow encStr (Sort.ahead w0 q) g 0 _)] at hw
  subst he; subst hw
  obtain ⟨h1, h2⟩ := hp.putS (Lib.compact x ++ List.replicate (x.length - (Lib.compact x).length) []) (by rw [List.length_append, List.length_replicate]; omega) (fun y hy => by
   rcases List.mem_append.1 hy with hy | hy
   ·exact hp.lims y (compact_mem hy)
   ·rw [List.eq_of_mem_replicate hy]; decide) q #[] hx
  have h3 := h2.cut (Lib.compact x).length (by rw [List.length_append]; omega)
  rw [List.take_left'] at h3
  ·exact ⟨_, rfl, Lib.compact x, _, rfl, hq, h1, h3⟩
  ·rfl
 ·have e0 : x = [] := List.length_eq_zero_iff.1 (by omega)
  subst e0
  obtain rfl : n = 0 := hp.len
  refine Calls.mono (Try.slices_Compact_string_empty A c w0) fun e w' ⟨he, hw⟩ => ?_
  subst he; subst hw
  exact ⟨_, rfl, [], _, rfl, hq, Gr.refl _ _, hp⟩
end Go.Proofs.Ytndjggncgpjolaa

namespace Go.Proofs.Ytndjggncgpjolaa
open Go.RowKit
set_option linter.unusedVariables false
set_option linter.unusedSimpArgs false
def impl_Feat_tag_1.E (t_ : Tag) (fv2 : Str) (Q : Bool → Prop) : Prop :=
 Q (t_.Key == fv2)
set_option maxHeartbeats 8000000 in
set_option maxRecDepth 100000 in
theorem impl_Feat_tag_1.calls {O : Ob} (w0 : World) (hO : Ok w0 O) (t_ : Tag) (hs1 : Lim t_.Key) (hs2 : Lim t_.Val) (b : Nat) (fv2 : Str) (hs4 : Lim fv2) (hp1 : Fb w0 O b [vs fv2]) (Q : Bool → Prop) (h : impl_Feat_tag_1.E t_ fv2 Q) :
  Ret Try.prog 170 [.agg #[vs t_.Key, vs t_.Val], .pointer (some ⟨b, 0, none⟩)] w0 (fun v w' => ∃ (r0 : Bool), v = vb r0 ∧ Q r0 ∧ Gr w0 w' none) := by
 unfold impl_Feat_tag_1.E at h
 have H := h
 clear h
 have hc0 := Ct.init hO
 refine Ret_enter Try.func170 rfl 8 rfl [.tmp 3] rfl rfl ?_
 refine W_seq ?_
 refine W_reg ?_
 refine L_box [vs t_.Key, vs t_.Val] rfl fun w5 b6 hl8 hu9 g7 ab => ?_
 have ac := Fb.mk hc0.ok hl8 ab
 have aa := hc0.k0 g7
 refine L_pu (P_assign (vb false) rfl) ?_
 refine L_nil ?_
 refine W_seq ?_
 refine W_reg ?_
 refine L_pu (P_fa fa133_0 ⟨b6, 0, none⟩ ⟨b6, 0, none⟩ rfl rfl) ?_
 refine L_pu (P_ld ag9 cL ⟨b6, 0, none⟩ (vs t_.Key) rfl (ac.cell rfl)) ?_
 have ad := (hp1.st aa.st)
 refine L_pu (P_ld ag9 cL ⟨b, 0, none⟩ (vs fv2) rfl (ad.cell rfl)) ?_
 refine L_pu (P_scmp t_.Key fv2 (t_.Key == fv2) rfl rfl rfl) ?_
 refine L_pu (P_assign (vb (t_.Key == fv2)) rfl) ?_
 refine L_nil ?_
 refine W_ret ?_
 exact ⟨[vb (t_.Key == fv2)], ⟨_, rfl, rfl⟩, t_.Key == fv2, rfl, H, aa.gr.g0⟩
end Go.Proofs.Ytndjggncgpjolaa

namespace Go.Proofs.Ytndjggncgpjolaa
open Go.RowKit
set_option linter.unusedVariables false
set_option linter.unusedSimpArgs false
def slices_IndexFunc_Tag.E (s : List Tag) (f : Tag → Bool) (f_ok : Tag → Prop) (Q : Int → Prop) : Prop :=
 (∃ (I23 : Int → Prop) (mu24 : Int → Nat), I23 0 ∧ ∀ (v2 : Int), I23 v2 → (if decide (v2 < (s.length : Int)) then ((0 : Int) ≤ v2 ∧ v2 < (s.length : Int)) ∧ (f_ok (nth s v2)) ∧ (if (f (nth s v2)) then Q v2 else (I64 (v2 + 1)) ∧ I23 (v2 + 1) ∧ mu24 (v2 + 1) < mu24 v2) else Q (-1)))
set_option maxHeartbeats 8000000 in
set_option maxRecDepth 100000 in
theorem slices_IndexFunc_Tag.calls {O : Ob} (w0 : World) (hO : Ok w0 O) (s : List Tag) (A1 : Option Addr) (n2 c3 : Nat) (hp4 : Sl kTag w0 (Fr O) (.slice A1 n2 c3) s) (fg6 : FuncId) (fc7 : List Value) (f : Tag → Bool) (f_ok : Tag → Prop) (hgo8 : Goes Try.prog fg6) (hf9 : ∀ (w : World) (L : Ob), Ct [] w0 w L O → ∀ (x0_ : Tag) (az : Lim x0_.Key) (a0 : Lim x0_.Val), f_ok x0_ → Ret Try.prog fg6 ([.agg #[vs x0_.Key, vs x0_.Val]] ++ fc7) w (fun v w' => v = vb (f x0_) ∧ Gr w w' none)) (Q : Int → Prop) (h : slices_IndexFunc_Tag.E s f f_ok Q) :
  Ret Try.prog 169 [.slice A1 n2 c3, .func (.func fg6) #[] fc7.toArray] w0 (fun v w' => ∃ (r0 : Int), v = vi r0 ∧ Q r0 ∧ Gr w0 w' none) := by
 unfold slices_IndexFunc_Tag.E at h
 have H := h
 clear h
 have hc0 := Ct.init hO
 refine Ret_enter Try.func169 rfl 19 rfl [.tmp 4] rfl rfl ?_
 refine W_seq ?_
 refine W_reg ?_
 refine L_pu (P_assign (vi 0) rfl) ?_
 refine L_nil ?_
 refine W_seq ?_
 refine W_seq ?_
 refine W_reg ?_
 refine L_pu (P_move (.slice A1 n2 c3) rfl) ?_
 have a1 := hp4.le
 refine L_pu (P_len Try.underlying69 A1 n2 c3 hp4.len rfl) ?_
 refine L_pu (P_move (vi 0) rfl) ?_
 refine L_nil ?_
 refine W_block ?_
 obtain ⟨ak, al, ac, H⟩ := H
 refine W_loop (α := Int) (fun (sv__ : Int) t aa => match sv__ with | v2 => ak v2 ∧ Has t [(0, .slice A1 n2 c3), (1, .func (.func fg6) #[] fc7.toArray), (7, vi (s.length : Int)), (8, vi v2)] ∧ Ct [] w0 aa [] O ∧ Sl kTag aa (Fr ([] ++ O)) (.slice A1 n2 c3) s) (fun (sv__ : Int) => match sv__ with | v2 => al v2) 0 ⟨ac, ⟨rfl, rfl, rfl, rfl, trivial⟩, hc0, hp4⟩ ?_
 rintro v2 _ aa ⟨ac, am, ab, ad⟩
 obtain ⟨a2, rfl⟩ := Has.ins am
 have H := H v2 ac
 refine W_seq ?_
 refine W_reg ?_
 refine L_pu (P_cmp v2 (s.length : Int) (decide (v2 < (s.length : Int))) rfl rfl rfl) ?_
 refine L_nil ?_
 refine W_seq ?_
 refine W_cond (decide (v2 < (s.length : Int))) rfl (fun ae => ?_) (fun ae => ?_)
 ·have H := ite_t H ae
  refine W_skip ?_
  refine W_seq ?_
  refine W_block ?_
  refine W_seq ?_
  refine W_reg ?_
  refine L_pu (P_move (vi v2) rfl) ?_
  refine L_pu (P_assign (vi v2) rfl) ?_
  refine L_nil ?_
  refine W_seq ?_
  refine W_reg ?_
  refine L_pu (P_move (.func (.func fg6) #[] fc7.toArray) rfl) ?_
  refine L_pu (P_move (.slice A1 n2 c3) rfl) ?_
  refine L_pu (P_move (vi v2) rfl) ?_
  obtain ⟨ag, H⟩ := H
  obtain ⟨ah, a3, an, a4, ao, ap⟩ := ad.get default (by decide) v2 ag
  obtain ⟨rfl, aq, ar⟩ := kTag.op ao
  refine L_pu (P_ia Try.underlying69 se69 A1 ah n2 c3 ad.len v2 rfl an rfl ag) ?_
  refine L_pu (P_lda ag133 sz133 cL (ah.add (v2.toNat * 2)) [vs ((nth s v2).Key), vs ((nth s v2).Val)] rfl rfl ap) ?_
  obtain ⟨au, H⟩ := H
  refine L_callv hgo8 fc7 rfl [.agg #[vs ((nth s v2).Key), vs ((nth s v2).Val)]] rfl ((hf9 aa [] ab (nth s v2) aq ar au).mono ?_)
  rintro _ a5 ⟨rfl, ai⟩
  have aj := ab.k0 ai
  refine L_nil ?_
  refine W_cond (f (nth s v2)) rfl (fun af => ?_) (fun af => ?_)
  ·have H := ite_t H af
   refine W_seq ?_
   refine W_reg ?_
   refine L_pu (P_move (vi v2) rfl) ?_
   refine L_pu (P_assign (vi v2) rfl) ?_
   refine L_nil ?_
   refine W_ret ?_
   exact ⟨[vi v2], ⟨_, rfl, rfl⟩, v2, rfl, H, aj.gr.g0⟩
  ·have H := ite_f H af
   refine W_skip ?_
   refine W_reg ?_
   obtain ⟨av, H⟩ := H
   refine L_pu (P_add v2 1 rfl rfl av) ?_
   refine L_pu (P_move (vi (v2 + 1)) rfl) ?_
   refine L_nil ?_
   obtain ⟨aw, ax⟩ := H
   have ay := ab.stn ai
   exact ⟨v2 + 1, ax, aw, ⟨rfl, rfl, rfl, rfl, trivial⟩, aj, (ad.st ay)⟩
 ·have H := ite_f H ae
  refine W_exit (xin_hit ?_)
  refine W_seq ?_
  refine W_reg ?_
  refine L_pu (P_assign (vi (-1)) rfl) ?_
  refine L_nil ?_
  refine W_ret ?_
  exact ⟨[vi (-1)], ⟨_, rfl, rfl⟩, (-1), rfl, H, ab.gr.g0⟩
end Go.Proofs.Ytndjggncgpjolaa

namespace Go.Proofs.Ytndjggncgpjolaa
open Go.RowKit
set_option linter.unusedVariables false
set_option linter.unusedSimpArgs false
def impl_Feat_tag.E (f : Feat) (key : Str) (Q : Int → Prop) : Prop :=
 (∃ (f2 : Tag → Bool) (f2_ok : Tag → Prop), (∀ x0_, f2_ok x0_ → impl_Feat_tag_1.E x0_ key (fun r => r = f2 x0_)) ∧ slices_IndexFunc_Tag.E f.Tags f2 f2_ok (fun r => Q r))
set_option maxHeartbeats 8000000 in
set_option maxRecDepth 100000 in
theorem impl_Feat_tag.calls {O : Ob} (w0 : World) (hO : Ok w0 O) (f : Feat) (A2 : Option Addr) (n3 c4 : Nat) (A7 : Option Addr) (n8 c9 : Nat) (hs1 : Lim f.Id) (hp5 : Sl kPt w0 (Fr O) (.slice A2 n3 c4) f.Shape.Pts) (ai : Sl kTag w0 (Fr O) (.slice A7 n8 c9) f.Tags) (key : Str) (aj : Lim key) (Q : Int → Prop) (h : impl_Feat_tag.E f key Q) :
  Ret Try.prog 143 [.agg #[vs f.Id, vi f.Shape.Kind, .slice A2 n3 c4, .slice A7 n8 c9], vs key] w0 (fun v w' => ∃ (r0 : Int), v = vi r0 ∧ Q r0 ∧ Gr w0 w' none) := by
 unfold impl_Feat_tag.E at h
 have H := h
 clear h
 have hc0 := Ct.init hO
 refine Ret_enter Try.func143 rfl 9 rfl [.tmp 4] rfl rfl ?_
 refine W_seq ?_
 refine W_reg ?_
 refine L_box [vs f.Id, vi f.Shape.Kind, .slice A2 n3 c4, .slice A7 n8 c9] rfl fun az ab ak hu17 al am => ?_
 have an := Fb.mk hc0.ok ak am
 have ac := hc0.k0 al
 refine L_box [vs key] rfl fun ae aa ao hu26 af ap => ?_
 have aq := Fb.mk ac.ok ao ap
 have ad := ac.k0 af
 refine L_pu (P_assign (vi 0) rfl) ?_
 refine L_nil ?_
 refine W_seq ?_
 refine W_reg ?_
 refine L_pu (P_fa fa71_2 ⟨ab, 0, none⟩ ⟨ab, 3, none⟩ rfl rfl) ?_
 have ar := ac.stn af
 have au := (an.st ar)
 refine L_pu (P_ld ag69 cL ⟨ab, 3, none⟩ (.slice A7 n8 c9) rfl (au.cell rfl)) ?_
 refine L_pu (P_func [.pointer (some ⟨aa, 0, none⟩)] rfl) ?_
 obtain ⟨f2, f2_ok, av, H⟩ := H
 have aw : ∀ (w : World) (L : Ob), Ct [] ae w L ([] ++ O) → ∀ (x0_ : Tag) (ag : Lim x0_.Key) (ah : Lim x0_.Val), f2_ok x0_ → Ret Try.prog 170 ([.agg #[vs x0_.Key, vs x0_.Val]] ++ [.pointer (some ⟨aa, 0, none⟩)]) w (fun v w' => v = vb (f2 x0_) ∧ Gr w w' none) := by
  intro w L c x0_ ag ah hok
  refine (impl_Feat_tag_1.calls w c.ok x0_ ag ah aa key aj (aq.st c.st) _ (av x0_ hok)).mono ?_
  rintro _ w2 ⟨r, rfl, rfl, g2⟩
  exact ⟨rfl, g2⟩
 refine L_call go169 [.slice A7 n8 c9, .func (.func 170) #[] #[.pointer (some ⟨aa, 0, none⟩)]] rfl ((slices_IndexFunc_Tag.calls ae ad.ok f.Tags A7 n8 c9 (ai.st ad.st) 170 [.pointer (some ⟨aa, 0, none⟩)] f2 f2_ok go170 aw _ H).mono ?_)
 rintro _ a0 ⟨r, rfl, H, ax⟩
 have ay := ad.k0 ax
 refine L_pu (P_assign (vi r) rfl) ?_
 refine L_nil ?_
 refine W_ret ?_
 exact ⟨[vi r], ⟨_, rfl, rfl⟩, r, rfl, H, ay.gr.g0⟩
end Go.Proofs.Ytndjggncgpjolaa

namespace Go.Proofs.Ytndjggncgpjolaa
open Go.RowKit
set_option linter.unusedVariables false
set_option linter.unusedSimpArgs false
def impl_valueOf.E (f : Feat) (key : Str) (Q : value → Prop) : Prop :=
 impl_Feat_tag.E f key (fun r => (if decide (r < 0) then Q (⟨false, ([] : Str)⟩ : value) else ((0 : Int) ≤ r ∧ r < (f.Tags.length : Int)) ∧ Q (⟨true, (nth f.Tags r).Val⟩ : value)))
set_option maxHeartbeats 8000000 in
set_option maxRecDepth 100000 in
theorem impl_valueOf.calls {O : Ob} (w0 : World) (hO : Ok w0 O) (f : Feat) (A2 : Option Addr) (n3 c4 : Nat) (A7 : Option Addr) (n8 c9 : Nat) (hs1 : Lim f.Id) (hp5 : Sl kPt w0 (Fr O) (.slice A2 n3 c4) f.Shape.Pts) (af : Sl kTag w0 (Fr O) (.slice A7 n8 c9) f.Tags) (key : Str) (aq : Lim key) (Q : value → Prop) (h : impl_valueOf.E f key Q) :
  Ret Try.prog 99 [.agg #[vs f.Id, vi f.Shape.Kind, .slice A2 n3 c4, .slice A7 n8 c9], vs key] w0 (fun v w' => ∃ (r0 : value), v = .agg #[vb r0.has, vs r0.val] ∧ Q r0 ∧ Gr w0 w' none ∧ Lim r0.val) := by
 unfold impl_valueOf.E at h
 have H := h
 clear h
 have hc0 := Ct.init hO
 refine Ret_enter Try.func99 rfl 19 rfl [.cell 4 135] rfl rfl ?_
 refine W_seq ?_
 refine W_reg ?_
 refine L_box [vs f.Id, vi f.Shape.Kind, .slice A2 n3 c4, .slice A7 n8 c9] rfl fun bf ab ar hu17 au av => ?_
 have aw := Fb.mk hc0.ok ar av
 have ai := hc0.k0 au
 refine L_alloc [vb false, vs []] ze135 fun ax ag aj hu26 ak al => ?_
 have aa := ai.own ak (some ag) (oglt aj hu26)
 refine L_nil ?_
 refine W_seq ?_
 refine W_reg ?_
 have ay := ai.stown _ ak (oge aj)
 have am := (aw.st ay)
 refine L_pu (P_lda ag71 sz71 cL ⟨ab, 0, none⟩ [vs f.Id, vi f.Shape.Kind, .slice A2 n3 c4, .slice A7 n8 c9] rfl rfl (am.cells (off := 0) rfl)) ?_
 refine L_pu (P_move (vs key) rfl) ?_
 refine L_call go143 [.agg #[vs f.Id, vi f.Shape.Kind, .slice A2 n3 c4, .slice A7 n8 c9], vs key] rfl ((impl_Feat_tag.calls ax aa.ok f A2 n3 c4 A7 n8 c9 hs1 (hp5.st aa.st) (af.st aa.st) key aq _ H).mono ?_)
 rintro _ bg ⟨r, rfl, H, ac⟩
 have ad := aa.k0 ac
 refine L_pu (P_assign (vi r) rfl) ?_
 refine L_nil ?_
 refine W_seq ?_
 refine W_seq ?_
 refine W_reg ?_
 refine L_pu (P_move (vi r) rfl) ?_
 refine L_pu (P_cmp r 0 (decide (r < 0)) rfl rfl rfl) ?_
 refine L_nil ?_
 refine W_cond (decide (r < 0)) rfl (fun ah => ?_) (fun ah => ?_)
 ·have H := ite_t H ah
  refine W_seq ?_
  refine W_reg ?_
  refine L_pu (P_build (.agg #[vb false, vs ([] : Str)]) (fun _ => by kernel_rfl)) ?_
  have az := (al.k0 ac)
  refine L_stb ag 0 [vb false, vs ([] : Str)] [vb false, vs ([] : Str)] [vb false, vs ([] : Str)] rfl az rfl sz135 rfl rfl rfl fun bh a0 a1 => ?_
  have an := ad.wr 0 rfl a0
  refine L_nil ?_
  refine W_ret ?_
  have a2 := an.bgv a1 0 rfl
  have a3 := an.drop 0 rfl
  exact ⟨[.agg #[vb false, vs ([] : Str)]], ⟨_, _, rfl, a2.1.res rfl ag135 sz135, rfl⟩, (⟨false, ([] : Str)⟩ : value), rfl, H, a3.gr.g0, (by decide)⟩
 ·have H := ite_f H ah
  refine W_skip ?_
  refine W_seq ?_
  refine W_reg ?_
  refine L_pu (P_fa fa71_2 ⟨ab, 0, none⟩ ⟨ab, 3, none⟩ rfl rfl) ?_
  have a4 := aa.stn ac
  have a5 := (am.st a4)
  refine L_pu (P_ld ag69 cL ⟨ab, 3, none⟩ (.slice A7 n8 c9) rfl (a5.cell rfl)) ?_
  refine L_pu (P_move (vi r) rfl) ?_
  obtain ⟨ao, H⟩ := H
  obtain ⟨ae, bi, a6, bj, a7, a8⟩ := (af.st ad.st).get default (by decide) r ao
  obtain ⟨rfl, bl, a9⟩ := kTag.op a7
  refine L_pu (P_ia Try.underlying69 se69 A7 ae n8 c9 (af.st ad.st).len r rfl a6 rfl ao) ?_
  refine L_pu (P_fa fa133_1 (ae.add (r.toNat * 2)) ((ae.add (r.toNat * 2)).add 1) rfl rfl) ?_
  refine L_pu (P_ld ag9 cL ((ae.add (r.toNat * 2)).add 1) (vs ((nth f.Tags r).Val)) rfl (a8 1 _ rfl)) ?_
  refine L_pu (P_build (.agg #[vb true, vs ((nth f.Tags r).Val)]) (fun _ => by kernel_rfl)) ?_
  have ba := (al.k0 ac)
  refine L_stb ag 0 [vb false, vs ([] : Str)] [vb true, vs ((nth f.Tags r).Val)] [vb true, vs ((nth f.Tags r).Val)] rfl ba rfl sz135 rfl rfl rfl fun bm bb bc => ?_
  have ap := ad.wr 0 rfl bb
  refine L_nil ?_
  refine W_ret ?_
  have bd := ap.bgv bc 0 rfl
  have be := ap.drop 0 rfl
  exact ⟨[.agg #[vb true, vs ((nth f.Tags r).Val)]], ⟨_, _, rfl, bd.1.res rfl ag135 sz135, rfl⟩, (⟨true, (nth f.Tags r).Val⟩ : value), rfl, H, be.gr.g0, a9⟩
end Go.Proofs.Ytndjggncgpjolaa

namespace Go.Proofs.Ytndjggncgpjolaa
open Go.RowKit
set_option linter.unusedVariables false
set_option linter.unusedSimpArgs false
def impl_ofThree_value.E (base_ : value) (a : value) (b : value) (same : value → value → Bool) (same_ok : value → value → Prop) (Q : value → Bool → Prop) : Prop :=
 (same_ok a base_) ∧ (if (same a base_) then Q b true else (same_ok b base_) ∧ (if (same b base_) then Q a true else (same_ok a b) ∧ (if (same a b) then Q a true else Q a false)))
set_option maxHeartbeats 8000000 in
set_option maxRecDepth 100000 in
theorem impl_ofThree_value.calls {O : Ob} (w0 : World) (hO : Ok w0 O) (base_ : value) (hs1 : Lim base_.val) (a : value) (hs2 : Lim a.val) (b : value) (hs3 : Lim b.val) (fg4 : FuncId) (fc5 : List Value) (same : value → value → Bool) (same_ok : value → value → Prop) (hgo6 : Goes Try.prog fg4) (hf7 : ∀ (w : World) (L : Ob), Ct [] w0 w L O → ∀ (x0_ : value) (hs8 : Lim x0_.val) (x1_ : value) (hs9 : Lim x1_.val), same_ok x0_ x1_ → Ret Try.prog fg4 ([.agg #[vb x0_.has, vs x0_.val], .agg #[vb x1_.has, vs x1_.val]] ++ fc5) w (fun v w' => v = vb (same x0_ x1_) ∧ Gr w w' none)) (Q : value → Bool → Prop) (h : impl_ofThree_value.E base_ a b same same_ok Q) :
  Ret Try.prog 100 [.agg #[vb base_.has, vs base_.val], .agg #[vb a.has, vs a.val], .agg #[vb b.has, vs b.val], .func (.func fg4) #[] fc5.toArray] w0 (fun v w' => ∃ (r0 : value) (r1 : Bool), v = .tuple #[.agg #[vb r0.has, vs r0.val], vb r1] ∧ Q r0 r1 ∧ Gr w0 w' none ∧ Lim r0.val) := by
 unfold impl_ofThree_value.E at h
 have H := h
 clear h
 have hc0 := Ct.init hO
 refine Ret_enter Try.func100 rfl 27 rfl [.cell 8 135, .tmp 9] rfl rfl ?_
 refine W_seq ?_
 refine W_reg ?_
 refine L_box [vb base_.has, vs base_.val] rfl fun w8 b9 ba hu12 bb bc => ?_
 have bd := Fb.mk hc0.ok ba bc
 have am := hc0.k0 bb
 refine L_box [vb a.has, vs a.val] rfl fun cn ad be hu21 av bf => ?_
 have bg := Fb.mk am.ok be bf
 have an := am.k0 av
 refine L_box [vb b.has, vs b.val] rfl fun co ao bh hu30 aw bi => ?_
 have ax := Fb.mk an.ok bh bi
 have ay := an.k0 aw
 refine L_alloc [vb false, vs []] ze135 fun bj aa az hu39 a0 ah => ?_
 have ai := ay.own a0 (some aa) (oglt az hu39)
 refine L_pu (P_assign (vb false) rfl) ?_
 refine L_nil ?_
 refine W_seq ?_
 refine W_block ?_
 refine W_seq ?_
 refine W_reg ?_
 refine L_pu (P_move (.func (.func fg4) #[] fc5.toArray) rfl) ?_
 have a1 := an.stn aw
 have aj := ay.stown _ a0 (oge az)
 have ap := ((bg.st a1).st aj)
 refine L_pu (P_lda ag135 sz135 cL ⟨ad, 0, none⟩ [vb a.has, vs a.val] rfl rfl (ap.cells (off := 0) rfl)) ?_
 have bl := am.stn av
 have a2 := (((bd.st bl).st a1).st aj)
 refine L_pu (P_lda ag135 sz135 cL ⟨b9, 0, none⟩ [vb base_.has, vs base_.val] rfl rfl (a2.cells (off := 0) rfl)) ?_
 obtain ⟨bm, H⟩ := H
 refine L_callv hgo6 fc5 rfl [.agg #[vb a.has, vs a.val], .agg #[vb base_.has, vs base_.val]] rfl ((hf7 bj [some aa] ai a hs2 base_ hs1 bm).mono ?_)
 rintro _ bn ⟨rfl, ab⟩
 have ae := ai.k0 ab
 refine L_pu (P_assign (vb (same a base_)) rfl) ?_
 refine L_nil ?_
 refine W_cond (same a base_) rfl (fun aq => ?_) (fun aq => ?_)
 ·have H := ite_t H aq
  refine W_seq ?_
  refine W_reg ?_
  have bo := ai.stn ab
  have bp := ((ax.st aj).st bo)
  refine L_pu (P_lda ag135 sz135 cL ⟨ao, 0, none⟩ [vb b.has, vs b.val] rfl rfl (bp.cells (off := 0) rfl)) ?_
  have bq := (ah.k0 ab)
  refine L_stb aa 0 [vb false, vs ([] : Str)] [vb b.has, vs b.val] [vb b.has, vs b.val] rfl bq rfl sz135 rfl rfl rfl fun cp br bs => ?_
  have a3 := ae.wr 0 rfl br
  refine L_pu (P_assign (vb true) rfl) ?_
  refine L_nil ?_
  refine W_ret ?_
  have bt := a3.bgv bs 0 rfl
  have bu := a3.drop 0 rfl
  exact ⟨[.agg #[vb b.has, vs b.val], vb true], ⟨_, _, rfl, bt.1.res rfl ag135 sz135, ⟨_, rfl, rfl⟩⟩, b, true, rfl, H, bu.gr.g0, hs3⟩
 ·have H := ite_f H aq
  refine W_seq ?_
  refine W_seq ?_
  refine W_reg ?_
  refine L_pu (P_move (.func (.func fg4) #[] fc5.toArray) rfl) ?_
  have ak := ai.stn ab
  have a4 := ((ax.st aj).st ak)
  refine L_pu (P_lda ag135 sz135 cL ⟨ao, 0, none⟩ [vb b.has, vs b.val] rfl rfl (a4.cells (off := 0) rfl)) ?_
  have bv := (a2.st ak)
  refine L_pu (P_lda ag135 sz135 cL ⟨b9, 0, none⟩ [vb base_.has, vs base_.val] rfl rfl (bv.cells (off := 0) rfl)) ?_
  obtain ⟨bw, H⟩ := H
  refine L_callv hgo6 fc5 rfl [.agg #[vb b.has, vs b.val], .agg #[vb base_.has, vs base_.val]] rfl ((hf7 bn [some aa] ae b hs3 base_ hs1 bw).mono ?_)
  rintro _ bx ⟨rfl, ac⟩
  have af := ae.k0 ac
  refine L_pu (P_assign (vb (same b base_)) rfl) ?_
  refine L_nil ?_
  refine W_cond (same b base_) rfl (fun al => ?_) (fun al => ?_)
  ·have H := ite_t H al
   refine W_skip ?_
   refine W_ct (b := (same b base_)) rfl al ?_
   refine W_seq ?_
   refine W_reg ?_
   have bz := ae.stn ac
   have b0 := ((ap.st ak).st bz)
   refine L_pu (P_lda ag135 sz135 cL ⟨ad, 0, none⟩ [vb a.has, vs a.val] rfl rfl (b0.cells (off := 0) rfl)) ?_
   have b1 := ((ah.k0 ab).k0 ac)
   refine L_stb aa 0 [vb false, vs ([] : Str)] [vb a.has, vs a.val] [vb a.has, vs a.val] rfl b1 rfl sz135 rfl rfl rfl fun cq b2 b3 => ?_
   have a5 := af.wr 0 rfl b2
   refine L_pu (P_assign (vb true) rfl) ?_
   refine L_nil ?_
   refine W_ret ?_
   have b4 := a5.bgv b3 0 rfl
   have b5 := a5.drop 0 rfl
   exact ⟨[.agg #[vb a.has, vs a.val], vb true], ⟨_, _, rfl, b4.1.res rfl ag135 sz135, ⟨_, rfl, rfl⟩⟩, a, true, rfl, H, b5.gr.g0, hs2⟩
  ·have H := ite_f H al
   refine W_reg ?_
   refine L_pu (P_move (.func (.func fg4) #[] fc5.toArray) rfl) ?_
   have a6 := ae.stn ac
   have ar := ((ap.st ak).st a6)
   refine L_pu (P_lda ag135 sz135 cL ⟨ad, 0, none⟩ [vb a.has, vs a.val] rfl rfl (ar.cells (off := 0) rfl)) ?_
   have b6 := (a4.st a6)
   refine L_pu (P_lda ag135 sz135 cL ⟨ao, 0, none⟩ [vb b.has, vs b.val] rfl rfl (b6.cells (off := 0) rfl)) ?_
   obtain ⟨b7, H⟩ := H
   refine L_callv hgo6 fc5 rfl [.agg #[vb a.has, vs a.val], .agg #[vb b.has, vs b.val]] rfl ((hf7 bx [some aa] af a hs2 b hs3 b7).mono ?_)
   rintro _ cr ⟨rfl, ag⟩
   have a7 := af.k0 ag
   refine L_pu (P_assign (vb (same a b)) rfl) ?_
   refine L_nil ?_
   refine W_cond (same a b) rfl (fun au => ?_) (fun au => ?_)
   ·have H := ite_t H au
    refine W_seq ?_
    refine W_reg ?_
    have b8 := af.stn ag
    have ca := (ar.st b8)
    refine L_pu (P_lda ag135 sz135 cL ⟨ad, 0, none⟩ [vb a.has, vs a.val] rfl rfl (ca.cells (off := 0) rfl)) ?_
    have cb := (((ah.k0 ab).k0 ac).k0 ag)
    refine L_stb aa 0 [vb false, vs ([] : Str)] [vb a.has, vs a.val] [vb a.has, vs a.val] rfl cb rfl sz135 rfl rfl rfl fun cs cc cd => ?_
    have a8 := a7.wr 0 rfl cc
    refine L_pu (P_assign (vb true) rfl) ?_
    refine L_nil ?_
    refine W_ret ?_
    have ce := a8.bgv cd 0 rfl
    have cf := a8.drop 0 rfl
    exact ⟨[.agg #[vb a.has, vs a.val], vb true], ⟨_, _, rfl, ce.1.res rfl ag135 sz135, ⟨_, rfl, rfl⟩⟩, a, true, rfl, H, cf.gr.g0, hs2⟩
   ·have H := ite_f H au
    refine W_skip ?_
    refine W_seq ?_
    refine W_reg ?_
    have cg := af.stn ag
    have ch := (ar.st cg)
    refine L_pu (P_lda ag135 sz135 cL ⟨ad, 0, none⟩ [vb a.has, vs a.val] rfl rfl (ch.cells (off := 0) rfl)) ?_
    have ci := (((ah.k0 ab).k0 ac).k0 ag)
    refine L_stb aa 0 [vb false, vs ([] : Str)] [vb a.has, vs a.val] [vb a.has, vs a.val] rfl ci rfl sz135 rfl rfl rfl fun ct cj ck => ?_
    have a9 := a7.wr 0 rfl cj
    refine L_pu (P_assign (vb false) rfl) ?_
    refine L_nil ?_
    refine W_ret ?_
    have cl := a9.bgv ck 0 rfl
    have cm := a9.drop 0 rfl
    exact ⟨[.agg #[vb a.has, vs a.val], vb false], ⟨_, _, rfl, cl.1.res rfl ag135 sz135, ⟨_, rfl, rfl⟩⟩, a, false, rfl, H, cm.gr.g0, hs2⟩
end Go.Proofs.Ytndjggncgpjolaa

namespace Go.Proofs.Ytndjggncgpjolaa
open Go.RowKit
set_option linter.unusedVariables false
set_option linter.unusedSimpArgs false
def impl_FeatJoin_1.E (p : value) (q : value) (Q : Bool → Prop) : Prop :=
 Q (eqvalue p q)
set_option maxHeartbeats 8000000 in
set_option maxRecDepth 100000 in
theorem impl_FeatJoin_1.calls {O : Ob} (w0 : World) (hO : Ok w0 O) (p : value) (hs1 : Lim p.val) (q : value) (hs2 : Lim q.val) (Q : Bool → Prop) (h : impl_FeatJoin_1.E p q Q) :
  Ret Try.prog 101 [.agg #[vb p.has, vs p.val], .agg #[vb q.has, vs q.val]] w0 (fun v w' => ∃ (r0 : Bool), v = vb r0 ∧ Q r0 ∧ Gr w0 w' none) := by
 unfold impl_FeatJoin_1.E at h
 have H := h
 clear h
 have hc0 := Ct.init hO
 refine Ret_enter Try.func101 rfl 8 rfl [.tmp 4] rfl rfl ?_
 refine W_seq ?_
 refine W_reg ?_
 refine L_box [vb p.has, vs p.val] rfl fun w3 b4 hl6 hu7 g5 hx8 => ?_
 have ac := Fb.mk hc0.ok hl6 hx8
 have aa := hc0.k0 g5
 refine L_box [vb q.has, vs q.val] rfl fun ak ad ae hu16 ab af => ?_
 have ag := Fb.mk aa.ok ae af
 have ah := aa.k0 ab
 refine L_pu (P_assign (vb false) rfl) ?_
 refine L_nil ?_
 refine W_seq ?_
 refine W_reg ?_
 have ai := aa.stn ab
 have aj := (ac.st ai)
 refine L_pu (P_lda ag135 sz135 cL ⟨b4, 0, none⟩ [vb p.has, vs p.val] rfl rfl (aj.cells (off := 0) rfl)) ?_
 refine L_pu (P_lda ag135 sz135 cL ⟨ad, 0, none⟩ [vb q.has, vs q.val] rfl rfl (ag.cells (off := 0) rfl)) ?_
 refine L_pu (P_eq _ _ (eqvalue p q) (qt135 p q) rfl rfl) ?_
 refine L_pu (P_assign (vb (eqvalue p q)) rfl) ?_
 refine L_nil ?_
 refine W_ret ?_
 exact ⟨[vb (eqvalue p q)], ⟨_, rfl, rfl⟩, eqvalue p q, rfl, H, ah.gr.g0⟩
end Go.Proofs.Ytndjggncgpjolaa

namespace Go.Proofs.Ytndjggncgpjolaa
open Go.RowKit
set_option linter.unusedVariables false
set_option linter.unusedSimpArgs false
def impl_cloneFeat.E (f : Feat) (Q : Feat → Prop) : Prop :=
 (([] : List Tag).length + f.Tags.length ≤ 268435456) ∧ impl_cloneShape.E f.Shape (fun r => Q (⟨f.Id, r, (([] : List Tag) ++ f.Tags)⟩ : Feat))
set_option maxHeartbeats 8000000 in
set_option maxRecDepth 100000 in
theorem impl_cloneFeat.calls {O : Ob} (w0 : World) (hO : Ok w0 O) (f : Feat) (A2 : Option Addr) (n3 c4 : Nat) (A7 : Option Addr) (n8 c9 : Nat) (hs1 : Lim f.Id) (hp5 : Sl kPt w0 (Fr O) (.slice A2 n3 c4) f.Shape.Pts) (bn : Sl kTag w0 (Fr O) (.slice A7 n8 c9) f.Tags) (Q : Feat → Prop) (h : impl_cloneFeat.E f Q) :
  Ret Try.prog 102 [.agg #[vs f.Id, vi f.Shape.Kind, .slice A2 n3 c4, .slice A7 n8 c9]] w0 (fun v w' => ∃ (r0 : Feat) (A0 : Option Addr) (n0 c0 : Nat) (A2 : Option Addr) (n2 c2 : Nat), v = .agg #[vs r0.Id, vi r0.Shape.Kind, .slice A0 n0 c0, .slice A2 n2 c2] ∧ Q r0 ∧ Gr w0 w' none ∧ Ok w' ([bk A0, bk A2] ++ O) ∧ (∀ b, some b ∈ [bk A0, bk A2] → w0.heap.size ≤ b) ∧ Lim r0.Id ∧ Ow kPt 29 w' ([bk A0, bk A2] ++ O) (.slice A0 n0 c0) r0.Shape.Pts ∧ Ow kTag 133 w' ([bk A0, bk A2] ++ O) (.slice A2 n2 c2) r0.Tags) := by
 unfold impl_cloneFeat.E at h
 have H := h
 clear h
 have hc0 := Ct.init hO
 refine Ret_enter Try.func102 rfl 13 rfl [.cell 2 71] rfl rfl ?_
 refine W_seq ?_
 refine W_reg ?_
 refine L_box [vs f.Id, vi f.Shape.Kind, .slice A2 n3 c4, .slice A7 n8 c9] rfl fun df ac b3 hu16 b4 b5 => ?_
 have b6 := Fb.mk hc0.ok b3 b5
 have bo := hc0.k0 b4
 refine L_alloc [vs [], .int .i64 0, .slice none 0 0, .slice none 0 0] ze71 fun dg aa bp hu25 bq br => ?_
 have bs := bo.own bq (some aa) (oglt bp hu25)
 refine L_nil ?_
 refine W_seq ?_
 obtain ⟨bt, H⟩ := H
 refine W_join (J := (fun t ai => ∃ (r : Shape) (ad : Option Addr) (aj : Nat) (ak : Nat) (ae : Option Addr) (al : Nat) (am : Nat), Has t [(2, .pointer (some ⟨aa, 0, none⟩))] ∧ Ct [] w0 ai [bk ae, bk ad, some aa] O ∧ Ow kPt 29 ai ([bk ae, bk ad, some aa] ++ O) (.slice ad aj ak) r.Pts ∧ Ow kTag 133 ai ([bk ae, bk ad, some aa] ++ O) (.slice ae al am) (([] : List Tag) ++ f.Tags) ∧ Bx ai aa [vs f.Id, vi r.Kind, .slice ad aj ak, .slice ae al am] ∧ Q (⟨f.Id, r, (([] : List Tag) ++ f.Tags)⟩ : Feat))) ?_ ?_
 ·refine W_mixr 11 [some aa] (by kernel_rfl) rfl fun b7 ap ab => ?_
  have af := bs.k0 ap
  refine M_pu 0 rfl (by kernel_rfl) ab (P_fa fa71_0 ⟨ac, 0, none⟩ ⟨ac, 0, none⟩ rfl rfl) ?_
  have b8 := bo.stown _ bq (oge bp)
  have b9 := bs.stn ap
  have ah := ((b6.st b8).st b9)
  refine M_pu 1 rfl (by kernel_rfl) ab (P_ldr ag9 cR ⟨ac, 0, none⟩ (vs f.Id) rfl (ah.cell rfl) (nm_cons (af.fne 0 ah.2 rfl) nm_nil)) ?_
  refine M_pu 2 rfl (by kernel_rfl) ab (P_fa fa71_1 ⟨ac, 0, none⟩ ⟨ac, 1, none⟩ rfl rfl) ?_
  refine M_pu 3 rfl (by kernel_rfl) ab (P_ldar ag68 sz68 cR ⟨ac, 1, none⟩ [vi f.Shape.Kind, .slice A2 n3 c4] rfl rfl (ah.cells (off := 1) rfl) (nm_cons (af.fne 0 ah.2 rfl) nm_nil)) ?_
  refine M_pu 6 rfl (by kernel_rfl) ab (P_fa fa71_2 ⟨ac, 0, none⟩ ⟨ac, 3, none⟩ rfl rfl) ?_
  refine M_pu 7 rfl (by kernel_rfl) ab (P_ldr ag69 cR ⟨ac, 3, none⟩ (.slice A7 n8 c9) rfl (ah.cell rfl) (nm_cons (af.fne 0 ah.2 rfl) nm_nil)) ?_
  refine M_any2 4 5 (by kernel_rfl) rfl rfl ?_ ?_
  ·refine L_call go97 [.agg #[vi f.Shape.Kind, .slice A2 n3 c4]] rfl ((impl_cloneShape.calls b7 af.ok f.Shape A2 n3 c4 (hp5.st af.st) _ H).mono ?_)
   rintro _ bu ⟨r, an, aq, ar, rfl, H, bc, ca, cb, cc⟩
   have cd := af.owns bc ca cb
   have au := Gm.tm ab bc
   refine L_nil ⟨au, ?_⟩
   refine M_any1 5 (by kernel_rfl) rfl ?_
   refine L_lit (kd := kTag) ei69 cd ([] : List Tag) (cells := []) rfl (fun _ => by kernel_rfl) fun dh bv ce cf bd hr54 av cg => ?_
   have ag := Gm.tm au bd
   refine L_nil ⟨ag, ?_⟩
   refine M_any1 8 (by kernel_rfl) rfl ?_
   refine L_app ei69 av (.slice bv ce cf) ([] : List Tag) f.Tags rfl cg (.slice A7 n8 c9) rfl (bn.st av.st).sx 0 rfl bt fun di aw ax ay be bw az ch => ?_
   have bf := Gm.tq ag be (hv_new au hr54)
   have dj := hv_app (L := [bk bv, bk an, some aa]) (O := O) (i := 0) ag rfl (hv_new au hr54) bw az
   refine L_nil ⟨bf, ?_⟩
   refine M_pu 9 rfl (by kernel_rfl) bf (P_build (.agg #[vs f.Id, vi r.Kind, .slice an aq ar, .slice aw ax ay]) (fun _ => by kernel_rfl)) ?_
   refine M_any1 10 (by kernel_rfl) rfl ?_
   have ci := (av.bm (((br.k0 ap).k0 bc).k0 bd) 2 0 rfl rfl rfl be)
   refine L_stb aa 0 [vs ([] : Str), vi 0, .slice none 0 0, .slice none 0 0] [vs f.Id, vi r.Kind, .slice an aq ar, .slice aw ax ay] [vs f.Id, vi r.Kind, .slice an aq ar, .slice aw ax ay] rfl ci rfl sz71 rfl rfl rfl fun dk a0 cj => ?_
   have ck := az.wr 2 rfl a0
   have cl := Gm.tq bf a0 (hv_mem 0 rfl)
   refine L_nil ⟨cl, ?_⟩
   refine M_nil (by kernel_rfl) ?_
   have cm := (az.sw (av.sm (cc.so _ bd hr54) 1 0 rfl rfl rfl be bw) 1 2 rfl rfl rfl a0)
   have cn := (az.sw ch 0 2 rfl rfl rfl a0)
   exact ⟨r, an, aq, ar, aw, ax, ay, ⟨rfl, trivial⟩, ck, cm, cn, cj, H⟩
  ·refine L_lit (kd := kTag) ei69 af ([] : List Tag) (cells := []) rfl (fun _ => by kernel_rfl) fun bu bx co cp bz hr42 bg cq => ?_
   have b0 := Gm.tm ab bz
   refine L_nil ⟨b0, ?_⟩
   refine M_any1 4 (by kernel_rfl) rfl ?_
   refine L_call go97 [.agg #[vi f.Shape.Kind, .slice A2 n3 c4]] rfl ((impl_cloneShape.calls bu bg.ok f.Shape A2 n3 c4 (hp5.st bg.st) _ H).mono ?_)
   rintro _ dl ⟨r, ao, a1, a2, rfl, H, a3, cr, b1, cs⟩
   have a4 := bg.owns a3 cr b1
   have ag := Gm.tm b0 a3
   refine L_nil ⟨ag, ?_⟩
   refine M_any1 8 (by kernel_rfl) rfl ?_
   have ct := (cq.sos a3 b1)
   refine L_app ei69 a4 (.slice bx co cp) ([] : List Tag) f.Tags rfl ct (.slice A7 n8 c9) rfl (bn.st a4.st).sx 1 rfl bt fun dm a5 a6 a7 bh b2 a8 cu => ?_
   have bi := Gm.tq ag bh (hv_new ab hr42)
   have dn := hv_app (L := [bk ao, bk bx, some aa]) (O := O) (i := 1) ag rfl (hv_new ab hr42) b2 a8
   refine L_nil ⟨bi, ?_⟩
   refine M_pu 9 rfl (by kernel_rfl) bi (P_build (.agg #[vs f.Id, vi r.Kind, .slice ao a1 a2, .slice a5 a6 a7]) (fun _ => by kernel_rfl)) ?_
   refine M_any1 10 (by kernel_rfl) rfl ?_
   have cv := (a4.bm (((br.k0 ap).k0 bz).k0 a3) 2 1 rfl rfl rfl bh)
   refine L_stb aa 0 [vs ([] : Str), vi 0, .slice none 0 0, .slice none 0 0] [vs f.Id, vi r.Kind, .slice ao a1 a2, .slice a5 a6 a7] [vs f.Id, vi r.Kind, .slice ao a1 a2, .slice a5 a6 a7] rfl cv rfl sz71 rfl rfl rfl fun dp a9 cw => ?_
   have bj := a8.wr 2 rfl a9
   have cx := Gm.tq bi a9 (hv_mem 0 rfl)
   refine L_nil ⟨cx, ?_⟩
   refine M_nil (by kernel_rfl) ?_
   have cy := bj.perm (.swap _ _ _)
   have cz := (bj.sp (a8.sw (a4.sm cs 0 1 rfl rfl rfl bh b2) 0 2 rfl rfl rfl a9) (.swap _ _ _))
   have c1 := (bj.sp (a8.sw cu 1 2 rfl rfl rfl a9) (.swap _ _ _))
   have c3 := cw
   exact ⟨r, ao, a1, a2, a5, a6, a7, ⟨rfl, trivial⟩, cy, cz, c1, c3, H⟩
 ·rintro dq ai ⟨r, ad, aj, ak, ae, al, am, c5, ba, c6, c7, c8, H⟩
  obtain ⟨dr, rfl⟩ := Has.ins c5
  refine W_ret ?_
  have da := ba.bgv c8 2 rfl
  have bb := ba.drop 2 rfl
  have bl := bb.perm (.swap _ _ _)
  have db := bb.stp (.swap _ _ _)
  have dc := (da.st db)
  have dd := (bb.sp (ba.sd c6 1 2 rfl rfl rfl) (.swap _ _ _))
  have de := (bb.sp (ba.sd c7 0 2 rfl rfl rfl) (.swap _ _ _))
  exact ⟨[.agg #[vs f.Id, vi r.Kind, .slice ad aj ak, .slice ae al am]], ⟨_, _, rfl, dc.1.res rfl ag71 sz71, rfl⟩, (⟨f.Id, r, (([] : List Tag) ++ f.Tags)⟩ : Feat), ad, aj, ak, ae, al, am, rfl, H, bl.gr.g0, bl.ok, bl.ge, hs1, dd, de⟩
end Go.Proofs.Ytndjggncgpjolaa

namespace Go.Proofs.Ytndjggncgpjolaa
open Go.RowKit
set_option linter.unusedSimpArgs false
set_option linter.unusedVariables false
section
variable {P : Program} {n : Nat} {N R : Ps} {X : Nat → Ps} {t : Tm} {w : World} {ops : Array Oper} {C : World → Prop} {listed : Array Bool} {m : Nat}
theorem M_any3 (i j l : Nat) {o o' o'' : Oper} (hr : Region.ready .any ops listed = [i, j, l]) (hi : ops[i]? = some o) (hj : ops[j]? = some o') (hl : ops[l]? = some o'')
    (k : L P n ops (fun t' w' => C w' ∧ M P n ops C N R X m (listed.setIfInBounds i true) t' w') R X [o] t w)
    (k' : L P n ops (fun t' w' => C w' ∧ M P n ops C N R X m (listed.setIfInBounds j true) t' w') R X [o'] t w)
    (k'' : L P n ops (fun t' w' => C w' ∧ M P n ops C N R X m (listed.setIfInBounds l true) t' w') R X [o''] t w) : M P n ops C N R X (m + 1) listed t w := by
  unfold M
  refine ⟨fun h => (by rw [hr] at h; cases h), fun q hq => ?_⟩
  rw [hr] at hq
  rcases (by simpa using hq : q = i ∨ q = j ∨ q = l) with rfl | rfl | rfl
  · exact wpOp_mono (fun a' w' ⟨t', e, h⟩ => by rw [e]; unfold M at h; exact h) (M_op hi k)
  · exact wpOp_mono (fun a' w' ⟨t', e, h⟩ => by rw [e]; unfold M at h; exact h) (M_op hj k')
  · exact wpOp_mono (fun a' w' ⟨t', e, h⟩ => by rw [e]; unfold M at h; exact h) (M_op hl k'')
end
end Go.Proofs.Ytndjggncgpjolaa

namespace Go.Proofs.Ytndjggncgpjolaa
open Go.RowKit
set_option linter.unusedVariables false
set_option linter.unusedSimpArgs false
def impl_FeatJoin.E (base_ : Feat) (a : Feat) (b : Feat) (Q : Feat → List Str → Prop) : Prop :=
 impl_FeatOk.E base_ (fun r => (if !r then Q (⟨([] : Str), (⟨0, ([] : List Pt)⟩ : Shape), ([] : List Tag)⟩ : Feat) ([] : List Str) else impl_FeatOk.E a (fun r2 => (if !r2 then Q (⟨([] : Str), (⟨0, ([] : List Pt)⟩ : Shape), ([] : List Tag)⟩ : Feat) ([] : List Str) else impl_FeatOk.E b (fun r3 => (if !r3 then Q (⟨([] : Str), (⟨0, ([] : List Pt)⟩ : Shape), ([] : List Tag)⟩ : Feat) ([] : List Str) else (if base_.Id != a.Id then Q (⟨([] : Str), (⟨0, ([] : List Pt)⟩ : Shape), ([] : List Tag)⟩ : Feat) ([] : List Str) else (if base_.Id != b.Id then Q (⟨([] : Str), (⟨0, ([] : List Pt)⟩ : Shape), ([] : List Tag)⟩ : Feat) ([] : List Str) else (∃ (f : Shape → Shape → Bool) (f_ok : Shape → Shape → Prop), (∀ x0_ x1_, f_ok x0_ x1_ → impl_ShapeSame.E x0_ x1_  (fun r => r = f x0_ x1_)) ∧ impl_ofThree_Shape.E base_.Shape a.Shape b.Shape f f_ok (fun r4 r5 => (∃ (J297 : (List Str) → Int → (List Pt) → Prop), ((if !r5 then (if base_.Shape.Kind == a.Shape.Kind then (if base_.Shape.Kind == b.Shape.Kind then impl_SeqMerge.E base_.Shape.Pts a.Shape.Pts b.Shape.Pts (fun r6 r7 => (if r7 then impl_ShapeOk.E (⟨a.Shape.Kind, r6⟩ : Shape) (fun r8 => (if r8 then (if !true then (([] : List Str).length + ([([115, 104, 97, 112, 101] : Str)] : List Str).length ≤ 268435456) ∧ J297 (([] : List Str) ++ ([([115, 104, 97, 112, 101] : Str)] : List Str)) a.Shape.Kind r6 else J297 ([] : List Str) a.Shape.Kind r6) else (if !false then (([] : List Str).length + ([([115, 104, 97, 112, 101] : Str)] : List Str).length ≤ 268435456) ∧ J297 (([] : List Str) ++ ([([115, 104, 97, 112, 101] : Str)] : List Str)) r4.Kind r4.Pts else J297 ([] : List Str) r4.Kind r4.Pts))) else (if !false then (([] : List Str).length + ([([115, 104, 97, 112, 101] : Str)] : List Str).length ≤ 268435456) ∧ J297 (([] : List Str) ++ ([([115, 104, 97, 112, 101] : Str)] : List Str)) r4.Kind r4.Pts else J297 ([] : List Str) r4.Kind r4.Pts))) else (if !false then (([] : List Str).length + ([([115, 104, 97, 112, 101] : Str)] : List Str).length ≤ 268435456) ∧ J297 (([] : List Str) ++ ([([115, 104, 97, 112, 101] : Str)] : List Str)) r4.Kind r4.Pts else J297 ([] : List Str) r4.Kind r4.Pts)) else (if !false then (([] : List Str).length + ([([115, 104, 97, 112, 101] : Str)] : List Str).length ≤ 268435456) ∧ J297 (([] : List Str) ++ ([([115, 104, 97, 112, 101] : Str)] : List Str)) r4.Kind r4.Pts else J297 ([] : List Str) r4.Kind r4.Pts)) else J297 ([] : List Str) r4.Kind r4.Pts)) ∧ ∀ (xs : List Str) (z : Int) (z2 : List Pt), J297 xs z z2 → impl_cloneShape.E (⟨z, z2⟩ : Shape) (fun r9 => slices_Concat_Tag.E ([base_.Tags, a.Tags, b.Tags] : List (List Tag)) (fun r10 => (∃ (I762 : (List Str) → Int → Prop) (mu763 : (List Str) → Int → Nat), I762 ([] : List Str) 0 ∧ ∀ (xs3 : List Str) (v2 : Int), I762 xs3 v2 → (if decide (v2 < (r10.length : Int)) then ((0 : Int) ≤ v2 ∧ v2 < (r10.length : Int)) ∧ (xs3.length + ([(nth r10 v2).Key] : List Str).length ≤ 268435456) ∧ (I64 (v2 + 1)) ∧ I762 (xs3 ++ ([(nth r10 v2).Key] : List Str)) (v2 + 1) ∧ mu763 (xs3 ++ ([(nth r10 v2).Key] : List Str)) (v2 + 1) < mu763 xs3 v2 else slices_Sort_string.E xs3 (fun m => slices_Compact_string.E m (fun r11 => (∃ (I963 : (List Str) → Int → (List Tag) → Prop) (mu964 : (List Str) → Int → (List Tag) → Nat), I963 xs 0 ([] : List Tag) ∧ ∀ (xs6 : List Str) (v4 : Int) (xs7 : List Tag), I963 xs6 v4 xs7 → (if decide (v4 < (r11.length : Int)) then ((0 : Int) ≤ v4 ∧ v4 < (r11.length : Int)) ∧ impl_valueOf.E a (nth r11 v4) (fun r12 => impl_valueOf.E b (nth r11 v4) (fun r13 => impl_valueOf.E base_ (nth r11 v4) (fun r14 => (∃ (f2 : value → value → Bool) (f2_ok : value → value → Prop), (∀ x0_ x1_, f2_ok x0_ x1_ → impl_FeatJoin_1.E x0_ x1_  (fun r => r = f2 x0_ x1_)) ∧ impl_ofThree_value.E r14 r12 r13 f2 f2_ok (fun r15 r16 => (∃ (J5090 : (List Str) → Bool → Str → Prop), ((if !r16 then (([116, 97, 103, 32] : Str).length + (nth r11 v4).length ≤ 9223372036854775807) ∧ (xs6.length + ([(([116, 97, 103, 32] : Str) ++ (nth r11 v4))] : List Str).length ≤ 268435456) ∧ (if !r12.has then J5090 (xs6 ++ ([(([116, 97, 103, 32] : Str) ++ (nth r11 v4))] : List Str)) r13.has r13.val else J5090 (xs6 ++ ([(([116, 97, 103, 32] : Str) ++ (nth r11 v4))] : List Str)) r12.has r12.val) else J5090 xs6 r15.has r15.val)) ∧ ∀ (xs8 : List Str) (z3 : Bool) (z4 : Str), J5090 xs8 z3 z4 → (∃ (J5220 : (List Tag) → Prop), ((if z3 then (xs7.length + ([(⟨(nth r11 v4), z4⟩ : Tag)] : List Tag).length ≤ 268435456) ∧ J5220 (xs7 ++ ([(⟨(nth r11 v4), z4⟩ : Tag)] : List Tag)) else J5220 xs7)) ∧ ∀ (xs9 : List Tag), J5220 xs9 → (I64 (v4 + 1)) ∧ I963 xs8 (v4 + 1) xs9 ∧ mu964 xs8 (v4 + 1) xs9 < mu964 xs6 v4 xs7))))))) else impl_FeatOk.E (⟨a.Id, r9, xs7⟩ : Feat) (fun r17 => (if !r17 then impl_cloneFeat.E a (fun r18 => Q r18 ([([109, 117, 99, 104] : Str)] : List Str)) else Q (⟨a.Id, r9, xs7⟩ : Feat) xs6)))))))))))))))))))))
set_option maxHeartbeats 8000000 in
set_option maxRecDepth 100000 in
theorem impl_FeatJoin.calls {O : Ob} (w0 : World) (hO : Ok w0 O) (base_ : Feat) (A2 : Option Addr) (n3 c4 : Nat) (A7 : Option Addr) (n8 c9 : Nat) (hs1 : Lim base_.Id) (hp5 : Sl kPt w0 (Fr O) (.slice A2 n3 c4) base_.Shape.Pts) (gc : Sl kTag w0 (Fr O) (.slice A7 n8 c9) base_.Tags) (a : Feat) (bc : Option Addr) (bd be : Nat) (bq : Option Addr) (br bs : Nat) (hs : Lim a.Id) (fi : Sl kPt w0 (Fr O) (.slice bc bd be) a.Shape.Pts) (gd : Sl kTag w0 (Fr O) (.slice bq br bs) a.Tags) (b : Feat) (ar : Option Addr) (au av : Nat) (a2 : Option Addr) (a3 a4 : Nat) (gf : Lim b.Id) (fj : Sl kPt w0 (Fr O) (.slice ar au av) b.Shape.Pts) (gg : Sl kTag w0 (Fr O) (.slice a2 a3 a4) b.Tags) (Q : Feat → List Str → Prop) (h : impl_FeatJoin.E base_ a b Q) :
  Ret Try.prog 36 [.agg #[vs base_.Id, vi base_.Shape.Kind, .slice A2 n3 c4, .slice A7 n8 c9], .agg #[vs a.Id, vi a.Shape.Kind, .slice bc bd be, .slice bq br bs], .agg #[vs b.Id, vi b.Shape.Kind, .slice ar au av, .slice a2 a3 a4]] w0 (fun v w' => ∃ (r0 : Feat) (r1 : List Str) (A0 : Option Addr) (n0 c0 : Nat) (A2 : Option Addr) (n2 c2 : Nat) (A4 : Option Addr) (n4 c4 : Nat), v = .tuple #[.agg #[vs r0.Id, vi r0.Shape.Kind, .slice A0 n0 c0, .slice A2 n2 c2], .slice A4 n4 c4] ∧ Q r0 r1 ∧ Gr w0 w' none ∧ Ok w' ([bk A0, bk A2, bk A4] ++ O) ∧ (∀ b, some b ∈ [bk A0, bk A2, bk A4] → w0.heap.size ≤ b) ∧ Lim r0.Id ∧ Ow kPt 29 w' ([bk A0, bk A2, bk A4] ++ O) (.slice A0 n0 c0) r0.Shape.Pts ∧ Ow kTag 133 w' ([bk A0, bk A2, bk A4] ++ O) (.slice A2 n2 c2) r0.Tags ∧ Ow Kd.str 9 w' ([bk A0, bk A2, bk A4] ++ O) (.slice A4 n4 c4) r1) := by
 unfold impl_FeatJoin.E at h
 have H := h
 clear h
 have hc0 := Ct.init hO
 refine Ret_enter Try.func36 rfl 195 rfl [.cell 6 71, .tmp 7] rfl rfl ?_
 refine W_seq ?_
 refine W_reg ?_
 refine L_box [vs base_.Id, vi base_.Shape.Kind, .slice A2 n3 c4, .slice A7 n8 c9] rfl fun w34 a7 yj hu38 yk yl => ?_
 have ym := Fb.mk hc0.ok yj yl
 have qf := hc0.k0 yk
 refine L_box [vs a.Id, vi a.Shape.Kind, .slice bc bd be, .slice bq br bs] rfl fun w43 a6 yn hu47 ux yo => ?_
 have yp := Fb.mk qf.ok yn yo
 have qg := qf.k0 ux
 refine L_box [vs b.Id, vi b.Shape.Kind, .slice ar au av, .slice a2 a3 a4] rfl fun w52 bz yq hu56 uy yr => ?_
 have ys := Fb.mk qg.ok yq yr
 have uz := qg.k0 uy
 refine L_alloc [vs [], .int .i64 0, .slice none 0 0, .slice none 0 0] ze71 fun w61 aa u0 hu65 u1 ez => ?_
 have u2 := uz.own u1 (some aa) (oglt u0 hu65)
 refine L_pu (P_assign (.slice none 0 0) rfl) ?_
 refine L_nil ?_
 refine W_seq ?_
 refine W_reg ?_
 refine L_lit (kd := Kd.str) ei72 u2 ([] : List Str) (cells := []) rfl (fun _ => by kernel_rfl) fun yt ap bt bu eo hr74 l3 e0 => ?_
 refine L_pu (P_assign (.slice ap bt bu) rfl) ?_
 refine L_nil ?_
 refine W_seq ?_
 refine W_seq ?_
 refine W_reg ?_
 have yu := qf.stn ux
 have u3 := qg.stn uy
 have qh := uz.stown _ u1 (oge u0)
 have qi := u2.stown _ eo hr74
 have u4 := ((((ym.st yu).st u3).st qh).st qi)
 refine L_pu (P_lda ag71 sz71 cL ⟨a7, 0, none⟩ [vs base_.Id, vi base_.Shape.Kind, .slice A2 n3 c4, .slice A7 n8 c9] rfl rfl (u4.cells (off := 0) rfl)) ?_
 refine L_call go93 [.agg #[vs base_.Id, vi base_.Shape.Kind, .slice A2 n3 c4, .slice A7 n8 c9]] rfl ((impl_FeatOk.calls yt l3.ok base_ A2 n3 c4 A7 n8 c9 hs1 (hp5.st l3.st) (gc.st l3.st) _ H).mono ?_)
 rintro _ yv ⟨r, rfl, H, b3⟩
 have jh := l3.k0 b3
 refine L_pu (P_not r rfl) ?_
 refine L_pu (P_move (vb (!r)) rfl) ?_
 rcases bool_or (!r) with gt | gt
 ·have H := ite_t H gt
  refine L_pass (dj := 29) rfl rfl (.inl (by exact congrArg Value.bool gt)) ?_
  refine L_pass (dj := 29) rfl rfl (.inl (by exact congrArg Value.bool gt)) ?_
  refine L_pass (dj := 29) rfl rfl (.inl (by exact congrArg Value.bool gt)) ?_
  refine L_pu (P_pick true (vb true) (by exact congrArg Value.bool gt) rfl) ?_
  refine L_pu (P_move (vb true) rfl) ?_
  refine L_pass (dj := 34) rfl rfl (.inl rfl) ?_
  refine L_pass (dj := 34) rfl rfl (.inl rfl) ?_
  refine L_pass (dj := 34) rfl rfl (.inl rfl) ?_
  refine L_pu (P_pick true (vb true) (by exact congrArg Value.bool rfl) rfl) ?_
  refine L_pu (P_move (vb true) rfl) ?_
  refine L_pass (dj := 39) rfl rfl (.inl rfl) ?_
  refine L_pass (dj := 39) rfl rfl (.inl rfl) ?_
  refine L_pass (dj := 39) rfl rfl (.inl rfl) ?_
  refine L_pass (dj := 39) rfl rfl (.inl rfl) ?_
  refine L_pass (dj := 39) rfl rfl (.inl rfl) ?_
  refine L_pu (P_pick true (vb true) (by exact congrArg Value.bool rfl) rfl) ?_
  refine L_pu (P_move (vb true) rfl) ?_
  refine L_pass (dj := 46) rfl rfl (.inl rfl) ?_
  refine L_pass (dj := 46) rfl rfl (.inl rfl) ?_
  refine L_pass (dj := 46) rfl rfl (.inl rfl) ?_
  refine L_pass (dj := 46) rfl rfl (.inl rfl) ?_
  refine L_pass (dj := 46) rfl rfl (.inl rfl) ?_
  refine L_pu (P_pick true (vb true) (by exact congrArg Value.bool rfl) rfl) ?_
  refine L_nil ?_
  refine W_ct (b := true) rfl rfl ?_
  refine W_seq ?_
  refine W_reg ?_
  refine L_pu (P_build (.agg #[vs ([] : Str), vi 0, .slice none 0 0, .slice none 0 0]) (fun _ => by kernel_rfl)) ?_
  refine L_pu (P_move (.slice ap bt bu) rfl) ?_
  have yw := ((ez.k0 eo).k0 b3)
  refine L_stb aa 0 [vs ([] : Str), vi 0, .slice none 0 0, .slice none 0 0] [vs ([] : Str), vi 0, .slice none 0 0, .slice none 0 0] [vs ([] : Str), vi 0, .slice none 0 0, .slice none 0 0] rfl yw rfl sz71 rfl rfl rfl fun u5 u6 yx => ?_
  have yy := jh.wr 1 rfl u6
  refine L_pu (P_assign (.slice ap bt bu) rfl) ?_
  refine L_nil ?_
  refine W_ret ?_
  have yz := yy.own (Gr.refl _ none) none (by simp)
  have y0 : Ow kPt 29 u5 ([bk none, bk ap, some aa] ++ O) (.slice none 0 0) [] := Ow.nil _ _ _ _
  have l4 := yz.own (Gr.refl _ none) none (by simp)
  have y1 : Ow kTag 133 u5 ([bk none, bk none, bk ap, some aa] ++ O) (.slice none 0 0) [] := Ow.nil _ _ _ _
  have y2 := yx
  have y3 := l4.bgv y2 3 rfl
  have l5 := l4.drop 3 rfl
  have qj := l5.perm (.swap _ _ _)
  have y4 := l5.stp (.swap _ _ _)
  have y5 := (y3.st y4)
  have y6 := (l5.sp (l4.sd (y0.so none (Gr.refl _ none) (by simp)) 1 3 rfl rfl rfl) (.swap _ _ _))
  have y7 := (l5.sp (l4.sd y1 0 3 rfl rfl rfl) (.swap _ _ _))
  have y8 := (l5.sp (l4.sd (((jh.sw (e0.sn b3) 0 1 rfl rfl rfl u6).so none (Gr.refl _ none) (by simp)).so none (Gr.refl _ none) (by simp)) 2 3 rfl rfl rfl) (.swap _ _ _))
  exact ⟨[.agg #[vs ([] : Str), vi 0, .slice none 0 0, .slice none 0 0], .slice ap bt bu], ⟨_, _, rfl, y5.1.res rfl ag71 sz71, ⟨_, rfl, rfl⟩⟩, (⟨([] : Str), (⟨0, ([] : List Pt)⟩ : Shape), ([] : List Tag)⟩ : Feat), ([] : List Str), none, 0, 0, none, 0, 0, ap, bt, bu, rfl, H, qj.gr.g0, qj.ok, qj.ge, (by decide), y6, y7, y8⟩
 ·have H := ite_f H gt
  refine L_run (dj := 29) rfl rfl (by exact congrArg Value.bool gt) ?_
  have qk := l3.stn b3
  have u7 := ((((yp.st u3).st qh).st qi).st qk)
  refine L_pu (P_lda ag71 sz71 cL ⟨a6, 0, none⟩ [vs a.Id, vi a.Shape.Kind, .slice bc bd be, .slice bq br bs] rfl rfl (u7.cells (off := 0) rfl)) ?_
  refine L_run (dj := 29) rfl rfl (by exact congrArg Value.bool gt) ?_
  refine L_call go93 [.agg #[vs a.Id, vi a.Shape.Kind, .slice bc bd be, .slice bq br bs]] rfl ((impl_FeatOk.calls yv jh.ok a bc bd be bq br bs hs (fi.st jh.st) (gd.st jh.st) _ H).mono ?_)
  rintro _ y9 ⟨r2, rfl, H, b6⟩
  have ji := jh.k0 b6
  refine L_run (dj := 29) rfl rfl (by exact congrArg Value.bool gt) ?_
  refine L_pu (P_not r2 rfl) ?_
  refine L_pu (P_pick false (vb (!r2)) (by exact congrArg Value.bool gt) rfl) ?_
  refine L_pu (P_move (vb (!r2)) rfl) ?_
  rcases bool_or (!r2) with gu | gu
  ·have H := ite_t H gu
   refine L_pass (dj := 34) rfl rfl (.inl (by exact congrArg Value.bool gu)) ?_
   refine L_pass (dj := 34) rfl rfl (.inl (by exact congrArg Value.bool gu)) ?_
   refine L_pass (dj := 34) rfl rfl (.inl (by exact congrArg Value.bool gu)) ?_
   refine L_pu (P_pick true (vb true) (by exact congrArg Value.bool gu) rfl) ?_
   refine L_pu (P_move (vb true) rfl) ?_
   refine L_pass (dj := 39) rfl rfl (.inl rfl) ?_
   refine L_pass (dj := 39) rfl rfl (.inl rfl) ?_
   refine L_pass (dj := 39) rfl rfl (.inl rfl) ?_
   refine L_pass (dj := 39) rfl rfl (.inl rfl) ?_
   refine L_pass (dj := 39) rfl rfl (.inl rfl) ?_
   refine L_pu (P_pick true (vb true) (by exact congrArg Value.bool rfl) rfl) ?_
   refine L_pu (P_move (vb true) rfl) ?_
   refine L_pass (dj := 46) rfl rfl (.inl rfl) ?_
   refine L_pass (dj := 46) rfl rfl (.inl rfl) ?_
   refine L_pass (dj := 46) rfl rfl (.inl rfl) ?_
   refine L_pass (dj := 46) rfl rfl (.inl rfl) ?_
   refine L_pass (dj := 46) rfl rfl (.inl rfl) ?_
   refine L_pu (P_pick true (vb true) (by exact congrArg Value.bool rfl) rfl) ?_
   refine L_nil ?_
   refine W_ct (b := true) rfl rfl ?_
   refine W_seq ?_
   refine W_reg ?_
   refine L_pu (P_build (.agg #[vs ([] : Str), vi 0, .slice none 0 0, .slice none 0 0]) (fun _ => by kernel_rfl)) ?_
   refine L_pu (P_move (.slice ap bt bu) rfl) ?_
   have za := (((ez.k0 eo).k0 b3).k0 b6)
   refine L_stb aa 0 [vs ([] : Str), vi 0, .slice none 0 0, .slice none 0 0] [vs ([] : Str), vi 0, .slice none 0 0, .slice none 0 0] [vs ([] : Str), vi 0, .slice none 0 0, .slice none 0 0] rfl za rfl sz71 rfl rfl rfl fun u8 u9 zb => ?_
   have zc := ji.wr 1 rfl u9
   refine L_pu (P_assign (.slice ap bt bu) rfl) ?_
   refine L_nil ?_
   refine W_ret ?_
   have zd := zc.own (Gr.refl _ none) none (by simp)
   have ze : Ow kPt 29 u8 ([bk none, bk ap, some aa] ++ O) (.slice none 0 0) [] := Ow.nil _ _ _ _
   have l6 := zd.own (Gr.refl _ none) none (by simp)
   have zf : Ow kTag 133 u8 ([bk none, bk none, bk ap, some aa] ++ O) (.slice none 0 0) [] := Ow.nil _ _ _ _
   have zg := zb
   have zh := l6.bgv zg 3 rfl
   have l7 := l6.drop 3 rfl
   have ql := l7.perm (.swap _ _ _)
   have zi := l7.stp (.swap _ _ _)
   have zj := (zh.st zi)
   have zk := (l7.sp (l6.sd (ze.so none (Gr.refl _ none) (by simp)) 1 3 rfl rfl rfl) (.swap _ _ _))
   have zl := (l7.sp (l6.sd zf 0 3 rfl rfl rfl) (.swap _ _ _))
   have zm := (l7.sp (l6.sd (((ji.sw ((e0.sn b3).sn b6) 0 1 rfl rfl rfl u9).so none (Gr.refl _ none) (by simp)).so none (Gr.refl _ none) (by simp)) 2 3 rfl rfl rfl) (.swap _ _ _))
   exact ⟨[.agg #[vs ([] : Str), vi 0, .slice none 0 0, .slice none 0 0], .slice ap bt bu], ⟨_, _, rfl, zj.1.res rfl ag71 sz71, ⟨_, rfl, rfl⟩⟩, (⟨([] : Str), (⟨0, ([] : List Pt)⟩ : Shape), ([] : List Tag)⟩ : Feat), ([] : List Str), none, 0, 0, none, 0, 0, ap, bt, bu, rfl, H, ql.gr.g0, ql.ok, ql.ge, (by decide), zk, zl, zm⟩
  ·have H := ite_f H gu
   refine L_run (dj := 34) rfl rfl (by exact congrArg Value.bool gu) ?_
   have qm := jh.stn b6
   have va := ((((ys.st qh).st qi).st qk).st qm)
   refine L_pu (P_lda ag71 sz71 cL ⟨bz, 0, none⟩ [vs b.Id, vi b.Shape.Kind, .slice ar au av, .slice a2 a3 a4] rfl rfl (va.cells (off := 0) rfl)) ?_
   refine L_run (dj := 34) rfl rfl (by exact congrArg Value.bool gu) ?_
   refine L_call go93 [.agg #[vs b.Id, vi b.Shape.Kind, .slice ar au av, .slice a2 a3 a4]] rfl ((impl_FeatOk.calls y9 ji.ok b ar au av a2 a3 a4 gf (fj.st ji.st) (gg.st ji.st) _ H).mono ?_)
   rintro _ an2 ⟨r3, rfl, H, cb⟩
   have i7 := ji.k0 cb
   refine L_run (dj := 34) rfl rfl (by exact congrArg Value.bool gu) ?_
   refine L_pu (P_not r3 rfl) ?_
   refine L_pu (P_pick false (vb (!r3)) (by exact congrArg Value.bool gu) rfl) ?_
   refine L_pu (P_move (vb (!r3)) rfl) ?_
   rcases bool_or (!r3) with e7 | e7
   ·have H := ite_t H e7
    refine L_pass (dj := 39) rfl rfl (.inl (by exact congrArg Value.bool e7)) ?_
    refine L_pass (dj := 39) rfl rfl (.inl (by exact congrArg Value.bool e7)) ?_
    refine L_pass (dj := 39) rfl rfl (.inl (by exact congrArg Value.bool e7)) ?_
    refine L_pass (dj := 39) rfl rfl (.inl (by exact congrArg Value.bool e7)) ?_
    refine L_pass (dj := 39) rfl rfl (.inl (by exact congrArg Value.bool e7)) ?_
    refine L_pu (P_pick true (vb true) (by exact congrArg Value.bool e7) rfl) ?_
    refine L_pu (P_move (vb true) rfl) ?_
    refine L_pass (dj := 46) rfl rfl (.inl rfl) ?_
    refine L_pass (dj := 46) rfl rfl (.inl rfl) ?_
    refine L_pass (dj := 46) rfl rfl (.inl rfl) ?_
    refine L_pass (dj := 46) rfl rfl (.inl rfl) ?_
    refine L_pass (dj := 46) rfl rfl (.inl rfl) ?_
    refine L_pu (P_pick true (vb true) (by exact congrArg Value.bool rfl) rfl) ?_
    refine L_nil ?_
    refine W_ct (b := true) rfl rfl ?_
    refine W_seq ?_
    refine W_reg ?_
    refine L_pu (P_build (.agg #[vs ([] : Str), vi 0, .slice none 0 0, .slice none 0 0]) (fun _ => by kernel_rfl)) ?_
    refine L_pu (P_move (.slice ap bt bu) rfl) ?_
    have zn := ((((ez.k0 eo).k0 b3).k0 b6).k0 cb)
    refine L_stb aa 0 [vs ([] : Str), vi 0, .slice none 0 0, .slice none 0 0] [vs ([] : Str), vi 0, .slice none 0 0, .slice none 0 0] [vs ([] : Str), vi 0, .slice none 0 0, .slice none 0 0] rfl zn rfl sz71 rfl rfl rfl fun vc vd zo => ?_
    have zp := i7.wr 1 rfl vd
    refine L_pu (P_assign (.slice ap bt bu) rfl) ?_
    refine L_nil ?_
    refine W_ret ?_
    have zq := zp.own (Gr.refl _ none) none (by simp)
    have zr : Ow kPt 29 vc ([bk none, bk ap, some aa] ++ O) (.slice none 0 0) [] := Ow.nil _ _ _ _
    have l8 := zq.own (Gr.refl _ none) none (by simp)
    have zs : Ow kTag 133 vc ([bk none, bk none, bk ap, some aa] ++ O) (.slice none 0 0) [] := Ow.nil _ _ _ _
    have zt := zo
    have zu := l8.bgv zt 3 rfl
    have l9 := l8.drop 3 rfl
    have qn := l9.perm (.swap _ _ _)
    have zv := l9.stp (.swap _ _ _)
    have zw := (zu.st zv)
    have zx := (l9.sp (l8.sd (zr.so none (Gr.refl _ none) (by simp)) 1 3 rfl rfl rfl) (.swap _ _ _))
    have zy := (l9.sp (l8.sd zs 0 3 rfl rfl rfl) (.swap _ _ _))
    have zz := (l9.sp (l8.sd (((i7.sw (((e0.sn b3).sn b6).sn cb) 0 1 rfl rfl rfl vd).so none (Gr.refl _ none) (by simp)).so none (Gr.refl _ none) (by simp)) 2 3 rfl rfl rfl) (.swap _ _ _))
    exact ⟨[.agg #[vs ([] : Str), vi 0, .slice none 0 0, .slice none 0 0], .slice ap bt bu], ⟨_, _, rfl, zw.1.res rfl ag71 sz71, ⟨_, rfl, rfl⟩⟩, (⟨([] : Str), (⟨0, ([] : List Pt)⟩ : Shape), ([] : List Tag)⟩ : Feat), ([] : List Str), none, 0, 0, none, 0, 0, ap, bt, bu, rfl, H, qn.gr.g0, qn.ok, qn.ge, (by decide), zx, zy, zz⟩
   ·have H := ite_f H e7
    refine L_run (dj := 39) rfl rfl (by exact congrArg Value.bool e7) ?_
    refine L_pu (P_fa fa71_0 ⟨a7, 0, none⟩ ⟨a7, 0, none⟩ rfl rfl) ?_
    refine L_run (dj := 39) rfl rfl (by exact congrArg Value.bool e7) ?_
    have qo := ji.stn cb
    have qp := (((u4.st qk).st qm).st qo)
    refine L_pu (P_ld ag9 cL ⟨a7, 0, none⟩ (vs base_.Id) rfl (qp.cell rfl)) ?_
    refine L_run (dj := 39) rfl rfl (by exact congrArg Value.bool e7) ?_
    refine L_pu (P_fa fa71_0 ⟨a6, 0, none⟩ ⟨a6, 0, none⟩ rfl rfl) ?_
    refine L_run (dj := 39) rfl rfl (by exact congrArg Value.bool e7) ?_
    have qq := ((u7.st qm).st qo)
    refine L_pu (P_ld ag9 cL ⟨a6, 0, none⟩ (vs a.Id) rfl (qq.cell rfl)) ?_
    refine L_run (dj := 39) rfl rfl (by exact congrArg Value.bool e7) ?_
    refine L_pu (P_scmp base_.Id a.Id (base_.Id != a.Id) rfl rfl rfl) ?_
    refine L_pu (P_pick false (vb (base_.Id != a.Id)) (by exact congrArg Value.bool e7) rfl) ?_
    refine L_pu (P_move (vb (base_.Id != a.Id)) rfl) ?_
    rcases bool_or (base_.Id != a.Id) with e8 | e8
    ·have H := ite_t H e8
     refine L_pass (dj := 46) rfl rfl (.inl (by exact congrArg Value.bool e8)) ?_
     refine L_pass (dj := 46) rfl rfl (.inl (by exact congrArg Value.bool e8)) ?_
     refine L_pass (dj := 46) rfl rfl (.inl (by exact congrArg Value.bool e8)) ?_
     refine L_pass (dj := 46) rfl rfl (.inl (by exact congrArg Value.bool e8)) ?_
     refine L_pass (dj := 46) rfl rfl (.inl (by exact congrArg Value.bool e8)) ?_
     refine L_pu (P_pick true (vb true) (by exact congrArg Value.bool e8) rfl) ?_
     refine L_nil ?_
     refine W_ct (b := true) rfl rfl ?_
     refine W_seq ?_
     refine W_reg ?_
     refine L_pu (P_build (.agg #[vs ([] : Str), vi 0, .slice none 0 0, .slice none 0 0]) (fun _ => by kernel_rfl)) ?_
     refine L_pu (P_move (.slice ap bt bu) rfl) ?_
     have z0 := ((((ez.k0 eo).k0 b3).k0 b6).k0 cb)
     refine L_stb aa 0 [vs ([] : Str), vi 0, .slice none 0 0, .slice none 0 0] [vs ([] : Str), vi 0, .slice none 0 0, .slice none 0 0] [vs ([] : Str), vi 0, .slice none 0 0, .slice none 0 0] rfl z0 rfl sz71 rfl rfl rfl fun ve vf z1 => ?_
     have z5 := i7.wr 1 rfl vf
     refine L_pu (P_assign (.slice ap bt bu) rfl) ?_
     refine L_nil ?_
     refine W_ret ?_
     have z6 := z5.own (Gr.refl _ none) none (by simp)
     have z7 : Ow kPt 29 ve ([bk none, bk ap, some aa] ++ O) (.slice none 0 0) [] := Ow.nil _ _ _ _
     have ma := z6.own (Gr.refl _ none) none (by simp)
     have z8 : Ow kTag 133 ve ([bk none, bk none, bk ap, some aa] ++ O) (.slice none 0 0) [] := Ow.nil _ _ _ _
     have z9 := z1
     have aaa := ma.bgv z9 3 rfl
     have mb := ma.drop 3 rfl
     have qr := mb.perm (.swap _ _ _)
     have aab := mb.stp (.swap _ _ _)
     have aac := (aaa.st aab)
     have aad := (mb.sp (ma.sd (z7.so none (Gr.refl _ none) (by simp)) 1 3 rfl rfl rfl) (.swap _ _ _))
     have aae := (mb.sp (ma.sd z8 0 3 rfl rfl rfl) (.swap _ _ _))
     have aaf := (mb.sp (ma.sd (((i7.sw (((e0.sn b3).sn b6).sn cb) 0 1 rfl rfl rfl vf).so none (Gr.refl _ none) (by simp)).so none (Gr.refl _ none) (by simp)) 2 3 rfl rfl rfl) (.swap _ _ _))
     exact ⟨[.agg #[vs ([] : Str), vi 0, .slice none 0 0, .slice none 0 0], .slice ap bt bu], ⟨_, _, rfl, aac.1.res rfl ag71 sz71, ⟨_, rfl, rfl⟩⟩, (⟨([] : Str), (⟨0, ([] : List Pt)⟩ : Shape), ([] : List Tag)⟩ : Feat), ([] : List Str), none, 0, 0, none, 0, 0, ap, bt, bu, rfl, H, qr.gr.g0, qr.ok, qr.ge, (by decide), aad, aae, aaf⟩
    ·have H := ite_f H e8
     refine L_run (dj := 46) rfl rfl (by exact congrArg Value.bool e8) ?_
     refine L_pu (P_fa fa71_0 ⟨a7, 0, none⟩ ⟨a7, 0, none⟩ rfl rfl) ?_
     refine L_run (dj := 46) rfl rfl (by exact congrArg Value.bool e8) ?_
     refine L_pu (P_ld ag9 cL ⟨a7, 0, none⟩ (vs base_.Id) rfl (qp.cell rfl)) ?_
     refine L_run (dj := 46) rfl rfl (by exact congrArg Value.bool e8) ?_
     refine L_pu (P_fa fa71_0 ⟨bz, 0, none⟩ ⟨bz, 0, none⟩ rfl rfl) ?_
     refine L_run (dj := 46) rfl rfl (by exact congrArg Value.bool e8) ?_
     have vg := (va.st qo)
     refine L_pu (P_ld ag9 cL ⟨bz, 0, none⟩ (vs b.Id) rfl (vg.cell rfl)) ?_
     refine L_run (dj := 46) rfl rfl (by exact congrArg Value.bool e8) ?_
     refine L_pu (P_scmp base_.Id b.Id (base_.Id != b.Id) rfl rfl rfl) ?_
     refine L_pu (P_pick false (vb (base_.Id != b.Id)) (by exact congrArg Value.bool e8) rfl) ?_
     refine L_nil ?_
     refine W_cond (base_.Id != b.Id) rfl (fun qs => ?_) (fun qs => ?_)
     ·have H := ite_t H qs
      refine W_seq ?_
      refine W_reg ?_
      refine L_pu (P_build (.agg #[vs ([] : Str), vi 0, .slice none 0 0, .slice none 0 0]) (fun _ => by kernel_rfl)) ?_
      refine L_pu (P_move (.slice ap bt bu) rfl) ?_
      have aag := ((((ez.k0 eo).k0 b3).k0 b6).k0 cb)
      refine L_stb aa 0 [vs ([] : Str), vi 0, .slice none 0 0, .slice none 0 0] [vs ([] : Str), vi 0, .slice none 0 0, .slice none 0 0] [vs ([] : Str), vi 0, .slice none 0 0, .slice none 0 0] rfl aag rfl sz71 rfl rfl rfl fun vh vj aah => ?_
      have aai := i7.wr 1 rfl vj
      refine L_pu (P_assign (.slice ap bt bu) rfl) ?_
      refine L_nil ?_
      refine W_ret ?_
      have aaj := aai.own (Gr.refl _ none) none (by simp)
      have aak : Ow kPt 29 vh ([bk none, bk ap, some aa] ++ O) (.slice none 0 0) [] := Ow.nil _ _ _ _
      have mc := aaj.own (Gr.refl _ none) none (by simp)
      have aal : Ow kTag 133 vh ([bk none, bk none, bk ap, some aa] ++ O) (.slice none 0 0) [] := Ow.nil _ _ _ _
      have aam := aah
      have aan := mc.bgv aam 3 rfl
      have md := mc.drop 3 rfl
      have qt := md.perm (.swap _ _ _)
      have aao := md.stp (.swap _ _ _)
      have aap := (aan.st aao)
      have aaq := (md.sp (mc.sd (aak.so none (Gr.refl _ none) (by simp)) 1 3 rfl rfl rfl) (.swap _ _ _))
      have aar := (md.sp (mc.sd aal 0 3 rfl rfl rfl) (.swap _ _ _))
      have aas := (md.sp (mc.sd (((i7.sw (((e0.sn b3).sn b6).sn cb) 0 1 rfl rfl rfl vj).so none (Gr.refl _ none) (by simp)).so none (Gr.refl _ none) (by simp)) 2 3 rfl rfl rfl) (.swap _ _ _))
      exact ⟨[.agg #[vs ([] : Str), vi 0, .slice none 0 0, .slice none 0 0], .slice ap bt bu], ⟨_, _, rfl, aap.1.res rfl ag71 sz71, ⟨_, rfl, rfl⟩⟩, (⟨([] : Str), (⟨0, ([] : List Pt)⟩ : Shape), ([] : List Tag)⟩ : Feat), ([] : List Str), none, 0, 0, none, 0, 0, ap, bt, bu, rfl, H, qt.gr.g0, qt.ok, qt.ge, (by decide), aaq, aar, aas⟩
     ·have H := ite_f H qs
      refine W_skip ?_
      refine W_seq ?_
      refine W_reg ?_
      refine L_pu (P_fa fa71_0 ⟨a6, 0, none⟩ ⟨a6, 0, none⟩ rfl rfl) ?_
      refine L_pu (P_ld ag9 cL ⟨a6, 0, none⟩ (vs a.Id) rfl (qq.cell rfl)) ?_
      refine L_lit (kd := kTag) ei69 i7 ([] : List Tag) (cells := []) rfl (fun _ => by kernel_rfl) fun an3 am hi hj co hr219 vk gw => ?_
      refine L_pu (P_build (.agg #[vs a.Id, vi 0, .slice none 0 0, .slice am hi hj]) (fun _ => by kernel_rfl)) ?_
      refine L_alloc [vs [], .int .i64 0, .slice none 0 0, .slice none 0 0] ze71 fun an4 ab cj hu227 b0 aat => ?_
      have b1 := vk.own b0 (some ab) (oglt cj hu227)
      refine L_stb ab 0 [vs ([] : Str), vi 0, .slice none 0 0, .slice none 0 0] [vs a.Id, vi 0, .slice none 0 0, .slice am hi hj] [vs a.Id, vi 0, .slice none 0 0, .slice am hi hj] rfl aat rfl sz71 rfl rfl rfl fun vl b2 gx => ?_
      have jj := b1.wr 0 rfl b2
      refine L_nil ?_
      refine W_seq ?_
      refine W_reg ?_
      refine L_pu (P_fa fa71_1 ⟨a7, 0, none⟩ ⟨a7, 1, none⟩ rfl rfl) ?_
      have qu := i7.stown _ co hr219
      have qv := vk.stown _ b0 (oge cj)
      have qw := b1.stw 0 rfl b2
      have qx := (((qp.st qu).st qv).st qw)
      refine L_pu (P_lda ag68 sz68 cL ⟨a7, 1, none⟩ [vi base_.Shape.Kind, .slice A2 n3 c4] rfl rfl (qx.cells (off := 1) rfl)) ?_
      refine L_pu (P_fa fa71_1 ⟨a6, 0, none⟩ ⟨a6, 1, none⟩ rfl rfl) ?_
      have qy := (((qq.st qu).st qv).st qw)
      refine L_pu (P_lda ag68 sz68 cL ⟨a6, 1, none⟩ [vi a.Shape.Kind, .slice bc bd be] rfl rfl (qy.cells (off := 1) rfl)) ?_
      refine L_pu (P_fa fa71_1 ⟨bz, 0, none⟩ ⟨bz, 1, none⟩ rfl rfl) ?_
      have me := (((vg.st qu).st qv).st qw)
      refine L_pu (P_lda ag68 sz68 cL ⟨bz, 1, none⟩ [vi b.Shape.Kind, .slice ar au av] rfl rfl (me.cells (off := 1) rfl)) ?_
      obtain ⟨f, f_ok, aau, H⟩ := H
      have aav : ∀ (w : World) (L : Ob), Ct [] vl w L ([some ab, bk am, bk ap, some aa] ++ O) → ∀ (x0_ : Shape) (om : Option Addr) (on oo : Nat) (vm : Sl kPt w (Fr (L ++ ([some ab, bk am, bk ap, some aa] ++ O))) (.slice om on oo) x0_.Pts) (x1_ : Shape) (oq : Option Addr) (os ot : Nat) (vn : Sl kPt w (Fr (L ++ ([some ab, bk am, bk ap, some aa] ++ O))) (.slice oq os ot) x1_.Pts), f_ok x0_ x1_ → Ret Try.prog 95 ([.agg #[vi x0_.Kind, .slice om on oo], .agg #[vi x1_.Kind, .slice oq os ot]] ++ []) w (fun v w' => v = vb (f x0_ x1_) ∧ Gr w w' none) := by
       intro w L c x0_ om on oo vm x1_ oq os ot vn hok
       refine (impl_ShapeSame.calls w c.ok x0_ om on oo vm x1_ oq os ot vn  _ (aau x0_ x1_ hok)).mono ?_
       rintro _ w2 ⟨r, rfl, rfl, g2⟩
       exact ⟨rfl, g2⟩
      refine L_call go94 [.agg #[vi base_.Shape.Kind, .slice A2 n3 c4], .agg #[vi a.Shape.Kind, .slice bc bd be], .agg #[vi b.Shape.Kind, .slice ar au av], .func (.func 95) #[] #[]] rfl ((impl_ofThree_Shape.calls vl jj.ok base_.Shape A2 n3 c4 (hp5.st jj.st) a.Shape bc bd be (fi.st jj.st) b.Shape ar au av (fj.st jj.st) 95 [] f f_ok go95 aav _ H).mono ?_)
      rintro _ an5 ⟨r4, r5, e1, e2, e3, rfl, H, ax, ht⟩
      have qz := jj.k0 ax
      refine L_pu (P_move (.tuple #[.agg #[vi r4.Kind, .slice e1 e2 e3], vb r5]) rfl) ?_
      refine L_pu (P_ext [.agg #[vi r4.Kind, .slice e1 e2 e3], vb r5] 0 (.agg #[vi r4.Kind, .slice e1 e2 e3]) rfl rfl) ?_
      refine L_pu (P_ext [.agg #[vi r4.Kind, .slice e1 e2 e3], vb r5] 1 (vb r5) rfl rfl) ?_
      refine L_alloc [.int .i64 0, .slice none 0 0] ze68 fun an6 b7 ch hu258 ay aaw => ?_
      have az := qz.own ay (some b7) (oglt ch hu258)
      refine L_stb b7 0 [vi 0, .slice none 0 0] [vi r4.Kind, .slice e1 e2 e3] [vi r4.Kind, .slice e1 e2 e3] rfl aaw rfl sz68 rfl rfl rfl fun aax a0 hk => ?_
      have b9 := az.wr 0 rfl a0
      refine L_pu (P_assign (vb r5) rfl) ?_
      refine L_nil ?_
      refine W_seq ?_
      refine W_seq ?_
      refine W_reg ?_
      refine L_pu (P_move (vb r5) rfl) ?_
      refine L_pu (P_not r5 rfl) ?_
      refine L_nil ?_
      obtain ⟨aay, H, aaz⟩ := H
      refine W_join (J := (fun t el => ∃ (xs : List Str) (bf : Option Addr) (k5 : Nat) (k6 : Nat) (z : Int) (z2 : List Pt) (k7 : Option Addr) (k8 : Nat) (k9 : Nat), aay xs z z2 ∧ Has t [(3, .pointer (some ⟨a7, 0, none⟩)), (4, .pointer (some ⟨a6, 0, none⟩)), (5, .pointer (some ⟨bz, 0, none⟩)), (6, .pointer (some ⟨aa, 0, none⟩)), (8, .slice bf k5 k6), (9, .pointer (some ⟨ab, 0, none⟩)), (10, .pointer (some ⟨b7, 0, none⟩))] ∧ Ct [] w0 el [some b7, some ab, bk am, bk bf, some aa] O ∧ Sl kPt el (Fr ([some b7, some ab, bk am, bk bf, some aa] ++ O)) (.slice bc bd be) a.Shape.Pts ∧ Sl kTag el (Fr ([some b7, some ab, bk am, bk bf, some aa] ++ O)) (.slice bq br bs) a.Tags ∧ Sl kPt el (Fr ([some b7, some ab, bk am, bk bf, some aa] ++ O)) (.slice ar au av) b.Shape.Pts ∧ Sl kTag el (Fr ([some b7, some ab, bk am, bk bf, some aa] ++ O)) (.slice a2 a3 a4) b.Tags ∧ Sl kPt el (Fr ([some b7, some ab, bk am, bk bf, some aa] ++ O)) (.slice A2 n3 c4) base_.Shape.Pts ∧ Sl kTag el (Fr ([some b7, some ab, bk am, bk bf, some aa] ++ O)) (.slice A7 n8 c9) base_.Tags ∧ Sl kPt el (Fr ([some b7, some ab, bk am, bk bf, some aa] ++ O)) (.slice k7 k8 k9) z2 ∧ Ow Kd.str 9 el ([some b7, some ab, bk am, bk bf, some aa] ++ O) (.slice bf k5 k6) xs ∧ Ow kTag 133 el ([some b7, some ab, bk am, bk bf, some aa] ++ O) (.slice am hi hj) ([] : List Tag) ∧ Fb el ([some b7, some ab, bk am, bk bf, some aa] ++ O) a7 [vs base_.Id, vi base_.Shape.Kind, .slice A2 n3 c4, .slice A7 n8 c9] ∧ Fb el ([some b7, some ab, bk am, bk bf, some aa] ++ O) a6 [vs a.Id, vi a.Shape.Kind, .slice bc bd be, .slice bq br bs] ∧ Fb el ([some b7, some ab, bk am, bk bf, some aa] ++ O) bz [vs b.Id, vi b.Shape.Kind, .slice ar au av, .slice a2 a3 a4] ∧ Bx el aa [vs ([] : Str), vi 0, .slice none 0 0, .slice none 0 0] ∧ Bx el ab [vs a.Id, vi 0, .slice none 0 0, .slice am hi hj] ∧ Bx el b7 [vi z, .slice k7 k8 k9])) ?_ ?_
      ·refine W_cond (!r5) rfl (fun q0 => ?_) (fun q0 => ?_)
       ·have H := ite_t H q0
        refine W_seq ?_
        refine W_reg ?_
        refine L_pu (P_assign (vb false) rfl) ?_
        refine L_nil ?_
        refine W_seq ?_
        refine W_seq ?_
        refine W_reg ?_
        refine L_pu (P_fa fa71_1 ⟨a7, 0, none⟩ ⟨a7, 1, none⟩ rfl rfl) ?_
        refine L_pu (P_fa fa68_0 ⟨a7, 1, none⟩ ⟨a7, 1, none⟩ rfl rfl) ?_
        have mf := jj.stn ax
        have fv := qz.stown _ ay (oge ch)
        have fw := az.stw 0 rfl a0
        have fx := (((qx.st mf).st fv).st fw)
        refine L_pu (P_ld ag3 cL ⟨a7, 1, none⟩ (vi base_.Shape.Kind) rfl (fx.cell rfl)) ?_
        refine L_pu (P_fa fa71_1 ⟨a6, 0, none⟩ ⟨a6, 1, none⟩ rfl rfl) ?_
        refine L_pu (P_fa fa68_0 ⟨a6, 1, none⟩ ⟨a6, 1, none⟩ rfl rfl) ?_
        have jk := (((qy.st mf).st fv).st fw)
        refine L_pu (P_ld ag3 cL ⟨a6, 1, none⟩ (vi a.Shape.Kind) rfl (jk.cell rfl)) ?_
        refine L_pu (P_cmp base_.Shape.Kind a.Shape.Kind (base_.Shape.Kind == a.Shape.Kind) rfl rfl rfl) ?_
        refine L_pu (P_move (vb (base_.Shape.Kind == a.Shape.Kind)) rfl) ?_
        rcases bool_or (base_.Shape.Kind == a.Shape.Kind) with dv | dv
        ·have H := ite_t H dv
         refine L_run (dj := 78) rfl rfl (by exact congrArg Value.bool dv) ?_
         refine L_pu (P_fa fa71_1 ⟨a7, 0, none⟩ ⟨a7, 1, none⟩ rfl rfl) ?_
         refine L_run (dj := 78) rfl rfl (by exact congrArg Value.bool dv) ?_
         refine L_pu (P_fa fa68_0 ⟨a7, 1, none⟩ ⟨a7, 1, none⟩ rfl rfl) ?_
         refine L_run (dj := 78) rfl rfl (by exact congrArg Value.bool dv) ?_
         refine L_pu (P_ld ag3 cL ⟨a7, 1, none⟩ (vi base_.Shape.Kind) rfl (fx.cell rfl)) ?_
         refine L_run (dj := 78) rfl rfl (by exact congrArg Value.bool dv) ?_
         refine L_pu (P_fa fa71_1 ⟨bz, 0, none⟩ ⟨bz, 1, none⟩ rfl rfl) ?_
         refine L_run (dj := 78) rfl rfl (by exact congrArg Value.bool dv) ?_
         refine L_pu (P_fa fa68_0 ⟨bz, 1, none⟩ ⟨bz, 1, none⟩ rfl rfl) ?_
         refine L_run (dj := 78) rfl rfl (by exact congrArg Value.bool dv) ?_
         have hl := (((me.st mf).st fv).st fw)
         refine L_pu (P_ld ag3 cL ⟨bz, 1, none⟩ (vi b.Shape.Kind) rfl (hl.cell rfl)) ?_
         refine L_run (dj := 78) rfl rfl (by exact congrArg Value.bool dv) ?_
         refine L_pu (P_cmp base_.Shape.Kind b.Shape.Kind (base_.Shape.Kind == b.Shape.Kind) rfl rfl rfl) ?_
         refine L_pu (P_pick true (vb (base_.Shape.Kind == b.Shape.Kind)) (by exact congrArg Value.bool dv) rfl) ?_
         refine L_nil ?_
         refine W_cond (base_.Shape.Kind == b.Shape.Kind) rfl (fun q1 => ?_) (fun q1 => ?_)
         ·have H := ite_t H q1
          refine W_seq ?_
          refine W_reg ?_
          refine L_pu (P_fa fa71_1 ⟨a7, 0, none⟩ ⟨a7, 1, none⟩ rfl rfl) ?_
          refine L_pu (P_fa fa68_1 ⟨a7, 1, none⟩ ⟨a7, 2, none⟩ rfl rfl) ?_
          refine L_pu (P_ld ag23 cL ⟨a7, 2, none⟩ (.slice A2 n3 c4) rfl (fx.cell rfl)) ?_
          refine L_pu (P_fa fa71_1 ⟨a6, 0, none⟩ ⟨a6, 1, none⟩ rfl rfl) ?_
          refine L_pu (P_fa fa68_1 ⟨a6, 1, none⟩ ⟨a6, 2, none⟩ rfl rfl) ?_
          refine L_pu (P_ld ag23 cL ⟨a6, 2, none⟩ (.slice bc bd be) rfl (jk.cell rfl)) ?_
          refine L_pu (P_fa fa71_1 ⟨bz, 0, none⟩ ⟨bz, 1, none⟩ rfl rfl) ?_
          refine L_pu (P_fa fa68_1 ⟨bz, 1, none⟩ ⟨bz, 2, none⟩ rfl rfl) ?_
          refine L_pu (P_ld ag23 cL ⟨bz, 2, none⟩ (.slice ar au av) rfl (hl.cell rfl)) ?_
          refine L_call go10 [.slice A2 n3 c4, .slice bc bd be, .slice ar au av] rfl ((impl_SeqMerge.calls aax b9.ok base_.Shape.Pts A2 n3 c4 (hp5.st b9.st) a.Shape.Pts bc bd be (fi.st b9.st) b.Shape.Pts ar au av (fj.st b9.st) _ H).mono ?_)
          rintro _ an7 ⟨r6, r7, ci, ep, eq, rfl, H, ca, aa0, fk, q2⟩
          have jl := b9.owns ca aa0 fk
          refine L_pu (P_move (.tuple #[.slice ci ep eq, vb r7]) rfl) ?_
          refine L_pu (P_ext [.slice ci ep eq, vb r7] 0 (.slice ci ep eq) rfl rfl) ?_
          refine L_pu (P_ext [.slice ci ep eq, vb r7] 1 (vb r7) rfl rfl) ?_
          refine L_pu (P_assign (.slice ci ep eq) rfl) ?_
          refine L_pu (P_assign (vb r7) rfl) ?_
          refine L_nil ?_
          refine W_seq ?_
          refine W_reg ?_
          refine L_pu (P_fa fa71_1 ⟨a6, 0, none⟩ ⟨a6, 1, none⟩ rfl rfl) ?_
          refine L_pu (P_fa fa68_0 ⟨a6, 1, none⟩ ⟨a6, 1, none⟩ rfl rfl) ?_
          have er := b9.stos ca fk
          have jm := (jk.st er)
          refine L_pu (P_ld ag3 cL ⟨a6, 1, none⟩ (vi a.Shape.Kind) rfl (jm.cell rfl)) ?_
          refine L_pu (P_move (.slice ci ep eq) rfl) ?_
          refine L_pu (P_build (.agg #[vi a.Shape.Kind, .slice ci ep eq]) (fun _ => by kernel_rfl)) ?_
          refine L_alloc [.int .i64 0, .slice none 0 0] ze68 fun an8 gh c8 hu326 bg aa1 => ?_
          have bh := jl.own bg (some gh) (oglt c8 hu326)
          refine L_stb gh 0 [vi 0, .slice none 0 0] [vi a.Shape.Kind, .slice ci ep eq] [vi a.Shape.Kind, .slice ci ep eq] rfl aa1 rfl sz68 rfl rfl rfl fun aa2 bi vo => ?_
          have fy := bh.wr 0 rfl bi
          refine L_nil ?_
          refine W_seq ?_
          refine W_reg ?_
          refine L_pu (P_move (vb r7) rfl) ?_
          refine L_pu (P_move (vb r7) rfl) ?_
          rcases bool_or r7 with hu | hu
          ·have H := ite_t H hu
           refine L_run (dj := 106) rfl rfl (by exact congrArg Value.bool hu) ?_
           refine L_pu (P_lda ag68 sz68 cL ⟨gh, 0, none⟩ [vi a.Shape.Kind, .slice ci ep eq] rfl rfl (vo.cells (off := 0) rfl)) ?_
           refine L_run (dj := 106) rfl rfl (by exact congrArg Value.bool hu) ?_
           have aa3 := (bh.sw (q2.so _ bg (oge c8)) 1 0 rfl rfl rfl bi)
           have aa4 := fy.gv aa3 1 rfl
           have aa5 := fy.drop 1 rfl
           refine L_call go96 [.agg #[vi a.Shape.Kind, .slice ci ep eq]] rfl ((impl_ShapeOk.calls aa2 aa5.ok (⟨a.Shape.Kind, r6⟩ : Shape) ci ep eq aa4 _ H).mono ?_)
           rintro _ an9 ⟨r8, rfl, H, ce⟩
           have dw := fy.k0 ce
           refine L_pu (P_pick true (vb r8) (by exact congrArg Value.bool hu) rfl) ?_
           refine L_nil ?_
           refine W_cond r8 rfl (fun q3 => ?_) (fun q3 => ?_)
           ·have H := ite_t H q3
            refine W_reg ?_
            have aa6 := (vo.k0 ce)
            refine L_pu (P_lda ag68 sz68 cL ⟨gh, 0, none⟩ [vi a.Shape.Kind, .slice ci ep eq] rfl rfl (aa6.cells (off := 0) rfl)) ?_
            have aa7 := ((bh.bm ((hk.k0 ca).k0 bg) 2 0 rfl rfl rfl bi).k0 ce)
            refine L_stb b7 0 [vi r4.Kind, .slice e1 e2 e3] [vi a.Shape.Kind, .slice ci ep eq] [vi a.Shape.Kind, .slice ci ep eq] rfl aa7 rfl sz68 rfl rfl rfl fun aoa fz vp => ?_
            have jn := dw.wr 2 rfl fz
            refine L_pu (P_assign (vb true) rfl) ?_
            refine L_nil ?_
            refine W_seq ?_
            refine W_reg ?_
            refine L_pu (P_move (vb true) rfl) ?_
            refine L_pu (P_not true rfl) ?_
            refine L_nil ?_
            refine W_cond (!true) rfl (fun q4 => ?_) (fun q4 => ?_)
            ·have H := ite_t H q4
             refine W_reg ?_
             refine L_pu (P_move (.slice ap bt bu) rfl) ?_
             refine L_lit (kd := Kd.str) ei72 jn ([([115, 104, 97, 112, 101] : Str)] : List Str) (cells := [vs ([115, 104, 97, 112, 101] : Str)]) ⟨[vs ([115, 104, 97, 112, 101] : Str)], _, rfl, ⟨rfl, (by decide)⟩, rfl⟩ (fun _ => by kernel_rfl) fun aob aa8 aa9 aba jo hr358 la abb => ?_
             obtain ⟨abc, H⟩ := H
             have abd := ((dw.sw ((bh.sw (((az.sw (((b1.sw (((((e0.sn b3).sn b6).sn cb).so _ co hr219).so _ b0 (oge cj)) 2 0 rfl rfl rfl b2).sn ax).so _ ay (oge ch)) 3 0 rfl rfl rfl a0).sos ca fk).so _ bg (oge c8)) 5 0 rfl rfl rfl bi).sn ce) 5 2 rfl rfl rfl fz).so _ jo hr358)
             refine L_app ei72 la (.slice ap bt bu) ([] : List Str) ([([115, 104, 97, 112, 101] : Str)] : List Str) rfl abd (.slice aa8 aa9 aba) rfl abb.sx 6 rfl abc fun abe q5 vq vr mg mh mi abf => ?_
             refine L_pu (P_assign (.slice q5 vq vr) rfl) ?_
             refine L_nil ?_
             have mj := mi.drop 0 rfl
             have ml := mj.drop 0 rfl
             have abg := (mj.sd (mi.sd (la.sm ((dw.sw ((bh.sw (q2.so _ bg (oge c8)) 1 0 rfl rfl rfl bi).sn ce) 1 2 rfl rfl rfl fz).so _ jo hr358) 2 6 rfl rfl rfl mg mh) 2 0 rfl rfl rfl) 1 0 rfl rfl rfl)
             have abh := ml.gv abg 0 rfl
             have jp : Ct [] w0 abe [some b7, some ab, bk am, bk q5, some aa] O := ml.drop 0 rfl
             have abi := (ml.sd (mj.sd (mi.sd abf 6 0 rfl rfl rfl) 5 0 rfl rfl rfl) 4 0 rfl rfl rfl)
             have abj := (ml.sd (mj.sd (mi.sd (la.sm ((dw.sw ((bh.sw (((az.sw (((b1.sw (gw.so _ b0 (oge cj)) 1 0 rfl rfl rfl b2).sn ax).so _ ay (oge ch)) 2 0 rfl rfl rfl a0).sos ca fk).so _ bg (oge c8)) 4 0 rfl rfl rfl bi).sn ce) 4 2 rfl rfl rfl fz).so _ jo hr358) 5 6 rfl rfl rfl mg mh) 5 0 rfl rfl rfl) 4 0 rfl rfl rfl) 3 0 rfl rfl rfl)
             have q6 := jl.stown _ bg (oge c8)
             have q7 := bh.stw 0 rfl bi
             have q8 := fy.stn ce
             have q9 := dw.stw 2 rfl fz
             have ra := jn.stown _ jo hr358
             have rb := mi.std 0 rfl
             have rc := mj.std 0 rfl
             have rd := ml.std 0 rfl
             have abk := ((((((((((fx.st er).st q6).st q7).st q8).st q9).st ra).st mh).st rb).st rc).st rd)
             have abl := (((((((((jm.st q6).st q7).st q8).st q9).st ra).st mh).st rb).st rc).st rd)
             have abm := ((((((((((hl.st er).st q6).st q7).st q8).st q9).st ra).st mh).st rb).st rc).st rd)
             have abn := (la.bm ((dw.bm ((bh.bm (((az.bm (((b1.bm ((((((ez.k0 eo).k0 b3).k0 b6).k0 cb).k0 co).k0 b0) 3 0 rfl rfl rfl b2).k0 ax).k0 ay) 4 0 rfl rfl rfl a0).k0 ca).k0 bg) 6 0 rfl rfl rfl bi).k0 ce) 6 2 rfl rfl rfl fz).k0 jo) 7 6 rfl rfl rfl mg)
             have abo := (la.bm ((dw.bm ((bh.bm (((az.bm ((gx.k0 ax).k0 ay) 1 0 rfl rfl rfl a0).k0 ca).k0 bg) 3 0 rfl rfl rfl bi).k0 ce) 3 2 rfl rfl rfl fz).k0 jo) 4 6 rfl rfl rfl mg)
             have abp := (la.bm (vp.k0 jo) 3 6 rfl rfl rfl mg)
             exact ⟨(([] : List Str) ++ ([([115, 104, 97, 112, 101] : Str)] : List Str)), q5, vq, vr, a.Shape.Kind, r6, ci, ep, eq, H, ⟨rfl, rfl, rfl, rfl, rfl, rfl, rfl, trivial⟩, jp, (fi.st jp.st), (gd.st jp.st), (fj.st jp.st), (gg.st jp.st), (hp5.st jp.st), (gc.st jp.st), abh, abi, abj, abk, abl, abm, abn, abo, abp⟩
            ·have H := ite_f H q4
             refine W_skip ?_
             have mm := jn.drop 0 rfl
             have abq := (jn.sd (dw.sw ((bh.sw (q2.so _ bg (oge c8)) 1 0 rfl rfl rfl bi).sn ce) 1 2 rfl rfl rfl fz) 1 0 rfl rfl rfl)
             have abr := mm.gv abq 0 rfl
             have jq := mm.drop 0 rfl
             have abs := (mm.sd (jn.sd (dw.sw ((bh.sw (((az.sw (((b1.sw (((((e0.sn b3).sn b6).sn cb).so _ co hr219).so _ b0 (oge cj)) 2 0 rfl rfl rfl b2).sn ax).so _ ay (oge ch)) 3 0 rfl rfl rfl a0).sos ca fk).so _ bg (oge c8)) 5 0 rfl rfl rfl bi).sn ce) 5 2 rfl rfl rfl fz) 5 0 rfl rfl rfl) 4 0 rfl rfl rfl)
             have abt := (mm.sd (jn.sd (dw.sw ((bh.sw (((az.sw (((b1.sw (gw.so _ b0 (oge cj)) 1 0 rfl rfl rfl b2).sn ax).so _ ay (oge ch)) 2 0 rfl rfl rfl a0).sos ca fk).so _ bg (oge c8)) 4 0 rfl rfl rfl bi).sn ce) 4 2 rfl rfl rfl fz) 4 0 rfl rfl rfl) 3 0 rfl rfl rfl)
             have re := jl.stown _ bg (oge c8)
             have rf := bh.stw 0 rfl bi
             have rg := fy.stn ce
             have rh := dw.stw 2 rfl fz
             have ri := jn.std 0 rfl
             have rj := mm.std 0 rfl
             have abu := (((((((fx.st er).st re).st rf).st rg).st rh).st ri).st rj)
             have abv := ((((((jm.st re).st rf).st rg).st rh).st ri).st rj)
             have abw := (((((((hl.st er).st re).st rf).st rg).st rh).st ri).st rj)
             have abx := (dw.bm ((bh.bm (((az.bm (((b1.bm ((((((ez.k0 eo).k0 b3).k0 b6).k0 cb).k0 co).k0 b0) 3 0 rfl rfl rfl b2).k0 ax).k0 ay) 4 0 rfl rfl rfl a0).k0 ca).k0 bg) 6 0 rfl rfl rfl bi).k0 ce) 6 2 rfl rfl rfl fz)
             have aby := (dw.bm ((bh.bm (((az.bm ((gx.k0 ax).k0 ay) 1 0 rfl rfl rfl a0).k0 ca).k0 bg) 3 0 rfl rfl rfl bi).k0 ce) 3 2 rfl rfl rfl fz)
             have abz := vp
             exact ⟨([] : List Str), ap, bt, bu, a.Shape.Kind, r6, ci, ep, eq, H, ⟨rfl, rfl, rfl, rfl, rfl, rfl, rfl, trivial⟩, jq, (fi.st jq.st), (gd.st jq.st), (fj.st jq.st), (gg.st jq.st), (hp5.st jq.st), (gc.st jq.st), abr, abs, abt, abu, abv, abw, abx, aby, abz⟩
           ·have H := ite_f H q3
            refine W_skip ?_
            refine W_seq ?_
            refine W_reg ?_
            refine L_pu (P_move (vb false) rfl) ?_
            refine L_pu (P_not false rfl) ?_
            refine L_nil ?_
            refine W_cond (!false) rfl (fun rk => ?_) (fun rk => ?_)
            ·have H := ite_t H rk
             refine W_reg ?_
             refine L_pu (P_move (.slice ap bt bu) rfl) ?_
             refine L_lit (kd := Kd.str) ei72 dw ([([115, 104, 97, 112, 101] : Str)] : List Str) (cells := [vs ([115, 104, 97, 112, 101] : Str)]) ⟨[vs ([115, 104, 97, 112, 101] : Str)], _, rfl, ⟨rfl, (by decide)⟩, rfl⟩ (fun _ => by kernel_rfl) fun aoc mn ab0 ab1 lb hr420 mo ab2 => ?_
             obtain ⟨ab3, H⟩ := H
             have ab4 := (((bh.sw (((az.sw (((b1.sw (((((e0.sn b3).sn b6).sn cb).so _ co hr219).so _ b0 (oge cj)) 2 0 rfl rfl rfl b2).sn ax).so _ ay (oge ch)) 3 0 rfl rfl rfl a0).sos ca fk).so _ bg (oge c8)) 5 0 rfl rfl rfl bi).sn ce).so _ lb hr420)
             refine L_app ei72 mo (.slice ap bt bu) ([] : List Str) ([([115, 104, 97, 112, 101] : Str)] : List Str) rfl ab4 (.slice mn ab0 ab1) rfl ab2.sx 6 rfl ab3 fun aod lc vt vu ou mp ab5 ab6 => ?_
             refine L_pu (P_assign (.slice lc vt vu) rfl) ?_
             refine L_nil ?_
             have jr : ([bk mn, some gh, bk ci, some b7, some ab, bk am, bk lc, some aa] : Ob).Perm ((bk mn :: some gh :: bk ci :: []) ++ [some b7, some ab, bk am, bk lc, some aa]) := (by rw [List.perm_iff_count]; intro a; (try simp only [List.count_append, List.count_cons, List.count_nil, Nat.add_zero, Nat.zero_add]); first | done | ac_rfl)
             have js := ab5.drops jr
             have ov := jl.stown _ bg (oge c8)
             have ow := bh.stw 0 rfl bi
             have ox := fy.stn ce
             have oy := dw.stown _ lb hr420
             have ab7 := (((((((((ht.st fv).st fw).st er).st ov).st ow).st ox).st oy).st mp).st (St.drops _ O jr))
             have ab8 := (Ow.drops (L := [bk mn, some gh, bk ci, some b7, some ab, bk am, bk lc, some aa]) (O := O) ab6 jr (memi 3 rfl))
             have ab9 := (Ow.drops (L := [bk mn, some gh, bk ci, some b7, some ab, bk am, bk lc, some aa]) (O := O) (mo.sm (((bh.sw (((az.sw (((b1.sw (gw.so _ b0 (oge cj)) 1 0 rfl rfl rfl b2).sn ax).so _ ay (oge ch)) 2 0 rfl rfl rfl a0).sos ca fk).so _ bg (oge c8)) 4 0 rfl rfl rfl bi).sn ce).so _ lb hr420) 5 6 rfl rfl rfl ou mp) jr (memi 2 rfl))
             have aca := (((((((fx.st er).st ov).st ow).st ox).st oy).st mp).st (St.drops _ O jr))
             have acb := ((((((jm.st ov).st ow).st ox).st oy).st mp).st (St.drops _ O jr))
             have acc := (((((((hl.st er).st ov).st ow).st ox).st oy).st mp).st (St.drops _ O jr))
             have acd := (mo.bm (((bh.bm (((az.bm (((b1.bm ((((((ez.k0 eo).k0 b3).k0 b6).k0 cb).k0 co).k0 b0) 3 0 rfl rfl rfl b2).k0 ax).k0 ay) 4 0 rfl rfl rfl a0).k0 ca).k0 bg) 6 0 rfl rfl rfl bi).k0 ce).k0 lb) 7 6 rfl rfl rfl ou)
             have ace := (mo.bm (((bh.bm (((az.bm ((gx.k0 ax).k0 ay) 1 0 rfl rfl rfl a0).k0 ca).k0 bg) 3 0 rfl rfl rfl bi).k0 ce).k0 lb) 4 6 rfl rfl rfl ou)
             have acf := (mo.bm (((bh.bm ((hk.k0 ca).k0 bg) 2 0 rfl rfl rfl bi).k0 ce).k0 lb) 3 6 rfl rfl rfl ou)
             exact ⟨(([] : List Str) ++ ([([115, 104, 97, 112, 101] : Str)] : List Str)), lc, vt, vu, r4.Kind, r4.Pts, e1, e2, e3, H, ⟨rfl, rfl, rfl, rfl, rfl, rfl, rfl, trivial⟩, js, (fi.st js.st), (gd.st js.st), (fj.st js.st), (gg.st js.st), (hp5.st js.st), (gc.st js.st), ab7, ab8, ab9, aca, acb, acc, acd, ace, acf⟩
            ·have H := ite_f H rk
             refine W_skip ?_
             have oz := dw.drop 0 rfl
             have jt := oz.drop 0 rfl
             have o0 := jl.stown _ bg (oge c8)
             have o1 := bh.stw 0 rfl bi
             have o2 := fy.stn ce
             have o3 := dw.std 0 rfl
             have o4 := oz.std 0 rfl
             have acg := ((((((((ht.st fv).st fw).st er).st o0).st o1).st o2).st o3).st o4)
             have ach := (oz.sd (dw.sd ((bh.sw (((az.sw (((b1.sw (((((e0.sn b3).sn b6).sn cb).so _ co hr219).so _ b0 (oge cj)) 2 0 rfl rfl rfl b2).sn ax).so _ ay (oge ch)) 3 0 rfl rfl rfl a0).sos ca fk).so _ bg (oge c8)) 5 0 rfl rfl rfl bi).sn ce) 5 0 rfl rfl rfl) 4 0 rfl rfl rfl)
             have aci := (oz.sd (dw.sd ((bh.sw (((az.sw (((b1.sw (gw.so _ b0 (oge cj)) 1 0 rfl rfl rfl b2).sn ax).so _ ay (oge ch)) 2 0 rfl rfl rfl a0).sos ca fk).so _ bg (oge c8)) 4 0 rfl rfl rfl bi).sn ce) 4 0 rfl rfl rfl) 3 0 rfl rfl rfl)
             have acj := ((((((fx.st er).st o0).st o1).st o2).st o3).st o4)
             have ack := (((((jm.st o0).st o1).st o2).st o3).st o4)
             have acl := ((((((hl.st er).st o0).st o1).st o2).st o3).st o4)
             have acm := ((bh.bm (((az.bm (((b1.bm ((((((ez.k0 eo).k0 b3).k0 b6).k0 cb).k0 co).k0 b0) 3 0 rfl rfl rfl b2).k0 ax).k0 ay) 4 0 rfl rfl rfl a0).k0 ca).k0 bg) 6 0 rfl rfl rfl bi).k0 ce)
             have acn := ((bh.bm (((az.bm ((gx.k0 ax).k0 ay) 1 0 rfl rfl rfl a0).k0 ca).k0 bg) 3 0 rfl rfl rfl bi).k0 ce)
             have aco := ((bh.bm ((hk.k0 ca).k0 bg) 2 0 rfl rfl rfl bi).k0 ce)
             exact ⟨([] : List Str), ap, bt, bu, r4.Kind, r4.Pts, e1, e2, e3, H, ⟨rfl, rfl, rfl, rfl, rfl, rfl, rfl, trivial⟩, jt, (fi.st jt.st), (gd.st jt.st), (fj.st jt.st), (gg.st jt.st), (hp5.st jt.st), (gc.st jt.st), acg, ach, aci, acj, ack, acl, acm, acn, aco⟩
          ·have H := ite_f H hu
           refine L_pass (dj := 106) rfl rfl (.inl (by exact congrArg Value.bool hu)) ?_
           refine L_pass (dj := 106) rfl rfl (.inl (by exact congrArg Value.bool hu)) ?_
           refine L_pu (P_pick false (vb false) (by exact congrArg Value.bool hu) rfl) ?_
           refine L_nil ?_
           refine W_cf (b := false) rfl rfl ?_
           refine W_skip ?_
           refine W_seq ?_
           refine W_reg ?_
           refine L_pu (P_move (vb false) rfl) ?_
           refine L_pu (P_not false rfl) ?_
           refine L_nil ?_
           refine W_cond (!false) rfl (fun rl => ?_) (fun rl => ?_)
           ·have H := ite_t H rl
            refine W_reg ?_
            refine L_pu (P_move (.slice ap bt bu) rfl) ?_
            refine L_lit (kd := Kd.str) ei72 fy ([([115, 104, 97, 112, 101] : Str)] : List Str) (cells := [vs ([115, 104, 97, 112, 101] : Str)]) ⟨[vs ([115, 104, 97, 112, 101] : Str)], _, rfl, ⟨rfl, (by decide)⟩, rfl⟩ (fun _ => by kernel_rfl) fun aoe mq acp acq ld hr472 mr acr => ?_
            obtain ⟨acs, H⟩ := H
            have act := ((bh.sw (((az.sw (((b1.sw (((((e0.sn b3).sn b6).sn cb).so _ co hr219).so _ b0 (oge cj)) 2 0 rfl rfl rfl b2).sn ax).so _ ay (oge ch)) 3 0 rfl rfl rfl a0).sos ca fk).so _ bg (oge c8)) 5 0 rfl rfl rfl bi).so _ ld hr472)
            refine L_app ei72 mr (.slice ap bt bu) ([] : List Str) ([([115, 104, 97, 112, 101] : Str)] : List Str) rfl act (.slice mq acp acq) rfl acr.sx 6 rfl acs fun aof lf vv vw o5 ms acu acv => ?_
            refine L_pu (P_assign (.slice lf vv vw) rfl) ?_
            refine L_nil ?_
            have ju : ([bk mq, some gh, bk ci, some b7, some ab, bk am, bk lf, some aa] : Ob).Perm ((bk mq :: some gh :: bk ci :: []) ++ [some b7, some ab, bk am, bk lf, some aa]) := (by rw [List.perm_iff_count]; intro a; (try simp only [List.count_append, List.count_cons, List.count_nil, Nat.add_zero, Nat.zero_add]); first | done | ac_rfl)
            have jv := acu.drops ju
            have o6 := jl.stown _ bg (oge c8)
            have o7 := bh.stw 0 rfl bi
            have o8 := fy.stown _ ld hr472
            have acw := ((((((((ht.st fv).st fw).st er).st o6).st o7).st o8).st ms).st (St.drops _ O ju))
            have acx := (Ow.drops (L := [bk mq, some gh, bk ci, some b7, some ab, bk am, bk lf, some aa]) (O := O) acv ju (memi 3 rfl))
            have acy := (Ow.drops (L := [bk mq, some gh, bk ci, some b7, some ab, bk am, bk lf, some aa]) (O := O) (mr.sm ((bh.sw (((az.sw (((b1.sw (gw.so _ b0 (oge cj)) 1 0 rfl rfl rfl b2).sn ax).so _ ay (oge ch)) 2 0 rfl rfl rfl a0).sos ca fk).so _ bg (oge c8)) 4 0 rfl rfl rfl bi).so _ ld hr472) 5 6 rfl rfl rfl o5 ms) ju (memi 2 rfl))
            have acz := ((((((fx.st er).st o6).st o7).st o8).st ms).st (St.drops _ O ju))
            have ac0 := (((((jm.st o6).st o7).st o8).st ms).st (St.drops _ O ju))
            have ac1 := ((((((hl.st er).st o6).st o7).st o8).st ms).st (St.drops _ O ju))
            have ac2 := (mr.bm ((bh.bm (((az.bm (((b1.bm ((((((ez.k0 eo).k0 b3).k0 b6).k0 cb).k0 co).k0 b0) 3 0 rfl rfl rfl b2).k0 ax).k0 ay) 4 0 rfl rfl rfl a0).k0 ca).k0 bg) 6 0 rfl rfl rfl bi).k0 ld) 7 6 rfl rfl rfl o5)
            have ac3 := (mr.bm ((bh.bm (((az.bm ((gx.k0 ax).k0 ay) 1 0 rfl rfl rfl a0).k0 ca).k0 bg) 3 0 rfl rfl rfl bi).k0 ld) 4 6 rfl rfl rfl o5)
            have ac4 := (mr.bm ((bh.bm ((hk.k0 ca).k0 bg) 2 0 rfl rfl rfl bi).k0 ld) 3 6 rfl rfl rfl o5)
            exact ⟨(([] : List Str) ++ ([([115, 104, 97, 112, 101] : Str)] : List Str)), lf, vv, vw, r4.Kind, r4.Pts, e1, e2, e3, H, ⟨rfl, rfl, rfl, rfl, rfl, rfl, rfl, trivial⟩, jv, (fi.st jv.st), (gd.st jv.st), (fj.st jv.st), (gg.st jv.st), (hp5.st jv.st), (gc.st jv.st), acw, acx, acy, acz, ac0, ac1, ac2, ac3, ac4⟩
           ·have H := ite_f H rl
            refine W_skip ?_
            have o9 := fy.drop 0 rfl
            have jw := o9.drop 0 rfl
            have pa := jl.stown _ bg (oge c8)
            have pb := bh.stw 0 rfl bi
            have pc := fy.std 0 rfl
            have pd := o9.std 0 rfl
            have ac5 := (((((((ht.st fv).st fw).st er).st pa).st pb).st pc).st pd)
            have ac6 := (o9.sd (fy.sd (bh.sw (((az.sw (((b1.sw (((((e0.sn b3).sn b6).sn cb).so _ co hr219).so _ b0 (oge cj)) 2 0 rfl rfl rfl b2).sn ax).so _ ay (oge ch)) 3 0 rfl rfl rfl a0).sos ca fk).so _ bg (oge c8)) 5 0 rfl rfl rfl bi) 5 0 rfl rfl rfl) 4 0 rfl rfl rfl)
            have ac7 := (o9.sd (fy.sd (bh.sw (((az.sw (((b1.sw (gw.so _ b0 (oge cj)) 1 0 rfl rfl rfl b2).sn ax).so _ ay (oge ch)) 2 0 rfl rfl rfl a0).sos ca fk).so _ bg (oge c8)) 4 0 rfl rfl rfl bi) 4 0 rfl rfl rfl) 3 0 rfl rfl rfl)
            have ac8 := (((((fx.st er).st pa).st pb).st pc).st pd)
            have ac9 := ((((jm.st pa).st pb).st pc).st pd)
            have ada := (((((hl.st er).st pa).st pb).st pc).st pd)
            have adb := (bh.bm (((az.bm (((b1.bm ((((((ez.k0 eo).k0 b3).k0 b6).k0 cb).k0 co).k0 b0) 3 0 rfl rfl rfl b2).k0 ax).k0 ay) 4 0 rfl rfl rfl a0).k0 ca).k0 bg) 6 0 rfl rfl rfl bi)
            have adc := (bh.bm (((az.bm ((gx.k0 ax).k0 ay) 1 0 rfl rfl rfl a0).k0 ca).k0 bg) 3 0 rfl rfl rfl bi)
            have ade := (bh.bm ((hk.k0 ca).k0 bg) 2 0 rfl rfl rfl bi)
            exact ⟨([] : List Str), ap, bt, bu, r4.Kind, r4.Pts, e1, e2, e3, H, ⟨rfl, rfl, rfl, rfl, rfl, rfl, rfl, trivial⟩, jw, (fi.st jw.st), (gd.st jw.st), (fj.st jw.st), (gg.st jw.st), (hp5.st jw.st), (gc.st jw.st), ac5, ac6, ac7, ac8, ac9, ada, adb, adc, ade⟩
         ·have H := ite_f H q1
          refine W_skip ?_
          refine W_seq ?_
          refine W_reg ?_
          refine L_pu (P_move (vb false) rfl) ?_
          refine L_pu (P_not false rfl) ?_
          refine L_nil ?_
          refine W_cond (!false) rfl (fun rm => ?_) (fun rm => ?_)
          ·have H := ite_t H rm
           refine W_reg ?_
           refine L_pu (P_move (.slice ap bt bu) rfl) ?_
           refine L_lit (kd := Kd.str) ei72 b9 ([([115, 104, 97, 112, 101] : Str)] : List Str) (cells := [vs ([115, 104, 97, 112, 101] : Str)]) ⟨[vs ([115, 104, 97, 112, 101] : Str)], _, rfl, ⟨rfl, (by decide)⟩, rfl⟩ (fun _ => by kernel_rfl) fun aog adf adg adh lg hr522 mt adi => ?_
           obtain ⟨adj, H⟩ := H
           have adk := ((az.sw (((b1.sw (((((e0.sn b3).sn b6).sn cb).so _ co hr219).so _ b0 (oge cj)) 2 0 rfl rfl rfl b2).sn ax).so _ ay (oge ch)) 3 0 rfl rfl rfl a0).so _ lg hr522)
           refine L_app ei72 mt (.slice ap bt bu) ([] : List Str) ([([115, 104, 97, 112, 101] : Str)] : List Str) rfl adk (.slice adf adg adh) rfl adi.sx 4 rfl adj fun aoh vx vy vz pe mu pf adl => ?_
           refine L_pu (P_assign (.slice vx vy vz) rfl) ?_
           refine L_nil ?_
           have jx := pf.drop 0 rfl
           have pg := b9.stown _ lg hr522
           have ph := pf.std 0 rfl
           have adm := (((((ht.st fv).st fw).st pg).st mu).st ph)
           have adn := (pf.sd adl 4 0 rfl rfl rfl)
           have ado := (pf.sd (mt.sm ((az.sw (((b1.sw (gw.so _ b0 (oge cj)) 1 0 rfl rfl rfl b2).sn ax).so _ ay (oge ch)) 2 0 rfl rfl rfl a0).so _ lg hr522) 3 4 rfl rfl rfl pe mu) 3 0 rfl rfl rfl)
           have adp := (((fx.st pg).st mu).st ph)
           have adq := (((jk.st pg).st mu).st ph)
           have adr := (((hl.st pg).st mu).st ph)
           have ads := (mt.bm ((az.bm (((b1.bm ((((((ez.k0 eo).k0 b3).k0 b6).k0 cb).k0 co).k0 b0) 3 0 rfl rfl rfl b2).k0 ax).k0 ay) 4 0 rfl rfl rfl a0).k0 lg) 5 4 rfl rfl rfl pe)
           have adt := (mt.bm ((az.bm ((gx.k0 ax).k0 ay) 1 0 rfl rfl rfl a0).k0 lg) 2 4 rfl rfl rfl pe)
           have adu := (mt.bm (hk.k0 lg) 1 4 rfl rfl rfl pe)
           exact ⟨(([] : List Str) ++ ([([115, 104, 97, 112, 101] : Str)] : List Str)), vx, vy, vz, r4.Kind, r4.Pts, e1, e2, e3, H, ⟨rfl, rfl, rfl, rfl, rfl, rfl, rfl, trivial⟩, jx, (fi.st jx.st), (gd.st jx.st), (fj.st jx.st), (gg.st jx.st), (hp5.st jx.st), (gc.st jx.st), adm, adn, ado, adp, adq, adr, ads, adt, adu⟩
          ·have H := ite_f H rm
           refine W_skip ?_
           have adv := ((ht.st fv).st fw)
           have adw := (az.sw (((b1.sw (((((e0.sn b3).sn b6).sn cb).so _ co hr219).so _ b0 (oge cj)) 2 0 rfl rfl rfl b2).sn ax).so _ ay (oge ch)) 3 0 rfl rfl rfl a0)
           have adx := (az.sw (((b1.sw (gw.so _ b0 (oge cj)) 1 0 rfl rfl rfl b2).sn ax).so _ ay (oge ch)) 2 0 rfl rfl rfl a0)
           have ady := (az.bm (((b1.bm ((((((ez.k0 eo).k0 b3).k0 b6).k0 cb).k0 co).k0 b0) 3 0 rfl rfl rfl b2).k0 ax).k0 ay) 4 0 rfl rfl rfl a0)
           have adz := (az.bm ((gx.k0 ax).k0 ay) 1 0 rfl rfl rfl a0)
           exact ⟨([] : List Str), ap, bt, bu, r4.Kind, r4.Pts, e1, e2, e3, H, ⟨rfl, rfl, rfl, rfl, rfl, rfl, rfl, trivial⟩, b9, (fi.st b9.st), (gd.st b9.st), (fj.st b9.st), (gg.st b9.st), (hp5.st b9.st), (gc.st b9.st), adv, adw, adx, fx, jk, hl, ady, adz, hk⟩
        ·have H := ite_f H dv
         refine L_pass (dj := 78) rfl rfl (.inl (by exact congrArg Value.bool dv)) ?_
         refine L_pass (dj := 78) rfl rfl (.inl (by exact congrArg Value.bool dv)) ?_
         refine L_pass (dj := 78) rfl rfl (.inl (by exact congrArg Value.bool dv)) ?_
         refine L_pass (dj := 78) rfl rfl (.inl (by exact congrArg Value.bool dv)) ?_
         refine L_pass (dj := 78) rfl rfl (.inl (by exact congrArg Value.bool dv)) ?_
         refine L_pass (dj := 78) rfl rfl (.inl (by exact congrArg Value.bool dv)) ?_
         refine L_pass (dj := 78) rfl rfl (.inl (by exact congrArg Value.bool dv)) ?_
         refine L_pu (P_pick false (vb false) (by exact congrArg Value.bool dv) rfl) ?_
         refine L_nil ?_
         refine W_cf (b := false) rfl rfl ?_
         refine W_skip ?_
         refine W_seq ?_
         refine W_reg ?_
         refine L_pu (P_move (vb false) rfl) ?_
         refine L_pu (P_not false rfl) ?_
         refine L_nil ?_
         refine W_cond (!false) rfl (fun rn => ?_) (fun rn => ?_)
         ·have H := ite_t H rn
          refine W_reg ?_
          refine L_pu (P_move (.slice ap bt bu) rfl) ?_
          refine L_lit (kd := Kd.str) ei72 b9 ([([115, 104, 97, 112, 101] : Str)] : List Str) (cells := [vs ([115, 104, 97, 112, 101] : Str)]) ⟨[vs ([115, 104, 97, 112, 101] : Str)], _, rfl, ⟨rfl, (by decide)⟩, rfl⟩ (fun _ => by kernel_rfl) fun aoi ad0 ad1 ad2 lh hr560 mv ad3 => ?_
          obtain ⟨ad4, H⟩ := H
          have ad5 := ((az.sw (((b1.sw (((((e0.sn b3).sn b6).sn cb).so _ co hr219).so _ b0 (oge cj)) 2 0 rfl rfl rfl b2).sn ax).so _ ay (oge ch)) 3 0 rfl rfl rfl a0).so _ lh hr560)
          refine L_app ei72 mv (.slice ap bt bu) ([] : List Str) ([([115, 104, 97, 112, 101] : Str)] : List Str) rfl ad5 (.slice ad0 ad1 ad2) rfl ad3.sx 4 rfl ad4 fun aoj v0 v1 v3 pi mw pj ad6 => ?_
          refine L_pu (P_assign (.slice v0 v1 v3) rfl) ?_
          refine L_nil ?_
          have jy := pj.drop 0 rfl
          have pk := b9.stown _ lh hr560
          have pl := pj.std 0 rfl
          have ad7 := (((((ht.st fv).st fw).st pk).st mw).st pl)
          have ad8 := (pj.sd ad6 4 0 rfl rfl rfl)
          have ad9 := (pj.sd (mv.sm ((az.sw (((b1.sw (gw.so _ b0 (oge cj)) 1 0 rfl rfl rfl b2).sn ax).so _ ay (oge ch)) 2 0 rfl rfl rfl a0).so _ lh hr560) 3 4 rfl rfl rfl pi mw) 3 0 rfl rfl rfl)
          have aea := (((fx.st pk).st mw).st pl)
          have aeb := (((jk.st pk).st mw).st pl)
          have aec := ((((((me.st mf).st fv).st fw).st pk).st mw).st pl)
          have aed := (mv.bm ((az.bm (((b1.bm ((((((ez.k0 eo).k0 b3).k0 b6).k0 cb).k0 co).k0 b0) 3 0 rfl rfl rfl b2).k0 ax).k0 ay) 4 0 rfl rfl rfl a0).k0 lh) 5 4 rfl rfl rfl pi)
          have aee := (mv.bm ((az.bm ((gx.k0 ax).k0 ay) 1 0 rfl rfl rfl a0).k0 lh) 2 4 rfl rfl rfl pi)
          have aef := (mv.bm (hk.k0 lh) 1 4 rfl rfl rfl pi)
          exact ⟨(([] : List Str) ++ ([([115, 104, 97, 112, 101] : Str)] : List Str)), v0, v1, v3, r4.Kind, r4.Pts, e1, e2, e3, H, ⟨rfl, rfl, rfl, rfl, rfl, rfl, rfl, trivial⟩, jy, (fi.st jy.st), (gd.st jy.st), (fj.st jy.st), (gg.st jy.st), (hp5.st jy.st), (gc.st jy.st), ad7, ad8, ad9, aea, aeb, aec, aed, aee, aef⟩
         ·have H := ite_f H rn
          refine W_skip ?_
          have aeg := ((ht.st fv).st fw)
          have aeh := (az.sw (((b1.sw (((((e0.sn b3).sn b6).sn cb).so _ co hr219).so _ b0 (oge cj)) 2 0 rfl rfl rfl b2).sn ax).so _ ay (oge ch)) 3 0 rfl rfl rfl a0)
          have aei := (az.sw (((b1.sw (gw.so _ b0 (oge cj)) 1 0 rfl rfl rfl b2).sn ax).so _ ay (oge ch)) 2 0 rfl rfl rfl a0)
          have aej := (((me.st mf).st fv).st fw)
          have aek := (az.bm (((b1.bm ((((((ez.k0 eo).k0 b3).k0 b6).k0 cb).k0 co).k0 b0) 3 0 rfl rfl rfl b2).k0 ax).k0 ay) 4 0 rfl rfl rfl a0)
          have ael := (az.bm ((gx.k0 ax).k0 ay) 1 0 rfl rfl rfl a0)
          exact ⟨([] : List Str), ap, bt, bu, r4.Kind, r4.Pts, e1, e2, e3, H, ⟨rfl, rfl, rfl, rfl, rfl, rfl, rfl, trivial⟩, b9, (fi.st b9.st), (gd.st b9.st), (fj.st b9.st), (gg.st b9.st), (hp5.st b9.st), (gc.st b9.st), aeg, aeh, aei, fx, jk, aej, aek, ael, hk⟩
       ·have H := ite_f H q0
        refine W_skip ?_
        have pm := qz.stown _ ay (oge ch)
        have pn := az.stw 0 rfl a0
        have aem := ((ht.st pm).st pn)
        have aen := (az.sw (((b1.sw (((((e0.sn b3).sn b6).sn cb).so _ co hr219).so _ b0 (oge cj)) 2 0 rfl rfl rfl b2).sn ax).so _ ay (oge ch)) 3 0 rfl rfl rfl a0)
        have aeo := (az.sw (((b1.sw (gw.so _ b0 (oge cj)) 1 0 rfl rfl rfl b2).sn ax).so _ ay (oge ch)) 2 0 rfl rfl rfl a0)
        have ro := jj.stn ax
        have aep := (((qx.st ro).st pm).st pn)
        have aeq := (((qy.st ro).st pm).st pn)
        have aer := (((me.st ro).st pm).st pn)
        have aes := (az.bm (((b1.bm ((((((ez.k0 eo).k0 b3).k0 b6).k0 cb).k0 co).k0 b0) 3 0 rfl rfl rfl b2).k0 ax).k0 ay) 4 0 rfl rfl rfl a0)
        have aet := (az.bm ((gx.k0 ax).k0 ay) 1 0 rfl rfl rfl a0)
        exact ⟨([] : List Str), ap, bt, bu, r4.Kind, r4.Pts, e1, e2, e3, H, ⟨rfl, rfl, rfl, rfl, rfl, rfl, rfl, trivial⟩, b9, (fi.st b9.st), (gd.st b9.st), (fj.st b9.st), (gg.st b9.st), (hp5.st b9.st), (gc.st b9.st), aem, aen, aeo, aep, aeq, aer, aes, aet, hk⟩
      ·rintro aok el ⟨xs, bf, k5, k6, z, z2, k7, k8, k9, aeu, aev, rp, aew, aex, aey, aez, ae0, ae1, ae2, ae3, ae4, ae5, ae6, ae7, ae8, ae9, afa⟩
       obtain ⟨aol, rfl⟩ := Has.ins aev
       have H := aaz xs z z2 aeu
       refine W_seq ?_
       refine W_reg ?_
       refine L_pu (P_lda ag68 sz68 cL ⟨b7, 0, none⟩ [vi z, .slice k7 k8 k9] rfl rfl (afa.cells (off := 0) rfl)) ?_
       refine L_call go97 [.agg #[vi z, .slice k7 k8 k9]] rfl ((impl_cloneShape.calls el rp.ok (⟨z, z2⟩ : Shape) k7 k8 k9 ae2 _ H).mono ?_)
       rintro _ aom ⟨r9, ac, ck, cl, rfl, H, li, afb, po, afc⟩
       have lj := rp.owns li afb po
       refine L_pu (P_fa fa71_1 ⟨ab, 0, none⟩ ⟨ab, 1, none⟩ rfl rfl) ?_
       have afd := (ae9.k0 li)
       refine L_stb ab 1 [vs a.Id, vi 0, .slice none 0 0, .slice am hi hj] [vi r9.Kind, .slice ac ck cl] [vs a.Id, vi r9.Kind, .slice ac ck cl, .slice am hi hj] rfl afd rfl sz68 rfl rfl rfl fun aon lk afe => ?_
       have v5 := lj.wr 2 rfl lk
       refine L_nil ?_
       refine W_seq ?_
       refine W_reg ?_
       refine L_lit (kd := Kd.str) ei72 v5 ([] : List Str) (cells := []) rfl (fun _ => by kernel_rfl) fun aoo ll v6 v7 lm hr628 v9 aff => ?_
       refine L_pu (P_assign (.slice ll v6 v7) rfl) ?_
       refine L_nil ?_
       refine W_seq ?_
       refine W_seq ?_
       refine W_reg ?_
       refine L_pu (P_fa fa71_2 ⟨a7, 0, none⟩ ⟨a7, 3, none⟩ rfl rfl) ?_
       have hv := rp.stos li po
       have hw := lj.stw 2 rfl lk
       have hx := v5.stown _ lm hr628
       have wa := (((ae5.st hv).st hw).st hx)
       refine L_pu (P_ld ag69 cL ⟨a7, 3, none⟩ (.slice A7 n8 c9) rfl (wa.cell rfl)) ?_
       refine L_pu (P_fa fa71_2 ⟨a6, 0, none⟩ ⟨a6, 3, none⟩ rfl rfl) ?_
       have wb := (((ae6.st hv).st hw).st hx)
       refine L_pu (P_ld ag69 cL ⟨a6, 3, none⟩ (.slice bq br bs) rfl (wb.cell rfl)) ?_
       refine L_pu (P_fa fa71_2 ⟨bz, 0, none⟩ ⟨bz, 3, none⟩ rfl rfl) ?_
       have wc := (((ae7.st hv).st hw).st hx)
       refine L_pu (P_ld ag69 cL ⟨bz, 3, none⟩ (.slice a2 a3 a4) rfl (wc.cell rfl)) ?_
       have wd := (((aez.st hv).st hw).st hx)
       have we := (((aex.st hv).st hw).st hx)
       have wf := (((ae1.st hv).st hw).st hx)
       refine L_lit (kd := (Kd.sl kTag)) ei175 v9 ([base_.Tags, a.Tags, b.Tags] : List (List Tag)) (cells := [.slice A7 n8 c9, .slice bq br bs, .slice a2 a3 a4]) ⟨[.slice A7 n8 c9], _, rfl, ⟨_, rfl, wf⟩, ⟨[.slice bq br bs], _, rfl, ⟨_, rfl, we⟩, ⟨[.slice a2 a3 a4], _, rfl, ⟨_, rfl, wd⟩, rfl⟩⟩⟩ (fun _ => by kernel_rfl) fun afg pp wg wh jz hr643 mx afh => ?_
       have afi := mx.gv afh 0 rfl
       have afj := mx.drop 0 rfl
       refine L_call go98 [.slice pp wg wh] rfl ((slices_Concat_Tag.calls afg afj.ok ([base_.Tags, a.Tags, b.Tags] : List (List Tag)) pp wg wh afi _ H).mono ?_)
       rintro _ aop ⟨r10, ds, pq, pr, rfl, H, hy, afk, j0, afl⟩
       have afm := Ok.unl (L := [bk pp, bk ll, bk ac, some b7, some ab, bk am, bk bf, some aa]) (L' := [bk ll, bk ac, some b7, some ab, bk am, bk bf, some aa]) (O := O) mx hy afk j0
       have rq := Ow.unl (L := [bk pp, bk ll, bk ac, some b7, some ab, bk am, bk bf, some aa]) (L' := [bk ll, bk ac, some b7, some ab, bk am, bk bf, some aa]) (O := O) (fun _ _ _ _ _ _ h => h) (.cons _ (.cons_cons _ (.cons_cons _ (.cons_cons _ (.cons_cons _ (.cons_cons _ (.cons_cons _ (.cons_cons _ (.slnil))))))))) afl
       have j1 := mx.owns hy afm j0
       have aoq := rq.le
       refine L_pu (P_len Try.underlying69 ds pq pr rq.len rfl) ?_
       refine L_pu (P_move (vi 0) rfl) ?_
       refine L_nil ?_
       refine W_block ?_
       have j2 := j1.drop 1 rfl
       have afn := j2.drop 3 rfl
       obtain ⟨afo, afp, rr, H⟩ := H
       have hz := v9.stown _ jz hr643
       have h0 := mx.stos hy j0
       have h1 := j1.std 1 rfl
       have h2 := j2.std 3 rfl
       have afq := (((((((aew.st hv).st hw).st hx).st hz).st h0).st h1).st h2)
       have afr := ((((we.st hz).st h0).st h1).st h2)
       have afs := (((((((aey.st hv).st hw).st hx).st hz).st h0).st h1).st h2)
       have aft := ((((wd.st hz).st h0).st h1).st h2)
       have afu := (((((((ae0.st hv).st hw).st hx).st hz).st h0).st h1).st h2)
       have afv := ((((wf.st hz).st h0).st h1).st h2)
       have afw := (j2.sd (j1.sd ((((lj.sw (ae3.sos li po) 4 2 rfl rfl rfl lk).so _ lm hr628).so _ jz hr643).sos hy j0) 7 1 rfl rfl rfl) 6 3 rfl rfl rfl)
       have afx := (j2.sd (j1.sd ((aff.so _ jz hr643).sos hy j0) 2 1 rfl rfl rfl) 1 3 rfl rfl rfl)
       have afy := (j2.sd (j1.sd rq 0 1 rfl rfl rfl) 0 3 rfl rfl rfl)
       have afz := (j2.sd (j1.sd ((((lj.sw afc 0 2 rfl rfl rfl lk).so _ lm hr628).so _ jz hr643).sos hy j0) 3 1 rfl rfl rfl) 2 3 rfl rfl rfl)
       have af0 := (j2.sd (j1.sd ((((lj.sw (ae4.sos li po) 3 2 rfl rfl rfl lk).so _ lm hr628).so _ jz hr643).sos hy j0) 6 1 rfl rfl rfl) 5 3 rfl rfl rfl)
       have af1 := ((((wa.st hz).st h0).st h1).st h2)
       have af2 := ((((wb.st hz).st h0).st h1).st h2)
       have af3 := ((((wc.st hz).st h0).st h1).st h2)
       have af4 := ((((lj.bm (ae8.k0 li) 5 2 rfl rfl rfl lk).k0 lm).k0 jz).k0 hy)
       have af5 := (((afe.k0 lm).k0 jz).k0 hy)
       refine W_loop (α := (List Str) × (Option Addr) × Nat × Nat × Int) (fun (sv__ : (List Str) × (Option Addr) × Nat × Nat × Int) t dx => match sv__ with | (xs3, ad, gy, cp, v2) => afo xs3 v2 ∧ Has t [(3, .pointer (some ⟨a7, 0, none⟩)), (4, .pointer (some ⟨a6, 0, none⟩)), (5, .pointer (some ⟨bz, 0, none⟩)), (6, .pointer (some ⟨aa, 0, none⟩)), (8, .slice bf k5 k6), (9, .pointer (some ⟨ab, 0, none⟩)), (16, .slice ad gy cp), (127, .slice ds pq pr), (128, vi (r10.length : Int)), (129, vi v2)] ∧ Ct [] w0 dx [bk ds, bk ad, bk ac, some ab, bk am, bk bf, some aa] O ∧ Sl kPt dx (Fr ([bk ds, bk ad, bk ac, some ab, bk am, bk bf, some aa] ++ O)) (.slice bc bd be) a.Shape.Pts ∧ Sl kTag dx (Fr ([bk ds, bk ad, bk ac, some ab, bk am, bk bf, some aa] ++ O)) (.slice bq br bs) a.Tags ∧ Sl kPt dx (Fr ([bk ds, bk ad, bk ac, some ab, bk am, bk bf, some aa] ++ O)) (.slice ar au av) b.Shape.Pts ∧ Sl kTag dx (Fr ([bk ds, bk ad, bk ac, some ab, bk am, bk bf, some aa] ++ O)) (.slice a2 a3 a4) b.Tags ∧ Sl kPt dx (Fr ([bk ds, bk ad, bk ac, some ab, bk am, bk bf, some aa] ++ O)) (.slice A2 n3 c4) base_.Shape.Pts ∧ Sl kTag dx (Fr ([bk ds, bk ad, bk ac, some ab, bk am, bk bf, some aa] ++ O)) (.slice A7 n8 c9) base_.Tags ∧ Ow Kd.str 9 dx ([bk ds, bk ad, bk ac, some ab, bk am, bk bf, some aa] ++ O) (.slice bf k5 k6) xs ∧ Ow Kd.str 9 dx ([bk ds, bk ad, bk ac, some ab, bk am, bk bf, some aa] ++ O) (.slice ad gy cp) xs3 ∧ Ow kTag 133 dx ([bk ds, bk ad, bk ac, some ab, bk am, bk bf, some aa] ++ O) (.slice ds pq pr) r10 ∧ Ow kPt 29 dx ([bk ds, bk ad, bk ac, some ab, bk am, bk bf, some aa] ++ O) (.slice ac ck cl) r9.Pts ∧ Ow kTag 133 dx ([bk ds, bk ad, bk ac, some ab, bk am, bk bf, some aa] ++ O) (.slice am hi hj) ([] : List Tag) ∧ Fb dx ([bk ds, bk ad, bk ac, some ab, bk am, bk bf, some aa] ++ O) a7 [vs base_.Id, vi base_.Shape.Kind, .slice A2 n3 c4, .slice A7 n8 c9] ∧ Fb dx ([bk ds, bk ad, bk ac, some ab, bk am, bk bf, some aa] ++ O) a6 [vs a.Id, vi a.Shape.Kind, .slice bc bd be, .slice bq br bs] ∧ Fb dx ([bk ds, bk ad, bk ac, some ab, bk am, bk bf, some aa] ++ O) bz [vs b.Id, vi b.Shape.Kind, .slice ar au av, .slice a2 a3 a4] ∧ Bx dx aa [vs ([] : Str), vi 0, .slice none 0 0, .slice none 0 0] ∧ Bx dx ab [vs a.Id, vi r9.Kind, .slice ac ck cl, .slice am hi hj]) (fun (sv__ : (List Str) × (Option Addr) × Nat × Nat × Int) => match sv__ with | (xs3, _, _, _, v2) => afp xs3 v2) (([] : List Str), ll, v6, v7, 0) ⟨rr, ⟨rfl, rfl, rfl, rfl, rfl, rfl, rfl, rfl, rfl, rfl, trivial⟩, afn, afq, afr, afs, aft, afu, afv, afw, afx, afy, afz, af0, af1, af2, af3, af4, af5⟩ ?_
       rintro ⟨xs3, ad, gy, cp, v2⟩ _ dx ⟨rr, af6, hm, wi, wj, wk, wl, wm, wn, wo, wp, rs, wq, ws, wt, wu, wv, ww, wx⟩
       obtain ⟨aor, rfl⟩ := Has.ins af6
       have H := H xs3 v2 rr
       refine W_seq ?_
       refine W_reg ?_
       refine L_pu (P_cmp v2 (r10.length : Int) (decide (v2 < (r10.length : Int))) rfl rfl rfl) ?_
       refine L_nil ?_
       refine W_seq ?_
       refine W_cond (decide (v2 < (r10.length : Int))) rfl (fun rt => ?_) (fun rt => ?_)
       ·have H := ite_t H rt
        refine W_skip ?_
        refine W_seq ?_
        refine W_block ?_
        refine W_seq ?_
        refine W_reg ?_
        obtain ⟨wy, H⟩ := H
        obtain ⟨wz, aos, af7, af8, af9⟩ := rs.get default (by decide) v2 wy
        obtain ⟨rfl, aga, aot⟩ := kTag.op af8
        refine L_pu (P_ia Try.underlying69 se69 ds wz pq pr rs.len v2 rfl af7 rfl wy) ?_
        refine L_pu (P_lda ag133 sz133 cL (wz.add (v2.toNat * 2)) [vs ((nth r10 v2).Key), vs ((nth r10 v2).Val)] rfl rfl af9) ?_
        refine L_alloc [vs [], vs []] ze133 fun aou ln j3 hu802 h3 agb => ?_
        have h4 := hm.own h3 (some ln) (oglt j3 hu802)
        refine L_stb ln 0 [vs ([] : Str), vs ([] : Str)] [vs ((nth r10 v2).Key), vs ((nth r10 v2).Val)] [vs ((nth r10 v2).Key), vs ((nth r10 v2).Val)] rfl agb rfl sz133 rfl rfl rfl fun aov h5 agc => ?_
        have w1 := h4.wr 0 rfl h5
        refine L_nil ?_
        refine W_reg ?_
        refine L_pu (P_move (.slice ad gy cp) rfl) ?_
        refine L_pu (P_fa fa133_0 ⟨ln, 0, none⟩ ⟨ln, 0, none⟩ rfl rfl) ?_
        refine L_pu (P_ld ag9 cL ⟨ln, 0, none⟩ (vs ((nth r10 v2).Key)) rfl (agc.cell rfl)) ?_
        refine L_lit (kd := Kd.str) ei72 w1 ([(nth r10 v2).Key] : List Str) (cells := [vs ((nth r10 v2).Key)]) ⟨[vs ((nth r10 v2).Key)], _, rfl, ⟨rfl, aga⟩, rfl⟩ (fun _ => by kernel_rfl) fun aow agd age agf i8 hr815 j4 agh => ?_
        obtain ⟨agi, H⟩ := H
        have agj := ((h4.sw (wp.so _ h3 (oge j3)) 2 0 rfl rfl rfl h5).so _ i8 hr815)
        refine L_app ei72 j4 (.slice ad gy cp) xs3 ([(nth r10 v2).Key] : List Str) rfl agj (.slice agd age agf) rfl agh.sx 3 rfl agi fun agk ru w3 w4 lo f0 j5 agl => ?_
        refine L_pu (P_assign (.slice ru w3 w4) rfl) ?_
        refine L_nil ?_
        refine W_reg ?_
        obtain ⟨agm, H⟩ := H
        refine L_pu (P_add v2 1 rfl rfl agm) ?_
        refine L_pu (P_move (vi (v2 + 1)) rfl) ?_
        refine L_nil ?_
        have j6 : Ct [] w0 agk [some ln, bk ds, bk ru, bk ac, some ab, bk am, bk bf, some aa] O := j5.drop 0 rfl
        have agn := j6.drop 0 rfl
        obtain ⟨ago, agp⟩ := H
        have h6 := hm.stown _ h3 (oge j3)
        have h7 := h4.stw 0 rfl h5
        have h8 := w1.stown _ i8 hr815
        have h9 := j5.std 0 rfl
        have ia := j6.std 0 rfl
        have agq := ((((((wi.st h6).st h7).st h8).st f0).st h9).st ia)
        have agr := ((((((wj.st h6).st h7).st h8).st f0).st h9).st ia)
        have ags := ((((((wk.st h6).st h7).st h8).st f0).st h9).st ia)
        have agt := ((((((wl.st h6).st h7).st h8).st f0).st h9).st ia)
        have agu := ((((((wm.st h6).st h7).st h8).st f0).st h9).st ia)
        have agv := ((((((wn.st h6).st h7).st h8).st f0).st h9).st ia)
        have agw := (j6.sd (j5.sd (j4.sm ((h4.sw (wo.so _ h3 (oge j3)) 6 0 rfl rfl rfl h5).so _ i8 hr815) 7 3 rfl rfl rfl lo f0) 7 0 rfl rfl rfl) 6 0 rfl rfl rfl)
        have agx := (j6.sd (j5.sd agl 3 0 rfl rfl rfl) 2 0 rfl rfl rfl)
        have agy := (j6.sd (j5.sd (j4.sm ((h4.sw (rs.so _ h3 (oge j3)) 1 0 rfl rfl rfl h5).so _ i8 hr815) 2 3 rfl rfl rfl lo f0) 2 0 rfl rfl rfl) 1 0 rfl rfl rfl)
        have agz := (j6.sd (j5.sd (j4.sm ((h4.sw (wq.so _ h3 (oge j3)) 3 0 rfl rfl rfl h5).so _ i8 hr815) 4 3 rfl rfl rfl lo f0) 4 0 rfl rfl rfl) 3 0 rfl rfl rfl)
        have ag0 := (j6.sd (j5.sd (j4.sm ((h4.sw (ws.so _ h3 (oge j3)) 5 0 rfl rfl rfl h5).so _ i8 hr815) 6 3 rfl rfl rfl lo f0) 6 0 rfl rfl rfl) 5 0 rfl rfl rfl)
        have ag1 := ((((((wt.st h6).st h7).st h8).st f0).st h9).st ia)
        have ag2 := ((((((wu.st h6).st h7).st h8).st f0).st h9).st ia)
        have ag5 := ((((((wv.st h6).st h7).st h8).st f0).st h9).st ia)
        have ag6 := (j4.bm ((h4.bm (ww.k0 h3) 7 0 rfl rfl rfl h5).k0 i8) 8 3 rfl rfl rfl lo)
        have ag7 := (j4.bm ((h4.bm (wx.k0 h3) 4 0 rfl rfl rfl h5).k0 i8) 5 3 rfl rfl rfl lo)
        exact ⟨((xs3 ++ ([(nth r10 v2).Key] : List Str)), ru, w3, w4, v2 + 1), agp, ago, ⟨rfl, rfl, rfl, rfl, rfl, rfl, rfl, rfl, rfl, rfl, trivial⟩, agn, agq, agr, ags, agt, agu, agv, agw, agx, agy, agz, ag0, ag1, ag2, ag5, ag6, ag7⟩
       ·have H := ite_f H rt
        refine W_exit (xin_hit ?_)
        refine W_seq ?_
        refine W_reg ?_
        refine L_pu (P_move (.slice ad gy cp) rfl) ?_
        refine L_call go83 [.slice ad gy cp] rfl ((slices_Sort_string.calls dx hm.ok ad gy cp xs3 wp _ H).mono ?_)
        rintro _ ag8 ⟨m, rfl, H, j7, aha⟩
        have i9 := hm.wr 1 rfl j7
        refine L_nil ?_
        refine W_seq ?_
        refine W_seq ?_
        refine W_reg ?_
        refine L_pu (P_move (.slice ad gy cp) rfl) ?_
        refine L_call go84 [.slice ad gy cp] rfl ((slices_Compact_string.calls ag8 i9.ok ad gy cp m aha _ H).mono ?_)
        rintro _ ahb ⟨r11, gi, rfl, H, j8, rv⟩
        have lp := i9.wr 1 rfl j8
        have aox := rv.le
        refine L_pu (P_len Try.underlying72 ad gi cp rv.len rfl) ?_
        refine L_pu (P_move (vi 0) rfl) ?_
        refine L_nil ?_
        refine W_block ?_
        have ahc : Ct [] w0 ahb [bk ad, bk ac, some ab, bk am, bk bf, some aa] O := lp.drop 0 rfl
        obtain ⟨rx, my, ry, H⟩ := H
        have ib := hm.stw 1 rfl j7
        have ic := i9.stw 1 rfl j8
        have id := lp.std 0 rfl
        have ahd := (((wi.st ib).st ic).st id)
        have ahe := (((wj.st ib).st ic).st id)
        have ahf := (((wk.st ib).st ic).st id)
        have ahg := (((wl.st ib).st ic).st id)
        have ahh := (((wm.st ib).st ic).st id)
        have ahi := (((wn.st ib).st ic).st id)
        have ahj := (lp.sd (i9.sw (hm.sw wo 5 1 rfl rfl rfl j7) 5 1 rfl rfl rfl j8) 5 0 rfl rfl rfl)
        have ahk := (lp.sd rv 1 0 rfl rfl rfl)
        have ahl := (lp.sd (i9.sw (hm.sw wq 2 1 rfl rfl rfl j7) 2 1 rfl rfl rfl j8) 2 0 rfl rfl rfl)
        have ahm := (lp.sd (i9.sw (hm.sw ws 4 1 rfl rfl rfl j7) 4 1 rfl rfl rfl j8) 4 0 rfl rfl rfl)
        have ahn := (((wt.st ib).st ic).st id)
        have aho := (((wu.st ib).st ic).st id)
        have ahp := (((wv.st ib).st ic).st id)
        have ahq := (i9.bm (hm.bm ww 6 1 rfl rfl rfl j7) 6 1 rfl rfl rfl j8)
        have ahr := (i9.bm (hm.bm wx 3 1 rfl rfl rfl j7) 3 1 rfl rfl rfl j8)
        refine W_loop (α := (List Str) × (Option Addr) × Nat × Nat × Int × (List Tag) × (Option Addr) × Nat × Nat) (fun (sv__ : (List Str) × (Option Addr) × Nat × Nat × Int × (List Tag) × (Option Addr) × Nat × Nat) t em => match sv__ with | (xs6, al, fl, fm, v4, xs7, af, db, dc) => rx xs6 v4 xs7 ∧ Has t [(3, .pointer (some ⟨a7, 0, none⟩)), (4, .pointer (some ⟨a6, 0, none⟩)), (5, .pointer (some ⟨bz, 0, none⟩)), (6, .pointer (some ⟨aa, 0, none⟩)), (8, .slice al fl fm), (9, .pointer (some ⟨ab, 0, none⟩)), (142, .slice ad gi cp), (143, vi (r11.length : Int)), (144, vi v4)] ∧ Ct [] w0 em [bk ad, bk ac, some ab, bk af, bk al, some aa] O ∧ Sl kPt em (Fr ([bk ad, bk ac, some ab, bk af, bk al, some aa] ++ O)) (.slice bc bd be) a.Shape.Pts ∧ Sl kTag em (Fr ([bk ad, bk ac, some ab, bk af, bk al, some aa] ++ O)) (.slice bq br bs) a.Tags ∧ Sl kPt em (Fr ([bk ad, bk ac, some ab, bk af, bk al, some aa] ++ O)) (.slice ar au av) b.Shape.Pts ∧ Sl kTag em (Fr ([bk ad, bk ac, some ab, bk af, bk al, some aa] ++ O)) (.slice a2 a3 a4) b.Tags ∧ Sl kPt em (Fr ([bk ad, bk ac, some ab, bk af, bk al, some aa] ++ O)) (.slice A2 n3 c4) base_.Shape.Pts ∧ Sl kTag em (Fr ([bk ad, bk ac, some ab, bk af, bk al, some aa] ++ O)) (.slice A7 n8 c9) base_.Tags ∧ Ow Kd.str 9 em ([bk ad, bk ac, some ab, bk af, bk al, some aa] ++ O) (.slice al fl fm) xs6 ∧ Ow Kd.str 9 em ([bk ad, bk ac, some ab, bk af, bk al, some aa] ++ O) (.slice ad gi cp) r11 ∧ Ow kPt 29 em ([bk ad, bk ac, some ab, bk af, bk al, some aa] ++ O) (.slice ac ck cl) r9.Pts ∧ Ow kTag 133 em ([bk ad, bk ac, some ab, bk af, bk al, some aa] ++ O) (.slice af db dc) xs7 ∧ Fb em ([bk ad, bk ac, some ab, bk af, bk al, some aa] ++ O) a7 [vs base_.Id, vi base_.Shape.Kind, .slice A2 n3 c4, .slice A7 n8 c9] ∧ Fb em ([bk ad, bk ac, some ab, bk af, bk al, some aa] ++ O) a6 [vs a.Id, vi a.Shape.Kind, .slice bc bd be, .slice bq br bs] ∧ Fb em ([bk ad, bk ac, some ab, bk af, bk al, some aa] ++ O) bz [vs b.Id, vi b.Shape.Kind, .slice ar au av, .slice a2 a3 a4] ∧ Bx em aa [vs ([] : Str), vi 0, .slice none 0 0, .slice none 0 0] ∧ Bx em ab [vs a.Id, vi r9.Kind, .slice ac ck cl, .slice af db dc]) (fun (sv__ : (List Str) × (Option Addr) × Nat × Nat × Int × (List Tag) × (Option Addr) × Nat × Nat) => match sv__ with | (xs6, _, _, _, v4, xs7, _, _, _) => my xs6 v4 xs7) (xs, bf, k5, k6, 0, ([] : List Tag), am, hi, hj) ⟨ry, ⟨rfl, rfl, rfl, rfl, rfl, rfl, rfl, rfl, rfl, trivial⟩, ahc, ahd, ahe, ahf, ahg, ahh, ahi, ahj, ahk, ahl, ahm, ahn, aho, ahp, ahq, ahr⟩ ?_
        rintro ⟨xs6, al, fl, fm, v4, xs7, af, db, dc⟩ _ em ⟨ry, ahs, j9, gj, gk, gz, g1, gl, gm, f1, fn, fo, fp, gn, w5, aht, fq, fr⟩
        obtain ⟨aoy, rfl⟩ := Has.ins ahs
        have H := H xs6 v4 xs7 ry
        refine W_seq ?_
        refine W_reg ?_
        refine L_pu (P_cmp v4 (r11.length : Int) (decide (v4 < (r11.length : Int))) rfl rfl rfl) ?_
        refine L_nil ?_
        refine W_seq ?_
        refine W_cond (decide (v4 < (r11.length : Int))) rfl (fun rz => ?_) (fun rz => ?_)
        ·have H := ite_t H rz
         refine W_skip ?_
         refine W_seq ?_
         refine W_block ?_
         refine W_seq ?_
         refine W_reg ?_
         obtain ⟨w6, H⟩ := H
         obtain ⟨w7, aoz, ahu, ahv, ahw⟩ := fn.get default (by decide) v4 w6
         obtain ⟨rfl, dy⟩ := Kd.str.op ahv
         refine L_pu (P_ia Try.underlying72 se72 ad w7 gi cp fn.len v4 rfl ahu rfl w6) ?_
         refine L_pu (P_ld ag9 cL (w7.add (v4.toNat * 1)) (vs (nth r11 v4)) rfl (ahw 0 _ rfl)) ?_
         refine L_pu (P_assign (vs (nth r11 v4)) rfl) ?_
         refine L_nil ?_
         refine W_seq ?_
         refine W_join (J := (fun t dz => ∃ (r12 : value) (r13 : value) (ao : Nat) (aq : Nat), Has t [(3, .pointer (some ⟨a7, 0, none⟩)), (4, .pointer (some ⟨a6, 0, none⟩)), (5, .pointer (some ⟨bz, 0, none⟩)), (6, .pointer (some ⟨aa, 0, none⟩)), (8, .slice al fl fm), (9, .pointer (some ⟨ab, 0, none⟩)), (20, vs (nth r11 v4)), (21, .pointer (some ⟨ao, 0, none⟩)), (22, .pointer (some ⟨aq, 0, none⟩)), (142, .slice ad gi cp), (143, vi (r11.length : Int)), (144, vi v4)] ∧ Ct [] w0 dz [some aq, some ao, bk ad, bk ac, some ab, bk af, bk al, some aa] O ∧ Sl kPt dz (Fr ([some aq, some ao, bk ad, bk ac, some ab, bk af, bk al, some aa] ++ O)) (.slice bc bd be) a.Shape.Pts ∧ Sl kTag dz (Fr ([some aq, some ao, bk ad, bk ac, some ab, bk af, bk al, some aa] ++ O)) (.slice bq br bs) a.Tags ∧ Sl kPt dz (Fr ([some aq, some ao, bk ad, bk ac, some ab, bk af, bk al, some aa] ++ O)) (.slice ar au av) b.Shape.Pts ∧ Sl kTag dz (Fr ([some aq, some ao, bk ad, bk ac, some ab, bk af, bk al, some aa] ++ O)) (.slice a2 a3 a4) b.Tags ∧ Sl kPt dz (Fr ([some aq, some ao, bk ad, bk ac, some ab, bk af, bk al, some aa] ++ O)) (.slice A2 n3 c4) base_.Shape.Pts ∧ Sl kTag dz (Fr ([some aq, some ao, bk ad, bk ac, some ab, bk af, bk al, some aa] ++ O)) (.slice A7 n8 c9) base_.Tags ∧ Ow Kd.str 9 dz ([some aq, some ao, bk ad, bk ac, some ab, bk af, bk al, some aa] ++ O) (.slice al fl fm) xs6 ∧ Ow Kd.str 9 dz ([some aq, some ao, bk ad, bk ac, some ab, bk af, bk al, some aa] ++ O) (.slice ad gi cp) r11 ∧ Ow kPt 29 dz ([some aq, some ao, bk ad, bk ac, some ab, bk af, bk al, some aa] ++ O) (.slice ac ck cl) r9.Pts ∧ Ow kTag 133 dz ([some aq, some ao, bk ad, bk ac, some ab, bk af, bk al, some aa] ++ O) (.slice af db dc) xs7 ∧ Fb dz ([some aq, some ao, bk ad, bk ac, some ab, bk af, bk al, some aa] ++ O) a7 [vs base_.Id, vi base_.Shape.Kind, .slice A2 n3 c4, .slice A7 n8 c9] ∧ Fb dz ([some aq, some ao, bk ad, bk ac, some ab, bk af, bk al, some aa] ++ O) a6 [vs a.Id, vi a.Shape.Kind, .slice bc bd be, .slice bq br bs] ∧ Fb dz ([some aq, some ao, bk ad, bk ac, some ab, bk af, bk al, some aa] ++ O) bz [vs b.Id, vi b.Shape.Kind, .slice ar au av, .slice a2 a3 a4] ∧ Bx dz aa [vs ([] : Str), vi 0, .slice none 0 0, .slice none 0 0] ∧ Bx dz ab [vs a.Id, vi r9.Kind, .slice ac ck cl, .slice af db dc] ∧ Bx dz ao [vb r12.has, vs r12.val] ∧ Bx dz aq [vb r13.has, vs r13.val] ∧ Lim r12.val ∧ Lim r13.val ∧ impl_valueOf.E base_ (nth r11 v4) (fun r14 => (∃ (f2 : value → value → Bool) (f2_ok : value → value → Prop), (∀ x0_ x1_, f2_ok x0_ x1_ → impl_FeatJoin_1.E x0_ x1_  (fun r => r = f2 x0_ x1_)) ∧ impl_ofThree_value.E r14 r12 r13 f2 f2_ok (fun r15 r16 => (∃ (g3 : (List Str) → Bool → Str → Prop), ((if !r16 then (([116, 97, 103, 32] : Str).length + (nth r11 v4).length ≤ 9223372036854775807) ∧ (xs6.length + ([(([116, 97, 103, 32] : Str) ++ (nth r11 v4))] : List Str).length ≤ 268435456) ∧ (if !r12.has then g3 (xs6 ++ ([(([116, 97, 103, 32] : Str) ++ (nth r11 v4))] : List Str)) r13.has r13.val else g3 (xs6 ++ ([(([116, 97, 103, 32] : Str) ++ (nth r11 v4))] : List Str)) r12.has r12.val) else g3 xs6 r15.has r15.val)) ∧ ∀ (xs8 : List Str) (z3 : Bool) (z4 : Str), g3 xs8 z3 z4 → (∃ (ie : (List Tag) → Prop), ((if z3 then (xs7.length + ([(⟨(nth r11 v4), z4⟩ : Tag)] : List Tag).length ≤ 268435456) ∧ ie (xs7 ++ ([(⟨(nth r11 v4), z4⟩ : Tag)] : List Tag)) else ie xs7)) ∧ ∀ (xs9 : List Tag), ie xs9 → (I64 (v4 + 1)) ∧ rx xs8 (v4 + 1) xs9 ∧ my xs8 (v4 + 1) xs9 < my xs6 v4 xs7))))))) ?_ ?_
         ·refine W_mixr 10 [] (by kernel_rfl) rfl fun ahx aj f3 => ?_
          have f4 := j9.k0 aj
          have ah := j9.stn aj
          have f5 := (w5.st ah)
          refine M_pu 0 rfl (by kernel_rfl) f3 (P_ldar ag71 sz71 cR ⟨a6, 0, none⟩ [vs a.Id, vi a.Shape.Kind, .slice bc bd be, .slice bq br bs] rfl rfl (f5.cells (off := 0) rfl) nm_nil) ?_
          refine M_pu 1 rfl (by kernel_rfl) f3 (P_move (vs (nth r11 v4)) rfl) ?_
          have f6 := (aht.st ah)
          refine M_pu 3 rfl (by kernel_rfl) f3 (P_ldar ag71 sz71 cR ⟨bz, 0, none⟩ [vs b.Id, vi b.Shape.Kind, .slice ar au av, .slice a2 a3 a4] rfl rfl (f6.cells (off := 0) rfl) nm_nil) ?_
          refine M_pu 4 rfl (by kernel_rfl) f3 (P_move (vs (nth r11 v4)) rfl) ?_
          refine M_any3 2 6 7 (by kernel_rfl) rfl rfl rfl ?_ ?_ ?_
          ·refine L_call go99 [.agg #[vs a.Id, vi a.Shape.Kind, .slice bc bd be, .slice bq br bs], vs (nth r11 v4)] rfl ((impl_valueOf.calls ahx f4.ok a bc bd be bq br bs hs (gj.st ah) (gk.st ah) (nth r11 v4) dy _ H).mono ?_)
           rintro _ mz ⟨r12, rfl, H, a8, lq⟩
           have hn := f4.k0 a8
           have ja := Gm.tm f3 a8
           refine L_nil ⟨ja, ?_⟩
           refine M_any3 5 6 7 (by kernel_rfl) rfl rfl rfl ?_ ?_ ?_
           ·have e4 := f4.stn a8
            have sa := ((gz.st ah).st e4)
            have g4 := ((g1.st ah).st e4)
            refine L_call go99 [.agg #[vs b.Id, vi b.Shape.Kind, .slice ar au av, .slice a2 a3 a4], vs (nth r11 v4)] rfl ((impl_valueOf.calls mz hn.ok b ar au av a2 a3 a4 gf sa g4 (nth r11 v4) dy _ H).mono ?_)
            rintro _ ao0 ⟨r13, rfl, H, e5, w8⟩
            have ps := hn.k0 e5
            have m0 := Gm.tm ja e5
            refine L_nil ⟨m0, ?_⟩
            refine M_any2 6 7 (by kernel_rfl) rfl rfl ?_ ?_
            ·refine L_alloc [vb false, vs []] ze135 fun ahy ka e9 hu1026 d0 sb => ?_
             have m1 := ps.own d0 (some ka) (oglt e9 hu1026)
             have kb := Gm.tm m0 d0
             refine L_nil ⟨kb, ?_⟩
             refine M_any1 7 (by kernel_rfl) rfl ?_
             refine L_alloc [vb false, vs []] ze135 fun ahz kc fa hu1035 dd sc => ?_
             have d1 := m1.own dd (some kc) (oglt fa hu1035)
             have m2 := Gm.tm kb dd
             refine L_nil ⟨m2, ?_⟩
             refine M_any1 8 (by kernel_rfl) rfl ?_
             have ah0 := (sb.k0 dd)
             refine L_stb ka 0 [vb false, vs ([] : Str)] [vb r12.has, vs r12.val] [vb r12.has, vs r12.val] rfl ah0 rfl sz135 rfl rfl rfl fun ah1 de se => ?_
             have d2 := d1.wr 1 rfl de
             have m3 := Gm.tq m2 de (hv_new m0 (oge e9))
             refine L_nil ⟨m3, ?_⟩
             refine M_any1 9 (by kernel_rfl) rfl ?_
             have sf := (d1.bm sc 0 1 rfl rfl rfl de)
             refine L_stb kc 0 [vb false, vs ([] : Str)] [vb r13.has, vs r13.val] [vb r13.has, vs r13.val] rfl sf rfl sz135 rfl rfl rfl fun ah2 df sg => ?_
             have jb := d2.wr 0 rfl df
             have sh := Gm.tq m3 df (hv_new kb (oge fa))
             refine L_nil ⟨sh, ?_⟩
             refine M_nil (by kernel_rfl) ?_
             have d3 := hn.stn e5
             have bj := ps.stown _ d0 (oge e9)
             have aw := m1.stown _ dd (oge fa)
             have ai := d1.stw 1 rfl de
             have ae := d2.stw 0 rfl df
             have m4 := (((((((gj.st ah).st e4).st d3).st bj).st aw).st ai).st ae)
             have ig := (((((((gk.st ah).st e4).st d3).st bj).st aw).st ai).st ae)
             have es := (((((sa.st d3).st bj).st aw).st ai).st ae)
             have d4 := (((((g4.st d3).st bj).st aw).st ai).st ae)
             have cq := (((((((gl.st ah).st e4).st d3).st bj).st aw).st ai).st ae)
             have cr := (((((((gm.st ah).st e4).st d3).st bj).st aw).st ai).st ae)
             have cs := (d2.sw (d1.sw (((((f1.sn aj).sn a8).sn e5).so _ d0 (oge e9)).so _ dd (oge fa)) 6 1 rfl rfl rfl de) 6 0 rfl rfl rfl df)
             have ct := (d2.sw (d1.sw (((((fn.sn aj).sn a8).sn e5).so _ d0 (oge e9)).so _ dd (oge fa)) 2 1 rfl rfl rfl de) 2 0 rfl rfl rfl df)
             have cu := (d2.sw (d1.sw (((((fo.sn aj).sn a8).sn e5).so _ d0 (oge e9)).so _ dd (oge fa)) 3 1 rfl rfl rfl de) 3 0 rfl rfl rfl df)
             have cv := (d2.sw (d1.sw (((((fp.sn aj).sn a8).sn e5).so _ d0 (oge e9)).so _ dd (oge fa)) 5 1 rfl rfl rfl de) 5 0 rfl rfl rfl df)
             have cw := (((((((gn.st ah).st e4).st d3).st bj).st aw).st ai).st ae)
             have cx := ((((((f5.st e4).st d3).st bj).st aw).st ai).st ae)
             have cy := ((((((f6.st e4).st d3).st bj).st aw).st ai).st ae)
             have cz := (d2.bm (d1.bm (((((fq.k0 aj).k0 a8).k0 e5).k0 d0).k0 dd) 7 1 rfl rfl rfl de) 7 0 rfl rfl rfl df)
             have c1 := (d2.bm (d1.bm (((((fr.k0 aj).k0 a8).k0 e5).k0 d0).k0 dd) 4 1 rfl rfl rfl de) 4 0 rfl rfl rfl df)
             have c3 := (d2.bm se 1 0 rfl rfl rfl df)
             exact ⟨r12, r13, ka, kc, ⟨rfl, rfl, rfl, rfl, rfl, rfl, rfl, rfl, rfl, rfl, rfl, rfl, trivial⟩, jb, m4, ig, es, d4, cq, cr, cs, ct, cu, cv, cw, cx, cy, cz, c1, c3, sg, lq, w8, H⟩
            ·refine L_alloc [vb false, vs []] ze135 fun ahy ka e9 hu1026 d0 sb => ?_
             have m1 := ps.own d0 (some ka) (oglt e9 hu1026)
             have kb := Gm.tm m0 d0
             refine L_nil ⟨kb, ?_⟩
             refine M_any1 6 (by kernel_rfl) rfl ?_
             refine L_alloc [vb false, vs []] ze135 fun ahz kc fa hu1035 dd sc => ?_
             have d1 := m1.own dd (some kc) (oglt fa hu1035)
             have m2 := Gm.tm kb dd
             refine L_nil ⟨m2, ?_⟩
             refine M_any1 8 (by kernel_rfl) rfl ?_
             refine L_stb kc 0 [vb false, vs ([] : Str)] [vb r12.has, vs r12.val] [vb r12.has, vs r12.val] rfl sc rfl sz135 rfl rfl rfl fun ah1 de se => ?_
             have ih := d1.wr 0 rfl de
             have w9 := Gm.tq m2 de (hv_new kb (oge fa))
             refine L_nil ⟨w9, ?_⟩
             refine M_any1 9 (by kernel_rfl) rfl ?_
             have ah3 := (d1.bm (sb.k0 dd) 1 0 rfl rfl rfl de)
             refine L_stb ka 0 [vb false, vs ([] : Str)] [vb r13.has, vs r13.val] [vb r13.has, vs r13.val] rfl ah3 rfl sz135 rfl rfl rfl fun ao1 ho ah4 => ?_
             have lr := ih.wr 1 rfl ho
             have ah5 := Gm.tq w9 ho (hv_new m0 (oge e9))
             refine L_nil ⟨ah5, ?_⟩
             refine M_nil (by kernel_rfl) ?_
             have si := lr.perm (.swap _ _ _)
             have d3 := hn.stn e5
             have bj := ps.stown _ d0 (oge e9)
             have aw := m1.stown _ dd (oge fa)
             have ai := d1.stw 0 rfl de
             have ae := ih.stw 1 rfl ho
             have ag := lr.stp (.swap _ _ _)
             have ig := ((((((((gj.st ah).st e4).st d3).st bj).st aw).st ai).st ae).st ag)
             have es := ((((((((gk.st ah).st e4).st d3).st bj).st aw).st ai).st ae).st ag)
             have d4 := ((((((sa.st d3).st bj).st aw).st ai).st ae).st ag)
             have cq := ((((((g4.st d3).st bj).st aw).st ai).st ae).st ag)
             have cr := ((((((((gl.st ah).st e4).st d3).st bj).st aw).st ai).st ae).st ag)
             have cs := ((((((((gm.st ah).st e4).st d3).st bj).st aw).st ai).st ae).st ag)
             have ct := (lr.sp (ih.sw (d1.sw (((((f1.sn aj).sn a8).sn e5).so _ d0 (oge e9)).so _ dd (oge fa)) 6 0 rfl rfl rfl de) 6 1 rfl rfl rfl ho) (.swap _ _ _))
             have cu := (lr.sp (ih.sw (d1.sw (((((fn.sn aj).sn a8).sn e5).so _ d0 (oge e9)).so _ dd (oge fa)) 2 0 rfl rfl rfl de) 2 1 rfl rfl rfl ho) (.swap _ _ _))
             have cv := (lr.sp (ih.sw (d1.sw (((((fo.sn aj).sn a8).sn e5).so _ d0 (oge e9)).so _ dd (oge fa)) 3 0 rfl rfl rfl de) 3 1 rfl rfl rfl ho) (.swap _ _ _))
             have cw := (lr.sp (ih.sw (d1.sw (((((fp.sn aj).sn a8).sn e5).so _ d0 (oge e9)).so _ dd (oge fa)) 5 0 rfl rfl rfl de) 5 1 rfl rfl rfl ho) (.swap _ _ _))
             have cx := ((((((((gn.st ah).st e4).st d3).st bj).st aw).st ai).st ae).st ag)
             have cy := (((((((f5.st e4).st d3).st bj).st aw).st ai).st ae).st ag)
             have cz := (((((((f6.st e4).st d3).st bj).st aw).st ai).st ae).st ag)
             have c1 := (ih.bm (d1.bm (((((fq.k0 aj).k0 a8).k0 e5).k0 d0).k0 dd) 7 0 rfl rfl rfl de) 7 1 rfl rfl rfl ho)
             have c3 := (ih.bm (d1.bm (((((fr.k0 aj).k0 a8).k0 e5).k0 d0).k0 dd) 4 0 rfl rfl rfl de) 4 1 rfl rfl rfl ho)
             have et := (ih.bm se 0 1 rfl rfl rfl ho)
             have eu := ah4
             exact ⟨r12, r13, kc, ka, ⟨rfl, rfl, rfl, rfl, rfl, rfl, rfl, rfl, rfl, rfl, rfl, rfl, trivial⟩, si, ig, es, d4, cq, cr, cs, ct, cu, cv, cw, cx, cy, cz, c1, c3, et, eu, lq, w8, H⟩
           ·refine L_alloc [vb false, vs []] ze135 fun sj g5 cf hu1015 b4 m5 => ?_
            have g6 := hn.own b4 (some g5) (oglt cf hu1015)
            have ii := Gm.tm ja b4
            refine L_nil ⟨ii, ?_⟩
            refine M_any2 5 7 (by kernel_rfl) rfl rfl ?_ ?_
            ·have d5 := f4.stn a8
             have bl := hn.stown _ b4 (oge cf)
             have m6 := (((gz.st ah).st d5).st bl)
             have g7 := (((g1.st ah).st d5).st bl)
             refine L_call go99 [.agg #[vs b.Id, vi b.Shape.Kind, .slice ar au av, .slice a2 a3 a4], vs (nth r11 v4)] rfl ((impl_valueOf.calls sj g6.ok b ar au av a2 a3 a4 gf m6 g7 (nth r11 v4) dy _ H).mono ?_)
             rintro _ ah6 ⟨r13, rfl, H, a9, sk⟩
             have f7 := g6.k0 a9
             have f8 := Gm.tm ii a9
             refine L_nil ⟨f8, ?_⟩
             refine M_any1 7 (by kernel_rfl) rfl ?_
             refine L_alloc [vb false, vs []] ze135 fun ah7 ke fb hu1036 dg sq => ?_
             have d6 := f7.own dg (some ke) (oglt fb hu1036)
             have m7 := Gm.tm f8 dg
             refine L_nil ⟨m7, ?_⟩
             refine M_any1 8 (by kernel_rfl) rfl ?_
             have ah8 := ((m5.k0 a9).k0 dg)
             refine L_stb g5 0 [vb false, vs ([] : Str)] [vb r12.has, vs r12.val] [vb r12.has, vs r12.val] rfl ah8 rfl sz135 rfl rfl rfl fun ah9 dh sr => ?_
             have ij := d6.wr 1 rfl dh
             have xa := Gm.tq m7 dh (hv_new ja (oge cf))
             refine L_nil ⟨xa, ?_⟩
             refine M_any1 9 (by kernel_rfl) rfl ?_
             have aia := (d6.bm sq 0 1 rfl rfl rfl dh)
             refine L_stb ke 0 [vb false, vs ([] : Str)] [vb r13.has, vs r13.val] [vb r13.has, vs r13.val] rfl aia rfl sz135 rfl rfl rfl fun ao2 hp aib => ?_
             have si := ij.wr 0 rfl hp
             have aic := Gm.tq xa hp (hv_new f8 (oge fb))
             refine L_nil ⟨aic, ?_⟩
             refine M_nil (by kernel_rfl) ?_
             have bj := g6.stn a9
             have aw := f7.stown _ dg (oge fb)
             have ai := d6.stw 1 rfl dh
             have ae := ij.stw 0 rfl hp
             have m4 := (((((((gj.st ah).st d5).st bl).st bj).st aw).st ai).st ae)
             have ig := (((((((gk.st ah).st d5).st bl).st bj).st aw).st ai).st ae)
             have es := ((((m6.st bj).st aw).st ai).st ae)
             have d4 := ((((g7.st bj).st aw).st ai).st ae)
             have cq := (((((((gl.st ah).st d5).st bl).st bj).st aw).st ai).st ae)
             have cr := (((((((gm.st ah).st d5).st bl).st bj).st aw).st ai).st ae)
             have cs := (ij.sw (d6.sw (((((f1.sn aj).sn a8).so _ b4 (oge cf)).sn a9).so _ dg (oge fb)) 6 1 rfl rfl rfl dh) 6 0 rfl rfl rfl hp)
             have ct := (ij.sw (d6.sw (((((fn.sn aj).sn a8).so _ b4 (oge cf)).sn a9).so _ dg (oge fb)) 2 1 rfl rfl rfl dh) 2 0 rfl rfl rfl hp)
             have cu := (ij.sw (d6.sw (((((fo.sn aj).sn a8).so _ b4 (oge cf)).sn a9).so _ dg (oge fb)) 3 1 rfl rfl rfl dh) 3 0 rfl rfl rfl hp)
             have cv := (ij.sw (d6.sw (((((fp.sn aj).sn a8).so _ b4 (oge cf)).sn a9).so _ dg (oge fb)) 5 1 rfl rfl rfl dh) 5 0 rfl rfl rfl hp)
             have cw := (((((((gn.st ah).st d5).st bl).st bj).st aw).st ai).st ae)
             have cx := ((((((f5.st d5).st bl).st bj).st aw).st ai).st ae)
             have cy := ((((((f6.st d5).st bl).st bj).st aw).st ai).st ae)
             have cz := (ij.bm (d6.bm (((((fq.k0 aj).k0 a8).k0 b4).k0 a9).k0 dg) 7 1 rfl rfl rfl dh) 7 0 rfl rfl rfl hp)
             have c1 := (ij.bm (d6.bm (((((fr.k0 aj).k0 a8).k0 b4).k0 a9).k0 dg) 4 1 rfl rfl rfl dh) 4 0 rfl rfl rfl hp)
             have c3 := (ij.bm sr 1 0 rfl rfl rfl hp)
             exact ⟨r12, r13, g5, ke, ⟨rfl, rfl, rfl, rfl, rfl, rfl, rfl, rfl, rfl, rfl, rfl, rfl, trivial⟩, si, m4, ig, es, d4, cq, cr, cs, ct, cu, cv, cw, cx, cy, cz, c1, c3, aib, lq, sk, H⟩
            ·refine L_alloc [vb false, vs []] ze135 fun ss kf fc hu1024 di su => ?_
             have kg := g6.own di (some kf) (oglt fc hu1024)
             have m8 := Gm.tm ii di
             refine L_nil ⟨m8, ?_⟩
             refine M_any1 5 (by kernel_rfl) rfl ?_
             have d7 := f4.stn a8
             have d8 := hn.stown _ b4 (oge cf)
             have d9 := g6.stown _ di (oge fc)
             have m9 := ((((gz.st ah).st d7).st d8).st d9)
             have na := ((((g1.st ah).st d7).st d8).st d9)
             refine L_call go99 [.agg #[vs b.Id, vi b.Shape.Kind, .slice ar au av, .slice a2 a3 a4], vs (nth r11 v4)] rfl ((impl_valueOf.calls ss kg.ok b ar au av a2 a3 a4 gf m9 na (nth r11 v4) dy _ H).mono ?_)
             rintro _ sv ⟨r13, rfl, H, c5, sy⟩
             have ea := kg.k0 c5
             have nb := Gm.tm m8 c5
             refine L_nil ⟨nb, ?_⟩
             refine M_any1 8 (by kernel_rfl) rfl ?_
             have sz := ((m5.k0 di).k0 c5)
             refine L_stb g5 0 [vb false, vs ([] : Str)] [vb r12.has, vs r12.val] [vb r12.has, vs r12.val] rfl sz rfl sz135 rfl rfl rfl fun aid dk s0 => ?_
             have cc := ea.wr 1 rfl dk
             have jc := Gm.tq nb dk (hv_new ja (oge cf))
             refine L_nil ⟨jc, ?_⟩
             refine M_any1 9 (by kernel_rfl) rfl ?_
             have nc := (ea.bm (su.k0 c5) 0 1 rfl rfl rfl dk)
             refine L_stb kf 0 [vb false, vs ([] : Str)] [vb r13.has, vs r13.val] [vb r13.has, vs r13.val] rfl nc rfl sz135 rfl rfl rfl fun xb b8 nd => ?_
             have ev := cc.wr 0 rfl b8
             have ne := Gm.tq jc b8 (hv_new ii (oge fc))
             refine L_nil ⟨ne, ?_⟩
             refine M_nil (by kernel_rfl) ?_
             have aw := kg.stn c5
             have ai := ea.stw 1 rfl dk
             have ae := cc.stw 0 rfl b8
             have m4 := (((((((gj.st ah).st d7).st d8).st d9).st aw).st ai).st ae)
             have ig := (((((((gk.st ah).st d7).st d8).st d9).st aw).st ai).st ae)
             have es := (((m9.st aw).st ai).st ae)
             have d4 := (((na.st aw).st ai).st ae)
             have cq := (((((((gl.st ah).st d7).st d8).st d9).st aw).st ai).st ae)
             have cr := (((((((gm.st ah).st d7).st d8).st d9).st aw).st ai).st ae)
             have cs := (cc.sw (ea.sw (((((f1.sn aj).sn a8).so _ b4 (oge cf)).so _ di (oge fc)).sn c5) 6 1 rfl rfl rfl dk) 6 0 rfl rfl rfl b8)
             have ct := (cc.sw (ea.sw (((((fn.sn aj).sn a8).so _ b4 (oge cf)).so _ di (oge fc)).sn c5) 2 1 rfl rfl rfl dk) 2 0 rfl rfl rfl b8)
             have cu := (cc.sw (ea.sw (((((fo.sn aj).sn a8).so _ b4 (oge cf)).so _ di (oge fc)).sn c5) 3 1 rfl rfl rfl dk) 3 0 rfl rfl rfl b8)
             have cv := (cc.sw (ea.sw (((((fp.sn aj).sn a8).so _ b4 (oge cf)).so _ di (oge fc)).sn c5) 5 1 rfl rfl rfl dk) 5 0 rfl rfl rfl b8)
             have cw := (((((((gn.st ah).st d7).st d8).st d9).st aw).st ai).st ae)
             have cx := ((((((f5.st d7).st d8).st d9).st aw).st ai).st ae)
             have cy := ((((((f6.st d7).st d8).st d9).st aw).st ai).st ae)
             have cz := (cc.bm (ea.bm (((((fq.k0 aj).k0 a8).k0 b4).k0 di).k0 c5) 7 1 rfl rfl rfl dk) 7 0 rfl rfl rfl b8)
             have c1 := (cc.bm (ea.bm (((((fr.k0 aj).k0 a8).k0 b4).k0 di).k0 c5) 4 1 rfl rfl rfl dk) 4 0 rfl rfl rfl b8)
             have c3 := (cc.bm s0 1 0 rfl rfl rfl b8)
             exact ⟨r12, r13, g5, kf, ⟨rfl, rfl, rfl, rfl, rfl, rfl, rfl, rfl, rfl, rfl, rfl, rfl, trivial⟩, ev, m4, ig, es, d4, cq, cr, cs, ct, cu, cv, cw, cx, cy, cz, c1, c3, nd, lq, sy, H⟩
           ·refine L_alloc [vb false, vs []] ze135 fun sj g5 cf hu1015 b4 m5 => ?_
            have g6 := hn.own b4 (some g5) (oglt cf hu1015)
            have ii := Gm.tm ja b4
            refine L_nil ⟨ii, ?_⟩
            refine M_any2 5 6 (by kernel_rfl) rfl rfl ?_ ?_
            ·have d5 := f4.stn a8
             have bl := hn.stown _ b4 (oge cf)
             have m6 := (((gz.st ah).st d5).st bl)
             have g7 := (((g1.st ah).st d5).st bl)
             refine L_call go99 [.agg #[vs b.Id, vi b.Shape.Kind, .slice ar au av, .slice a2 a3 a4], vs (nth r11 v4)] rfl ((impl_valueOf.calls sj g6.ok b ar au av a2 a3 a4 gf m6 g7 (nth r11 v4) dy _ H).mono ?_)
             rintro _ ah6 ⟨r13, rfl, H, a9, sk⟩
             have f7 := g6.k0 a9
             have f8 := Gm.tm ii a9
             refine L_nil ⟨f8, ?_⟩
             refine M_any1 6 (by kernel_rfl) rfl ?_
             refine L_alloc [vb false, vs []] ze135 fun ah7 ke fb hu1036 dg sq => ?_
             have d6 := f7.own dg (some ke) (oglt fb hu1036)
             have m7 := Gm.tm f8 dg
             refine L_nil ⟨m7, ?_⟩
             refine M_any1 8 (by kernel_rfl) rfl ?_
             refine L_stb ke 0 [vb false, vs ([] : Str)] [vb r12.has, vs r12.val] [vb r12.has, vs r12.val] rfl sq rfl sz135 rfl rfl rfl fun ah9 dh sr => ?_
             have d2 := d6.wr 0 rfl dh
             have m3 := Gm.tq m7 dh (hv_new f8 (oge fb))
             refine L_nil ⟨m3, ?_⟩
             refine M_any1 9 (by kernel_rfl) rfl ?_
             have sf := (d6.bm ((m5.k0 a9).k0 dg) 1 0 rfl rfl rfl dh)
             refine L_stb g5 0 [vb false, vs ([] : Str)] [vb r13.has, vs r13.val] [vb r13.has, vs r13.val] rfl sf rfl sz135 rfl rfl rfl fun ah2 df sg => ?_
             have jb := d2.wr 1 rfl df
             have sh := Gm.tq m3 df (hv_new ja (oge cf))
             refine L_nil ⟨sh, ?_⟩
             refine M_nil (by kernel_rfl) ?_
             have ev := jb.perm (.swap _ _ _)
             have bj := g6.stn a9
             have aw := f7.stown _ dg (oge fb)
             have ai := d6.stw 0 rfl dh
             have ae := d2.stw 1 rfl df
             have ag := jb.stp (.swap _ _ _)
             have ig := ((((((((gj.st ah).st d5).st bl).st bj).st aw).st ai).st ae).st ag)
             have es := ((((((((gk.st ah).st d5).st bl).st bj).st aw).st ai).st ae).st ag)
             have d4 := (((((m6.st bj).st aw).st ai).st ae).st ag)
             have cq := (((((g7.st bj).st aw).st ai).st ae).st ag)
             have cr := ((((((((gl.st ah).st d5).st bl).st bj).st aw).st ai).st ae).st ag)
             have cs := ((((((((gm.st ah).st d5).st bl).st bj).st aw).st ai).st ae).st ag)
             have ct := (jb.sp (d2.sw (d6.sw (((((f1.sn aj).sn a8).so _ b4 (oge cf)).sn a9).so _ dg (oge fb)) 6 0 rfl rfl rfl dh) 6 1 rfl rfl rfl df) (.swap _ _ _))
             have cu := (jb.sp (d2.sw (d6.sw (((((fn.sn aj).sn a8).so _ b4 (oge cf)).sn a9).so _ dg (oge fb)) 2 0 rfl rfl rfl dh) 2 1 rfl rfl rfl df) (.swap _ _ _))
             have cv := (jb.sp (d2.sw (d6.sw (((((fo.sn aj).sn a8).so _ b4 (oge cf)).sn a9).so _ dg (oge fb)) 3 0 rfl rfl rfl dh) 3 1 rfl rfl rfl df) (.swap _ _ _))
             have cw := (jb.sp (d2.sw (d6.sw (((((fp.sn aj).sn a8).so _ b4 (oge cf)).sn a9).so _ dg (oge fb)) 5 0 rfl rfl rfl dh) 5 1 rfl rfl rfl df) (.swap _ _ _))
             have cx := ((((((((gn.st ah).st d5).st bl).st bj).st aw).st ai).st ae).st ag)
             have cy := (((((((f5.st d5).st bl).st bj).st aw).st ai).st ae).st ag)
             have cz := (((((((f6.st d5).st bl).st bj).st aw).st ai).st ae).st ag)
             have c1 := (d2.bm (d6.bm (((((fq.k0 aj).k0 a8).k0 b4).k0 a9).k0 dg) 7 0 rfl rfl rfl dh) 7 1 rfl rfl rfl df)
             have c3 := (d2.bm (d6.bm (((((fr.k0 aj).k0 a8).k0 b4).k0 a9).k0 dg) 4 0 rfl rfl rfl dh) 4 1 rfl rfl rfl df)
             have et := (d2.bm sr 0 1 rfl rfl rfl df)
             have eu := sg
             exact ⟨r12, r13, ke, g5, ⟨rfl, rfl, rfl, rfl, rfl, rfl, rfl, rfl, rfl, rfl, rfl, rfl, trivial⟩, ev, ig, es, d4, cq, cr, cs, ct, cu, cv, cw, cx, cy, cz, c1, c3, et, eu, lq, sk, H⟩
            ·refine L_alloc [vb false, vs []] ze135 fun ss kf fc hu1024 di su => ?_
             have kg := g6.own di (some kf) (oglt fc hu1024)
             have m8 := Gm.tm ii di
             refine L_nil ⟨m8, ?_⟩
             refine M_any1 5 (by kernel_rfl) rfl ?_
             have d7 := f4.stn a8
             have d8 := hn.stown _ b4 (oge cf)
             have d9 := g6.stown _ di (oge fc)
             have m9 := ((((gz.st ah).st d7).st d8).st d9)
             have na := ((((g1.st ah).st d7).st d8).st d9)
             refine L_call go99 [.agg #[vs b.Id, vi b.Shape.Kind, .slice ar au av, .slice a2 a3 a4], vs (nth r11 v4)] rfl ((impl_valueOf.calls ss kg.ok b ar au av a2 a3 a4 gf m9 na (nth r11 v4) dy _ H).mono ?_)
             rintro _ sv ⟨r13, rfl, H, c5, sy⟩
             have ea := kg.k0 c5
             have nb := Gm.tm m8 c5
             refine L_nil ⟨nb, ?_⟩
             refine M_any1 8 (by kernel_rfl) rfl ?_
             have sz := (su.k0 c5)
             refine L_stb kf 0 [vb false, vs ([] : Str)] [vb r12.has, vs r12.val] [vb r12.has, vs r12.val] rfl sz rfl sz135 rfl rfl rfl fun aid dk s0 => ?_
             have cc := ea.wr 0 rfl dk
             have jc := Gm.tq nb dk (hv_new ii (oge fc))
             refine L_nil ⟨jc, ?_⟩
             refine M_any1 9 (by kernel_rfl) rfl ?_
             have nc := (ea.bm ((m5.k0 di).k0 c5) 1 0 rfl rfl rfl dk)
             refine L_stb g5 0 [vb false, vs ([] : Str)] [vb r13.has, vs r13.val] [vb r13.has, vs r13.val] rfl nc rfl sz135 rfl rfl rfl fun xb b8 nd => ?_
             have ev := cc.wr 1 rfl b8
             have ne := Gm.tq jc b8 (hv_new ja (oge cf))
             refine L_nil ⟨ne, ?_⟩
             refine M_nil (by kernel_rfl) ?_
             have dl := ev.perm (.swap _ _ _)
             have ai := kg.stn c5
             have ae := ea.stw 0 rfl dk
             have ag := cc.stw 1 rfl b8
             have ak := ev.stp (.swap _ _ _)
             have es := ((((((((gj.st ah).st d7).st d8).st d9).st ai).st ae).st ag).st ak)
             have d4 := ((((((((gk.st ah).st d7).st d8).st d9).st ai).st ae).st ag).st ak)
             have cq := ((((m9.st ai).st ae).st ag).st ak)
             have cr := ((((na.st ai).st ae).st ag).st ak)
             have cs := ((((((((gl.st ah).st d7).st d8).st d9).st ai).st ae).st ag).st ak)
             have ct := ((((((((gm.st ah).st d7).st d8).st d9).st ai).st ae).st ag).st ak)
             have cu := (ev.sp (cc.sw (ea.sw (((((f1.sn aj).sn a8).so _ b4 (oge cf)).so _ di (oge fc)).sn c5) 6 0 rfl rfl rfl dk) 6 1 rfl rfl rfl b8) (.swap _ _ _))
             have cv := (ev.sp (cc.sw (ea.sw (((((fn.sn aj).sn a8).so _ b4 (oge cf)).so _ di (oge fc)).sn c5) 2 0 rfl rfl rfl dk) 2 1 rfl rfl rfl b8) (.swap _ _ _))
             have cw := (ev.sp (cc.sw (ea.sw (((((fo.sn aj).sn a8).so _ b4 (oge cf)).so _ di (oge fc)).sn c5) 3 0 rfl rfl rfl dk) 3 1 rfl rfl rfl b8) (.swap _ _ _))
             have cx := (ev.sp (cc.sw (ea.sw (((((fp.sn aj).sn a8).so _ b4 (oge cf)).so _ di (oge fc)).sn c5) 5 0 rfl rfl rfl dk) 5 1 rfl rfl rfl b8) (.swap _ _ _))
             have cy := ((((((((gn.st ah).st d7).st d8).st d9).st ai).st ae).st ag).st ak)
             have cz := (((((((f5.st d7).st d8).st d9).st ai).st ae).st ag).st ak)
             have c1 := (((((((f6.st d7).st d8).st d9).st ai).st ae).st ag).st ak)
             have c3 := (cc.bm (ea.bm (((((fq.k0 aj).k0 a8).k0 b4).k0 di).k0 c5) 7 0 rfl rfl rfl dk) 7 1 rfl rfl rfl b8)
             have et := (cc.bm (ea.bm (((((fr.k0 aj).k0 a8).k0 b4).k0 di).k0 c5) 4 0 rfl rfl rfl dk) 4 1 rfl rfl rfl b8)
             have eu := (cc.bm s0 0 1 rfl rfl rfl b8)
             have kh := nd
             exact ⟨r12, r13, kf, g5, ⟨rfl, rfl, rfl, rfl, rfl, rfl, rfl, rfl, rfl, rfl, rfl, rfl, trivial⟩, dl, es, d4, cq, cr, cs, ct, cu, cv, cw, cx, cy, cz, c1, c3, et, eu, kh, lq, sy, H⟩
          ·refine L_alloc [vb false, vs []] ze135 fun mz fd bv hu1007 a5 ki => ?_
           have f9 := f4.own a5 (some fd) (oglt bv hu1007)
           have ik := Gm.tm f3 a5
           refine L_nil ⟨ik, ?_⟩
           refine M_any2 2 7 (by kernel_rfl) rfl rfl ?_ ?_
           ·have b5 := f4.stown _ a5 (oge bv)
            have g4 := ((gj.st ah).st b5)
            have kj := ((gk.st ah).st b5)
            refine L_call go99 [.agg #[vs a.Id, vi a.Shape.Kind, .slice bc bd be, .slice bq br bs], vs (nth r11 v4)] rfl ((impl_valueOf.calls mz f9.ok a bc bd be bq br bs hs g4 kj (nth r11 v4) dy _ H).mono ?_)
            rintro _ s1 ⟨r12, rfl, H, bw, nf⟩
            have g8 := f9.k0 bw
            have il := Gm.tm ik bw
            refine L_nil ⟨il, ?_⟩
            refine M_any2 5 7 (by kernel_rfl) rfl rfl ?_ ?_
            ·have eb := f9.stn bw
             have g9 := (((gz.st ah).st b5).st eb)
             have ng := (((g1.st ah).st b5).st eb)
             refine L_call go99 [.agg #[vs b.Id, vi b.Shape.Kind, .slice ar au av, .slice a2 a3 a4], vs (nth r11 v4)] rfl ((impl_valueOf.calls s1 g8.ok b ar au av a2 a3 a4 gf g9 ng (nth r11 v4) dy _ H).mono ?_)
             rintro _ aie ⟨r13, rfl, H, dm, s2⟩
             have nh := g8.k0 dm
             have kk := Gm.tm il dm
             refine L_nil ⟨kk, ?_⟩
             refine M_any1 7 (by kernel_rfl) rfl ?_
             refine L_alloc [vb false, vs []] ze135 fun sv kl fe hu1038 dn s3 => ?_
             have ec := nh.own dn (some kl) (oglt fe hu1038)
             have ni := Gm.tm kk dn
             refine L_nil ⟨ni, ?_⟩
             refine M_any1 8 (by kernel_rfl) rfl ?_
             have aif := (((ki.k0 bw).k0 dm).k0 dn)
             refine L_stb fd 0 [vb false, vs ([] : Str)] [vb r12.has, vs r12.val] [vb r12.has, vs r12.val] rfl aif rfl sz135 rfl rfl rfl fun aig dp s4 => ?_
             have im := ec.wr 1 rfl dp
             have xc := Gm.tq ni dp (hv_new f3 (oge bv))
             refine L_nil ⟨xc, ?_⟩
             refine M_any1 9 (by kernel_rfl) rfl ?_
             have aih := (ec.bm s3 0 1 rfl rfl rfl dp)
             refine L_stb kl 0 [vb false, vs ([] : Str)] [vb r13.has, vs r13.val] [vb r13.has, vs r13.val] rfl aih rfl sz135 rfl rfl rfl fun ao3 hq aii => ?_
             have aij := im.wr 0 rfl hq
             have aik := Gm.tq xc hq (hv_new kk (oge fe))
             refine L_nil ⟨aik, ?_⟩
             refine M_nil (by kernel_rfl) ?_
             have ai := g8.stn dm
             have ae := nh.stown _ dn (oge fe)
             have ag := ec.stw 1 rfl dp
             have ak := im.stw 0 rfl hq
             have es := (((((g4.st eb).st ai).st ae).st ag).st ak)
             have d4 := (((((kj.st eb).st ai).st ae).st ag).st ak)
             have cq := ((((g9.st ai).st ae).st ag).st ak)
             have cr := ((((ng.st ai).st ae).st ag).st ak)
             have cs := (((((((gl.st ah).st b5).st eb).st ai).st ae).st ag).st ak)
             have ct := (((((((gm.st ah).st b5).st eb).st ai).st ae).st ag).st ak)
             have cu := (im.sw (ec.sw (((((f1.sn aj).so _ a5 (oge bv)).sn bw).sn dm).so _ dn (oge fe)) 6 1 rfl rfl rfl dp) 6 0 rfl rfl rfl hq)
             have cv := (im.sw (ec.sw (((((fn.sn aj).so _ a5 (oge bv)).sn bw).sn dm).so _ dn (oge fe)) 2 1 rfl rfl rfl dp) 2 0 rfl rfl rfl hq)
             have cw := (im.sw (ec.sw (((((fo.sn aj).so _ a5 (oge bv)).sn bw).sn dm).so _ dn (oge fe)) 3 1 rfl rfl rfl dp) 3 0 rfl rfl rfl hq)
             have cx := (im.sw (ec.sw (((((fp.sn aj).so _ a5 (oge bv)).sn bw).sn dm).so _ dn (oge fe)) 5 1 rfl rfl rfl dp) 5 0 rfl rfl rfl hq)
             have cy := (((((((gn.st ah).st b5).st eb).st ai).st ae).st ag).st ak)
             have cz := ((((((f5.st b5).st eb).st ai).st ae).st ag).st ak)
             have c1 := ((((((f6.st b5).st eb).st ai).st ae).st ag).st ak)
             have c3 := (im.bm (ec.bm (((((fq.k0 aj).k0 a5).k0 bw).k0 dm).k0 dn) 7 1 rfl rfl rfl dp) 7 0 rfl rfl rfl hq)
             have et := (im.bm (ec.bm (((((fr.k0 aj).k0 a5).k0 bw).k0 dm).k0 dn) 4 1 rfl rfl rfl dp) 4 0 rfl rfl rfl hq)
             have eu := (im.bm s4 1 0 rfl rfl rfl hq)
             exact ⟨r12, r13, fd, kl, ⟨rfl, rfl, rfl, rfl, rfl, rfl, rfl, rfl, rfl, rfl, rfl, rfl, trivial⟩, aij, es, d4, cq, cr, cs, ct, cu, cv, cw, cx, cy, cz, c1, c3, et, eu, aii, nf, s2, H⟩
            ·refine L_alloc [vb false, vs []] ze135 fun s5 km ff hu1027 a9 s6 => ?_
             have f7 := g8.own a9 (some km) (oglt ff hu1027)
             have f8 := Gm.tm il a9
             refine L_nil ⟨f8, ?_⟩
             refine M_any1 5 (by kernel_rfl) rfl ?_
             have ed := f9.stn bw
             have bn := g8.stown _ a9 (oge ff)
             have ha := ((((gz.st ah).st b5).st ed).st bn)
             have hb := ((((g1.st ah).st b5).st ed).st bn)
             refine L_call go99 [.agg #[vs b.Id, vi b.Shape.Kind, .slice ar au av, .slice a2 a3 a4], vs (nth r11 v4)] rfl ((impl_valueOf.calls s5 f7.ok b ar au av a2 a3 a4 gf ha hb (nth r11 v4) dy _ H).mono ?_)
             rintro _ s7 ⟨r13, rfl, H, a1, kn⟩
             have bo := f7.k0 a1
             have hc := Gm.tm f8 a1
             refine L_nil ⟨hc, ?_⟩
             refine M_any1 8 (by kernel_rfl) rfl ?_
             have ko := (((ki.k0 bw).k0 a9).k0 a1)
             refine L_stb fd 0 [vb false, vs ([] : Str)] [vb r12.has, vs r12.val] [vb r12.has, vs r12.val] rfl ko rfl sz135 rfl rfl rfl fun s8 ba kp => ?_
             have bp := bo.wr 1 rfl ba
             have hd := Gm.tq hc ba (hv_new f3 (oge bv))
             refine L_nil ⟨hd, ?_⟩
             refine M_any1 9 (by kernel_rfl) rfl ?_
             have kq := (bo.bm (s6.k0 a1) 0 1 rfl rfl rfl ba)
             refine L_stb km 0 [vb false, vs ([] : Str)] [vb r13.has, vs r13.val] [vb r13.has, vs r13.val] rfl kq rfl sz135 rfl rfl rfl fun s9 bb kr => ?_
             have dl := bp.wr 0 rfl bb
             have ks := Gm.tq hd bb (hv_new il (oge ff))
             refine L_nil ⟨ks, ?_⟩
             refine M_nil (by kernel_rfl) ?_
             have ae := f7.stn a1
             have ag := bo.stw 1 rfl ba
             have ak := bp.stw 0 rfl bb
             have es := (((((g4.st ed).st bn).st ae).st ag).st ak)
             have d4 := (((((kj.st ed).st bn).st ae).st ag).st ak)
             have cq := (((ha.st ae).st ag).st ak)
             have cr := (((hb.st ae).st ag).st ak)
             have cs := (((((((gl.st ah).st b5).st ed).st bn).st ae).st ag).st ak)
             have ct := (((((((gm.st ah).st b5).st ed).st bn).st ae).st ag).st ak)
             have cu := (bp.sw (bo.sw (((((f1.sn aj).so _ a5 (oge bv)).sn bw).so _ a9 (oge ff)).sn a1) 6 1 rfl rfl rfl ba) 6 0 rfl rfl rfl bb)
             have cv := (bp.sw (bo.sw (((((fn.sn aj).so _ a5 (oge bv)).sn bw).so _ a9 (oge ff)).sn a1) 2 1 rfl rfl rfl ba) 2 0 rfl rfl rfl bb)
             have cw := (bp.sw (bo.sw (((((fo.sn aj).so _ a5 (oge bv)).sn bw).so _ a9 (oge ff)).sn a1) 3 1 rfl rfl rfl ba) 3 0 rfl rfl rfl bb)
             have cx := (bp.sw (bo.sw (((((fp.sn aj).so _ a5 (oge bv)).sn bw).so _ a9 (oge ff)).sn a1) 5 1 rfl rfl rfl ba) 5 0 rfl rfl rfl bb)
             have cy := (((((((gn.st ah).st b5).st ed).st bn).st ae).st ag).st ak)
             have cz := ((((((f5.st b5).st ed).st bn).st ae).st ag).st ak)
             have c1 := ((((((f6.st b5).st ed).st bn).st ae).st ag).st ak)
             have c3 := (bp.bm (bo.bm (((((fq.k0 aj).k0 a5).k0 bw).k0 a9).k0 a1) 7 1 rfl rfl rfl ba) 7 0 rfl rfl rfl bb)
             have et := (bp.bm (bo.bm (((((fr.k0 aj).k0 a5).k0 bw).k0 a9).k0 a1) 4 1 rfl rfl rfl ba) 4 0 rfl rfl rfl bb)
             have eu := (bp.bm kp 1 0 rfl rfl rfl bb)
             exact ⟨r12, r13, fd, km, ⟨rfl, rfl, rfl, rfl, rfl, rfl, rfl, rfl, rfl, rfl, rfl, rfl, trivial⟩, dl, es, d4, cq, cr, cs, ct, cu, cv, cw, cx, cy, cz, c1, c3, et, eu, kr, nf, kn, H⟩
           ·refine L_alloc [vb false, vs []] ze135 fun ta kt fg hu1016 dq tb => ?_
            have ku := f9.own dq (some kt) (oglt fg hu1016)
            have nj := Gm.tm ik dq
            refine L_nil ⟨nj, ?_⟩
            refine M_any1 2 (by kernel_rfl) rfl ?_
            have bl := f4.stown _ a5 (oge bv)
            have ee := f9.stown _ dq (oge fg)
            have g7 := (((gj.st ah).st bl).st ee)
            have g9 := (((gk.st ah).st bl).st ee)
            refine L_call go99 [.agg #[vs a.Id, vi a.Shape.Kind, .slice bc bd be, .slice bq br bs], vs (nth r11 v4)] rfl ((impl_valueOf.calls ta ku.ok a bc bd be bq br bs hs g7 g9 (nth r11 v4) dy _ H).mono ?_)
            rintro _ tc ⟨r12, rfl, H, c6, td⟩
            have kv := ku.k0 c6
            have nk := Gm.tm nj c6
            refine L_nil ⟨nk, ?_⟩
            refine M_any1 5 (by kernel_rfl) rfl ?_
            have bn := ku.stn c6
            have ha := ((((gz.st ah).st bl).st ee).st bn)
            have hb := ((((g1.st ah).st bl).st ee).st bn)
            refine L_call go99 [.agg #[vs b.Id, vi b.Shape.Kind, .slice ar au av, .slice a2 a3 a4], vs (nth r11 v4)] rfl ((impl_valueOf.calls tc kv.ok b ar au av a2 a3 a4 gf ha hb (nth r11 v4) dy _ H).mono ?_)
            rintro _ s7 ⟨r13, rfl, H, a1, kn⟩
            have bo := kv.k0 a1
            have hc := Gm.tm nk a1
            refine L_nil ⟨hc, ?_⟩
            refine M_any1 8 (by kernel_rfl) rfl ?_
            have ko := (((ki.k0 dq).k0 c6).k0 a1)
            refine L_stb fd 0 [vb false, vs ([] : Str)] [vb r12.has, vs r12.val] [vb r12.has, vs r12.val] rfl ko rfl sz135 rfl rfl rfl fun s8 ba kp => ?_
            have bp := bo.wr 1 rfl ba
            have hd := Gm.tq hc ba (hv_new f3 (oge bv))
            refine L_nil ⟨hd, ?_⟩
            refine M_any1 9 (by kernel_rfl) rfl ?_
            have kq := (bo.bm ((tb.k0 c6).k0 a1) 0 1 rfl rfl rfl ba)
            refine L_stb kt 0 [vb false, vs ([] : Str)] [vb r13.has, vs r13.val] [vb r13.has, vs r13.val] rfl kq rfl sz135 rfl rfl rfl fun s9 bb kr => ?_
            have dl := bp.wr 0 rfl bb
            have ks := Gm.tq hd bb (hv_new ik (oge fg))
            refine L_nil ⟨ks, ?_⟩
            refine M_nil (by kernel_rfl) ?_
            have ae := kv.stn a1
            have ag := bo.stw 1 rfl ba
            have ak := bp.stw 0 rfl bb
            have es := ((((g7.st bn).st ae).st ag).st ak)
            have d4 := ((((g9.st bn).st ae).st ag).st ak)
            have cq := (((ha.st ae).st ag).st ak)
            have cr := (((hb.st ae).st ag).st ak)
            have cs := (((((((gl.st ah).st bl).st ee).st bn).st ae).st ag).st ak)
            have ct := (((((((gm.st ah).st bl).st ee).st bn).st ae).st ag).st ak)
            have cu := (bp.sw (bo.sw (((((f1.sn aj).so _ a5 (oge bv)).so _ dq (oge fg)).sn c6).sn a1) 6 1 rfl rfl rfl ba) 6 0 rfl rfl rfl bb)
            have cv := (bp.sw (bo.sw (((((fn.sn aj).so _ a5 (oge bv)).so _ dq (oge fg)).sn c6).sn a1) 2 1 rfl rfl rfl ba) 2 0 rfl rfl rfl bb)
            have cw := (bp.sw (bo.sw (((((fo.sn aj).so _ a5 (oge bv)).so _ dq (oge fg)).sn c6).sn a1) 3 1 rfl rfl rfl ba) 3 0 rfl rfl rfl bb)
            have cx := (bp.sw (bo.sw (((((fp.sn aj).so _ a5 (oge bv)).so _ dq (oge fg)).sn c6).sn a1) 5 1 rfl rfl rfl ba) 5 0 rfl rfl rfl bb)
            have cy := (((((((gn.st ah).st bl).st ee).st bn).st ae).st ag).st ak)
            have cz := ((((((f5.st bl).st ee).st bn).st ae).st ag).st ak)
            have c1 := ((((((f6.st bl).st ee).st bn).st ae).st ag).st ak)
            have c3 := (bp.bm (bo.bm (((((fq.k0 aj).k0 a5).k0 dq).k0 c6).k0 a1) 7 1 rfl rfl rfl ba) 7 0 rfl rfl rfl bb)
            have et := (bp.bm (bo.bm (((((fr.k0 aj).k0 a5).k0 dq).k0 c6).k0 a1) 4 1 rfl rfl rfl ba) 4 0 rfl rfl rfl bb)
            have eu := (bp.bm kp 1 0 rfl rfl rfl bb)
            exact ⟨r12, r13, fd, kt, ⟨rfl, rfl, rfl, rfl, rfl, rfl, rfl, rfl, rfl, rfl, rfl, rfl, trivial⟩, dl, es, d4, cq, cr, cs, ct, cu, cv, cw, cx, cy, cz, c1, c3, et, eu, kr, td, kn, H⟩
          ·refine L_alloc [vb false, vs []] ze135 fun mz fd bv hu1007 a5 ki => ?_
           have f9 := f4.own a5 (some fd) (oglt bv hu1007)
           have ik := Gm.tm f3 a5
           refine L_nil ⟨ik, ?_⟩
           refine M_any2 2 6 (by kernel_rfl) rfl rfl ?_ ?_
           ·have b5 := f4.stown _ a5 (oge bv)
            have g4 := ((gj.st ah).st b5)
            have kj := ((gk.st ah).st b5)
            refine L_call go99 [.agg #[vs a.Id, vi a.Shape.Kind, .slice bc bd be, .slice bq br bs], vs (nth r11 v4)] rfl ((impl_valueOf.calls mz f9.ok a bc bd be bq br bs hs g4 kj (nth r11 v4) dy _ H).mono ?_)
            rintro _ s1 ⟨r12, rfl, H, bw, nf⟩
            have g8 := f9.k0 bw
            have il := Gm.tm ik bw
            refine L_nil ⟨il, ?_⟩
            refine M_any2 5 6 (by kernel_rfl) rfl rfl ?_ ?_
            ·have eb := f9.stn bw
             have g9 := (((gz.st ah).st b5).st eb)
             have ng := (((g1.st ah).st b5).st eb)
             refine L_call go99 [.agg #[vs b.Id, vi b.Shape.Kind, .slice ar au av, .slice a2 a3 a4], vs (nth r11 v4)] rfl ((impl_valueOf.calls s1 g8.ok b ar au av a2 a3 a4 gf g9 ng (nth r11 v4) dy _ H).mono ?_)
             rintro _ aie ⟨r13, rfl, H, dm, s2⟩
             have nh := g8.k0 dm
             have kk := Gm.tm il dm
             refine L_nil ⟨kk, ?_⟩
             refine M_any1 6 (by kernel_rfl) rfl ?_
             refine L_alloc [vb false, vs []] ze135 fun sv kl fe hu1038 dn s3 => ?_
             have ec := nh.own dn (some kl) (oglt fe hu1038)
             have ni := Gm.tm kk dn
             refine L_nil ⟨ni, ?_⟩
             refine M_any1 8 (by kernel_rfl) rfl ?_
             refine L_stb kl 0 [vb false, vs ([] : Str)] [vb r12.has, vs r12.val] [vb r12.has, vs r12.val] rfl s3 rfl sz135 rfl rfl rfl fun aig dp s4 => ?_
             have cc := ec.wr 0 rfl dp
             have jc := Gm.tq ni dp (hv_new kk (oge fe))
             refine L_nil ⟨jc, ?_⟩
             refine M_any1 9 (by kernel_rfl) rfl ?_
             have nc := (ec.bm (((ki.k0 bw).k0 dm).k0 dn) 1 0 rfl rfl rfl dp)
             refine L_stb fd 0 [vb false, vs ([] : Str)] [vb r13.has, vs r13.val] [vb r13.has, vs r13.val] rfl nc rfl sz135 rfl rfl rfl fun xb b8 nd => ?_
             have ev := cc.wr 1 rfl b8
             have ne := Gm.tq jc b8 (hv_new f3 (oge bv))
             refine L_nil ⟨ne, ?_⟩
             refine M_nil (by kernel_rfl) ?_
             have dl := ev.perm (.swap _ _ _)
             have ai := g8.stn dm
             have ae := nh.stown _ dn (oge fe)
             have ag := ec.stw 0 rfl dp
             have ak := cc.stw 1 rfl b8
             have cd := ev.stp (.swap _ _ _)
             have d4 := ((((((g4.st eb).st ai).st ae).st ag).st ak).st cd)
             have cq := ((((((kj.st eb).st ai).st ae).st ag).st ak).st cd)
             have cr := (((((g9.st ai).st ae).st ag).st ak).st cd)
             have cs := (((((ng.st ai).st ae).st ag).st ak).st cd)
             have ct := ((((((((gl.st ah).st b5).st eb).st ai).st ae).st ag).st ak).st cd)
             have cu := ((((((((gm.st ah).st b5).st eb).st ai).st ae).st ag).st ak).st cd)
             have cv := (ev.sp (cc.sw (ec.sw (((((f1.sn aj).so _ a5 (oge bv)).sn bw).sn dm).so _ dn (oge fe)) 6 0 rfl rfl rfl dp) 6 1 rfl rfl rfl b8) (.swap _ _ _))
             have cw := (ev.sp (cc.sw (ec.sw (((((fn.sn aj).so _ a5 (oge bv)).sn bw).sn dm).so _ dn (oge fe)) 2 0 rfl rfl rfl dp) 2 1 rfl rfl rfl b8) (.swap _ _ _))
             have cx := (ev.sp (cc.sw (ec.sw (((((fo.sn aj).so _ a5 (oge bv)).sn bw).sn dm).so _ dn (oge fe)) 3 0 rfl rfl rfl dp) 3 1 rfl rfl rfl b8) (.swap _ _ _))
             have cy := (ev.sp (cc.sw (ec.sw (((((fp.sn aj).so _ a5 (oge bv)).sn bw).sn dm).so _ dn (oge fe)) 5 0 rfl rfl rfl dp) 5 1 rfl rfl rfl b8) (.swap _ _ _))
             have cz := ((((((((gn.st ah).st b5).st eb).st ai).st ae).st ag).st ak).st cd)
             have c1 := (((((((f5.st b5).st eb).st ai).st ae).st ag).st ak).st cd)
             have c3 := (((((((f6.st b5).st eb).st ai).st ae).st ag).st ak).st cd)
             have et := (cc.bm (ec.bm (((((fq.k0 aj).k0 a5).k0 bw).k0 dm).k0 dn) 7 0 rfl rfl rfl dp) 7 1 rfl rfl rfl b8)
             have eu := (cc.bm (ec.bm (((((fr.k0 aj).k0 a5).k0 bw).k0 dm).k0 dn) 4 0 rfl rfl rfl dp) 4 1 rfl rfl rfl b8)
             have kh := (cc.bm s4 0 1 rfl rfl rfl b8)
             have nl := nd
             exact ⟨r12, r13, kl, fd, ⟨rfl, rfl, rfl, rfl, rfl, rfl, rfl, rfl, rfl, rfl, rfl, rfl, trivial⟩, dl, d4, cq, cr, cs, ct, cu, cv, cw, cx, cy, cz, c1, c3, et, eu, kh, nl, nf, s2, H⟩
            ·refine L_alloc [vb false, vs []] ze135 fun s5 km ff hu1027 a9 s6 => ?_
             have f7 := g8.own a9 (some km) (oglt ff hu1027)
             have f8 := Gm.tm il a9
             refine L_nil ⟨f8, ?_⟩
             refine M_any1 5 (by kernel_rfl) rfl ?_
             have ed := f9.stn bw
             have bn := g8.stown _ a9 (oge ff)
             have ha := ((((gz.st ah).st b5).st ed).st bn)
             have hb := ((((g1.st ah).st b5).st ed).st bn)
             refine L_call go99 [.agg #[vs b.Id, vi b.Shape.Kind, .slice ar au av, .slice a2 a3 a4], vs (nth r11 v4)] rfl ((impl_valueOf.calls s5 f7.ok b ar au av a2 a3 a4 gf ha hb (nth r11 v4) dy _ H).mono ?_)
             rintro _ s7 ⟨r13, rfl, H, a1, kn⟩
             have bo := f7.k0 a1
             have hc := Gm.tm f8 a1
             refine L_nil ⟨hc, ?_⟩
             refine M_any1 8 (by kernel_rfl) rfl ?_
             have ko := (s6.k0 a1)
             refine L_stb km 0 [vb false, vs ([] : Str)] [vb r12.has, vs r12.val] [vb r12.has, vs r12.val] rfl ko rfl sz135 rfl rfl rfl fun s8 ba kp => ?_
             have bp := bo.wr 0 rfl ba
             have hd := Gm.tq hc ba (hv_new il (oge ff))
             refine L_nil ⟨hd, ?_⟩
             refine M_any1 9 (by kernel_rfl) rfl ?_
             have kq := (bo.bm (((ki.k0 bw).k0 a9).k0 a1) 1 0 rfl rfl rfl ba)
             refine L_stb fd 0 [vb false, vs ([] : Str)] [vb r13.has, vs r13.val] [vb r13.has, vs r13.val] rfl kq rfl sz135 rfl rfl rfl fun s9 bb kr => ?_
             have dl := bp.wr 1 rfl bb
             have ks := Gm.tq hd bb (hv_new f3 (oge bv))
             refine L_nil ⟨ks, ?_⟩
             refine M_nil (by kernel_rfl) ?_
             have te := dl.perm (.swap _ _ _)
             have ag := f7.stn a1
             have ak := bo.stw 0 rfl ba
             have cd := bp.stw 1 rfl bb
             have ef := dl.stp (.swap _ _ _)
             have cq := ((((((g4.st ed).st bn).st ag).st ak).st cd).st ef)
             have cr := ((((((kj.st ed).st bn).st ag).st ak).st cd).st ef)
             have cs := ((((ha.st ag).st ak).st cd).st ef)
             have ct := ((((hb.st ag).st ak).st cd).st ef)
             have cu := ((((((((gl.st ah).st b5).st ed).st bn).st ag).st ak).st cd).st ef)
             have cv := ((((((((gm.st ah).st b5).st ed).st bn).st ag).st ak).st cd).st ef)
             have cw := (dl.sp (bp.sw (bo.sw (((((f1.sn aj).so _ a5 (oge bv)).sn bw).so _ a9 (oge ff)).sn a1) 6 0 rfl rfl rfl ba) 6 1 rfl rfl rfl bb) (.swap _ _ _))
             have cx := (dl.sp (bp.sw (bo.sw (((((fn.sn aj).so _ a5 (oge bv)).sn bw).so _ a9 (oge ff)).sn a1) 2 0 rfl rfl rfl ba) 2 1 rfl rfl rfl bb) (.swap _ _ _))
             have cy := (dl.sp (bp.sw (bo.sw (((((fo.sn aj).so _ a5 (oge bv)).sn bw).so _ a9 (oge ff)).sn a1) 3 0 rfl rfl rfl ba) 3 1 rfl rfl rfl bb) (.swap _ _ _))
             have cz := (dl.sp (bp.sw (bo.sw (((((fp.sn aj).so _ a5 (oge bv)).sn bw).so _ a9 (oge ff)).sn a1) 5 0 rfl rfl rfl ba) 5 1 rfl rfl rfl bb) (.swap _ _ _))
             have c1 := ((((((((gn.st ah).st b5).st ed).st bn).st ag).st ak).st cd).st ef)
             have c3 := (((((((f5.st b5).st ed).st bn).st ag).st ak).st cd).st ef)
             have et := (((((((f6.st b5).st ed).st bn).st ag).st ak).st cd).st ef)
             have eu := (bp.bm (bo.bm (((((fq.k0 aj).k0 a5).k0 bw).k0 a9).k0 a1) 7 0 rfl rfl rfl ba) 7 1 rfl rfl rfl bb)
             have kh := (bp.bm (bo.bm (((((fr.k0 aj).k0 a5).k0 bw).k0 a9).k0 a1) 4 0 rfl rfl rfl ba) 4 1 rfl rfl rfl bb)
             have nl := (bp.bm kp 0 1 rfl rfl rfl bb)
             have tf := kr
             exact ⟨r12, r13, km, fd, ⟨rfl, rfl, rfl, rfl, rfl, rfl, rfl, rfl, rfl, rfl, rfl, rfl, trivial⟩, te, cq, cr, cs, ct, cu, cv, cw, cx, cy, cz, c1, c3, et, eu, kh, nl, tf, nf, kn, H⟩
           ·refine L_alloc [vb false, vs []] ze135 fun ta kt fg hu1016 dq tb => ?_
            have ku := f9.own dq (some kt) (oglt fg hu1016)
            have nj := Gm.tm ik dq
            refine L_nil ⟨nj, ?_⟩
            refine M_any1 2 (by kernel_rfl) rfl ?_
            have bl := f4.stown _ a5 (oge bv)
            have ee := f9.stown _ dq (oge fg)
            have g7 := (((gj.st ah).st bl).st ee)
            have g9 := (((gk.st ah).st bl).st ee)
            refine L_call go99 [.agg #[vs a.Id, vi a.Shape.Kind, .slice bc bd be, .slice bq br bs], vs (nth r11 v4)] rfl ((impl_valueOf.calls ta ku.ok a bc bd be bq br bs hs g7 g9 (nth r11 v4) dy _ H).mono ?_)
            rintro _ tc ⟨r12, rfl, H, c6, td⟩
            have kv := ku.k0 c6
            have nk := Gm.tm nj c6
            refine L_nil ⟨nk, ?_⟩
            refine M_any1 5 (by kernel_rfl) rfl ?_
            have bn := ku.stn c6
            have ha := ((((gz.st ah).st bl).st ee).st bn)
            have hb := ((((g1.st ah).st bl).st ee).st bn)
            refine L_call go99 [.agg #[vs b.Id, vi b.Shape.Kind, .slice ar au av, .slice a2 a3 a4], vs (nth r11 v4)] rfl ((impl_valueOf.calls tc kv.ok b ar au av a2 a3 a4 gf ha hb (nth r11 v4) dy _ H).mono ?_)
            rintro _ s7 ⟨r13, rfl, H, a1, kn⟩
            have bo := kv.k0 a1
            have hc := Gm.tm nk a1
            refine L_nil ⟨hc, ?_⟩
            refine M_any1 8 (by kernel_rfl) rfl ?_
            have ko := ((tb.k0 c6).k0 a1)
            refine L_stb kt 0 [vb false, vs ([] : Str)] [vb r12.has, vs r12.val] [vb r12.has, vs r12.val] rfl ko rfl sz135 rfl rfl rfl fun s8 ba kp => ?_
            have bp := bo.wr 0 rfl ba
            have hd := Gm.tq hc ba (hv_new ik (oge fg))
            refine L_nil ⟨hd, ?_⟩
            refine M_any1 9 (by kernel_rfl) rfl ?_
            have kq := (bo.bm (((ki.k0 dq).k0 c6).k0 a1) 1 0 rfl rfl rfl ba)
            refine L_stb fd 0 [vb false, vs ([] : Str)] [vb r13.has, vs r13.val] [vb r13.has, vs r13.val] rfl kq rfl sz135 rfl rfl rfl fun s9 bb kr => ?_
            have dl := bp.wr 1 rfl bb
            have ks := Gm.tq hd bb (hv_new f3 (oge bv))
            refine L_nil ⟨ks, ?_⟩
            refine M_nil (by kernel_rfl) ?_
            have te := dl.perm (.swap _ _ _)
            have ag := kv.stn a1
            have ak := bo.stw 0 rfl ba
            have cd := bp.stw 1 rfl bb
            have ef := dl.stp (.swap _ _ _)
            have cq := (((((g7.st bn).st ag).st ak).st cd).st ef)
            have cr := (((((g9.st bn).st ag).st ak).st cd).st ef)
            have cs := ((((ha.st ag).st ak).st cd).st ef)
            have ct := ((((hb.st ag).st ak).st cd).st ef)
            have cu := ((((((((gl.st ah).st bl).st ee).st bn).st ag).st ak).st cd).st ef)
            have cv := ((((((((gm.st ah).st bl).st ee).st bn).st ag).st ak).st cd).st ef)
            have cw := (dl.sp (bp.sw (bo.sw (((((f1.sn aj).so _ a5 (oge bv)).so _ dq (oge fg)).sn c6).sn a1) 6 0 rfl rfl rfl ba) 6 1 rfl rfl rfl bb) (.swap _ _ _))
            have cx := (dl.sp (bp.sw (bo.sw (((((fn.sn aj).so _ a5 (oge bv)).so _ dq (oge fg)).sn c6).sn a1) 2 0 rfl rfl rfl ba) 2 1 rfl rfl rfl bb) (.swap _ _ _))
            have cy := (dl.sp (bp.sw (bo.sw (((((fo.sn aj).so _ a5 (oge bv)).so _ dq (oge fg)).sn c6).sn a1) 3 0 rfl rfl rfl ba) 3 1 rfl rfl rfl bb) (.swap _ _ _))
            have cz := (dl.sp (bp.sw (bo.sw (((((fp.sn aj).so _ a5 (oge bv)).so _ dq (oge fg)).sn c6).sn a1) 5 0 rfl rfl rfl ba) 5 1 rfl rfl rfl bb) (.swap _ _ _))
            have c1 := ((((((((gn.st ah).st bl).st ee).st bn).st ag).st ak).st cd).st ef)
            have c3 := (((((((f5.st bl).st ee).st bn).st ag).st ak).st cd).st ef)
            have et := (((((((f6.st bl).st ee).st bn).st ag).st ak).st cd).st ef)
            have eu := (bp.bm (bo.bm (((((fq.k0 aj).k0 a5).k0 dq).k0 c6).k0 a1) 7 0 rfl rfl rfl ba) 7 1 rfl rfl rfl bb)
            have kh := (bp.bm (bo.bm (((((fr.k0 aj).k0 a5).k0 dq).k0 c6).k0 a1) 4 0 rfl rfl rfl ba) 4 1 rfl rfl rfl bb)
            have nl := (bp.bm kp 0 1 rfl rfl rfl bb)
            have tf := kr
            exact ⟨r12, r13, kt, fd, ⟨rfl, rfl, rfl, rfl, rfl, rfl, rfl, rfl, rfl, rfl, rfl, rfl, trivial⟩, te, cq, cr, cs, ct, cu, cv, cw, cx, cy, cz, c1, c3, et, eu, kh, nl, tf, td, kn, H⟩
         ·rintro ao4 dz ⟨r12, r13, ao, aq, ail, xd, tg, th, ti, tj, pt, pu, tk, tl, tn, tp, aim, tr, ts, tt, tu, ain, aio, pv, pw, H⟩
          obtain ⟨ao5, rfl⟩ := Has.ins ail
          refine W_seq ?_
          refine W_join (J := (fun t dt => ∃ (r15 : value) (r16 : Bool) (an : Nat), Has t [(3, .pointer (some ⟨a7, 0, none⟩)), (4, .pointer (some ⟨a6, 0, none⟩)), (5, .pointer (some ⟨bz, 0, none⟩)), (6, .pointer (some ⟨aa, 0, none⟩)), (8, .slice al fl fm), (9, .pointer (some ⟨ab, 0, none⟩)), (20, vs (nth r11 v4)), (21, .pointer (some ⟨ao, 0, none⟩)), (22, .pointer (some ⟨aq, 0, none⟩)), (23, .pointer (some ⟨an, 0, none⟩)), (24, vb r16), (142, .slice ad gi cp), (143, vi (r11.length : Int)), (144, vi v4)] ∧ Ct [] w0 dt [some an, some aq, some ao, bk ad, bk ac, some ab, bk af, bk al, some aa] O ∧ Sl kPt dt (Fr ([some an, some aq, some ao, bk ad, bk ac, some ab, bk af, bk al, some aa] ++ O)) (.slice bc bd be) a.Shape.Pts ∧ Sl kTag dt (Fr ([some an, some aq, some ao, bk ad, bk ac, some ab, bk af, bk al, some aa] ++ O)) (.slice bq br bs) a.Tags ∧ Sl kPt dt (Fr ([some an, some aq, some ao, bk ad, bk ac, some ab, bk af, bk al, some aa] ++ O)) (.slice ar au av) b.Shape.Pts ∧ Sl kTag dt (Fr ([some an, some aq, some ao, bk ad, bk ac, some ab, bk af, bk al, some aa] ++ O)) (.slice a2 a3 a4) b.Tags ∧ Sl kPt dt (Fr ([some an, some aq, some ao, bk ad, bk ac, some ab, bk af, bk al, some aa] ++ O)) (.slice A2 n3 c4) base_.Shape.Pts ∧ Sl kTag dt (Fr ([some an, some aq, some ao, bk ad, bk ac, some ab, bk af, bk al, some aa] ++ O)) (.slice A7 n8 c9) base_.Tags ∧ Ow Kd.str 9 dt ([some an, some aq, some ao, bk ad, bk ac, some ab, bk af, bk al, some aa] ++ O) (.slice al fl fm) xs6 ∧ Ow Kd.str 9 dt ([some an, some aq, some ao, bk ad, bk ac, some ab, bk af, bk al, some aa] ++ O) (.slice ad gi cp) r11 ∧ Ow kPt 29 dt ([some an, some aq, some ao, bk ad, bk ac, some ab, bk af, bk al, some aa] ++ O) (.slice ac ck cl) r9.Pts ∧ Ow kTag 133 dt ([some an, some aq, some ao, bk ad, bk ac, some ab, bk af, bk al, some aa] ++ O) (.slice af db dc) xs7 ∧ Fb dt ([some an, some aq, some ao, bk ad, bk ac, some ab, bk af, bk al, some aa] ++ O) a7 [vs base_.Id, vi base_.Shape.Kind, .slice A2 n3 c4, .slice A7 n8 c9] ∧ Fb dt ([some an, some aq, some ao, bk ad, bk ac, some ab, bk af, bk al, some aa] ++ O) a6 [vs a.Id, vi a.Shape.Kind, .slice bc bd be, .slice bq br bs] ∧ Fb dt ([some an, some aq, some ao, bk ad, bk ac, some ab, bk af, bk al, some aa] ++ O) bz [vs b.Id, vi b.Shape.Kind, .slice ar au av, .slice a2 a3 a4] ∧ Bx dt aa [vs ([] : Str), vi 0, .slice none 0 0, .slice none 0 0] ∧ Bx dt ab [vs a.Id, vi r9.Kind, .slice ac ck cl, .slice af db dc] ∧ Bx dt ao [vb r12.has, vs r12.val] ∧ Bx dt aq [vb r13.has, vs r13.val] ∧ Bx dt an [vb r15.has, vs r15.val] ∧ Lim r15.val ∧ (∃ (g3 : (List Str) → Bool → Str → Prop), ((if !r16 then (([116, 97, 103, 32] : Str).length + (nth r11 v4).length ≤ 9223372036854775807) ∧ (xs6.length + ([(([116, 97, 103, 32] : Str) ++ (nth r11 v4))] : List Str).length ≤ 268435456) ∧ (if !r12.has then g3 (xs6 ++ ([(([116, 97, 103, 32] : Str) ++ (nth r11 v4))] : List Str)) r13.has r13.val else g3 (xs6 ++ ([(([116, 97, 103, 32] : Str) ++ (nth r11 v4))] : List Str)) r12.has r12.val) else g3 xs6 r15.has r15.val)) ∧ ∀ (xs8 : List Str) (z3 : Bool) (z4 : Str), g3 xs8 z3 z4 → (∃ (ie : (List Tag) → Prop), ((if z3 then (xs7.length + ([(⟨(nth r11 v4), z4⟩ : Tag)] : List Tag).length ≤ 268435456) ∧ ie (xs7 ++ ([(⟨(nth r11 v4), z4⟩ : Tag)] : List Tag)) else ie xs7)) ∧ ∀ (xs9 : List Tag), ie xs9 → (I64 (v4 + 1)) ∧ rx xs8 (v4 + 1) xs9 ∧ my xs8 (v4 + 1) xs9 < my xs6 v4 xs7)))) ?_ ?_
          ·refine W_mixr 12 [] (by kernel_rfl) rfl fun aip da kx => ?_
           have ls := xd.k0 da
           have cg := xd.stn da
           have px := (aim.st cg)
           refine M_pu 0 rfl (by kernel_rfl) kx (P_ldar ag71 sz71 cR ⟨a7, 0, none⟩ [vs base_.Id, vi base_.Shape.Kind, .slice A2 n3 c4, .slice A7 n8 c9] rfl rfl (px.cells (off := 0) rfl) nm_nil) ?_
           refine M_pu 1 rfl (by kernel_rfl) kx (P_move (vs (nth r11 v4)) rfl) ?_
           have py := (ain.k0 da)
           refine M_pu 3 rfl (by kernel_rfl) kx (P_ldar ag135 sz135 cR ⟨ao, 0, none⟩ [vb r12.has, vs r12.val] rfl rfl (py.cells (off := 0) rfl) nm_nil) ?_
           have pz := (aio.k0 da)
           refine M_pu 4 rfl (by kernel_rfl) kx (P_ldar ag135 sz135 cR ⟨aq, 0, none⟩ [vb r13.has, vs r13.val] rfl rfl (pz.cells (off := 0) rfl) nm_nil) ?_
           refine M_any2 2 9 (by kernel_rfl) rfl rfl ?_ ?_
           ·refine L_call go99 [.agg #[vs base_.Id, vi base_.Shape.Kind, .slice A2 n3 c4, .slice A7 n8 c9], vs (nth r11 v4)] rfl ((impl_valueOf.calls aip ls.ok base_ A2 n3 c4 A7 n8 c9 hs1 (pt.st cg) (pu.st cg) (nth r11 v4) dy _ H).mono ?_)
            rintro _ p0 ⟨r14, rfl, H, du, xe⟩
            have nm := ls.k0 du
            have p1 := Gm.tm kx du
            refine L_nil ⟨p1, ?_⟩
            refine M_any2 5 9 (by kernel_rfl) rfl rfl ?_ ?_
            ·obtain ⟨f2, f2_ok, aiq, H⟩ := H
             have air : ∀ (w : World) (L : Ob), Ct [] p0 w L ([some aq, some ao, bk ad, bk ac, some ab, bk af, bk al, some aa] ++ O) → ∀ (x0_ : value) (xf : Lim x0_.val) (x1_ : value) (xg : Lim x1_.val), f2_ok x0_ x1_ → Ret Try.prog 101 ([.agg #[vb x0_.has, vs x0_.val], .agg #[vb x1_.has, vs x1_.val]] ++ []) w (fun v w' => v = vb (f2 x0_ x1_) ∧ Gr w w' none) := by
              intro w L c x0_ xf x1_ xg hok
              refine (impl_FeatJoin_1.calls w c.ok x0_ xf x1_ xg  _ (aiq x0_ x1_ hok)).mono ?_
              rintro _ w2 ⟨r, rfl, rfl, g2⟩
              exact ⟨rfl, g2⟩
             refine L_call go100 [.agg #[vb r14.has, vs r14.val], .agg #[vb r12.has, vs r12.val], .agg #[vb r13.has, vs r13.val], .func (.func 101) #[] #[]] rfl ((impl_ofThree_value.calls p0 nm.ok r14 xe r12 pv r13 pw 101 [] f2 f2_ok go101 air _ H).mono ?_)
             rintro _ ao6 ⟨r15, r16, rfl, H, he, ais⟩
             have xh := nm.k0 he
             have lt := Gm.tm p1 he
             refine L_nil ⟨lt, ?_⟩
             refine M_pu 6 rfl (by kernel_rfl) lt (P_move (.tuple #[.agg #[vb r15.has, vs r15.val], vb r16]) rfl) ?_
             refine M_pu 7 rfl (by kernel_rfl) lt (P_ext [.agg #[vb r15.has, vs r15.val], vb r16] 0 (.agg #[vb r15.has, vs r15.val]) rfl rfl) ?_
             refine M_pu 8 rfl (by kernel_rfl) lt (P_ext [.agg #[vb r15.has, vs r15.val], vb r16] 1 (vb r16) rfl rfl) ?_
             refine M_any1 9 (by kernel_rfl) rfl ?_
             refine L_alloc [vb false, vs []] ze135 fun ao7 tv ky hu3058 cm ait => ?_
             have dr := xh.own cm (some tv) (oglt ky hu3058)
             have jd := Gm.tm lt cm
             refine L_nil ⟨jd, ?_⟩
             refine M_any1 10 (by kernel_rfl) rfl ?_
             refine L_stb tv 0 [vb false, vs ([] : Str)] [vb r15.has, vs r15.val] [vb r15.has, vs r15.val] rfl ait rfl sz135 rfl rfl rfl fun aiu c7 tw => ?_
             have aiv := dr.wr 0 rfl c7
             have xi := Gm.tq jd c7 (hv_new lt (oge ky))
             refine L_nil ⟨xi, ?_⟩
             refine M_pu 11 rfl (by kernel_rfl) xi (P_assign (vb r16) rfl) ?_
             refine M_nil (by kernel_rfl) ?_
             have io := ls.stn du
             have eg := nm.stn he
             have eh := xh.stown _ cm (oge ky)
             have ei := dr.stw 0 rfl c7
             have aiw := (((((tg.st cg).st io).st eg).st eh).st ei)
             have tx := (((((th.st cg).st io).st eg).st eh).st ei)
             have ty := (((((ti.st cg).st io).st eg).st eh).st ei)
             have nn := (((((tj.st cg).st io).st eg).st eh).st ei)
             have no := (((((pt.st cg).st io).st eg).st eh).st ei)
             have np := (((((pu.st cg).st io).st eg).st eh).st ei)
             have nq := (dr.sw ((((tk.sn da).sn du).sn he).so _ cm (oge ky)) 7 0 rfl rfl rfl c7)
             have nr := (dr.sw ((((tl.sn da).sn du).sn he).so _ cm (oge ky)) 3 0 rfl rfl rfl c7)
             have ns := (dr.sw ((((tn.sn da).sn du).sn he).so _ cm (oge ky)) 4 0 rfl rfl rfl c7)
             have nt := (dr.sw ((((tp.sn da).sn du).sn he).so _ cm (oge ky)) 6 0 rfl rfl rfl c7)
             have nu := ((((px.st io).st eg).st eh).st ei)
             have nv := (((((tr.st cg).st io).st eg).st eh).st ei)
             have nw := (((((ts.st cg).st io).st eg).st eh).st ei)
             have nx := (dr.bm ((((tt.k0 da).k0 du).k0 he).k0 cm) 8 0 rfl rfl rfl c7)
             have ny := (dr.bm ((((tu.k0 da).k0 du).k0 he).k0 cm) 5 0 rfl rfl rfl c7)
             have nz := (dr.bm (((py.k0 du).k0 he).k0 cm) 2 0 rfl rfl rfl c7)
             have n1 := (dr.bm (((pz.k0 du).k0 he).k0 cm) 1 0 rfl rfl rfl c7)
             exact ⟨r15, r16, tv, ⟨rfl, rfl, rfl, rfl, rfl, rfl, rfl, rfl, rfl, rfl, rfl, rfl, rfl, rfl, trivial⟩, aiv, aiw, tx, ty, nn, no, np, nq, nr, ns, nt, nu, nv, nw, nx, ny, nz, n1, tw, ais, H⟩
            ·refine L_alloc [vb false, vs []] ze135 fun xj p2 kz hu3048 hf aix => ?_
             have tz := nm.own hf (some p2) (oglt kz hu3048)
             have xk := Gm.tm p1 hf
             refine L_nil ⟨xk, ?_⟩
             refine M_any1 5 (by kernel_rfl) rfl ?_
             obtain ⟨f2, f2_ok, aiy, H⟩ := H
             have aiz : ∀ (w : World) (L : Ob), Ct [] xj w L ([some p2, some aq, some ao, bk ad, bk ac, some ab, bk af, bk al, some aa] ++ O) → ∀ (x0_ : value) (xl : Lim x0_.val) (x1_ : value) (xm : Lim x1_.val), f2_ok x0_ x1_ → Ret Try.prog 101 ([.agg #[vb x0_.has, vs x0_.val], .agg #[vb x1_.has, vs x1_.val]] ++ []) w (fun v w' => v = vb (f2 x0_ x1_) ∧ Gr w w' none) := by
              intro w L c x0_ xl x1_ xm hok
              refine (impl_FeatJoin_1.calls w c.ok x0_ xl x1_ xm  _ (aiy x0_ x1_ hok)).mono ?_
              rintro _ w2 ⟨r, rfl, rfl, g2⟩
              exact ⟨rfl, g2⟩
             refine L_call go100 [.agg #[vb r14.has, vs r14.val], .agg #[vb r12.has, vs r12.val], .agg #[vb r13.has, vs r13.val], .func (.func 101) #[] #[]] rfl ((impl_ofThree_value.calls xj tz.ok r14 xe r12 pv r13 pw 101 [] f2 f2_ok go101 aiz _ H).mono ?_)
             rintro _ ao8 ⟨r15, r16, rfl, H, cm, p3⟩
             have dr := tz.k0 cm
             have jd := Gm.tm xk cm
             refine L_nil ⟨jd, ?_⟩
             refine M_pu 6 rfl (by kernel_rfl) jd (P_move (.tuple #[.agg #[vb r15.has, vs r15.val], vb r16]) rfl) ?_
             refine M_pu 7 rfl (by kernel_rfl) jd (P_ext [.agg #[vb r15.has, vs r15.val], vb r16] 0 (.agg #[vb r15.has, vs r15.val]) rfl rfl) ?_
             refine M_pu 8 rfl (by kernel_rfl) jd (P_ext [.agg #[vb r15.has, vs r15.val], vb r16] 1 (vb r16) rfl rfl) ?_
             refine M_any1 10 (by kernel_rfl) rfl ?_
             have ai0 := (aix.k0 cm)
             refine L_stb p2 0 [vb false, vs ([] : Str)] [vb r15.has, vs r15.val] [vb r15.has, vs r15.val] rfl ai0 rfl sz135 rfl rfl rfl fun aiu c7 tw => ?_
             have ai1 := dr.wr 0 rfl c7
             have xn := Gm.tq jd c7 (hv_new p1 (oge kz))
             refine L_nil ⟨xn, ?_⟩
             refine M_pu 11 rfl (by kernel_rfl) xn (P_assign (vb r16) rfl) ?_
             refine M_nil (by kernel_rfl) ?_
             have eg := ls.stn du
             have eh := nm.stown _ hf (oge kz)
             have ei := tz.stn cm
             have ej := dr.stw 0 rfl c7
             have tx := (((((tg.st cg).st eg).st eh).st ei).st ej)
             have ty := (((((th.st cg).st eg).st eh).st ei).st ej)
             have nn := (((((ti.st cg).st eg).st eh).st ei).st ej)
             have no := (((((tj.st cg).st eg).st eh).st ei).st ej)
             have np := (((((pt.st cg).st eg).st eh).st ei).st ej)
             have nq := (((((pu.st cg).st eg).st eh).st ei).st ej)
             have nr := (dr.sw ((((tk.sn da).sn du).so _ hf (oge kz)).sn cm) 7 0 rfl rfl rfl c7)
             have ns := (dr.sw ((((tl.sn da).sn du).so _ hf (oge kz)).sn cm) 3 0 rfl rfl rfl c7)
             have nt := (dr.sw ((((tn.sn da).sn du).so _ hf (oge kz)).sn cm) 4 0 rfl rfl rfl c7)
             have nu := (dr.sw ((((tp.sn da).sn du).so _ hf (oge kz)).sn cm) 6 0 rfl rfl rfl c7)
             have nv := ((((px.st eg).st eh).st ei).st ej)
             have nw := (((((tr.st cg).st eg).st eh).st ei).st ej)
             have nx := (((((ts.st cg).st eg).st eh).st ei).st ej)
             have ny := (dr.bm ((((tt.k0 da).k0 du).k0 hf).k0 cm) 8 0 rfl rfl rfl c7)
             have nz := (dr.bm ((((tu.k0 da).k0 du).k0 hf).k0 cm) 5 0 rfl rfl rfl c7)
             have n1 := (dr.bm (((py.k0 du).k0 hf).k0 cm) 2 0 rfl rfl rfl c7)
             have t0 := (dr.bm (((pz.k0 du).k0 hf).k0 cm) 1 0 rfl rfl rfl c7)
             exact ⟨r15, r16, p2, ⟨rfl, rfl, rfl, rfl, rfl, rfl, rfl, rfl, rfl, rfl, rfl, rfl, rfl, rfl, trivial⟩, ai1, tx, ty, nn, no, np, nq, nr, ns, nt, nu, nv, nw, nx, ny, nz, n1, t0, tw, p3, H⟩
           ·refine L_alloc [vb false, vs []] ze135 fun p0 p4 k1 hu3040 hg ai2 => ?_
            have t1 := ls.own hg (some p4) (oglt k1 hu3040)
            have xo := Gm.tm kx hg
            refine L_nil ⟨xo, ?_⟩
            refine M_any1 2 (by kernel_rfl) rfl ?_
            have ip := ls.stown _ hg (oge k1)
            have xp := ((pt.st cg).st ip)
            have xq := ((pu.st cg).st ip)
            refine L_call go99 [.agg #[vs base_.Id, vi base_.Shape.Kind, .slice A2 n3 c4, .slice A7 n8 c9], vs (nth r11 v4)] rfl ((impl_valueOf.calls p0 t1.ok base_ A2 n3 c4 A7 n8 c9 hs1 xp xq (nth r11 v4) dy _ H).mono ?_)
            rintro _ xr ⟨r14, rfl, H, gp, ai3⟩
            have t2 := t1.k0 gp
            have xt := Gm.tm xo gp
            refine L_nil ⟨xt, ?_⟩
            refine M_any1 5 (by kernel_rfl) rfl ?_
            obtain ⟨f2, f2_ok, ai4, H⟩ := H
            have ai5 : ∀ (w : World) (L : Ob), Ct [] xr w L ([some p4, some aq, some ao, bk ad, bk ac, some ab, bk af, bk al, some aa] ++ O) → ∀ (x0_ : value) (p3 : Lim x0_.val) (x1_ : value) (xu : Lim x1_.val), f2_ok x0_ x1_ → Ret Try.prog 101 ([.agg #[vb x0_.has, vs x0_.val], .agg #[vb x1_.has, vs x1_.val]] ++ []) w (fun v w' => v = vb (f2 x0_ x1_) ∧ Gr w w' none) := by
             intro w L c x0_ p3 x1_ xu hok
             refine (impl_FeatJoin_1.calls w c.ok x0_ p3 x1_ xu  _ (ai4 x0_ x1_ hok)).mono ?_
             rintro _ w2 ⟨r, rfl, rfl, g2⟩
             exact ⟨rfl, g2⟩
            refine L_call go100 [.agg #[vb r14.has, vs r14.val], .agg #[vb r12.has, vs r12.val], .agg #[vb r13.has, vs r13.val], .func (.func 101) #[] #[]] rfl ((impl_ofThree_value.calls xr t2.ok r14 ai3 r12 pv r13 pw 101 [] f2 f2_ok go101 ai5 _ H).mono ?_)
            rintro _ ao9 ⟨r15, r16, rfl, H, gq, ai6⟩
            have hr := t2.k0 gq
            have n5 := Gm.tm xt gq
            refine L_nil ⟨n5, ?_⟩
            refine M_pu 6 rfl (by kernel_rfl) n5 (P_move (.tuple #[.agg #[vb r15.has, vs r15.val], vb r16]) rfl) ?_
            refine M_pu 7 rfl (by kernel_rfl) n5 (P_ext [.agg #[vb r15.has, vs r15.val], vb r16] 0 (.agg #[vb r15.has, vs r15.val]) rfl rfl) ?_
            refine M_pu 8 rfl (by kernel_rfl) n5 (P_ext [.agg #[vb r15.has, vs r15.val], vb r16] 1 (vb r16) rfl rfl) ?_
            refine M_any1 10 (by kernel_rfl) rfl ?_
            have ai7 := ((ai2.k0 gp).k0 gq)
            refine L_stb p4 0 [vb false, vs ([] : Str)] [vb r15.has, vs r15.val] [vb r15.has, vs r15.val] rfl ai7 rfl sz135 rfl rfl rfl fun apa hh ai8 => ?_
            have ai9 := hr.wr 0 rfl hh
            have xv := Gm.tq n5 hh (hv_new kx (oge k1))
            refine L_nil ⟨xv, ?_⟩
            refine M_pu 11 rfl (by kernel_rfl) xv (P_assign (vb r16) rfl) ?_
            refine M_nil (by kernel_rfl) ?_
            have ej := t1.stn gp
            have iq := t2.stn gq
            have ir := hr.stw 0 rfl hh
            have nn := (((((tg.st cg).st ip).st ej).st iq).st ir)
            have no := (((((th.st cg).st ip).st ej).st iq).st ir)
            have np := (((((ti.st cg).st ip).st ej).st iq).st ir)
            have nq := (((((tj.st cg).st ip).st ej).st iq).st ir)
            have nr := (((xp.st ej).st iq).st ir)
            have ns := (((xq.st ej).st iq).st ir)
            have nt := (hr.sw ((((tk.sn da).so _ hg (oge k1)).sn gp).sn gq) 7 0 rfl rfl rfl hh)
            have nu := (hr.sw ((((tl.sn da).so _ hg (oge k1)).sn gp).sn gq) 3 0 rfl rfl rfl hh)
            have nv := (hr.sw ((((tn.sn da).so _ hg (oge k1)).sn gp).sn gq) 4 0 rfl rfl rfl hh)
            have nw := (hr.sw ((((tp.sn da).so _ hg (oge k1)).sn gp).sn gq) 6 0 rfl rfl rfl hh)
            have nx := ((((px.st ip).st ej).st iq).st ir)
            have ny := (((((tr.st cg).st ip).st ej).st iq).st ir)
            have nz := (((((ts.st cg).st ip).st ej).st iq).st ir)
            have n1 := (hr.bm ((((tt.k0 da).k0 hg).k0 gp).k0 gq) 8 0 rfl rfl rfl hh)
            have t0 := (hr.bm ((((tu.k0 da).k0 hg).k0 gp).k0 gq) 5 0 rfl rfl rfl hh)
            have aja := (hr.bm (((py.k0 hg).k0 gp).k0 gq) 2 0 rfl rfl rfl hh)
            have ajb := (hr.bm (((pz.k0 hg).k0 gp).k0 gq) 1 0 rfl rfl rfl hh)
            exact ⟨r15, r16, p4, ⟨rfl, rfl, rfl, rfl, rfl, rfl, rfl, rfl, rfl, rfl, rfl, rfl, rfl, rfl, trivial⟩, ai9, nn, no, np, nq, nr, ns, nt, nu, nv, nw, nx, ny, nz, n1, t0, aja, ajb, ai8, ai6, H⟩
          ·rintro apb dt ⟨r15, r16, an, ajc, it, t3, t4, t5, t6, t7, t8, xw, t9, ua, ub, uc, ud, ue, uf, ug, ajd, aje, xx, ajf, H⟩
           obtain ⟨apc, rfl⟩ := Has.ins ajc
           refine W_seq ?_
           refine W_seq ?_
           refine W_reg ?_
           refine L_pu (P_move (vb r16) rfl) ?_
           refine L_pu (P_not r16 rfl) ?_
           refine L_nil ?_
           obtain ⟨g3, H, ajg⟩ := H
           refine W_join (J := (fun t ek => ∃ (xs8 : List Str) (bx : Option Addr) (lu : Nat) (lv : Nat) (z3 : Bool) (z4 : Str), g3 xs8 z3 z4 ∧ Has t [(3, .pointer (some ⟨a7, 0, none⟩)), (4, .pointer (some ⟨a6, 0, none⟩)), (5, .pointer (some ⟨bz, 0, none⟩)), (6, .pointer (some ⟨aa, 0, none⟩)), (8, .slice bx lu lv), (9, .pointer (some ⟨ab, 0, none⟩)), (20, vs (nth r11 v4)), (23, .pointer (some ⟨an, 0, none⟩)), (142, .slice ad gi cp), (143, vi (r11.length : Int)), (144, vi v4)] ∧ Ct [] w0 ek [some an, bk ad, bk ac, some ab, bk af, bk bx, some aa] O ∧ Lim z4 ∧ Sl kPt ek (Fr ([some an, bk ad, bk ac, some ab, bk af, bk bx, some aa] ++ O)) (.slice bc bd be) a.Shape.Pts ∧ Sl kTag ek (Fr ([some an, bk ad, bk ac, some ab, bk af, bk bx, some aa] ++ O)) (.slice bq br bs) a.Tags ∧ Sl kPt ek (Fr ([some an, bk ad, bk ac, some ab, bk af, bk bx, some aa] ++ O)) (.slice ar au av) b.Shape.Pts ∧ Sl kTag ek (Fr ([some an, bk ad, bk ac, some ab, bk af, bk bx, some aa] ++ O)) (.slice a2 a3 a4) b.Tags ∧ Sl kPt ek (Fr ([some an, bk ad, bk ac, some ab, bk af, bk bx, some aa] ++ O)) (.slice A2 n3 c4) base_.Shape.Pts ∧ Sl kTag ek (Fr ([some an, bk ad, bk ac, some ab, bk af, bk bx, some aa] ++ O)) (.slice A7 n8 c9) base_.Tags ∧ Ow Kd.str 9 ek ([some an, bk ad, bk ac, some ab, bk af, bk bx, some aa] ++ O) (.slice bx lu lv) xs8 ∧ Ow Kd.str 9 ek ([some an, bk ad, bk ac, some ab, bk af, bk bx, some aa] ++ O) (.slice ad gi cp) r11 ∧ Ow kPt 29 ek ([some an, bk ad, bk ac, some ab, bk af, bk bx, some aa] ++ O) (.slice ac ck cl) r9.Pts ∧ Ow kTag 133 ek ([some an, bk ad, bk ac, some ab, bk af, bk bx, some aa] ++ O) (.slice af db dc) xs7 ∧ Fb ek ([some an, bk ad, bk ac, some ab, bk af, bk bx, some aa] ++ O) a7 [vs base_.Id, vi base_.Shape.Kind, .slice A2 n3 c4, .slice A7 n8 c9] ∧ Fb ek ([some an, bk ad, bk ac, some ab, bk af, bk bx, some aa] ++ O) a6 [vs a.Id, vi a.Shape.Kind, .slice bc bd be, .slice bq br bs] ∧ Fb ek ([some an, bk ad, bk ac, some ab, bk af, bk bx, some aa] ++ O) bz [vs b.Id, vi b.Shape.Kind, .slice ar au av, .slice a2 a3 a4] ∧ Bx ek aa [vs ([] : Str), vi 0, .slice none 0 0, .slice none 0 0] ∧ Bx ek ab [vs a.Id, vi r9.Kind, .slice ac ck cl, .slice af db dc] ∧ Bx ek an [vb z3, vs z4])) ?_ ?_
           ·refine W_cond (!r16) rfl (fun uh => ?_) (fun uh => ?_)
            ·have H := ite_t H uh
             refine W_seq ?_
             refine W_reg ?_
             refine L_pu (P_move (.slice al fl fm) rfl) ?_
             refine L_pu (P_move (vs (nth r11 v4)) rfl) ?_
             obtain ⟨xy, H⟩ := H
             refine L_pu (P_cat ([116, 97, 103, 32] : Str) (nth r11 v4) rfl rfl xy) ?_
             refine L_lit (kd := Kd.str) ei72 it ([(([116, 97, 103, 32] : Str) ++ (nth r11 v4))] : List Str) (cells := [vs (([116, 97, 103, 32] : Str) ++ (nth r11 v4))]) ⟨[vs (([116, 97, 103, 32] : Str) ++ (nth r11 v4))], _, rfl, ⟨rfl, (lim_cat xy)⟩, rfl⟩ (fun _ => by kernel_rfl) fun apd ga ajh aji e6 hr5100 fs ajj => ?_
             obtain ⟨ajk, H⟩ := H
             have ajl := (xw.so _ e6 hr5100)
             refine L_app ei72 fs (.slice al fl fm) xs6 ([(([116, 97, 103, 32] : Str) ++ (nth r11 v4))] : List Str) rfl ajl (.slice ga ajh aji) rfl ajj.sx 8 rfl ajk fun ape fh ui uj gb cn ew xz => ?_
             refine L_pu (P_assign (.slice fh ui uj) rfl) ?_
             refine L_nil ?_
             refine W_seq ?_
             refine W_reg ?_
             have x0 := (fs.bm (ajd.k0 e6) 3 8 rfl rfl rfl gb)
             refine L_pu (P_lda ag135 sz135 cL ⟨ao, 0, none⟩ [vb r12.has, vs r12.val] rfl rfl (x0.cells (off := 0) rfl)) ?_
             have ajm := (fs.bm (xx.k0 e6) 1 8 rfl rfl rfl gb)
             refine L_stb an 0 [vb r15.has, vs r15.val] [vb r12.has, vs r12.val] [vb r12.has, vs r12.val] rfl ajm rfl sz135 rfl rfl rfl fun apf ex x1 => ?_
             have iu := ew.wr 1 rfl ex
             refine L_nil ?_
             refine W_seq ?_
             refine W_reg ?_
             refine L_pu (P_fa fa135_0 ⟨ao, 0, none⟩ ⟨ao, 0, none⟩ rfl rfl) ?_
             have ajn := (ew.bm x0 3 1 rfl rfl rfl ex)
             refine L_pu (P_ld ag4 cL ⟨ao, 0, none⟩ (vb r12.has) rfl (ajn.cell rfl)) ?_
             refine L_pu (P_not r12.has rfl) ?_
             refine L_nil ?_
             refine W_cond (!r12.has) rfl (fun uk => ?_) (fun uk => ?_)
             ·have H := ite_t H uk
              refine W_reg ?_
              have ajo := (ew.bm (fs.bm (aje.k0 e6) 2 8 rfl rfl rfl gb) 2 1 rfl rfl rfl ex)
              refine L_pu (P_lda ag135 sz135 cL ⟨aq, 0, none⟩ [vb r13.has, vs r13.val] rfl rfl (ajo.cells (off := 0) rfl)) ?_
              refine L_stb an 0 [vb r12.has, vs r12.val] [vb r13.has, vs r13.val] [vb r13.has, vs r13.val] rfl x1 rfl sz135 rfl rfl rfl fun apg je ajp => ?_
              have ajq := iu.wr 1 rfl je
              refine L_nil ?_
              have ft : ([bk ga, some an, some aq, some ao, bk ad, bk ac, some ab, bk af, bk fh, some aa] : Ob).Perm ((bk ga :: some aq :: some ao :: []) ++ [some an, bk ad, bk ac, some ab, bk af, bk fh, some aa]) := (by rw [List.perm_iff_count]; intro a; (try simp only [List.count_append, List.count_cons, List.count_nil, Nat.add_zero, Nat.zero_add]); first | done | ac_rfl)
              have ajr := ajq.drops ft
              have iv := it.stown _ e6 hr5100
              have iw := ew.stw 1 rfl ex
              have ix := iu.stw 1 rfl je
              have ajs := (((((t3.st iv).st cn).st iw).st ix).st (St.drops _ O ft))
              have ajt := (((((t4.st iv).st cn).st iw).st ix).st (St.drops _ O ft))
              have aju := (((((t5.st iv).st cn).st iw).st ix).st (St.drops _ O ft))
              have ajv := (((((t6.st iv).st cn).st iw).st ix).st (St.drops _ O ft))
              have ajw := (((((t7.st iv).st cn).st iw).st ix).st (St.drops _ O ft))
              have ajx := (((((t8.st iv).st cn).st iw).st ix).st (St.drops _ O ft))
              have ajy := (Ow.drops (L := [bk ga, some an, some aq, some ao, bk ad, bk ac, some ab, bk af, bk fh, some aa]) (O := O) (iu.sw (ew.sw xz 8 1 rfl rfl rfl ex) 8 1 rfl rfl rfl je) ft (memi 5 rfl))
              have ajz := (Ow.drops (L := [bk ga, some an, some aq, some ao, bk ad, bk ac, some ab, bk af, bk fh, some aa]) (O := O) (iu.sw (ew.sw (fs.sm (t9.so _ e6 hr5100) 4 8 rfl rfl rfl gb cn) 4 1 rfl rfl rfl ex) 4 1 rfl rfl rfl je) ft (memi 1 rfl))
              have aj0 := (Ow.drops (L := [bk ga, some an, some aq, some ao, bk ad, bk ac, some ab, bk af, bk fh, some aa]) (O := O) (iu.sw (ew.sw (fs.sm (ua.so _ e6 hr5100) 5 8 rfl rfl rfl gb cn) 5 1 rfl rfl rfl ex) 5 1 rfl rfl rfl je) ft (memi 2 rfl))
              have aj1 := (Ow.drops (L := [bk ga, some an, some aq, some ao, bk ad, bk ac, some ab, bk af, bk fh, some aa]) (O := O) (iu.sw (ew.sw (fs.sm (ub.so _ e6 hr5100) 7 8 rfl rfl rfl gb cn) 7 1 rfl rfl rfl ex) 7 1 rfl rfl rfl je) ft (memi 4 rfl))
              have aj2 := (((((uc.st iv).st cn).st iw).st ix).st (St.drops _ O ft))
              have aj3 := (((((ud.st iv).st cn).st iw).st ix).st (St.drops _ O ft))
              have aj4 := (((((ue.st iv).st cn).st iw).st ix).st (St.drops _ O ft))
              have aj5 := (iu.bm (ew.bm (fs.bm (uf.k0 e6) 9 8 rfl rfl rfl gb) 9 1 rfl rfl rfl ex) 9 1 rfl rfl rfl je)
              have aj6 := (iu.bm (ew.bm (fs.bm (ug.k0 e6) 6 8 rfl rfl rfl gb) 6 1 rfl rfl rfl ex) 6 1 rfl rfl rfl je)
              have aj7 := ajp
              exact ⟨(xs6 ++ ([(([116, 97, 103, 32] : Str) ++ (nth r11 v4))] : List Str)), fh, ui, uj, r13.has, r13.val, H, ⟨rfl, rfl, rfl, rfl, rfl, rfl, rfl, rfl, rfl, rfl, rfl, trivial⟩, ajr, pw, ajs, ajt, aju, ajv, ajw, ajx, ajy, ajz, aj0, aj1, aj2, aj3, aj4, aj5, aj6, aj7⟩
             ·have H := ite_f H uk
              refine W_skip ?_
              have fu : ([bk ga, some an, some aq, some ao, bk ad, bk ac, some ab, bk af, bk fh, some aa] : Ob).Perm ((bk ga :: some aq :: some ao :: []) ++ [some an, bk ad, bk ac, some ab, bk af, bk fh, some aa]) := (by rw [List.perm_iff_count]; intro a; (try simp only [List.count_append, List.count_cons, List.count_nil, Nat.add_zero, Nat.zero_add]); first | done | ac_rfl)
              have aj8 := iu.drops fu
              have iy := it.stown _ e6 hr5100
              have iz := ew.stw 1 rfl ex
              have aj9 := ((((t3.st iy).st cn).st iz).st (St.drops _ O fu))
              have aka := ((((t4.st iy).st cn).st iz).st (St.drops _ O fu))
              have akb := ((((t5.st iy).st cn).st iz).st (St.drops _ O fu))
              have akc := ((((t6.st iy).st cn).st iz).st (St.drops _ O fu))
              have akd := ((((t7.st iy).st cn).st iz).st (St.drops _ O fu))
              have ake := ((((t8.st iy).st cn).st iz).st (St.drops _ O fu))
              have akf := (Ow.drops (L := [bk ga, some an, some aq, some ao, bk ad, bk ac, some ab, bk af, bk fh, some aa]) (O := O) (ew.sw xz 8 1 rfl rfl rfl ex) fu (memi 5 rfl))
              have akg := (Ow.drops (L := [bk ga, some an, some aq, some ao, bk ad, bk ac, some ab, bk af, bk fh, some aa]) (O := O) (ew.sw (fs.sm (t9.so _ e6 hr5100) 4 8 rfl rfl rfl gb cn) 4 1 rfl rfl rfl ex) fu (memi 1 rfl))
              have akh := (Ow.drops (L := [bk ga, some an, some aq, some ao, bk ad, bk ac, some ab, bk af, bk fh, some aa]) (O := O) (ew.sw (fs.sm (ua.so _ e6 hr5100) 5 8 rfl rfl rfl gb cn) 5 1 rfl rfl rfl ex) fu (memi 2 rfl))
              have aki := (Ow.drops (L := [bk ga, some an, some aq, some ao, bk ad, bk ac, some ab, bk af, bk fh, some aa]) (O := O) (ew.sw (fs.sm (ub.so _ e6 hr5100) 7 8 rfl rfl rfl gb cn) 7 1 rfl rfl rfl ex) fu (memi 4 rfl))
              have akj := ((((uc.st iy).st cn).st iz).st (St.drops _ O fu))
              have akk := ((((ud.st iy).st cn).st iz).st (St.drops _ O fu))
              have akl := ((((ue.st iy).st cn).st iz).st (St.drops _ O fu))
              have akm := (ew.bm (fs.bm (uf.k0 e6) 9 8 rfl rfl rfl gb) 9 1 rfl rfl rfl ex)
              have akn := (ew.bm (fs.bm (ug.k0 e6) 6 8 rfl rfl rfl gb) 6 1 rfl rfl rfl ex)
              have ako := x1
              exact ⟨(xs6 ++ ([(([116, 97, 103, 32] : Str) ++ (nth r11 v4))] : List Str)), fh, ui, uj, r12.has, r12.val, H, ⟨rfl, rfl, rfl, rfl, rfl, rfl, rfl, rfl, rfl, rfl, rfl, trivial⟩, aj8, pv, aj9, aka, akb, akc, akd, ake, akf, akg, akh, aki, akj, akk, akl, akm, akn, ako⟩
            ·have H := ite_f H uh
             refine W_skip ?_
             have lw := it.drop 1 rfl
             have akp := lw.drop 1 rfl
             have i0 := it.std 1 rfl
             have i1 := lw.std 1 rfl
             have akq := ((t3.st i0).st i1)
             have akr := ((t4.st i0).st i1)
             have aks := ((t5.st i0).st i1)
             have akt := ((t6.st i0).st i1)
             have aku := ((t7.st i0).st i1)
             have akv := ((t8.st i0).st i1)
             have akw := (lw.sd (it.sd xw 7 1 rfl rfl rfl) 6 1 rfl rfl rfl)
             have akx := (lw.sd (it.sd t9 3 1 rfl rfl rfl) 2 1 rfl rfl rfl)
             have aky := (lw.sd (it.sd ua 4 1 rfl rfl rfl) 3 1 rfl rfl rfl)
             have akz := (lw.sd (it.sd ub 6 1 rfl rfl rfl) 5 1 rfl rfl rfl)
             have ak0 := ((uc.st i0).st i1)
             have ak1 := ((ud.st i0).st i1)
             have ak2 := ((ue.st i0).st i1)
             have ak3 := uf
             have ak4 := ug
             have ak5 := xx
             exact ⟨xs6, al, fl, fm, r15.has, r15.val, H, ⟨rfl, rfl, rfl, rfl, rfl, rfl, rfl, rfl, rfl, rfl, rfl, trivial⟩, akp, ajf, akq, akr, aks, akt, aku, akv, akw, akx, aky, akz, ak0, ak1, ak2, ak3, ak4, ak5⟩
           ·rintro aph ek ⟨xs8, bx, lu, lv, z3, z4, ak6, ak7, jf, ak8, x2, x3, x4, x5, x6, x7, x8, x9, ya, yb, yc, yd, ye, yf, ul, yg⟩
            obtain ⟨api, rfl⟩ := Has.ins ak7
            have H := ajg xs8 z3 z4 ak6
            refine W_seq ?_
            refine W_reg ?_
            refine L_pu (P_fa fa135_0 ⟨an, 0, none⟩ ⟨an, 0, none⟩ rfl rfl) ?_
            refine L_pu (P_ld ag4 cL ⟨an, 0, none⟩ (vb z3) rfl (yg.cell rfl)) ?_
            refine L_nil ?_
            obtain ⟨ie, H, ak9⟩ := H
            refine W_join (J := (fun t ey => ∃ (xs9 : List Tag) (en : Option Addr) (p5 : Nat) (p6 : Nat), ie xs9 ∧ Has t [(3, .pointer (some ⟨a7, 0, none⟩)), (4, .pointer (some ⟨a6, 0, none⟩)), (5, .pointer (some ⟨bz, 0, none⟩)), (6, .pointer (some ⟨aa, 0, none⟩)), (8, .slice bx lu lv), (9, .pointer (some ⟨ab, 0, none⟩)), (142, .slice ad gi cp), (143, vi (r11.length : Int)), (144, vi v4)] ∧ Ct [] w0 ey [bk ad, bk ac, some ab, bk en, bk bx, some aa] O ∧ Sl kPt ey (Fr ([bk ad, bk ac, some ab, bk en, bk bx, some aa] ++ O)) (.slice bc bd be) a.Shape.Pts ∧ Sl kTag ey (Fr ([bk ad, bk ac, some ab, bk en, bk bx, some aa] ++ O)) (.slice bq br bs) a.Tags ∧ Sl kPt ey (Fr ([bk ad, bk ac, some ab, bk en, bk bx, some aa] ++ O)) (.slice ar au av) b.Shape.Pts ∧ Sl kTag ey (Fr ([bk ad, bk ac, some ab, bk en, bk bx, some aa] ++ O)) (.slice a2 a3 a4) b.Tags ∧ Sl kPt ey (Fr ([bk ad, bk ac, some ab, bk en, bk bx, some aa] ++ O)) (.slice A2 n3 c4) base_.Shape.Pts ∧ Sl kTag ey (Fr ([bk ad, bk ac, some ab, bk en, bk bx, some aa] ++ O)) (.slice A7 n8 c9) base_.Tags ∧ Ow Kd.str 9 ey ([bk ad, bk ac, some ab, bk en, bk bx, some aa] ++ O) (.slice bx lu lv) xs8 ∧ Ow Kd.str 9 ey ([bk ad, bk ac, some ab, bk en, bk bx, some aa] ++ O) (.slice ad gi cp) r11 ∧ Ow kPt 29 ey ([bk ad, bk ac, some ab, bk en, bk bx, some aa] ++ O) (.slice ac ck cl) r9.Pts ∧ Ow kTag 133 ey ([bk ad, bk ac, some ab, bk en, bk bx, some aa] ++ O) (.slice en p5 p6) xs9 ∧ Fb ey ([bk ad, bk ac, some ab, bk en, bk bx, some aa] ++ O) a7 [vs base_.Id, vi base_.Shape.Kind, .slice A2 n3 c4, .slice A7 n8 c9] ∧ Fb ey ([bk ad, bk ac, some ab, bk en, bk bx, some aa] ++ O) a6 [vs a.Id, vi a.Shape.Kind, .slice bc bd be, .slice bq br bs] ∧ Fb ey ([bk ad, bk ac, some ab, bk en, bk bx, some aa] ++ O) bz [vs b.Id, vi b.Shape.Kind, .slice ar au av, .slice a2 a3 a4] ∧ Bx ey aa [vs ([] : Str), vi 0, .slice none 0 0, .slice none 0 0] ∧ Bx ey ab [vs a.Id, vi r9.Kind, .slice ac ck cl, .slice en p5 p6])) ?_ ?_
            ·refine W_cond z3 rfl (fun um => ?_) (fun um => ?_)
             ·have H := ite_t H um
              refine W_reg ?_
              refine L_pu (P_fa fa71_2 ⟨ab, 0, none⟩ ⟨ab, 3, none⟩ rfl rfl) ?_
              refine L_pu (P_ld ag69 cL ⟨ab, 3, none⟩ (.slice af db dc) rfl (ul.cell rfl)) ?_
              refine L_pu (P_move (vs (nth r11 v4)) rfl) ?_
              refine L_pu (P_fa fa135_1 ⟨an, 0, none⟩ ⟨an, 1, none⟩ rfl rfl) ?_
              refine L_pu (P_ld ag9 cL ⟨an, 1, none⟩ (vs z4) rfl (yg.cell rfl)) ?_
              refine L_pu (P_build (.agg #[vs (nth r11 v4), vs z4]) (fun _ => by kernel_rfl)) ?_
              refine L_lit (kd := kTag) ei69 jf ([(⟨(nth r11 v4), z4⟩ : Tag)] : List Tag) (cells := [vs (nth r11 v4), vs z4]) ⟨[vs (nth r11 v4), vs z4], _, rfl, (kTag.mk _ _ (⟨(nth r11 v4), z4⟩ : Tag) dy ak8), rfl⟩ (fun _ => by kernel_rfl) fun apj ala alb alc k2 hr5229 lx ald => ?_
              obtain ⟨ale, H⟩ := H
              have alf := (yb.so _ k2 hr5229)
              refine L_app ei69 lx (.slice af db dc) xs7 ([(⟨(nth r11 v4), z4⟩ : Tag)] : List Tag) rfl alf (.slice ala alb alc) rfl ald.sx 5 rfl ale fun apk p7 un uo n6 gs k3 alg => ?_
              refine L_pu (P_fa fa71_2 ⟨ab, 0, none⟩ ⟨ab, 3, none⟩ rfl rfl) ?_
              have alh := (lx.bm (ul.k0 k2) 4 5 rfl rfl rfl n6)
              refine L_stb ab 3 [vs a.Id, vi r9.Kind, .slice ac ck cl, .slice af db dc] [.slice p7 un uo] [vs a.Id, vi r9.Kind, .slice ac ck cl, .slice p7 un uo] rfl alh rfl sz69 rfl rfl rfl fun ali k4 alj => ?_
              have ly := k3.wr 4 rfl k4
              refine L_nil ?_
              have lz : Ct [] w0 ali [some an, bk ad, bk ac, some ab, bk p7, bk bx, some aa] O := ly.drop 0 rfl
              have alk := lz.drop 0 rfl
              have i2 := jf.stown _ k2 hr5229
              have i3 := k3.stw 4 rfl k4
              have i4 := ly.std 0 rfl
              have i5 := lz.std 0 rfl
              have all := (((((x2.st i2).st gs).st i3).st i4).st i5)
              have alm := (((((x3.st i2).st gs).st i3).st i4).st i5)
              have aln := (((((x4.st i2).st gs).st i3).st i4).st i5)
              have alo := (((((x5.st i2).st gs).st i3).st i4).st i5)
              have alp := (((((x6.st i2).st gs).st i3).st i4).st i5)
              have alq := (((((x7.st i2).st gs).st i3).st i4).st i5)
              have alr := (lz.sd (ly.sd (k3.sw (lx.sm (x8.so _ k2 hr5229) 6 5 rfl rfl rfl n6 gs) 6 4 rfl rfl rfl k4) 6 0 rfl rfl rfl) 5 0 rfl rfl rfl)
              have als := (lz.sd (ly.sd (k3.sw (lx.sm (x9.so _ k2 hr5229) 2 5 rfl rfl rfl n6 gs) 2 4 rfl rfl rfl k4) 2 0 rfl rfl rfl) 1 0 rfl rfl rfl)
              have alt := (lz.sd (ly.sd (k3.sw (lx.sm (ya.so _ k2 hr5229) 3 5 rfl rfl rfl n6 gs) 3 4 rfl rfl rfl k4) 3 0 rfl rfl rfl) 2 0 rfl rfl rfl)
              have alu := (lz.sd (ly.sd (k3.sw alg 5 4 rfl rfl rfl k4) 5 0 rfl rfl rfl) 4 0 rfl rfl rfl)
              have alv := (((((yc.st i2).st gs).st i3).st i4).st i5)
              have alw := (((((yd.st i2).st gs).st i3).st i4).st i5)
              have alx := (((((ye.st i2).st gs).st i3).st i4).st i5)
              have aly := (k3.bm (lx.bm (yf.k0 k2) 7 5 rfl rfl rfl n6) 7 4 rfl rfl rfl k4)
              have alz := alj
              exact ⟨(xs7 ++ ([(⟨(nth r11 v4), z4⟩ : Tag)] : List Tag)), p7, un, uo, H, ⟨rfl, rfl, rfl, rfl, rfl, rfl, rfl, rfl, rfl, trivial⟩, alk, all, alm, aln, alo, alp, alq, alr, als, alt, alu, alv, alw, alx, aly, alz⟩
             ·have H := ite_f H um
              refine W_skip ?_
              have al0 : Ct [] w0 ek [bk ad, bk ac, some ab, bk af, bk bx, some aa] O := jf.drop 0 rfl
              have i6 := jf.std 0 rfl
              have al1 := (jf.sd x8 5 0 rfl rfl rfl)
              have al2 := (jf.sd x9 1 0 rfl rfl rfl)
              have al3 := (jf.sd ya 2 0 rfl rfl rfl)
              have al4 := (jf.sd yb 4 0 rfl rfl rfl)
              have al5 := (yc.st i6)
              have al6 := (yd.st i6)
              have al7 := (ye.st i6)
              have al8 := yf
              have al9 := ul
              exact ⟨xs7, af, db, dc, H, ⟨rfl, rfl, rfl, rfl, rfl, rfl, rfl, rfl, rfl, trivial⟩, al0, (x2.st i6), (x3.st i6), (x4.st i6), (x5.st i6), (x6.st i6), (x7.st i6), al1, al2, al3, al4, al5, al6, al7, al8, al9⟩
            ·rintro apl ey ⟨xs9, en, p5, p6, ama, amb, amc, amd, ame, amf, amg, amh, ami, amj, amk, aml, amm, amn, amo, amp, amq, amr⟩
             obtain ⟨apm, rfl⟩ := Has.ins amb
             have H := ak9 xs9 ama
             refine W_reg ?_
             obtain ⟨ams, H⟩ := H
             refine L_pu (P_add v4 1 rfl rfl ams) ?_
             refine L_pu (P_move (vi (v4 + 1)) rfl) ?_
             refine L_nil ?_
             obtain ⟨amt, amu⟩ := H
             exact ⟨(xs8, bx, lu, lv, v4 + 1, xs9, en, p5, p6), amu, amt, ⟨rfl, rfl, rfl, rfl, rfl, rfl, rfl, rfl, rfl, trivial⟩, amc, amd, ame, amf, amg, amh, ami, amj, amk, aml, amm, amn, amo, amp, amq, amr⟩
        ·have H := ite_f H rz
         refine W_exit (xin_hit ?_)
         refine W_seq ?_
         refine W_seq ?_
         refine W_reg ?_
         refine L_pu (P_lda ag71 sz71 cL ⟨ab, 0, none⟩ [vs a.Id, vi r9.Kind, .slice ac ck cl, .slice af db dc] rfl rfl (fr.cells (off := 0) rfl)) ?_
         have amv := j9.gv fo 1 rfl
         have up := j9.drop 1 rfl
         have amw := (j9.sd fp 3 1 rfl rfl rfl)
         have amx := up.gv amw 2 rfl
         have amy := up.drop 2 rfl
         have amz := up.std 2 rfl
         refine L_call go93 [.agg #[vs a.Id, vi r9.Kind, .slice ac ck cl, .slice af db dc]] rfl ((impl_FeatOk.calls em amy.ok (⟨a.Id, r9, xs7⟩ : Feat) ac ck cl af db dc hs (amv.st amz) amx _ H).mono ?_)
         rintro _ am0 ⟨r17, rfl, H, jg⟩
         have l0 := j9.k0 jg
         refine L_pu (P_not r17 rfl) ?_
         refine L_nil ?_
         refine W_cond (!r17) rfl (fun uq => ?_) (fun uq => ?_)
         ·have H := ite_t H uq
          refine W_seq ?_
          refine W_reg ?_
          have ur := j9.stn jg
          have am1 := (w5.st ur)
          refine L_pu (P_lda ag71 sz71 cL ⟨a6, 0, none⟩ [vs a.Id, vi a.Shape.Kind, .slice bc bd be, .slice bq br bs] rfl rfl (am1.cells (off := 0) rfl)) ?_
          refine L_call go102 [.agg #[vs a.Id, vi a.Shape.Kind, .slice bc bd be, .slice bq br bs]] rfl ((impl_cloneFeat.calls am0 l0.ok a bc bd be bq br bs hs (gj.st ur) (gk.st ur) _ H).mono ?_)
          rintro _ apn ⟨r18, l1, p8, p9, l2, qa, qb, rfl, H, yh, am2, am3, am4, am5, am6⟩
          have am7 := l0.owns yh am2 am3
          refine L_lit (kd := Kd.str) ei72 am7 ([([109, 117, 99, 104] : Str)] : List Str) (cells := [vs ([109, 117, 99, 104] : Str)]) ⟨[vs ([109, 117, 99, 104] : Str)], _, rfl, ⟨rfl, (by decide)⟩, rfl⟩ (fun _ => by kernel_rfl) fun apo n7 us ut uu hr5332 qc am8 => ?_
          have am9 := (((fq.k0 jg).k0 yh).k0 uu)
          refine L_stb aa 0 [vs ([] : Str), vi 0, .slice none 0 0, .slice none 0 0] [vs r18.Id, vi r18.Shape.Kind, .slice l1 p8 p9, .slice l2 qa qb] [vs r18.Id, vi r18.Shape.Kind, .slice l1 p8 p9, .slice l2 qa qb] rfl am9 rfl sz71 rfl rfl rfl fun yi qd ana => ?_
          have n9 := qc.wr 8 rfl qd
          refine L_pu (P_assign (.slice n7 us ut) rfl) ?_
          refine L_nil ?_
          refine W_ret ?_
          have anb := n9.bgv ana 8 rfl
          have oa := n9.drop 8 rfl
          have ob := oa.drop 3 rfl
          have oc : Ct [] w0 yi [bk n7, bk l1, bk l2, some ab, bk af, bk al] O := ob.drop 3 rfl
          have od := oc.drop 3 rfl
          have oe := od.drop 3 rfl
          have og : Ct [] w0 yi [bk n7, bk l1, bk l2] O := oe.drop 3 rfl
          have oh := og.perm (.swap _ _ _)
          have uv := oh.perm (.cons _ (.swap _ _ _))
          have anc := oa.std 3 rfl
          have and := ob.std 3 rfl
          have ane := oc.std 3 rfl
          have anf := od.std 3 rfl
          have ang := oe.std 3 rfl
          have anh := og.stp (.swap _ _ _)
          have ani := oh.stp (.cons _ (.swap _ _ _))
          have anj := (((((((anb.st anc).st and).st ane).st anf).st ang).st anh).st ani)
          have ank := (oh.sp (og.sp (oe.sd (od.sd (oc.sd (ob.sd (oa.sd (n9.sd (qc.sw (am5.so _ uu hr5332) 1 8 rfl rfl rfl qd) 1 8 rfl rfl rfl) 1 3 rfl rfl rfl) 1 3 rfl rfl rfl) 1 3 rfl rfl rfl) 1 3 rfl rfl rfl) 1 3 rfl rfl rfl) (.swap _ _ _)) (.cons _ (.swap _ _ _)))
          have anl := (oh.sp (og.sp (oe.sd (od.sd (oc.sd (ob.sd (oa.sd (n9.sd (qc.sw (am6.so _ uu hr5332) 2 8 rfl rfl rfl qd) 2 8 rfl rfl rfl) 2 3 rfl rfl rfl) 2 3 rfl rfl rfl) 2 3 rfl rfl rfl) 2 3 rfl rfl rfl) 2 3 rfl rfl rfl) (.swap _ _ _)) (.cons _ (.swap _ _ _)))
          have anm := (oh.sp (og.sp (oe.sd (od.sd (oc.sd (ob.sd (oa.sd (n9.sd (qc.sw am8 0 8 rfl rfl rfl qd) 0 8 rfl rfl rfl) 0 3 rfl rfl rfl) 0 3 rfl rfl rfl) 0 3 rfl rfl rfl) 0 3 rfl rfl rfl) 0 3 rfl rfl rfl) (.swap _ _ _)) (.cons _ (.swap _ _ _)))
          exact ⟨[.agg #[vs r18.Id, vi r18.Shape.Kind, .slice l1 p8 p9, .slice l2 qa qb], .slice n7 us ut], ⟨_, _, rfl, anj.1.res rfl ag71 sz71, ⟨_, rfl, rfl⟩⟩, r18, ([([109, 117, 99, 104] : Str)] : List Str), l1, p8, p9, l2, qa, qb, n7, us, ut, rfl, H, uv.gr.g0, uv.ok, uv.ge, am4, ank, anl, anm⟩
         ·have H := ite_f H uq
          refine W_skip ?_
          refine W_seq ?_
          refine W_reg ?_
          have ann := (fr.k0 jg)
          refine L_pu (P_lda ag71 sz71 cL ⟨ab, 0, none⟩ [vs a.Id, vi r9.Kind, .slice ac ck cl, .slice af db dc] rfl rfl (ann.cells (off := 0) rfl)) ?_
          refine L_pu (P_move (.slice al fl fm) rfl) ?_
          have ano := (fq.k0 jg)
          refine L_stb aa 0 [vs ([] : Str), vi 0, .slice none 0 0, .slice none 0 0] [vs a.Id, vi r9.Kind, .slice ac ck cl, .slice af db dc] [vs a.Id, vi r9.Kind, .slice ac ck cl, .slice af db dc] rfl ano rfl sz71 rfl rfl rfl fun anp qe anq => ?_
          have oi := l0.wr 5 rfl qe
          refine L_pu (P_assign (.slice al fl fm) rfl) ?_
          refine L_nil ?_
          refine W_ret ?_
          have anr := oi.bgv anq 5 rfl
          have oj := oi.drop 5 rfl
          have ol := oj.drop 0 rfl
          have uw : Ct [] w0 anp [bk ac, bk af, bk al] O := ol.drop 1 rfl
          have ans := oj.std 0 rfl
          have ant := ol.std 1 rfl
          have anu := ((anr.st ans).st ant)
          have anv := (ol.sd (oj.sd (oi.sd (l0.sw (fo.sn jg) 1 5 rfl rfl rfl qe) 1 5 rfl rfl rfl) 1 0 rfl rfl rfl) 0 1 rfl rfl rfl)
          have anw := (ol.sd (oj.sd (oi.sd (l0.sw (fp.sn jg) 3 5 rfl rfl rfl qe) 3 5 rfl rfl rfl) 3 0 rfl rfl rfl) 2 1 rfl rfl rfl)
          have anx := (ol.sd (oj.sd (oi.sd (l0.sw (f1.sn jg) 4 5 rfl rfl rfl qe) 4 5 rfl rfl rfl) 4 0 rfl rfl rfl) 3 1 rfl rfl rfl)
          exact ⟨[.agg #[vs a.Id, vi r9.Kind, .slice ac ck cl, .slice af db dc], .slice al fl fm], ⟨_, _, rfl, anu.1.res rfl ag71 sz71, ⟨_, rfl, rfl⟩⟩, (⟨a.Id, r9, xs7⟩ : Feat), xs6, ac, ck, cl, af, db, dc, al, fl, fm, rfl, H, uw.gr.g0, uw.ok, uw.ge, hs, anv, anw, anx⟩
end Go.Proofs.Ytndjggncgpjolaa

namespace Go.Proofs.Ytndjggncgpjolaa
open Go.RowKit
set_option linter.unusedVariables false
set_option linter.unusedSimpArgs false
def laws_eqPt.E (a : Pt) (b : Pt) (Q : Bool → Prop) : Prop :=
 (if a.X != b.X then Q false else (if a.Y != b.Y then Q false else Q true))
set_option maxHeartbeats 8000000 in
set_option maxRecDepth 100000 in
theorem laws_eqPt.calls {O : Ob} (w0 : World) (hO : Ok w0 O) (a : Pt) (b : Pt) (Q : Bool → Prop) (h : laws_eqPt.E a b Q) :
  Ret Try.prog 171 [.agg #[vi a.X, vi a.Y], .agg #[vi b.X, vi b.Y]] w0 (fun v w' => ∃ (r0 : Bool), v = vb r0 ∧ Q r0 ∧ Gr w0 w' none) := by
 unfold laws_eqPt.E at h
 have H := h
 clear h
 have hc0 := Ct.init hO
 refine Ret_enter Try.func171 rfl 15 rfl [.tmp 4] rfl rfl ?_
 refine W_seq ?_
 refine W_reg ?_
 refine L_box [vi a.X, vi a.Y] rfl fun w1 b2 hl4 hu5 g3 hx6 => ?_
 have h8 := Fb.mk hc0.ok hl4 hx6
 have hc9 := hc0.k0 g3
 refine L_box [vi b.X, vi b.Y] rfl fun ak aa ah hu14 ae ai => ?_
 have af := Fb.mk hc9.ok ah ai
 have ab := hc9.k0 ae
 refine L_pu (P_assign (vb false) rfl) ?_
 refine L_nil ?_
 refine W_seq ?_
 refine W_seq ?_
 refine W_reg ?_
 refine L_pu (P_fa fa29_0 ⟨b2, 0, none⟩ ⟨b2, 0, none⟩ rfl rfl) ?_
 have aj := hc9.stn ae
 have ag := (h8.st aj)
 refine L_pu (P_ld ag3 cL ⟨b2, 0, none⟩ (vi a.X) rfl (ag.cell rfl)) ?_
 refine L_pu (P_fa fa29_0 ⟨aa, 0, none⟩ ⟨aa, 0, none⟩ rfl rfl) ?_
 refine L_pu (P_ld ag3 cL ⟨aa, 0, none⟩ (vi b.X) rfl (af.cell rfl)) ?_
 refine L_pu (P_cmp a.X b.X (a.X != b.X) rfl rfl rfl) ?_
 refine L_nil ?_
 refine W_cond (a.X != b.X) rfl (fun ac => ?_) (fun ac => ?_)
 ·have H := ite_t H ac
  refine W_seq ?_
  refine W_reg ?_
  refine L_pu (P_assign (vb false) rfl) ?_
  refine L_nil ?_
  refine W_ret ?_
  exact ⟨[vb false], ⟨_, rfl, rfl⟩, false, rfl, H, ab.gr.g0⟩
 ·have H := ite_f H ac
  refine W_skip ?_
  refine W_seq ?_
  refine W_seq ?_
  refine W_reg ?_
  refine L_pu (P_fa fa29_1 ⟨b2, 0, none⟩ ⟨b2, 1, none⟩ rfl rfl) ?_
  refine L_pu (P_ld ag3 cL ⟨b2, 1, none⟩ (vi a.Y) rfl (ag.cell rfl)) ?_
  refine L_pu (P_fa fa29_1 ⟨aa, 0, none⟩ ⟨aa, 1, none⟩ rfl rfl) ?_
  refine L_pu (P_ld ag3 cL ⟨aa, 1, none⟩ (vi b.Y) rfl (af.cell rfl)) ?_
  refine L_pu (P_cmp a.Y b.Y (a.Y != b.Y) rfl rfl rfl) ?_
  refine L_nil ?_
  refine W_cond (a.Y != b.Y) rfl (fun ad => ?_) (fun ad => ?_)
  ·have H := ite_t H ad
   refine W_seq ?_
   refine W_reg ?_
   refine L_pu (P_assign (vb false) rfl) ?_
   refine L_nil ?_
   refine W_ret ?_
   exact ⟨[vb false], ⟨_, rfl, rfl⟩, false, rfl, H, ab.gr.g0⟩
  ·have H := ite_f H ad
   refine W_skip ?_
   refine W_seq ?_
   refine W_reg ?_
   refine L_pu (P_assign (vb true) rfl) ?_
   refine L_nil ?_
   refine W_ret ?_
   exact ⟨[vb true], ⟨_, rfl, rfl⟩, true, rfl, H, ab.gr.g0⟩
end Go.Proofs.Ytndjggncgpjolaa

namespace Go.Proofs.Ytndjggncgpjolaa
set_option linter.unusedVariables false
set_option linter.unusedSimpArgs false
set_option linter.unusedSectionVars false
theorem laws_eqPt.law (a b : Pt) (Q : Bool → Prop) (hq : Q (decide (a = b))) : laws_eqPt.E a b Q := by
 obtain ⟨x0, x1⟩ := a; obtain ⟨y0, y1⟩ := b
 rw [show (decide ((⟨x0, x1⟩ : Pt) = ⟨y0, y1⟩)) = ((decide (x0 = y0)) && (decide (x1 = y1))) by simp only [Pt.mk.injEq, Bool.decide_and]] at hq
 unfold laws_eqPt.E
 by_cases h0 : x0 = y0
 case neg => simpa [h0] using hq
 simp only [h0, decide_true, Bool.true_and, bne_self_eq_false, Bool.not_true, Bool.false_eq_true, if_false] at hq ⊢
 by_cases h1 : x1 = y1
 case neg => simpa [h1] using hq
 simp only [h1, decide_true, Bool.true_and, bne_self_eq_false, Bool.not_true, Bool.false_eq_true, if_false] at hq ⊢
 all_goals (try exact hq)
theorem laws_eqPt.is (a b : Pt) : laws_eqPt.E a b (fun r => r = decide (a = b)) := laws_eqPt.law a b _ rfl
end Go.Proofs.Ytndjggncgpjolaa

namespace Go.Proofs.Ytndjggncgpjolaa
open Go.RowKit
set_option linter.unusedVariables false
set_option linter.unusedSimpArgs false
def laws_eqPtS.E (a : List Pt) (b : List Pt) (Q : Bool → Prop) : Prop :=
 (if (a.length : Int) != (b.length : Int) then Q false else (∃ (I32 : Int → Prop) (mu33 : Int → Nat), I32 0 ∧ ∀ (i2 : Int), I32 i2 → (if decide (i2 < (a.length : Int)) then ((0 : Int) ≤ i2 ∧ i2 < (a.length : Int)) ∧ ((0 : Int) ≤ i2 ∧ i2 < (b.length : Int)) ∧ (if !(decide ((nth a i2) = (nth b i2))) then Q false else (-9223372036854775808 ≤ i2) ∧ I32 (i2 + 1) ∧ mu33 (i2 + 1) < mu33 i2) else Q true)))
set_option maxHeartbeats 8000000 in
set_option maxRecDepth 100000 in
theorem laws_eqPtS.calls {O : Ob} (w0 : World) (hO : Ok w0 O) (a : List Pt) (A1 : Option Addr) (n2 c3 : Nat) (hp4 : Sl kPt w0 (Fr O) (.slice A1 n2 c3) a) (b : List Pt) (A6 : Option Addr) (n7 c8 : Nat) (hp9 : Sl kPt w0 (Fr O) (.slice A6 n7 c8) b) (Q : Bool → Prop) (h : laws_eqPtS.E a b Q) :
  Ret Try.prog 144 [.slice A1 n2 c3, .slice A6 n7 c8] w0 (fun v w' => ∃ (r0 : Bool), v = vb r0 ∧ Q r0 ∧ Gr w0 w' none) := by
 unfold laws_eqPtS.E at h
 have H := h
 clear h
 have hc0 := Ct.init hO
 refine Ret_enter Try.func144 rfl 27 rfl [.tmp 4] rfl rfl ?_
 refine W_seq ?_
 refine W_reg ?_
 refine L_pu (P_assign (vb false) rfl) ?_
 refine L_nil ?_
 refine W_seq ?_
 refine W_seq ?_
 refine W_reg ?_
 refine L_pu (P_move (.slice A1 n2 c3) rfl) ?_
 have a5 := hp4.le
 refine L_pu (P_len Try.underlying23 A1 n2 c3 hp4.len rfl) ?_
 refine L_pu (P_move (.slice A6 n7 c8) rfl) ?_
 have a6 := hp9.le
 refine L_pu (P_len Try.underlying23 A6 n7 c8 hp9.len rfl) ?_
 refine L_pu (P_cmp (a.length : Int) (b.length : Int) ((a.length : Int) != (b.length : Int)) rfl rfl rfl) ?_
 refine L_nil ?_
 refine W_cond ((a.length : Int) != (b.length : Int)) rfl (fun ae => ?_) (fun ae => ?_)
 ·have H := ite_t H ae
  refine W_seq ?_
  refine W_reg ?_
  refine L_pu (P_assign (vb false) rfl) ?_
  refine L_nil ?_
  refine W_ret ?_
  exact ⟨[vb false], ⟨_, rfl, rfl⟩, false, rfl, H, hc0.gr.g0⟩
 ·have H := ite_f H ae
  refine W_skip ?_
  refine W_seq ?_
  refine W_seq ?_
  refine W_reg ?_
  refine L_pu (P_assign (vi 0) rfl) ?_
  refine L_nil ?_
  refine W_block ?_
  obtain ⟨ap, aq, af, H⟩ := H
  refine W_loop (α := Int) (fun (sv__ : Int) t aa => match sv__ with | i2 => ap i2 ∧ Has t [(0, .slice A1 n2 c3), (1, .slice A6 n7 c8), (5, vi i2)] ∧ Ct [] w0 aa [] O ∧ Sl kPt aa (Fr ([] ++ O)) (.slice A1 n2 c3) a ∧ Sl kPt aa (Fr ([] ++ O)) (.slice A6 n7 c8) b) (fun (sv__ : Int) => match sv__ with | i2 => aq i2) 0 ⟨af, ⟨rfl, rfl, rfl, trivial⟩, hc0, hp4, hp9⟩ ?_
  rintro i2 _ aa ⟨af, ar, ac, ab, ag⟩
  obtain ⟨a7, rfl⟩ := Has.ins ar
  have H := H i2 af
  refine W_seq ?_
  refine W_seq ?_
  refine W_reg ?_
  refine L_pu (P_move (vi i2) rfl) ?_
  refine L_pu (P_move (.slice A1 n2 c3) rfl) ?_
  have au := ab.le
  refine L_pu (P_len Try.underlying23 A1 n2 c3 ab.len rfl) ?_
  refine L_pu (P_cmp i2 (a.length : Int) (decide (i2 < (a.length : Int))) rfl rfl rfl) ?_
  refine L_nil ?_
  refine W_cond (decide (i2 < (a.length : Int))) rfl (fun ad => ?_) (fun ad => ?_)
  ·have H := ite_t H ad
   refine W_skip ?_
   refine W_seq ?_
   refine W_block ?_
   refine W_seq ?_
   refine W_draw (fun x => Gr aa x none) (by kernel_rfl) (by kernel_rfl) (Gr.drew _) ?_
   refine Q_pu (P_move (.slice A1 n2 c3) rfl) ?_
   refine Q_pu (P_move (vi i2) rfl) ?_
   obtain ⟨ai, H⟩ := H
   obtain ⟨aj, a8, av, a9, aw, ax⟩ := ab.get default (by decide) i2 ai
   obtain rfl := kPt.op aw
   refine Q_pu (P_ia Try.underlying23 se23 A1 aj n2 c3 ab.len i2 rfl av rfl ai) ?_
   refine Q_pu (P_lda ag29 sz29 cQ (aj.add (i2.toNat * 2)) [vi ((nth a i2).X), vi ((nth a i2).Y)] rfl rfl ax) ?_
   refine Q_pu (P_move (.slice A6 n7 c8) rfl) ?_
   refine Q_pu (P_move (vi i2) rfl) ?_
   obtain ⟨ak, H⟩ := H
   obtain ⟨al, ba, ay, bb, az, a0⟩ := ag.get default (by decide) i2 ak
   obtain rfl := kPt.op az
   refine Q_pu (P_ia Try.underlying23 se23 A6 al n7 c8 ag.len i2 rfl ay rfl ak) ?_
   refine Q_pu (P_lda ag29 sz29 cQ (al.add (i2.toNat * 2)) [vi ((nth b i2).X), vi ((nth b i2).Y)] rfl rfl a0) ?_
   refine Q_call go171 [.agg #[vi ((nth a i2).X), vi ((nth a i2).Y)], .agg #[vi ((nth b i2).X), vi ((nth b i2).Y)]] rfl (vb (decide ((nth a i2) = (nth b i2)))) (fun w g => (laws_eqPt.calls w (ac.k0 g).ok (nth a i2) (nth b i2) _ (laws_eqPt.is (nth a i2) (nth b i2))).mono ?_) ?_
   ·rintro _ w ⟨r, rfl, rfl, g2⟩
    exact ⟨rfl, Gr.t0 g g2⟩
   refine Q_pu (P_not (decide ((nth a i2) = (nth b i2))) rfl) ?_
   refine Q_nil fun bc am => ?_
   have an := ac.k0 am
   refine W_cond (!(decide ((nth a i2) = (nth b i2)))) rfl (fun ah => ?_) (fun ah => ?_)
   ·have H := ite_t H ah
    refine W_seq ?_
    refine W_reg ?_
    refine L_pu (P_assign (vb false) rfl) ?_
    refine L_nil ?_
    refine W_ret ?_
    exact ⟨[vb false], ⟨_, rfl, rfl⟩, false, rfl, H, an.gr.g0⟩
   ·have H := ite_f H ah
    refine W_skip ?_
    refine W_reg ?_
    refine L_pu (P_move (vi i2) rfl) ?_
    obtain ⟨a1, H⟩ := H
    have a2 : I64 (i2 + 1) := i64_succ (of_decide_eq_true ad) au a1
    refine L_pu (P_add i2 1 rfl rfl a2) ?_
    refine L_pu (P_assign (vi (i2 + 1)) rfl) ?_
    refine L_nil ?_
    obtain ⟨a3, a4⟩ := H
    have ao := ac.stn am
    exact ⟨i2 + 1, a4, a3, ⟨rfl, rfl, rfl, trivial⟩, an, (ab.st ao), (ag.st ao)⟩
  ·have H := ite_f H ad
   refine W_exit (xin_hit ?_)
   refine W_seq ?_
   refine W_reg ?_
   refine L_pu (P_assign (vb true) rfl) ?_
   refine L_nil ?_
   refine W_ret ?_
   exact ⟨[vb true], ⟨_, rfl, rfl⟩, true, rfl, H, ac.gr.g0⟩
end Go.Proofs.Ytndjggncgpjolaa

namespace Go.Proofs.Ytndjggncgpjolaa
open Go.RowKit
set_option linter.unusedVariables false
set_option linter.unusedSimpArgs false
def laws_eqShape.E (a : Shape) (b : Shape) (Q : Bool → Prop) : Prop :=
 (if a.Kind != b.Kind then Q false else laws_eqPtS.E a.Pts b.Pts (fun r => (if !r then Q false else Q true)))
set_option maxHeartbeats 8000000 in
set_option maxRecDepth 100000 in
theorem laws_eqShape.calls {O : Ob} (w0 : World) (hO : Ok w0 O) (a : Shape) (A1 : Option Addr) (n2 c3 : Nat) (hp4 : Sl kPt w0 (Fr O) (.slice A1 n2 c3) a.Pts) (b : Shape) (A6 : Option Addr) (n7 c8 : Nat) (hp9 : Sl kPt w0 (Fr O) (.slice A6 n7 c8) b.Pts) (Q : Bool → Prop) (h : laws_eqShape.E a b Q) :
  Ret Try.prog 103 [.agg #[vi a.Kind, .slice A1 n2 c3], .agg #[vi b.Kind, .slice A6 n7 c8]] w0 (fun v w' => ∃ (r0 : Bool), v = vb r0 ∧ Q r0 ∧ Gr w0 w' none) := by
 unfold laws_eqShape.E at h
 have H := h
 clear h
 have hc0 := Ct.init hO
 refine Ret_enter Try.func103 rfl 16 rfl [.tmp 4] rfl rfl ?_
 refine W_seq ?_
 refine W_reg ?_
 refine L_box [vi a.Kind, .slice A1 n2 c3] rfl fun av aa ak hu15 al am => ?_
 have an := Fb.mk hc0.ok ak am
 have ad := hc0.k0 al
 refine L_box [vi b.Kind, .slice A6 n7 c8] rfl fun ao ab ap hu24 ag aq => ?_
 have ah := Fb.mk ad.ok ap aq
 have ac := ad.k0 ag
 refine L_pu (P_assign (vb false) rfl) ?_
 refine L_nil ?_
 refine W_seq ?_
 refine W_seq ?_
 refine W_reg ?_
 refine L_pu (P_fa fa68_0 ⟨aa, 0, none⟩ ⟨aa, 0, none⟩ rfl rfl) ?_
 have ar := ad.stn ag
 have ai := (an.st ar)
 refine L_pu (P_ld ag3 cL ⟨aa, 0, none⟩ (vi a.Kind) rfl (ai.cell rfl)) ?_
 refine L_pu (P_fa fa68_0 ⟨ab, 0, none⟩ ⟨ab, 0, none⟩ rfl rfl) ?_
 refine L_pu (P_ld ag3 cL ⟨ab, 0, none⟩ (vi b.Kind) rfl (ah.cell rfl)) ?_
 refine L_pu (P_cmp a.Kind b.Kind (a.Kind != b.Kind) rfl rfl rfl) ?_
 refine L_nil ?_
 refine W_cond (a.Kind != b.Kind) rfl (fun ae => ?_) (fun ae => ?_)
 ·have H := ite_t H ae
  refine W_seq ?_
  refine W_reg ?_
  refine L_pu (P_assign (vb false) rfl) ?_
  refine L_nil ?_
  refine W_ret ?_
  exact ⟨[vb false], ⟨_, rfl, rfl⟩, false, rfl, H, ac.gr.g0⟩
 ·have H := ite_f H ae
  refine W_skip ?_
  refine W_seq ?_
  refine W_seq ?_
  refine W_reg ?_
  refine L_pu (P_fa fa68_1 ⟨aa, 0, none⟩ ⟨aa, 1, none⟩ rfl rfl) ?_
  refine L_pu (P_ld ag23 cL ⟨aa, 1, none⟩ (.slice A1 n2 c3) rfl (ai.cell rfl)) ?_
  refine L_pu (P_fa fa68_1 ⟨ab, 0, none⟩ ⟨ab, 1, none⟩ rfl rfl) ?_
  refine L_pu (P_ld ag23 cL ⟨ab, 1, none⟩ (.slice A6 n7 c8) rfl (ah.cell rfl)) ?_
  refine L_call go144 [.slice A1 n2 c3, .slice A6 n7 c8] rfl ((laws_eqPtS.calls ao ac.ok a.Pts A1 n2 c3 (hp4.st ac.st) b.Pts A6 n7 c8 (hp9.st ac.st) _ H).mono ?_)
  rintro _ aw ⟨r, rfl, H, au⟩
  have aj := ac.k0 au
  refine L_pu (P_not r rfl) ?_
  refine L_nil ?_
  refine W_cond (!r) rfl (fun af => ?_) (fun af => ?_)
  ·have H := ite_t H af
   refine W_seq ?_
   refine W_reg ?_
   refine L_pu (P_assign (vb false) rfl) ?_
   refine L_nil ?_
   refine W_ret ?_
   exact ⟨[vb false], ⟨_, rfl, rfl⟩, false, rfl, H, aj.gr.g0⟩
  ·have H := ite_f H af
   refine W_skip ?_
   refine W_seq ?_
   refine W_reg ?_
   refine L_pu (P_assign (vb true) rfl) ?_
   refine L_nil ?_
   refine W_ret ?_
   exact ⟨[vb true], ⟨_, rfl, rfl⟩, true, rfl, H, aj.gr.g0⟩
end Go.Proofs.Ytndjggncgpjolaa
