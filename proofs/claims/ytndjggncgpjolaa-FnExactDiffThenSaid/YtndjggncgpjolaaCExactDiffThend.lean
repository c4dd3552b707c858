/- It is proved here that the law FnExactDiffThen of the given program holds whatever it is handed: the walks through the code, the plain laws and the row, in this order.
   Conditions: none. -/
import Derived.Below
import Derived.ChangeArms
import Derived.ChangeOld
import Derived.ChangeSlices
import Derived.DataReads
import Derived.Deep.Quiet
import Derived.KernelRfl
import Derived.Laws.Build
import Derived.Laws.IdiomStrings
import Derived.Laws.OwnMore
import Derived.Laws.Slices
import Derived.Laws.StructEq
import Derived.OpenShut
import Derived.ProofKit
import Derived.Shelf.Slices.Cells
import Derived.Shelf.Slices.CompactS
import Derived.Shelf.Slices.In.SortNone
import Derived.Shelf.Small.Bits
import Derived.Shelf.Sort.Plain
import Derived.Shelf.Strconv.Itoa0
import Derived.ShutString
import Derived.SizedLaws
import Derived.StillTail
import Derived.Test.YtndjggncgpjolaaProg
import Derived.Test.YtndjggncgpjolaaRows
import Derived.WalkKit
import Derived.Test.YtndjggncgpjolaaCExactDiffThena
import Derived.Test.YtndjggncgpjolaaCExactDiffThenb
import Derived.Test.YtndjggncgpjolaaCExactDiffThenc
namespace Go.Proofs.Ytndjggncgpjolaa
open Go.RowKit
set_option linter.unusedVariables false
set_option linter.unusedSimpArgs false
def spec_l4Put.E (d : List Change) (c_ : Change) (Q : List Change → Prop) : Prop :=
 (∃ (I77 : Int → Prop) (mu78 : Int → Nat), I77 0 ∧ ∀ (k2 : Int), I77 k2 → (if decide (k2 < (d.length : Int)) then ((0 : Int) ≤ k2 ∧ k2 < (d.length : Int)) ∧ (if Op.bytesLess ((nth d k2).Id) c_.Id then (-9223372036854775808 ≤ k2) ∧ I77 (k2 + 1) ∧ mu78 (k2 + 1) < mu78 k2 else ((0 : Int) ≤ k2 ∧ (k2 : Int) ≤ (d.length : Int) ∧ (d.length : Int) ≤ (d.length : Int)) ∧ (([] : List Change).length + ((d.drop k2.toNat).take ((d.length : Int).toNat - k2.toNat)).length ≤ 268435456) ∧ ((0 : Int) ≤ 0 ∧ (0 : Int) ≤ k2 ∧ k2 ≤ (d.length : Int)) ∧ (([] : List Change).length + ((d.drop (0 : Int).toNat).take (k2.toNat - (0 : Int).toNat)).length ≤ 268435456) ∧ ((([] : List Change) ++ ((d.drop (0 : Int).toNat).take (k2.toNat - (0 : Int).toNat))).length + ([c_] : List Change).length ≤ 268435456) ∧ (((([] : List Change) ++ ((d.drop (0 : Int).toNat).take (k2.toNat - (0 : Int).toNat))) ++ ([c_] : List Change)).length + (([] : List Change) ++ ((d.drop k2.toNat).take ((d.length : Int).toNat - k2.toNat))).length ≤ 268435456) ∧ Q (((([] : List Change) ++ ((d.drop (0 : Int).toNat).take (k2.toNat - (0 : Int).toNat))) ++ ([c_] : List Change)) ++ (([] : List Change) ++ ((d.drop k2.toNat).take ((d.length : Int).toNat - k2.toNat))))) else ((0 : Int) ≤ k2 ∧ (k2 : Int) ≤ (d.length : Int) ∧ (d.length : Int) ≤ (d.length : Int)) ∧ (([] : List Change).length + ((d.drop k2.toNat).take ((d.length : Int).toNat - k2.toNat)).length ≤ 268435456) ∧ ((0 : Int) ≤ 0 ∧ (0 : Int) ≤ k2 ∧ k2 ≤ (d.length : Int)) ∧ (([] : List Change).length + ((d.drop (0 : Int).toNat).take (k2.toNat - (0 : Int).toNat)).length ≤ 268435456) ∧ ((([] : List Change) ++ ((d.drop (0 : Int).toNat).take (k2.toNat - (0 : Int).toNat))).length + ([c_] : List Change).length ≤ 268435456) ∧ (((([] : List Change) ++ ((d.drop (0 : Int).toNat).take (k2.toNat - (0 : Int).toNat))) ++ ([c_] : List Change)).length + (([] : List Change) ++ ((d.drop k2.toNat).take ((d.length : Int).toNat - k2.toNat))).length ≤ 268435456) ∧ Q (((([] : List Change) ++ ((d.drop (0 : Int).toNat).take (k2.toNat - (0 : Int).toNat))) ++ ([c_] : List Change)) ++ (([] : List Change) ++ ((d.drop k2.toNat).take ((d.length : Int).toNat - k2.toNat))))))
set_option maxHeartbeats 8000000 in
set_option maxRecDepth 100000 in
theorem spec_l4Put.calls {O : Ob} (w0 : World) (hO : Ok w0 O) (d : List Change) (A1 : Option Addr) (n2 c3 : Nat) (hp4 : Sl kChange w0 (Fr O) (.slice A1 n2 c3) d) (c_ : Change) (A8 : Option Addr) (n9 c10 : Nat) (A13 : Option Addr) (n14 c15 : Nat) (A19 : Option Addr) (n20 c21 : Nat) (A24 : Option Addr) (n25 c26 : Nat) (hs6 : Lim c_.Id) (hs7 : Lim c_.Was.Id) (hp11 : Sl kPt w0 (Fr O) (.slice A8 n9 c10) c_.Was.Shape.Pts) (hp16 : Sl kTag w0 (Fr O) (.slice A13 n14 c15) c_.Was.Tags) (hs18 : Lim c_.Now.Id) (hp22 : Sl kPt w0 (Fr O) (.slice A19 n20 c21) c_.Now.Shape.Pts) (hp27 : Sl kTag w0 (Fr O) (.slice A24 n25 c26) c_.Now.Tags) (Q : List Change → Prop) (h : spec_l4Put.E d c_ Q) :
  Ret Try.prog 81 [.slice A1 n2 c3, .agg #[vs c_.Id, vb c_.Had, vs c_.Was.Id, vi c_.Was.Shape.Kind, .slice A8 n9 c10, .slice A13 n14 c15, vb c_.Has, vs c_.Now.Id, vi c_.Now.Shape.Kind, .slice A19 n20 c21, .slice A24 n25 c26]] w0 (fun v w' => ∃ (r0 : List Change) (A0 : Option Addr) (n0 c0 : Nat), v = .slice A0 n0 c0 ∧ Q r0 ∧ Gr w0 w' none ∧ Ok w' ([blk (.slice A0 n0 c0)] ++ O) ∧ (∀ b, some b ∈ [blk (.slice A0 n0 c0)] → w0.heap.size ≤ b) ∧ Ow kChange 103 w' ([blk (.slice A0 n0 c0)] ++ O) (.slice A0 n0 c0) r0) := by
 have H : (∃ (I77 : Int → Prop) (mu78 : Int → Nat), I77 0 ∧ ∀ (k2 : Int), I77 k2 → (if decide (k2 < (d.length : Int)) then ((0 : Int) ≤ k2 ∧ k2 < (d.length : Int)) ∧ (if Op.bytesLess ((nth d k2).Id) c_.Id then (-9223372036854775808 ≤ k2) ∧ I77 (k2 + 1) ∧ mu78 (k2 + 1) < mu78 k2 else ((0 : Int) ≤ k2 ∧ (k2 : Int) ≤ (d.length : Int) ∧ (d.length : Int) ≤ (d.length : Int)) ∧ (([] : List Change).length + ((d.drop k2.toNat).take ((d.length : Int).toNat - k2.toNat)).length ≤ 268435456) ∧ ((0 : Int) ≤ 0 ∧ (0 : Int) ≤ k2 ∧ k2 ≤ (d.length : Int)) ∧ (([] : List Change).length + ((d.drop (0 : Int).toNat).take (k2.toNat - (0 : Int).toNat)).length ≤ 268435456) ∧ ((([] : List Change) ++ ((d.drop (0 : Int).toNat).take (k2.toNat - (0 : Int).toNat))).length + ([c_] : List Change).length ≤ 268435456) ∧ (((([] : List Change) ++ ((d.drop (0 : Int).toNat).take (k2.toNat - (0 : Int).toNat))) ++ ([c_] : List Change)).length + (([] : List Change) ++ ((d.drop k2.toNat).take ((d.length : Int).toNat - k2.toNat))).length ≤ 268435456) ∧ Q (((([] : List Change) ++ ((d.drop (0 : Int).toNat).take (k2.toNat - (0 : Int).toNat))) ++ ([c_] : List Change)) ++ (([] : List Change) ++ ((d.drop k2.toNat).take ((d.length : Int).toNat - k2.toNat))))) else ((0 : Int) ≤ k2 ∧ (k2 : Int) ≤ (d.length : Int) ∧ (d.length : Int) ≤ (d.length : Int)) ∧ (([] : List Change).length + ((d.drop k2.toNat).take ((d.length : Int).toNat - k2.toNat)).length ≤ 268435456) ∧ ((0 : Int) ≤ 0 ∧ (0 : Int) ≤ k2 ∧ k2 ≤ (d.length : Int)) ∧ (([] : List Change).length + ((d.drop (0 : Int).toNat).take (k2.toNat - (0 : Int).toNat)).length ≤ 268435456) ∧ ((([] : List Change) ++ ((d.drop (0 : Int).toNat).take (k2.toNat - (0 : Int).toNat))).length + ([c_] : List Change).length ≤ 268435456) ∧ (((([] : List Change) ++ ((d.drop (0 : Int).toNat).take (k2.toNat - (0 : Int).toNat))) ++ ([c_] : List Change)).length + (([] : List Change) ++ ((d.drop k2.toNat).take ((d.length : Int).toNat - k2.toNat))).length ≤ 268435456) ∧ Q (((([] : List Change) ++ ((d.drop (0 : Int).toNat).take (k2.toNat - (0 : Int).toNat))) ++ ([c_] : List Change)) ++ (([] : List Change) ++ ((d.drop k2.toNat).take ((d.length : Int).toNat - k2.toNat)))))) := h
 clear h
 have hc0 := Ct.init hO
 refine Ret_enter Try.func81 rfl 38 rfl [.tmp 4] rfl rfl ?_
 refine W_seq ?_
 refine W_reg ?_
 refine L_box [vs c_.Id, vb c_.Had, vs c_.Was.Id, vi c_.Was.Shape.Kind, .slice A8 n9 c10, .slice A13 n14 c15, vb c_.Has, vs c_.Now.Id, vi c_.Now.Shape.Kind, .slice A19 n20 c21, .slice A24 n25 c26] rfl fun w29 b30 hl32 hu33 g31 hx34 => ?_
 have h36 := Fb.mk hc0.ok hl32 hx34
 have hc37 := hc0.k0 g31
 refine L_pu (P_assign (.slice none 0 0) rfl) ?_
 refine L_nil ?_
 refine W_seq ?_
 refine W_reg ?_
 refine L_pu (P_assign (vi 0) rfl) ?_
 refine L_nil ?_
 refine W_seq ?_
 refine W_block ?_
 obtain ⟨I77, mu78, hI79, H⟩ := H
 refine W_loop (α := Int) (fun (sv__ : Int) t w64 => match sv__ with | k2 => I77 k2 ∧ Has t [(0, .slice A1 n2 c3), (3, .pointer (some ⟨b30, 0, none⟩)), (5, vi k2)] ∧ Ct [] w0 w64 [] O ∧ Sl kChange w64 (Fr ([] ++ O)) (.slice A1 n2 c3) d ∧ Sl kPt w64 (Fr ([] ++ O)) (.slice A8 n9 c10) c_.Was.Shape.Pts ∧ Sl kTag w64 (Fr ([] ++ O)) (.slice A13 n14 c15) c_.Was.Tags ∧ Sl kPt w64 (Fr ([] ++ O)) (.slice A19 n20 c21) c_.Now.Shape.Pts ∧ Sl kTag w64 (Fr ([] ++ O)) (.slice A24 n25 c26) c_.Now.Tags ∧ Fb w64 ([] ++ O) b30 [vs c_.Id, vb c_.Had, vs c_.Was.Id, vi c_.Was.Shape.Kind, .slice A8 n9 c10, .slice A13 n14 c15, vb c_.Has, vs c_.Now.Id, vi c_.Now.Shape.Kind, .slice A19 n20 c21, .slice A24 n25 c26]) (fun (sv__ : Int) => match sv__ with | k2 => mu78 k2) 0 ⟨hI79, ⟨rfl, rfl, rfl, trivial⟩, hc37, (hp4.st hc37.st), (hp11.st hc37.st), (hp16.st hc37.st), (hp22.st hc37.st), (hp27.st hc37.st), h36⟩ ?_
 rintro k2 _ w64 ⟨hI79, hh81, hc70, h71, h72, h73, h74, h75, h76⟩
 obtain ⟨u82, rfl⟩ := Has.ins hh81
 have H := H k2 hI79
 refine W_seq ?_
 refine W_seq ?_
 refine W_draw (fun x => Gr w64 x none) (by kernel_rfl) (by kernel_rfl) (Gr.drew _) ?_
 refine Q_pu (P_move (vi k2) rfl) ?_
 refine Q_pu (P_move (.slice A1 n2 c3) rfl) ?_
 have hl83 := h71.le
 refine Q_pu (P_len Try.underlying43 A1 n2 c3 h71.len rfl) ?_
 refine Q_pu (P_cmp k2 (d.length : Int) (decide (k2 < (d.length : Int))) rfl rfl rfl) ?_
 refine Q_pu (P_move (vb (decide (k2 < (d.length : Int)))) rfl) ?_
 rcases bool_or (decide (k2 < (d.length : Int))) with hq84 | hq84
 ·have H := ite_t H hq84
  refine Q_run (dj := 11) rfl rfl (by exact congrArg Value.bool hq84) ?_
  refine Q_pu (P_move (.slice A1 n2 c3) rfl) ?_
  refine Q_run (dj := 11) rfl rfl (by exact congrArg Value.bool hq84) ?_
  refine Q_pu (P_move (vi k2) rfl) ?_
  refine Q_run (dj := 11) rfl rfl (by exact congrArg Value.bool hq84) ?_
  obtain ⟨hb85, H⟩ := H
  obtain ⟨ad86, cs87, hA88, hS91, hR89, hcl90⟩ := h71.get default (by decide) k2 hb85
  obtain ⟨A94, n95, c96, A99, n100, c101, A105, n106, c107, A110, n111, c112, rfl, hs92, hs93, h97, h102, hs104, h108, h113⟩ := kChange.op hR89
  refine Q_pu (P_ia Try.underlying43 se43 A1 ad86 n2 c3 h71.len k2 rfl hA88 rfl hb85) ?_
  refine Q_run (dj := 11) rfl rfl (by exact congrArg Value.bool hq84) ?_
  refine Q_pu (P_fa fa103_0 (ad86.add (k2.toNat * 11)) ((ad86.add (k2.toNat * 11)).add 0) rfl rfl) ?_
  refine Q_run (dj := 11) rfl rfl (by exact congrArg Value.bool hq84) ?_
  refine Q_pu (P_ld ag9 cQ ((ad86.add (k2.toNat * 11)).add 0) (vs ((nth d k2).Id)) rfl (hcl90 0 _ rfl)) ?_
  refine Q_run (dj := 11) rfl rfl (by exact congrArg Value.bool hq84) ?_
  refine Q_pu (P_fa fa103_0 ⟨b30, 0, none⟩ ⟨b30, 0, none⟩ rfl rfl) ?_
  refine Q_run (dj := 11) rfl rfl (by exact congrArg Value.bool hq84) ?_
  refine Q_pu (P_ld ag9 cQ ⟨b30, 0, none⟩ (vs c_.Id) rfl (h76.cell rfl)) ?_
  refine Q_run (dj := 11) rfl rfl (by exact congrArg Value.bool hq84) ?_
  refine Q_pu (P_scmp ((nth d k2).Id) c_.Id (Op.bytesLess ((nth d k2).Id) c_.Id) rfl rfl rfl) ?_
  refine Q_pu (P_pick true (vb (Op.bytesLess ((nth d k2).Id) c_.Id)) (by exact congrArg Value.bool hq84) rfl) ?_
  refine Q_nil fun w115 g116 => ?_
  have hc118 := hc70.k0 g116
  refine W_cond (Op.bytesLess ((nth d k2).Id) c_.Id) rfl (fun hq119 => ?_) (fun hq119 => ?_)
  ·have H := ite_t H hq119
   refine W_skip ?_
   refine W_block ?_
   refine W_reg ?_
   refine L_pu (P_move (vi k2) rfl) ?_
   obtain ⟨hb121, H⟩ := H
   have hi120 : I64 (k2 + 1) := i64_succ (of_decide_eq_true hq84) hl83 hb121
   refine L_pu (P_add k2 1 rfl rfl hi120) ?_
   refine L_pu (P_assign (vi (k2 + 1)) rfl) ?_
   refine L_nil ?_
   obtain ⟨hI122, hm123⟩ := H
   have h124 := (h76.st (.new _ g116))
   exact ⟨k2 + 1, hm123, hI122, ⟨rfl, rfl, rfl, trivial⟩, hc118, (h71.st (.new _ g116)), (h72.st (.new _ g116)), (h73.st (.new _ g116)), (h74.st (.new _ g116)), (h75.st (.new _ g116)), h124⟩
  ·have H := ite_f H hq119
   refine W_exit (xin_hit ?_)
   refine W_seq ?_
   refine W_reg ?_
   refine L_lit (kd := kChange) ei43 hc118 ([] : List Change) (cells := []) rfl (fun _ => by kernel_rfl) fun w125 A126 n127 c128 g129 hr130 hc131 h132 => ?_
   refine L_pu (P_move (.slice A1 n2 c3) rfl) ?_
   refine L_pu (P_move (vi k2) rfl) ?_
   obtain ⟨hb134, H⟩ := H
   have h139 := ((h71.st (.new _ g116)).st (.own _ _ g129 hr130))
   refine L_cuts Try.underlying43 se43 A1 n2 c3 d rfl h139 k2 (d.length : Int) rfl (bd_none h139.len) hb134 fun A135 n136 c137 h138 => ?_
   obtain ⟨hb141, H⟩ := H
   refine L_app ei43 hc131 (.slice A126 n127 c128) ([] : List Change) ((d.drop k2.toNat).take ((d.length : Int).toNat - k2.toNat)) rfl h132 (.slice A135 n136 c137) rfl h138.sx 0 rfl hb141 fun w142 A143 n144 c145 g146 s147 hc148 h149 => ?_
   refine L_pu (P_assign (.slice A143 n144 c145) rfl) ?_
   refine L_nil ?_
   refine W_seq ?_
   obtain ⟨hb151, H⟩ := H
   obtain ⟨hb152, H⟩ := H
   obtain ⟨hb153, H⟩ := H
   obtain ⟨hb154, H⟩ := H
   refine W_join (J := (fun t w2160 => ∃ (A2164 : Option Addr) (n2165 : Nat) (c2166 : Nat), Has t [(4, .slice A2164 n2165 c2166)] ∧ Ct [] w0 w2160 [blk (.slice A2164 n2165 c2166)] O ∧ Ow kChange 103 w2160 ([blk (.slice A2164 n2165 c2166)] ++ O) (.slice A2164 n2165 c2166) (((([] : List Change) ++ ((d.drop (0 : Int).toNat).take (k2.toNat - (0 : Int).toNat))) ++ ([c_] : List Change)) ++ (([] : List Change) ++ ((d.drop k2.toNat).take ((d.length : Int).toNat - k2.toNat)))))) ?_ ?_
   ·refine W_mixr 11 [] (by kernel_rfl) rfl fun w155 g156 hM157 => ?_
    have hc2167 := hc148.k0 g156
    refine M_pu 1 rfl (by kernel_rfl) hM157 (P_move (.slice A1 n2 c3) rfl) ?_
    refine M_pu 2 rfl (by kernel_rfl) hM157 (P_move (vi k2) rfl) ?_
    have h2172 := ((h139.st s147).st (.new _ g156))
    refine M_cuts 3 rfl (by kernel_rfl) hM157 Try.underlying43 se43 A1 n2 c3 d rfl h2172 0 k2 rfl rfl hb151 fun A2168 n2169 c2170 h2171 => ?_
    have h2174 := ((((h76.st (.new _ g116)).st (.own _ _ g129 hr130)).st s147).st (.new _ g156))
    refine M_pu 5 rfl (by kernel_rfl) hM157 (P_ldar ag103 sz103 cR ⟨b30, 0, none⟩ [vs c_.Id, vb c_.Had, vs c_.Was.Id, vi c_.Was.Shape.Kind, .slice A8 n9 c10, .slice A13 n14 c15, vb c_.Has, vs c_.Now.Id, vi c_.Now.Shape.Kind, .slice A19 n20 c21, .slice A24 n25 c26] rfl rfl (h2174.cells (off := 0) rfl) nm_nil) ?_
    refine M_pu 8 rfl (by kernel_rfl) hM157 (P_move (.slice A143 n144 c145) rfl) ?_
    refine M_any2 0 6 (by kernel_rfl) rfl rfl ?_ ?_
    ·refine L_lit (kd := kChange) ei43 hc2167 ([] : List Change) (cells := []) rfl (fun _ => by kernel_rfl) fun w2175 A2176 n2177 c2178 g2179 hr2180 hc2181 h2182 => ?_
     have hM2184 := Gm.tm hM157 g2179
     refine L_nil ⟨hM2184, ?_⟩
     refine M_any2 4 6 (by kernel_rfl) rfl rfl ?_ ?_
     ·refine L_app ei43 hc2181 (.slice A2176 n2177 c2178) ([] : List Change) ((d.drop (0 : Int).toNat).take (k2.toNat - (0 : Int).toNat)) rfl h2182 (.slice A2168 n2169 c2170) rfl (h2171.st (.own _ _ g2179 hr2180)).sx 0 rfl hb152 fun w2185 A2186 n2187 c2188 g2189 s2190 hc2191 h2192 => ?_
      have hM2193 := Gm.tq hM2184 g2189 (hv_new hM157 hr2180)
      have hv2194 := hv_app (L := [blk (.slice A2176 n2177 c2178), blk (.slice A143 n144 c145)]) (O := O) (i := 0) hM2184 rfl (hv_new hM157 hr2180) s2190 hc2191
      refine L_nil ⟨hM2193, ?_⟩
      refine M_any1 6 (by kernel_rfl) rfl ?_
      have h2204 := ((((((h72.st (.new _ g116)).st (.own _ _ g129 hr130)).st s147).st (.new _ g156)).st (.own _ _ g2179 hr2180)).st s2190)
      have h2205 := ((((((h73.st (.new _ g116)).st (.own _ _ g129 hr130)).st s147).st (.new _ g156)).st (.own _ _ g2179 hr2180)).st s2190)
      have h2206 := ((((((h74.st (.new _ g116)).st (.own _ _ g129 hr130)).st s147).st (.new _ g156)).st (.own _ _ g2179 hr2180)).st s2190)
      have h2207 := ((((((h75.st (.new _ g116)).st (.own _ _ g129 hr130)).st s147).st (.new _ g156)).st (.own _ _ g2179 hr2180)).st s2190)
      refine L_lit (kd := kChange) ei43 hc2191 ([c_] : List Change) (cells := [vs c_.Id, vb c_.Had, vs c_.Was.Id, vi c_.Was.Shape.Kind, .slice A8 n9 c10, .slice A13 n14 c15, vb c_.Has, vs c_.Now.Id, vi c_.Now.Shape.Kind, .slice A19 n20 c21, .slice A24 n25 c26]) ⟨[vs c_.Id, vb c_.Had, vs c_.Was.Id, vi c_.Was.Shape.Kind, .slice A8 n9 c10, .slice A13 n14 c15, vb c_.Has, vs c_.Now.Id, vi c_.Now.Shape.Kind, .slice A19 n20 c21, .slice A24 n25 c26], _, rfl, (kChange.mk _ _ c_ hs6 hs7 h2204 h2205 hs18 h2206 h2207), rfl⟩ (fun _ => by kernel_rfl) fun w2196 A2197 n2198 c2199 g2200 hr2201 hc2202 h2203 => ?_
      have hM2209 := Gm.tm hM2193 g2200
      refine L_nil ⟨hM2209, ?_⟩
      refine M_any1 7 (by kernel_rfl) rfl ?_
      have h2210 := (h2192.so _ g2200 hr2201)
      refine L_app ei43 hc2202 (.slice A2186 n2187 c2188) (([] : List Change) ++ ((d.drop (0 : Int).toNat).take (k2.toNat - (0 : Int).toNat))) ([c_] : List Change) rfl h2210 (.slice A2197 n2198 c2199) rfl h2203.sx 1 rfl hb153 fun w2211 A2212 n2213 c2214 g2215 s2216 hc2217 h2218 => ?_
      have hM2219 := Gm.tq hM2209 g2215 hv2194
      have hv2220 := hv_app (L := [blk (.slice A2197 n2198 c2199), blk (.slice A2186 n2187 c2188), blk (.slice A143 n144 c145)]) (O := O) (i := 1) hM2209 rfl hv2194 s2216 hc2217
      refine L_nil ⟨hM2219, ?_⟩
      refine M_any1 9 (by kernel_rfl) rfl ?_
      have h2222 := (Ow.sm (L := [blk (.slice A2197 n2198 c2199), blk (.slice A2186 n2187 c2188), blk (.slice A143 n144 c145)]) (O := O) ((Ow.sm (L := [blk (.slice A2176 n2177 c2178), blk (.slice A143 n144 c145)]) (O := O) ((h149.sn g156).so _ g2179 hr2180) hc2181 (i := 1) rfl (j := 0) rfl (by decide) g2189 s2190).so _ g2200 hr2201) hc2202 (i := 2) rfl (j := 1) rfl (by decide) g2215 s2216)
      refine L_app ei43 hc2217 (.slice A2212 n2213 c2214) ((([] : List Change) ++ ((d.drop (0 : Int).toNat).take (k2.toNat - (0 : Int).toNat))) ++ ([c_] : List Change)) (([] : List Change) ++ ((d.drop k2.toNat).take ((d.length : Int).toNat - k2.toNat))) rfl h2218 (.slice A143 n144 c145) rfl h2222.sx 1 rfl hb154 fun w2223 A2224 n2225 c2226 g2227 s2228 hc2229 h2230 => ?_
      have hM2231 := Gm.tq hM2219 g2227 hv2220
      have hv2232 := hv_app (L := [blk (.slice A2197 n2198 c2199), blk (.slice A2212 n2213 c2214), blk (.slice A143 n144 c145)]) (O := O) (i := 1) hM2219 rfl hv2220 s2228 hc2229
      refine L_nil ⟨hM2231, ?_⟩
      refine M_pu 10 rfl (by kernel_rfl) hM2231 (P_assign (.slice A2224 n2225 c2226) rfl) ?_
      refine M_nil (by kernel_rfl) ?_
      have hc2234 := hc2229.drop 0 rfl
      have hc2235 := hc2234.drop 1 rfl
      have h2236 := (Ow.sd (L := [blk (.slice A2224 n2225 c2226), blk (.slice A143 n144 c145)]) (O := O) (Ow.sd (L := [blk (.slice A2197 n2198 c2199), blk (.slice A2224 n2225 c2226), blk (.slice A143 n144 c145)]) (O := O) h2230 (i := 1) rfl (j := 0) rfl (by decide)) (i := 0) rfl (j := 1) rfl (by decide))
      exact ⟨A2224, n2225, c2226, ⟨rfl, trivial⟩, hc2235, h2236⟩
     ·have h2193 := (((((h72.st (.new _ g116)).st (.own _ _ g129 hr130)).st s147).st (.new _ g156)).st (.own _ _ g2179 hr2180))
      have h2194 := (((((h73.st (.new _ g116)).st (.own _ _ g129 hr130)).st s147).st (.new _ g156)).st (.own _ _ g2179 hr2180))
      have h2195 := (((((h74.st (.new _ g116)).st (.own _ _ g129 hr130)).st s147).st (.new _ g156)).st (.own _ _ g2179 hr2180))
      have h2196 := (((((h75.st (.new _ g116)).st (.own _ _ g129 hr130)).st s147).st (.new _ g156)).st (.own _ _ g2179 hr2180))
      refine L_lit (kd := kChange) ei43 hc2181 ([c_] : List Change) (cells := [vs c_.Id, vb c_.Had, vs c_.Was.Id, vi c_.Was.Shape.Kind, .slice A8 n9 c10, .slice A13 n14 c15, vb c_.Has, vs c_.Now.Id, vi c_.Now.Shape.Kind, .slice A19 n20 c21, .slice A24 n25 c26]) ⟨[vs c_.Id, vb c_.Had, vs c_.Was.Id, vi c_.Was.Shape.Kind, .slice A8 n9 c10, .slice A13 n14 c15, vb c_.Has, vs c_.Now.Id, vi c_.Now.Shape.Kind, .slice A19 n20 c21, .slice A24 n25 c26], _, rfl, (kChange.mk _ _ c_ hs6 hs7 h2193 h2194 hs18 h2195 h2196), rfl⟩ (fun _ => by kernel_rfl) fun w2185 A2186 n2187 c2188 g2189 hr2190 hc2191 h2192 => ?_
      have hM2198 := Gm.tm hM2184 g2189
      refine L_nil ⟨hM2198, ?_⟩
      refine M_any1 4 (by kernel_rfl) rfl ?_
      have h2199 := ((h2171.st (.own _ _ g2179 hr2180)).st (.own _ _ g2189 hr2190))
      have h2200 := (h2182.so _ g2189 hr2190)
      refine L_app ei43 hc2191 (.slice A2176 n2177 c2178) ([] : List Change) ((d.drop (0 : Int).toNat).take (k2.toNat - (0 : Int).toNat)) rfl h2200 (.slice A2168 n2169 c2170) rfl h2199.sx 1 rfl hb152 fun w2201 A2202 n2203 c2204 g2205 s2206 hc2207 h2208 => ?_
      have hM2209 := Gm.tq hM2198 g2205 (hv_new hM157 hr2180)
      have hv2210 := hv_app (L := [blk (.slice A2186 n2187 c2188), blk (.slice A2176 n2177 c2178), blk (.slice A143 n144 c145)]) (O := O) (i := 1) hM2198 rfl (hv_new hM157 hr2180) s2206 hc2207
      refine L_nil ⟨hM2209, ?_⟩
      refine M_any1 7 (by kernel_rfl) rfl ?_
      have h2212 := (Ow.sm (L := [blk (.slice A2186 n2187 c2188), blk (.slice A2176 n2177 c2178), blk (.slice A143 n144 c145)]) (O := O) h2192 hc2191 (i := 0) rfl (j := 1) rfl (by decide) g2205 s2206)
      refine L_app ei43 hc2207 (.slice A2202 n2203 c2204) (([] : List Change) ++ ((d.drop (0 : Int).toNat).take (k2.toNat - (0 : Int).toNat))) ([c_] : List Change) rfl h2208 (.slice A2186 n2187 c2188) rfl h2212.sx 1 rfl hb153 fun w2213 A2214 n2215 c2216 g2217 s2218 hc2219 h2220 => ?_
      have hM2221 := Gm.tq hM2209 g2217 hv2210
      have hv2222 := hv_app (L := [blk (.slice A2186 n2187 c2188), blk (.slice A2202 n2203 c2204), blk (.slice A143 n144 c145)]) (O := O) (i := 1) hM2209 rfl hv2210 s2218 hc2219
      refine L_nil ⟨hM2221, ?_⟩
      refine M_any1 9 (by kernel_rfl) rfl ?_
      have h2224 := (Ow.sm (L := [blk (.slice A2186 n2187 c2188), blk (.slice A2202 n2203 c2204), blk (.slice A143 n144 c145)]) (O := O) (Ow.sm (L := [blk (.slice A2186 n2187 c2188), blk (.slice A2176 n2177 c2178), blk (.slice A143 n144 c145)]) (O := O) (((h149.sn g156).so _ g2179 hr2180).so _ g2189 hr2190) hc2191 (i := 2) rfl (j := 1) rfl (by decide) g2205 s2206) hc2207 (i := 2) rfl (j := 1) rfl (by decide) g2217 s2218)
      refine L_app ei43 hc2219 (.slice A2214 n2215 c2216) ((([] : List Change) ++ ((d.drop (0 : Int).toNat).take (k2.toNat - (0 : Int).toNat))) ++ ([c_] : List Change)) (([] : List Change) ++ ((d.drop k2.toNat).take ((d.length : Int).toNat - k2.toNat))) rfl h2220 (.slice A143 n144 c145) rfl h2224.sx 1 rfl hb154 fun w2225 A2226 n2227 c2228 g2229 s2230 hc2231 h2232 => ?_
      have hM2233 := Gm.tq hM2221 g2229 hv2222
      have hv2234 := hv_app (L := [blk (.slice A2186 n2187 c2188), blk (.slice A2214 n2215 c2216), blk (.slice A143 n144 c145)]) (O := O) (i := 1) hM2221 rfl hv2222 s2230 hc2231
      refine L_nil ⟨hM2233, ?_⟩
      refine M_pu 10 rfl (by kernel_rfl) hM2233 (P_assign (.slice A2226 n2227 c2228) rfl) ?_
      refine M_nil (by kernel_rfl) ?_
      have hc2236 := hc2231.drop 0 rfl
      have hc2237 := hc2236.drop 1 rfl
      have h2238 := (Ow.sd (L := [blk (.slice A2226 n2227 c2228), blk (.slice A143 n144 c145)]) (O := O) (Ow.sd (L := [blk (.slice A2186 n2187 c2188), blk (.slice A2226 n2227 c2228), blk (.slice A143 n144 c145)]) (O := O) h2232 (i := 1) rfl (j := 0) rfl (by decide)) (i := 0) rfl (j := 1) rfl (by decide))
      exact ⟨A2226, n2227, c2228, ⟨rfl, trivial⟩, hc2237, h2238⟩
    ·have h2183 := ((((h72.st (.new _ g116)).st (.own _ _ g129 hr130)).st s147).st (.new _ g156))
     have h2184 := ((((h73.st (.new _ g116)).st (.own _ _ g129 hr130)).st s147).st (.new _ g156))
     have h2185 := ((((h74.st (.new _ g116)).st (.own _ _ g129 hr130)).st s147).st (.new _ g156))
     have h2186 := ((((h75.st (.new _ g116)).st (.own _ _ g129 hr130)).st s147).st (.new _ g156))
     refine L_lit (kd := kChange) ei43 hc2167 ([c_] : List Change) (cells := [vs c_.Id, vb c_.Had, vs c_.Was.Id, vi c_.Was.Shape.Kind, .slice A8 n9 c10, .slice A13 n14 c15, vb c_.Has, vs c_.Now.Id, vi c_.Now.Shape.Kind, .slice A19 n20 c21, .slice A24 n25 c26]) ⟨[vs c_.Id, vb c_.Had, vs c_.Was.Id, vi c_.Was.Shape.Kind, .slice A8 n9 c10, .slice A13 n14 c15, vb c_.Has, vs c_.Now.Id, vi c_.Now.Shape.Kind, .slice A19 n20 c21, .slice A24 n25 c26], _, rfl, (kChange.mk _ _ c_ hs6 hs7 h2183 h2184 hs18 h2185 h2186), rfl⟩ (fun _ => by kernel_rfl) fun w2175 A2176 n2177 c2178 g2179 hr2180 hc2181 h2182 => ?_
     have hM2188 := Gm.tm hM157 g2179
     refine L_nil ⟨hM2188, ?_⟩
     refine M_any1 0 (by kernel_rfl) rfl ?_
     refine L_lit (kd := kChange) ei43 hc2181 ([] : List Change) (cells := []) rfl (fun _ => by kernel_rfl) fun w2189 A2190 n2191 c2192 g2193 hr2194 hc2195 h2196 => ?_
     have hM2198 := Gm.tm hM2188 g2193
     refine L_nil ⟨hM2198, ?_⟩
     refine M_any1 4 (by kernel_rfl) rfl ?_
     have h2199 := ((h2171.st (.own _ _ g2179 hr2180)).st (.own _ _ g2193 hr2194))
     refine L_app ei43 hc2195 (.slice A2190 n2191 c2192) ([] : List Change) ((d.drop (0 : Int).toNat).take (k2.toNat - (0 : Int).toNat)) rfl h2196 (.slice A2168 n2169 c2170) rfl h2199.sx 0 rfl hb152 fun w2200 A2201 n2202 c2203 g2204 s2205 hc2206 h2207 => ?_
     have hM2208 := Gm.tq hM2198 g2204 (hv_new hM2188 hr2194)
     have hv2209 := hv_app (L := [blk (.slice A2190 n2191 c2192), blk (.slice A2176 n2177 c2178), blk (.slice A143 n144 c145)]) (O := O) (i := 0) hM2198 rfl (hv_new hM2188 hr2194) s2205 hc2206
     refine L_nil ⟨hM2208, ?_⟩
     refine M_any1 7 (by kernel_rfl) rfl ?_
     have h2211 := (Ow.sm (L := [blk (.slice A2190 n2191 c2192), blk (.slice A2176 n2177 c2178), blk (.slice A143 n144 c145)]) (O := O) (h2182.so _ g2193 hr2194) hc2195 (i := 1) rfl (j := 0) rfl (by decide) g2204 s2205)
     refine L_app ei43 hc2206 (.slice A2201 n2202 c2203) (([] : List Change) ++ ((d.drop (0 : Int).toNat).take (k2.toNat - (0 : Int).toNat))) ([c_] : List Change) rfl h2207 (.slice A2176 n2177 c2178) rfl h2211.sx 0 rfl hb153 fun w2212 A2213 n2214 c2215 g2216 s2217 hc2218 h2219 => ?_
     have hM2220 := Gm.tq hM2208 g2216 hv2209
     have hv2221 := hv_app (L := [blk (.slice A2201 n2202 c2203), blk (.slice A2176 n2177 c2178), blk (.slice A143 n144 c145)]) (O := O) (i := 0) hM2208 rfl hv2209 s2217 hc2218
     refine L_nil ⟨hM2220, ?_⟩
     refine M_any1 9 (by kernel_rfl) rfl ?_
     have h2223 := (Ow.sm (L := [blk (.slice A2201 n2202 c2203), blk (.slice A2176 n2177 c2178), blk (.slice A143 n144 c145)]) (O := O) (Ow.sm (L := [blk (.slice A2190 n2191 c2192), blk (.slice A2176 n2177 c2178), blk (.slice A143 n144 c145)]) (O := O) (((h149.sn g156).so _ g2179 hr2180).so _ g2193 hr2194) hc2195 (i := 2) rfl (j := 0) rfl (by decide) g2204 s2205) hc2206 (i := 2) rfl (j := 0) rfl (by decide) g2216 s2217)
     refine L_app ei43 hc2218 (.slice A2213 n2214 c2215) ((([] : List Change) ++ ((d.drop (0 : Int).toNat).take (k2.toNat - (0 : Int).toNat))) ++ ([c_] : List Change)) (([] : List Change) ++ ((d.drop k2.toNat).take ((d.length : Int).toNat - k2.toNat))) rfl h2219 (.slice A143 n144 c145) rfl h2223.sx 0 rfl hb154 fun w2224 A2225 n2226 c2227 g2228 s2229 hc2230 h2231 => ?_
     have hM2232 := Gm.tq hM2220 g2228 hv2221
     have hv2233 := hv_app (L := [blk (.slice A2213 n2214 c2215), blk (.slice A2176 n2177 c2178), blk (.slice A143 n144 c145)]) (O := O) (i := 0) hM2220 rfl hv2221 s2229 hc2230
     refine L_nil ⟨hM2232, ?_⟩
     refine M_pu 10 rfl (by kernel_rfl) hM2232 (P_assign (.slice A2225 n2226 c2227) rfl) ?_
     refine M_nil (by kernel_rfl) ?_
     have hc2235 := hc2230.drop 1 rfl
     have hc2236 := hc2235.drop 1 rfl
     have h2237 := (Ow.sd (L := [blk (.slice A2225 n2226 c2227), blk (.slice A143 n144 c145)]) (O := O) (Ow.sd (L := [blk (.slice A2225 n2226 c2227), blk (.slice A2176 n2177 c2178), blk (.slice A143 n144 c145)]) (O := O) h2231 (i := 0) rfl (j := 1) rfl (by decide)) (i := 0) rfl (j := 1) rfl (by decide))
     exact ⟨A2225, n2226, c2227, ⟨rfl, trivial⟩, hc2236, h2237⟩
   ·rintro u2240 w2160 ⟨A2164, n2165, c2166, hh2238, hc2162, h2163⟩
    obtain ⟨u2239, rfl⟩ := Has.ins hh2238
    refine W_ret ?_
    exact ⟨[.slice A2164 n2165 c2166], ⟨_, rfl, rfl⟩, (((([] : List Change) ++ ((d.drop (0 : Int).toNat).take (k2.toNat - (0 : Int).toNat))) ++ ([c_] : List Change)) ++ (([] : List Change) ++ ((d.drop k2.toNat).take ((d.length : Int).toNat - k2.toNat)))), A2164, n2165, c2166, rfl, H, hc2162.gr.g0, hc2162.ok, hc2162.ge, h2163⟩
 ·have H := ite_f H hq84
  refine Q_pass (dj := 11) rfl rfl (.inl (by exact congrArg Value.bool hq84)) ?_
  refine Q_pass (dj := 11) rfl rfl (.inl (by exact congrArg Value.bool hq84)) ?_
  refine Q_pass (dj := 11) rfl rfl (.inl (by exact congrArg Value.bool hq84)) ?_
  refine Q_pass (dj := 11) rfl rfl (.inl (by exact congrArg Value.bool hq84)) ?_
  refine Q_pass (dj := 11) rfl rfl (.inl (by exact congrArg Value.bool hq84)) ?_
  refine Q_pass (dj := 11) rfl rfl (.inl (by exact congrArg Value.bool hq84)) ?_
  refine Q_pass (dj := 11) rfl rfl (.inl (by exact congrArg Value.bool hq84)) ?_
  refine Q_pass (dj := 11) rfl rfl (.inl (by exact congrArg Value.bool hq84)) ?_
  refine Q_pu (P_pick false (vb false) (by exact congrArg Value.bool hq84) rfl) ?_
  refine Q_nil fun w2241 g2242 => ?_
  have hc2244 := hc70.k0 g2242
  refine W_cf (b := false) rfl rfl ?_
  refine W_exit (xin_hit ?_)
  refine W_seq ?_
  refine W_reg ?_
  refine L_lit (kd := kChange) ei43 hc2244 ([] : List Change) (cells := []) rfl (fun _ => by kernel_rfl) fun w2245 A2246 n2247 c2248 g2249 hr2250 hc2251 h2252 => ?_
  refine L_pu (P_move (.slice A1 n2 c3) rfl) ?_
  refine L_pu (P_move (vi k2) rfl) ?_
  obtain ⟨hb2254, H⟩ := H
  have h2259 := ((h71.st (.new _ g2242)).st (.own _ _ g2249 hr2250))
  refine L_cuts Try.underlying43 se43 A1 n2 c3 d rfl h2259 k2 (d.length : Int) rfl (bd_none h2259.len) hb2254 fun A2255 n2256 c2257 h2258 => ?_
  obtain ⟨hb2261, H⟩ := H
  refine L_app ei43 hc2251 (.slice A2246 n2247 c2248) ([] : List Change) ((d.drop k2.toNat).take ((d.length : Int).toNat - k2.toNat)) rfl h2252 (.slice A2255 n2256 c2257) rfl h2258.sx 0 rfl hb2261 fun w2262 A2263 n2264 c2265 g2266 s2267 hc2268 h2269 => ?_
  refine L_pu (P_assign (.slice A2263 n2264 c2265) rfl) ?_
  refine L_nil ?_
  refine W_seq ?_
  obtain ⟨hb2271, H⟩ := H
  obtain ⟨hb2272, H⟩ := H
  obtain ⟨hb2273, H⟩ := H
  obtain ⟨hb2274, H⟩ := H
  refine W_join (J := (fun t w4280 => ∃ (A4284 : Option Addr) (n4285 : Nat) (c4286 : Nat), Has t [(4, .slice A4284 n4285 c4286)] ∧ Ct [] w0 w4280 [blk (.slice A4284 n4285 c4286)] O ∧ Ow kChange 103 w4280 ([blk (.slice A4284 n4285 c4286)] ++ O) (.slice A4284 n4285 c4286) (((([] : List Change) ++ ((d.drop (0 : Int).toNat).take (k2.toNat - (0 : Int).toNat))) ++ ([c_] : List Change)) ++ (([] : List Change) ++ ((d.drop k2.toNat).take ((d.length : Int).toNat - k2.toNat)))))) ?_ ?_
  ·refine W_mixr 11 [] (by kernel_rfl) rfl fun w2275 g2276 hM2277 => ?_
   have hc4287 := hc2268.k0 g2276
   refine M_pu 1 rfl (by kernel_rfl) hM2277 (P_move (.slice A1 n2 c3) rfl) ?_
   refine M_pu 2 rfl (by kernel_rfl) hM2277 (P_move (vi k2) rfl) ?_
   have h4292 := ((h2259.st s2267).st (.new _ g2276))
   refine M_cuts 3 rfl (by kernel_rfl) hM2277 Try.underlying43 se43 A1 n2 c3 d rfl h4292 0 k2 rfl rfl hb2271 fun A4288 n4289 c4290 h4291 => ?_
   have h4294 := ((((h76.st (.new _ g2242)).st (.own _ _ g2249 hr2250)).st s2267).st (.new _ g2276))
   refine M_pu 5 rfl (by kernel_rfl) hM2277 (P_ldar ag103 sz103 cR ⟨b30, 0, none⟩ [vs c_.Id, vb c_.Had, vs c_.Was.Id, vi c_.Was.Shape.Kind, .slice A8 n9 c10, .slice A13 n14 c15, vb c_.Has, vs c_.Now.Id, vi c_.Now.Shape.Kind, .slice A19 n20 c21, .slice A24 n25 c26] rfl rfl (h4294.cells (off := 0) rfl) nm_nil) ?_
   refine M_pu 8 rfl (by kernel_rfl) hM2277 (P_move (.slice A2263 n2264 c2265) rfl) ?_
   refine M_any2 0 6 (by kernel_rfl) rfl rfl ?_ ?_
   ·refine L_lit (kd := kChange) ei43 hc4287 ([] : List Change) (cells := []) rfl (fun _ => by kernel_rfl) fun w4295 A4296 n4297 c4298 g4299 hr4300 hc4301 h4302 => ?_
    have hM4304 := Gm.tm hM2277 g4299
    refine L_nil ⟨hM4304, ?_⟩
    refine M_any2 4 6 (by kernel_rfl) rfl rfl ?_ ?_
    ·refine L_app ei43 hc4301 (.slice A4296 n4297 c4298) ([] : List Change) ((d.drop (0 : Int).toNat).take (k2.toNat - (0 : Int).toNat)) rfl h4302 (.slice A4288 n4289 c4290) rfl (h4291.st (.own _ _ g4299 hr4300)).sx 0 rfl hb2272 fun w4305 A4306 n4307 c4308 g4309 s4310 hc4311 h4312 => ?_
     have hM4313 := Gm.tq hM4304 g4309 (hv_new hM2277 hr4300)
     have hv4314 := hv_app (L := [blk (.slice A4296 n4297 c4298), blk (.slice A2263 n2264 c2265)]) (O := O) (i := 0) hM4304 rfl (hv_new hM2277 hr4300) s4310 hc4311
     refine L_nil ⟨hM4313, ?_⟩
     refine M_any1 6 (by kernel_rfl) rfl ?_
     have h4324 := ((((((h72.st (.new _ g2242)).st (.own _ _ g2249 hr2250)).st s2267).st (.new _ g2276)).st (.own _ _ g4299 hr4300)).st s4310)
     have h4325 := ((((((h73.st (.new _ g2242)).st (.own _ _ g2249 hr2250)).st s2267).st (.new _ g2276)).st (.own _ _ g4299 hr4300)).st s4310)
     have h4326 := ((((((h74.st (.new _ g2242)).st (.own _ _ g2249 hr2250)).st s2267).st (.new _ g2276)).st (.own _ _ g4299 hr4300)).st s4310)
     have h4327 := ((((((h75.st (.new _ g2242)).st (.own _ _ g2249 hr2250)).st s2267).st (.new _ g2276)).st (.own _ _ g4299 hr4300)).st s4310)
     refine L_lit (kd := kChange) ei43 hc4311 ([c_] : List Change) (cells := [vs c_.Id, vb c_.Had, vs c_.Was.Id, vi c_.Was.Shape.Kind, .slice A8 n9 c10, .slice A13 n14 c15, vb c_.Has, vs c_.Now.Id, vi c_.Now.Shape.Kind, .slice A19 n20 c21, .slice A24 n25 c26]) ⟨[vs c_.Id, vb c_.Had, vs c_.Was.Id, vi c_.Was.Shape.Kind, .slice A8 n9 c10, .slice A13 n14 c15, vb c_.Has, vs c_.Now.Id, vi c_.Now.Shape.Kind, .slice A19 n20 c21, .slice A24 n25 c26], _, rfl, (kChange.mk _ _ c_ hs6 hs7 h4324 h4325 hs18 h4326 h4327), rfl⟩ (fun _ => by kernel_rfl) fun w4316 A4317 n4318 c4319 g4320 hr4321 hc4322 h4323 => ?_
     have hM4329 := Gm.tm hM4313 g4320
     refine L_nil ⟨hM4329, ?_⟩
     refine M_any1 7 (by kernel_rfl) rfl ?_
     have h4330 := (h4312.so _ g4320 hr4321)
     refine L_app ei43 hc4322 (.slice A4306 n4307 c4308) (([] : List Change) ++ ((d.drop (0 : Int).toNat).take (k2.toNat - (0 : Int).toNat))) ([c_] : List Change) rfl h4330 (.slice A4317 n4318 c4319) rfl h4323.sx 1 rfl hb2273 fun w4331 A4332 n4333 c4334 g4335 s4336 hc4337 h4338 => ?_
     have hM4339 := Gm.tq hM4329 g4335 hv4314
     have hv4340 := hv_app (L := [blk (.slice A4317 n4318 c4319), blk (.slice A4306 n4307 c4308), blk (.slice A2263 n2264 c2265)]) (O := O) (i := 1) hM4329 rfl hv4314 s4336 hc4337
     refine L_nil ⟨hM4339, ?_⟩
     refine M_any1 9 (by kernel_rfl) rfl ?_
     have h4342 := (Ow.sm (L := [blk (.slice A4317 n4318 c4319), blk (.slice A4306 n4307 c4308), blk (.slice A2263 n2264 c2265)]) (O := O) ((Ow.sm (L := [blk (.slice A4296 n4297 c4298), blk (.slice A2263 n2264 c2265)]) (O := O) ((h2269.sn g2276).so _ g4299 hr4300) hc4301 (i := 1) rfl (j := 0) rfl (by decide) g4309 s4310).so _ g4320 hr4321) hc4322 (i := 2) rfl (j := 1) rfl (by decide) g4335 s4336)
     refine L_app ei43 hc4337 (.slice A4332 n4333 c4334) ((([] : List Change) ++ ((d.drop (0 : Int).toNat).take (k2.toNat - (0 : Int).toNat))) ++ ([c_] : List Change)) (([] : List Change) ++ ((d.drop k2.toNat).take ((d.length : Int).toNat - k2.toNat))) rfl h4338 (.slice A2263 n2264 c2265) rfl h4342.sx 1 rfl hb2274 fun w4343 A4344 n4345 c4346 g4347 s4348 hc4349 h4350 => ?_
     have hM4351 := Gm.tq hM4339 g4347 hv4340
     have hv4352 := hv_app (L := [blk (.slice A4317 n4318 c4319), blk (.slice A4332 n4333 c4334), blk (.slice A2263 n2264 c2265)]) (O := O) (i := 1) hM4339 rfl hv4340 s4348 hc4349
     refine L_nil ⟨hM4351, ?_⟩
     refine M_pu 10 rfl (by kernel_rfl) hM4351 (P_assign (.slice A4344 n4345 c4346) rfl) ?_
     refine M_nil (by kernel_rfl) ?_
     have hc4354 := hc4349.drop 0 rfl
     have hc4355 := hc4354.drop 1 rfl
     have h4356 := (Ow.sd (L := [blk (.slice A4344 n4345 c4346), blk (.slice A2263 n2264 c2265)]) (O := O) (Ow.sd (L := [blk (.slice A4317 n4318 c4319), blk (.slice A4344 n4345 c4346), blk (.slice A2263 n2264 c2265)]) (O := O) h4350 (i := 1) rfl (j := 0) rfl (by decide)) (i := 0) rfl (j := 1) rfl (by decide))
     exact ⟨A4344, n4345, c4346, ⟨rfl, trivial⟩, hc4355, h4356⟩
    ·have h4313 := (((((h72.st (.new _ g2242)).st (.own _ _ g2249 hr2250)).st s2267).st (.new _ g2276)).st (.own _ _ g4299 hr4300))
     have h4314 := (((((h73.st (.new _ g2242)).st (.own _ _ g2249 hr2250)).st s2267).st (.new _ g2276)).st (.own _ _ g4299 hr4300))
     have h4315 := (((((h74.st (.new _ g2242)).st (.own _ _ g2249 hr2250)).st s2267).st (.new _ g2276)).st (.own _ _ g4299 hr4300))
     have h4316 := (((((h75.st (.new _ g2242)).st (.own _ _ g2249 hr2250)).st s2267).st (.new _ g2276)).st (.own _ _ g4299 hr4300))
     refine L_lit (kd := kChange) ei43 hc4301 ([c_] : List Change) (cells := [vs c_.Id, vb c_.Had, vs c_.Was.Id, vi c_.Was.Shape.Kind, .slice A8 n9 c10, .slice A13 n14 c15, vb c_.Has, vs c_.Now.Id, vi c_.Now.Shape.Kind, .slice A19 n20 c21, .slice A24 n25 c26]) ⟨[vs c_.Id, vb c_.Had, vs c_.Was.Id, vi c_.Was.Shape.Kind, .slice A8 n9 c10, .slice A13 n14 c15, vb c_.Has, vs c_.Now.Id, vi c_.Now.Shape.Kind, .slice A19 n20 c21, .slice A24 n25 c26], _, rfl, (kChange.mk _ _ c_ hs6 hs7 h4313 h4314 hs18 h4315 h4316), rfl⟩ (fun _ => by kernel_rfl) fun w4305 A4306 n4307 c4308 g4309 hr4310 hc4311 h4312 => ?_
     have hM4318 := Gm.tm hM4304 g4309
     refine L_nil ⟨hM4318, ?_⟩
     refine M_any1 4 (by kernel_rfl) rfl ?_
     have h4319 := ((h4291.st (.own _ _ g4299 hr4300)).st (.own _ _ g4309 hr4310))
     have h4320 := (h4302.so _ g4309 hr4310)
     refine L_app ei43 hc4311 (.slice A4296 n4297 c4298) ([] : List Change) ((d.drop (0 : Int).toNat).take (k2.toNat - (0 : Int).toNat)) rfl h4320 (.slice A4288 n4289 c4290) rfl h4319.sx 1 rfl hb2272 fun w4321 A4322 n4323 c4324 g4325 s4326 hc4327 h4328 => ?_
     have hM4329 := Gm.tq hM4318 g4325 (hv_new hM2277 hr4300)
     have hv4330 := hv_app (L := [blk (.slice A4306 n4307 c4308), blk (.slice A4296 n4297 c4298), blk (.slice A2263 n2264 c2265)]) (O := O) (i := 1) hM4318 rfl (hv_new hM2277 hr4300) s4326 hc4327
     refine L_nil ⟨hM4329, ?_⟩
     refine M_any1 7 (by kernel_rfl) rfl ?_
     have h4332 := (Ow.sm (L := [blk (.slice A4306 n4307 c4308), blk (.slice A4296 n4297 c4298), blk (.slice A2263 n2264 c2265)]) (O := O) h4312 hc4311 (i := 0) rfl (j := 1) rfl (by decide) g4325 s4326)
     refine L_app ei43 hc4327 (.slice A4322 n4323 c4324) (([] : List Change) ++ ((d.drop (0 : Int).toNat).take (k2.toNat - (0 : Int).toNat))) ([c_] : List Change) rfl h4328 (.slice A4306 n4307 c4308) rfl h4332.sx 1 rfl hb2273 fun w4333 A4334 n4335 c4336 g4337 s4338 hc4339 h4340 => ?_
     have hM4341 := Gm.tq hM4329 g4337 hv4330
     have hv4342 := hv_app (L := [blk (.slice A4306 n4307 c4308), blk (.slice A4322 n4323 c4324), blk (.slice A2263 n2264 c2265)]) (O := O) (i := 1) hM4329 rfl hv4330 s4338 hc4339
     refine L_nil ⟨hM4341, ?_⟩
     refine M_any1 9 (by kernel_rfl) rfl ?_
     have h4344 := (Ow.sm (L := [blk (.slice A4306 n4307 c4308), blk (.slice A4322 n4323 c4324), blk (.slice A2263 n2264 c2265)]) (O := O) (Ow.sm (L := [blk (.slice A4306 n4307 c4308), blk (.slice A4296 n4297 c4298), blk (.slice A2263 n2264 c2265)]) (O := O) (((h2269.sn g2276).so _ g4299 hr4300).so _ g4309 hr4310) hc4311 (i := 2) rfl (j := 1) rfl (by decide) g4325 s4326) hc4327 (i := 2) rfl (j := 1) rfl (by decide) g4337 s4338)
     refine L_app ei43 hc4339 (.slice A4334 n4335 c4336) ((([] : List Change) ++ ((d.drop (0 : Int).toNat).take (k2.toNat - (0 : Int).toNat))) ++ ([c_] : List Change)) (([] : List Change) ++ ((d.drop k2.toNat).take ((d.length : Int).toNat - k2.toNat))) rfl h4340 (.slice A2263 n2264 c2265) rfl h4344.sx 1 rfl hb2274 fun w4345 A4346 n4347 c4348 g4349 s4350 hc4351 h4352 => ?_
     have hM4353 := Gm.tq hM4341 g4349 hv4342
     have hv4354 := hv_app (L := [blk (.slice A4306 n4307 c4308), blk (.slice A4334 n4335 c4336), blk (.slice A2263 n2264 c2265)]) (O := O) (i := 1) hM4341 rfl hv4342 s4350 hc4351
     refine L_nil ⟨hM4353, ?_⟩
     refine M_pu 10 rfl (by kernel_rfl) hM4353 (P_assign (.slice A4346 n4347 c4348) rfl) ?_
     refine M_nil (by kernel_rfl) ?_
     have hc4356 := hc4351.drop 0 rfl
     have hc4357 := hc4356.drop 1 rfl
     have h4358 := (Ow.sd (L := [blk (.slice A4346 n4347 c4348), blk (.slice A2263 n2264 c2265)]) (O := O) (Ow.sd (L := [blk (.slice A4306 n4307 c4308), blk (.slice A4346 n4347 c4348), blk (.slice A2263 n2264 c2265)]) (O := O) h4352 (i := 1) rfl (j := 0) rfl (by decide)) (i := 0) rfl (j := 1) rfl (by decide))
     exact ⟨A4346, n4347, c4348, ⟨rfl, trivial⟩, hc4357, h4358⟩
   ·have h4303 := ((((h72.st (.new _ g2242)).st (.own _ _ g2249 hr2250)).st s2267).st (.new _ g2276))
    have h4304 := ((((h73.st (.new _ g2242)).st (.own _ _ g2249 hr2250)).st s2267).st (.new _ g2276))
    have h4305 := ((((h74.st (.new _ g2242)).st (.own _ _ g2249 hr2250)).st s2267).st (.new _ g2276))
    have h4306 := ((((h75.st (.new _ g2242)).st (.own _ _ g2249 hr2250)).st s2267).st (.new _ g2276))
    refine L_lit (kd := kChange) ei43 hc4287 ([c_] : List Change) (cells := [vs c_.Id, vb c_.Had, vs c_.Was.Id, vi c_.Was.Shape.Kind, .slice A8 n9 c10, .slice A13 n14 c15, vb c_.Has, vs c_.Now.Id, vi c_.Now.Shape.Kind, .slice A19 n20 c21, .slice A24 n25 c26]) ⟨[vs c_.Id, vb c_.Had, vs c_.Was.Id, vi c_.Was.Shape.Kind, .slice A8 n9 c10, .slice A13 n14 c15, vb c_.Has, vs c_.Now.Id, vi c_.Now.Shape.Kind, .slice A19 n20 c21, .slice A24 n25 c26], _, rfl, (kChange.mk _ _ c_ hs6 hs7 h4303 h4304 hs18 h4305 h4306), rfl⟩ (fun _ => by kernel_rfl) fun w4295 A4296 n4297 c4298 g4299 hr4300 hc4301 h4302 => ?_
    have hM4308 := Gm.tm hM2277 g4299
    refine L_nil ⟨hM4308, ?_⟩
    refine M_any1 0 (by kernel_rfl) rfl ?_
    refine L_lit (kd := kChange) ei43 hc4301 ([] : List Change) (cells := []) rfl (fun _ => by kernel_rfl) fun w4309 A4310 n4311 c4312 g4313 hr4314 hc4315 h4316 => ?_
    have hM4318 := Gm.tm hM4308 g4313
    refine L_nil ⟨hM4318, ?_⟩
    refine M_any1 4 (by kernel_rfl) rfl ?_
    have h4319 := ((h4291.st (.own _ _ g4299 hr4300)).st (.own _ _ g4313 hr4314))
    refine L_app ei43 hc4315 (.slice A4310 n4311 c4312) ([] : List Change) ((d.drop (0 : Int).toNat).take (k2.toNat - (0 : Int).toNat)) rfl h4316 (.slice A4288 n4289 c4290) rfl h4319.sx 0 rfl hb2272 fun w4320 A4321 n4322 c4323 g4324 s4325 hc4326 h4327 => ?_
    have hM4328 := Gm.tq hM4318 g4324 (hv_new hM4308 hr4314)
    have hv4329 := hv_app (L := [blk (.slice A4310 n4311 c4312), blk (.slice A4296 n4297 c4298), blk (.slice A2263 n2264 c2265)]) (O := O) (i := 0) hM4318 rfl (hv_new hM4308 hr4314) s4325 hc4326
    refine L_nil ⟨hM4328, ?_⟩
    refine M_any1 7 (by kernel_rfl) rfl ?_
    have h4331 := (Ow.sm (L := [blk (.slice A4310 n4311 c4312), blk (.slice A4296 n4297 c4298), blk (.slice A2263 n2264 c2265)]) (O := O) (h4302.so _ g4313 hr4314) hc4315 (i := 1) rfl (j := 0) rfl (by decide) g4324 s4325)
    refine L_app ei43 hc4326 (.slice A4321 n4322 c4323) (([] : List Change) ++ ((d.drop (0 : Int).toNat).take (k2.toNat - (0 : Int).toNat))) ([c_] : List Change) rfl h4327 (.slice A4296 n4297 c4298) rfl h4331.sx 0 rfl hb2273 fun w4332 A4333 n4334 c4335 g4336 s4337 hc4338 h4339 => ?_
    have hM4340 := Gm.tq hM4328 g4336 hv4329
    have hv4341 := hv_app (L := [blk (.slice A4321 n4322 c4323), blk (.slice A4296 n4297 c4298), blk (.slice A2263 n2264 c2265)]) (O := O) (i := 0) hM4328 rfl hv4329 s4337 hc4338
    refine L_nil ⟨hM4340, ?_⟩
    refine M_any1 9 (by kernel_rfl) rfl ?_
    have h4343 := (Ow.sm (L := [blk (.slice A4321 n4322 c4323), blk (.slice A4296 n4297 c4298), blk (.slice A2263 n2264 c2265)]) (O := O) (Ow.sm (L := [blk (.slice A4310 n4311 c4312), blk (.slice A4296 n4297 c4298), blk (.slice A2263 n2264 c2265)]) (O := O) (((h2269.sn g2276).so _ g4299 hr4300).so _ g4313 hr4314) hc4315 (i := 2) rfl (j := 0) rfl (by decide) g4324 s4325) hc4326 (i := 2) rfl (j := 0) rfl (by decide) g4336 s4337)
    refine L_app ei43 hc4338 (.slice A4333 n4334 c4335) ((([] : List Change) ++ ((d.drop (0 : Int).toNat).take (k2.toNat - (0 : Int).toNat))) ++ ([c_] : List Change)) (([] : List Change) ++ ((d.drop k2.toNat).take ((d.length : Int).toNat - k2.toNat))) rfl h4339 (.slice A2263 n2264 c2265) rfl h4343.sx 0 rfl hb2274 fun w4344 A4345 n4346 c4347 g4348 s4349 hc4350 h4351 => ?_
    have hM4352 := Gm.tq hM4340 g4348 hv4341
    have hv4353 := hv_app (L := [blk (.slice A4333 n4334 c4335), blk (.slice A4296 n4297 c4298), blk (.slice A2263 n2264 c2265)]) (O := O) (i := 0) hM4340 rfl hv4341 s4349 hc4350
    refine L_nil ⟨hM4352, ?_⟩
    refine M_pu 10 rfl (by kernel_rfl) hM4352 (P_assign (.slice A4345 n4346 c4347) rfl) ?_
    refine M_nil (by kernel_rfl) ?_
    have hc4355 := hc4350.drop 1 rfl
    have hc4356 := hc4355.drop 1 rfl
    have h4357 := (Ow.sd (L := [blk (.slice A4345 n4346 c4347), blk (.slice A2263 n2264 c2265)]) (O := O) (Ow.sd (L := [blk (.slice A4345 n4346 c4347), blk (.slice A4296 n4297 c4298), blk (.slice A2263 n2264 c2265)]) (O := O) h4351 (i := 0) rfl (j := 1) rfl (by decide)) (i := 0) rfl (j := 1) rfl (by decide))
    exact ⟨A4345, n4346, c4347, ⟨rfl, trivial⟩, hc4356, h4357⟩
  ·rintro u4360 w4280 ⟨A4284, n4285, c4286, hh4358, hc4282, h4283⟩
   obtain ⟨u4359, rfl⟩ := Has.ins hh4358
   refine W_ret ?_
   exact ⟨[.slice A4284 n4285 c4286], ⟨_, rfl, rfl⟩, (((([] : List Change) ++ ((d.drop (0 : Int).toNat).take (k2.toNat - (0 : Int).toNat))) ++ ([c_] : List Change)) ++ (([] : List Change) ++ ((d.drop k2.toNat).take ((d.length : Int).toNat - k2.toNat)))), A4284, n4285, c4286, rfl, H, hc4282.gr.g0, hc4282.ok, hc4282.ge, h4283⟩
end Go.Proofs.Ytndjggncgpjolaa

namespace Go.Proofs.Ytndjggncgpjolaa
set_option linter.unusedVariables false
set_option linter.unusedSimpArgs false
set_option linter.unusedSectionVars false
theorem spec_l4Put.law (d : List Change) (c : Change) (Q : List Change → Prop) (hl : d.length ≤ 1048576) (hs : CS d) (hc : c.Id ∉ idsC d) (hq : ∀ r, CS r → (∀ x, x ∈ r ↔ x ∈ d ∨ x = c) → r.length = d.length + 1 → Q r) : spec_l4Put.E d c Q := by
 unfold spec_l4Put.E
 have fin : ∀ k : Nat, k ≤ d.length → (∀ j, j < k → Op.bytesLess (nth d (j : Int)).Id c.Id = true) → (k = d.length ∨ Op.bytesLess (nth d (k : Int)).Id c.Id = false) → Q (d.take k ++ [c] ++ d.drop k) := fun k hk h1 h2 => by
  have e : d = d.take k ++ d.drop k := (List.take_append_drop k d).symm
  have hs' := hs
  rw [e] at hs'
  obtain ⟨p1, p2, p3⟩ := List.pairwise_append.1 hs'
  refine hq _ ?_ (fun x => ?_) ?_
  ·refine List.pairwise_append.2 ⟨List.pairwise_append.2 ⟨p1, List.pairwise_singleton _ _, fun x hx y hy => ?_⟩, p2, fun x hx y hy => ?_⟩
   ·rw [List.mem_singleton.1 hy]
    obtain ⟨j, hj, rfl⟩ := List.getElem_of_mem hx
    have hj2 : j < k := by rw [List.length_take] at hj; omega
    have := h1 j hj2
    rw [nth_nat d (by omega)] at this
    rw [List.getElem_take]; exact this
   ·rcases List.mem_append.1 hx with hx | hx
    ·exact p3 x hx y hy
    ·rw [List.mem_singleton.1 hx]
     rcases h2 with h2 | h2
     ·rw [h2, List.drop_length] at hy; cases hy
     ·have hkl : k < d.length := by
       rcases Nat.lt_or_ge k d.length with g | g
       ·exact g
       ·rw [List.drop_eq_nil_of_le g] at hy; cases hy
      have hlt : Op.bytesLess c.Id (nth d (k : Int)).Id = true := by
       rcases less_or h2 with g | g
       ·exact g
       ·exact absurd (List.mem_map.2 ⟨_, nth_mem d hkl, g.symm⟩) hc
      rw [List.drop_eq_getElem_cons hkl] at hy p2
      rw [nth_nat d hkl] at hlt
      rcases List.mem_cons.1 hy with g | g
      ·rw [g]; exact hlt
      ·exact less_trans hlt ((List.pairwise_cons.1 p2).1 y g)
  ·conv => rhs; rw [e]
   simp only [List.mem_append, List.mem_singleton]
   constructor
   ·rintro ((h | h) | h)
    ·exact .inl (.inl h)
    ·exact .inr h
    ·exact .inl (.inr h)
   ·rintro ((h | h) | h)
    ·exact .inl (.inl h)
    ·exact .inr h
    ·exact .inl (.inr h)
  ·conv => rhs; rw [e]
   simp only [List.length_append, List.length_singleton]; omega
 have out : ∀ k : Nat, k ≤ d.length → (∀ j, j < k → Op.bytesLess (nth d (j : Int)).Id c.Id = true) → (k = d.length ∨ Op.bytesLess (nth d (k : Int)).Id c.Id = false) →
   ((0 : Int) ≤ (k : Int) ∧ ((k : Int) : Int) ≤ (d.length : Int) ∧ (d.length : Int) ≤ (d.length : Int)) ∧ (([] : List Change).length + ((d.drop (k : Int).toNat).take ((d.length : Int).toNat - (k : Int).toNat)).length ≤ 268435456) ∧ ((0 : Int) ≤ 0 ∧ (0 : Int) ≤ (k : Int) ∧ (k : Int) ≤ (d.length : Int)) ∧ (([] : List Change).length + ((d.drop (0 : Int).toNat).take ((k : Int).toNat - (0 : Int).toNat)).length ≤ 268435456) ∧ ((([] : List Change) ++ ((d.drop (0 : Int).toNat).take ((k : Int).toNat - (0 : Int).toNat))).length + ([c] : List Change).length ≤ 268435456) ∧ (((([] : List Change) ++ ((d.drop (0 : Int).toNat).take ((k : Int).toNat - (0 : Int).toNat))) ++ ([c] : List Change)).length + (([] : List Change) ++ ((d.drop (k : Int).toNat).take ((d.length : Int).toNat - (k : Int).toNat))).length ≤ 268435456) ∧ Q (((([] : List Change) ++ ((d.drop (0 : Int).toNat).take ((k : Int).toNat - (0 : Int).toNat))) ++ ([c] : List Change)) ++ (([] : List Change) ++ ((d.drop (k : Int).toNat).take ((d.length : Int).toNat - (k : Int).toNat)))) := fun k hk h1 h2 => by
  have t1 : (d.drop (k : Int).toNat).take ((d.length : Int).toNat - (k : Int).toNat) = d.drop k := by
   rw [Int.toNat_natCast, Int.toNat_natCast]; exact List.take_of_length_le (by rw [List.length_drop]; exact Nat.le_refl _)
  have t2 : (d.drop (0 : Int).toNat).take ((k : Int).toNat - (0 : Int).toNat) = d.take k := by
   rw [Int.toNat_natCast, show (0 : Int).toNat = 0 from rfl, List.drop_zero, Nat.sub_zero]
  rw [t1, t2, List.nil_append, List.nil_append]
  refine ⟨by omega, by simp only [List.length_nil, List.length_drop]; omega, by omega, by simp only [List.length_nil, List.length_take]; omega, by simp only [List.length_take, List.length_singleton]; omega, by simp only [List.length_append, List.length_take, List.length_singleton, List.length_drop]; omega, fin k hk h1 h2⟩
 refine ⟨fun i => ∃ k : Nat, i = k ∧ k ≤ d.length ∧ ∀ j, j < k → Op.bytesLess (nth d (j : Int)).Id c.Id = true, fun i => (d.length - i).toNat, ⟨0, rfl, Nat.zero_le _, fun j h => absurd h (by omega)⟩, ?_⟩
 rintro _ ⟨k, rfl, hk, h1⟩
 by_cases h : k < d.length
 ·rw [if_pos (by simpa using h)]
  refine ⟨by omega, ?_⟩
  cases g : Op.bytesLess (nth d (k : Int)).Id c.Id with
  | true =>
   rw [if_pos rfl]
   refine ⟨by omega, ⟨k + 1, by omega, by omega, fun j hj => ?_⟩, by dsimp only; omega⟩
   rcases Nat.lt_or_ge j k with g1 | g1
   ·exact h1 j g1
   ·have : j = k := by omega
    rw [this]; exact g
  | false =>
   rw [if_neg (by decide)]
   exact out k hk h1 (.inr g)
 ·rw [if_neg (by simpa using h)]
  have : k = d.length := by omega
  exact out k hk h1 (.inl this)
end Go.Proofs.Ytndjggncgpjolaa

namespace Go.Proofs.Ytndjggncgpjolaa
open Go.RowKit
set_option linter.unusedVariables false
set_option linter.unusedSimpArgs false
def spec_DiffThen.E (a : List Change) (b : List Change) (Q : List Change → Bool → Prop) : Prop :=
 spec_DiffOk.E a (fun r => (if !r then Q ([] : List Change) false else spec_DiffOk.E b (fun r2 => (if !r2 then Q ([] : List Change) false else (∃ (I82 : (List Change) → Int → Prop) (mu83 : (List Change) → Int → Nat), I82 ([] : List Change) 0 ∧ ∀ (xs2 : List Change) (i2 : Int), I82 xs2 i2 → (if decide (i2 < (a.length : Int)) then ((0 : Int) ≤ i2 ∧ i2 < (a.length : Int)) ∧ spec_l4Find.E b ((nth a i2).Id) (fun r3 => ((0 : Int) ≤ i2 ∧ i2 < (a.length : Int)) ∧ spec_l4Copy.E (nth a i2) (fun r4 => (if decide (r3 ≥ 0) then ((0 : Int) ≤ i2 ∧ i2 < (a.length : Int)) ∧ ((0 : Int) ≤ r3 ∧ r3 < (b.length : Int)) ∧ (if ((nth a i2).Has) != ((nth b r3).Had) then Q ([] : List Change) false else ((0 : Int) ≤ i2 ∧ i2 < (a.length : Int)) ∧ ((0 : Int) ≤ r3 ∧ r3 < (b.length : Int)) ∧ (∃ q : Bool, spec_FeatSame.E ((nth a i2).Now) ((nth b r3).Was) (fun x => x = q) ∧ (if !q then Q ([] : List Change) false else ((0 : Int) ≤ r3 ∧ r3 < (b.length : Int)) ∧ ((0 : Int) ≤ r3 ∧ r3 < (b.length : Int)) ∧ spec_l2Copy.E ((nth b r3).Now) (fun r6 => (if r4.Had != ((nth b r3).Has) then (xs2.length + ([(⟨r4.Id, r4.Had, r4.Was, (nth b r3).Has, r6⟩ : Change)] : List Change).length ≤ 268435456) ∧ (-9223372036854775808 ≤ i2) ∧ I82 (xs2 ++ ([(⟨r4.Id, r4.Had, r4.Was, (nth b r3).Has, r6⟩ : Change)] : List Change)) (i2 + 1) ∧ mu83 (xs2 ++ ([(⟨r4.Id, r4.Had, r4.Was, (nth b r3).Has, r6⟩ : Change)] : List Change)) (i2 + 1) < mu83 xs2 i2 else spec_FeatSame.E r4.Was r6 (fun r7 => (if !r7 then (xs2.length + ([(⟨r4.Id, r4.Had, r4.Was, (nth b r3).Has, r6⟩ : Change)] : List Change).length ≤ 268435456) ∧ (-9223372036854775808 ≤ i2) ∧ I82 (xs2 ++ ([(⟨r4.Id, r4.Had, r4.Was, (nth b r3).Has, r6⟩ : Change)] : List Change)) (i2 + 1) ∧ mu83 (xs2 ++ ([(⟨r4.Id, r4.Had, r4.Was, (nth b r3).Has, r6⟩ : Change)] : List Change)) (i2 + 1) < mu83 xs2 i2 else (-9223372036854775808 ≤ i2) ∧ I82 xs2 (i2 + 1) ∧ mu83 xs2 (i2 + 1) < mu83 xs2 i2))))))) else (if r4.Had != r4.Has then (xs2.length + ([r4] : List Change).length ≤ 268435456) ∧ (-9223372036854775808 ≤ i2) ∧ I82 (xs2 ++ ([r4] : List Change)) (i2 + 1) ∧ mu83 (xs2 ++ ([r4] : List Change)) (i2 + 1) < mu83 xs2 i2 else spec_FeatSame.E r4.Was r4.Now (fun r8 => (if !r8 then (xs2.length + ([r4] : List Change).length ≤ 268435456) ∧ (-9223372036854775808 ≤ i2) ∧ I82 (xs2 ++ ([r4] : List Change)) (i2 + 1) ∧ mu83 (xs2 ++ ([r4] : List Change)) (i2 + 1) < mu83 xs2 i2 else (-9223372036854775808 ≤ i2) ∧ I82 xs2 (i2 + 1) ∧ mu83 xs2 (i2 + 1) < mu83 xs2 i2)))))) else (∃ (I765 : (List Change) → Int → Prop) (mu766 : (List Change) → Int → Nat), I765 xs2 0 ∧ ∀ (xs4 : List Change) (i4 : Int), I765 xs4 i4 → (if decide (i4 < (b.length : Int)) then ((0 : Int) ≤ i4 ∧ i4 < (b.length : Int)) ∧ spec_l4Find.E a ((nth b i4).Id) (fun r9 => (if decide (r9 < 0) then ((0 : Int) ≤ i4 ∧ i4 < (b.length : Int)) ∧ spec_l4Copy.E (nth b i4) (fun r10 => spec_l4Put.E xs4 r10 (fun r11 => (-9223372036854775808 ≤ i4) ∧ I765 r11 (i4 + 1) ∧ mu766 r11 (i4 + 1) < mu766 xs4 i4)) else (-9223372036854775808 ≤ i4) ∧ I765 xs4 (i4 + 1) ∧ mu766 xs4 (i4 + 1) < mu766 xs4 i4)) else spec_DiffOk.E xs4 (fun r12 => (if !r12 then Q ([] : List Change) false else Q xs4 true))))))))))
set_option maxHeartbeats 8000000 in
set_option maxRecDepth 100000 in
theorem spec_DiffThen.calls {O : Ob} (w0 : World) (hO : Ok w0 O) (a : List Change) (A1 : Option Addr) (n2 c3 : Nat) (hp4 : Sl kChange w0 (Fr O) (.slice A1 n2 c3) a) (b : List Change) (A6 : Option Addr) (n7 c8 : Nat) (hp9 : Sl kChange w0 (Fr O) (.slice A6 n7 c8) b) (Q : List Change → Bool → Prop) (h : spec_DiffThen.E a b Q) :
  Ret Try.prog 31 [.slice A1 n2 c3, .slice A6 n7 c8] w0 (fun v w' => ∃ (r0 : List Change) (r1 : Bool) (A0 : Option Addr) (n0 c0 : Nat), v = .tuple #[.slice A0 n0 c0, vb r1] ∧ Q r0 r1 ∧ Gr w0 w' none ∧ Ok w' ([blk (.slice A0 n0 c0)] ++ O) ∧ (∀ b, some b ∈ [blk (.slice A0 n0 c0)] → w0.heap.size ≤ b) ∧ Ow kChange 103 w' ([blk (.slice A0 n0 c0)] ++ O) (.slice A0 n0 c0) r0) := by
 have H : spec_DiffOk.E a (fun r => (if !r then Q ([] : List Change) false else spec_DiffOk.E b (fun r2 => (if !r2 then Q ([] : List Change) false else (∃ (I82 : (List Change) → Int → Prop) (mu83 : (List Change) → Int → Nat), I82 ([] : List Change) 0 ∧ ∀ (xs2 : List Change) (i2 : Int), I82 xs2 i2 → (if decide (i2 < (a.length : Int)) then ((0 : Int) ≤ i2 ∧ i2 < (a.length : Int)) ∧ spec_l4Find.E b ((nth a i2).Id) (fun r3 => ((0 : Int) ≤ i2 ∧ i2 < (a.length : Int)) ∧ spec_l4Copy.E (nth a i2) (fun r4 => (if decide (r3 ≥ 0) then ((0 : Int) ≤ i2 ∧ i2 < (a.length : Int)) ∧ ((0 : Int) ≤ r3 ∧ r3 < (b.length : Int)) ∧ (if ((nth a i2).Has) != ((nth b r3).Had) then Q ([] : List Change) false else ((0 : Int) ≤ i2 ∧ i2 < (a.length : Int)) ∧ ((0 : Int) ≤ r3 ∧ r3 < (b.length : Int)) ∧ (∃ q : Bool, spec_FeatSame.E ((nth a i2).Now) ((nth b r3).Was) (fun x => x = q) ∧ (if !q then Q ([] : List Change) false else ((0 : Int) ≤ r3 ∧ r3 < (b.length : Int)) ∧ ((0 : Int) ≤ r3 ∧ r3 < (b.length : Int)) ∧ spec_l2Copy.E ((nth b r3).Now) (fun r6 => (if r4.Had != ((nth b r3).Has) then (xs2.length + ([(⟨r4.Id, r4.Had, r4.Was, (nth b r3).Has, r6⟩ : Change)] : List Change).length ≤ 268435456) ∧ (-9223372036854775808 ≤ i2) ∧ I82 (xs2 ++ ([(⟨r4.Id, r4.Had, r4.Was, (nth b r3).Has, r6⟩ : Change)] : List Change)) (i2 + 1) ∧ mu83 (xs2 ++ ([(⟨r4.Id, r4.Had, r4.Was, (nth b r3).Has, r6⟩ : Change)] : List Change)) (i2 + 1) < mu83 xs2 i2 else spec_FeatSame.E r4.Was r6 (fun r7 => (if !r7 then (xs2.length + ([(⟨r4.Id, r4.Had, r4.Was, (nth b r3).Has, r6⟩ : Change)] : List Change).length ≤ 268435456) ∧ (-9223372036854775808 ≤ i2) ∧ I82 (xs2 ++ ([(⟨r4.Id, r4.Had, r4.Was, (nth b r3).Has, r6⟩ : Change)] : List Change)) (i2 + 1) ∧ mu83 (xs2 ++ ([(⟨r4.Id, r4.Had, r4.Was, (nth b r3).Has, r6⟩ : Change)] : List Change)) (i2 + 1) < mu83 xs2 i2 else (-9223372036854775808 ≤ i2) ∧ I82 xs2 (i2 + 1) ∧ mu83 xs2 (i2 + 1) < mu83 xs2 i2))))))) else (if r4.Had != r4.Has then (xs2.length + ([r4] : List Change).length ≤ 268435456) ∧ (-9223372036854775808 ≤ i2) ∧ I82 (xs2 ++ ([r4] : List Change)) (i2 + 1) ∧ mu83 (xs2 ++ ([r4] : List Change)) (i2 + 1) < mu83 xs2 i2 else spec_FeatSame.E r4.Was r4.Now (fun r8 => (if !r8 then (xs2.length + ([r4] : List Change).length ≤ 268435456) ∧ (-9223372036854775808 ≤ i2) ∧ I82 (xs2 ++ ([r4] : List Change)) (i2 + 1) ∧ mu83 (xs2 ++ ([r4] : List Change)) (i2 + 1) < mu83 xs2 i2 else (-9223372036854775808 ≤ i2) ∧ I82 xs2 (i2 + 1) ∧ mu83 xs2 (i2 + 1) < mu83 xs2 i2)))))) else (∃ (I765 : (List Change) → Int → Prop) (mu766 : (List Change) → Int → Nat), I765 xs2 0 ∧ ∀ (xs4 : List Change) (i4 : Int), I765 xs4 i4 → (if decide (i4 < (b.length : Int)) then ((0 : Int) ≤ i4 ∧ i4 < (b.length : Int)) ∧ spec_l4Find.E a ((nth b i4).Id) (fun r9 => (if decide (r9 < 0) then ((0 : Int) ≤ i4 ∧ i4 < (b.length : Int)) ∧ spec_l4Copy.E (nth b i4) (fun r10 => spec_l4Put.E xs4 r10 (fun r11 => (-9223372036854775808 ≤ i4) ∧ I765 r11 (i4 + 1) ∧ mu766 r11 (i4 + 1) < mu766 xs4 i4)) else (-9223372036854775808 ≤ i4) ∧ I765 xs4 (i4 + 1) ∧ mu766 xs4 (i4 + 1) < mu766 xs4 i4)) else spec_DiffOk.E xs4 (fun r12 => (if !r12 then Q ([] : List Change) false else Q xs4 true)))))))))) := h
 clear h
 have hc0 := Ct.init hO
 refine Ret_enter Try.func31 rfl 123 rfl [.tmp 4, .tmp 5] rfl rfl ?_
 refine W_seq ?_
 refine W_reg ?_
 refine L_pu (P_assign (.slice none 0 0) rfl) ?_
 refine L_pu (P_assign (vb false) rfl) ?_
 refine L_nil ?_
 refine W_seq ?_
 refine W_seq ?_
 refine W_reg ?_
 refine L_pu (P_move (.slice A1 n2 c3) rfl) ?_
 refine L_call go61 [.slice A1 n2 c3] rfl ((spec_DiffOk.calls w0 hc0.ok a A1 n2 c3 hp4 _ H).mono ?_)
 rintro _ w11 ⟨r, rfl, H, g12⟩
 have hc16 := hc0.k0 g12
 refine L_pu (P_not r rfl) ?_
 refine L_pu (P_move (vb (!r)) rfl) ?_
 rcases bool_or (!r) with hq17 | hq17
 ·have H := ite_t H hq17
  refine L_pass (dj := 14) rfl rfl (.inl (by exact congrArg Value.bool hq17)) ?_
  refine L_pass (dj := 14) rfl rfl (.inl (by exact congrArg Value.bool hq17)) ?_
  refine L_pass (dj := 14) rfl rfl (.inl (by exact congrArg Value.bool hq17)) ?_
  refine L_pu (P_pick true (vb true) (by exact congrArg Value.bool hq17) rfl) ?_
  refine L_nil ?_
  refine W_ct (b := true) rfl rfl ?_
  refine W_seq ?_
  refine W_reg ?_
  refine L_lit (kd := kChange) ei43 hc16 ([] : List Change) (cells := []) rfl (fun _ => by kernel_rfl) fun w18 A19 n20 c21 g22 hr23 hc24 h25 => ?_
  refine L_pu (P_assign (.slice A19 n20 c21) rfl) ?_
  refine L_pu (P_assign (vb false) rfl) ?_
  refine L_nil ?_
  refine W_ret ?_
  exact ⟨[.slice A19 n20 c21, vb false], ⟨_, rfl, ⟨_, rfl, rfl⟩⟩, ([] : List Change), false, A19, n20, c21, rfl, H, hc24.gr.g0, hc24.ok, hc24.ge, h25⟩
 ·have H := ite_f H hq17
  refine L_run (dj := 14) rfl rfl (by exact congrArg Value.bool hq17) ?_
  refine L_pu (P_move (.slice A6 n7 c8) rfl) ?_
  refine L_run (dj := 14) rfl rfl (by exact congrArg Value.bool hq17) ?_
  refine L_call go61 [.slice A6 n7 c8] rfl ((spec_DiffOk.calls w11 hc16.ok b A6 n7 c8 (hp9.st hc16.st) _ H).mono ?_)
  rintro _ w27 ⟨r2, rfl, H, g28⟩
  have hc32 := hc16.k0 g28
  refine L_run (dj := 14) rfl rfl (by exact congrArg Value.bool hq17) ?_
  refine L_pu (P_not r2 rfl) ?_
  refine L_pu (P_pick false (vb (!r2)) (by exact congrArg Value.bool hq17) rfl) ?_
  refine L_nil ?_
  refine W_cond (!r2) rfl (fun hq33 => ?_) (fun hq33 => ?_)
  ·have H := ite_t H hq33
   refine W_seq ?_
   refine W_reg ?_
   refine L_lit (kd := kChange) ei43 hc32 ([] : List Change) (cells := []) rfl (fun _ => by kernel_rfl) fun w34 A35 n36 c37 g38 hr39 hc40 h41 => ?_
   refine L_pu (P_assign (.slice A35 n36 c37) rfl) ?_
   refine L_pu (P_assign (vb false) rfl) ?_
   refine L_nil ?_
   refine W_ret ?_
   exact ⟨[.slice A35 n36 c37, vb false], ⟨_, rfl, ⟨_, rfl, rfl⟩⟩, ([] : List Change), false, A35, n36, c37, rfl, H, hc40.gr.g0, hc40.ok, hc40.ge, h41⟩
  ·have H := ite_f H hq33
   refine W_skip ?_
   refine W_seq ?_
   refine W_reg ?_
   refine L_lit (kd := kChange) ei43 hc32 ([] : List Change) (cells := []) rfl (fun _ => by kernel_rfl) fun w43 A44 n45 c46 g47 hr48 hc49 h50 => ?_
   refine L_pu (P_assign (.slice A44 n45 c46) rfl) ?_
   refine L_nil ?_
   refine W_seq ?_
   refine W_seq ?_
   refine W_reg ?_
   refine L_pu (P_assign (vi 0) rfl) ?_
   refine L_nil ?_
   refine W_block ?_
   obtain ⟨I82, mu83, hI84, H⟩ := H
   refine W_loop (α := (List Change) × (Option Addr) × Nat × Nat × Int) (fun (sv__ : (List Change) × (Option Addr) × Nat × Nat × Int) t w71 => match sv__ with | (xs2, A74, n75, c76, i2) => I82 xs2 i2 ∧ Has t [(0, .slice A1 n2 c3), (1, .slice A6 n7 c8), (6, .slice A74 n75 c76), (7, vi i2)] ∧ Ct [] w0 w71 [blk (.slice A74 n75 c76)] O ∧ Sl kChange w71 (Fr ([blk (.slice A74 n75 c76)] ++ O)) (.slice A1 n2 c3) a ∧ Sl kChange w71 (Fr ([blk (.slice A74 n75 c76)] ++ O)) (.slice A6 n7 c8) b ∧ Ow kChange 103 w71 ([blk (.slice A74 n75 c76)] ++ O) (.slice A74 n75 c76) xs2) (fun (sv__ : (List Change) × (Option Addr) × Nat × Nat × Int) => match sv__ with | (xs2, _, _, _, i2) => mu83 xs2 i2) (([] : List Change), A44, n45, c46, 0) ⟨hI84, ⟨rfl, rfl, rfl, rfl, trivial⟩, hc49, (hp4.st hc49.st), (hp9.st hc49.st), h50⟩ ?_
   rintro ⟨xs2, A74, n75, c76, i2⟩ _ w71 ⟨hI84, hh86, hc78, h79, h80, h81⟩
   obtain ⟨u87, rfl⟩ := Has.ins hh86
   have H := H xs2 i2 hI84
   refine W_seq ?_
   refine W_seq ?_
   refine W_reg ?_
   refine L_pu (P_move (vi i2) rfl) ?_
   refine L_pu (P_move (.slice A1 n2 c3) rfl) ?_
   have hl88 := h79.le
   refine L_pu (P_len Try.underlying43 A1 n2 c3 h79.len rfl) ?_
   refine L_pu (P_cmp i2 (a.length : Int) (decide (i2 < (a.length : Int))) rfl rfl rfl) ?_
   refine L_nil ?_
   refine W_cond (decide (i2 < (a.length : Int))) rfl (fun hq89 => ?_) (fun hq89 => ?_)
   ·have H := ite_t H hq89
    refine W_skip ?_
    refine W_seq ?_
    refine W_block ?_
    refine W_seq ?_
    refine W_reg ?_
    refine L_pu (P_move (.slice A6 n7 c8) rfl) ?_
    refine L_pu (P_move (.slice A1 n2 c3) rfl) ?_
    refine L_pu (P_move (vi i2) rfl) ?_
    obtain ⟨hb90, H⟩ := H
    obtain ⟨ad91, cs92, hA93, hS96, hR94, hcl95⟩ := h79.get default (by decide) i2 hb90
    obtain ⟨A99, n100, c101, A104, n105, c106, A110, n111, c112, A115, n116, c117, rfl, hs97, hs98, h102, h107, hs109, h113, h118⟩ := kChange.op hR94
    refine L_pu (P_ia Try.underlying43 se43 A1 ad91 n2 c3 h79.len i2 rfl hA93 rfl hb90) ?_
    refine L_pu (P_fa fa103_0 (ad91.add (i2.toNat * 11)) ((ad91.add (i2.toNat * 11)).add 0) rfl rfl) ?_
    refine L_pu (P_ld ag9 cL ((ad91.add (i2.toNat * 11)).add 0) (vs ((nth a i2).Id)) rfl (hcl95 0 _ rfl)) ?_
    refine L_call go78 [.slice A6 n7 c8, vs ((nth a i2).Id)] rfl ((spec_l4Find.calls w71 hc78.ok b A6 n7 c8 h80 ((nth a i2).Id) hs97 _ H).mono ?_)
    rintro _ w120 ⟨r3, rfl, H, g121⟩
    have hc125 := hc78.k0 g121
    refine L_pu (P_assign (vi r3) rfl) ?_
    refine L_nil ?_
    refine W_seq ?_
    refine W_reg ?_
    refine L_pu (P_move (.slice A1 n2 c3) rfl) ?_
    refine L_pu (P_move (vi i2) rfl) ?_
    obtain ⟨hb126, H⟩ := H
    obtain ⟨ad127, cs128, hA129, hS132, hR130, hcl131⟩ := (h79.st (.new _ g121)).get default (by decide) i2 hb126
    obtain ⟨A135, n136, c137, A140, n141, c142, A146, n147, c148, A151, n152, c153, rfl, hs133, hs134, h138, h143, hs145, h149, h154⟩ := kChange.op hR130
    refine L_pu (P_ia Try.underlying43 se43 A1 ad127 n2 c3 (h79.st (.new _ g121)).len i2 rfl hA129 rfl hb126) ?_
    refine L_pu (P_lda ag103 sz103 cL (ad127.add (i2.toNat * 11)) [vs ((nth a i2).Id), vb ((nth a i2).Had), vs ((nth a i2).Was.Id), vi ((nth a i2).Was.Shape.Kind), .slice A135 n136 c137, .slice A140 n141 c142, vb ((nth a i2).Has), vs ((nth a i2).Now.Id), vi ((nth a i2).Now.Shape.Kind), .slice A146 n147 c148, .slice A151 n152 c153] rfl rfl hcl131) ?_
    refine L_call go62 [.agg #[vs ((nth a i2).Id), vb ((nth a i2).Had), vs ((nth a i2).Was.Id), vi ((nth a i2).Was.Shape.Kind), .slice A135 n136 c137, .slice A140 n141 c142, vb ((nth a i2).Has), vs ((nth a i2).Now.Id), vi ((nth a i2).Now.Shape.Kind), .slice A146 n147 c148, .slice A151 n152 c153]] rfl ((spec_l4Copy.calls w120 hc125.ok (nth a i2) A135 n136 c137 A140 n141 c142 A146 n147 c148 A151 n152 c153 hs133 hs134 h138 h143 hs145 h149 h154 _ H).mono ?_)
    rintro _ w156 ⟨r4, A160, n161, c162, A165, n166, c167, A171, n172, c173, A176, n177, c178, rfl, H, g157, hk182, hk183, hs158, hs159, h163, h168, hs170, h174, h179⟩
    have hc184 := hc125.owns g157 hk182 hk183
    refine L_alloc [vs [], vb false, vs [], .int .i64 0, .slice none 0 0, .slice none 0 0, vb false, vs [], .int .i64 0, .slice none 0 0, .slice none 0 0] ze103 fun w185 b186 hl188 hu189 g187 hx190 => ?_
    have hc192 := hc184.own g187 (some b186) (oglt hl188 hu189)
    refine L_stb b186 0 [vs ([] : Str), vb false, vs ([] : Str), vi 0, .slice none 0 0, .slice none 0 0, vb false, vs ([] : Str), vi 0, .slice none 0 0, .slice none 0 0] [vs r4.Id, vb r4.Had, vs r4.Was.Id, vi r4.Was.Shape.Kind, .slice A160 n161 c162, .slice A165 n166 c167, vb r4.Has, vs r4.Now.Id, vi r4.Now.Shape.Kind, .slice A171 n172 c173, .slice A176 n177 c178] [vs r4.Id, vb r4.Had, vs r4.Was.Id, vi r4.Was.Shape.Kind, .slice A160 n161 c162, .slice A165 n166 c167, vb r4.Has, vs r4.Now.Id, vi r4.Now.Shape.Kind, .slice A171 n172 c173, .slice A176 n177 c178] rfl hx190 rfl sz103 rfl rfl rfl fun w193 g194 hx195 => ?_
    have hc196 := hc192.wr 0 rfl g194
    refine L_nil ?_
    refine W_seq ?_
    refine W_seq ?_
    refine W_reg ?_
    refine L_pu (P_move (vi r3) rfl) ?_
    refine L_pu (P_cmp r3 0 (decide (r3 ≥ 0)) rfl rfl rfl) ?_
    refine L_nil ?_
    refine W_cond (decide (r3 ≥ 0)) rfl (fun hq197 => ?_) (fun hq197 => ?_)
    ·have H := ite_t H hq197
     refine W_seq ?_
     refine W_seq ?_
     refine W_draw (fun x => Gr w193 x none) (by kernel_rfl) (by kernel_rfl) (Gr.drew _) ?_
     refine Q_pu (P_move (.slice A1 n2 c3) rfl) ?_
     refine Q_pu (P_move (vi i2) rfl) ?_
     obtain ⟨hb198, H⟩ := H
     have h205 := ((((h79.st (.new _ g121)).st (.owns _ g157 hk183)).st (.own _ _ g187 (oge hl188))).st (.wl (L := [some b186, blk (.slice A160 n161 c162), blk (.slice A165 n166 c167), blk (.slice A171 n172 c173), blk (.slice A176 n177 c178), blk (.slice A74 n75 c76)]) (O := O) (j := 0) rfl g194))
     obtain ⟨ad199, cs200, hA201, hS204, hR202, hcl203⟩ := h205.get default (by decide) i2 hb198
     obtain ⟨A208, n209, c210, A213, n214, c215, A219, n220, c221, A224, n225, c226, rfl, hs206, hs207, h211, h216, hs218, h222, h227⟩ := kChange.op hR202
     refine Q_pu (P_ia Try.underlying43 se43 A1 ad199 n2 c3 h205.len i2 rfl hA201 rfl hb198) ?_
     refine Q_pu (P_fa fa103_3 (ad199.add (i2.toNat * 11)) ((ad199.add (i2.toNat * 11)).add 6) rfl rfl) ?_
     refine Q_pu (P_ld ag4 cQ ((ad199.add (i2.toNat * 11)).add 6) (vb ((nth a i2).Has)) rfl (hcl203 6 _ rfl)) ?_
     refine Q_pu (P_move (.slice A6 n7 c8) rfl) ?_
     refine Q_pu (P_move (vi r3) rfl) ?_
     obtain ⟨hb229, H⟩ := H
     have h236 := ((((h80.st (.new _ g121)).st (.owns _ g157 hk183)).st (.own _ _ g187 (oge hl188))).st (.wl (L := [some b186, blk (.slice A160 n161 c162), blk (.slice A165 n166 c167), blk (.slice A171 n172 c173), blk (.slice A176 n177 c178), blk (.slice A74 n75 c76)]) (O := O) (j := 0) rfl g194))
     obtain ⟨ad230, cs231, hA232, hS235, hR233, hcl234⟩ := h236.get default (by decide) r3 hb229
     obtain ⟨A239, n240, c241, A244, n245, c246, A250, n251, c252, A255, n256, c257, rfl, hs237, hs238, h242, h247, hs249, h253, h258⟩ := kChange.op hR233
     refine Q_pu (P_ia Try.underlying43 se43 A6 ad230 n7 c8 h236.len r3 rfl hA232 rfl hb229) ?_
     refine Q_pu (P_fa fa103_1 (ad230.add (r3.toNat * 11)) ((ad230.add (r3.toNat * 11)).add 1) rfl rfl) ?_
     refine Q_pu (P_ld ag4 cQ ((ad230.add (r3.toNat * 11)).add 1) (vb ((nth b r3).Had)) rfl (hcl234 1 _ rfl)) ?_
     refine Q_pu (P_bcmp Try.underlying4 ((nth a i2).Has) ((nth b r3).Had) (((nth a i2).Has) != ((nth b r3).Had)) rfl rfl rfl) ?_
     refine Q_pu (P_move (vb (((nth a i2).Has) != ((nth b r3).Had))) rfl) ?_
     rcases bool_or (((nth a i2).Has) != ((nth b r3).Had)) with hq260 | hq260
     ·have H := ite_t H hq260
      refine Q_pass (dj := 52) rfl rfl (.inl (by exact congrArg Value.bool hq260)) ?_
      refine Q_pass (dj := 52) rfl rfl (.inl (by exact congrArg Value.bool hq260)) ?_
      refine Q_pass (dj := 52) rfl rfl (.inl (by exact congrArg Value.bool hq260)) ?_
      refine Q_pass (dj := 52) rfl rfl (.inl (by exact congrArg Value.bool hq260)) ?_
      refine Q_pass (dj := 52) rfl rfl (.inl (by exact congrArg Value.bool hq260)) ?_
      refine Q_pass (dj := 52) rfl rfl (.inl (by exact congrArg Value.bool hq260)) ?_
      refine Q_pass (dj := 52) rfl rfl (.inl (by exact congrArg Value.bool hq260)) ?_
      refine Q_pass (dj := 52) rfl rfl (.inl (by exact congrArg Value.bool hq260)) ?_
      refine Q_pass (dj := 52) rfl rfl (.inl (by exact congrArg Value.bool hq260)) ?_
      refine Q_pass (dj := 52) rfl rfl (.inl (by exact congrArg Value.bool hq260)) ?_
      refine Q_pass (dj := 52) rfl rfl (.inl (by exact congrArg Value.bool hq260)) ?_
      refine Q_pass (dj := 52) rfl rfl (.inl (by exact congrArg Value.bool hq260)) ?_
      refine Q_pu (P_pick true (vb true) (by exact congrArg Value.bool hq260) rfl) ?_
      refine Q_nil fun w261 g262 => ?_
      have hc264 := hc196.k0 g262
      refine W_ct (b := true) rfl rfl ?_
      refine W_seq ?_
      refine W_reg ?_
      refine L_lit (kd := kChange) ei43 hc264 ([] : List Change) (cells := []) rfl (fun _ => by kernel_rfl) fun w265 A266 n267 c268 g269 hr270 hc271 h272 => ?_
      refine L_pu (P_assign (.slice A266 n267 c268) rfl) ?_
      refine L_pu (P_assign (vb false) rfl) ?_
      refine L_nil ?_
      refine W_ret ?_
      have hc274 := hc271.drop 1 rfl
      have hc275 := hc274.drop 1 rfl
      have hc276 := hc275.drop 1 rfl
      have hc277 := hc276.drop 1 rfl
      have hc278 := hc277.drop 1 rfl
      have hc279 := hc278.drop 1 rfl
      have h280 := (Ow.sd (L := [blk (.slice A266 n267 c268), blk (.slice A74 n75 c76)]) (O := O) (Ow.sd (L := [blk (.slice A266 n267 c268), blk (.slice A176 n177 c178), blk (.slice A74 n75 c76)]) (O := O) (Ow.sd (L := [blk (.slice A266 n267 c268), blk (.slice A171 n172 c173), blk (.slice A176 n177 c178), blk (.slice A74 n75 c76)]) (O := O) (Ow.sd (L := [blk (.slice A266 n267 c268), blk (.slice A165 n166 c167), blk (.slice A171 n172 c173), blk (.slice A176 n177 c178), blk (.slice A74 n75 c76)]) (O := O) (Ow.sd (L := [blk (.slice A266 n267 c268), blk (.slice A160 n161 c162), blk (.slice A165 n166 c167), blk (.slice A171 n172 c173), blk (.slice A176 n177 c178), blk (.slice A74 n75 c76)]) (O := O) (Ow.sd (L := [blk (.slice A266 n267 c268), some b186, blk (.slice A160 n161 c162), blk (.slice A165 n166 c167), blk (.slice A171 n172 c173), blk (.slice A176 n177 c178), blk (.slice A74 n75 c76)]) (O := O) h272 (i := 0) rfl (j := 1) rfl (by decide)) (i := 0) rfl (j := 1) rfl (by decide)) (i := 0) rfl (j := 1) rfl (by decide)) (i := 0) rfl (j := 1) rfl (by decide)) (i := 0) rfl (j := 1) rfl (by decide)) (i := 0) rfl (j := 1) rfl (by decide))
      exact ⟨[.slice A266 n267 c268, vb false], ⟨_, rfl, ⟨_, rfl, rfl⟩⟩, ([] : List Change), false, A266, n267, c268, rfl, H, hc279.gr.g0, hc279.ok, hc279.ge, h280⟩
     ·have H := ite_f H hq260
      refine Q_run (dj := 52) rfl rfl (by exact congrArg Value.bool hq260) ?_
      refine Q_pu (P_move (.slice A1 n2 c3) rfl) ?_
      refine Q_run (dj := 52) rfl rfl (by exact congrArg Value.bool hq260) ?_
      refine Q_pu (P_move (vi i2) rfl) ?_
      refine Q_run (dj := 52) rfl rfl (by exact congrArg Value.bool hq260) ?_
      obtain ⟨hb281, H⟩ := H
      obtain ⟨ad282, cs283, hA284, hS287, hR285, hcl286⟩ := h205.get default (by decide) i2 hb281
      obtain ⟨A290, n291, c292, A295, n296, c297, A301, n302, c303, A306, n307, c308, rfl, hs288, hs289, h293, h298, hs300, h304, h309⟩ := kChange.op hR285
      refine Q_pu (P_ia Try.underlying43 se43 A1 ad282 n2 c3 h205.len i2 rfl hA284 rfl hb281) ?_
      refine Q_run (dj := 52) rfl rfl (by exact congrArg Value.bool hq260) ?_
      refine Q_pu (P_fa fa103_4 (ad282.add (i2.toNat * 11)) ((ad282.add (i2.toNat * 11)).add 7) rfl rfl) ?_
      refine Q_run (dj := 52) rfl rfl (by exact congrArg Value.bool hq260) ?_
      refine Q_pu (P_lda ag71 sz71 cQ ((ad282.add (i2.toNat * 11)).add 7) [vs ((nth a i2).Now.Id), vi ((nth a i2).Now.Shape.Kind), .slice A301 n302 c303, .slice A306 n307 c308] rfl rfl (sub_cells (off := 7) hcl286 rfl)) ?_
      refine Q_run (dj := 52) rfl rfl (by exact congrArg Value.bool hq260) ?_
      refine Q_pu (P_move (.slice A6 n7 c8) rfl) ?_
      refine Q_run (dj := 52) rfl rfl (by exact congrArg Value.bool hq260) ?_
      refine Q_pu (P_move (vi r3) rfl) ?_
      refine Q_run (dj := 52) rfl rfl (by exact congrArg Value.bool hq260) ?_
      obtain ⟨hb311, H⟩ := H
      obtain ⟨ad312, cs313, hA314, hS317, hR315, hcl316⟩ := h236.get default (by decide) r3 hb311
      obtain ⟨A320, n321, c322, A325, n326, c327, A331, n332, c333, A336, n337, c338, rfl, hs318, hs319, h323, h328, hs330, h334, h339⟩ := kChange.op hR315
      refine Q_pu (P_ia Try.underlying43 se43 A6 ad312 n7 c8 h236.len r3 rfl hA314 rfl hb311) ?_
      refine Q_run (dj := 52) rfl rfl (by exact congrArg Value.bool hq260) ?_
      refine Q_pu (P_fa fa103_2 (ad312.add (r3.toNat * 11)) ((ad312.add (r3.toNat * 11)).add 2) rfl rfl) ?_
      refine Q_run (dj := 52) rfl rfl (by exact congrArg Value.bool hq260) ?_
      refine Q_pu (P_lda ag71 sz71 cQ ((ad312.add (r3.toNat * 11)).add 2) [vs ((nth b r3).Was.Id), vi ((nth b r3).Was.Shape.Kind), .slice A320 n321 c322, .slice A325 n326 c327] rfl rfl (sub_cells (off := 2) hcl316 rfl)) ?_
      refine Q_run (dj := 52) rfl rfl (by exact congrArg Value.bool hq260) ?_
      obtain ⟨q, hE346, H⟩ := H
      refine Q_call go79 [.agg #[vs ((nth a i2).Now.Id), vi ((nth a i2).Now.Shape.Kind), .slice A301 n302 c303, .slice A306 n307 c308], .agg #[vs ((nth b r3).Was.Id), vi ((nth b r3).Was.Shape.Kind), .slice A320 n321 c322, .slice A325 n326 c327]] rfl (vb q) (fun w g => (spec_FeatSame.calls w (hc196.k0 g).ok ((nth a i2).Now) A301 n302 c303 A306 n307 c308 hs300 (h304.st (.new _ g)) (h309.st (.new _ g)) ((nth b r3).Was) A320 n321 c322 A325 n326 c327 hs319 (h323.st (.new _ g)) (h328.st (.new _ g)) _ hE346).mono ?_) ?_
      ·rintro _ w ⟨r, rfl, rfl, g2⟩
       exact ⟨rfl, Gr.t0 g g2⟩
      refine Q_run (dj := 52) rfl rfl (by exact congrArg Value.bool hq260) ?_
      refine Q_pu (P_not q rfl) ?_
      refine Q_pu (P_pick false (vb (!q)) (by exact congrArg Value.bool hq260) rfl) ?_
      refine Q_nil fun w348 g349 => ?_
      have hc351 := hc196.k0 g349
      refine W_cond (!q) rfl (fun hq352 => ?_) (fun hq352 => ?_)
      ·have H := ite_t H hq352
       refine W_seq ?_
       refine W_reg ?_
       refine L_lit (kd := kChange) ei43 hc351 ([] : List Change) (cells := []) rfl (fun _ => by kernel_rfl) fun w353 A354 n355 c356 g357 hr358 hc359 h360 => ?_
       refine L_pu (P_assign (.slice A354 n355 c356) rfl) ?_
       refine L_pu (P_assign (vb false) rfl) ?_
       refine L_nil ?_
       refine W_ret ?_
       have hc362 := hc359.drop 1 rfl
       have hc363 := hc362.drop 1 rfl
       have hc364 := hc363.drop 1 rfl
       have hc365 := hc364.drop 1 rfl
       have hc366 := hc365.drop 1 rfl
       have hc367 := hc366.drop 1 rfl
       have h368 := (Ow.sd (L := [blk (.slice A354 n355 c356), blk (.slice A74 n75 c76)]) (O := O) (Ow.sd (L := [blk (.slice A354 n355 c356), blk (.slice A176 n177 c178), blk (.slice A74 n75 c76)]) (O := O) (Ow.sd (L := [blk (.slice A354 n355 c356), blk (.slice A171 n172 c173), blk (.slice A176 n177 c178), blk (.slice A74 n75 c76)]) (O := O) (Ow.sd (L := [blk (.slice A354 n355 c356), blk (.slice A165 n166 c167), blk (.slice A171 n172 c173), blk (.slice A176 n177 c178), blk (.slice A74 n75 c76)]) (O := O) (Ow.sd (L := [blk (.slice A354 n355 c356), blk (.slice A160 n161 c162), blk (.slice A165 n166 c167), blk (.slice A171 n172 c173), blk (.slice A176 n177 c178), blk (.slice A74 n75 c76)]) (O := O) (Ow.sd (L := [blk (.slice A354 n355 c356), some b186, blk (.slice A160 n161 c162), blk (.slice A165 n166 c167), blk (.slice A171 n172 c173), blk (.slice A176 n177 c178), blk (.slice A74 n75 c76)]) (O := O) h360 (i := 0) rfl (j := 1) rfl (by decide)) (i := 0) rfl (j := 1) rfl (by decide)) (i := 0) rfl (j := 1) rfl (by decide)) (i := 0) rfl (j := 1) rfl (by decide)) (i := 0) rfl (j := 1) rfl (by decide)) (i := 0) rfl (j := 1) rfl (by decide))
       exact ⟨[.slice A354 n355 c356, vb false], ⟨_, rfl, ⟨_, rfl, rfl⟩⟩, ([] : List Change), false, A354, n355, c356, rfl, H, hc367.gr.g0, hc367.ok, hc367.ge, h368⟩
      ·have H := ite_f H hq352
       refine W_skip ?_
       refine W_seq ?_
       refine W_reg ?_
       refine L_pu (P_move (.slice A6 n7 c8) rfl) ?_
       refine L_pu (P_move (vi r3) rfl) ?_
       obtain ⟨hb369, H⟩ := H
       obtain ⟨ad370, cs371, hA372, hS375, hR373, hcl374⟩ := (h236.st (.new _ g349)).get default (by decide) r3 hb369
       obtain ⟨A378, n379, c380, A383, n384, c385, A389, n390, c391, A394, n395, c396, rfl, hs376, hs377, h381, h386, hs388, h392, h397⟩ := kChange.op hR373
       refine L_pu (P_ia Try.underlying43 se43 A6 ad370 n7 c8 (h236.st (.new _ g349)).len r3 rfl hA372 rfl hb369) ?_
       refine L_pu (P_fa fa103_3 (ad370.add (r3.toNat * 11)) ((ad370.add (r3.toNat * 11)).add 6) rfl rfl) ?_
       refine L_pu (P_ld ag4 cL ((ad370.add (r3.toNat * 11)).add 6) (vb ((nth b r3).Has)) rfl (hcl374 6 _ rfl)) ?_
       refine L_pu (P_fa fa103_3 ⟨b186, 0, none⟩ ⟨b186, 6, none⟩ rfl rfl) ?_
       have h402 := (hx195.k0 g349)
       refine L_stb b186 6 [vs r4.Id, vb r4.Had, vs r4.Was.Id, vi r4.Was.Shape.Kind, .slice A160 n161 c162, .slice A165 n166 c167, vb r4.Has, vs r4.Now.Id, vi r4.Now.Shape.Kind, .slice A171 n172 c173, .slice A176 n177 c178] [vb ((nth b r3).Has)] [vs r4.Id, vb r4.Had, vs r4.Was.Id, vi r4.Was.Shape.Kind, .slice A160 n161 c162, .slice A165 n166 c167, vb ((nth b r3).Has), vs r4.Now.Id, vi r4.Now.Shape.Kind, .slice A171 n172 c173, .slice A176 n177 c178] rfl h402 rfl sz4 rfl rfl rfl fun w399 g400 hx401 => ?_
       have hc403 := hc351.wr 0 rfl g400
       refine L_nil ?_
       refine W_reg ?_
       refine L_pu (P_move (.slice A6 n7 c8) rfl) ?_
       refine L_pu (P_move (vi r3) rfl) ?_
       obtain ⟨hb404, H⟩ := H
       have h411 := ((h236.st (.new _ g349)).st (.wl (L := [some b186, blk (.slice A160 n161 c162), blk (.slice A165 n166 c167), blk (.slice A171 n172 c173), blk (.slice A176 n177 c178), blk (.slice A74 n75 c76)]) (O := O) (j := 0) rfl g400))
       obtain ⟨ad405, cs406, hA407, hS410, hR408, hcl409⟩ := h411.get default (by decide) r3 hb404
       obtain ⟨A414, n415, c416, A419, n420, c421, A425, n426, c427, A430, n431, c432, rfl, hs412, hs413, h417, h422, hs424, h428, h433⟩ := kChange.op hR408
       refine L_pu (P_ia Try.underlying43 se43 A6 ad405 n7 c8 h411.len r3 rfl hA407 rfl hb404) ?_
       refine L_pu (P_fa fa103_4 (ad405.add (r3.toNat * 11)) ((ad405.add (r3.toNat * 11)).add 7) rfl rfl) ?_
       refine L_pu (P_lda ag71 sz71 cL ((ad405.add (r3.toNat * 11)).add 7) [vs ((nth b r3).Now.Id), vi ((nth b r3).Now.Shape.Kind), .slice A425 n426 c427, .slice A430 n431 c432] rfl rfl (sub_cells (off := 7) hcl409 rfl)) ?_
       refine L_call go80 [.agg #[vs ((nth b r3).Now.Id), vi ((nth b r3).Now.Shape.Kind), .slice A425 n426 c427, .slice A430 n431 c432]] rfl ((spec_l2Copy.calls w399 hc403.ok ((nth b r3).Now) A425 n426 c427 A430 n431 c432 hs424 h428 h433 _ H).mono ?_)
       rintro _ w435 ⟨r6, A438, n439, c440, A443, n444, c445, rfl, H, g436, hk449, hk450, hs437, h441, h446⟩
       have hc451 := hc403.owns g436 hk449 hk450
       refine L_pu (P_fa fa103_4 ⟨b186, 0, none⟩ ⟨b186, 7, none⟩ rfl rfl) ?_
       have h455 := (hx401.k0 g436)
       refine L_stb b186 7 [vs r4.Id, vb r4.Had, vs r4.Was.Id, vi r4.Was.Shape.Kind, .slice A160 n161 c162, .slice A165 n166 c167, vb ((nth b r3).Has), vs r4.Now.Id, vi r4.Now.Shape.Kind, .slice A171 n172 c173, .slice A176 n177 c178] [vs r6.Id, vi r6.Shape.Kind, .slice A438 n439 c440, .slice A443 n444 c445] [vs r4.Id, vb r4.Had, vs r4.Was.Id, vi r4.Was.Shape.Kind, .slice A160 n161 c162, .slice A165 n166 c167, vb ((nth b r3).Has), vs r6.Id, vi r6.Shape.Kind, .slice A438 n439 c440, .slice A443 n444 c445] rfl h455 rfl sz71 rfl rfl rfl fun w452 g453 hx454 => ?_
       have hc456 := hc451.wr 2 rfl g453
       refine L_nil ?_
       refine W_seq ?_
       refine W_reg ?_
       refine L_pu (P_fa fa103_1 ⟨b186, 0, none⟩ ⟨b186, 1, none⟩ rfl rfl) ?_
       refine L_pu (P_ld ag4 cL ⟨b186, 1, none⟩ (vb r4.Had) rfl (hx454.cell rfl)) ?_
       refine L_pu (P_fa fa103_3 ⟨b186, 0, none⟩ ⟨b186, 6, none⟩ rfl rfl) ?_
       refine L_pu (P_ld ag4 cL ⟨b186, 6, none⟩ (vb ((nth b r3).Has)) rfl (hx454.cell rfl)) ?_
       refine L_pu (P_bcmp Try.underlying4 r4.Had ((nth b r3).Has) (r4.Had != ((nth b r3).Has)) rfl rfl rfl) ?_
       refine L_pu (P_move (vb (r4.Had != ((nth b r3).Has))) rfl) ?_
       rcases bool_or (r4.Had != ((nth b r3).Has)) with hq457 | hq457
       ·have H := ite_t H hq457
        refine L_pass (dj := 85) rfl rfl (.inl (by exact congrArg Value.bool hq457)) ?_
        refine L_pass (dj := 85) rfl rfl (.inl (by exact congrArg Value.bool hq457)) ?_
        refine L_pass (dj := 85) rfl rfl (.inl (by exact congrArg Value.bool hq457)) ?_
        refine L_pass (dj := 85) rfl rfl (.inl (by exact congrArg Value.bool hq457)) ?_
        refine L_pass (dj := 85) rfl rfl (.inl (by exact congrArg Value.bool hq457)) ?_
        refine L_pass (dj := 85) rfl rfl (.inl (by exact congrArg Value.bool hq457)) ?_
        refine L_pu (P_pick true (vb true) (by exact congrArg Value.bool hq457) rfl) ?_
        refine L_nil ?_
        refine W_ct (b := true) rfl rfl ?_
        refine W_reg ?_
        refine L_pu (P_move (.slice A74 n75 c76) rfl) ?_
        refine L_pu (P_lda ag103 sz103 cL ⟨b186, 0, none⟩ [vs r4.Id, vb r4.Had, vs r4.Was.Id, vi r4.Was.Shape.Kind, .slice A160 n161 c162, .slice A165 n166 c167, vb ((nth b r3).Has), vs r6.Id, vi r6.Shape.Kind, .slice A438 n439 c440, .slice A443 n444 c445] rfl rfl (hx454.cells (off := 0) rfl)) ?_
        have h458 := (Ow.sw (L := [blk (.slice A438 n439 c440), blk (.slice A443 n444 c445), some b186, blk (.slice A160 n161 c162), blk (.slice A165 n166 c167), blk (.slice A171 n172 c173), blk (.slice A176 n177 c178), blk (.slice A74 n75 c76)]) (O := O) ((Ow.sw (L := [some b186, blk (.slice A160 n161 c162), blk (.slice A165 n166 c167), blk (.slice A171 n172 c173), blk (.slice A176 n177 c178), blk (.slice A74 n75 c76)]) (O := O) ((Ow.sw (L := [some b186, blk (.slice A160 n161 c162), blk (.slice A165 n166 c167), blk (.slice A171 n172 c173), blk (.slice A176 n177 c178), blk (.slice A74 n75 c76)]) (O := O) (h163.so _ g187 (oge hl188)) hc192 (i := 1) rfl (j := 0) rfl (by decide) g194).sn g349) hc351 (i := 1) rfl (j := 0) rfl (by decide) g400).sos g436 hk450) hc451 (i := 3) rfl (j := 2) rfl (by decide) g453)
        have h459 := Ow.gv (L := [blk (.slice A438 n439 c440), blk (.slice A443 n444 c445), some b186, blk (.slice A160 n161 c162), blk (.slice A165 n166 c167), blk (.slice A171 n172 c173), blk (.slice A176 n177 c178), blk (.slice A74 n75 c76)]) (O := O) h458 hc456 (i := 3) rfl
        have hc460 := hc456.drop 3 rfl
        have h462 := (Ow.sd (L := [blk (.slice A438 n439 c440), blk (.slice A443 n444 c445), some b186, blk (.slice A160 n161 c162), blk (.slice A165 n166 c167), blk (.slice A171 n172 c173), blk (.slice A176 n177 c178), blk (.slice A74 n75 c76)]) (O := O) (Ow.sw (L := [blk (.slice A438 n439 c440), blk (.slice A443 n444 c445), some b186, blk (.slice A160 n161 c162), blk (.slice A165 n166 c167), blk (.slice A171 n172 c173), blk (.slice A176 n177 c178), blk (.slice A74 n75 c76)]) (O := O) ((Ow.sw (L := [some b186, blk (.slice A160 n161 c162), blk (.slice A165 n166 c167), blk (.slice A171 n172 c173), blk (.slice A176 n177 c178), blk (.slice A74 n75 c76)]) (O := O) ((Ow.sw (L := [some b186, blk (.slice A160 n161 c162), blk (.slice A165 n166 c167), blk (.slice A171 n172 c173), blk (.slice A176 n177 c178), blk (.slice A74 n75 c76)]) (O := O) (h168.so _ g187 (oge hl188)) hc192 (i := 2) rfl (j := 0) rfl (by decide) g194).sn g349) hc351 (i := 2) rfl (j := 0) rfl (by decide) g400).sos g436 hk450) hc451 (i := 4) rfl (j := 2) rfl (by decide) g453) (i := 4) rfl (j := 3) rfl (by decide))
        have h463 := Ow.gv (L := [blk (.slice A438 n439 c440), blk (.slice A443 n444 c445), some b186, blk (.slice A165 n166 c167), blk (.slice A171 n172 c173), blk (.slice A176 n177 c178), blk (.slice A74 n75 c76)]) (O := O) h462 hc460 (i := 3) rfl
        have hc464 := hc460.drop 3 rfl
        have h466 := (Ow.sd (L := [blk (.slice A438 n439 c440), blk (.slice A443 n444 c445), some b186, blk (.slice A165 n166 c167), blk (.slice A171 n172 c173), blk (.slice A176 n177 c178), blk (.slice A74 n75 c76)]) (O := O) (Ow.sd (L := [blk (.slice A438 n439 c440), blk (.slice A443 n444 c445), some b186, blk (.slice A160 n161 c162), blk (.slice A165 n166 c167), blk (.slice A171 n172 c173), blk (.slice A176 n177 c178), blk (.slice A74 n75 c76)]) (O := O) (Ow.sw (L := [blk (.slice A438 n439 c440), blk (.slice A443 n444 c445), some b186, blk (.slice A160 n161 c162), blk (.slice A165 n166 c167), blk (.slice A171 n172 c173), blk (.slice A176 n177 c178), blk (.slice A74 n75 c76)]) (O := O) h441 hc451 (i := 0) rfl (j := 2) rfl (by decide) g453) (i := 0) rfl (j := 3) rfl (by decide)) (i := 0) rfl (j := 3) rfl (by decide))
        have h467 := Ow.gv (L := [blk (.slice A438 n439 c440), blk (.slice A443 n444 c445), some b186, blk (.slice A171 n172 c173), blk (.slice A176 n177 c178), blk (.slice A74 n75 c76)]) (O := O) h466 hc464 (i := 0) rfl
        have hc468 := hc464.drop 0 rfl
        have h470 := (Ow.sd (L := [blk (.slice A438 n439 c440), blk (.slice A443 n444 c445), some b186, blk (.slice A171 n172 c173), blk (.slice A176 n177 c178), blk (.slice A74 n75 c76)]) (O := O) (Ow.sd (L := [blk (.slice A438 n439 c440), blk (.slice A443 n444 c445), some b186, blk (.slice A165 n166 c167), blk (.slice A171 n172 c173), blk (.slice A176 n177 c178), blk (.slice A74 n75 c76)]) (O := O) (Ow.sd (L := [blk (.slice A438 n439 c440), blk (.slice A443 n444 c445), some b186, blk (.slice A160 n161 c162), blk (.slice A165 n166 c167), blk (.slice A171 n172 c173), blk (.slice A176 n177 c178), blk (.slice A74 n75 c76)]) (O := O) (Ow.sw (L := [blk (.slice A438 n439 c440), blk (.slice A443 n444 c445), some b186, blk (.slice A160 n161 c162), blk (.slice A165 n166 c167), blk (.slice A171 n172 c173), blk (.slice A176 n177 c178), blk (.slice A74 n75 c76)]) (O := O) h446 hc451 (i := 1) rfl (j := 2) rfl (by decide) g453) (i := 1) rfl (j := 3) rfl (by decide)) (i := 1) rfl (j := 3) rfl (by decide)) (i := 1) rfl (j := 0) rfl (by decide))
        have h471 := Ow.gv (L := [blk (.slice A443 n444 c445), some b186, blk (.slice A171 n172 c173), blk (.slice A176 n177 c178), blk (.slice A74 n75 c76)]) (O := O) h470 hc468 (i := 0) rfl
        have hc472 := hc468.drop 0 rfl
        have h482 := (((h459.st (.dr _ (L := [blk (.slice A438 n439 c440), blk (.slice A443 n444 c445), some b186, blk (.slice A165 n166 c167), blk (.slice A171 n172 c173), blk (.slice A176 n177 c178), blk (.slice A74 n75 c76)]) (O := O) (j := 3) rfl)).st (.dr _ (L := [blk (.slice A438 n439 c440), blk (.slice A443 n444 c445), some b186, blk (.slice A171 n172 c173), blk (.slice A176 n177 c178), blk (.slice A74 n75 c76)]) (O := O) (j := 0) rfl)).st (.dr _ (L := [blk (.slice A443 n444 c445), some b186, blk (.slice A171 n172 c173), blk (.slice A176 n177 c178), blk (.slice A74 n75 c76)]) (O := O) (j := 0) rfl))
        have h483 := ((h463.st (.dr _ (L := [blk (.slice A438 n439 c440), blk (.slice A443 n444 c445), some b186, blk (.slice A171 n172 c173), blk (.slice A176 n177 c178), blk (.slice A74 n75 c76)]) (O := O) (j := 0) rfl)).st (.dr _ (L := [blk (.slice A443 n444 c445), some b186, blk (.slice A171 n172 c173), blk (.slice A176 n177 c178), blk (.slice A74 n75 c76)]) (O := O) (j := 0) rfl))
        have h484 := (h467.st (.dr _ (L := [blk (.slice A443 n444 c445), some b186, blk (.slice A171 n172 c173), blk (.slice A176 n177 c178), blk (.slice A74 n75 c76)]) (O := O) (j := 0) rfl))
        refine L_lit (kd := kChange) ei43 hc472 ([(⟨r4.Id, r4.Had, r4.Was, (nth b r3).Has, r6⟩ : Change)] : List Change) (cells := [vs r4.Id, vb r4.Had, vs r4.Was.Id, vi r4.Was.Shape.Kind, .slice A160 n161 c162, .slice A165 n166 c167, vb ((nth b r3).Has), vs r6.Id, vi r6.Shape.Kind, .slice A438 n439 c440, .slice A443 n444 c445]) ⟨[vs r4.Id, vb r4.Had, vs r4.Was.Id, vi r4.Was.Shape.Kind, .slice A160 n161 c162, .slice A165 n166 c167, vb ((nth b r3).Has), vs r6.Id, vi r6.Shape.Kind, .slice A438 n439 c440, .slice A443 n444 c445], _, rfl, (kChange.mk _ _ (⟨r4.Id, r4.Had, r4.Was, (nth b r3).Has, r6⟩ : Change) hs158 hs159 h482 h483 hs437 h484 h471), rfl⟩ (fun _ => by kernel_rfl) fun w474 A475 n476 c477 g478 hr479 hc480 h481 => ?_
        obtain ⟨hb486, H⟩ := H
        have h487 := ((Ow.sd (L := [blk (.slice A443 n444 c445), some b186, blk (.slice A171 n172 c173), blk (.slice A176 n177 c178), blk (.slice A74 n75 c76)]) (O := O) (Ow.sd (L := [blk (.slice A438 n439 c440), blk (.slice A443 n444 c445), some b186, blk (.slice A171 n172 c173), blk (.slice A176 n177 c178), blk (.slice A74 n75 c76)]) (O := O) (Ow.sd (L := [blk (.slice A438 n439 c440), blk (.slice A443 n444 c445), some b186, blk (.slice A165 n166 c167), blk (.slice A171 n172 c173), blk (.slice A176 n177 c178), blk (.slice A74 n75 c76)]) (O := O) (Ow.sd (L := [blk (.slice A438 n439 c440), blk (.slice A443 n444 c445), some b186, blk (.slice A160 n161 c162), blk (.slice A165 n166 c167), blk (.slice A171 n172 c173), blk (.slice A176 n177 c178), blk (.slice A74 n75 c76)]) (O := O) (Ow.sw (L := [blk (.slice A438 n439 c440), blk (.slice A443 n444 c445), some b186, blk (.slice A160 n161 c162), blk (.slice A165 n166 c167), blk (.slice A171 n172 c173), blk (.slice A176 n177 c178), blk (.slice A74 n75 c76)]) (O := O) ((Ow.sw (L := [some b186, blk (.slice A160 n161 c162), blk (.slice A165 n166 c167), blk (.slice A171 n172 c173), blk (.slice A176 n177 c178), blk (.slice A74 n75 c76)]) (O := O) ((Ow.sw (L := [some b186, blk (.slice A160 n161 c162), blk (.slice A165 n166 c167), blk (.slice A171 n172 c173), blk (.slice A176 n177 c178), blk (.slice A74 n75 c76)]) (O := O) (((h81.sn g121).sos g157 hk183).so _ g187 (oge hl188)) hc192 (i := 5) rfl (j := 0) rfl (by decide) g194).sn g349) hc351 (i := 5) rfl (j := 0) rfl (by decide) g400).sos g436 hk450) hc451 (i := 7) rfl (j := 2) rfl (by decide) g453) (i := 7) rfl (j := 3) rfl (by decide)) (i := 6) rfl (j := 3) rfl (by decide)) (i := 5) rfl (j := 0) rfl (by decide)) (i := 4) rfl (j := 0) rfl (by decide)).so _ g478 hr479)
        refine L_app ei43 hc480 (.slice A74 n75 c76) xs2 ([(⟨r4.Id, r4.Had, r4.Was, (nth b r3).Has, r6⟩ : Change)] : List Change) rfl h487 (.slice A475 n476 c477) rfl h481.sx 4 rfl hb486 fun w488 A489 n490 c491 g492 s493 hc494 h495 => ?_
        refine L_pu (P_assign (.slice A489 n490 c491) rfl) ?_
        refine L_nil ?_
        refine W_reg ?_
        refine L_pu (P_move (vi i2) rfl) ?_
        obtain ⟨hb498, H⟩ := H
        have hi497 : I64 (i2 + 1) := i64_succ (of_decide_eq_true hq89) hl88 hb498
        refine L_pu (P_add i2 1 rfl rfl hi497) ?_
        refine L_pu (P_assign (vi (i2 + 1)) rfl) ?_
        refine L_nil ?_
        have hc499 := hc494.drop 0 rfl
        have hc500 := hc499.drop 0 rfl
        have hc501 := hc500.drop 0 rfl
        have hc502 := hc501.drop 0 rfl
        obtain ⟨hI503, hm504⟩ := H
        have h505 := ((((((((((((((h205.st (.new _ g349)).st (.wl (L := [some b186, blk (.slice A160 n161 c162), blk (.slice A165 n166 c167), blk (.slice A171 n172 c173), blk (.slice A176 n177 c178), blk (.slice A74 n75 c76)]) (O := O) (j := 0) rfl g400)).st (.owns _ g436 hk450)).st (.wl (L := [blk (.slice A438 n439 c440), blk (.slice A443 n444 c445), some b186, blk (.slice A160 n161 c162), blk (.slice A165 n166 c167), blk (.slice A171 n172 c173), blk (.slice A176 n177 c178), blk (.slice A74 n75 c76)]) (O := O) (j := 2) rfl g453)).st (.dr _ (L := [blk (.slice A438 n439 c440), blk (.slice A443 n444 c445), some b186, blk (.slice A160 n161 c162), blk (.slice A165 n166 c167), blk (.slice A171 n172 c173), blk (.slice A176 n177 c178), blk (.slice A74 n75 c76)]) (O := O) (j := 3) rfl)).st (.dr _ (L := [blk (.slice A438 n439 c440), blk (.slice A443 n444 c445), some b186, blk (.slice A165 n166 c167), blk (.slice A171 n172 c173), blk (.slice A176 n177 c178), blk (.slice A74 n75 c76)]) (O := O) (j := 3) rfl)).st (.dr _ (L := [blk (.slice A438 n439 c440), blk (.slice A443 n444 c445), some b186, blk (.slice A171 n172 c173), blk (.slice A176 n177 c178), blk (.slice A74 n75 c76)]) (O := O) (j := 0) rfl)).st (.dr _ (L := [blk (.slice A443 n444 c445), some b186, blk (.slice A171 n172 c173), blk (.slice A176 n177 c178), blk (.slice A74 n75 c76)]) (O := O) (j := 0) rfl)).st (.own _ _ g478 hr479)).st s493).st (.dr _ (L := [blk (.slice A475 n476 c477), some b186, blk (.slice A171 n172 c173), blk (.slice A176 n177 c178), blk (.slice A489 n490 c491)]) (O := O) (j := 0) rfl)).st (.dr _ (L := [some b186, blk (.slice A171 n172 c173), blk (.slice A176 n177 c178), blk (.slice A489 n490 c491)]) (O := O) (j := 0) rfl)).st (.dr _ (L := [blk (.slice A171 n172 c173), blk (.slice A176 n177 c178), blk (.slice A489 n490 c491)]) (O := O) (j := 0) rfl)).st (.dr _ (L := [blk (.slice A176 n177 c178), blk (.slice A489 n490 c491)]) (O := O) (j := 0) rfl))
        have h506 := ((((((((((((h411.st (.owns _ g436 hk450)).st (.wl (L := [blk (.slice A438 n439 c440), blk (.slice A443 n444 c445), some b186, blk (.slice A160 n161 c162), blk (.slice A165 n166 c167), blk (.slice A171 n172 c173), blk (.slice A176 n177 c178), blk (.slice A74 n75 c76)]) (O := O) (j := 2) rfl g453)).st (.dr _ (L := [blk (.slice A438 n439 c440), blk (.slice A443 n444 c445), some b186, blk (.slice A160 n161 c162), blk (.slice A165 n166 c167), blk (.slice A171 n172 c173), blk (.slice A176 n177 c178), blk (.slice A74 n75 c76)]) (O := O) (j := 3) rfl)).st (.dr _ (L := [blk (.slice A438 n439 c440), blk (.slice A443 n444 c445), some b186, blk (.slice A165 n166 c167), blk (.slice A171 n172 c173), blk (.slice A176 n177 c178), blk (.slice A74 n75 c76)]) (O := O) (j := 3) rfl)).st (.dr _ (L := [blk (.slice A438 n439 c440), blk (.slice A443 n444 c445), some b186, blk (.slice A171 n172 c173), blk (.slice A176 n177 c178), blk (.slice A74 n75 c76)]) (O := O) (j := 0) rfl)).st (.dr _ (L := [blk (.slice A443 n444 c445), some b186, blk (.slice A171 n172 c173), blk (.slice A176 n177 c178), blk (.slice A74 n75 c76)]) (O := O) (j := 0) rfl)).st (.own _ _ g478 hr479)).st s493).st (.dr _ (L := [blk (.slice A475 n476 c477), some b186, blk (.slice A171 n172 c173), blk (.slice A176 n177 c178), blk (.slice A489 n490 c491)]) (O := O) (j := 0) rfl)).st (.dr _ (L := [some b186, blk (.slice A171 n172 c173), blk (.slice A176 n177 c178), blk (.slice A489 n490 c491)]) (O := O) (j := 0) rfl)).st (.dr _ (L := [blk (.slice A171 n172 c173), blk (.slice A176 n177 c178), blk (.slice A489 n490 c491)]) (O := O) (j := 0) rfl)).st (.dr _ (L := [blk (.slice A176 n177 c178), blk (.slice A489 n490 c491)]) (O := O) (j := 0) rfl))
        have h507 := (Ow.sd (L := [blk (.slice A176 n177 c178), blk (.slice A489 n490 c491)]) (O := O) (Ow.sd (L := [blk (.slice A171 n172 c173), blk (.slice A176 n177 c178), blk (.slice A489 n490 c491)]) (O := O) (Ow.sd (L := [some b186, blk (.slice A171 n172 c173), blk (.slice A176 n177 c178), blk (.slice A489 n490 c491)]) (O := O) (Ow.sd (L := [blk (.slice A475 n476 c477), some b186, blk (.slice A171 n172 c173), blk (.slice A176 n177 c178), blk (.slice A489 n490 c491)]) (O := O) h495 (i := 4) rfl (j := 0) rfl (by decide)) (i := 3) rfl (j := 0) rfl (by decide)) (i := 2) rfl (j := 0) rfl (by decide)) (i := 1) rfl (j := 0) rfl (by decide))
        exact ⟨((xs2 ++ ([(⟨r4.Id, r4.Had, r4.Was, (nth b r3).Has, r6⟩ : Change)] : List Change)), A489, n490, c491, i2 + 1), hm504, hI503, ⟨rfl, rfl, rfl, rfl, trivial⟩, hc502, h505, h506, h507⟩
       ·have H := ite_f H hq457
        refine L_run (dj := 85) rfl rfl (by exact congrArg Value.bool hq457) ?_
        refine L_pu (P_fa fa103_2 ⟨b186, 0, none⟩ ⟨b186, 2, none⟩ rfl rfl) ?_
        refine L_run (dj := 85) rfl rfl (by exact congrArg Value.bool hq457) ?_
        refine L_pu (P_lda ag71 sz71 cL ⟨b186, 2, none⟩ [vs r4.Was.Id, vi r4.Was.Shape.Kind, .slice A160 n161 c162, .slice A165 n166 c167] rfl rfl (hx454.cells (off := 2) rfl)) ?_
        refine L_run (dj := 85) rfl rfl (by exact congrArg Value.bool hq457) ?_
        refine L_pu (P_fa fa103_4 ⟨b186, 0, none⟩ ⟨b186, 7, none⟩ rfl rfl) ?_
        refine L_run (dj := 85) rfl rfl (by exact congrArg Value.bool hq457) ?_
        refine L_pu (P_lda ag71 sz71 cL ⟨b186, 7, none⟩ [vs r6.Id, vi r6.Shape.Kind, .slice A438 n439 c440, .slice A443 n444 c445] rfl rfl (hx454.cells (off := 7) rfl)) ?_
        refine L_run (dj := 85) rfl rfl (by exact congrArg Value.bool hq457) ?_
        have h508 := (Ow.sw (L := [blk (.slice A438 n439 c440), blk (.slice A443 n444 c445), some b186, blk (.slice A160 n161 c162), blk (.slice A165 n166 c167), blk (.slice A171 n172 c173), blk (.slice A176 n177 c178), blk (.slice A74 n75 c76)]) (O := O) ((Ow.sw (L := [some b186, blk (.slice A160 n161 c162), blk (.slice A165 n166 c167), blk (.slice A171 n172 c173), blk (.slice A176 n177 c178), blk (.slice A74 n75 c76)]) (O := O) ((Ow.sw (L := [some b186, blk (.slice A160 n161 c162), blk (.slice A165 n166 c167), blk (.slice A171 n172 c173), blk (.slice A176 n177 c178), blk (.slice A74 n75 c76)]) (O := O) (h163.so _ g187 (oge hl188)) hc192 (i := 1) rfl (j := 0) rfl (by decide) g194).sn g349) hc351 (i := 1) rfl (j := 0) rfl (by decide) g400).sos g436 hk450) hc451 (i := 3) rfl (j := 2) rfl (by decide) g453)
        have h509 := Ow.gv (L := [blk (.slice A438 n439 c440), blk (.slice A443 n444 c445), some b186, blk (.slice A160 n161 c162), blk (.slice A165 n166 c167), blk (.slice A171 n172 c173), blk (.slice A176 n177 c178), blk (.slice A74 n75 c76)]) (O := O) h508 hc456 (i := 3) rfl
        have hc510 := hc456.drop 3 rfl
        have h512 := (Ow.sd (L := [blk (.slice A438 n439 c440), blk (.slice A443 n444 c445), some b186, blk (.slice A160 n161 c162), blk (.slice A165 n166 c167), blk (.slice A171 n172 c173), blk (.slice A176 n177 c178), blk (.slice A74 n75 c76)]) (O := O) (Ow.sw (L := [blk (.slice A438 n439 c440), blk (.slice A443 n444 c445), some b186, blk (.slice A160 n161 c162), blk (.slice A165 n166 c167), blk (.slice A171 n172 c173), blk (.slice A176 n177 c178), blk (.slice A74 n75 c76)]) (O := O) ((Ow.sw (L := [some b186, blk (.slice A160 n161 c162), blk (.slice A165 n166 c167), blk (.slice A171 n172 c173), blk (.slice A176 n177 c178), blk (.slice A74 n75 c76)]) (O := O) ((Ow.sw (L := [some b186, blk (.slice A160 n161 c162), blk (.slice A165 n166 c167), blk (.slice A171 n172 c173), blk (.slice A176 n177 c178), blk (.slice A74 n75 c76)]) (O := O) (h168.so _ g187 (oge hl188)) hc192 (i := 2) rfl (j := 0) rfl (by decide) g194).sn g349) hc351 (i := 2) rfl (j := 0) rfl (by decide) g400).sos g436 hk450) hc451 (i := 4) rfl (j := 2) rfl (by decide) g453) (i := 4) rfl (j := 3) rfl (by decide))
        have h513 := Ow.gv (L := [blk (.slice A438 n439 c440), blk (.slice A443 n444 c445), some b186, blk (.slice A165 n166 c167), blk (.slice A171 n172 c173), blk (.slice A176 n177 c178), blk (.slice A74 n75 c76)]) (O := O) h512 hc510 (i := 3) rfl
        have hc514 := hc510.drop 3 rfl
        have h516 := (Ow.sd (L := [blk (.slice A438 n439 c440), blk (.slice A443 n444 c445), some b186, blk (.slice A165 n166 c167), blk (.slice A171 n172 c173), blk (.slice A176 n177 c178), blk (.slice A74 n75 c76)]) (O := O) (Ow.sd (L := [blk (.slice A438 n439 c440), blk (.slice A443 n444 c445), some b186, blk (.slice A160 n161 c162), blk (.slice A165 n166 c167), blk (.slice A171 n172 c173), blk (.slice A176 n177 c178), blk (.slice A74 n75 c76)]) (O := O) (Ow.sw (L := [blk (.slice A438 n439 c440), blk (.slice A443 n444 c445), some b186, blk (.slice A160 n161 c162), blk (.slice A165 n166 c167), blk (.slice A171 n172 c173), blk (.slice A176 n177 c178), blk (.slice A74 n75 c76)]) (O := O) h441 hc451 (i := 0) rfl (j := 2) rfl (by decide) g453) (i := 0) rfl (j := 3) rfl (by decide)) (i := 0) rfl (j := 3) rfl (by decide))
        have h517 := Ow.gv (L := [blk (.slice A438 n439 c440), blk (.slice A443 n444 c445), some b186, blk (.slice A171 n172 c173), blk (.slice A176 n177 c178), blk (.slice A74 n75 c76)]) (O := O) h516 hc514 (i := 0) rfl
        have hc518 := hc514.drop 0 rfl
        have h520 := (Ow.sd (L := [blk (.slice A438 n439 c440), blk (.slice A443 n444 c445), some b186, blk (.slice A171 n172 c173), blk (.slice A176 n177 c178), blk (.slice A74 n75 c76)]) (O := O) (Ow.sd (L := [blk (.slice A438 n439 c440), blk (.slice A443 n444 c445), some b186, blk (.slice A165 n166 c167), blk (.slice A171 n172 c173), blk (.slice A176 n177 c178), blk (.slice A74 n75 c76)]) (O := O) (Ow.sd (L := [blk (.slice A438 n439 c440), blk (.slice A443 n444 c445), some b186, blk (.slice A160 n161 c162), blk (.slice A165 n166 c167), blk (.slice A171 n172 c173), blk (.slice A176 n177 c178), blk (.slice A74 n75 c76)]) (O := O) (Ow.sw (L := [blk (.slice A438 n439 c440), blk (.slice A443 n444 c445), some b186, blk (.slice A160 n161 c162), blk (.slice A165 n166 c167), blk (.slice A171 n172 c173), blk (.slice A176 n177 c178), blk (.slice A74 n75 c76)]) (O := O) h446 hc451 (i := 1) rfl (j := 2) rfl (by decide) g453) (i := 1) rfl (j := 3) rfl (by decide)) (i := 1) rfl (j := 3) rfl (by decide)) (i := 1) rfl (j := 0) rfl (by decide))
        have h521 := Ow.gv (L := [blk (.slice A443 n444 c445), some b186, blk (.slice A171 n172 c173), blk (.slice A176 n177 c178), blk (.slice A74 n75 c76)]) (O := O) h520 hc518 (i := 0) rfl
        have hc522 := hc518.drop 0 rfl
        have h524 := (((h509.st (.dr _ (L := [blk (.slice A438 n439 c440), blk (.slice A443 n444 c445), some b186, blk (.slice A165 n166 c167), blk (.slice A171 n172 c173), blk (.slice A176 n177 c178), blk (.slice A74 n75 c76)]) (O := O) (j := 3) rfl)).st (.dr _ (L := [blk (.slice A438 n439 c440), blk (.slice A443 n444 c445), some b186, blk (.slice A171 n172 c173), blk (.slice A176 n177 c178), blk (.slice A74 n75 c76)]) (O := O) (j := 0) rfl)).st (.dr _ (L := [blk (.slice A443 n444 c445), some b186, blk (.slice A171 n172 c173), blk (.slice A176 n177 c178), blk (.slice A74 n75 c76)]) (O := O) (j := 0) rfl))
        have h525 := ((h513.st (.dr _ (L := [blk (.slice A438 n439 c440), blk (.slice A443 n444 c445), some b186, blk (.slice A171 n172 c173), blk (.slice A176 n177 c178), blk (.slice A74 n75 c76)]) (O := O) (j := 0) rfl)).st (.dr _ (L := [blk (.slice A443 n444 c445), some b186, blk (.slice A171 n172 c173), blk (.slice A176 n177 c178), blk (.slice A74 n75 c76)]) (O := O) (j := 0) rfl))
        have h526 := (h517.st (.dr _ (L := [blk (.slice A443 n444 c445), some b186, blk (.slice A171 n172 c173), blk (.slice A176 n177 c178), blk (.slice A74 n75 c76)]) (O := O) (j := 0) rfl))
        refine L_call go79 [.agg #[vs r4.Was.Id, vi r4.Was.Shape.Kind, .slice A160 n161 c162, .slice A165 n166 c167], .agg #[vs r6.Id, vi r6.Shape.Kind, .slice A438 n439 c440, .slice A443 n444 c445]] rfl ((spec_FeatSame.calls w452 hc522.ok r4.Was A160 n161 c162 A165 n166 c167 hs159 h524 h525 r6 A438 n439 c440 A443 n444 c445 hs437 h526 h521 _ H).mono ?_)
        rintro _ w527 ⟨r7, rfl, H, g528⟩
        have hc532 := hc456.k0 g528
        refine L_run (dj := 85) rfl rfl (by exact congrArg Value.bool hq457) ?_
        refine L_pu (P_not r7 rfl) ?_
        refine L_pu (P_pick false (vb (!r7)) (by exact congrArg Value.bool hq457) rfl) ?_
        refine L_nil ?_
        refine W_cond (!r7) rfl (fun hq533 => ?_) (fun hq533 => ?_)
        ·have H := ite_t H hq533
         refine W_reg ?_
         refine L_pu (P_move (.slice A74 n75 c76) rfl) ?_
         have h534 := (hx454.k0 g528)
         refine L_pu (P_lda ag103 sz103 cL ⟨b186, 0, none⟩ [vs r4.Id, vb r4.Had, vs r4.Was.Id, vi r4.Was.Shape.Kind, .slice A160 n161 c162, .slice A165 n166 c167, vb ((nth b r3).Has), vs r6.Id, vi r6.Shape.Kind, .slice A438 n439 c440, .slice A443 n444 c445] rfl rfl (h534.cells (off := 0) rfl)) ?_
         have h535 := ((Ow.sw (L := [blk (.slice A438 n439 c440), blk (.slice A443 n444 c445), some b186, blk (.slice A160 n161 c162), blk (.slice A165 n166 c167), blk (.slice A171 n172 c173), blk (.slice A176 n177 c178), blk (.slice A74 n75 c76)]) (O := O) ((Ow.sw (L := [some b186, blk (.slice A160 n161 c162), blk (.slice A165 n166 c167), blk (.slice A171 n172 c173), blk (.slice A176 n177 c178), blk (.slice A74 n75 c76)]) (O := O) ((Ow.sw (L := [some b186, blk (.slice A160 n161 c162), blk (.slice A165 n166 c167), blk (.slice A171 n172 c173), blk (.slice A176 n177 c178), blk (.slice A74 n75 c76)]) (O := O) (h163.so _ g187 (oge hl188)) hc192 (i := 1) rfl (j := 0) rfl (by decide) g194).sn g349) hc351 (i := 1) rfl (j := 0) rfl (by decide) g400).sos g436 hk450) hc451 (i := 3) rfl (j := 2) rfl (by decide) g453).sn g528)
         have h536 := Ow.gv (L := [blk (.slice A438 n439 c440), blk (.slice A443 n444 c445), some b186, blk (.slice A160 n161 c162), blk (.slice A165 n166 c167), blk (.slice A171 n172 c173), blk (.slice A176 n177 c178), blk (.slice A74 n75 c76)]) (O := O) h535 hc532 (i := 3) rfl
         have hc537 := hc532.drop 3 rfl
         have h539 := (Ow.sd (L := [blk (.slice A438 n439 c440), blk (.slice A443 n444 c445), some b186, blk (.slice A160 n161 c162), blk (.slice A165 n166 c167), blk (.slice A171 n172 c173), blk (.slice A176 n177 c178), blk (.slice A74 n75 c76)]) (O := O) ((Ow.sw (L := [blk (.slice A438 n439 c440), blk (.slice A443 n444 c445), some b186, blk (.slice A160 n161 c162), blk (.slice A165 n166 c167), blk (.slice A171 n172 c173), blk (.slice A176 n177 c178), blk (.slice A74 n75 c76)]) (O := O) ((Ow.sw (L := [some b186, blk (.slice A160 n161 c162), blk (.slice A165 n166 c167), blk (.slice A171 n172 c173), blk (.slice A176 n177 c178), blk (.slice A74 n75 c76)]) (O := O) ((Ow.sw (L := [some b186, blk (.slice A160 n161 c162), blk (.slice A165 n166 c167), blk (.slice A171 n172 c173), blk (.slice A176 n177 c178), blk (.slice A74 n75 c76)]) (O := O) (h168.so _ g187 (oge hl188)) hc192 (i := 2) rfl (j := 0) rfl (by decide) g194).sn g349) hc351 (i := 2) rfl (j := 0) rfl (by decide) g400).sos g436 hk450) hc451 (i := 4) rfl (j := 2) rfl (by decide) g453).sn g528) (i := 4) rfl (j := 3) rfl (by decide))
         have h540 := Ow.gv (L := [blk (.slice A438 n439 c440), blk (.slice A443 n444 c445), some b186, blk (.slice A165 n166 c167), blk (.slice A171 n172 c173), blk (.slice A176 n177 c178), blk (.slice A74 n75 c76)]) (O := O) h539 hc537 (i := 3) rfl
         have hc541 := hc537.drop 3 rfl
         have h543 := (Ow.sd (L := [blk (.slice A438 n439 c440), blk (.slice A443 n444 c445), some b186, blk (.slice A165 n166 c167), blk (.slice A171 n172 c173), blk (.slice A176 n177 c178), blk (.slice A74 n75 c76)]) (O := O) (Ow.sd (L := [blk (.slice A438 n439 c440), blk (.slice A443 n444 c445), some b186, blk (.slice A160 n161 c162), blk (.slice A165 n166 c167), blk (.slice A171 n172 c173), blk (.slice A176 n177 c178), blk (.slice A74 n75 c76)]) (O := O) ((Ow.sw (L := [blk (.slice A438 n439 c440), blk (.slice A443 n444 c445), some b186, blk (.slice A160 n161 c162), blk (.slice A165 n166 c167), blk (.slice A171 n172 c173), blk (.slice A176 n177 c178), blk (.slice A74 n75 c76)]) (O := O) h441 hc451 (i := 0) rfl (j := 2) rfl (by decide) g453).sn g528) (i := 0) rfl (j := 3) rfl (by decide)) (i := 0) rfl (j := 3) rfl (by decide))
         have h544 := Ow.gv (L := [blk (.slice A438 n439 c440), blk (.slice A443 n444 c445), some b186, blk (.slice A171 n172 c173), blk (.slice A176 n177 c178), blk (.slice A74 n75 c76)]) (O := O) h543 hc541 (i := 0) rfl
         have hc545 := hc541.drop 0 rfl
         have h547 := (Ow.sd (L := [blk (.slice A438 n439 c440), blk (.slice A443 n444 c445), some b186, blk (.slice A171 n172 c173), blk (.slice A176 n177 c178), blk (.slice A74 n75 c76)]) (O := O) (Ow.sd (L := [blk (.slice A438 n439 c440), blk (.slice A443 n444 c445), some b186, blk (.slice A165 n166 c167), blk (.slice A171 n172 c173), blk (.slice A176 n177 c178), blk (.slice A74 n75 c76)]) (O := O) (Ow.sd (L := [blk (.slice A438 n439 c440), blk (.slice A443 n444 c445), some b186, blk (.slice A160 n161 c162), blk (.slice A165 n166 c167), blk (.slice A171 n172 c173), blk (.slice A176 n177 c178), blk (.slice A74 n75 c76)]) (O := O) ((Ow.sw (L := [blk (.slice A438 n439 c440), blk (.slice A443 n444 c445), some b186, blk (.slice A160 n161 c162), blk (.slice A165 n166 c167), blk (.slice A171 n172 c173), blk (.slice A176 n177 c178), blk (.slice A74 n75 c76)]) (O := O) h446 hc451 (i := 1) rfl (j := 2) rfl (by decide) g453).sn g528) (i := 1) rfl (j := 3) rfl (by decide)) (i := 1) rfl (j := 3) rfl (by decide)) (i := 1) rfl (j := 0) rfl (by decide))
         have h548 := Ow.gv (L := [blk (.slice A443 n444 c445), some b186, blk (.slice A171 n172 c173), blk (.slice A176 n177 c178), blk (.slice A74 n75 c76)]) (O := O) h547 hc545 (i := 0) rfl
         have hc549 := hc545.drop 0 rfl
         have h559 := (((h536.st (.dr _ (L := [blk (.slice A438 n439 c440), blk (.slice A443 n444 c445), some b186, blk (.slice A165 n166 c167), blk (.slice A171 n172 c173), blk (.slice A176 n177 c178), blk (.slice A74 n75 c76)]) (O := O) (j := 3) rfl)).st (.dr _ (L := [blk (.slice A438 n439 c440), blk (.slice A443 n444 c445), some b186, blk (.slice A171 n172 c173), blk (.slice A176 n177 c178), blk (.slice A74 n75 c76)]) (O := O) (j := 0) rfl)).st (.dr _ (L := [blk (.slice A443 n444 c445), some b186, blk (.slice A171 n172 c173), blk (.slice A176 n177 c178), blk (.slice A74 n75 c76)]) (O := O) (j := 0) rfl))
         have h560 := ((h540.st (.dr _ (L := [blk (.slice A438 n439 c440), blk (.slice A443 n444 c445), some b186, blk (.slice A171 n172 c173), blk (.slice A176 n177 c178), blk (.slice A74 n75 c76)]) (O := O) (j := 0) rfl)).st (.dr _ (L := [blk (.slice A443 n444 c445), some b186, blk (.slice A171 n172 c173), blk (.slice A176 n177 c178), blk (.slice A74 n75 c76)]) (O := O) (j := 0) rfl))
         have h561 := (h544.st (.dr _ (L := [blk (.slice A443 n444 c445), some b186, blk (.slice A171 n172 c173), blk (.slice A176 n177 c178), blk (.slice A74 n75 c76)]) (O := O) (j := 0) rfl))
         refine L_lit (kd := kChange) ei43 hc549 ([(⟨r4.Id, r4.Had, r4.Was, (nth b r3).Has, r6⟩ : Change)] : List Change) (cells := [vs r4.Id, vb r4.Had, vs r4.Was.Id, vi r4.Was.Shape.Kind, .slice A160 n161 c162, .slice A165 n166 c167, vb ((nth b r3).Has), vs r6.Id, vi r6.Shape.Kind, .slice A438 n439 c440, .slice A443 n444 c445]) ⟨[vs r4.Id, vb r4.Had, vs r4.Was.Id, vi r4.Was.Shape.Kind, .slice A160 n161 c162, .slice A165 n166 c167, vb ((nth b r3).Has), vs r6.Id, vi r6.Shape.Kind, .slice A438 n439 c440, .slice A443 n444 c445], _, rfl, (kChange.mk _ _ (⟨r4.Id, r4.Had, r4.Was, (nth b r3).Has, r6⟩ : Change) hs158 hs159 h559 h560 hs437 h561 h548), rfl⟩ (fun _ => by kernel_rfl) fun w551 A552 n553 c554 g555 hr556 hc557 h558 => ?_
         obtain ⟨hb563, H⟩ := H
         have h564 := ((Ow.sd (L := [blk (.slice A443 n444 c445), some b186, blk (.slice A171 n172 c173), blk (.slice A176 n177 c178), blk (.slice A74 n75 c76)]) (O := O) (Ow.sd (L := [blk (.slice A438 n439 c440), blk (.slice A443 n444 c445), some b186, blk (.slice A171 n172 c173), blk (.slice A176 n177 c178), blk (.slice A74 n75 c76)]) (O := O) (Ow.sd (L := [blk (.slice A438 n439 c440), blk (.slice A443 n444 c445), some b186, blk (.slice A165 n166 c167), blk (.slice A171 n172 c173), blk (.slice A176 n177 c178), blk (.slice A74 n75 c76)]) (O := O) (Ow.sd (L := [blk (.slice A438 n439 c440), blk (.slice A443 n444 c445), some b186, blk (.slice A160 n161 c162), blk (.slice A165 n166 c167), blk (.slice A171 n172 c173), blk (.slice A176 n177 c178), blk (.slice A74 n75 c76)]) (O := O) ((Ow.sw (L := [blk (.slice A438 n439 c440), blk (.slice A443 n444 c445), some b186, blk (.slice A160 n161 c162), blk (.slice A165 n166 c167), blk (.slice A171 n172 c173), blk (.slice A176 n177 c178), blk (.slice A74 n75 c76)]) (O := O) ((Ow.sw (L := [some b186, blk (.slice A160 n161 c162), blk (.slice A165 n166 c167), blk (.slice A171 n172 c173), blk (.slice A176 n177 c178), blk (.slice A74 n75 c76)]) (O := O) ((Ow.sw (L := [some b186, blk (.slice A160 n161 c162), blk (.slice A165 n166 c167), blk (.slice A171 n172 c173), blk (.slice A176 n177 c178), blk (.slice A74 n75 c76)]) (O := O) (((h81.sn g121).sos g157 hk183).so _ g187 (oge hl188)) hc192 (i := 5) rfl (j := 0) rfl (by decide) g194).sn g349) hc351 (i := 5) rfl (j := 0) rfl (by decide) g400).sos g436 hk450) hc451 (i := 7) rfl (j := 2) rfl (by decide) g453).sn g528) (i := 7) rfl (j := 3) rfl (by decide)) (i := 6) rfl (j := 3) rfl (by decide)) (i := 5) rfl (j := 0) rfl (by decide)) (i := 4) rfl (j := 0) rfl (by decide)).so _ g555 hr556)
         refine L_app ei43 hc557 (.slice A74 n75 c76) xs2 ([(⟨r4.Id, r4.Had, r4.Was, (nth b r3).Has, r6⟩ : Change)] : List Change) rfl h564 (.slice A552 n553 c554) rfl h558.sx 4 rfl hb563 fun w565 A566 n567 c568 g569 s570 hc571 h572 => ?_
         refine L_pu (P_assign (.slice A566 n567 c568) rfl) ?_
         refine L_nil ?_
         refine W_reg ?_
         refine L_pu (P_move (vi i2) rfl) ?_
         obtain ⟨hb575, H⟩ := H
         have hi574 : I64 (i2 + 1) := i64_succ (of_decide_eq_true hq89) hl88 hb575
         refine L_pu (P_add i2 1 rfl rfl hi574) ?_
         refine L_pu (P_assign (vi (i2 + 1)) rfl) ?_
         refine L_nil ?_
         have hc576 := hc571.drop 0 rfl
         have hc577 := hc576.drop 0 rfl
         have hc578 := hc577.drop 0 rfl
         have hc579 := hc578.drop 0 rfl
         obtain ⟨hI580, hm581⟩ := H
         have h582 := (((((((((((((((h205.st (.new _ g349)).st (.wl (L := [some b186, blk (.slice A160 n161 c162), blk (.slice A165 n166 c167), blk (.slice A171 n172 c173), blk (.slice A176 n177 c178), blk (.slice A74 n75 c76)]) (O := O) (j := 0) rfl g400)).st (.owns _ g436 hk450)).st (.wl (L := [blk (.slice A438 n439 c440), blk (.slice A443 n444 c445), some b186, blk (.slice A160 n161 c162), blk (.slice A165 n166 c167), blk (.slice A171 n172 c173), blk (.slice A176 n177 c178), blk (.slice A74 n75 c76)]) (O := O) (j := 2) rfl g453)).st (.new _ g528)).st (.dr _ (L := [blk (.slice A438 n439 c440), blk (.slice A443 n444 c445), some b186, blk (.slice A160 n161 c162), blk (.slice A165 n166 c167), blk (.slice A171 n172 c173), blk (.slice A176 n177 c178), blk (.slice A74 n75 c76)]) (O := O) (j := 3) rfl)).st (.dr _ (L := [blk (.slice A438 n439 c440), blk (.slice A443 n444 c445), some b186, blk (.slice A165 n166 c167), blk (.slice A171 n172 c173), blk (.slice A176 n177 c178), blk (.slice A74 n75 c76)]) (O := O) (j := 3) rfl)).st (.dr _ (L := [blk (.slice A438 n439 c440), blk (.slice A443 n444 c445), some b186, blk (.slice A171 n172 c173), blk (.slice A176 n177 c178), blk (.slice A74 n75 c76)]) (O := O) (j := 0) rfl)).st (.dr _ (L := [blk (.slice A443 n444 c445), some b186, blk (.slice A171 n172 c173), blk (.slice A176 n177 c178), blk (.slice A74 n75 c76)]) (O := O) (j := 0) rfl)).st (.own _ _ g555 hr556)).st s570).st (.dr _ (L := [blk (.slice A552 n553 c554), some b186, blk (.slice A171 n172 c173), blk (.slice A176 n177 c178), blk (.slice A566 n567 c568)]) (O := O) (j := 0) rfl)).st (.dr _ (L := [some b186, blk (.slice A171 n172 c173), blk (.slice A176 n177 c178), blk (.slice A566 n567 c568)]) (O := O) (j := 0) rfl)).st (.dr _ (L := [blk (.slice A171 n172 c173), blk (.slice A176 n177 c178), blk (.slice A566 n567 c568)]) (O := O) (j := 0) rfl)).st (.dr _ (L := [blk (.slice A176 n177 c178), blk (.slice A566 n567 c568)]) (O := O) (j := 0) rfl))
         have h583 := (((((((((((((h411.st (.owns _ g436 hk450)).st (.wl (L := [blk (.slice A438 n439 c440), blk (.slice A443 n444 c445), some b186, blk (.slice A160 n161 c162), blk (.slice A165 n166 c167), blk (.slice A171 n172 c173), blk (.slice A176 n177 c178), blk (.slice A74 n75 c76)]) (O := O) (j := 2) rfl g453)).st (.new _ g528)).st (.dr _ (L := [blk (.slice A438 n439 c440), blk (.slice A443 n444 c445), some b186, blk (.slice A160 n161 c162), blk (.slice A165 n166 c167), blk (.slice A171 n172 c173), blk (.slice A176 n177 c178), blk (.slice A74 n75 c76)]) (O := O) (j := 3) rfl)).st (.dr _ (L := [blk (.slice A438 n439 c440), blk (.slice A443 n444 c445), some b186, blk (.slice A165 n166 c167), blk (.slice A171 n172 c173), blk (.slice A176 n177 c178), blk (.slice A74 n75 c76)]) (O := O) (j := 3) rfl)).st (.dr _ (L := [blk (.slice A438 n439 c440), blk (.slice A443 n444 c445), some b186, blk (.slice A171 n172 c173), blk (.slice A176 n177 c178), blk (.slice A74 n75 c76)]) (O := O) (j := 0) rfl)).st (.dr _ (L := [blk (.slice A443 n444 c445), some b186, blk (.slice A171 n172 c173), blk (.slice A176 n177 c178), blk (.slice A74 n75 c76)]) (O := O) (j := 0) rfl)).st (.own _ _ g555 hr556)).st s570).st (.dr _ (L := [blk (.slice A552 n553 c554), some b186, blk (.slice A171 n172 c173), blk (.slice A176 n177 c178), blk (.slice A566 n567 c568)]) (O := O) (j := 0) rfl)).st (.dr _ (L := [some b186, blk (.slice A171 n172 c173), blk (.slice A176 n177 c178), blk (.slice A566 n567 c568)]) (O := O) (j := 0) rfl)).st (.dr _ (L := [blk (.slice A171 n172 c173), blk (.slice A176 n177 c178), blk (.slice A566 n567 c568)]) (O := O) (j := 0) rfl)).st (.dr _ (L := [blk (.slice A176 n177 c178), blk (.slice A566 n567 c568)]) (O := O) (j := 0) rfl))
         have h584 := (Ow.sd (L := [blk (.slice A176 n177 c178), blk (.slice A566 n567 c568)]) (O := O) (Ow.sd (L := [blk (.slice A171 n172 c173), blk (.slice A176 n177 c178), blk (.slice A566 n567 c568)]) (O := O) (Ow.sd (L := [some b186, blk (.slice A171 n172 c173), blk (.slice A176 n177 c178), blk (.slice A566 n567 c568)]) (O := O) (Ow.sd (L := [blk (.slice A552 n553 c554), some b186, blk (.slice A171 n172 c173), blk (.slice A176 n177 c178), blk (.slice A566 n567 c568)]) (O := O) h572 (i := 4) rfl (j := 0) rfl (by decide)) (i := 3) rfl (j := 0) rfl (by decide)) (i := 2) rfl (j := 0) rfl (by decide)) (i := 1) rfl (j := 0) rfl (by decide))
         exact ⟨((xs2 ++ ([(⟨r4.Id, r4.Had, r4.Was, (nth b r3).Has, r6⟩ : Change)] : List Change)), A566, n567, c568, i2 + 1), hm581, hI580, ⟨rfl, rfl, rfl, rfl, trivial⟩, hc579, h582, h583, h584⟩
        ·have H := ite_f H hq533
         refine W_skip ?_
         refine W_reg ?_
         refine L_pu (P_move (vi i2) rfl) ?_
         obtain ⟨hb586, H⟩ := H
         have hi585 : I64 (i2 + 1) := i64_succ (of_decide_eq_true hq89) hl88 hb586
         refine L_pu (P_add i2 1 rfl rfl hi585) ?_
         refine L_pu (P_assign (vi (i2 + 1)) rfl) ?_
         refine L_nil ?_
         have hc587 := hc532.drop 0 rfl
         have hc588 := hc587.drop 0 rfl
         have hc589 := hc588.drop 0 rfl
         have hc590 := hc589.drop 0 rfl
         have hc591 := hc590.drop 0 rfl
         have hc592 := hc591.drop 0 rfl
         have hc593 := hc592.drop 0 rfl
         obtain ⟨hI594, hm595⟩ := H
         have h596 := ((((((((((((h205.st (.new _ g349)).st (.wl (L := [some b186, blk (.slice A160 n161 c162), blk (.slice A165 n166 c167), blk (.slice A171 n172 c173), blk (.slice A176 n177 c178), blk (.slice A74 n75 c76)]) (O := O) (j := 0) rfl g400)).st (.owns _ g436 hk450)).st (.wl (L := [blk (.slice A438 n439 c440), blk (.slice A443 n444 c445), some b186, blk (.slice A160 n161 c162), blk (.slice A165 n166 c167), blk (.slice A171 n172 c173), blk (.slice A176 n177 c178), blk (.slice A74 n75 c76)]) (O := O) (j := 2) rfl g453)).st (.new _ g528)).st (.dr _ (L := [blk (.slice A438 n439 c440), blk (.slice A443 n444 c445), some b186, blk (.slice A160 n161 c162), blk (.slice A165 n166 c167), blk (.slice A171 n172 c173), blk (.slice A176 n177 c178), blk (.slice A74 n75 c76)]) (O := O) (j := 0) rfl)).st (.dr _ (L := [blk (.slice A443 n444 c445), some b186, blk (.slice A160 n161 c162), blk (.slice A165 n166 c167), blk (.slice A171 n172 c173), blk (.slice A176 n177 c178), blk (.slice A74 n75 c76)]) (O := O) (j := 0) rfl)).st (.dr _ (L := [some b186, blk (.slice A160 n161 c162), blk (.slice A165 n166 c167), blk (.slice A171 n172 c173), blk (.slice A176 n177 c178), blk (.slice A74 n75 c76)]) (O := O) (j := 0) rfl)).st (.dr _ (L := [blk (.slice A160 n161 c162), blk (.slice A165 n166 c167), blk (.slice A171 n172 c173), blk (.slice A176 n177 c178), blk (.slice A74 n75 c76)]) (O := O) (j := 0) rfl)).st (.dr _ (L := [blk (.slice A165 n166 c167), blk (.slice A171 n172 c173), blk (.slice A176 n177 c178), blk (.slice A74 n75 c76)]) (O := O) (j := 0) rfl)).st (.dr _ (L := [blk (.slice A171 n172 c173), blk (.slice A176 n177 c178), blk (.slice A74 n75 c76)]) (O := O) (j := 0) rfl)).st (.dr _ (L := [blk (.slice A176 n177 c178), blk (.slice A74 n75 c76)]) (O := O) (j := 0) rfl))
         have h597 := ((((((((((h411.st (.owns _ g436 hk450)).st (.wl (L := [blk (.slice A438 n439 c440), blk (.slice A443 n444 c445), some b186, blk (.slice A160 n161 c162), blk (.slice A165 n166 c167), blk (.slice A171 n172 c173), blk (.slice A176 n177 c178), blk (.slice A74 n75 c76)]) (O := O) (j := 2) rfl g453)).st (.new _ g528)).st (.dr _ (L := [blk (.slice A438 n439 c440), blk (.slice A443 n444 c445), some b186, blk (.slice A160 n161 c162), blk (.slice A165 n166 c167), blk (.slice A171 n172 c173), blk (.slice A176 n177 c178), blk (.slice A74 n75 c76)]) (O := O) (j := 0) rfl)).st (.dr _ (L := [blk (.slice A443 n444 c445), some b186, blk (.slice A160 n161 c162), blk (.slice A165 n166 c167), blk (.slice A171 n172 c173), blk (.slice A176 n177 c178), blk (.slice A74 n75 c76)]) (O := O) (j := 0) rfl)).st (.dr _ (L := [some b186, blk (.slice A160 n161 c162), blk (.slice A165 n166 c167), blk (.slice A171 n172 c173), blk (.slice A176 n177 c178), blk (.slice A74 n75 c76)]) (O := O) (j := 0) rfl)).st (.dr _ (L := [blk (.slice A160 n161 c162), blk (.slice A165 n166 c167), blk (.slice A171 n172 c173), blk (.slice A176 n177 c178), blk (.slice A74 n75 c76)]) (O := O) (j := 0) rfl)).st (.dr _ (L := [blk (.slice A165 n166 c167), blk (.slice A171 n172 c173), blk (.slice A176 n177 c178), blk (.slice A74 n75 c76)]) (O := O) (j := 0) rfl)).st (.dr _ (L := [blk (.slice A171 n172 c173), blk (.slice A176 n177 c178), blk (.slice A74 n75 c76)]) (O := O) (j := 0) rfl)).st (.dr _ (L := [blk (.slice A176 n177 c178), blk (.slice A74 n75 c76)]) (O := O) (j := 0) rfl))
         have h598 := (Ow.sd (L := [blk (.slice A176 n177 c178), blk (.slice A74 n75 c76)]) (O := O) (Ow.sd (L := [blk (.slice A171 n172 c173), blk (.slice A176 n177 c178), blk (.slice A74 n75 c76)]) (O := O) (Ow.sd (L := [blk (.slice A165 n166 c167), blk (.slice A171 n172 c173), blk (.slice A176 n177 c178), blk (.slice A74 n75 c76)]) (O := O) (Ow.sd (L := [blk (.slice A160 n161 c162), blk (.slice A165 n166 c167), blk (.slice A171 n172 c173), blk (.slice A176 n177 c178), blk (.slice A74 n75 c76)]) (O := O) (Ow.sd (L := [some b186, blk (.slice A160 n161 c162), blk (.slice A165 n166 c167), blk (.slice A171 n172 c173), blk (.slice A176 n177 c178), blk (.slice A74 n75 c76)]) (O := O) (Ow.sd (L := [blk (.slice A443 n444 c445), some b186, blk (.slice A160 n161 c162), blk (.slice A165 n166 c167), blk (.slice A171 n172 c173), blk (.slice A176 n177 c178), blk (.slice A74 n75 c76)]) (O := O) (Ow.sd (L := [blk (.slice A438 n439 c440), blk (.slice A443 n444 c445), some b186, blk (.slice A160 n161 c162), blk (.slice A165 n166 c167), blk (.slice A171 n172 c173), blk (.slice A176 n177 c178), blk (.slice A74 n75 c76)]) (O := O) ((Ow.sw (L := [blk (.slice A438 n439 c440), blk (.slice A443 n444 c445), some b186, blk (.slice A160 n161 c162), blk (.slice A165 n166 c167), blk (.slice A171 n172 c173), blk (.slice A176 n177 c178), blk (.slice A74 n75 c76)]) (O := O) ((Ow.sw (L := [some b186, blk (.slice A160 n161 c162), blk (.slice A165 n166 c167), blk (.slice A171 n172 c173), blk (.slice A176 n177 c178), blk (.slice A74 n75 c76)]) (O := O) ((Ow.sw (L := [some b186, blk (.slice A160 n161 c162), blk (.slice A165 n166 c167), blk (.slice A171 n172 c173), blk (.slice A176 n177 c178), blk (.slice A74 n75 c76)]) (O := O) (((h81.sn g121).sos g157 hk183).so _ g187 (oge hl188)) hc192 (i := 5) rfl (j := 0) rfl (by decide) g194).sn g349) hc351 (i := 5) rfl (j := 0) rfl (by decide) g400).sos g436 hk450) hc451 (i := 7) rfl (j := 2) rfl (by decide) g453).sn g528) (i := 7) rfl (j := 0) rfl (by decide)) (i := 6) rfl (j := 0) rfl (by decide)) (i := 5) rfl (j := 0) rfl (by decide)) (i := 4) rfl (j := 0) rfl (by decide)) (i := 3) rfl (j := 0) rfl (by decide)) (i := 2) rfl (j := 0) rfl (by decide)) (i := 1) rfl (j := 0) rfl (by decide))
         exact ⟨(xs2, A74, n75, c76, i2 + 1), hm595, hI594, ⟨rfl, rfl, rfl, rfl, trivial⟩, hc593, h596, h597, h598⟩
    ·have H := ite_f H hq197
     refine W_skip ?_
     refine W_seq ?_
     refine W_reg ?_
     refine L_pu (P_fa fa103_1 ⟨b186, 0, none⟩ ⟨b186, 1, none⟩ rfl rfl) ?_
     refine L_pu (P_ld ag4 cL ⟨b186, 1, none⟩ (vb r4.Had) rfl (hx195.cell rfl)) ?_
     refine L_pu (P_fa fa103_3 ⟨b186, 0, none⟩ ⟨b186, 6, none⟩ rfl rfl) ?_
     refine L_pu (P_ld ag4 cL ⟨b186, 6, none⟩ (vb r4.Has) rfl (hx195.cell rfl)) ?_
     refine L_pu (P_bcmp Try.underlying4 r4.Had r4.Has (r4.Had != r4.Has) rfl rfl rfl) ?_
     refine L_pu (P_move (vb (r4.Had != r4.Has)) rfl) ?_
     rcases bool_or (r4.Had != r4.Has) with hq599 | hq599
     ·have H := ite_t H hq599
      refine L_pass (dj := 85) rfl rfl (.inl (by exact congrArg Value.bool hq599)) ?_
      refine L_pass (dj := 85) rfl rfl (.inl (by exact congrArg Value.bool hq599)) ?_
      refine L_pass (dj := 85) rfl rfl (.inl (by exact congrArg Value.bool hq599)) ?_
      refine L_pass (dj := 85) rfl rfl (.inl (by exact congrArg Value.bool hq599)) ?_
      refine L_pass (dj := 85) rfl rfl (.inl (by exact congrArg Value.bool hq599)) ?_
      refine L_pass (dj := 85) rfl rfl (.inl (by exact congrArg Value.bool hq599)) ?_
      refine L_pu (P_pick true (vb true) (by exact congrArg Value.bool hq599) rfl) ?_
      refine L_nil ?_
      refine W_ct (b := true) rfl rfl ?_
      refine W_reg ?_
      refine L_pu (P_move (.slice A74 n75 c76) rfl) ?_
      refine L_pu (P_lda ag103 sz103 cL ⟨b186, 0, none⟩ [vs r4.Id, vb r4.Had, vs r4.Was.Id, vi r4.Was.Shape.Kind, .slice A160 n161 c162, .slice A165 n166 c167, vb r4.Has, vs r4.Now.Id, vi r4.Now.Shape.Kind, .slice A171 n172 c173, .slice A176 n177 c178] rfl rfl (hx195.cells (off := 0) rfl)) ?_
      have h600 := (Ow.sw (L := [some b186, blk (.slice A160 n161 c162), blk (.slice A165 n166 c167), blk (.slice A171 n172 c173), blk (.slice A176 n177 c178), blk (.slice A74 n75 c76)]) (O := O) (h163.so _ g187 (oge hl188)) hc192 (i := 1) rfl (j := 0) rfl (by decide) g194)
      have h601 := Ow.gv (L := [some b186, blk (.slice A160 n161 c162), blk (.slice A165 n166 c167), blk (.slice A171 n172 c173), blk (.slice A176 n177 c178), blk (.slice A74 n75 c76)]) (O := O) h600 hc196 (i := 1) rfl
      have hc602 := hc196.drop 1 rfl
      have h604 := (Ow.sd (L := [some b186, blk (.slice A160 n161 c162), blk (.slice A165 n166 c167), blk (.slice A171 n172 c173), blk (.slice A176 n177 c178), blk (.slice A74 n75 c76)]) (O := O) (Ow.sw (L := [some b186, blk (.slice A160 n161 c162), blk (.slice A165 n166 c167), blk (.slice A171 n172 c173), blk (.slice A176 n177 c178), blk (.slice A74 n75 c76)]) (O := O) (h168.so _ g187 (oge hl188)) hc192 (i := 2) rfl (j := 0) rfl (by decide) g194) (i := 2) rfl (j := 1) rfl (by decide))
      have h605 := Ow.gv (L := [some b186, blk (.slice A165 n166 c167), blk (.slice A171 n172 c173), blk (.slice A176 n177 c178), blk (.slice A74 n75 c76)]) (O := O) h604 hc602 (i := 1) rfl
      have hc606 := hc602.drop 1 rfl
      have h608 := (Ow.sd (L := [some b186, blk (.slice A165 n166 c167), blk (.slice A171 n172 c173), blk (.slice A176 n177 c178), blk (.slice A74 n75 c76)]) (O := O) (Ow.sd (L := [some b186, blk (.slice A160 n161 c162), blk (.slice A165 n166 c167), blk (.slice A171 n172 c173), blk (.slice A176 n177 c178), blk (.slice A74 n75 c76)]) (O := O) (Ow.sw (L := [some b186, blk (.slice A160 n161 c162), blk (.slice A165 n166 c167), blk (.slice A171 n172 c173), blk (.slice A176 n177 c178), blk (.slice A74 n75 c76)]) (O := O) (h174.so _ g187 (oge hl188)) hc192 (i := 3) rfl (j := 0) rfl (by decide) g194) (i := 3) rfl (j := 1) rfl (by decide)) (i := 2) rfl (j := 1) rfl (by decide))
      have h609 := Ow.gv (L := [some b186, blk (.slice A171 n172 c173), blk (.slice A176 n177 c178), blk (.slice A74 n75 c76)]) (O := O) h608 hc606 (i := 1) rfl
      have hc610 := hc606.drop 1 rfl
      have h612 := (Ow.sd (L := [some b186, blk (.slice A171 n172 c173), blk (.slice A176 n177 c178), blk (.slice A74 n75 c76)]) (O := O) (Ow.sd (L := [some b186, blk (.slice A165 n166 c167), blk (.slice A171 n172 c173), blk (.slice A176 n177 c178), blk (.slice A74 n75 c76)]) (O := O) (Ow.sd (L := [some b186, blk (.slice A160 n161 c162), blk (.slice A165 n166 c167), blk (.slice A171 n172 c173), blk (.slice A176 n177 c178), blk (.slice A74 n75 c76)]) (O := O) (Ow.sw (L := [some b186, blk (.slice A160 n161 c162), blk (.slice A165 n166 c167), blk (.slice A171 n172 c173), blk (.slice A176 n177 c178), blk (.slice A74 n75 c76)]) (O := O) (h179.so _ g187 (oge hl188)) hc192 (i := 4) rfl (j := 0) rfl (by decide) g194) (i := 4) rfl (j := 1) rfl (by decide)) (i := 3) rfl (j := 1) rfl (by decide)) (i := 2) rfl (j := 1) rfl (by decide))
      have h613 := Ow.gv (L := [some b186, blk (.slice A176 n177 c178), blk (.slice A74 n75 c76)]) (O := O) h612 hc610 (i := 1) rfl
      have hc614 := hc610.drop 1 rfl
      have h624 := (((h601.st (.dr _ (L := [some b186, blk (.slice A165 n166 c167), blk (.slice A171 n172 c173), blk (.slice A176 n177 c178), blk (.slice A74 n75 c76)]) (O := O) (j := 1) rfl)).st (.dr _ (L := [some b186, blk (.slice A171 n172 c173), blk (.slice A176 n177 c178), blk (.slice A74 n75 c76)]) (O := O) (j := 1) rfl)).st (.dr _ (L := [some b186, blk (.slice A176 n177 c178), blk (.slice A74 n75 c76)]) (O := O) (j := 1) rfl))
      have h625 := ((h605.st (.dr _ (L := [some b186, blk (.slice A171 n172 c173), blk (.slice A176 n177 c178), blk (.slice A74 n75 c76)]) (O := O) (j := 1) rfl)).st (.dr _ (L := [some b186, blk (.slice A176 n177 c178), blk (.slice A74 n75 c76)]) (O := O) (j := 1) rfl))
      have h626 := (h609.st (.dr _ (L := [some b186, blk (.slice A176 n177 c178), blk (.slice A74 n75 c76)]) (O := O) (j := 1) rfl))
      refine L_lit (kd := kChange) ei43 hc614 ([r4] : List Change) (cells := [vs r4.Id, vb r4.Had, vs r4.Was.Id, vi r4.Was.Shape.Kind, .slice A160 n161 c162, .slice A165 n166 c167, vb r4.Has, vs r4.Now.Id, vi r4.Now.Shape.Kind, .slice A171 n172 c173, .slice A176 n177 c178]) ⟨[vs r4.Id, vb r4.Had, vs r4.Was.Id, vi r4.Was.Shape.Kind, .slice A160 n161 c162, .slice A165 n166 c167, vb r4.Has, vs r4.Now.Id, vi r4.Now.Shape.Kind, .slice A171 n172 c173, .slice A176 n177 c178], _, rfl, (kChange.mk _ _ r4 hs158 hs159 h624 h625 hs170 h626 h613), rfl⟩ (fun _ => by kernel_rfl) fun w616 A617 n618 c619 g620 hr621 hc622 h623 => ?_
      obtain ⟨hb628, H⟩ := H
      have h629 := ((Ow.sd (L := [some b186, blk (.slice A176 n177 c178), blk (.slice A74 n75 c76)]) (O := O) (Ow.sd (L := [some b186, blk (.slice A171 n172 c173), blk (.slice A176 n177 c178), blk (.slice A74 n75 c76)]) (O := O) (Ow.sd (L := [some b186, blk (.slice A165 n166 c167), blk (.slice A171 n172 c173), blk (.slice A176 n177 c178), blk (.slice A74 n75 c76)]) (O := O) (Ow.sd (L := [some b186, blk (.slice A160 n161 c162), blk (.slice A165 n166 c167), blk (.slice A171 n172 c173), blk (.slice A176 n177 c178), blk (.slice A74 n75 c76)]) (O := O) (Ow.sw (L := [some b186, blk (.slice A160 n161 c162), blk (.slice A165 n166 c167), blk (.slice A171 n172 c173), blk (.slice A176 n177 c178), blk (.slice A74 n75 c76)]) (O := O) (((h81.sn g121).sos g157 hk183).so _ g187 (oge hl188)) hc192 (i := 5) rfl (j := 0) rfl (by decide) g194) (i := 5) rfl (j := 1) rfl (by decide)) (i := 4) rfl (j := 1) rfl (by decide)) (i := 3) rfl (j := 1) rfl (by decide)) (i := 2) rfl (j := 1) rfl (by decide)).so _ g620 hr621)
      refine L_app ei43 hc622 (.slice A74 n75 c76) xs2 ([r4] : List Change) rfl h629 (.slice A617 n618 c619) rfl h623.sx 2 rfl hb628 fun w630 A631 n632 c633 g634 s635 hc636 h637 => ?_
      refine L_pu (P_assign (.slice A631 n632 c633) rfl) ?_
      refine L_nil ?_
      refine W_reg ?_
      refine L_pu (P_move (vi i2) rfl) ?_
      obtain ⟨hb640, H⟩ := H
      have hi639 : I64 (i2 + 1) := i64_succ (of_decide_eq_true hq89) hl88 hb640
      refine L_pu (P_add i2 1 rfl rfl hi639) ?_
      refine L_pu (P_assign (vi (i2 + 1)) rfl) ?_
      refine L_nil ?_
      have hc641 := hc636.drop 0 rfl
      have hc642 := hc641.drop 0 rfl
      obtain ⟨hI643, hm644⟩ := H
      have h645 := ((((((((((((h79.st (.new _ g121)).st (.owns _ g157 hk183)).st (.own _ _ g187 (oge hl188))).st (.wl (L := [some b186, blk (.slice A160 n161 c162), blk (.slice A165 n166 c167), blk (.slice A171 n172 c173), blk (.slice A176 n177 c178), blk (.slice A74 n75 c76)]) (O := O) (j := 0) rfl g194)).st (.dr _ (L := [some b186, blk (.slice A160 n161 c162), blk (.slice A165 n166 c167), blk (.slice A171 n172 c173), blk (.slice A176 n177 c178), blk (.slice A74 n75 c76)]) (O := O) (j := 1) rfl)).st (.dr _ (L := [some b186, blk (.slice A165 n166 c167), blk (.slice A171 n172 c173), blk (.slice A176 n177 c178), blk (.slice A74 n75 c76)]) (O := O) (j := 1) rfl)).st (.dr _ (L := [some b186, blk (.slice A171 n172 c173), blk (.slice A176 n177 c178), blk (.slice A74 n75 c76)]) (O := O) (j := 1) rfl)).st (.dr _ (L := [some b186, blk (.slice A176 n177 c178), blk (.slice A74 n75 c76)]) (O := O) (j := 1) rfl)).st (.own _ _ g620 hr621)).st s635).st (.dr _ (L := [blk (.slice A617 n618 c619), some b186, blk (.slice A631 n632 c633)]) (O := O) (j := 0) rfl)).st (.dr _ (L := [some b186, blk (.slice A631 n632 c633)]) (O := O) (j := 0) rfl))
      have h646 := ((((((((((((h80.st (.new _ g121)).st (.owns _ g157 hk183)).st (.own _ _ g187 (oge hl188))).st (.wl (L := [some b186, blk (.slice A160 n161 c162), blk (.slice A165 n166 c167), blk (.slice A171 n172 c173), blk (.slice A176 n177 c178), blk (.slice A74 n75 c76)]) (O := O) (j := 0) rfl g194)).st (.dr _ (L := [some b186, blk (.slice A160 n161 c162), blk (.slice A165 n166 c167), blk (.slice A171 n172 c173), blk (.slice A176 n177 c178), blk (.slice A74 n75 c76)]) (O := O) (j := 1) rfl)).st (.dr _ (L := [some b186, blk (.slice A165 n166 c167), blk (.slice A171 n172 c173), blk (.slice A176 n177 c178), blk (.slice A74 n75 c76)]) (O := O) (j := 1) rfl)).st (.dr _ (L := [some b186, blk (.slice A171 n172 c173), blk (.slice A176 n177 c178), blk (.slice A74 n75 c76)]) (O := O) (j := 1) rfl)).st (.dr _ (L := [some b186, blk (.slice A176 n177 c178), blk (.slice A74 n75 c76)]) (O := O) (j := 1) rfl)).st (.own _ _ g620 hr621)).st s635).st (.dr _ (L := [blk (.slice A617 n618 c619), some b186, blk (.slice A631 n632 c633)]) (O := O) (j := 0) rfl)).st (.dr _ (L := [some b186, blk (.slice A631 n632 c633)]) (O := O) (j := 0) rfl))
      have h647 := (Ow.sd (L := [some b186, blk (.slice A631 n632 c633)]) (O := O) (Ow.sd (L := [blk (.slice A617 n618 c619), some b186, blk (.slice A631 n632 c633)]) (O := O) h637 (i := 2) rfl (j := 0) rfl (by decide)) (i := 1) rfl (j := 0) rfl (by decide))
      exact ⟨((xs2 ++ ([r4] : List Change)), A631, n632, c633, i2 + 1), hm644, hI643, ⟨rfl, rfl, rfl, rfl, trivial⟩, hc642, h645, h646, h647⟩
     ·have H := ite_f H hq599
      refine L_run (dj := 85) rfl rfl (by exact congrArg Value.bool hq599) ?_
      refine L_pu (P_fa fa103_2 ⟨b186, 0, none⟩ ⟨b186, 2, none⟩ rfl rfl) ?_
      refine L_run (dj := 85) rfl rfl (by exact congrArg Value.bool hq599) ?_
      refine L_pu (P_lda ag71 sz71 cL ⟨b186, 2, none⟩ [vs r4.Was.Id, vi r4.Was.Shape.Kind, .slice A160 n161 c162, .slice A165 n166 c167] rfl rfl (hx195.cells (off := 2) rfl)) ?_
      refine L_run (dj := 85) rfl rfl (by exact congrArg Value.bool hq599) ?_
      refine L_pu (P_fa fa103_4 ⟨b186, 0, none⟩ ⟨b186, 7, none⟩ rfl rfl) ?_
      refine L_run (dj := 85) rfl rfl (by exact congrArg Value.bool hq599) ?_
      refine L_pu (P_lda ag71 sz71 cL ⟨b186, 7, none⟩ [vs r4.Now.Id, vi r4.Now.Shape.Kind, .slice A171 n172 c173, .slice A176 n177 c178] rfl rfl (hx195.cells (off := 7) rfl)) ?_
      refine L_run (dj := 85) rfl rfl (by exact congrArg Value.bool hq599) ?_
      have h648 := (Ow.sw (L := [some b186, blk (.slice A160 n161 c162), blk (.slice A165 n166 c167), blk (.slice A171 n172 c173), blk (.slice A176 n177 c178), blk (.slice A74 n75 c76)]) (O := O) (h163.so _ g187 (oge hl188)) hc192 (i := 1) rfl (j := 0) rfl (by decide) g194)
      have h649 := Ow.gv (L := [some b186, blk (.slice A160 n161 c162), blk (.slice A165 n166 c167), blk (.slice A171 n172 c173), blk (.slice A176 n177 c178), blk (.slice A74 n75 c76)]) (O := O) h648 hc196 (i := 1) rfl
      have hc650 := hc196.drop 1 rfl
      have h652 := (Ow.sd (L := [some b186, blk (.slice A160 n161 c162), blk (.slice A165 n166 c167), blk (.slice A171 n172 c173), blk (.slice A176 n177 c178), blk (.slice A74 n75 c76)]) (O := O) (Ow.sw (L := [some b186, blk (.slice A160 n161 c162), blk (.slice A165 n166 c167), blk (.slice A171 n172 c173), blk (.slice A176 n177 c178), blk (.slice A74 n75 c76)]) (O := O) (h168.so _ g187 (oge hl188)) hc192 (i := 2) rfl (j := 0) rfl (by decide) g194) (i := 2) rfl (j := 1) rfl (by decide))
      have h653 := Ow.gv (L := [some b186, blk (.slice A165 n166 c167), blk (.slice A171 n172 c173), blk (.slice A176 n177 c178), blk (.slice A74 n75 c76)]) (O := O) h652 hc650 (i := 1) rfl
      have hc654 := hc650.drop 1 rfl
      have h656 := (Ow.sd (L := [some b186, blk (.slice A165 n166 c167), blk (.slice A171 n172 c173), blk (.slice A176 n177 c178), blk (.slice A74 n75 c76)]) (O := O) (Ow.sd (L := [some b186, blk (.slice A160 n161 c162), blk (.slice A165 n166 c167), blk (.slice A171 n172 c173), blk (.slice A176 n177 c178), blk (.slice A74 n75 c76)]) (O := O) (Ow.sw (L := [some b186, blk (.slice A160 n161 c162), blk (.slice A165 n166 c167), blk (.slice A171 n172 c173), blk (.slice A176 n177 c178), blk (.slice A74 n75 c76)]) (O := O) (h174.so _ g187 (oge hl188)) hc192 (i := 3) rfl (j := 0) rfl (by decide) g194) (i := 3) rfl (j := 1) rfl (by decide)) (i := 2) rfl (j := 1) rfl (by decide))
      have h657 := Ow.gv (L := [some b186, blk (.slice A171 n172 c173), blk (.slice A176 n177 c178), blk (.slice A74 n75 c76)]) (O := O) h656 hc654 (i := 1) rfl
      have hc658 := hc654.drop 1 rfl
      have h660 := (Ow.sd (L := [some b186, blk (.slice A171 n172 c173), blk (.slice A176 n177 c178), blk (.slice A74 n75 c76)]) (O := O) (Ow.sd (L := [some b186, blk (.slice A165 n166 c167), blk (.slice A171 n172 c173), blk (.slice A176 n177 c178), blk (.slice A74 n75 c76)]) (O := O) (Ow.sd (L := [some b186, blk (.slice A160 n161 c162), blk (.slice A165 n166 c167), blk (.slice A171 n172 c173), blk (.slice A176 n177 c178), blk (.slice A74 n75 c76)]) (O := O) (Ow.sw (L := [some b186, blk (.slice A160 n161 c162), blk (.slice A165 n166 c167), blk (.slice A171 n172 c173), blk (.slice A176 n177 c178), blk (.slice A74 n75 c76)]) (O := O) (h179.so _ g187 (oge hl188)) hc192 (i := 4) rfl (j := 0) rfl (by decide) g194) (i := 4) rfl (j := 1) rfl (by decide)) (i := 3) rfl (j := 1) rfl (by decide)) (i := 2) rfl (j := 1) rfl (by decide))
      have h661 := Ow.gv (L := [some b186, blk (.slice A176 n177 c178), blk (.slice A74 n75 c76)]) (O := O) h660 hc658 (i := 1) rfl
      have hc662 := hc658.drop 1 rfl
      have h664 := (((h649.st (.dr _ (L := [some b186, blk (.slice A165 n166 c167), blk (.slice A171 n172 c173), blk (.slice A176 n177 c178), blk (.slice A74 n75 c76)]) (O := O) (j := 1) rfl)).st (.dr _ (L := [some b186, blk (.slice A171 n172 c173), blk (.slice A176 n177 c178), blk (.slice A74 n75 c76)]) (O := O) (j := 1) rfl)).st (.dr _ (L := [some b186, blk (.slice A176 n177 c178), blk (.slice A74 n75 c76)]) (O := O) (j := 1) rfl))
      have h665 := ((h653.st (.dr _ (L := [some b186, blk (.slice A171 n172 c173), blk (.slice A176 n177 c178), blk (.slice A74 n75 c76)]) (O := O) (j := 1) rfl)).st (.dr _ (L := [some b186, blk (.slice A176 n177 c178), blk (.slice A74 n75 c76)]) (O := O) (j := 1) rfl))
      have h666 := (h657.st (.dr _ (L := [some b186, blk (.slice A176 n177 c178), blk (.slice A74 n75 c76)]) (O := O) (j := 1) rfl))
      refine L_call go79 [.agg #[vs r4.Was.Id, vi r4.Was.Shape.Kind, .slice A160 n161 c162, .slice A165 n166 c167], .agg #[vs r4.Now.Id, vi r4.Now.Shape.Kind, .slice A171 n172 c173, .slice A176 n177 c178]] rfl ((spec_FeatSame.calls w193 hc662.ok r4.Was A160 n161 c162 A165 n166 c167 hs159 h664 h665 r4.Now A171 n172 c173 A176 n177 c178 hs170 h666 h661 _ H).mono ?_)
      rintro _ w667 ⟨r8, rfl, H, g668⟩
      have hc672 := hc196.k0 g668
      refine L_run (dj := 85) rfl rfl (by exact congrArg Value.bool hq599) ?_
      refine L_pu (P_not r8 rfl) ?_
      refine L_pu (P_pick false (vb (!r8)) (by exact congrArg Value.bool hq599) rfl) ?_
      refine L_nil ?_
      refine W_cond (!r8) rfl (fun hq673 => ?_) (fun hq673 => ?_)
      ·have H := ite_t H hq673
       refine W_reg ?_
       refine L_pu (P_move (.slice A74 n75 c76) rfl) ?_
       have h674 := (hx195.k0 g668)
       refine L_pu (P_lda ag103 sz103 cL ⟨b186, 0, none⟩ [vs r4.Id, vb r4.Had, vs r4.Was.Id, vi r4.Was.Shape.Kind, .slice A160 n161 c162, .slice A165 n166 c167, vb r4.Has, vs r4.Now.Id, vi r4.Now.Shape.Kind, .slice A171 n172 c173, .slice A176 n177 c178] rfl rfl (h674.cells (off := 0) rfl)) ?_
       have h675 := ((Ow.sw (L := [some b186, blk (.slice A160 n161 c162), blk (.slice A165 n166 c167), blk (.slice A171 n172 c173), blk (.slice A176 n177 c178), blk (.slice A74 n75 c76)]) (O := O) (h163.so _ g187 (oge hl188)) hc192 (i := 1) rfl (j := 0) rfl (by decide) g194).sn g668)
       have h676 := Ow.gv (L := [some b186, blk (.slice A160 n161 c162), blk (.slice A165 n166 c167), blk (.slice A171 n172 c173), blk (.slice A176 n177 c178), blk (.slice A74 n75 c76)]) (O := O) h675 hc672 (i := 1) rfl
       have hc677 := hc672.drop 1 rfl
       have h679 := (Ow.sd (L := [some b186, blk (.slice A160 n161 c162), blk (.slice A165 n166 c167), blk (.slice A171 n172 c173), blk (.slice A176 n177 c178), blk (.slice A74 n75 c76)]) (O := O) ((Ow.sw (L := [some b186, blk (.slice A160 n161 c162), blk (.slice A165 n166 c167), blk (.slice A171 n172 c173), blk (.slice A176 n177 c178), blk (.slice A74 n75 c76)]) (O := O) (h168.so _ g187 (oge hl188)) hc192 (i := 2) rfl (j := 0) rfl (by decide) g194).sn g668) (i := 2) rfl (j := 1) rfl (by decide))
       have h680 := Ow.gv (L := [some b186, blk (.slice A165 n166 c167), blk (.slice A171 n172 c173), blk (.slice A176 n177 c178), blk (.slice A74 n75 c76)]) (O := O) h679 hc677 (i := 1) rfl
       have hc681 := hc677.drop 1 rfl
       have h683 := (Ow.sd (L := [some b186, blk (.slice A165 n166 c167), blk (.slice A171 n172 c173), blk (.slice A176 n177 c178), blk (.slice A74 n75 c76)]) (O := O) (Ow.sd (L := [some b186, blk (.slice A160 n161 c162), blk (.slice A165 n166 c167), blk (.slice A171 n172 c173), blk (.slice A176 n177 c178), blk (.slice A74 n75 c76)]) (O := O) ((Ow.sw (L := [some b186, blk (.slice A160 n161 c162), blk (.slice A165 n166 c167), blk (.slice A171 n172 c173), blk (.slice A176 n177 c178), blk (.slice A74 n75 c76)]) (O := O) (h174.so _ g187 (oge hl188)) hc192 (i := 3) rfl (j := 0) rfl (by decide) g194).sn g668) (i := 3) rfl (j := 1) rfl (by decide)) (i := 2) rfl (j := 1) rfl (by decide))
       have h684 := Ow.gv (L := [some b186, blk (.slice A171 n172 c173), blk (.slice A176 n177 c178), blk (.slice A74 n75 c76)]) (O := O) h683 hc681 (i := 1) rfl
       have hc685 := hc681.drop 1 rfl
       have h687 := (Ow.sd (L := [some b186, blk (.slice A171 n172 c173), blk (.slice A176 n177 c178), blk (.slice A74 n75 c76)]) (O := O) (Ow.sd (L := [some b186, blk (.slice A165 n166 c167), blk (.slice A171 n172 c173), blk (.slice A176 n177 c178), blk (.slice A74 n75 c76)]) (O := O) (Ow.sd (L := [some b186, blk (.slice A160 n161 c162), blk (.slice A165 n166 c167), blk (.slice A171 n172 c173), blk (.slice A176 n177 c178), blk (.slice A74 n75 c76)]) (O := O) ((Ow.sw (L := [some b186, blk (.slice A160 n161 c162), blk (.slice A165 n166 c167), blk (.slice A171 n172 c173), blk (.slice A176 n177 c178), blk (.slice A74 n75 c76)]) (O := O) (h179.so _ g187 (oge hl188)) hc192 (i := 4) rfl (j := 0) rfl (by decide) g194).sn g668) (i := 4) rfl (j := 1) rfl (by decide)) (i := 3) rfl (j := 1) rfl (by decide)) (i := 2) rfl (j := 1) rfl (by decide))
       have h688 := Ow.gv (L := [some b186, blk (.slice A176 n177 c178), blk (.slice A74 n75 c76)]) (O := O) h687 hc685 (i := 1) rfl
       have hc689 := hc685.drop 1 rfl
       have h699 := (((h676.st (.dr _ (L := [some b186, blk (.slice A165 n166 c167), blk (.slice A171 n172 c173), blk (.slice A176 n177 c178), blk (.slice A74 n75 c76)]) (O := O) (j := 1) rfl)).st (.dr _ (L := [some b186, blk (.slice A171 n172 c173), blk (.slice A176 n177 c178), blk (.slice A74 n75 c76)]) (O := O) (j := 1) rfl)).st (.dr _ (L := [some b186, blk (.slice A176 n177 c178), blk (.slice A74 n75 c76)]) (O := O) (j := 1) rfl))
       have h700 := ((h680.st (.dr _ (L := [some b186, blk (.slice A171 n172 c173), blk (.slice A176 n177 c178), blk (.slice A74 n75 c76)]) (O := O) (j := 1) rfl)).st (.dr _ (L := [some b186, blk (.slice A176 n177 c178), blk (.slice A74 n75 c76)]) (O := O) (j := 1) rfl))
       have h701 := (h684.st (.dr _ (L := [some b186, blk (.slice A176 n177 c178), blk (.slice A74 n75 c76)]) (O := O) (j := 1) rfl))
       refine L_lit (kd := kChange) ei43 hc689 ([r4] : List Change) (cells := [vs r4.Id, vb r4.Had, vs r4.Was.Id, vi r4.Was.Shape.Kind, .slice A160 n161 c162, .slice A165 n166 c167, vb r4.Has, vs r4.Now.Id, vi r4.Now.Shape.Kind, .slice A171 n172 c173, .slice A176 n177 c178]) ⟨[vs r4.Id, vb r4.Had, vs r4.Was.Id, vi r4.Was.Shape.Kind, .slice A160 n161 c162, .slice A165 n166 c167, vb r4.Has, vs r4.Now.Id, vi r4.Now.Shape.Kind, .slice A171 n172 c173, .slice A176 n177 c178], _, rfl, (kChange.mk _ _ r4 hs158 hs159 h699 h700 hs170 h701 h688), rfl⟩ (fun _ => by kernel_rfl) fun w691 A692 n693 c694 g695 hr696 hc697 h698 => ?_
       obtain ⟨hb703, H⟩ := H
       have h704 := ((Ow.sd (L := [some b186, blk (.slice A176 n177 c178), blk (.slice A74 n75 c76)]) (O := O) (Ow.sd (L := [some b186, blk (.slice A171 n172 c173), blk (.slice A176 n177 c178), blk (.slice A74 n75 c76)]) (O := O) (Ow.sd (L := [some b186, blk (.slice A165 n166 c167), blk (.slice A171 n172 c173), blk (.slice A176 n177 c178), blk (.slice A74 n75 c76)]) (O := O) (Ow.sd (L := [some b186, blk (.slice A160 n161 c162), blk (.slice A165 n166 c167), blk (.slice A171 n172 c173), blk (.slice A176 n177 c178), blk (.slice A74 n75 c76)]) (O := O) ((Ow.sw (L := [some b186, blk (.slice A160 n161 c162), blk (.slice A165 n166 c167), blk (.slice A171 n172 c173), blk (.slice A176 n177 c178), blk (.slice A74 n75 c76)]) (O := O) (((h81.sn g121).sos g157 hk183).so _ g187 (oge hl188)) hc192 (i := 5) rfl (j := 0) rfl (by decide) g194).sn g668) (i := 5) rfl (j := 1) rfl (by decide)) (i := 4) rfl (j := 1) rfl (by decide)) (i := 3) rfl (j := 1) rfl (by decide)) (i := 2) rfl (j := 1) rfl (by decide)).so _ g695 hr696)
       refine L_app ei43 hc697 (.slice A74 n75 c76) xs2 ([r4] : List Change) rfl h704 (.slice A692 n693 c694) rfl h698.sx 2 rfl hb703 fun w705 A706 n707 c708 g709 s710 hc711 h712 => ?_
       refine L_pu (P_assign (.slice A706 n707 c708) rfl) ?_
       refine L_nil ?_
       refine W_reg ?_
       refine L_pu (P_move (vi i2) rfl) ?_
       obtain ⟨hb715, H⟩ := H
       have hi714 : I64 (i2 + 1) := i64_succ (of_decide_eq_true hq89) hl88 hb715
       refine L_pu (P_add i2 1 rfl rfl hi714) ?_
       refine L_pu (P_assign (vi (i2 + 1)) rfl) ?_
       refine L_nil ?_
       have hc716 := hc711.drop 0 rfl
       have hc717 := hc716.drop 0 rfl
       obtain ⟨hI718, hm719⟩ := H
       have h720 := (((((((((((((h79.st (.new _ g121)).st (.owns _ g157 hk183)).st (.own _ _ g187 (oge hl188))).st (.wl (L := [some b186, blk (.slice A160 n161 c162), blk (.slice A165 n166 c167), blk (.slice A171 n172 c173), blk (.slice A176 n177 c178), blk (.slice A74 n75 c76)]) (O := O) (j := 0) rfl g194)).st (.new _ g668)).st (.dr _ (L := [some b186, blk (.slice A160 n161 c162), blk (.slice A165 n166 c167), blk (.slice A171 n172 c173), blk (.slice A176 n177 c178), blk (.slice A74 n75 c76)]) (O := O) (j := 1) rfl)).st (.dr _ (L := [some b186, blk (.slice A165 n166 c167), blk (.slice A171 n172 c173), blk (.slice A176 n177 c178), blk (.slice A74 n75 c76)]) (O := O) (j := 1) rfl)).st (.dr _ (L := [some b186, blk (.slice A171 n172 c173), blk (.slice A176 n177 c178), blk (.slice A74 n75 c76)]) (O := O) (j := 1) rfl)).st (.dr _ (L := [some b186, blk (.slice A176 n177 c178), blk (.slice A74 n75 c76)]) (O := O) (j := 1) rfl)).st (.own _ _ g695 hr696)).st s710).st (.dr _ (L := [blk (.slice A692 n693 c694), some b186, blk (.slice A706 n707 c708)]) (O := O) (j := 0) rfl)).st (.dr _ (L := [some b186, blk (.slice A706 n707 c708)]) (O := O) (j := 0) rfl))
       have h721 := (((((((((((((h80.st (.new _ g121)).st (.owns _ g157 hk183)).st (.own _ _ g187 (oge hl188))).st (.wl (L := [some b186, blk (.slice A160 n161 c162), blk (.slice A165 n166 c167), blk (.slice A171 n172 c173), blk (.slice A176 n177 c178), blk (.slice A74 n75 c76)]) (O := O) (j := 0) rfl g194)).st (.new _ g668)).st (.dr _ (L := [some b186, blk (.slice A160 n161 c162), blk (.slice A165 n166 c167), blk (.slice A171 n172 c173), blk (.slice A176 n177 c178), blk (.slice A74 n75 c76)]) (O := O) (j := 1) rfl)).st (.dr _ (L := [some b186, blk (.slice A165 n166 c167), blk (.slice A171 n172 c173), blk (.slice A176 n177 c178), blk (.slice A74 n75 c76)]) (O := O) (j := 1) rfl)).st (.dr _ (L := [some b186, blk (.slice A171 n172 c173), blk (.slice A176 n177 c178), blk (.slice A74 n75 c76)]) (O := O) (j := 1) rfl)).st (.dr _ (L := [some b186, blk (.slice A176 n177 c178), blk (.slice A74 n75 c76)]) (O := O) (j := 1) rfl)).st (.own _ _ g695 hr696)).st s710).st (.dr _ (L := [blk (.slice A692 n693 c694), some b186, blk (.slice A706 n707 c708)]) (O := O) (j := 0) rfl)).st (.dr _ (L := [some b186, blk (.slice A706 n707 c708)]) (O := O) (j := 0) rfl))
       have h722 := (Ow.sd (L := [some b186, blk (.slice A706 n707 c708)]) (O := O) (Ow.sd (L := [blk (.slice A692 n693 c694), some b186, blk (.slice A706 n707 c708)]) (O := O) h712 (i := 2) rfl (j := 0) rfl (by decide)) (i := 1) rfl (j := 0) rfl (by decide))
       exact ⟨((xs2 ++ ([r4] : List Change)), A706, n707, c708, i2 + 1), hm719, hI718, ⟨rfl, rfl, rfl, rfl, trivial⟩, hc717, h720, h721, h722⟩
      ·have H := ite_f H hq673
       refine W_skip ?_
       refine W_reg ?_
       refine L_pu (P_move (vi i2) rfl) ?_
       obtain ⟨hb724, H⟩ := H
       have hi723 : I64 (i2 + 1) := i64_succ (of_decide_eq_true hq89) hl88 hb724
       refine L_pu (P_add i2 1 rfl rfl hi723) ?_
       refine L_pu (P_assign (vi (i2 + 1)) rfl) ?_
       refine L_nil ?_
       have hc725 := hc672.drop 0 rfl
       have hc726 := hc725.drop 0 rfl
       have hc727 := hc726.drop 0 rfl
       have hc728 := hc727.drop 0 rfl
       have hc729 := hc728.drop 0 rfl
       obtain ⟨hI730, hm731⟩ := H
       have h732 := ((((((((((h79.st (.new _ g121)).st (.owns _ g157 hk183)).st (.own _ _ g187 (oge hl188))).st (.wl (L := [some b186, blk (.slice A160 n161 c162), blk (.slice A165 n166 c167), blk (.slice A171 n172 c173), blk (.slice A176 n177 c178), blk (.slice A74 n75 c76)]) (O := O) (j := 0) rfl g194)).st (.new _ g668)).st (.dr _ (L := [some b186, blk (.slice A160 n161 c162), blk (.slice A165 n166 c167), blk (.slice A171 n172 c173), blk (.slice A176 n177 c178), blk (.slice A74 n75 c76)]) (O := O) (j := 0) rfl)).st (.dr _ (L := [blk (.slice A160 n161 c162), blk (.slice A165 n166 c167), blk (.slice A171 n172 c173), blk (.slice A176 n177 c178), blk (.slice A74 n75 c76)]) (O := O) (j := 0) rfl)).st (.dr _ (L := [blk (.slice A165 n166 c167), blk (.slice A171 n172 c173), blk (.slice A176 n177 c178), blk (.slice A74 n75 c76)]) (O := O) (j := 0) rfl)).st (.dr _ (L := [blk (.slice A171 n172 c173), blk (.slice A176 n177 c178), blk (.slice A74 n75 c76)]) (O := O) (j := 0) rfl)).st (.dr _ (L := [blk (.slice A176 n177 c178), blk (.slice A74 n75 c76)]) (O := O) (j := 0) rfl))
       have h733 := ((((((((((h80.st (.new _ g121)).st (.owns _ g157 hk183)).st (.own _ _ g187 (oge hl188))).st (.wl (L := [some b186, blk (.slice A160 n161 c162), blk (.slice A165 n166 c167), blk (.slice A171 n172 c173), blk (.slice A176 n177 c178), blk (.slice A74 n75 c76)]) (O := O) (j := 0) rfl g194)).st (.new _ g668)).st (.dr _ (L := [some b186, blk (.slice A160 n161 c162), blk (.slice A165 n166 c167), blk (.slice A171 n172 c173), blk (.slice A176 n177 c178), blk (.slice A74 n75 c76)]) (O := O) (j := 0) rfl)).st (.dr _ (L := [blk (.slice A160 n161 c162), blk (.slice A165 n166 c167), blk (.slice A171 n172 c173), blk (.slice A176 n177 c178), blk (.slice A74 n75 c76)]) (O := O) (j := 0) rfl)).st (.dr _ (L := [blk (.slice A165 n166 c167), blk (.slice A171 n172 c173), blk (.slice A176 n177 c178), blk (.slice A74 n75 c76)]) (O := O) (j := 0) rfl)).st (.dr _ (L := [blk (.slice A171 n172 c173), blk (.slice A176 n177 c178), blk (.slice A74 n75 c76)]) (O := O) (j := 0) rfl)).st (.dr _ (L := [blk (.slice A176 n177 c178), blk (.slice A74 n75 c76)]) (O := O) (j := 0) rfl))
       have h734 := (Ow.sd (L := [blk (.slice A176 n177 c178), blk (.slice A74 n75 c76)]) (O := O) (Ow.sd (L := [blk (.slice A171 n172 c173), blk (.slice A176 n177 c178), blk (.slice A74 n75 c76)]) (O := O) (Ow.sd (L := [blk (.slice A165 n166 c167), blk (.slice A171 n172 c173), blk (.slice A176 n177 c178), blk (.slice A74 n75 c76)]) (O := O) (Ow.sd (L := [blk (.slice A160 n161 c162), blk (.slice A165 n166 c167), blk (.slice A171 n172 c173), blk (.slice A176 n177 c178), blk (.slice A74 n75 c76)]) (O := O) (Ow.sd (L := [some b186, blk (.slice A160 n161 c162), blk (.slice A165 n166 c167), blk (.slice A171 n172 c173), blk (.slice A176 n177 c178), blk (.slice A74 n75 c76)]) (O := O) ((Ow.sw (L := [some b186, blk (.slice A160 n161 c162), blk (.slice A165 n166 c167), blk (.slice A171 n172 c173), blk (.slice A176 n177 c178), blk (.slice A74 n75 c76)]) (O := O) (((h81.sn g121).sos g157 hk183).so _ g187 (oge hl188)) hc192 (i := 5) rfl (j := 0) rfl (by decide) g194).sn g668) (i := 5) rfl (j := 0) rfl (by decide)) (i := 4) rfl (j := 0) rfl (by decide)) (i := 3) rfl (j := 0) rfl (by decide)) (i := 2) rfl (j := 0) rfl (by decide)) (i := 1) rfl (j := 0) rfl (by decide))
       exact ⟨(xs2, A74, n75, c76, i2 + 1), hm731, hI730, ⟨rfl, rfl, rfl, rfl, trivial⟩, hc729, h732, h733, h734⟩
   ·have H := ite_f H hq89
    refine W_exit (xin_hit ?_)
    refine W_seq ?_
    refine W_seq ?_
    refine W_reg ?_
    refine L_pu (P_assign (vi 0) rfl) ?_
    refine L_nil ?_
    refine W_block ?_
    obtain ⟨I765, mu766, hI767, H⟩ := H
    refine W_loop (α := (List Change) × (Option Addr) × Nat × Nat × Int) (fun (sv__ : (List Change) × (Option Addr) × Nat × Nat × Int) t w754 => match sv__ with | (xs4, A757, n758, c759, i4) => I765 xs4 i4 ∧ Has t [(0, .slice A1 n2 c3), (1, .slice A6 n7 c8), (6, .slice A757 n758 c759), (10, vi i4)] ∧ Ct [] w0 w754 [blk (.slice A757 n758 c759)] O ∧ Sl kChange w754 (Fr ([blk (.slice A757 n758 c759)] ++ O)) (.slice A1 n2 c3) a ∧ Sl kChange w754 (Fr ([blk (.slice A757 n758 c759)] ++ O)) (.slice A6 n7 c8) b ∧ Ow kChange 103 w754 ([blk (.slice A757 n758 c759)] ++ O) (.slice A757 n758 c759) xs4) (fun (sv__ : (List Change) × (Option Addr) × Nat × Nat × Int) => match sv__ with | (xs4, _, _, _, i4) => mu766 xs4 i4) (xs2, A74, n75, c76, 0) ⟨hI767, ⟨rfl, rfl, rfl, rfl, trivial⟩, hc78, h79, h80, h81⟩ ?_
    rintro ⟨xs4, A757, n758, c759, i4⟩ _ w754 ⟨hI767, hh769, hc761, h762, h763, h764⟩
    obtain ⟨u770, rfl⟩ := Has.ins hh769
    have H := H xs4 i4 hI767
    refine W_seq ?_
    refine W_seq ?_
    refine W_reg ?_
    refine L_pu (P_move (vi i4) rfl) ?_
    refine L_pu (P_move (.slice A6 n7 c8) rfl) ?_
    have hl771 := h763.le
    refine L_pu (P_len Try.underlying43 A6 n7 c8 h763.len rfl) ?_
    refine L_pu (P_cmp i4 (b.length : Int) (decide (i4 < (b.length : Int))) rfl rfl rfl) ?_
    refine L_nil ?_
    refine W_cond (decide (i4 < (b.length : Int))) rfl (fun hq772 => ?_) (fun hq772 => ?_)
    ·have H := ite_t H hq772
     refine W_skip ?_
     refine W_seq ?_
     refine W_block ?_
     refine W_seq ?_
     refine W_reg ?_
     refine L_pu (P_move (.slice A1 n2 c3) rfl) ?_
     refine L_pu (P_move (.slice A6 n7 c8) rfl) ?_
     refine L_pu (P_move (vi i4) rfl) ?_
     obtain ⟨hb773, H⟩ := H
     obtain ⟨ad774, cs775, hA776, hS779, hR777, hcl778⟩ := h763.get default (by decide) i4 hb773
     obtain ⟨A782, n783, c784, A787, n788, c789, A793, n794, c795, A798, n799, c800, rfl, hs780, hs781, h785, h790, hs792, h796, h801⟩ := kChange.op hR777
     refine L_pu (P_ia Try.underlying43 se43 A6 ad774 n7 c8 h763.len i4 rfl hA776 rfl hb773) ?_
     refine L_pu (P_fa fa103_0 (ad774.add (i4.toNat * 11)) ((ad774.add (i4.toNat * 11)).add 0) rfl rfl) ?_
     refine L_pu (P_ld ag9 cL ((ad774.add (i4.toNat * 11)).add 0) (vs ((nth b i4).Id)) rfl (hcl778 0 _ rfl)) ?_
     refine L_call go78 [.slice A1 n2 c3, vs ((nth b i4).Id)] rfl ((spec_l4Find.calls w754 hc761.ok a A1 n2 c3 h762 ((nth b i4).Id) hs780 _ H).mono ?_)
     rintro _ w803 ⟨r9, rfl, H, g804⟩
     have hc808 := hc761.k0 g804
     refine L_pu (P_cmp r9 0 (decide (r9 < 0)) rfl rfl rfl) ?_
     refine L_nil ?_
     refine W_cond (decide (r9 < 0)) rfl (fun hq809 => ?_) (fun hq809 => ?_)
     ·have H := ite_t H hq809
      refine W_reg ?_
      refine L_pu (P_move (.slice A757 n758 c759) rfl) ?_
      refine L_pu (P_move (.slice A6 n7 c8) rfl) ?_
      refine L_pu (P_move (vi i4) rfl) ?_
      obtain ⟨hb810, H⟩ := H
      obtain ⟨ad811, cs812, hA813, hS816, hR814, hcl815⟩ := (h763.st (.new _ g804)).get default (by decide) i4 hb810
      obtain ⟨A819, n820, c821, A824, n825, c826, A830, n831, c832, A835, n836, c837, rfl, hs817, hs818, h822, h827, hs829, h833, h838⟩ := kChange.op hR814
      refine L_pu (P_ia Try.underlying43 se43 A6 ad811 n7 c8 (h763.st (.new _ g804)).len i4 rfl hA813 rfl hb810) ?_
      refine L_pu (P_lda ag103 sz103 cL (ad811.add (i4.toNat * 11)) [vs ((nth b i4).Id), vb ((nth b i4).Had), vs ((nth b i4).Was.Id), vi ((nth b i4).Was.Shape.Kind), .slice A819 n820 c821, .slice A824 n825 c826, vb ((nth b i4).Has), vs ((nth b i4).Now.Id), vi ((nth b i4).Now.Shape.Kind), .slice A830 n831 c832, .slice A835 n836 c837] rfl rfl hcl815) ?_
      refine L_call go62 [.agg #[vs ((nth b i4).Id), vb ((nth b i4).Had), vs ((nth b i4).Was.Id), vi ((nth b i4).Was.Shape.Kind), .slice A819 n820 c821, .slice A824 n825 c826, vb ((nth b i4).Has), vs ((nth b i4).Now.Id), vi ((nth b i4).Now.Shape.Kind), .slice A830 n831 c832, .slice A835 n836 c837]] rfl ((spec_l4Copy.calls w803 hc808.ok (nth b i4) A819 n820 c821 A824 n825 c826 A830 n831 c832 A835 n836 c837 hs817 hs818 h822 h827 hs829 h833 h838 _ H).mono ?_)
      rintro _ w840 ⟨r10, A844, n845, c846, A849, n850, c851, A855, n856, c857, A860, n861, c862, rfl, H, g841, hk866, hk867, hs842, hs843, h847, h852, hs854, h858, h863⟩
      have hc868 := hc808.owns g841 hk866 hk867
      have h869 := ((h764.sn g804).sos g841 hk867)
      have h870 := Ow.gv (L := [blk (.slice A844 n845 c846), blk (.slice A849 n850 c851), blk (.slice A855 n856 c857), blk (.slice A860 n861 c862), blk (.slice A757 n758 c759)]) (O := O) h869 hc868 (i := 4) rfl
      have hc871 := hc868.drop 4 rfl
      have h873 := (Ow.sd (L := [blk (.slice A844 n845 c846), blk (.slice A849 n850 c851), blk (.slice A855 n856 c857), blk (.slice A860 n861 c862), blk (.slice A757 n758 c759)]) (O := O) h847 (i := 0) rfl (j := 4) rfl (by decide))
      have h874 := Ow.gv (L := [blk (.slice A844 n845 c846), blk (.slice A849 n850 c851), blk (.slice A855 n856 c857), blk (.slice A860 n861 c862)]) (O := O) h873 hc871 (i := 0) rfl
      have hc875 := hc871.drop 0 rfl
      have h877 := (Ow.sd (L := [blk (.slice A844 n845 c846), blk (.slice A849 n850 c851), blk (.slice A855 n856 c857), blk (.slice A860 n861 c862)]) (O := O) (Ow.sd (L := [blk (.slice A844 n845 c846), blk (.slice A849 n850 c851), blk (.slice A855 n856 c857), blk (.slice A860 n861 c862), blk (.slice A757 n758 c759)]) (O := O) h852 (i := 1) rfl (j := 4) rfl (by decide)) (i := 1) rfl (j := 0) rfl (by decide))
      have h878 := Ow.gv (L := [blk (.slice A849 n850 c851), blk (.slice A855 n856 c857), blk (.slice A860 n861 c862)]) (O := O) h877 hc875 (i := 0) rfl
      have hc879 := hc875.drop 0 rfl
      have h881 := (Ow.sd (L := [blk (.slice A849 n850 c851), blk (.slice A855 n856 c857), blk (.slice A860 n861 c862)]) (O := O) (Ow.sd (L := [blk (.slice A844 n845 c846), blk (.slice A849 n850 c851), blk (.slice A855 n856 c857), blk (.slice A860 n861 c862)]) (O := O) (Ow.sd (L := [blk (.slice A844 n845 c846), blk (.slice A849 n850 c851), blk (.slice A855 n856 c857), blk (.slice A860 n861 c862), blk (.slice A757 n758 c759)]) (O := O) h858 (i := 2) rfl (j := 4) rfl (by decide)) (i := 2) rfl (j := 0) rfl (by decide)) (i := 1) rfl (j := 0) rfl (by decide))
      have h882 := Ow.gv (L := [blk (.slice A855 n856 c857), blk (.slice A860 n861 c862)]) (O := O) h881 hc879 (i := 0) rfl
      have hc883 := hc879.drop 0 rfl
      have h885 := (Ow.sd (L := [blk (.slice A855 n856 c857), blk (.slice A860 n861 c862)]) (O := O) (Ow.sd (L := [blk (.slice A849 n850 c851), blk (.slice A855 n856 c857), blk (.slice A860 n861 c862)]) (O := O) (Ow.sd (L := [blk (.slice A844 n845 c846), blk (.slice A849 n850 c851), blk (.slice A855 n856 c857), blk (.slice A860 n861 c862)]) (O := O) (Ow.sd (L := [blk (.slice A844 n845 c846), blk (.slice A849 n850 c851), blk (.slice A855 n856 c857), blk (.slice A860 n861 c862), blk (.slice A757 n758 c759)]) (O := O) h863 (i := 3) rfl (j := 4) rfl (by decide)) (i := 3) rfl (j := 0) rfl (by decide)) (i := 2) rfl (j := 0) rfl (by decide)) (i := 1) rfl (j := 0) rfl (by decide))
      have h886 := Ow.gv (L := [blk (.slice A860 n861 c862)]) (O := O) h885 hc883 (i := 0) rfl
      have hc887 := hc883.drop 0 rfl
      have h889 := ((((h870.st (.dr _ (L := [blk (.slice A844 n845 c846), blk (.slice A849 n850 c851), blk (.slice A855 n856 c857), blk (.slice A860 n861 c862)]) (O := O) (j := 0) rfl)).st (.dr _ (L := [blk (.slice A849 n850 c851), blk (.slice A855 n856 c857), blk (.slice A860 n861 c862)]) (O := O) (j := 0) rfl)).st (.dr _ (L := [blk (.slice A855 n856 c857), blk (.slice A860 n861 c862)]) (O := O) (j := 0) rfl)).st (.dr _ (L := [blk (.slice A860 n861 c862)]) (O := O) (j := 0) rfl))
      have h890 := (((h874.st (.dr _ (L := [blk (.slice A849 n850 c851), blk (.slice A855 n856 c857), blk (.slice A860 n861 c862)]) (O := O) (j := 0) rfl)).st (.dr _ (L := [blk (.slice A855 n856 c857), blk (.slice A860 n861 c862)]) (O := O) (j := 0) rfl)).st (.dr _ (L := [blk (.slice A860 n861 c862)]) (O := O) (j := 0) rfl))
      have h891 := ((h878.st (.dr _ (L := [blk (.slice A855 n856 c857), blk (.slice A860 n861 c862)]) (O := O) (j := 0) rfl)).st (.dr _ (L := [blk (.slice A860 n861 c862)]) (O := O) (j := 0) rfl))
      have h892 := (h882.st (.dr _ (L := [blk (.slice A860 n861 c862)]) (O := O) (j := 0) rfl))
      refine L_call go81 [.slice A757 n758 c759, .agg #[vs r10.Id, vb r10.Had, vs r10.Was.Id, vi r10.Was.Shape.Kind, .slice A844 n845 c846, .slice A849 n850 c851, vb r10.Has, vs r10.Now.Id, vi r10.Now.Shape.Kind, .slice A855 n856 c857, .slice A860 n861 c862]] rfl ((spec_l4Put.calls w840 hc887.ok xs4 A757 n758 c759 h889 r10 A844 n845 c846 A849 n850 c851 A855 n856 c857 A860 n861 c862 hs842 hs843 h890 h891 hs854 h892 h886 _ H).mono ?_)
      rintro _ w893 ⟨r11, A895, n896, c897, rfl, H, g894, hk901, hk902, h898⟩
      have hc903 := hc887.owns g894 hk901 hk902
      refine L_pu (P_assign (.slice A895 n896 c897) rfl) ?_
      refine L_nil ?_
      refine W_reg ?_
      refine L_pu (P_move (vi i4) rfl) ?_
      obtain ⟨hb905, H⟩ := H
      have hi904 : I64 (i4 + 1) := i64_succ (of_decide_eq_true hq772) hl771 hb905
      refine L_pu (P_add i4 1 rfl rfl hi904) ?_
      refine L_pu (P_assign (vi (i4 + 1)) rfl) ?_
      refine L_nil ?_
      obtain ⟨hI906, hm907⟩ := H
      have h908 := ((((((((h762.st (.new _ g804)).st (.owns _ g841 hk867)).st (.dr _ (L := [blk (.slice A844 n845 c846), blk (.slice A849 n850 c851), blk (.slice A855 n856 c857), blk (.slice A860 n861 c862), blk (.slice A757 n758 c759)]) (O := O) (j := 4) rfl)).st (.dr _ (L := [blk (.slice A844 n845 c846), blk (.slice A849 n850 c851), blk (.slice A855 n856 c857), blk (.slice A860 n861 c862)]) (O := O) (j := 0) rfl)).st (.dr _ (L := [blk (.slice A849 n850 c851), blk (.slice A855 n856 c857), blk (.slice A860 n861 c862)]) (O := O) (j := 0) rfl)).st (.dr _ (L := [blk (.slice A855 n856 c857), blk (.slice A860 n861 c862)]) (O := O) (j := 0) rfl)).st (.dr _ (L := [blk (.slice A860 n861 c862)]) (O := O) (j := 0) rfl)).st (.owns _ g894 hk902))
      have h909 := ((((((((h763.st (.new _ g804)).st (.owns _ g841 hk867)).st (.dr _ (L := [blk (.slice A844 n845 c846), blk (.slice A849 n850 c851), blk (.slice A855 n856 c857), blk (.slice A860 n861 c862), blk (.slice A757 n758 c759)]) (O := O) (j := 4) rfl)).st (.dr _ (L := [blk (.slice A844 n845 c846), blk (.slice A849 n850 c851), blk (.slice A855 n856 c857), blk (.slice A860 n861 c862)]) (O := O) (j := 0) rfl)).st (.dr _ (L := [blk (.slice A849 n850 c851), blk (.slice A855 n856 c857), blk (.slice A860 n861 c862)]) (O := O) (j := 0) rfl)).st (.dr _ (L := [blk (.slice A855 n856 c857), blk (.slice A860 n861 c862)]) (O := O) (j := 0) rfl)).st (.dr _ (L := [blk (.slice A860 n861 c862)]) (O := O) (j := 0) rfl)).st (.owns _ g894 hk902))
      exact ⟨(r11, A895, n896, c897, i4 + 1), hm907, hI906, ⟨rfl, rfl, rfl, rfl, trivial⟩, hc903, h908, h909, h898⟩
     ·have H := ite_f H hq809
      refine W_skip ?_
      refine W_reg ?_
      refine L_pu (P_move (vi i4) rfl) ?_
      obtain ⟨hb911, H⟩ := H
      have hi910 : I64 (i4 + 1) := i64_succ (of_decide_eq_true hq772) hl771 hb911
      refine L_pu (P_add i4 1 rfl rfl hi910) ?_
      refine L_pu (P_assign (vi (i4 + 1)) rfl) ?_
      refine L_nil ?_
      obtain ⟨hI912, hm913⟩ := H
      have h914 := (h764.sn g804)
      exact ⟨(xs4, A757, n758, c759, i4 + 1), hm913, hI912, ⟨rfl, rfl, rfl, rfl, trivial⟩, hc808, (h762.st (.new _ g804)), (h763.st (.new _ g804)), h914⟩
    ·have H := ite_f H hq772
     refine W_exit (xin_hit ?_)
     refine W_seq ?_
     refine W_seq ?_
     refine W_reg ?_
     refine L_pu (P_move (.slice A757 n758 c759) rfl) ?_
     have h915 := Ow.gv (L := [blk (.slice A757 n758 c759)]) (O := O) h764 hc761 (i := 0) rfl
     have hc916 := hc761.drop 0 rfl
     refine L_call go61 [.slice A757 n758 c759] rfl ((spec_DiffOk.calls w754 hc916.ok xs4 A757 n758 c759 h915 _ H).mono ?_)
     rintro _ w918 ⟨r12, rfl, H, g919⟩
     have hc923 := hc761.k0 g919
     refine L_pu (P_not r12 rfl) ?_
     refine L_nil ?_
     refine W_cond (!r12) rfl (fun hq924 => ?_) (fun hq924 => ?_)
     ·have H := ite_t H hq924
      refine W_seq ?_
      refine W_reg ?_
      refine L_lit (kd := kChange) ei43 hc923 ([] : List Change) (cells := []) rfl (fun _ => by kernel_rfl) fun w925 A926 n927 c928 g929 hr930 hc931 h932 => ?_
      refine L_pu (P_assign (.slice A926 n927 c928) rfl) ?_
      refine L_pu (P_assign (vb false) rfl) ?_
      refine L_nil ?_
      refine W_ret ?_
      have hc934 := hc931.drop 1 rfl
      have h935 := (Ow.sd (L := [blk (.slice A926 n927 c928), blk (.slice A757 n758 c759)]) (O := O) h932 (i := 0) rfl (j := 1) rfl (by decide))
      exact ⟨[.slice A926 n927 c928, vb false], ⟨_, rfl, ⟨_, rfl, rfl⟩⟩, ([] : List Change), false, A926, n927, c928, rfl, H, hc934.gr.g0, hc934.ok, hc934.ge, h935⟩
     ·have H := ite_f H hq924
      refine W_skip ?_
      refine W_seq ?_
      refine W_reg ?_
      refine L_pu (P_move (.slice A757 n758 c759) rfl) ?_
      refine L_pu (P_assign (.slice A757 n758 c759) rfl) ?_
      refine L_pu (P_assign (vb true) rfl) ?_
      refine L_nil ?_
      refine W_ret ?_
      have h936 := (h764.sn g919)
      exact ⟨[.slice A757 n758 c759, vb true], ⟨_, rfl, ⟨_, rfl, rfl⟩⟩, xs4, true, A757, n758, c759, rfl, H, hc923.gr.g0, hc923.ok, hc923.ge, h936⟩
end Go.Proofs.Ytndjggncgpjolaa

namespace Go.Proofs.Ytndjggncgpjolaa
set_option linter.unusedVariables false
set_option linter.unusedSimpArgs false
set_option linter.unusedSectionVars false
theorem sameN_t {c : Change} (h1 : c.Had = c.Has) (h2 : c.Was = c.Now) : sameC c = true := by unfold sameC; rw [decide_eq_true h1, decide_eq_true h2]; rfl
theorem sameN_f1 {c : Change} (h : ¬ c.Was = c.Now) : sameC c = false := by unfold sameC; rw [decide_eq_false h, Bool.and_false]
theorem sameN_f2 {c : Change} (h : ¬ c.Had = c.Has) : sameC c = false := by unfold sameC; rw [decide_eq_false h, Bool.false_and]
theorem idsC_take {s : List Change} {u : Nat} (hu : u < s.length) : idsC (s.take (u + 1)) = idsC (s.take u) ++ [(nth s (u : Int)).Id] := by rw [take_nth s hu, idsC_app]; rfl
theorem spec_DiffThen.law (a b : List Change) (Q : List Change → Bool → Prop) (ba : bulk a ≤ 1048576) (bb : bulk b ≤ 1048576) (hq : Q (thenR a b) (thenOk a b)) : spec_DiffThen.E a b Q := by
 unfold spec_DiffThen.E
 have bad : thenOk a b = false → Q [] false := fun h => by unfold thenR at hq; rw [h, if_neg (by decide)] at hq; exact hq
 refine spec_DiffOk.law _ _ ?_
 cases ka : diffOk a with
 | false => rw [if_pos (by decide)]; exact bad (by unfold thenOk; rw [ka]; rfl)
 | true =>
  rw [if_neg (by decide)]
  refine spec_DiffOk.law _ _ ?_
  cases kb : diffOk b with
  | false => rw [if_pos (by decide)]; exact bad (by unfold thenOk; rw [ka, kb]; rfl)
  | true =>
   rw [if_neg (by decide)]
   obtain ⟨sa, la, ca⟩ := diff_cs ka
   obtain ⟨sb, lb, cb⟩ := diff_cs kb
   refine ⟨fun xs i => ∃ u : Nat, i = u ∧ u ≤ a.length ∧ xs = thenL a b (idsC (a.take u)) ∧ ∀ id ∈ idsC (a.take u), clashAt a b id = false, fun _ i => (a.length - i).toNat, ⟨0, rfl, Nat.zero_le _, rfl, by simp [idsC]⟩, ?_⟩
   rintro _ _ ⟨u, rfl, hu, rfl, hcl⟩
   by_cases h : u < a.length
   ·rw [if_pos (by simpa using h)]
    have hin := nth_mem a h
    have hs := change_small (ca _ hin)
    have hfa := atC_of sa hin
    have ht := thenL_len a b (idsC (a.take u))
    have htl : (idsC (a.take u)).length ≤ u := by unfold idsC; rw [List.length_map, List.length_take]; omega
    have hia : (nth a (u : Int)).Id ∈ idsC a := List.mem_map.2 ⟨_, hin, rfl⟩
    have en := thenL_snoc a b (idsC (a.take u)) (nth a (u : Int)).Id
    rw [← idsC_take h] at en
    have nxt : clashAt a b (nth a (u : Int)).Id = false → ∀ id ∈ idsC (a.take (u + 1)), clashAt a b id = false := fun hc id hid => by
     rw [idsC_take h] at hid
     rcases List.mem_append.1 hid with hid | hid
     ·exact hcl id hid
     ·rw [List.mem_singleton.1 hid]; exact hc
    have b0 := atC_le b (nth a (u : Int)).Id
    have add : ∀ c : Change, c = compC a b (nth a (u : Int)).Id → sameC c = false → thenL a b (idsC (a.take u)) ++ [c] = thenL a b (idsC (a.take (u + 1))) := fun c hc k => by rw [← hc, k] at en; exact en.symm
    have old : ∀ c : Change, c = compC a b (nth a (u : Int)).Id → sameC c = true → thenL a b (idsC (a.take u)) = thenL a b (idsC (a.take (u + 1))) := fun c hc k => by rw [← hc, k] at en; rw [en]; simp
    refine ⟨by omega, spec_l4Find.law _ _ _ ⟨by omega, spec_l4Copy.law _ _ (by omega) ?_⟩⟩
    by_cases kb0 : atC b (nth a (u : Int)).Id < 0
    ·rw [if_neg (by rw [decide_eq_true_eq]; omega)]
     have hc : clashAt a b (nth a (u : Int)).Id = false := by unfold clashAt; rw [decide_eq_false (p := ¬ atC b _ < 0) (fun g => g kb0), Bool.and_false, Bool.false_and]
     have hcomp : nth a (u : Int) = compC a b (nth a (u : Int)).Id := by unfold compC; rw [if_pos kb0, hfa.2]
     by_cases k1 : (nth a (u : Int)).Had = (nth a (u : Int)).Has
     ·rw [if_neg (by rw [k1]; simp)]
      refine spec_FeatSame.law _ _ _ ?_
      by_cases k2 : (nth a (u : Int)).Was = (nth a (u : Int)).Now
      ·rw [decide_eq_true k2, if_neg (by decide)]
       exact ⟨by omega, ⟨u + 1, by omega, by omega, old _ hcomp (sameN_t k1 k2), nxt hc⟩, by dsimp only; omega⟩
      ·rw [decide_eq_false k2, if_pos (by decide)]
       exact ⟨by simp only [List.length_cons, List.length_nil]; omega, by omega, ⟨u + 1, by omega, by omega, add _ hcomp (sameN_f1 k2), nxt hc⟩, by dsimp only; omega⟩
     ·rw [if_pos (by rw [bne_iff_ne]; exact k1)]
      exact ⟨by simp only [List.length_cons, List.length_nil]; omega, by omega, ⟨u + 1, by omega, by omega, add _ hcomp (sameN_f2 k1), nxt hc⟩, by dsimp only; omega⟩
    ·rw [if_pos (by rw [decide_eq_true_eq]; omega)]
     have hbm := atC_hit kb0
     have hbs := change_small (cb _ hbm.1)
     have hca : clashAt a b (nth a (u : Int)).Id = ((nth a (u : Int)).Has != (nth b (atC b (nth a (u : Int)).Id)).Had || !(decide ((nth a (u : Int)).Now = (nth b (atC b (nth a (u : Int)).Id)).Was))) := by
      unfold clashAt; rw [decide_eq_true hfa.1, decide_eq_true kb0, Bool.true_and, Bool.true_and, hfa.2]
     have clash : clashAt a b (nth a (u : Int)).Id = true → Q [] false := fun hc => bad (by
      unfold thenOk
      rw [List.any_eq_true.2 ⟨_, uniqC_mem.2 (.inl hia), hc⟩]; simp)
     refine ⟨by omega, by omega, ?_⟩
     cases k1 : (nth a (u : Int)).Has != (nth b (atC b (nth a (u : Int)).Id)).Had with
     | true => rw [if_pos rfl]; exact clash (by rw [hca, k1]; rfl)
     | false =>
      rw [if_neg (by decide)]
      refine ⟨by omega, by omega, _, spec_FeatSame.law _ _ _ rfl, ?_⟩
      cases k2 : decide ((nth a (u : Int)).Now = (nth b (atC b (nth a (u : Int)).Id)).Was) with
      | false => rw [if_pos (by decide)]; exact clash (by rw [hca, k1, k2]; rfl)
      | true =>
       rw [if_neg (by decide)]
       have hc : clashAt a b (nth a (u : Int)).Id = false := by rw [hca, k1, k2]; rfl
       refine ⟨by omega, by omega, spec_l2Copy.law _ _ (by omega) ?_⟩
       have hcomp : (⟨(nth a (u : Int)).Id, (nth a (u : Int)).Had, (nth a (u : Int)).Was, (nth b (atC b (nth a (u : Int)).Id)).Has, (nth b (atC b (nth a (u : Int)).Id)).Now⟩ : Change) = compC a b (nth a (u : Int)).Id := by unfold compC; rw [if_neg kb0, if_neg hfa.1, hfa.2]
       by_cases k3 : (nth a (u : Int)).Had = (nth b (atC b (nth a (u : Int)).Id)).Has
       ·rw [if_neg (by rw [k3]; simp)]
        refine spec_FeatSame.law _ _ _ ?_
        by_cases k4 : (nth a (u : Int)).Was = (nth b (atC b (nth a (u : Int)).Id)).Now
        ·rw [decide_eq_true k4, if_neg (by decide)]
         exact ⟨by omega, ⟨u + 1, by omega, by omega, old _ hcomp (sameN_t k3 k4), nxt hc⟩, by dsimp only; omega⟩
        ·rw [decide_eq_false k4, if_pos (by decide)]
         exact ⟨by simp only [List.length_cons, List.length_nil]; omega, by omega, ⟨u + 1, by omega, by omega, add _ hcomp (sameN_f1 k4), nxt hc⟩, by dsimp only; omega⟩
       ·rw [if_pos (by rw [bne_iff_ne]; exact k3)]
        exact ⟨by simp only [List.length_cons, List.length_nil]; omega, by omega, ⟨u + 1, by omega, by omega, add _ hcomp (sameN_f2 k3), nxt hc⟩, by dsimp only; omega⟩
   ·rw [if_neg (by simpa using h)]
    have hue : u = a.length := by omega
    subst hue
    rw [List.take_length] at hcl ⊢
    have hia : ∀ id ∈ idsC a, id ∈ idsC a ∨ id ∈ idsC b := fun id hid => .inl hid
    have hla : (idsC a).length = a.length := by unfold idsC; exact List.length_map _
    have t0 := thenL_len a b (idsC a)
    have hid0 : ∀ x ∈ thenL a b (idsC a), x.Id ∈ idsC a := fun x hx => by
     obtain ⟨⟨id, h1, rfl⟩, _⟩ := thenL_mem.1 hx
     rw [compC_id (.inl h1)]; exact h1
    refine ⟨fun xs i => ∃ v : Nat, i = v ∧ v ≤ b.length ∧ CS xs ∧ (∀ x, x ∈ xs ↔ x ∈ thenL a b (idsC a) ∨ (x ∈ b.take v ∧ x.Id ∉ idsC a)) ∧ xs.length ≤ 16 + v, fun _ i => (b.length - i).toNat, ⟨0, rfl, Nat.zero_le _, thenL_cs sa.ids hia, by simp, by omega⟩, ?_⟩
    rintro xs _ ⟨v, rfl, hv, h1, h2, h3⟩
    by_cases g : v < b.length
    ·rw [if_pos (by simpa using g)]
     have hin := nth_mem b g
     have hs := change_small (cb _ hin)
     refine ⟨by omega, spec_l4Find.law _ _ _ ?_⟩
     by_cases ka0 : atC a (nth b (v : Int)).Id < 0
     ·rw [if_pos (by rw [decide_eq_true_eq]; exact ka0)]
      have hna := atC_miss ka0
      refine ⟨by omega, spec_l4Copy.law _ _ (by omega) (spec_l4Put.law _ _ _ (by omega) h1 (fun hm => ?_) fun r r1 r2 r3 => ⟨by omega, ⟨v + 1, by omega, by omega, r1, fun x => ?_, by omega⟩, by dsimp only; omega⟩)⟩
      ·obtain ⟨x, hx, hxe⟩ := List.mem_map.1 hm
       rcases (h2 x).1 hx with hx | ⟨hx, _⟩
       ·exact hna (by rw [← hxe]; exact hid0 x hx)
       ·have := sb.inj (List.mem_of_mem_take hx) hin hxe
        subst this
        obtain ⟨j, hj, hje⟩ := List.getElem_of_mem hx
        rw [List.length_take] at hj
        rw [List.getElem_take] at hje
        rw [nth_nat b g] at hje
        have := List.pairwise_iff_getElem.1 sb j v (by omega) g (by omega)
        rw [hje, less_irr] at this; cases this
      ·rw [r2, h2, take_nth b g, List.mem_append, List.mem_singleton]
       constructor
       ·rintro ((hx | ⟨hx, hn⟩) | hx)
        ·exact .inl hx
        ·exact .inr ⟨.inl hx, hn⟩
        ·exact .inr ⟨.inr hx, by rw [hx]; exact hna⟩
       ·rintro (hx | ⟨hx | hx, hn⟩)
        ·exact .inl (.inl hx)
        ·exact .inl (.inr ⟨hx, hn⟩)
        ·exact .inr hx
     ·rw [if_neg (by rw [decide_eq_true_eq]; exact ka0)]
      refine ⟨by omega, ⟨v + 1, by omega, by omega, h1, fun x => ?_, by omega⟩, by dsimp only; omega⟩
      rw [h2, take_nth b g, List.mem_append, List.mem_singleton]
      constructor
      ·rintro (hx | ⟨hx, hn⟩)
       ·exact .inl hx
       ·exact .inr ⟨.inl hx, hn⟩
      ·rintro (hx | ⟨hx | hx, hn⟩)
       ·exact .inl hx
       ·exact .inr ⟨hx, hn⟩
       ·exact absurd (atC_mem ka0) (by rw [← hx]; exact hn)
    ·rw [if_neg (by simpa using g)]
     have hve : v = b.length := by omega
     subst hve
     rw [List.take_length] at h2
     have hxs : xs = thenOut a b := CS.ext h1 (thenL_cs (uniq_ss _) fun id hid => uniqC_mem.1 hid) fun x => by
      rw [h2]
      constructor
      ·rintro (hx | ⟨hx, hn⟩)
       ·obtain ⟨⟨id, g1, g2⟩, g3⟩ := thenL_mem.1 hx
        exact thenL_mem.2 ⟨⟨id, uniqC_mem.2 (.inl g1), g2⟩, g3⟩
       ·have hf := atC_of sb hx
        have hna : atC a x.Id < 0 := Classical.byContradiction fun e => hn (atC_mem e)
        exact thenL_mem.2 ⟨⟨x.Id, uniqC_mem.2 (.inr (List.mem_map.2 ⟨x, hx, rfl⟩)), by unfold compC; rw [if_neg hf.1, if_pos hna]; exact hf.2⟩, (change_small (cb x hx)).2.1⟩
      ·intro hx
       obtain ⟨⟨id, g1, g2⟩, g3⟩ := thenL_mem.1 hx
       by_cases hi : id ∈ idsC a
       ·exact .inl (thenL_mem.2 ⟨⟨id, hi, g2⟩, g3⟩)
       ·right
        have hib : id ∈ idsC b := (uniqC_mem.1 g1).resolve_left hi
        have hxid : x.Id = id := by rw [← g2]; exact compC_id (.inr hib)
        have hna : atC a id < 0 := Classical.byContradiction fun e => hi (atC_mem e)
        have hnb : ¬ atC b id < 0 := fun e => atC_miss e hib
        refine ⟨?_, by rw [hxid]; exact hi⟩
        rw [← g2]; unfold compC; rw [if_neg hnb, if_pos hna]; exact (atC_hit hnb).1
     subst hxs
     have hany : (uniq (idsC a ++ idsC b)).any (clashAt a b) = false := by
      rw [List.any_eq_false]; intro id hid
      by_cases hi : id ∈ idsC a
      ·rw [hcl id hi]; exact Bool.false_ne_true
      ·have hna : atC a id < 0 := Classical.byContradiction fun e => hi (atC_mem e)
       unfold clashAt
       rw [decide_eq_false (p := ¬ atC a id < 0) (fun g => g hna), Bool.false_and, Bool.false_and]; exact Bool.false_ne_true
     refine spec_DiffOk.law _ _ ?_
     cases ko : diffOk (thenOut a b) with
     | false => rw [if_pos (by decide)]; exact bad (by unfold thenOk; rw [ko, Bool.and_false])
     | true =>
      rw [if_neg (by decide)]
      have hok : thenOk a b = true := by unfold thenOk; rw [ka, kb, hany, ko]; rfl
      unfold thenR at hq
      rw [hok, if_pos rfl] at hq
      exact hq
end Go.Proofs.Ytndjggncgpjolaa

namespace Go.Proofs.Ytndjggncgpjolaa
open Go.RowKit
set_option linter.unusedVariables false
set_option linter.unusedSimpArgs false
def impl_within.E (n : Int) (low : Int) (high : Int) (Q : Bool → Prop) : Prop :=
 (if decide (n ≥ low) then Q (decide (n ≤ high)) else Q false)
set_option maxHeartbeats 8000000 in
set_option maxRecDepth 100000 in
theorem impl_within.calls {O : Ob} (w0 : World) (hO : Ok w0 O) (n : Int) (low : Int) (high : Int) (Q : Bool → Prop) (h : impl_within.E n low high Q) :
  Ret Try.prog 112 [vi n, vi low, vi high] w0 (fun v w' => ∃ (r0 : Bool), v = vb r0 ∧ Q r0 ∧ Gr w0 w' none ∧ w' = w0) := by
 have H : (if decide (n ≥ low) then Q (decide (n ≤ high)) else Q false) := h
 clear h
 have hc0 := Ct.init hO
 refine Ret_enter Try.func112 rfl 15 rfl [.tmp 6] rfl rfl ?_
 refine W_seq ?_
 refine W_reg ?_
 refine L_pu (P_assign (vb false) rfl) ?_
 refine L_nil ?_
 refine W_seq ?_
 refine W_reg ?_
 refine L_pu (P_move (vi n) rfl) ?_
 refine L_pu (P_move (vi low) rfl) ?_
 refine L_pu (P_cmp n low (decide (n ≥ low)) rfl rfl rfl) ?_
 refine L_pu (P_move (vb (decide (n ≥ low))) rfl) ?_
 rcases bool_or (decide (n ≥ low)) with hq1 | hq1
 ·have H := ite_t H hq1
  refine L_run (dj := 10) rfl rfl (by exact congrArg Value.bool hq1) ?_
  refine L_pu (P_move (vi n) rfl) ?_
  refine L_run (dj := 10) rfl rfl (by exact congrArg Value.bool hq1) ?_
  refine L_pu (P_move (vi high) rfl) ?_
  refine L_run (dj := 10) rfl rfl (by exact congrArg Value.bool hq1) ?_
  refine L_pu (P_cmp n high (decide (n ≤ high)) rfl rfl rfl) ?_
  refine L_pu (P_pick true (vb (decide (n ≤ high))) (by exact congrArg Value.bool hq1) rfl) ?_
  refine L_pu (P_assign (vb (decide (n ≤ high))) rfl) ?_
  refine L_nil ?_
  refine W_ret ?_
  exact ⟨[vb (decide (n ≤ high))], ⟨_, rfl, rfl⟩, decide (n ≤ high), rfl, H, hc0.gr.g0, rfl⟩
 ·have H := ite_f H hq1
  refine L_pass (dj := 10) rfl rfl (.inl (by exact congrArg Value.bool hq1)) ?_
  refine L_pass (dj := 10) rfl rfl (.inl (by exact congrArg Value.bool hq1)) ?_
  refine L_pass (dj := 10) rfl rfl (.inl (by exact congrArg Value.bool hq1)) ?_
  refine L_pu (P_pick false (vb false) (by exact congrArg Value.bool hq1) rfl) ?_
  refine L_pu (P_assign (vb false) rfl) ?_
  refine L_nil ?_
  refine W_ret ?_
  exact ⟨[vb false], ⟨_, rfl, rfl⟩, false, rfl, H, hc0.gr.g0, rfl⟩
def impl_within.m (n : Int) (low : Int) (high : Int) : Bool := (if decide (n ≥ low) then (decide (n ≤ high)) else false)
theorem impl_within.fn (n : Int) (low : Int) (high : Int) : impl_within.E n low high (fun r => r = impl_within.m n low high) := by
 unfold impl_within.E impl_within.m
 (repeat' split) <;> simp_all
end Go.Proofs.Ytndjggncgpjolaa

namespace Go.Proofs.Ytndjggncgpjolaa
set_option linter.unusedVariables false
set_option linter.unusedSimpArgs false
set_option linter.unusedSectionVars false
theorem impl_within.law (n lo hi : Int) (Q : Bool → Prop) (hq : Q (decide (lo ≤ n) && decide (n ≤ hi))) : impl_within.E n lo hi Q := by
 unfold impl_within.E
 by_cases h : lo ≤ n
 ·rw [if_pos (by simpa using h)]; rw [decide_eq_true h, Bool.true_and] at hq; exact hq
 ·rw [if_neg (by simpa using h)]; rw [decide_eq_false h, Bool.false_and] at hq; exact hq
theorem impl_within.m_is (n lo hi : Int) : impl_within.m n lo hi = (decide (lo ≤ n) && decide (n ≤ hi)) := by
 unfold impl_within.m
 by_cases h : lo ≤ n
 ·rw [if_pos (by simpa using h), decide_eq_true h, Bool.true_and]
 ·rw [if_neg (by simpa using h), decide_eq_false h, Bool.false_and]
end Go.Proofs.Ytndjggncgpjolaa

namespace Go.Proofs.Ytndjggncgpjolaa
open Go.RowKit
set_option linter.unusedVariables false
set_option linter.unusedSimpArgs false
def impl_WordOk.E (s : Str) (Q : Bool → Prop) : Prop :=
 (∃ (I9 : Int → Prop) (mu10 : Int → Nat), I9 0 ∧ ∀ (v2 : Int), I9 v2 → (if decide (v2 < (s.length : Int)) then ((0 : Int) ≤ v2 ∧ v2 < (s.length : Int)) ∧ (if decide (((nth s v2).toNat : Int) < 97) then Q false else ((0 : Int) ≤ v2 ∧ v2 < (s.length : Int)) ∧ (if decide (((nth s v2).toNat : Int) > 122) then Q false else (I64 (v2 + 1)) ∧ I9 (v2 + 1) ∧ mu10 (v2 + 1) < mu10 v2)) else impl_within.E (s.length : Int) 1 6 (fun r => Q r)))
set_option maxHeartbeats 8000000 in
set_option maxRecDepth 100000 in
theorem impl_WordOk.calls {O : Ob} (w0 : World) (hO : Ok w0 O) (s : Str) (hs1 : Lim s) (Q : Bool → Prop) (h : impl_WordOk.E s Q) :
  Ret Try.prog 53 [vs s] w0 (fun v w' => ∃ (r0 : Bool), v = vb r0 ∧ Q r0 ∧ Gr w0 w' none) := by
 have H : (∃ (I9 : Int → Prop) (mu10 : Int → Nat), I9 0 ∧ ∀ (v2 : Int), I9 v2 → (if decide (v2 < (s.length : Int)) then ((0 : Int) ≤ v2 ∧ v2 < (s.length : Int)) ∧ (if decide (((nth s v2).toNat : Int) < 97) then Q false else ((0 : Int) ≤ v2 ∧ v2 < (s.length : Int)) ∧ (if decide (((nth s v2).toNat : Int) > 122) then Q false else (I64 (v2 + 1)) ∧ I9 (v2 + 1) ∧ mu10 (v2 + 1) < mu10 v2)) else impl_within.E (s.length : Int) 1 6 (fun r => Q r))) := h
 clear h
 have hc0 := Ct.init hO
 refine Ret_enter Try.func53 rfl 23 rfl [.tmp 2] rfl rfl ?_
 refine W_seq ?_
 refine W_reg ?_
 refine L_pu (P_assign (vb false) rfl) ?_
 refine L_nil ?_
 refine W_seq ?_
 refine W_seq ?_
 refine W_reg ?_
 refine L_pu (P_move (vs s) rfl) ?_
 have hl2 := hs1
 refine L_pu (P_lens Try.underlying9 s rfl) ?_
 refine L_pu (P_move (vi 0) rfl) ?_
 refine L_nil ?_
 refine W_block ?_
 obtain ⟨I9, mu10, hI11, H⟩ := H
 refine W_loop (α := Int) (fun (sv__ : Int) t w7 => match sv__ with | v2 => I9 v2 ∧ Has t [(0, vs s), (5, vi (s.length : Int)), (6, vi v2)] ∧ Ct [] w0 w7 [] O) (fun (sv__ : Int) => match sv__ with | v2 => mu10 v2) 0 ⟨hI11, ⟨rfl, rfl, rfl, trivial⟩, hc0⟩ ?_
 rintro v2 _ w7 ⟨hI11, hh13, hc8⟩
 obtain ⟨u14, rfl⟩ := Has.ins hh13
 have H := H v2 hI11
 refine W_seq ?_
 refine W_reg ?_
 refine L_pu (P_cmp v2 (s.length : Int) (decide (v2 < (s.length : Int))) rfl rfl rfl) ?_
 refine L_nil ?_
 refine W_seq ?_
 refine W_cond (decide (v2 < (s.length : Int))) rfl (fun hq15 => ?_) (fun hq15 => ?_)
 ·have H := ite_t H hq15
  refine W_skip ?_
  refine W_seq ?_
  refine W_block ?_
  refine W_seq ?_
  refine W_reg ?_
  refine L_pu (P_move (vi v2) rfl) ?_
  refine L_pu (P_assign (vi v2) rfl) ?_
  refine L_nil ?_
  refine W_seq ?_
  refine W_reg ?_
  refine L_pu (P_move (vs s) rfl) ?_
  refine L_pu (P_move (vi v2) rfl) ?_
  obtain ⟨hb16, H⟩ := H
  refine L_pu (P_index Try.underlying9 s v2 rfl rfl hb16) ?_
  refine L_pu (P_cmp ((nth s v2).toNat : Int) 97 (decide (((nth s v2).toNat : Int) < 97)) rfl rfl rfl) ?_
  refine L_pu (P_move (vb (decide (((nth s v2).toNat : Int) < 97))) rfl) ?_
  rcases bool_or (decide (((nth s v2).toNat : Int) < 97)) with hq17 | hq17
  ·have H := ite_t H hq17
   refine L_pass (dj := 13) rfl rfl (.inl (by exact congrArg Value.bool hq17)) ?_
   refine L_pass (dj := 13) rfl rfl (.inl (by exact congrArg Value.bool hq17)) ?_
   refine L_pass (dj := 13) rfl rfl (.inl (by exact congrArg Value.bool hq17)) ?_
   refine L_pass (dj := 13) rfl rfl (.inl (by exact congrArg Value.bool hq17)) ?_
   refine L_pu (P_pick true (vb true) (by exact congrArg Value.bool hq17) rfl) ?_
   refine L_nil ?_
   refine W_ct (b := true) rfl rfl ?_
   refine W_seq ?_
   refine W_reg ?_
   refine L_pu (P_assign (vb false) rfl) ?_
   refine L_nil ?_
   refine W_ret ?_
   exact ⟨[vb false], ⟨_, rfl, rfl⟩, false, rfl, H, hc8.gr.g0⟩
  ·have H := ite_f H hq17
   refine L_run (dj := 13) rfl rfl (by exact congrArg Value.bool hq17) ?_
   refine L_pu (P_move (vs s) rfl) ?_
   refine L_run (dj := 13) rfl rfl (by exact congrArg Value.bool hq17) ?_
   refine L_pu (P_move (vi v2) rfl) ?_
   refine L_run (dj := 13) rfl rfl (by exact congrArg Value.bool hq17) ?_
   obtain ⟨hb18, H⟩ := H
   refine L_pu (P_index Try.underlying9 s v2 rfl rfl hb18) ?_
   refine L_run (dj := 13) rfl rfl (by exact congrArg Value.bool hq17) ?_
   refine L_pu (P_cmp ((nth s v2).toNat : Int) 122 (decide (((nth s v2).toNat : Int) > 122)) rfl rfl rfl) ?_
   refine L_pu (P_pick false (vb (decide (((nth s v2).toNat : Int) > 122))) (by exact congrArg Value.bool hq17) rfl) ?_
   refine L_nil ?_
   refine W_cond (decide (((nth s v2).toNat : Int) > 122)) rfl (fun hq19 => ?_) (fun hq19 => ?_)
   ·have H := ite_t H hq19
    refine W_seq ?_
    refine W_reg ?_
    refine L_pu (P_assign (vb false) rfl) ?_
    refine L_nil ?_
    refine W_ret ?_
    exact ⟨[vb false], ⟨_, rfl, rfl⟩, false, rfl, H, hc8.gr.g0⟩
   ·have H := ite_f H hq19
    refine W_skip ?_
    refine W_reg ?_
    obtain ⟨hb20, H⟩ := H
    refine L_pu (P_add v2 1 rfl rfl hb20) ?_
    refine L_pu (P_move (vi (v2 + 1)) rfl) ?_
    refine L_nil ?_
    obtain ⟨hI21, hm22⟩ := H
    exact ⟨v2 + 1, hm22, hI21, ⟨rfl, rfl, rfl, trivial⟩, hc8⟩
 ·have H := ite_f H hq15
  refine W_exit (xin_hit ?_)
  refine W_seq ?_
  refine W_reg ?_
  refine L_pu (P_move (vs s) rfl) ?_
  have hl23 := hs1
  refine L_pu (P_lens Try.underlying9 s rfl) ?_
  refine L_call go112 [vi (s.length : Int), vi 1, vi 6] rfl ((impl_within.calls w7 hc8.ok (s.length : Int) 1 6 _ H).mono ?_)
  rintro _ w24 ⟨r, rfl, H, g25, _⟩
  have hc29 := hc8.k0 g25
  refine L_pu (P_assign (vb r) rfl) ?_
  refine L_nil ?_
  refine W_ret ?_
  exact ⟨[vb r], ⟨_, rfl, rfl⟩, r, rfl, H, hc29.gr.g0⟩
end Go.Proofs.Ytndjggncgpjolaa

namespace Go.Proofs.Ytndjggncgpjolaa
set_option linter.unusedVariables false
set_option linter.unusedSimpArgs false
set_option linter.unusedSectionVars false
theorem impl_WordOk.law (s : Str) (Q : Bool → Prop) (hl : s.length ≤ 1048576) (hq : Q (wordOk s)) : impl_WordOk.E s Q := by
 unfold impl_WordOk.E
 unfold wordOk at hq
 refine loop_all s.length (fun k => byteOk (nth s (k : Int))) (fun I mu k hk hp hn => ?_) (fun ha => ?_)
 ·refine ⟨by omega, ?_⟩
  cases h1 : decide (((nth s (k : Int)).toNat : Int) < 97) with
  | true => rw [if_pos rfl]; rw [allN_false hk (by simp only [byteOk, h1]; rfl), Bool.false_and] at hq; exact hq
  | false =>
   rw [if_neg (by decide)]
   refine ⟨by omega, ?_⟩
   cases h2 : decide (((nth s (k : Int)).toNat : Int) > 122) with
   | true => rw [if_pos rfl]; rw [allN_false hk (by simp only [byteOk, h1, h2]; rfl), Bool.false_and] at hq; exact hq
   | false =>
    rw [if_neg (by decide)]
    obtain ⟨i1, i2⟩ := hn (by simp only [byteOk, h1, h2]; rfl)
    exact ⟨by unfold I64; omega, i1, i2⟩
 ·rw [allN_true ha, Bool.true_and] at hq
  refine impl_within.law _ _ _ _ ?_
  have e1 : decide ((1 : Int) ≤ (s.length : Int)) = decide (1 ≤ s.length) := decide_eq_decide.2 (by omega)
  have e2 : decide ((s.length : Int) ≤ 6) = decide (s.length ≤ 6) := decide_eq_decide.2 (by omega)
  rw [e1, e2]; exact hq
end Go.Proofs.Ytndjggncgpjolaa

namespace Go.Proofs.Ytndjggncgpjolaa
open Go.RowKit
set_option linter.unusedVariables false
set_option linter.unusedSimpArgs false
def impl_noFeat.E (f : Feat) (Q : Bool → Prop) : Prop :=
 (if f.Id == ([] : Str) then (if f.Shape.Kind == 0 then (if (f.Shape.Pts.length : Int) == 0 then Q ((f.Tags.length : Int) == 0) else Q false) else Q false) else Q false)
set_option maxHeartbeats 8000000 in
set_option maxRecDepth 100000 in
theorem impl_noFeat.calls {O : Ob} (w0 : World) (hO : Ok w0 O) (f : Feat) (A2 : Option Addr) (n3 c4 : Nat) (A7 : Option Addr) (n8 c9 : Nat) (hs1 : Lim f.Id) (hp5 : Sl kPt w0 (Fr O) (.slice A2 n3 c4) f.Shape.Pts) (hp10 : Sl kTag w0 (Fr O) (.slice A7 n8 c9) f.Tags) (Q : Bool → Prop) (h : impl_noFeat.E f Q) :
  Ret Try.prog 149 [.agg #[vs f.Id, vi f.Shape.Kind, .slice A2 n3 c4, .slice A7 n8 c9]] w0 (fun v w' => ∃ (r0 : Bool), v = vb r0 ∧ Q r0 ∧ Gr w0 w' none) := by
 have H : (if f.Id == ([] : Str) then (if f.Shape.Kind == 0 then (if (f.Shape.Pts.length : Int) == 0 then Q ((f.Tags.length : Int) == 0) else Q false) else Q false) else Q false) := h
 clear h
 have hc0 := Ct.init hO
 refine Ret_enter Try.func149 rfl 25 rfl [.tmp 2] rfl rfl ?_
 refine W_seq ?_
 refine W_reg ?_
 refine L_box [vs f.Id, vi f.Shape.Kind, .slice A2 n3 c4, .slice A7 n8 c9] rfl fun w12 b13 hl15 hu16 g14 hx17 => ?_
 have h19 := Fb.mk hc0.ok hl15 hx17
 have hc20 := hc0.k0 g14
 refine L_pu (P_assign (vb false) rfl) ?_
 refine L_nil ?_
 refine W_seq ?_
 refine W_reg ?_
 refine L_pu (P_fa fa71_0 ⟨b13, 0, none⟩ ⟨b13, 0, none⟩ rfl rfl) ?_
 refine L_pu (P_ld ag9 cL ⟨b13, 0, none⟩ (vs f.Id) rfl (h19.cell rfl)) ?_
 refine L_pu (P_scmp f.Id ([] : Str) (f.Id == ([] : Str)) rfl rfl rfl) ?_
 refine L_pu (P_move (vb (f.Id == ([] : Str))) rfl) ?_
 rcases bool_or (f.Id == ([] : Str)) with hq21 | hq21
 ·have H := ite_t H hq21
  refine L_run (dj := 6) rfl rfl (by exact congrArg Value.bool hq21) ?_
  refine L_pu (P_fa fa71_1 ⟨b13, 0, none⟩ ⟨b13, 1, none⟩ rfl rfl) ?_
  refine L_run (dj := 6) rfl rfl (by exact congrArg Value.bool hq21) ?_
  refine L_pu (P_fa fa68_0 ⟨b13, 1, none⟩ ⟨b13, 1, none⟩ rfl rfl) ?_
  refine L_run (dj := 6) rfl rfl (by exact congrArg Value.bool hq21) ?_
  refine L_pu (P_ld ag3 cL ⟨b13, 1, none⟩ (vi f.Shape.Kind) rfl (h19.cell rfl)) ?_
  refine L_run (dj := 6) rfl rfl (by exact congrArg Value.bool hq21) ?_
  refine L_pu (P_cmp f.Shape.Kind 0 (f.Shape.Kind == 0) rfl rfl rfl) ?_
  refine L_pu (P_pick true (vb (f.Shape.Kind == 0)) (by exact congrArg Value.bool hq21) rfl) ?_
  refine L_pu (P_move (vb (f.Shape.Kind == 0)) rfl) ?_
  rcases bool_or (f.Shape.Kind == 0) with hq22 | hq22
  ·have H := ite_t H hq22
   refine L_run (dj := 12) rfl rfl (by exact congrArg Value.bool hq22) ?_
   refine L_pu (P_fa fa71_1 ⟨b13, 0, none⟩ ⟨b13, 1, none⟩ rfl rfl) ?_
   refine L_run (dj := 12) rfl rfl (by exact congrArg Value.bool hq22) ?_
   refine L_pu (P_fa fa68_1 ⟨b13, 1, none⟩ ⟨b13, 2, none⟩ rfl rfl) ?_
   refine L_run (dj := 12) rfl rfl (by exact congrArg Value.bool hq22) ?_
   refine L_pu (P_ld ag23 cL ⟨b13, 2, none⟩ (.slice A2 n3 c4) rfl (h19.cell rfl)) ?_
   refine L_run (dj := 12) rfl rfl (by exact congrArg Value.bool hq22) ?_
   have hl23 := (hp5.st hc20.st).le
   refine L_pu (P_len Try.underlying23 A2 n3 c4 (hp5.st hc20.st).len rfl) ?_
   refine L_run (dj := 12) rfl rfl (by exact congrArg Value.bool hq22) ?_
   refine L_pu (P_cmp (f.Shape.Pts.length : Int) 0 ((f.Shape.Pts.length : Int) == 0) rfl rfl rfl) ?_
   refine L_pu (P_pick true (vb ((f.Shape.Pts.length : Int) == 0)) (by exact congrArg Value.bool hq22) rfl) ?_
   refine L_pu (P_move (vb ((f.Shape.Pts.length : Int) == 0)) rfl) ?_
   rcases bool_or ((f.Shape.Pts.length : Int) == 0) with hq24 | hq24
   ·have H := ite_t H hq24
    refine L_run (dj := 19) rfl rfl (by exact congrArg Value.bool hq24) ?_
    refine L_pu (P_fa fa71_2 ⟨b13, 0, none⟩ ⟨b13, 3, none⟩ rfl rfl) ?_
    refine L_run (dj := 19) rfl rfl (by exact congrArg Value.bool hq24) ?_
    refine L_pu (P_ld ag69 cL ⟨b13, 3, none⟩ (.slice A7 n8 c9) rfl (h19.cell rfl)) ?_
    refine L_run (dj := 19) rfl rfl (by exact congrArg Value.bool hq24) ?_
    have hl25 := (hp10.st hc20.st).le
    refine L_pu (P_len Try.underlying69 A7 n8 c9 (hp10.st hc20.st).len rfl) ?_
    refine L_run (dj := 19) rfl rfl (by exact congrArg Value.bool hq24) ?_
    refine L_pu (P_cmp (f.Tags.length : Int) 0 ((f.Tags.length : Int) == 0) rfl rfl rfl) ?_
    refine L_pu (P_pick true (vb ((f.Tags.length : Int) == 0)) (by exact congrArg Value.bool hq24) rfl) ?_
    refine L_pu (P_assign (vb ((f.Tags.length : Int) == 0)) rfl) ?_
    refine L_nil ?_
    refine W_ret ?_
    exact ⟨[vb ((f.Tags.length : Int) == 0)], ⟨_, rfl, rfl⟩, (f.Tags.length : Int) == 0, rfl, H, hc20.gr.g0⟩
   ·have H := ite_f H hq24
    refine L_pass (dj := 19) rfl rfl (.inl (by exact congrArg Value.bool hq24)) ?_
    refine L_pass (dj := 19) rfl rfl (.inl (by exact congrArg Value.bool hq24)) ?_
    refine L_pass (dj := 19) rfl rfl (.inl (by exact congrArg Value.bool hq24)) ?_
    refine L_pass (dj := 19) rfl rfl (.inl (by exact congrArg Value.bool hq24)) ?_
    refine L_pu (P_pick false (vb false) (by exact congrArg Value.bool hq24) rfl) ?_
    refine L_pu (P_assign (vb false) rfl) ?_
    refine L_nil ?_
    refine W_ret ?_
    exact ⟨[vb false], ⟨_, rfl, rfl⟩, false, rfl, H, hc20.gr.g0⟩
  ·have H := ite_f H hq22
   refine L_pass (dj := 12) rfl rfl (.inl (by exact congrArg Value.bool hq22)) ?_
   refine L_pass (dj := 12) rfl rfl (.inl (by exact congrArg Value.bool hq22)) ?_
   refine L_pass (dj := 12) rfl rfl (.inl (by exact congrArg Value.bool hq22)) ?_
   refine L_pass (dj := 12) rfl rfl (.inl (by exact congrArg Value.bool hq22)) ?_
   refine L_pass (dj := 12) rfl rfl (.inl (by exact congrArg Value.bool hq22)) ?_
   refine L_pu (P_pick false (vb false) (by exact congrArg Value.bool hq22) rfl) ?_
   refine L_pu (P_move (vb false) rfl) ?_
   refine L_pass (dj := 19) rfl rfl (.inl rfl) ?_
   refine L_pass (dj := 19) rfl rfl (.inl rfl) ?_
   refine L_pass (dj := 19) rfl rfl (.inl rfl) ?_
   refine L_pass (dj := 19) rfl rfl (.inl rfl) ?_
   refine L_pu (P_pick false (vb false) (by exact congrArg Value.bool rfl) rfl) ?_
   refine L_pu (P_assign (vb false) rfl) ?_
   refine L_nil ?_
   refine W_ret ?_
   exact ⟨[vb false], ⟨_, rfl, rfl⟩, false, rfl, H, hc20.gr.g0⟩
 ·have H := ite_f H hq21
  refine L_pass (dj := 6) rfl rfl (.inl (by exact congrArg Value.bool hq21)) ?_
  refine L_pass (dj := 6) rfl rfl (.inl (by exact congrArg Value.bool hq21)) ?_
  refine L_pass (dj := 6) rfl rfl (.inl (by exact congrArg Value.bool hq21)) ?_
  refine L_pass (dj := 6) rfl rfl (.inl (by exact congrArg Value.bool hq21)) ?_
  refine L_pu (P_pick false (vb false) (by exact congrArg Value.bool hq21) rfl) ?_
  refine L_pu (P_move (vb false) rfl) ?_
  refine L_pass (dj := 12) rfl rfl (.inl rfl) ?_
  refine L_pass (dj := 12) rfl rfl (.inl rfl) ?_
  refine L_pass (dj := 12) rfl rfl (.inl rfl) ?_
  refine L_pass (dj := 12) rfl rfl (.inl rfl) ?_
  refine L_pass (dj := 12) rfl rfl (.inl rfl) ?_
  refine L_pu (P_pick false (vb false) (by exact congrArg Value.bool rfl) rfl) ?_
  refine L_pu (P_move (vb false) rfl) ?_
  refine L_pass (dj := 19) rfl rfl (.inl rfl) ?_
  refine L_pass (dj := 19) rfl rfl (.inl rfl) ?_
  refine L_pass (dj := 19) rfl rfl (.inl rfl) ?_
  refine L_pass (dj := 19) rfl rfl (.inl rfl) ?_
  refine L_pu (P_pick false (vb false) (by exact congrArg Value.bool rfl) rfl) ?_
  refine L_pu (P_assign (vb false) rfl) ?_
  refine L_nil ?_
  refine W_ret ?_
  exact ⟨[vb false], ⟨_, rfl, rfl⟩, false, rfl, H, hc20.gr.g0⟩
end Go.Proofs.Ytndjggncgpjolaa

namespace Go.Proofs.Ytndjggncgpjolaa
set_option linter.unusedVariables false
set_option linter.unusedSimpArgs false
set_option linter.unusedSectionVars false
theorem impl_noFeat.law (f : Feat) (Q : Bool → Prop) (hq : Q (noF f)) : impl_noFeat.E f Q := by
 unfold impl_noFeat.E
 obtain ⟨i, ⟨k, p⟩, t⟩ := f
 unfold noF at hq
 dsimp only
 have e : decide ((⟨i, ⟨k, p⟩, t⟩ : Feat) = ⟨[], ⟨0, []⟩, []⟩) = (decide (i = []) && decide (k = 0) && decide (p = []) && decide (t = [])) := by
  rw [Bool.eq_iff_iff]; simp [and_assoc]
 rw [e] at hq
 cases h1 : decide (i = []) with
 | false => rw [h1] at hq; rw [if_neg (by rw [beq_iff_eq]; exact of_decide_eq_false h1)]; exact hq
 | true =>
  rw [if_pos (by rw [beq_iff_eq]; exact of_decide_eq_true h1)]
  cases h2 : decide (k = 0) with
  | false => rw [h1, h2] at hq; rw [if_neg (by rw [beq_iff_eq]; exact of_decide_eq_false h2)]; exact hq
  | true =>
   rw [if_pos (by rw [beq_iff_eq]; exact of_decide_eq_true h2)]
   cases h3 : decide (p = []) with
   | false => rw [h1, h2, h3] at hq; rw [if_neg (by rw [beq_iff_eq]; have := of_decide_eq_false h3; intro e; exact this (List.length_eq_zero_iff.1 (by omega)))]; exact hq
   | true =>
    rw [if_pos (by rw [beq_iff_eq, of_decide_eq_true h3]; rfl)]
    rw [h1, h2, h3] at hq
    have : ((t.length : Int) == 0) = decide (t = []) := by
     rw [Bool.eq_iff_iff, beq_iff_eq, decide_eq_true_eq]
     exact ⟨fun e => List.length_eq_zero_iff.1 (by omega), fun e => by rw [e]; rfl⟩
    rw [this]; exact hq
end Go.Proofs.Ytndjggncgpjolaa

namespace Go.Proofs.Ytndjggncgpjolaa
open Go.RowKit
set_option linter.unusedVariables false
set_option linter.unusedSimpArgs false
def impl_ptOk.E (p : Pt) (Q : Bool → Prop) : Prop :=
 impl_within.E p.X (-1000) 1000 (fun r => (if r then impl_within.E p.Y (-1000) 1000 (fun r2 => Q r2) else Q false))
set_option maxHeartbeats 8000000 in
set_option maxRecDepth 100000 in
theorem impl_ptOk.calls {O : Ob} (w0 : World) (hO : Ok w0 O) (p : Pt) (Q : Bool → Prop) (h : impl_ptOk.E p Q) :
  Ret Try.prog 141 [.agg #[vi p.X, vi p.Y]] w0 (fun v w' => ∃ (r0 : Bool), v = vb r0 ∧ Q r0 ∧ Gr w0 w' none) := by
 have H : impl_within.E p.X (-1000) 1000 (fun r => (if r then impl_within.E p.Y (-1000) 1000 (fun r2 => Q r2) else Q false)) := h
 clear h
 have hc0 := Ct.init hO
 refine Ret_enter Try.func141 rfl 11 rfl [.tmp 2] rfl rfl ?_
 refine W_seq ?_
 refine W_reg ?_
 refine L_box [vi p.X, vi p.Y] rfl fun w1 b2 hl4 hu5 g3 hx6 => ?_
 have h8 := Fb.mk hc0.ok hl4 hx6
 have hc9 := hc0.k0 g3
 refine L_pu (P_assign (vb false) rfl) ?_
 refine L_nil ?_
 refine W_seq ?_
 refine W_reg ?_
 refine L_pu (P_fa fa29_0 ⟨b2, 0, none⟩ ⟨b2, 0, none⟩ rfl rfl) ?_
 refine L_pu (P_ld ag3 cL ⟨b2, 0, none⟩ (vi p.X) rfl (h8.cell rfl)) ?_
 refine L_call go112 [vi p.X, vi (-1000), vi 1000] rfl ((impl_within.calls w1 hc9.ok p.X (-1000) 1000 _ H).mono ?_)
 rintro _ w10 ⟨r, rfl, H, g11, _⟩
 have hc15 := hc9.k0 g11
 refine L_pu (P_move (vb r) rfl) ?_
 rcases bool_or r with hq16 | hq16
 ·have H := ite_t H hq16
  refine L_run (dj := 6) rfl rfl (by exact congrArg Value.bool hq16) ?_
  refine L_pu (P_fa fa29_1 ⟨b2, 0, none⟩ ⟨b2, 1, none⟩ rfl rfl) ?_
  refine L_run (dj := 6) rfl rfl (by exact congrArg Value.bool hq16) ?_
  have h17 := (h8.st (.new _ g11))
  refine L_pu (P_ld ag3 cL ⟨b2, 1, none⟩ (vi p.Y) rfl (h17.cell rfl)) ?_
  refine L_run (dj := 6) rfl rfl (by exact congrArg Value.bool hq16) ?_
  refine L_call go112 [vi p.Y, vi (-1000), vi 1000] rfl ((impl_within.calls w10 hc15.ok p.Y (-1000) 1000 _ H).mono ?_)
  rintro _ w18 ⟨r2, rfl, H, g19, _⟩
  have hc23 := hc15.k0 g19
  refine L_pu (P_pick true (vb r2) (by exact congrArg Value.bool hq16) rfl) ?_
  refine L_pu (P_assign (vb r2) rfl) ?_
  refine L_nil ?_
  refine W_ret ?_
  exact ⟨[vb r2], ⟨_, rfl, rfl⟩, r2, rfl, H, hc23.gr.g0⟩
 ·have H := ite_f H hq16
  refine L_pass (dj := 6) rfl rfl (.inl (by exact congrArg Value.bool hq16)) ?_
  refine L_pass (dj := 6) rfl rfl (.inl (by exact congrArg Value.bool hq16)) ?_
  refine L_pass (dj := 6) rfl rfl (.inl (by exact congrArg Value.bool hq16)) ?_
  refine L_pu (P_pick false (vb false) (by exact congrArg Value.bool hq16) rfl) ?_
  refine L_pu (P_assign (vb false) rfl) ?_
  refine L_nil ?_
  refine W_ret ?_
  exact ⟨[vb false], ⟨_, rfl, rfl⟩, false, rfl, H, hc15.gr.g0⟩
end Go.Proofs.Ytndjggncgpjolaa

namespace Go.Proofs.Ytndjggncgpjolaa
set_option linter.unusedVariables false
set_option linter.unusedSimpArgs false
set_option linter.unusedSectionVars false
theorem impl_ptOk.law (p : Pt) (Q : Bool → Prop) (hq : Q (ptOk p)) : impl_ptOk.E p Q := by
 unfold impl_ptOk.E
 unfold ptOk at hq
 refine impl_within.law _ _ _ _ ?_
 change if inR p.X = true then _ else _
 cases h : inR p.X with
 | true => rw [if_pos rfl]; rw [h, Bool.true_and] at hq; exact impl_within.law _ _ _ _ hq
 | false => rw [if_neg (by decide)]; rw [h, Bool.false_and] at hq; exact hq
end Go.Proofs.Ytndjggncgpjolaa

namespace Go.Proofs.Ytndjggncgpjolaa
open Go.RowKit
set_option linter.unusedVariables false
set_option linter.unusedSimpArgs false
def impl_ShapeOk.E (s : Shape) (Q : Bool → Prop) : Prop :=
 (∃ (I31 : Int → Prop) (mu32 : Int → Nat), I31 0 ∧ ∀ (v2 : Int), I31 v2 → (if decide (v2 < (s.Pts.length : Int)) then ((0 : Int) ≤ v2 ∧ v2 < (s.Pts.length : Int)) ∧ (∃ q : Bool, impl_ptOk.E (nth s.Pts v2) (fun x => x = q) ∧ (if !q then Q false else (if decide (v2 > 0) then (I64 (v2 - 1)) ∧ ((0 : Int) ≤ v2 - 1 ∧ v2 - 1 < (s.Pts.length : Int)) ∧ (if eqPt (nth s.Pts (v2 - 1)) (nth s.Pts v2) then Q false else (I64 (v2 + 1)) ∧ I31 (v2 + 1) ∧ mu32 (v2 + 1) < mu32 v2) else (I64 (v2 + 1)) ∧ I31 (v2 + 1) ∧ mu32 (v2 + 1) < mu32 v2))) else (if s.Kind == 1 then Q ((s.Pts.length : Int) == 1) else (if s.Kind == 2 then impl_within.E (s.Pts.length : Int) 2 6 (fun r2 => Q r2) else (if s.Kind == 3 then (if (impl_within.m (s.Pts.length : Int) 3 6) then ((0 : Int) ≤ 0 ∧ 0 < (s.Pts.length : Int)) ∧ ((s.Pts.length : Int) ≤ 9223372036854775807 → I64 ((s.Pts.length : Int) - 1)) ∧ ((0 : Int) ≤ (s.Pts.length : Int) - 1 ∧ (s.Pts.length : Int) - 1 < (s.Pts.length : Int)) ∧ Q (!(eqPt (nth s.Pts 0) (nth s.Pts ((s.Pts.length : Int) - 1)))) else Q false) else Q false)))))
set_option maxHeartbeats 8000000 in
set_option maxRecDepth 100000 in
theorem impl_ShapeOk.calls {O : Ob} (w0 : World) (hO : Ok w0 O) (s : Shape) (A1 : Option Addr) (n2 c3 : Nat) (hp4 : Sl kPt w0 (Fr O) (.slice A1 n2 c3) s.Pts) (Q : Bool → Prop) (h : impl_ShapeOk.E s Q) :
  Ret Try.prog 96 [.agg #[vi s.Kind, .slice A1 n2 c3]] w0 (fun v w' => ∃ (r0 : Bool), v = vb r0 ∧ Q r0 ∧ Gr w0 w' none) := by
 have H : (∃ (I31 : Int → Prop) (mu32 : Int → Nat), I31 0 ∧ ∀ (v2 : Int), I31 v2 → (if decide (v2 < (s.Pts.length : Int)) then ((0 : Int) ≤ v2 ∧ v2 < (s.Pts.length : Int)) ∧ (∃ q : Bool, impl_ptOk.E (nth s.Pts v2) (fun x => x = q) ∧ (if !q then Q false else (if decide (v2 > 0) then (I64 (v2 - 1)) ∧ ((0 : Int) ≤ v2 - 1 ∧ v2 - 1 < (s.Pts.length : Int)) ∧ (if eqPt (nth s.Pts (v2 - 1)) (nth s.Pts v2) then Q false else (I64 (v2 + 1)) ∧ I31 (v2 + 1) ∧ mu32 (v2 + 1) < mu32 v2) else (I64 (v2 + 1)) ∧ I31 (v2 + 1) ∧ mu32 (v2 + 1) < mu32 v2))) else (if s.Kind == 1 then Q ((s.Pts.length : Int) == 1) else (if s.Kind == 2 then impl_within.E (s.Pts.length : Int) 2 6 (fun r2 => Q r2) else (if s.Kind == 3 then (if (impl_within.m (s.Pts.length : Int) 3 6) then ((0 : Int) ≤ 0 ∧ 0 < (s.Pts.length : Int)) ∧ ((s.Pts.length : Int) ≤ 9223372036854775807 → I64 ((s.Pts.length : Int) - 1)) ∧ ((0 : Int) ≤ (s.Pts.length : Int) - 1 ∧ (s.Pts.length : Int) - 1 < (s.Pts.length : Int)) ∧ Q (!(eqPt (nth s.Pts 0) (nth s.Pts ((s.Pts.length : Int) - 1)))) else Q false) else Q false))))) := h
 clear h
 have hc0 := Ct.init hO
 refine Ret_enter Try.func96 rfl 62 rfl [.tmp 2] rfl rfl ?_
 refine W_seq ?_
 refine W_reg ?_
 refine L_box [vi s.Kind, .slice A1 n2 c3] rfl fun w6 b7 hl9 hu10 g8 hx11 => ?_
 have h13 := Fb.mk hc0.ok hl9 hx11
 have hc14 := hc0.k0 g8
 refine L_pu (P_assign (vb false) rfl) ?_
 refine L_nil ?_
 refine W_seq ?_
 refine W_seq ?_
 refine W_reg ?_
 refine L_pu (P_fa fa68_1 ⟨b7, 0, none⟩ ⟨b7, 1, none⟩ rfl rfl) ?_
 refine L_pu (P_ld ag23 cL ⟨b7, 1, none⟩ (.slice A1 n2 c3) rfl (h13.cell rfl)) ?_
 have hl15 := (hp4.st hc14.st).le
 refine L_pu (P_len Try.underlying23 A1 n2 c3 (hp4.st hc14.st).len rfl) ?_
 refine L_pu (P_move (vi 0) rfl) ?_
 refine L_nil ?_
 refine W_block ?_
 obtain ⟨I31, mu32, hI33, H⟩ := H
 refine W_loop (α := Int) (fun (sv__ : Int) t w26 => match sv__ with | v2 => I31 v2 ∧ Has t [(1, .pointer (some ⟨b7, 0, none⟩)), (7, .slice A1 n2 c3), (8, vi (s.Pts.length : Int)), (9, vi v2)] ∧ Ct [] w0 w26 [] O ∧ Sl kPt w26 (Fr ([] ++ O)) (.slice A1 n2 c3) s.Pts ∧ Fb w26 ([] ++ O) b7 [vi s.Kind, .slice A1 n2 c3]) (fun (sv__ : Int) => match sv__ with | v2 => mu32 v2) 0 ⟨hI33, ⟨rfl, rfl, rfl, rfl, trivial⟩, hc14, (hp4.st hc14.st), h13⟩ ?_
 rintro v2 _ w26 ⟨hI33, hh35, hc28, h29, h30⟩
 obtain ⟨u36, rfl⟩ := Has.ins hh35
 have H := H v2 hI33
 refine W_seq ?_
 refine W_reg ?_
 refine L_pu (P_cmp v2 (s.Pts.length : Int) (decide (v2 < (s.Pts.length : Int))) rfl rfl rfl) ?_
 refine L_nil ?_
 refine W_seq ?_
 refine W_cond (decide (v2 < (s.Pts.length : Int))) rfl (fun hq37 => ?_) (fun hq37 => ?_)
 ·have H := ite_t H hq37
  refine W_skip ?_
  refine W_seq ?_
  refine W_block ?_
  refine W_seq ?_
  refine W_reg ?_
  refine L_pu (P_move (vi v2) rfl) ?_
  obtain ⟨hb38, H⟩ := H
  obtain ⟨ad39, cs40, hA41, hS44, hR42, hcl43⟩ := h29.get default (by decide) v2 hb38
  obtain rfl := kPt.op hR42
  refine L_pu (P_ia Try.underlying23 se23 A1 ad39 n2 c3 h29.len v2 rfl hA41 rfl hb38) ?_
  refine L_pu (P_lda ag29 sz29 cL (ad39.add (v2.toNat * 2)) [vi ((nth s.Pts v2).X), vi ((nth s.Pts v2).Y)] rfl rfl hcl43) ?_
  refine L_alloc [.int .i64 0, .int .i64 0] ze29 fun w45 b46 hl48 hu49 g47 hx50 => ?_
  have hc52 := hc28.own g47 (some b46) (oglt hl48 hu49)
  refine L_pu (P_assign (vi v2) rfl) ?_
  refine L_stb b46 0 [vi 0, vi 0] [vi ((nth s.Pts v2).X), vi ((nth s.Pts v2).Y)] [vi ((nth s.Pts v2).X), vi ((nth s.Pts v2).Y)] rfl hx50 rfl sz29 rfl rfl rfl fun w53 g54 hx55 => ?_
  have hc56 := hc52.wr 0 rfl g54
  refine L_nil ?_
  refine W_seq ?_
  refine W_draw (fun x => Gr w53 x none) (by kernel_rfl) (by kernel_rfl) (Gr.drew _) ?_
  refine Q_pu (P_lda ag29 sz29 cQ ⟨b46, 0, none⟩ [vi ((nth s.Pts v2).X), vi ((nth s.Pts v2).Y)] rfl rfl (hx55.cells (off := 0) rfl)) ?_
  obtain ⟨q, hE62, H⟩ := H
  refine Q_call go141 [.agg #[vi ((nth s.Pts v2).X), vi ((nth s.Pts v2).Y)]] rfl (vb q) (fun w g => (impl_ptOk.calls w (hc56.k0 g).ok (nth s.Pts v2) _ hE62).mono ?_) ?_
  ·rintro _ w ⟨r, rfl, rfl, g2⟩
   exact ⟨rfl, Gr.t0 g g2⟩
  refine Q_pu (P_not q rfl) ?_
  refine Q_pu (P_move (vb (!q)) rfl) ?_
  rcases bool_or (!q) with hq64 | hq64
  ·have H := ite_t H hq64
   refine Q_pass (dj := 17) rfl rfl (.inl (by exact congrArg Value.bool hq64)) ?_
   refine Q_pass (dj := 17) rfl rfl (.inl (by exact congrArg Value.bool hq64)) ?_
   refine Q_pass (dj := 17) rfl rfl (.inl (by exact congrArg Value.bool hq64)) ?_
   refine Q_pass (dj := 20) rfl rfl (.inr rfl) ?_
   refine Q_pass (dj := 20) rfl rfl (.inr rfl) ?_
   refine Q_pass (dj := 20) rfl rfl (.inr rfl) ?_
   refine Q_pass (dj := 20) rfl rfl (.inr rfl) ?_
   refine Q_pass (dj := 20) rfl rfl (.inr rfl) ?_
   refine Q_pass (dj := 20) rfl rfl (.inr rfl) ?_
   refine Q_pass (dj := 20) rfl rfl (.inr rfl) ?_
   refine Q_pass (dj := 20) rfl rfl (.inr rfl) ?_
   refine Q_pass (dj := 17) rfl rfl (.inl (by exact congrArg Value.bool hq64)) ?_
   refine Q_pu (P_pick true (vb true) (by exact congrArg Value.bool hq64) rfl) ?_
   refine Q_nil fun w65 g66 => ?_
   have hc68 := hc56.k0 g66
   refine W_ct (b := true) rfl rfl ?_
   refine W_seq ?_
   refine W_reg ?_
   refine L_pu (P_assign (vb false) rfl) ?_
   refine L_nil ?_
   refine W_ret ?_
   have hc69 := hc68.drop 0 rfl
   exact ⟨[vb false], ⟨_, rfl, rfl⟩, false, rfl, H, hc69.gr.g0⟩
  ·have H := ite_f H hq64
   refine Q_run (dj := 17) rfl rfl (by exact congrArg Value.bool hq64) ?_
   refine Q_pu (P_move (vi v2) rfl) ?_
   refine Q_run (dj := 17) rfl rfl (by exact congrArg Value.bool hq64) ?_
   refine Q_pu (P_cmp v2 0 (decide (v2 > 0)) rfl rfl rfl) ?_
   refine Q_run (dj := 17) rfl rfl (by exact congrArg Value.bool hq64) ?_
   refine Q_pu (P_move (vb (decide (v2 > 0))) rfl) ?_
   rcases bool_or (decide (v2 > 0)) with hq70 | hq70
   ·have H := ite_t H hq70
    refine Q_run (dj := 20) rfl rfl (by exact congrArg Value.bool hq70) ?_
    refine Q_pu (P_fa fa68_1 ⟨b7, 0, none⟩ ⟨b7, 1, none⟩ rfl rfl) ?_
    refine Q_run (dj := 20) rfl rfl (by exact congrArg Value.bool hq70) ?_
    have h71 := ((h30.st (.own _ _ g47 (oge hl48))).st (.wl (L := [some b46]) (O := O) (j := 0) rfl g54))
    refine Q_pu (P_ld ag23 cQ ⟨b7, 1, none⟩ (.slice A1 n2 c3) rfl (h71.cell rfl)) ?_
    refine Q_run (dj := 20) rfl rfl (by exact congrArg Value.bool hq70) ?_
    refine Q_pu (P_move (vi v2) rfl) ?_
    refine Q_run (dj := 20) rfl rfl (by exact congrArg Value.bool hq70) ?_
    obtain ⟨hb72, H⟩ := H
    refine Q_pu (P_sub v2 1 rfl rfl hb72) ?_
    refine Q_run (dj := 20) rfl rfl (by exact congrArg Value.bool hq70) ?_
    obtain ⟨hb73, H⟩ := H
    have h80 := ((h29.st (.own _ _ g47 (oge hl48))).st (.wl (L := [some b46]) (O := O) (j := 0) rfl g54))
    obtain ⟨ad74, cs75, hA76, hS79, hR77, hcl78⟩ := h80.get default (by decide) (v2 - 1) hb73
    obtain rfl := kPt.op hR77
    refine Q_pu (P_ia Try.underlying23 se23 A1 ad74 n2 c3 h80.len (v2 - 1) rfl hA76 rfl hb73) ?_
    refine Q_run (dj := 20) rfl rfl (by exact congrArg Value.bool hq70) ?_
    refine Q_pu (P_lda ag29 sz29 cQ (ad74.add ((v2 - 1).toNat * 2)) [vi ((nth s.Pts (v2 - 1)).X), vi ((nth s.Pts (v2 - 1)).Y)] rfl rfl hcl78) ?_
    refine Q_run (dj := 20) rfl rfl (by exact congrArg Value.bool hq70) ?_
    refine Q_pu (P_lda ag29 sz29 cQ ⟨b46, 0, none⟩ [vi ((nth s.Pts v2).X), vi ((nth s.Pts v2).Y)] rfl rfl (hx55.cells (off := 0) rfl)) ?_
    refine Q_run (dj := 20) rfl rfl (by exact congrArg Value.bool hq70) ?_
    refine Q_pu (P_eq _ _ (eqPt (nth s.Pts (v2 - 1)) (nth s.Pts v2)) (qt29 (nth s.Pts (v2 - 1)) (nth s.Pts v2)) rfl rfl) ?_
    refine Q_run (dj := 17) rfl rfl (by exact congrArg Value.bool hq64) ?_
    refine Q_pu (P_pick true (vb (eqPt (nth s.Pts (v2 - 1)) (nth s.Pts v2))) (by exact congrArg Value.bool hq70) rfl) ?_
    refine Q_pu (P_pick false (vb (eqPt (nth s.Pts (v2 - 1)) (nth s.Pts v2))) (by exact congrArg Value.bool hq64) rfl) ?_
    refine Q_nil fun w81 g82 => ?_
    have hc84 := hc56.k0 g82
    refine W_cond (eqPt (nth s.Pts (v2 - 1)) (nth s.Pts v2)) rfl (fun hq85 => ?_) (fun hq85 => ?_)
    ·have H := ite_t H hq85
     refine W_seq ?_
     refine W_reg ?_
     refine L_pu (P_assign (vb false) rfl) ?_
     refine L_nil ?_
     refine W_ret ?_
     have hc86 := hc84.drop 0 rfl
     exact ⟨[vb false], ⟨_, rfl, rfl⟩, false, rfl, H, hc86.gr.g0⟩
    ·have H := ite_f H hq85
     refine W_skip ?_
     refine W_reg ?_
     obtain ⟨hb87, H⟩ := H
     refine L_pu (P_add v2 1 rfl rfl hb87) ?_
     refine L_pu (P_move (vi (v2 + 1)) rfl) ?_
     refine L_nil ?_
     have hc88 := hc84.drop 0 rfl
     obtain ⟨hI89, hm90⟩ := H
     have h91 := ((h80.st (.new _ g82)).st (.dr _ (L := [some b46]) (O := O) (j := 0) rfl))
     have h92 := ((h71.st (.new _ g82)).st (.dr _ (L := [some b46]) (O := O) (j := 0) rfl))
     exact ⟨v2 + 1, hm90, hI89, ⟨rfl, rfl, rfl, rfl, trivial⟩, hc88, h91, h92⟩
   ·have H := ite_f H hq70
    refine Q_pass (dj := 20) rfl rfl (.inl (by exact congrArg Value.bool hq70)) ?_
    refine Q_pass (dj := 20) rfl rfl (.inl (by exact congrArg Value.bool hq70)) ?_
    refine Q_pass (dj := 20) rfl rfl (.inl (by exact congrArg Value.bool hq70)) ?_
    refine Q_pass (dj := 20) rfl rfl (.inl (by exact congrArg Value.bool hq70)) ?_
    refine Q_pass (dj := 20) rfl rfl (.inl (by exact congrArg Value.bool hq70)) ?_
    refine Q_pass (dj := 20) rfl rfl (.inl (by exact congrArg Value.bool hq70)) ?_
    refine Q_pass (dj := 20) rfl rfl (.inl (by exact congrArg Value.bool hq70)) ?_
    refine Q_pass (dj := 20) rfl rfl (.inl (by exact congrArg Value.bool hq70)) ?_
    refine Q_run (dj := 17) rfl rfl (by exact congrArg Value.bool hq64) ?_
    refine Q_pu (P_pick false (vb false) (by exact congrArg Value.bool hq70) rfl) ?_
    refine Q_pu (P_pick false (vb false) (by exact congrArg Value.bool hq64) rfl) ?_
    refine Q_nil fun w93 g94 => ?_
    have hc96 := hc56.k0 g94
    refine W_cf (b := false) rfl rfl ?_
    refine W_skip ?_
    refine W_reg ?_
    obtain ⟨hb97, H⟩ := H
    refine L_pu (P_add v2 1 rfl rfl hb97) ?_
    refine L_pu (P_move (vi (v2 + 1)) rfl) ?_
    refine L_nil ?_
    have hc98 := hc96.drop 0 rfl
    obtain ⟨hI99, hm100⟩ := H
    have h101 := ((((h29.st (.own _ _ g47 (oge hl48))).st (.wl (L := [some b46]) (O := O) (j := 0) rfl g54)).st (.new _ g94)).st (.dr _ (L := [some b46]) (O := O) (j := 0) rfl))
    have h102 := ((((h30.st (.own _ _ g47 (oge hl48))).st (.wl (L := [some b46]) (O := O) (j := 0) rfl g54)).st (.new _ g94)).st (.dr _ (L := [some b46]) (O := O) (j := 0) rfl))
    exact ⟨v2 + 1, hm100, hI99, ⟨rfl, rfl, rfl, rfl, trivial⟩, hc98, h101, h102⟩
 ·have H := ite_f H hq37
  refine W_exit (xin_hit ?_)
  refine W_seq ?_
  refine W_reg ?_
  refine L_pu (P_fa fa68_1 ⟨b7, 0, none⟩ ⟨b7, 1, none⟩ rfl rfl) ?_
  refine L_pu (P_ld ag23 cL ⟨b7, 1, none⟩ (.slice A1 n2 c3) rfl (h30.cell rfl)) ?_
  have hl103 := h29.le
  refine L_pu (P_len Try.underlying23 A1 n2 c3 h29.len rfl) ?_
  refine L_pu (P_assign (vi (s.Pts.length : Int)) rfl) ?_
  refine L_nil ?_
  refine W_seq ?_
  refine W_seq ?_
  refine W_reg ?_
  refine L_pu (P_fa fa68_0 ⟨b7, 0, none⟩ ⟨b7, 0, none⟩ rfl rfl) ?_
  refine L_pu (P_ld ag3 cL ⟨b7, 0, none⟩ (vi s.Kind) rfl (h30.cell rfl)) ?_
  refine L_nil ?_
  refine W_block ?_
  refine W_seq ?_
  refine W_reg ?_
  refine L_pu (P_cmp s.Kind 1 (s.Kind == 1) rfl rfl rfl) ?_
  refine L_pu (P_assign (vb (s.Kind == 1)) rfl) ?_
  refine L_nil ?_
  refine W_cond (s.Kind == 1) rfl (fun hq104 => ?_) (fun hq104 => ?_)
  ·have H := ite_t H hq104
   refine W_seq ?_
   refine W_reg ?_
   refine L_pu (P_move (vi (s.Pts.length : Int)) rfl) ?_
   refine L_pu (P_cmp (s.Pts.length : Int) 1 ((s.Pts.length : Int) == 1) rfl rfl rfl) ?_
   refine L_pu (P_assign (vb ((s.Pts.length : Int) == 1)) rfl) ?_
   refine L_nil ?_
   refine W_ret ?_
   exact ⟨[vb ((s.Pts.length : Int) == 1)], ⟨_, rfl, rfl⟩, (s.Pts.length : Int) == 1, rfl, H, hc28.gr.g0⟩
  ·have H := ite_f H hq104
   refine W_seq ?_
   refine W_reg ?_
   refine L_pu (P_cmp s.Kind 2 (s.Kind == 2) rfl rfl rfl) ?_
   refine L_pu (P_assign (vb (s.Kind == 2)) rfl) ?_
   refine L_nil ?_
   refine W_cond (s.Kind == 2) rfl (fun hq105 => ?_) (fun hq105 => ?_)
   ·have H := ite_t H hq105
    refine W_seq ?_
    refine W_reg ?_
    refine L_pu (P_move (vi (s.Pts.length : Int)) rfl) ?_
    refine L_call go112 [vi (s.Pts.length : Int), vi 2, vi 6] rfl ((impl_within.calls w26 hc28.ok (s.Pts.length : Int) 2 6 _ H).mono ?_)
    rintro _ w106 ⟨r2, rfl, H, g107, _⟩
    have hc111 := hc28.k0 g107
    refine L_pu (P_assign (vb r2) rfl) ?_
    refine L_nil ?_
    refine W_ret ?_
    exact ⟨[vb r2], ⟨_, rfl, rfl⟩, r2, rfl, H, hc111.gr.g0⟩
   ·have H := ite_f H hq105
    refine W_seq ?_
    refine W_reg ?_
    refine L_pu (P_cmp s.Kind 3 (s.Kind == 3) rfl rfl rfl) ?_
    refine L_pu (P_assign (vb (s.Kind == 3)) rfl) ?_
    refine L_nil ?_
    refine W_cond (s.Kind == 3) rfl (fun hq112 => ?_) (fun hq112 => ?_)
    ·have H := ite_t H hq112
     refine W_seq ?_
     refine W_draw (fun x => Gr w26 x none) (by kernel_rfl) (by kernel_rfl) (Gr.drew _) ?_
     refine Q_pu (P_move (vi (s.Pts.length : Int)) rfl) ?_
     refine Q_call go112 [vi (s.Pts.length : Int), vi 3, vi 6] rfl (vb (impl_within.m (s.Pts.length : Int) 3 6)) (fun w g => (impl_within.calls w (hc28.k0 g).ok (s.Pts.length : Int) 3 6 _ (impl_within.fn (s.Pts.length : Int) 3 6)).mono ?_) ?_
     ·rintro _ w ⟨r, rfl, rfl, g2, _⟩
      exact ⟨rfl, Gr.t0 g g2⟩
     refine Q_pu (P_move (vb (impl_within.m (s.Pts.length : Int) 3 6)) rfl) ?_
     rcases bool_or (impl_within.m (s.Pts.length : Int) 3 6) with hq118 | hq118
     ·have H := ite_t H hq118
      refine Q_run (dj := 49) rfl rfl (by exact congrArg Value.bool hq118) ?_
      refine Q_pu (P_fa fa68_1 ⟨b7, 0, none⟩ ⟨b7, 1, none⟩ rfl rfl) ?_
      refine Q_run (dj := 49) rfl rfl (by exact congrArg Value.bool hq118) ?_
      refine Q_pu (P_ld ag23 cQ ⟨b7, 1, none⟩ (.slice A1 n2 c3) rfl (h30.cell rfl)) ?_
      refine Q_run (dj := 49) rfl rfl (by exact congrArg Value.bool hq118) ?_
      obtain ⟨hb119, H⟩ := H
      obtain ⟨ad120, cs121, hA122, hS125, hR123, hcl124⟩ := h29.get default (by decide) 0 hb119
      obtain rfl := kPt.op hR123
      refine Q_pu (P_ia Try.underlying23 se23 A1 ad120 n2 c3 h29.len 0 rfl hA122 rfl hb119) ?_
      refine Q_run (dj := 49) rfl rfl (by exact congrArg Value.bool hq118) ?_
      refine Q_pu (P_lda ag29 sz29 cQ (ad120.add ((0 : Int).toNat * 2)) [vi ((nth s.Pts 0).X), vi ((nth s.Pts 0).Y)] rfl rfl hcl124) ?_
      refine Q_run (dj := 49) rfl rfl (by exact congrArg Value.bool hq118) ?_
      refine Q_pu (P_fa fa68_1 ⟨b7, 0, none⟩ ⟨b7, 1, none⟩ rfl rfl) ?_
      refine Q_run (dj := 49) rfl rfl (by exact congrArg Value.bool hq118) ?_
      refine Q_pu (P_ld ag23 cQ ⟨b7, 1, none⟩ (.slice A1 n2 c3) rfl (h30.cell rfl)) ?_
      refine Q_run (dj := 49) rfl rfl (by exact congrArg Value.bool hq118) ?_
      refine Q_pu (P_move (vi (s.Pts.length : Int)) rfl) ?_
      refine Q_run (dj := 49) rfl rfl (by exact congrArg Value.bool hq118) ?_
      obtain ⟨hb126, H⟩ := H
      have hi127 := hb126 (len_le hl103)
      refine Q_pu (P_sub (s.Pts.length : Int) 1 rfl rfl hi127) ?_
      refine Q_run (dj := 49) rfl rfl (by exact congrArg Value.bool hq118) ?_
      obtain ⟨hb128, H⟩ := H
      obtain ⟨ad129, cs130, hA131, hS134, hR132, hcl133⟩ := h29.get default (by decide) ((s.Pts.length : Int) - 1) hb128
      obtain rfl := kPt.op hR132
      refine Q_pu (P_ia Try.underlying23 se23 A1 ad129 n2 c3 h29.len ((s.Pts.length : Int) - 1) rfl hA131 rfl hb128) ?_
      refine Q_run (dj := 49) rfl rfl (by exact congrArg Value.bool hq118) ?_
      refine Q_pu (P_lda ag29 sz29 cQ (ad129.add (((s.Pts.length : Int) - 1).toNat * 2)) [vi ((nth s.Pts ((s.Pts.length : Int) - 1)).X), vi ((nth s.Pts ((s.Pts.length : Int) - 1)).Y)] rfl rfl hcl133) ?_
      refine Q_run (dj := 49) rfl rfl (by exact congrArg Value.bool hq118) ?_
      refine Q_pu (P_ne _ _ (eqPt (nth s.Pts 0) (nth s.Pts ((s.Pts.length : Int) - 1))) (qt29 (nth s.Pts 0) (nth s.Pts ((s.Pts.length : Int) - 1))) rfl rfl) ?_
      refine Q_pu (P_pick true (vb (!(eqPt (nth s.Pts 0) (nth s.Pts ((s.Pts.length : Int) - 1))))) (by exact congrArg Value.bool hq118) rfl) ?_
      refine Q_pu (P_assign (vb (!(eqPt (nth s.Pts 0) (nth s.Pts ((s.Pts.length : Int) - 1))))) rfl) ?_
      refine Q_nil fun w135 g136 => ?_
      have hc138 := hc28.k0 g136
      refine W_ret ?_
      exact ⟨[vb (!(eqPt (nth s.Pts 0) (nth s.Pts ((s.Pts.length : Int) - 1))))], ⟨_, rfl, rfl⟩, !(eqPt (nth s.Pts 0) (nth s.Pts ((s.Pts.length : Int) - 1))), rfl, H, hc138.gr.g0⟩
     ·have H := ite_f H hq118
      refine Q_pass (dj := 49) rfl rfl (.inl (by exact congrArg Value.bool hq118)) ?_
      refine Q_pass (dj := 49) rfl rfl (.inl (by exact congrArg Value.bool hq118)) ?_
      refine Q_pass (dj := 49) rfl rfl (.inl (by exact congrArg Value.bool hq118)) ?_
      refine Q_pass (dj := 49) rfl rfl (.inl (by exact congrArg Value.bool hq118)) ?_
      refine Q_pass (dj := 49) rfl rfl (.inl (by exact congrArg Value.bool hq118)) ?_
      refine Q_pass (dj := 49) rfl rfl (.inl (by exact congrArg Value.bool hq118)) ?_
      refine Q_pass (dj := 49) rfl rfl (.inl (by exact congrArg Value.bool hq118)) ?_
      refine Q_pass (dj := 49) rfl rfl (.inl (by exact congrArg Value.bool hq118)) ?_
      refine Q_pass (dj := 49) rfl rfl (.inl (by exact congrArg Value.bool hq118)) ?_
      refine Q_pass (dj := 49) rfl rfl (.inl (by exact congrArg Value.bool hq118)) ?_
      refine Q_pass (dj := 49) rfl rfl (.inl (by exact congrArg Value.bool hq118)) ?_
      refine Q_pu (P_pick false (vb false) (by exact congrArg Value.bool hq118) rfl) ?_
      refine Q_pu (P_assign (vb false) rfl) ?_
      refine Q_nil fun w139 g140 => ?_
      have hc142 := hc28.k0 g140
      refine W_ret ?_
      exact ⟨[vb false], ⟨_, rfl, rfl⟩, false, rfl, H, hc142.gr.g0⟩
    ·have H := ite_f H hq112
     refine W_skip ?_
     refine W_seq ?_
     refine W_reg ?_
     refine L_pu (P_assign (vb false) rfl) ?_
     refine L_nil ?_
     refine W_ret ?_
     exact ⟨[vb false], ⟨_, rfl, rfl⟩, false, rfl, H, hc28.gr.g0⟩
end Go.Proofs.Ytndjggncgpjolaa

namespace Go.Proofs.Ytndjggncgpjolaa
set_option linter.unusedVariables false
set_option linter.unusedSimpArgs false
set_option linter.unusedSectionVars false
theorem impl_ShapeOk.law (s : Shape) (Q : Bool → Prop) (hl : s.Pts.length ≤ 1048576) (hq : Q (shapeOk s)) : impl_ShapeOk.E s Q := by
 unfold impl_ShapeOk.E
 unfold shapeOk ptsOk at hq
 refine loop_all s.Pts.length (fun k => ptOk (nth s.Pts (k : Int)) && (decide (k = 0) || !(decide (nth s.Pts ((k : Int) - 1) = nth s.Pts (k : Int))))) (fun I mu k hk hp hn => ?_) (fun ha => ?_)
 ·refine ⟨by omega, _, impl_ptOk.law _ _ rfl, ?_⟩
  have bad : (ptOk (nth s.Pts (k : Int)) && (decide (k = 0) || !(decide (nth s.Pts ((k : Int) - 1) = nth s.Pts (k : Int))))) = false → Q false := fun h => by
   rw [allN_false hk h, Bool.false_and] at hq; exact hq
  cases h1 : ptOk (nth s.Pts (k : Int)) with
  | false => rw [if_pos (by decide)]; exact bad (by rw [h1]; rfl)
  | true =>
   rw [if_neg (by decide)]
   by_cases hk0 : k = 0
   ·rw [if_neg (by rw [decide_eq_true_eq]; omega)]
    obtain ⟨i1, i2⟩ := hn (by rw [h1, decide_eq_true hk0]; rfl)
    exact ⟨by unfold I64; omega, i1, i2⟩
   ·rw [if_pos (by rw [decide_eq_true_eq]; omega)]
    refine ⟨by unfold I64; omega, by omega, ?_⟩
    rw [eqPt_is]
    by_cases he : nth s.Pts ((k : Int) - 1) = nth s.Pts (k : Int)
    ·rw [if_pos (by rw [decide_eq_true_eq]; exact he)]
     exact bad (by rw [h1, decide_eq_false hk0, decide_eq_true he]; rfl)
    ·rw [if_neg (by rw [decide_eq_true_eq]; exact he)]
     obtain ⟨i1, i2⟩ := hn (by simp only [h1, decide_eq_false hk0, decide_eq_false he]; rfl)
     exact ⟨by unfold I64; omega, i1, i2⟩
 ·rw [allN_true ha, Bool.true_and] at hq
  unfold kindOk at hq
  by_cases k1 : s.Kind = 1
  ·rw [if_pos k1] at hq
   rw [if_pos (by rw [beq_iff_eq]; exact k1)]
   have : ((s.Pts.length : Int) == 1) = decide (s.Pts.length = 1) := by rw [Bool.eq_iff_iff, beq_iff_eq, decide_eq_true_eq]; omega
   rw [this]; exact hq
  rw [if_neg k1] at hq
  rw [if_neg (by rw [beq_iff_eq]; exact k1)]
  have e2 : decide ((2 : Int) ≤ (s.Pts.length : Int)) = decide (2 ≤ s.Pts.length) := decide_eq_decide.2 (by omega)
  have e3 : decide ((3 : Int) ≤ (s.Pts.length : Int)) = decide (3 ≤ s.Pts.length) := decide_eq_decide.2 (by omega)
  have e6 : decide ((s.Pts.length : Int) ≤ 6) = decide (s.Pts.length ≤ 6) := decide_eq_decide.2 (by omega)
  by_cases k2 : s.Kind = 2
  ·rw [if_pos k2] at hq
   rw [if_pos (by rw [beq_iff_eq]; exact k2)]
   refine impl_within.law _ _ _ _ ?_
   rw [e2, e6]; exact hq
  rw [if_neg k2] at hq
  rw [if_neg (by rw [beq_iff_eq]; exact k2)]
  by_cases k3 : s.Kind = 3
  ·rw [if_pos k3] at hq
   rw [if_pos (by rw [beq_iff_eq]; exact k3), impl_within.m_is, e3, e6]
   cases hc : decide (3 ≤ s.Pts.length) && decide (s.Pts.length ≤ 6) with
   | true =>
    rw [hc, Bool.true_and] at hq
    rw [Bool.and_eq_true, decide_eq_true_eq, decide_eq_true_eq] at hc
    rw [if_pos rfl, eqPt_is]
    exact ⟨by omega, fun _ => by unfold I64; omega, by omega, hq⟩
   | false =>
    rw [hc, Bool.false_and] at hq
    rw [if_neg (by decide)]; exact hq
  ·rw [if_neg k3] at hq
   rw [if_neg (by rw [beq_iff_eq]; exact k3)]; exact hq
end Go.Proofs.Ytndjggncgpjolaa

namespace Go.Proofs.Ytndjggncgpjolaa
open Go.RowKit
set_option linter.unusedVariables false
set_option linter.unusedSimpArgs false
def impl_FeatOk.E (f : Feat) (Q : Bool → Prop) : Prop :=
 (∃ (I43 : Int → Prop) (mu44 : Int → Nat), I43 0 ∧ ∀ (v2 : Int), I43 v2 → (if decide (v2 < (f.Tags.length : Int)) then ((0 : Int) ≤ v2 ∧ v2 < (f.Tags.length : Int)) ∧ (∃ q : Bool, impl_WordOk.E ((nth f.Tags v2).Key) (fun x => x = q) ∧ (if !q then Q false else (∃ q2 : Bool, impl_WordOk.E ((nth f.Tags v2).Val) (fun x => x = q2) ∧ (if !q2 then Q false else (if decide (v2 > 0) then (I64 (v2 - 1)) ∧ ((0 : Int) ≤ v2 - 1 ∧ v2 - 1 < (f.Tags.length : Int)) ∧ (if !(Op.bytesLess ((nth f.Tags (v2 - 1)).Key) ((nth f.Tags v2).Key)) then Q false else (I64 (v2 + 1)) ∧ I43 (v2 + 1) ∧ mu44 (v2 + 1) < mu44 v2) else (I64 (v2 + 1)) ∧ I43 (v2 + 1) ∧ mu44 (v2 + 1) < mu44 v2))))) else impl_WordOk.E f.Id (fun r3 => (if r3 then impl_ShapeOk.E f.Shape (fun r4 => (if r4 then Q (decide ((f.Tags.length : Int) ≤ 4)) else Q false)) else Q false))))
set_option maxHeartbeats 8000000 in
set_option maxRecDepth 100000 in
theorem impl_FeatOk.calls {O : Ob} (w0 : World) (hO : Ok w0 O) (f : Feat) (A2 : Option Addr) (n3 c4 : Nat) (A7 : Option Addr) (n8 c9 : Nat) (hs1 : Lim f.Id) (hp5 : Sl kPt w0 (Fr O) (.slice A2 n3 c4) f.Shape.Pts) (hp10 : Sl kTag w0 (Fr O) (.slice A7 n8 c9) f.Tags) (Q : Bool → Prop) (h : impl_FeatOk.E f Q) :
  Ret Try.prog 93 [.agg #[vs f.Id, vi f.Shape.Kind, .slice A2 n3 c4, .slice A7 n8 c9]] w0 (fun v w' => ∃ (r0 : Bool), v = vb r0 ∧ Q r0 ∧ Gr w0 w' none) := by
 have H : (∃ (I43 : Int → Prop) (mu44 : Int → Nat), I43 0 ∧ ∀ (v2 : Int), I43 v2 → (if decide (v2 < (f.Tags.length : Int)) then ((0 : Int) ≤ v2 ∧ v2 < (f.Tags.length : Int)) ∧ (∃ q : Bool, impl_WordOk.E ((nth f.Tags v2).Key) (fun x => x = q) ∧ (if !q then Q false else (∃ q2 : Bool, impl_WordOk.E ((nth f.Tags v2).Val) (fun x => x = q2) ∧ (if !q2 then Q false else (if decide (v2 > 0) then (I64 (v2 - 1)) ∧ ((0 : Int) ≤ v2 - 1 ∧ v2 - 1 < (f.Tags.length : Int)) ∧ (if !(Op.bytesLess ((nth f.Tags (v2 - 1)).Key) ((nth f.Tags v2).Key)) then Q false else (I64 (v2 + 1)) ∧ I43 (v2 + 1) ∧ mu44 (v2 + 1) < mu44 v2) else (I64 (v2 + 1)) ∧ I43 (v2 + 1) ∧ mu44 (v2 + 1) < mu44 v2))))) else impl_WordOk.E f.Id (fun r3 => (if r3 then impl_ShapeOk.E f.Shape (fun r4 => (if r4 then Q (decide ((f.Tags.length : Int) ≤ 4)) else Q false)) else Q false)))) := h
 clear h
 have hc0 := Ct.init hO
 refine Ret_enter Try.func93 rfl 54 rfl [.tmp 2] rfl rfl ?_
 refine W_seq ?_
 refine W_reg ?_
 refine L_box [vs f.Id, vi f.Shape.Kind, .slice A2 n3 c4, .slice A7 n8 c9] rfl fun w12 b13 hl15 hu16 g14 hx17 => ?_
 have h19 := Fb.mk hc0.ok hl15 hx17
 have hc20 := hc0.k0 g14
 refine L_pu (P_assign (vb false) rfl) ?_
 refine L_nil ?_
 refine W_seq ?_
 refine W_seq ?_
 refine W_reg ?_
 refine L_pu (P_fa fa71_2 ⟨b13, 0, none⟩ ⟨b13, 3, none⟩ rfl rfl) ?_
 refine L_pu (P_ld ag69 cL ⟨b13, 3, none⟩ (.slice A7 n8 c9) rfl (h19.cell rfl)) ?_
 have hl21 := (hp10.st hc20.st).le
 refine L_pu (P_len Try.underlying69 A7 n8 c9 (hp10.st hc20.st).len rfl) ?_
 refine L_pu (P_move (vi 0) rfl) ?_
 refine L_nil ?_
 refine W_block ?_
 obtain ⟨I43, mu44, hI45, H⟩ := H
 refine W_loop (α := Int) (fun (sv__ : Int) t w36 => match sv__ with | v2 => I43 v2 ∧ Has t [(1, .pointer (some ⟨b13, 0, none⟩)), (6, .slice A7 n8 c9), (7, vi (f.Tags.length : Int)), (8, vi v2)] ∧ Ct [] w0 w36 [] O ∧ Sl kTag w36 (Fr ([] ++ O)) (.slice A7 n8 c9) f.Tags ∧ Sl kPt w36 (Fr ([] ++ O)) (.slice A2 n3 c4) f.Shape.Pts ∧ Fb w36 ([] ++ O) b13 [vs f.Id, vi f.Shape.Kind, .slice A2 n3 c4, .slice A7 n8 c9]) (fun (sv__ : Int) => match sv__ with | v2 => mu44 v2) 0 ⟨hI45, ⟨rfl, rfl, rfl, rfl, trivial⟩, hc20, (hp10.st hc20.st), (hp5.st hc20.st), h19⟩ ?_
 rintro v2 _ w36 ⟨hI45, hh47, hc39, h40, h41, h42⟩
 obtain ⟨u48, rfl⟩ := Has.ins hh47
 have H := H v2 hI45
 refine W_seq ?_
 refine W_reg ?_
 refine L_pu (P_cmp v2 (f.Tags.length : Int) (decide (v2 < (f.Tags.length : Int))) rfl rfl rfl) ?_
 refine L_nil ?_
 refine W_seq ?_
 refine W_cond (decide (v2 < (f.Tags.length : Int))) rfl (fun hq49 => ?_) (fun hq49 => ?_)
 ·have H := ite_t H hq49
  refine W_skip ?_
  refine W_seq ?_
  refine W_block ?_
  refine W_seq ?_
  refine W_reg ?_
  refine L_pu (P_move (vi v2) rfl) ?_
  obtain ⟨hb50, H⟩ := H
  obtain ⟨ad51, cs52, hA53, hS56, hR54, hcl55⟩ := h40.get default (by decide) v2 hb50
  obtain ⟨rfl, hs57, hs58⟩ := kTag.op hR54
  refine L_pu (P_ia Try.underlying69 se69 A7 ad51 n8 c9 h40.len v2 rfl hA53 rfl hb50) ?_
  refine L_pu (P_lda ag133 sz133 cL (ad51.add (v2.toNat * 2)) [vs ((nth f.Tags v2).Key), vs ((nth f.Tags v2).Val)] rfl rfl hcl55) ?_
  refine L_alloc [vs [], vs []] ze133 fun w59 b60 hl62 hu63 g61 hx64 => ?_
  have hc66 := hc39.own g61 (some b60) (oglt hl62 hu63)
  refine L_pu (P_assign (vi v2) rfl) ?_
  refine L_stb b60 0 [vs ([] : Str), vs ([] : Str)] [vs ((nth f.Tags v2).Key), vs ((nth f.Tags v2).Val)] [vs ((nth f.Tags v2).Key), vs ((nth f.Tags v2).Val)] rfl hx64 rfl sz133 rfl rfl rfl fun w67 g68 hx69 => ?_
  have hc70 := hc66.wr 0 rfl g68
  refine L_nil ?_
  refine W_seq ?_
  refine W_draw (fun x => Gr w67 x none) (by kernel_rfl) (by kernel_rfl) (Gr.drew _) ?_
  refine Q_pu (P_fa fa133_0 ⟨b60, 0, none⟩ ⟨b60, 0, none⟩ rfl rfl) ?_
  refine Q_pu (P_ld ag9 cQ ⟨b60, 0, none⟩ (vs ((nth f.Tags v2).Key)) rfl (hx69.cell rfl)) ?_
  obtain ⟨q, hE76, H⟩ := H
  refine Q_call go53 [vs ((nth f.Tags v2).Key)] rfl (vb q) (fun w g => (impl_WordOk.calls w (hc70.k0 g).ok ((nth f.Tags v2).Key) hs57 _ hE76).mono ?_) ?_
  ·rintro _ w ⟨r, rfl, rfl, g2⟩
   exact ⟨rfl, Gr.t0 g g2⟩
  refine Q_pu (P_not q rfl) ?_
  refine Q_pu (P_move (vb (!q)) rfl) ?_
  rcases bool_or (!q) with hq78 | hq78
  ·have H := ite_t H hq78
   refine Q_pass (dj := 17) rfl rfl (.inl (by exact congrArg Value.bool hq78)) ?_
   refine Q_pass (dj := 17) rfl rfl (.inl (by exact congrArg Value.bool hq78)) ?_
   refine Q_pass (dj := 17) rfl rfl (.inl (by exact congrArg Value.bool hq78)) ?_
   refine Q_pass (dj := 17) rfl rfl (.inl (by exact congrArg Value.bool hq78)) ?_
   refine Q_pu (P_pick true (vb true) (by exact congrArg Value.bool hq78) rfl) ?_
   refine Q_pu (P_move (vb true) rfl) ?_
   refine Q_pass (dj := 23) rfl rfl (.inl rfl) ?_
   refine Q_pass (dj := 23) rfl rfl (.inl rfl) ?_
   refine Q_pass (dj := 23) rfl rfl (.inl rfl) ?_
   refine Q_pass (dj := 26) rfl rfl (.inr rfl) ?_
   refine Q_pass (dj := 26) rfl rfl (.inr rfl) ?_
   refine Q_pass (dj := 26) rfl rfl (.inr rfl) ?_
   refine Q_pass (dj := 26) rfl rfl (.inr rfl) ?_
   refine Q_pass (dj := 26) rfl rfl (.inr rfl) ?_
   refine Q_pass (dj := 26) rfl rfl (.inr rfl) ?_
   refine Q_pass (dj := 26) rfl rfl (.inr rfl) ?_
   refine Q_pass (dj := 26) rfl rfl (.inr rfl) ?_
   refine Q_pass (dj := 26) rfl rfl (.inr rfl) ?_
   refine Q_pass (dj := 26) rfl rfl (.inr rfl) ?_
   refine Q_pass (dj := 23) rfl rfl (.inl rfl) ?_
   refine Q_pu (P_pick true (vb true) (by exact congrArg Value.bool rfl) rfl) ?_
   refine Q_nil fun w79 g80 => ?_
   have hc82 := hc70.k0 g80
   refine W_ct (b := true) rfl rfl ?_
   refine W_seq ?_
   refine W_reg ?_
   refine L_pu (P_assign (vb false) rfl) ?_
   refine L_nil ?_
   refine W_ret ?_
   have hc83 := hc82.drop 0 rfl
   exact ⟨[vb false], ⟨_, rfl, rfl⟩, false, rfl, H, hc83.gr.g0⟩
  ·have H := ite_f H hq78
   refine Q_run (dj := 17) rfl rfl (by exact congrArg Value.bool hq78) ?_
   refine Q_pu (P_fa fa133_1 ⟨b60, 0, none⟩ ⟨b60, 1, none⟩ rfl rfl) ?_
   refine Q_run (dj := 17) rfl rfl (by exact congrArg Value.bool hq78) ?_
   refine Q_pu (P_ld ag9 cQ ⟨b60, 1, none⟩ (vs ((nth f.Tags v2).Val)) rfl (hx69.cell rfl)) ?_
   refine Q_run (dj := 17) rfl rfl (by exact congrArg Value.bool hq78) ?_
   obtain ⟨q2, hE89, H⟩ := H
   refine Q_call go53 [vs ((nth f.Tags v2).Val)] rfl (vb q2) (fun w g => (impl_WordOk.calls w (hc70.k0 g).ok ((nth f.Tags v2).Val) hs58 _ hE89).mono ?_) ?_
   ·rintro _ w ⟨r, rfl, rfl, g2⟩
    exact ⟨rfl, Gr.t0 g g2⟩
   refine Q_run (dj := 17) rfl rfl (by exact congrArg Value.bool hq78) ?_
   refine Q_pu (P_not q2 rfl) ?_
   refine Q_pu (P_pick false (vb (!q2)) (by exact congrArg Value.bool hq78) rfl) ?_
   refine Q_pu (P_move (vb (!q2)) rfl) ?_
   rcases bool_or (!q2) with hq91 | hq91
   ·have H := ite_t H hq91
    refine Q_pass (dj := 23) rfl rfl (.inl (by exact congrArg Value.bool hq91)) ?_
    refine Q_pass (dj := 23) rfl rfl (.inl (by exact congrArg Value.bool hq91)) ?_
    refine Q_pass (dj := 23) rfl rfl (.inl (by exact congrArg Value.bool hq91)) ?_
    refine Q_pass (dj := 26) rfl rfl (.inr rfl) ?_
    refine Q_pass (dj := 26) rfl rfl (.inr rfl) ?_
    refine Q_pass (dj := 26) rfl rfl (.inr rfl) ?_
    refine Q_pass (dj := 26) rfl rfl (.inr rfl) ?_
    refine Q_pass (dj := 26) rfl rfl (.inr rfl) ?_
    refine Q_pass (dj := 26) rfl rfl (.inr rfl) ?_
    refine Q_pass (dj := 26) rfl rfl (.inr rfl) ?_
    refine Q_pass (dj := 26) rfl rfl (.inr rfl) ?_
    refine Q_pass (dj := 26) rfl rfl (.inr rfl) ?_
    refine Q_pass (dj := 26) rfl rfl (.inr rfl) ?_
    refine Q_pass (dj := 23) rfl rfl (.inl (by exact congrArg Value.bool hq91)) ?_
    refine Q_pu (P_pick true (vb true) (by exact congrArg Value.bool hq91) rfl) ?_
    refine Q_nil fun w92 g93 => ?_
    have hc95 := hc70.k0 g93
    refine W_ct (b := true) rfl rfl ?_
    refine W_seq ?_
    refine W_reg ?_
    refine L_pu (P_assign (vb false) rfl) ?_
    refine L_nil ?_
    refine W_ret ?_
    have hc96 := hc95.drop 0 rfl
    exact ⟨[vb false], ⟨_, rfl, rfl⟩, false, rfl, H, hc96.gr.g0⟩
   ·have H := ite_f H hq91
    refine Q_run (dj := 23) rfl rfl (by exact congrArg Value.bool hq91) ?_
    refine Q_pu (P_move (vi v2) rfl) ?_
    refine Q_run (dj := 23) rfl rfl (by exact congrArg Value.bool hq91) ?_
    refine Q_pu (P_cmp v2 0 (decide (v2 > 0)) rfl rfl rfl) ?_
    refine Q_run (dj := 23) rfl rfl (by exact congrArg Value.bool hq91) ?_
    refine Q_pu (P_move (vb (decide (v2 > 0))) rfl) ?_
    rcases bool_or (decide (v2 > 0)) with hq97 | hq97
    ·have H := ite_t H hq97
     refine Q_run (dj := 26) rfl rfl (by exact congrArg Value.bool hq97) ?_
     refine Q_pu (P_fa fa71_2 ⟨b13, 0, none⟩ ⟨b13, 3, none⟩ rfl rfl) ?_
     refine Q_run (dj := 26) rfl rfl (by exact congrArg Value.bool hq97) ?_
     have h98 := ((h42.st (.own _ _ g61 (oge hl62))).st (.wl (L := [some b60]) (O := O) (j := 0) rfl g68))
     refine Q_pu (P_ld ag69 cQ ⟨b13, 3, none⟩ (.slice A7 n8 c9) rfl (h98.cell rfl)) ?_
     refine Q_run (dj := 26) rfl rfl (by exact congrArg Value.bool hq97) ?_
     refine Q_pu (P_move (vi v2) rfl) ?_
     refine Q_run (dj := 26) rfl rfl (by exact congrArg Value.bool hq97) ?_
     obtain ⟨hb99, H⟩ := H
     refine Q_pu (P_sub v2 1 rfl rfl hb99) ?_
     refine Q_run (dj := 26) rfl rfl (by exact congrArg Value.bool hq97) ?_
     obtain ⟨hb100, H⟩ := H
     have h107 := ((h40.st (.own _ _ g61 (oge hl62))).st (.wl (L := [some b60]) (O := O) (j := 0) rfl g68))
     obtain ⟨ad101, cs102, hA103, hS106, hR104, hcl105⟩ := h107.get default (by decide) (v2 - 1) hb100
     obtain ⟨rfl, hs108, hs109⟩ := kTag.op hR104
     refine Q_pu (P_ia Try.underlying69 se69 A7 ad101 n8 c9 h107.len (v2 - 1) rfl hA103 rfl hb100) ?_
     refine Q_run (dj := 26) rfl rfl (by exact congrArg Value.bool hq97) ?_
     refine Q_pu (P_fa fa133_0 (ad101.add ((v2 - 1).toNat * 2)) ((ad101.add ((v2 - 1).toNat * 2)).add 0) rfl rfl) ?_
     refine Q_run (dj := 26) rfl rfl (by exact congrArg Value.bool hq97) ?_
     refine Q_pu (P_ld ag9 cQ ((ad101.add ((v2 - 1).toNat * 2)).add 0) (vs ((nth f.Tags (v2 - 1)).Key)) rfl (hcl105 0 _ rfl)) ?_
     refine Q_run (dj := 26) rfl rfl (by exact congrArg Value.bool hq97) ?_
     refine Q_pu (P_fa fa133_0 ⟨b60, 0, none⟩ ⟨b60, 0, none⟩ rfl rfl) ?_
     refine Q_run (dj := 26) rfl rfl (by exact congrArg Value.bool hq97) ?_
     refine Q_pu (P_ld ag9 cQ ⟨b60, 0, none⟩ (vs ((nth f.Tags v2).Key)) rfl (hx69.cell rfl)) ?_
     refine Q_run (dj := 26) rfl rfl (by exact congrArg Value.bool hq97) ?_
     refine Q_pu (P_scmp ((nth f.Tags (v2 - 1)).Key) ((nth f.Tags v2).Key) (!(Op.bytesLess ((nth f.Tags (v2 - 1)).Key) ((nth f.Tags v2).Key))) rfl rfl rfl) ?_
     refine Q_run (dj := 23) rfl rfl (by exact congrArg Value.bool hq91) ?_
     refine Q_pu (P_pick true (vb (!(Op.bytesLess ((nth f.Tags (v2 - 1)).Key) ((nth f.Tags v2).Key)))) (by exact congrArg Value.bool hq97) rfl) ?_
     refine Q_pu (P_pick false (vb (!(Op.bytesLess ((nth f.Tags (v2 - 1)).Key) ((nth f.Tags v2).Key)))) (by exact congrArg Value.bool hq91) rfl) ?_
     refine Q_nil fun w110 g111 => ?_
     have hc113 := hc70.k0 g111
     refine W_cond (!(Op.bytesLess ((nth f.Tags (v2 - 1)).Key) ((nth f.Tags v2).Key))) rfl (fun hq114 => ?_) (fun hq114 => ?_)
     ·have H := ite_t H hq114
      refine W_seq ?_
      refine W_reg ?_
      refine L_pu (P_assign (vb false) rfl) ?_
      refine L_nil ?_
      refine W_ret ?_
      have hc115 := hc113.drop 0 rfl
      exact ⟨[vb false], ⟨_, rfl, rfl⟩, false, rfl, H, hc115.gr.g0⟩
     ·have H := ite_f H hq114
      refine W_skip ?_
      refine W_reg ?_
      obtain ⟨hb116, H⟩ := H
      refine L_pu (P_add v2 1 rfl rfl hb116) ?_
      refine L_pu (P_move (vi (v2 + 1)) rfl) ?_
      refine L_nil ?_
      have hc117 := hc113.drop 0 rfl
      obtain ⟨hI118, hm119⟩ := H
      have h120 := ((h107.st (.new _ g111)).st (.dr _ (L := [some b60]) (O := O) (j := 0) rfl))
      have h121 := ((((h41.st (.own _ _ g61 (oge hl62))).st (.wl (L := [some b60]) (O := O) (j := 0) rfl g68)).st (.new _ g111)).st (.dr _ (L := [some b60]) (O := O) (j := 0) rfl))
      have h122 := ((h98.st (.new _ g111)).st (.dr _ (L := [some b60]) (O := O) (j := 0) rfl))
      exact ⟨v2 + 1, hm119, hI118, ⟨rfl, rfl, rfl, rfl, trivial⟩, hc117, h120, h121, h122⟩
    ·have H := ite_f H hq97
     refine Q_pass (dj := 26) rfl rfl (.inl (by exact congrArg Value.bool hq97)) ?_
     refine Q_pass (dj := 26) rfl rfl (.inl (by exact congrArg Value.bool hq97)) ?_
     refine Q_pass (dj := 26) rfl rfl (.inl (by exact congrArg Value.bool hq97)) ?_
     refine Q_pass (dj := 26) rfl rfl (.inl (by exact congrArg Value.bool hq97)) ?_
     refine Q_pass (dj := 26) rfl rfl (.inl (by exact congrArg Value.bool hq97)) ?_
     refine Q_pass (dj := 26) rfl rfl (.inl (by exact congrArg Value.bool hq97)) ?_
     refine Q_pass (dj := 26) rfl rfl (.inl (by exact congrArg Value.bool hq97)) ?_
     refine Q_pass (dj := 26) rfl rfl (.inl (by exact congrArg Value.bool hq97)) ?_
     refine Q_pass (dj := 26) rfl rfl (.inl (by exact congrArg Value.bool hq97)) ?_
     refine Q_pass (dj := 26) rfl rfl (.inl (by exact congrArg Value.bool hq97)) ?_
     refine Q_run (dj := 23) rfl rfl (by exact congrArg Value.bool hq91) ?_
     refine Q_pu (P_pick false (vb false) (by exact congrArg Value.bool hq97) rfl) ?_
     refine Q_pu (P_pick false (vb false) (by exact congrArg Value.bool hq91) rfl) ?_
     refine Q_nil fun w123 g124 => ?_
     have hc126 := hc70.k0 g124
     refine W_cf (b := false) rfl rfl ?_
     refine W_skip ?_
     refine W_reg ?_
     obtain ⟨hb127, H⟩ := H
     refine L_pu (P_add v2 1 rfl rfl hb127) ?_
     refine L_pu (P_move (vi (v2 + 1)) rfl) ?_
     refine L_nil ?_
     have hc128 := hc126.drop 0 rfl
     obtain ⟨hI129, hm130⟩ := H
     have h131 := ((((h40.st (.own _ _ g61 (oge hl62))).st (.wl (L := [some b60]) (O := O) (j := 0) rfl g68)).st (.new _ g124)).st (.dr _ (L := [some b60]) (O := O) (j := 0) rfl))
     have h132 := ((((h41.st (.own _ _ g61 (oge hl62))).st (.wl (L := [some b60]) (O := O) (j := 0) rfl g68)).st (.new _ g124)).st (.dr _ (L := [some b60]) (O := O) (j := 0) rfl))
     have h133 := ((((h42.st (.own _ _ g61 (oge hl62))).st (.wl (L := [some b60]) (O := O) (j := 0) rfl g68)).st (.new _ g124)).st (.dr _ (L := [some b60]) (O := O) (j := 0) rfl))
     exact ⟨v2 + 1, hm130, hI129, ⟨rfl, rfl, rfl, rfl, trivial⟩, hc128, h131, h132, h133⟩
 ·have H := ite_f H hq49
  refine W_exit (xin_hit ?_)
  refine W_seq ?_
  refine W_reg ?_
  refine L_pu (P_fa fa71_0 ⟨b13, 0, none⟩ ⟨b13, 0, none⟩ rfl rfl) ?_
  refine L_pu (P_ld ag9 cL ⟨b13, 0, none⟩ (vs f.Id) rfl (h42.cell rfl)) ?_
  refine L_call go53 [vs f.Id] rfl ((impl_WordOk.calls w36 hc39.ok f.Id hs1 _ H).mono ?_)
  rintro _ w134 ⟨r3, rfl, H, g135⟩
  have hc139 := hc39.k0 g135
  refine L_pu (P_move (vb r3) rfl) ?_
  rcases bool_or r3 with hq140 | hq140
  ·have H := ite_t H hq140
   refine L_run (dj := 43) rfl rfl (by exact congrArg Value.bool hq140) ?_
   refine L_pu (P_fa fa71_1 ⟨b13, 0, none⟩ ⟨b13, 1, none⟩ rfl rfl) ?_
   refine L_run (dj := 43) rfl rfl (by exact congrArg Value.bool hq140) ?_
   have h141 := (h42.st (.new _ g135))
   refine L_pu (P_lda ag68 sz68 cL ⟨b13, 1, none⟩ [vi f.Shape.Kind, .slice A2 n3 c4] rfl rfl (h141.cells (off := 1) rfl)) ?_
   refine L_run (dj := 43) rfl rfl (by exact congrArg Value.bool hq140) ?_
   refine L_call go96 [.agg #[vi f.Shape.Kind, .slice A2 n3 c4]] rfl ((impl_ShapeOk.calls w134 hc139.ok f.Shape A2 n3 c4 (h41.st (.new _ g135)) _ H).mono ?_)
   rintro _ w142 ⟨r4, rfl, H, g143⟩
   have hc147 := hc139.k0 g143
   refine L_pu (P_pick true (vb r4) (by exact congrArg Value.bool hq140) rfl) ?_
   refine L_pu (P_move (vb r4) rfl) ?_
   rcases bool_or r4 with hq148 | hq148
   ·have H := ite_t H hq148
    refine L_run (dj := 48) rfl rfl (by exact congrArg Value.bool hq148) ?_
    refine L_pu (P_fa fa71_2 ⟨b13, 0, none⟩ ⟨b13, 3, none⟩ rfl rfl) ?_
    refine L_run (dj := 48) rfl rfl (by exact congrArg Value.bool hq148) ?_
    have h149 := (h141.st (.new _ g143))
    refine L_pu (P_ld ag69 cL ⟨b13, 3, none⟩ (.slice A7 n8 c9) rfl (h149.cell rfl)) ?_
    refine L_run (dj := 48) rfl rfl (by exact congrArg Value.bool hq148) ?_
    have h150 := ((h40.st (.new _ g135)).st (.new _ g143))
    have hl151 := h150.le
    refine L_pu (P_len Try.underlying69 A7 n8 c9 h150.len rfl) ?_
    refine L_run (dj := 48) rfl rfl (by exact congrArg Value.bool hq148) ?_
    refine L_pu (P_cmp (f.Tags.length : Int) 4 (decide ((f.Tags.length : Int) ≤ 4)) rfl rfl rfl) ?_
    refine L_pu (P_pick true (vb (decide ((f.Tags.length : Int) ≤ 4))) (by exact congrArg Value.bool hq148) rfl) ?_
    refine L_pu (P_assign (vb (decide ((f.Tags.length : Int) ≤ 4))) rfl) ?_
    refine L_nil ?_
    refine W_ret ?_
    exact ⟨[vb (decide ((f.Tags.length : Int) ≤ 4))], ⟨_, rfl, rfl⟩, decide ((f.Tags.length : Int) ≤ 4), rfl, H, hc147.gr.g0⟩
   ·have H := ite_f H hq148
    refine L_pass (dj := 48) rfl rfl (.inl (by exact congrArg Value.bool hq148)) ?_
    refine L_pass (dj := 48) rfl rfl (.inl (by exact congrArg Value.bool hq148)) ?_
    refine L_pass (dj := 48) rfl rfl (.inl (by exact congrArg Value.bool hq148)) ?_
    refine L_pass (dj := 48) rfl rfl (.inl (by exact congrArg Value.bool hq148)) ?_
    refine L_pu (P_pick false (vb false) (by exact congrArg Value.bool hq148) rfl) ?_
    refine L_pu (P_assign (vb false) rfl) ?_
    refine L_nil ?_
    refine W_ret ?_
    exact ⟨[vb false], ⟨_, rfl, rfl⟩, false, rfl, H, hc147.gr.g0⟩
  ·have H := ite_f H hq140
   refine L_pass (dj := 43) rfl rfl (.inl (by exact congrArg Value.bool hq140)) ?_
   refine L_pass (dj := 43) rfl rfl (.inl (by exact congrArg Value.bool hq140)) ?_
   refine L_pass (dj := 43) rfl rfl (.inl (by exact congrArg Value.bool hq140)) ?_
   refine L_pu (P_pick false (vb false) (by exact congrArg Value.bool hq140) rfl) ?_
   refine L_pu (P_move (vb false) rfl) ?_
   refine L_pass (dj := 48) rfl rfl (.inl rfl) ?_
   refine L_pass (dj := 48) rfl rfl (.inl rfl) ?_
   refine L_pass (dj := 48) rfl rfl (.inl rfl) ?_
   refine L_pass (dj := 48) rfl rfl (.inl rfl) ?_
   refine L_pu (P_pick false (vb false) (by exact congrArg Value.bool rfl) rfl) ?_
   refine L_pu (P_assign (vb false) rfl) ?_
   refine L_nil ?_
   refine W_ret ?_
   exact ⟨[vb false], ⟨_, rfl, rfl⟩, false, rfl, H, hc139.gr.g0⟩
end Go.Proofs.Ytndjggncgpjolaa
