/- It is proved here that the law FnSeqApart of the given program holds whatever it is handed: the walks through the code, the plain laws and the row, in this order.
   Conditions: none. -/
import Derived.Below
import Derived.ChangeArms
import Derived.ChangeOld
import Derived.ChangeSlices
import Derived.DataReads
import Derived.Deep.Quiet
import Derived.KernelRfl
import Derived.Laws.Build
import Derived.Laws.OwnMore
import Derived.Laws.Slices
import Derived.Laws.StructEq
import Derived.OpenShut
import Derived.ProofKit
import Derived.ShutString
import Derived.SizedLaws
import Derived.StillTail
import Derived.Test.YtnliofcjplnboaaProg
import Derived.Test.YtnliofcjplnboaaRows
import Derived.WalkKit
import Derived.Test.YtnliofcjplnboaaCSeqAparta
import Derived.Test.YtnliofcjplnboaaCSeqApartb
import Derived.Test.YtnliofcjplnboaaCSeqApartc
namespace Go.Proofs.Ytnliofcjplnboaa
open Go.RowKit
set_option linter.unusedVariables false
def laws_FnSeqApart.E (code : List UInt8) (Q : Bool → Prop) : Prop :=
  (if decide ((code.length : Int) > 1048576) then Q true else spec_DrawSeqMerge.E code (fun r r2 r3 => (if decide ((r.length : Int) < 1) then Q true else (if decide ((r.length : Int) ≥ 12) then Q true else (([(⟨99, 99⟩ : Pt)] : List Pt).length + r.length ≤ 268435456) ∧ (([] : List Pt).length + r.length ≤ 268435456) ∧ ((([] : List Pt) ++ r).length + ([(⟨98, 98⟩ : Pt)] : List Pt).length ≤ 268435456) ∧ (([(⟨98, 98⟩ : Pt)] : List Pt).length + r.length ≤ 268435456) ∧ impl_SeqMerge.E r (([(⟨99, 99⟩ : Pt)] : List Pt) ++ r) ((([] : List Pt) ++ r) ++ ([(⟨98, 98⟩ : Pt)] : List Pt)) (fun r4 r5 => spec_SeqMerge.E r (([(⟨99, 99⟩ : Pt)] : List Pt) ++ r) ((([] : List Pt) ++ r) ++ ([(⟨98, 98⟩ : Pt)] : List Pt)) (fun r6 r7 => impl_SeqMerge.E r (([(⟨99, 99⟩ : Pt)] : List Pt) ++ r) (([(⟨98, 98⟩ : Pt)] : List Pt) ++ r) (fun r8 r9 => (([(⟨99, 99⟩ : Pt)] : List Pt).length + r.length ≤ 268435456) ∧ ((([(⟨99, 99⟩ : Pt)] : List Pt) ++ r).length + ([(⟨98, 98⟩ : Pt)] : List Pt).length ≤ 268435456) ∧ (if r5 == r7 then (if r5 then laws_wsSame.E r4 r6 (fun r10 => (if r10 then laws_wsSame.E r4 ((([(⟨99, 99⟩ : Pt)] : List Pt) ++ r) ++ ([(⟨98, 98⟩ : Pt)] : List Pt)) (fun r11 => (if r11 then Q (!r9) else Q false)) else Q false)) else Q false) else Q false))))))))
set_option maxHeartbeats 8000000 in
set_option maxRecDepth 100000 in
theorem laws_FnSeqApart.calls {O : Ob} (w0 : World) (hO : Ok w0 O) (code : List UInt8) (A1 : Option Addr) (n2 c3 : Nat) (hp4 : Sl Kd.byte w0 (Fr O) (.slice A1 n2 c3) code) (Q : Bool → Prop) (h : laws_FnSeqApart.E code Q) :
    Ret Try.prog 12 [.slice A1 n2 c3] w0 (fun v w' => ∃ (r0 : Bool), v = vb r0 ∧ Q r0 ∧ Gr w0 w' none) := by
  have H : (if decide ((code.length : Int) > 1048576) then Q true else spec_DrawSeqMerge.E code (fun r r2 r3 => (if decide ((r.length : Int) < 1) then Q true else (if decide ((r.length : Int) ≥ 12) then Q true else (([(⟨99, 99⟩ : Pt)] : List Pt).length + r.length ≤ 268435456) ∧ (([] : List Pt).length + r.length ≤ 268435456) ∧ ((([] : List Pt) ++ r).length + ([(⟨98, 98⟩ : Pt)] : List Pt).length ≤ 268435456) ∧ (([(⟨98, 98⟩ : Pt)] : List Pt).length + r.length ≤ 268435456) ∧ impl_SeqMerge.E r (([(⟨99, 99⟩ : Pt)] : List Pt) ++ r) ((([] : List Pt) ++ r) ++ ([(⟨98, 98⟩ : Pt)] : List Pt)) (fun r4 r5 => spec_SeqMerge.E r (([(⟨99, 99⟩ : Pt)] : List Pt) ++ r) ((([] : List Pt) ++ r) ++ ([(⟨98, 98⟩ : Pt)] : List Pt)) (fun r6 r7 => impl_SeqMerge.E r (([(⟨99, 99⟩ : Pt)] : List Pt) ++ r) (([(⟨98, 98⟩ : Pt)] : List Pt) ++ r) (fun r8 r9 => (([(⟨99, 99⟩ : Pt)] : List Pt).length + r.length ≤ 268435456) ∧ ((([(⟨99, 99⟩ : Pt)] : List Pt) ++ r).length + ([(⟨98, 98⟩ : Pt)] : List Pt).length ≤ 268435456) ∧ (if r5 == r7 then (if r5 then laws_wsSame.E r4 r6 (fun r10 => (if r10 then laws_wsSame.E r4 ((([(⟨99, 99⟩ : Pt)] : List Pt) ++ r) ++ ([(⟨98, 98⟩ : Pt)] : List Pt)) (fun r11 => (if r11 then Q (!r9) else Q false)) else Q false)) else Q false) else Q false)))))))) := h
  clear h
  have hc0 := Ct.init hO
  refine Ret_enter Try.func12 rfl 97 rfl [.tmp 2] rfl rfl ?_
  refine W_seq ?_
  refine W_reg ?_
  refine L_pu (P_assign (vb false) rfl) ?_
  refine L_nil ?_
  refine W_seq ?_
  refine W_seq ?_
  refine W_reg ?_
  refine L_pu (P_move (.slice A1 n2 c3) rfl) ?_
  have hl6 := hp4.le
  refine L_pu (P_len Try.underlying37 A1 n2 c3 hp4.len rfl) ?_
  refine L_pu (P_cmp (code.length : Int) 1048576 (decide ((code.length : Int) > 1048576)) rfl rfl rfl) ?_
  refine L_nil ?_
  refine W_cond (decide ((code.length : Int) > 1048576)) rfl (fun hq7 => ?_) (fun hq7 => ?_)
  · have H := ite_t H hq7
    refine W_seq ?_
    refine W_reg ?_
    refine L_pu (P_assign (vb true) rfl) ?_
    refine L_nil ?_
    refine W_ret ?_
    exact ⟨[vb true], ⟨_, rfl, rfl⟩, true, rfl, H, hc0.gr⟩
  · have H := ite_f H hq7
    refine W_skip ?_
    refine W_seq ?_
    refine W_reg ?_
    refine L_pu (P_move (.slice A1 n2 c3) rfl) ?_
    refine L_call go38 [.slice A1 n2 c3] rfl ((spec_DrawSeqMerge.calls w0 hc0.ok code A1 n2 c3 hp4 _ H).mono ?_)
    rintro _ w8 ⟨r, r2, r3, A10, n11, c12, A14, n15, c16, A19, n20, c21, rfl, H, g9, hk24, hk25, h13, h17, h22⟩
    have hc26 := hc0.owns g9 hk24 hk25
    refine L_pu (P_move (.tuple #[.slice A10 n11 c12, .slice A14 n15 c16, .slice A19 n20 c21]) rfl) ?_
    refine L_pu (P_ext [.slice A10 n11 c12, .slice A14 n15 c16, .slice A19 n20 c21] 0 (.slice A10 n11 c12) rfl rfl) ?_
    refine L_pu (P_ext [.slice A10 n11 c12, .slice A14 n15 c16, .slice A19 n20 c21] 1 (.slice A14 n15 c16) rfl rfl) ?_
    refine L_pu (P_ext [.slice A10 n11 c12, .slice A14 n15 c16, .slice A19 n20 c21] 2 (.slice A19 n20 c21) rfl rfl) ?_
    refine L_pu (P_assign (.slice A10 n11 c12) rfl) ?_
    refine L_pu (P_assign (.slice A14 n15 c16) rfl) ?_
    refine L_pu (P_assign (.slice A19 n20 c21) rfl) ?_
    refine L_nil ?_
    refine W_seq ?_
    refine W_seq ?_
    refine W_reg ?_
    refine L_pu (P_move (.slice A10 n11 c12) rfl) ?_
    have hl29 := h13.le
    refine L_pu (P_len Try.underlying33 A10 n11 c12 h13.len rfl) ?_
    refine L_pu (P_cmp (r.length : Int) 1 (decide ((r.length : Int) < 1)) rfl rfl rfl) ?_
    refine L_pu (P_move (vb (decide ((r.length : Int) < 1))) rfl) ?_
    rcases bool_or (decide ((r.length : Int) < 1)) with hq30 | hq30
    · have H := ite_t H hq30
      refine L_pass (dj := 29) rfl rfl (.inl (by exact congrArg Value.bool hq30)) ?_
      refine L_pass (dj := 29) rfl rfl (.inl (by exact congrArg Value.bool hq30)) ?_
      refine L_pass (dj := 29) rfl rfl (.inl (by exact congrArg Value.bool hq30)) ?_
      refine L_pu (P_pick true (vb true) (by exact congrArg Value.bool hq30) rfl) ?_
      refine L_nil ?_
      refine W_ct (b := true) rfl rfl ?_
      refine W_seq ?_
      refine W_reg ?_
      refine L_pu (P_assign (vb true) rfl) ?_
      refine L_nil ?_
      refine W_ret ?_
      have hc31 := hc26.drop 0 rfl
      exact ⟨[vb true], ⟨_, rfl, rfl⟩, true, rfl, H, hc31.gr⟩
    · have H := ite_f H hq30
      refine L_run (dj := 29) rfl rfl (by exact congrArg Value.bool hq30) ?_
      refine L_pu (P_move (.slice A10 n11 c12) rfl) ?_
      refine L_run (dj := 29) rfl rfl (by exact congrArg Value.bool hq30) ?_
      refine L_pu (P_len Try.underlying33 A10 n11 c12 h13.len rfl) ?_
      refine L_run (dj := 29) rfl rfl (by exact congrArg Value.bool hq30) ?_
      refine L_pu (P_cmp (r.length : Int) 12 (decide ((r.length : Int) ≥ 12)) rfl rfl rfl) ?_
      refine L_pu (P_pick false (vb (decide ((r.length : Int) ≥ 12))) (by exact congrArg Value.bool hq30) rfl) ?_
      refine L_nil ?_
      refine W_cond (decide ((r.length : Int) ≥ 12)) rfl (fun hq32 => ?_) (fun hq32 => ?_)
      · have H := ite_t H hq32
        refine W_seq ?_
        refine W_reg ?_
        refine L_pu (P_assign (vb true) rfl) ?_
        refine L_nil ?_
        refine W_ret ?_
        have hc33 := hc26.drop 0 rfl
        exact ⟨[vb true], ⟨_, rfl, rfl⟩, true, rfl, H, hc33.gr⟩
      · have H := ite_f H hq32
        refine W_skip ?_
        refine W_seq ?_
        refine W_reg ?_
        refine L_pu (P_build (.agg #[vi 99, vi 99]) (fun _ => by kernel_rfl)) ?_
        refine L_alloc [.int .i64 0, .int .i64 0] ze41 fun w34 b35 hl37 hu38 g36 hx39 => ?_
        have hc41 := hc26.own g36 (some b35) (oglt hl37 hu38)
        refine L_stb b35 0 [vi 0, vi 0] [vi 99, vi 99] [vi 99, vi 99] rfl hx39 rfl sz41 rfl rfl rfl fun w42 g43 hx44 => ?_
        have hc45 := hc41.wr 0 rfl g43
        refine L_nil ?_
        refine W_seq ?_
        refine W_reg ?_
        refine L_pu (P_build (.agg #[vi 98, vi 98]) (fun _ => by kernel_rfl)) ?_
        refine L_alloc [.int .i64 0, .int .i64 0] ze41 fun w46 b47 hl49 hu50 g48 hx51 => ?_
        have hc53 := hc45.own g48 (some b47) (oglt hl49 hu50)
        refine L_stb b47 0 [vi 0, vi 0] [vi 98, vi 98] [vi 98, vi 98] rfl hx51 rfl sz41 rfl rfl rfl fun w54 g55 hx56 => ?_
        have hc57 := hc53.wr 0 rfl g55
        refine L_nil ?_
        refine W_seq ?_
        refine W_reg ?_
        have h58 := (Bx.sm (L := [some b47, some b35, blk (.slice A14 n15 c16)]) (O := O) (hx44.k0 g48) hc53 (i := 1) rfl (j := 0) rfl (by decide) g55)
        refine L_pu (P_lda ag41 sz41 cL ⟨b35, 0, none⟩ [vi 99, vi 99] rfl rfl (h58.cells (off := 0) rfl)) ?_
        refine L_lit (kd := kPt) ei33 hc57 ([(⟨99, 99⟩ : Pt)] : List Pt) (cells := [vi 99, vi 99]) ⟨[vi 99, vi 99], _, rfl, (kPt.mk _ _ (⟨99, 99⟩ : Pt)), rfl⟩ (fun _ => by kernel_rfl) fun w59 A60 n61 c62 g63 hr64 hc65 h66 => ?_
        refine L_pu (P_move (.slice A10 n11 c12) rfl) ?_
        have h68 := (((((h13.st (.own _ _ g36 (oge hl37))).st (.wl (L := [some b35, blk (.slice A14 n15 c16)]) (O := O) (j := 0) rfl g43)).st (.own _ _ g48 (oge hl49))).st (.wl (L := [some b47, some b35, blk (.slice A14 n15 c16)]) (O := O) (j := 0) rfl g55)).st (.own _ _ g63 hr64))
        obtain ⟨hb69, H⟩ := H
        refine L_app ei33 hc65 (.slice A60 n61 c62) ([(⟨99, 99⟩ : Pt)] : List Pt) r rfl h66 (.slice A10 n11 c12) rfl h68.sx 0 rfl hb69 fun w70 A71 n72 c73 g74 s75 hc76 h77 => ?_
        refine L_pu (P_assign (.slice A71 n72 c73) rfl) ?_
        refine L_nil ?_
        refine W_seq ?_
        obtain ⟨hb79, H⟩ := H
        obtain ⟨hb80, H⟩ := H
        refine W_join (J := (fun t w2086 => ∃ (A2096 : Option Addr) (n2097 : Nat) (c2098 : Nat), Has t [(3, .slice A10 n11 c12), (6, .pointer (some ⟨b35, 0, none⟩)), (7, .pointer (some ⟨b47, 0, none⟩)), (8, .slice A71 n72 c73), (9, .slice A2096 n2097 c2098)] ∧ Ct none w0 w2086 [blk (.slice A2096 n2097 c2098), blk (.slice A71 n72 c73), some b47, some b35] O ∧ Sl kPt w2086 (Fr ([blk (.slice A2096 n2097 c2098), blk (.slice A71 n72 c73), some b47, some b35] ++ O)) (.slice A10 n11 c12) r ∧ Ow kPt 41 w2086 ([blk (.slice A2096 n2097 c2098), blk (.slice A71 n72 c73), some b47, some b35] ++ O) (.slice A71 n72 c73) (([(⟨99, 99⟩ : Pt)] : List Pt) ++ r) ∧ Ow kPt 41 w2086 ([blk (.slice A2096 n2097 c2098), blk (.slice A71 n72 c73), some b47, some b35] ++ O) (.slice A2096 n2097 c2098) ((([] : List Pt) ++ r) ++ ([(⟨98, 98⟩ : Pt)] : List Pt)) ∧ Bx w2086 b35 [vi 99, vi 99] ∧ Bx w2086 b47 [vi 98, vi 98])) ?_ ?_
        · refine W_mixr 7 (none) (by kernel_rfl) rfl fun w81 g82 hM83 => ?_
          have hc2099 := hc76.k0 g82
          refine M_pu 1 rfl (by kernel_rfl) hM83 (P_move (.slice A10 n11 c12) rfl) ?_
          have h2100 := ((Bx.sm (L := [blk (.slice A60 n61 c62), some b47, some b35, blk (.slice A14 n15 c16)]) (O := O) (hx56.k0 g63) hc65 (i := 1) rfl (j := 0) rfl (by decide) g74).k0 g82)
          refine M_pu 3 rfl (by kernel_rfl) hM83 (P_lda ag41 sz41 cQ ⟨b47, 0, none⟩ [vi 98, vi 98] rfl rfl (h2100.cells (off := 0) rfl)) ?_
          refine M_any2 0 4 (by kernel_rfl) rfl rfl ?_ ?_
          · refine L_lit (kd := kPt) ei33 hc2099 ([] : List Pt) (cells := []) rfl (fun _ => by kernel_rfl) fun w2101 A2102 n2103 c2104 g2105 hr2106 hc2107 h2108 => ?_
            have hM2110 := Gr.tm hM83 g2105
            refine L_nil ⟨hM2110, ?_⟩
            refine M_any2 2 4 (by kernel_rfl) rfl rfl ?_ ?_
            · have h2111 := (((h68.st s75).st (.new _ g82)).st (.own _ _ g2105 hr2106))
              refine L_app ei33 hc2107 (.slice A2102 n2103 c2104) ([] : List Pt) r rfl h2108 (.slice A10 n11 c12) rfl h2111.sx 0 rfl hb79 fun w2112 A2113 n2114 c2115 g2116 s2117 hc2118 h2119 => ?_
              have hM2120 := Gr.tq hM2110 g2116 (hv_new hM83 hr2106)
              have hv2121 := hv_app (L := [blk (.slice A2102 n2103 c2104), blk (.slice A71 n72 c73), some b47, some b35, blk (.slice A14 n15 c16)]) (O := O) (i := 0) hM2110 rfl (hv_new hM83 hr2106) s2117 hc2118
              refine L_nil ⟨hM2120, ?_⟩
              refine M_any1 4 (by kernel_rfl) rfl ?_
              refine L_lit (kd := kPt) ei33 hc2118 ([(⟨98, 98⟩ : Pt)] : List Pt) (cells := [vi 98, vi 98]) ⟨[vi 98, vi 98], _, rfl, (kPt.mk _ _ (⟨98, 98⟩ : Pt)), rfl⟩ (fun _ => by kernel_rfl) fun w2123 A2124 n2125 c2126 g2127 hr2128 hc2129 h2130 => ?_
              have hM2132 := Gr.tm hM2120 g2127
              refine L_nil ⟨hM2132, ?_⟩
              refine M_any1 5 (by kernel_rfl) rfl ?_
              have h2133 := (h2119.so _ g2127 hr2128)
              refine L_app ei33 hc2129 (.slice A2113 n2114 c2115) (([] : List Pt) ++ r) ([(⟨98, 98⟩ : Pt)] : List Pt) rfl h2133 (.slice A2124 n2125 c2126) rfl h2130.sx 1 rfl hb80 fun w2134 A2135 n2136 c2137 g2138 s2139 hc2140 h2141 => ?_
              have hM2142 := Gr.tq hM2132 g2138 hv2121
              have hv2143 := hv_app (L := [blk (.slice A2124 n2125 c2126), blk (.slice A2113 n2114 c2115), blk (.slice A71 n72 c73), some b47, some b35, blk (.slice A14 n15 c16)]) (O := O) (i := 1) hM2132 rfl hv2121 s2139 hc2140
              refine L_nil ⟨hM2142, ?_⟩
              refine M_pu 6 rfl (by kernel_rfl) hM2142 (P_assign (.slice A2135 n2136 c2137) rfl) ?_
              refine M_nil (by kernel_rfl) ?_
              have hc2145 := hc2140.drop 0 rfl
              have hc2146 := hc2145.drop 4 rfl
              have h2147 := (((((h2111.st s2117).st (.own _ _ g2127 hr2128)).st s2139).st (.dr _ (L := [blk (.slice A2124 n2125 c2126), blk (.slice A2135 n2136 c2137), blk (.slice A71 n72 c73), some b47, some b35, blk (.slice A14 n15 c16)]) (O := O) (j := 0) rfl)).st (.dr _ (L := [blk (.slice A2135 n2136 c2137), blk (.slice A71 n72 c73), some b47, some b35, blk (.slice A14 n15 c16)]) (O := O) (j := 4) rfl))
              have h2148 := (Ow.sd (L := [blk (.slice A2135 n2136 c2137), blk (.slice A71 n72 c73), some b47, some b35, blk (.slice A14 n15 c16)]) (O := O) (Ow.sd (L := [blk (.slice A2124 n2125 c2126), blk (.slice A2135 n2136 c2137), blk (.slice A71 n72 c73), some b47, some b35, blk (.slice A14 n15 c16)]) (O := O) (Ow.sm (L := [blk (.slice A2124 n2125 c2126), blk (.slice A2113 n2114 c2115), blk (.slice A71 n72 c73), some b47, some b35, blk (.slice A14 n15 c16)]) (O := O) ((Ow.sm (L := [blk (.slice A2102 n2103 c2104), blk (.slice A71 n72 c73), some b47, some b35, blk (.slice A14 n15 c16)]) (O := O) ((h77.sn g82).so _ g2105 hr2106) hc2107 (i := 1) rfl (j := 0) rfl (by decide) g2116 s2117).so _ g2127 hr2128) hc2129 (i := 2) rfl (j := 1) rfl (by decide) g2138 s2139) (i := 2) rfl (j := 0) rfl (by decide)) (i := 1) rfl (j := 4) rfl (by decide))
              have h2149 := (Ow.sd (L := [blk (.slice A2135 n2136 c2137), blk (.slice A71 n72 c73), some b47, some b35, blk (.slice A14 n15 c16)]) (O := O) (Ow.sd (L := [blk (.slice A2124 n2125 c2126), blk (.slice A2135 n2136 c2137), blk (.slice A71 n72 c73), some b47, some b35, blk (.slice A14 n15 c16)]) (O := O) h2141 (i := 1) rfl (j := 0) rfl (by decide)) (i := 0) rfl (j := 4) rfl (by decide))
              have h2150 := (Bx.sm (L := [blk (.slice A2124 n2125 c2126), blk (.slice A2113 n2114 c2115), blk (.slice A71 n72 c73), some b47, some b35, blk (.slice A14 n15 c16)]) (O := O) ((Bx.sm (L := [blk (.slice A2102 n2103 c2104), blk (.slice A71 n72 c73), some b47, some b35, blk (.slice A14 n15 c16)]) (O := O) (((Bx.sm (L := [blk (.slice A60 n61 c62), some b47, some b35, blk (.slice A14 n15 c16)]) (O := O) (h58.k0 g63) hc65 (i := 2) rfl (j := 0) rfl (by decide) g74).k0 g82).k0 g2105) hc2107 (i := 3) rfl (j := 0) rfl (by decide) g2116).k0 g2127) hc2129 (i := 4) rfl (j := 1) rfl (by decide) g2138)
              have h2151 := (Bx.sm (L := [blk (.slice A2124 n2125 c2126), blk (.slice A2113 n2114 c2115), blk (.slice A71 n72 c73), some b47, some b35, blk (.slice A14 n15 c16)]) (O := O) ((Bx.sm (L := [blk (.slice A2102 n2103 c2104), blk (.slice A71 n72 c73), some b47, some b35, blk (.slice A14 n15 c16)]) (O := O) (h2100.k0 g2105) hc2107 (i := 2) rfl (j := 0) rfl (by decide) g2116).k0 g2127) hc2129 (i := 3) rfl (j := 1) rfl (by decide) g2138)
              exact ⟨A2135, n2136, c2137, ⟨rfl, rfl, rfl, rfl, rfl, trivial⟩, hc2146, h2147, h2148, h2149, h2150, h2151⟩
            · refine L_lit (kd := kPt) ei33 hc2107 ([(⟨98, 98⟩ : Pt)] : List Pt) (cells := [vi 98, vi 98]) ⟨[vi 98, vi 98], _, rfl, (kPt.mk _ _ (⟨98, 98⟩ : Pt)), rfl⟩ (fun _ => by kernel_rfl) fun w2111 A2112 n2113 c2114 g2115 hr2116 hc2117 h2118 => ?_
              have hM2120 := Gr.tm hM2110 g2115
              refine L_nil ⟨hM2120, ?_⟩
              refine M_any1 2 (by kernel_rfl) rfl ?_
              have h2121 := ((((h68.st s75).st (.new _ g82)).st (.own _ _ g2105 hr2106)).st (.own _ _ g2115 hr2116))
              have h2122 := (h2108.so _ g2115 hr2116)
              refine L_app ei33 hc2117 (.slice A2102 n2103 c2104) ([] : List Pt) r rfl h2122 (.slice A10 n11 c12) rfl h2121.sx 1 rfl hb79 fun w2123 A2124 n2125 c2126 g2127 s2128 hc2129 h2130 => ?_
              have hM2131 := Gr.tq hM2120 g2127 (hv_new hM83 hr2106)
              have hv2132 := hv_app (L := [blk (.slice A2112 n2113 c2114), blk (.slice A2102 n2103 c2104), blk (.slice A71 n72 c73), some b47, some b35, blk (.slice A14 n15 c16)]) (O := O) (i := 1) hM2120 rfl (hv_new hM83 hr2106) s2128 hc2129
              refine L_nil ⟨hM2131, ?_⟩
              refine M_any1 5 (by kernel_rfl) rfl ?_
              have h2134 := (Ow.sm (L := [blk (.slice A2112 n2113 c2114), blk (.slice A2102 n2103 c2104), blk (.slice A71 n72 c73), some b47, some b35, blk (.slice A14 n15 c16)]) (O := O) h2118 hc2117 (i := 0) rfl (j := 1) rfl (by decide) g2127 s2128)
              refine L_app ei33 hc2129 (.slice A2124 n2125 c2126) (([] : List Pt) ++ r) ([(⟨98, 98⟩ : Pt)] : List Pt) rfl h2130 (.slice A2112 n2113 c2114) rfl h2134.sx 1 rfl hb80 fun w2135 A2136 n2137 c2138 g2139 s2140 hc2141 h2142 => ?_
              have hM2143 := Gr.tq hM2131 g2139 hv2132
              have hv2144 := hv_app (L := [blk (.slice A2112 n2113 c2114), blk (.slice A2124 n2125 c2126), blk (.slice A71 n72 c73), some b47, some b35, blk (.slice A14 n15 c16)]) (O := O) (i := 1) hM2131 rfl hv2132 s2140 hc2141
              refine L_nil ⟨hM2143, ?_⟩
              refine M_pu 6 rfl (by kernel_rfl) hM2143 (P_assign (.slice A2136 n2137 c2138) rfl) ?_
              refine M_nil (by kernel_rfl) ?_
              have hc2146 := hc2141.drop 0 rfl
              have hc2147 := hc2146.drop 4 rfl
              have h2148 := ((((h2121.st s2128).st s2140).st (.dr _ (L := [blk (.slice A2112 n2113 c2114), blk (.slice A2136 n2137 c2138), blk (.slice A71 n72 c73), some b47, some b35, blk (.slice A14 n15 c16)]) (O := O) (j := 0) rfl)).st (.dr _ (L := [blk (.slice A2136 n2137 c2138), blk (.slice A71 n72 c73), some b47, some b35, blk (.slice A14 n15 c16)]) (O := O) (j := 4) rfl))
              have h2149 := (Ow.sd (L := [blk (.slice A2136 n2137 c2138), blk (.slice A71 n72 c73), some b47, some b35, blk (.slice A14 n15 c16)]) (O := O) (Ow.sd (L := [blk (.slice A2112 n2113 c2114), blk (.slice A2136 n2137 c2138), blk (.slice A71 n72 c73), some b47, some b35, blk (.slice A14 n15 c16)]) (O := O) (Ow.sm (L := [blk (.slice A2112 n2113 c2114), blk (.slice A2124 n2125 c2126), blk (.slice A71 n72 c73), some b47, some b35, blk (.slice A14 n15 c16)]) (O := O) (Ow.sm (L := [blk (.slice A2112 n2113 c2114), blk (.slice A2102 n2103 c2104), blk (.slice A71 n72 c73), some b47, some b35, blk (.slice A14 n15 c16)]) (O := O) (((h77.sn g82).so _ g2105 hr2106).so _ g2115 hr2116) hc2117 (i := 2) rfl (j := 1) rfl (by decide) g2127 s2128) hc2129 (i := 2) rfl (j := 1) rfl (by decide) g2139 s2140) (i := 2) rfl (j := 0) rfl (by decide)) (i := 1) rfl (j := 4) rfl (by decide))
              have h2150 := (Ow.sd (L := [blk (.slice A2136 n2137 c2138), blk (.slice A71 n72 c73), some b47, some b35, blk (.slice A14 n15 c16)]) (O := O) (Ow.sd (L := [blk (.slice A2112 n2113 c2114), blk (.slice A2136 n2137 c2138), blk (.slice A71 n72 c73), some b47, some b35, blk (.slice A14 n15 c16)]) (O := O) h2142 (i := 1) rfl (j := 0) rfl (by decide)) (i := 0) rfl (j := 4) rfl (by decide))
              have h2151 := (Bx.sm (L := [blk (.slice A2112 n2113 c2114), blk (.slice A2124 n2125 c2126), blk (.slice A71 n72 c73), some b47, some b35, blk (.slice A14 n15 c16)]) (O := O) (Bx.sm (L := [blk (.slice A2112 n2113 c2114), blk (.slice A2102 n2103 c2104), blk (.slice A71 n72 c73), some b47, some b35, blk (.slice A14 n15 c16)]) (O := O) ((((Bx.sm (L := [blk (.slice A60 n61 c62), some b47, some b35, blk (.slice A14 n15 c16)]) (O := O) (h58.k0 g63) hc65 (i := 2) rfl (j := 0) rfl (by decide) g74).k0 g82).k0 g2105).k0 g2115) hc2117 (i := 4) rfl (j := 1) rfl (by decide) g2127) hc2129 (i := 4) rfl (j := 1) rfl (by decide) g2139)
              have h2152 := (Bx.sm (L := [blk (.slice A2112 n2113 c2114), blk (.slice A2124 n2125 c2126), blk (.slice A71 n72 c73), some b47, some b35, blk (.slice A14 n15 c16)]) (O := O) (Bx.sm (L := [blk (.slice A2112 n2113 c2114), blk (.slice A2102 n2103 c2104), blk (.slice A71 n72 c73), some b47, some b35, blk (.slice A14 n15 c16)]) (O := O) ((h2100.k0 g2105).k0 g2115) hc2117 (i := 3) rfl (j := 1) rfl (by decide) g2127) hc2129 (i := 3) rfl (j := 1) rfl (by decide) g2139)
              exact ⟨A2136, n2137, c2138, ⟨rfl, rfl, rfl, rfl, rfl, trivial⟩, hc2147, h2148, h2149, h2150, h2151, h2152⟩
          · refine L_lit (kd := kPt) ei33 hc2099 ([(⟨98, 98⟩ : Pt)] : List Pt) (cells := [vi 98, vi 98]) ⟨[vi 98, vi 98], _, rfl, (kPt.mk _ _ (⟨98, 98⟩ : Pt)), rfl⟩ (fun _ => by kernel_rfl) fun w2101 A2102 n2103 c2104 g2105 hr2106 hc2107 h2108 => ?_
            have hM2110 := Gr.tm hM83 g2105
            refine L_nil ⟨hM2110, ?_⟩
            refine M_any1 0 (by kernel_rfl) rfl ?_
            refine L_lit (kd := kPt) ei33 hc2107 ([] : List Pt) (cells := []) rfl (fun _ => by kernel_rfl) fun w2111 A2112 n2113 c2114 g2115 hr2116 hc2117 h2118 => ?_
            have hM2120 := Gr.tm hM2110 g2115
            refine L_nil ⟨hM2120, ?_⟩
            refine M_any1 2 (by kernel_rfl) rfl ?_
            have h2121 := ((((h68.st s75).st (.new _ g82)).st (.own _ _ g2105 hr2106)).st (.own _ _ g2115 hr2116))
            refine L_app ei33 hc2117 (.slice A2112 n2113 c2114) ([] : List Pt) r rfl h2118 (.slice A10 n11 c12) rfl h2121.sx 0 rfl hb79 fun w2122 A2123 n2124 c2125 g2126 s2127 hc2128 h2129 => ?_
            have hM2130 := Gr.tq hM2120 g2126 (hv_new hM2110 hr2116)
            have hv2131 := hv_app (L := [blk (.slice A2112 n2113 c2114), blk (.slice A2102 n2103 c2104), blk (.slice A71 n72 c73), some b47, some b35, blk (.slice A14 n15 c16)]) (O := O) (i := 0) hM2120 rfl (hv_new hM2110 hr2116) s2127 hc2128
            refine L_nil ⟨hM2130, ?_⟩
            refine M_any1 5 (by kernel_rfl) rfl ?_
            have h2133 := (Ow.sm (L := [blk (.slice A2112 n2113 c2114), blk (.slice A2102 n2103 c2104), blk (.slice A71 n72 c73), some b47, some b35, blk (.slice A14 n15 c16)]) (O := O) (h2108.so _ g2115 hr2116) hc2117 (i := 1) rfl (j := 0) rfl (by decide) g2126 s2127)
            refine L_app ei33 hc2128 (.slice A2123 n2124 c2125) (([] : List Pt) ++ r) ([(⟨98, 98⟩ : Pt)] : List Pt) rfl h2129 (.slice A2102 n2103 c2104) rfl h2133.sx 0 rfl hb80 fun w2134 A2135 n2136 c2137 g2138 s2139 hc2140 h2141 => ?_
            have hM2142 := Gr.tq hM2130 g2138 hv2131
            have hv2143 := hv_app (L := [blk (.slice A2123 n2124 c2125), blk (.slice A2102 n2103 c2104), blk (.slice A71 n72 c73), some b47, some b35, blk (.slice A14 n15 c16)]) (O := O) (i := 0) hM2130 rfl hv2131 s2139 hc2140
            refine L_nil ⟨hM2142, ?_⟩
            refine M_pu 6 rfl (by kernel_rfl) hM2142 (P_assign (.slice A2135 n2136 c2137) rfl) ?_
            refine M_nil (by kernel_rfl) ?_
            have hc2145 := hc2140.drop 1 rfl
            have hc2146 := hc2145.drop 4 rfl
            have h2147 := ((((h2121.st s2127).st s2139).st (.dr _ (L := [blk (.slice A2135 n2136 c2137), blk (.slice A2102 n2103 c2104), blk (.slice A71 n72 c73), some b47, some b35, blk (.slice A14 n15 c16)]) (O := O) (j := 1) rfl)).st (.dr _ (L := [blk (.slice A2135 n2136 c2137), blk (.slice A71 n72 c73), some b47, some b35, blk (.slice A14 n15 c16)]) (O := O) (j := 4) rfl))
            have h2148 := (Ow.sd (L := [blk (.slice A2135 n2136 c2137), blk (.slice A71 n72 c73), some b47, some b35, blk (.slice A14 n15 c16)]) (O := O) (Ow.sd (L := [blk (.slice A2135 n2136 c2137), blk (.slice A2102 n2103 c2104), blk (.slice A71 n72 c73), some b47, some b35, blk (.slice A14 n15 c16)]) (O := O) (Ow.sm (L := [blk (.slice A2123 n2124 c2125), blk (.slice A2102 n2103 c2104), blk (.slice A71 n72 c73), some b47, some b35, blk (.slice A14 n15 c16)]) (O := O) (Ow.sm (L := [blk (.slice A2112 n2113 c2114), blk (.slice A2102 n2103 c2104), blk (.slice A71 n72 c73), some b47, some b35, blk (.slice A14 n15 c16)]) (O := O) (((h77.sn g82).so _ g2105 hr2106).so _ g2115 hr2116) hc2117 (i := 2) rfl (j := 0) rfl (by decide) g2126 s2127) hc2128 (i := 2) rfl (j := 0) rfl (by decide) g2138 s2139) (i := 2) rfl (j := 1) rfl (by decide)) (i := 1) rfl (j := 4) rfl (by decide))
            have h2149 := (Ow.sd (L := [blk (.slice A2135 n2136 c2137), blk (.slice A71 n72 c73), some b47, some b35, blk (.slice A14 n15 c16)]) (O := O) (Ow.sd (L := [blk (.slice A2135 n2136 c2137), blk (.slice A2102 n2103 c2104), blk (.slice A71 n72 c73), some b47, some b35, blk (.slice A14 n15 c16)]) (O := O) h2141 (i := 0) rfl (j := 1) rfl (by decide)) (i := 0) rfl (j := 4) rfl (by decide))
            have h2150 := (Bx.sm (L := [blk (.slice A2123 n2124 c2125), blk (.slice A2102 n2103 c2104), blk (.slice A71 n72 c73), some b47, some b35, blk (.slice A14 n15 c16)]) (O := O) (Bx.sm (L := [blk (.slice A2112 n2113 c2114), blk (.slice A2102 n2103 c2104), blk (.slice A71 n72 c73), some b47, some b35, blk (.slice A14 n15 c16)]) (O := O) ((((Bx.sm (L := [blk (.slice A60 n61 c62), some b47, some b35, blk (.slice A14 n15 c16)]) (O := O) (h58.k0 g63) hc65 (i := 2) rfl (j := 0) rfl (by decide) g74).k0 g82).k0 g2105).k0 g2115) hc2117 (i := 4) rfl (j := 0) rfl (by decide) g2126) hc2128 (i := 4) rfl (j := 0) rfl (by decide) g2138)
            have h2151 := (Bx.sm (L := [blk (.slice A2123 n2124 c2125), blk (.slice A2102 n2103 c2104), blk (.slice A71 n72 c73), some b47, some b35, blk (.slice A14 n15 c16)]) (O := O) (Bx.sm (L := [blk (.slice A2112 n2113 c2114), blk (.slice A2102 n2103 c2104), blk (.slice A71 n72 c73), some b47, some b35, blk (.slice A14 n15 c16)]) (O := O) ((h2100.k0 g2105).k0 g2115) hc2117 (i := 3) rfl (j := 0) rfl (by decide) g2126) hc2128 (i := 3) rfl (j := 0) rfl (by decide) g2138)
            exact ⟨A2135, n2136, c2137, ⟨rfl, rfl, rfl, rfl, rfl, trivial⟩, hc2146, h2147, h2148, h2149, h2150, h2151⟩
        · rintro u2154 w2086 ⟨A2096, n2097, c2098, hh2152, hc2090, h2091, h2092, h2093, h2094, h2095⟩
          obtain ⟨u2153, rfl⟩ := Has.ins hh2152
          refine W_seq ?_
          refine W_reg ?_
          refine L_pu (P_lda ag41 sz41 cL ⟨b47, 0, none⟩ [vi 98, vi 98] rfl rfl (h2095.cells (off := 0) rfl)) ?_
          refine L_lit (kd := kPt) ei33 hc2090 ([(⟨98, 98⟩ : Pt)] : List Pt) (cells := [vi 98, vi 98]) ⟨[vi 98, vi 98], _, rfl, (kPt.mk _ _ (⟨98, 98⟩ : Pt)), rfl⟩ (fun _ => by kernel_rfl) fun w2155 A2156 n2157 c2158 g2159 hr2160 hc2161 h2162 => ?_
          refine L_pu (P_move (.slice A10 n11 c12) rfl) ?_
          obtain ⟨hb2164, H⟩ := H
          refine L_app ei33 hc2161 (.slice A2156 n2157 c2158) ([(⟨98, 98⟩ : Pt)] : List Pt) r rfl h2162 (.slice A10 n11 c12) rfl (h2091.st (.own _ _ g2159 hr2160)).sx 0 rfl hb2164 fun w2165 A2166 n2167 c2168 g2169 s2170 hc2171 h2172 => ?_
          refine L_pu (P_assign (.slice A2166 n2167 c2168) rfl) ?_
          refine L_nil ?_
          refine W_seq ?_
          refine W_reg ?_
          refine L_pu (P_move (.slice A10 n11 c12) rfl) ?_
          refine L_pu (P_move (.slice A71 n72 c73) rfl) ?_
          refine L_pu (P_move (.slice A2096 n2097 c2098) rfl) ?_
          have h2174 := (Ow.sm (L := [blk (.slice A2156 n2157 c2158), blk (.slice A2096 n2097 c2098), blk (.slice A71 n72 c73), some b47, some b35]) (O := O) (h2092.so _ g2159 hr2160) hc2161 (i := 2) rfl (j := 0) rfl (by decide) g2169 s2170)
          have h2175 := Ow.gv (L := [blk (.slice A2166 n2167 c2168), blk (.slice A2096 n2097 c2098), blk (.slice A71 n72 c73), some b47, some b35]) (O := O) h2174 hc2171 (i := 2) rfl
          have hc2176 := hc2171.drop 2 rfl
          have h2178 := (Ow.sd (L := [blk (.slice A2166 n2167 c2168), blk (.slice A2096 n2097 c2098), blk (.slice A71 n72 c73), some b47, some b35]) (O := O) (Ow.sm (L := [blk (.slice A2156 n2157 c2158), blk (.slice A2096 n2097 c2098), blk (.slice A71 n72 c73), some b47, some b35]) (O := O) (h2093.so _ g2159 hr2160) hc2161 (i := 1) rfl (j := 0) rfl (by decide) g2169 s2170) (i := 1) rfl (j := 2) rfl (by decide))
          have h2179 := Ow.gv (L := [blk (.slice A2166 n2167 c2168), blk (.slice A2096 n2097 c2098), some b47, some b35]) (O := O) h2178 hc2176 (i := 1) rfl
          have hc2180 := hc2176.drop 1 rfl
          have h2182 := ((((h2091.st (.own _ _ g2159 hr2160)).st s2170).st (.dr _ (L := [blk (.slice A2166 n2167 c2168), blk (.slice A2096 n2097 c2098), blk (.slice A71 n72 c73), some b47, some b35]) (O := O) (j := 2) rfl)).st (.dr _ (L := [blk (.slice A2166 n2167 c2168), blk (.slice A2096 n2097 c2098), some b47, some b35]) (O := O) (j := 1) rfl))
          have h2183 := (h2175.st (.dr _ (L := [blk (.slice A2166 n2167 c2168), blk (.slice A2096 n2097 c2098), some b47, some b35]) (O := O) (j := 1) rfl))
          refine L_call go36 [.slice A10 n11 c12, .slice A71 n72 c73, .slice A2096 n2097 c2098] rfl ((impl_SeqMerge.calls w2165 hc2180.ok r A10 n11 c12 h2182 (([(⟨99, 99⟩ : Pt)] : List Pt) ++ r) A71 n72 c73 h2183 ((([] : List Pt) ++ r) ++ ([(⟨98, 98⟩ : Pt)] : List Pt)) A2096 n2097 c2098 h2179 _ H).mono ?_)
          rintro _ w2184 ⟨r4, r5, A2186, n2187, c2188, rfl, H, g2185, hk2192, hk2193, h2189⟩
          have hk2195 := Ok.unl (L := [blk (.slice A2166 n2167 c2168), blk (.slice A2096 n2097 c2098), blk (.slice A71 n72 c73), some b47, some b35]) (L' := [blk (.slice A2166 n2167 c2168), some b47, some b35]) (O := O) hc2171 g2185 hk2192 hk2193
          have h2196 := Ow.unl (L := [blk (.slice A2166 n2167 c2168), blk (.slice A2096 n2097 c2098), blk (.slice A71 n72 c73), some b47, some b35]) (L' := [blk (.slice A2166 n2167 c2168), some b47, some b35]) (O := O) (fun _ _ _ _ _ _ h => h) (.cons_cons _ (.cons _ (.cons _ (.cons_cons _ (.cons_cons _ (.slnil)))))) h2189
          have hc2194 := hc2171.owns g2185 hk2195 hk2193
          refine L_pu (P_move (.tuple #[.slice A2186 n2187 c2188, vb r5]) rfl) ?_
          refine L_pu (P_ext [.slice A2186 n2187 c2188, vb r5] 0 (.slice A2186 n2187 c2188) rfl rfl) ?_
          refine L_pu (P_ext [.slice A2186 n2187 c2188, vb r5] 1 (vb r5) rfl rfl) ?_
          refine L_pu (P_assign (.slice A2186 n2187 c2188) rfl) ?_
          refine L_pu (P_assign (vb r5) rfl) ?_
          refine L_nil ?_
          refine W_seq ?_
          refine W_reg ?_
          refine L_pu (P_move (.slice A10 n11 c12) rfl) ?_
          refine L_pu (P_move (.slice A71 n72 c73) rfl) ?_
          refine L_pu (P_move (.slice A2096 n2097 c2098) rfl) ?_
          have h2197 := ((Ow.sm (L := [blk (.slice A2156 n2157 c2158), blk (.slice A2096 n2097 c2098), blk (.slice A71 n72 c73), some b47, some b35]) (O := O) (h2092.so _ g2159 hr2160) hc2161 (i := 2) rfl (j := 0) rfl (by decide) g2169 s2170).sos g2185 hk2193)
          have h2198 := Ow.gv (L := [blk (.slice A2186 n2187 c2188), blk (.slice A2166 n2167 c2168), blk (.slice A2096 n2097 c2098), blk (.slice A71 n72 c73), some b47, some b35]) (O := O) h2197 hc2194 (i := 3) rfl
          have hc2199 := hc2194.drop 3 rfl
          have h2201 := (Ow.sd (L := [blk (.slice A2186 n2187 c2188), blk (.slice A2166 n2167 c2168), blk (.slice A2096 n2097 c2098), blk (.slice A71 n72 c73), some b47, some b35]) (O := O) ((Ow.sm (L := [blk (.slice A2156 n2157 c2158), blk (.slice A2096 n2097 c2098), blk (.slice A71 n72 c73), some b47, some b35]) (O := O) (h2093.so _ g2159 hr2160) hc2161 (i := 1) rfl (j := 0) rfl (by decide) g2169 s2170).sos g2185 hk2193) (i := 2) rfl (j := 3) rfl (by decide))
          have h2202 := Ow.gv (L := [blk (.slice A2186 n2187 c2188), blk (.slice A2166 n2167 c2168), blk (.slice A2096 n2097 c2098), some b47, some b35]) (O := O) h2201 hc2199 (i := 2) rfl
          have hc2203 := hc2199.drop 2 rfl
          have h2205 := (((((h2091.st (.own _ _ g2159 hr2160)).st s2170).st (.owns _ g2185 hk2193)).st (.dr _ (L := [blk (.slice A2186 n2187 c2188), blk (.slice A2166 n2167 c2168), blk (.slice A2096 n2097 c2098), blk (.slice A71 n72 c73), some b47, some b35]) (O := O) (j := 3) rfl)).st (.dr _ (L := [blk (.slice A2186 n2187 c2188), blk (.slice A2166 n2167 c2168), blk (.slice A2096 n2097 c2098), some b47, some b35]) (O := O) (j := 2) rfl))
          have h2206 := (h2198.st (.dr _ (L := [blk (.slice A2186 n2187 c2188), blk (.slice A2166 n2167 c2168), blk (.slice A2096 n2097 c2098), some b47, some b35]) (O := O) (j := 2) rfl))
          refine L_call go35 [.slice A10 n11 c12, .slice A71 n72 c73, .slice A2096 n2097 c2098] rfl ((spec_SeqMerge.calls w2184 hc2203.ok r A10 n11 c12 h2205 (([(⟨99, 99⟩ : Pt)] : List Pt) ++ r) A71 n72 c73 h2206 ((([] : List Pt) ++ r) ++ ([(⟨98, 98⟩ : Pt)] : List Pt)) A2096 n2097 c2098 h2202 _ H).mono ?_)
          rintro _ w2207 ⟨r6, r7, A2209, n2210, c2211, rfl, H, g2208, hk2215, hk2216, h2212⟩
          have hk2218 := Ok.unl (L := [blk (.slice A2186 n2187 c2188), blk (.slice A2166 n2167 c2168), blk (.slice A2096 n2097 c2098), blk (.slice A71 n72 c73), some b47, some b35]) (L' := [blk (.slice A2186 n2187 c2188), blk (.slice A2166 n2167 c2168), some b47, some b35]) (O := O) hc2194 g2208 hk2215 hk2216
          have h2219 := Ow.unl (L := [blk (.slice A2186 n2187 c2188), blk (.slice A2166 n2167 c2168), blk (.slice A2096 n2097 c2098), blk (.slice A71 n72 c73), some b47, some b35]) (L' := [blk (.slice A2186 n2187 c2188), blk (.slice A2166 n2167 c2168), some b47, some b35]) (O := O) (fun _ _ _ _ _ _ h => h) (.cons_cons _ (.cons_cons _ (.cons _ (.cons _ (.cons_cons _ (.cons_cons _ (.slnil))))))) h2212
          have hc2217 := hc2194.owns g2208 hk2218 hk2216
          refine L_pu (P_move (.tuple #[.slice A2209 n2210 c2211, vb r7]) rfl) ?_
          refine L_pu (P_ext [.slice A2209 n2210 c2211, vb r7] 0 (.slice A2209 n2210 c2211) rfl rfl) ?_
          refine L_pu (P_ext [.slice A2209 n2210 c2211, vb r7] 1 (vb r7) rfl rfl) ?_
          refine L_pu (P_assign (.slice A2209 n2210 c2211) rfl) ?_
          refine L_pu (P_assign (vb r7) rfl) ?_
          refine L_nil ?_
          refine W_seq ?_
          refine W_reg ?_
          refine L_pu (P_move (.slice A10 n11 c12) rfl) ?_
          refine L_pu (P_move (.slice A71 n72 c73) rfl) ?_
          refine L_pu (P_move (.slice A2166 n2167 c2168) rfl) ?_
          have h2220 := (((Ow.sm (L := [blk (.slice A2156 n2157 c2158), blk (.slice A2096 n2097 c2098), blk (.slice A71 n72 c73), some b47, some b35]) (O := O) (h2092.so _ g2159 hr2160) hc2161 (i := 2) rfl (j := 0) rfl (by decide) g2169 s2170).sos g2185 hk2193).sos g2208 hk2216)
          have h2221 := Ow.gv (L := [blk (.slice A2209 n2210 c2211), blk (.slice A2186 n2187 c2188), blk (.slice A2166 n2167 c2168), blk (.slice A2096 n2097 c2098), blk (.slice A71 n72 c73), some b47, some b35]) (O := O) h2220 hc2217 (i := 4) rfl
          have hc2222 := hc2217.drop 4 rfl
          have h2224 := (Ow.sd (L := [blk (.slice A2209 n2210 c2211), blk (.slice A2186 n2187 c2188), blk (.slice A2166 n2167 c2168), blk (.slice A2096 n2097 c2098), blk (.slice A71 n72 c73), some b47, some b35]) (O := O) ((h2172.sos g2185 hk2193).sos g2208 hk2216) (i := 2) rfl (j := 4) rfl (by decide))
          have h2225 := Ow.gv (L := [blk (.slice A2209 n2210 c2211), blk (.slice A2186 n2187 c2188), blk (.slice A2166 n2167 c2168), blk (.slice A2096 n2097 c2098), some b47, some b35]) (O := O) h2224 hc2222 (i := 2) rfl
          have hc2226 := hc2222.drop 2 rfl
          have h2228 := ((((((h2091.st (.own _ _ g2159 hr2160)).st s2170).st (.owns _ g2185 hk2193)).st (.owns _ g2208 hk2216)).st (.dr _ (L := [blk (.slice A2209 n2210 c2211), blk (.slice A2186 n2187 c2188), blk (.slice A2166 n2167 c2168), blk (.slice A2096 n2097 c2098), blk (.slice A71 n72 c73), some b47, some b35]) (O := O) (j := 4) rfl)).st (.dr _ (L := [blk (.slice A2209 n2210 c2211), blk (.slice A2186 n2187 c2188), blk (.slice A2166 n2167 c2168), blk (.slice A2096 n2097 c2098), some b47, some b35]) (O := O) (j := 2) rfl))
          have h2229 := (h2221.st (.dr _ (L := [blk (.slice A2209 n2210 c2211), blk (.slice A2186 n2187 c2188), blk (.slice A2166 n2167 c2168), blk (.slice A2096 n2097 c2098), some b47, some b35]) (O := O) (j := 2) rfl))
          refine L_call go36 [.slice A10 n11 c12, .slice A71 n72 c73, .slice A2166 n2167 c2168] rfl ((impl_SeqMerge.calls w2207 hc2226.ok r A10 n11 c12 h2228 (([(⟨99, 99⟩ : Pt)] : List Pt) ++ r) A71 n72 c73 h2229 (([(⟨98, 98⟩ : Pt)] : List Pt) ++ r) A2166 n2167 c2168 h2225 _ H).mono ?_)
          rintro _ w2230 ⟨r8, r9, A2232, n2233, c2234, rfl, H, g2231, hk2238, hk2239, h2235⟩
          have hk2241 := Ok.unl (L := [blk (.slice A2209 n2210 c2211), blk (.slice A2186 n2187 c2188), blk (.slice A2166 n2167 c2168), blk (.slice A2096 n2097 c2098), blk (.slice A71 n72 c73), some b47, some b35]) (L' := [blk (.slice A2209 n2210 c2211), blk (.slice A2186 n2187 c2188), blk (.slice A2096 n2097 c2098), some b47, some b35]) (O := O) hc2217 g2231 hk2238 hk2239
          have h2242 := Ow.unl (L := [blk (.slice A2209 n2210 c2211), blk (.slice A2186 n2187 c2188), blk (.slice A2166 n2167 c2168), blk (.slice A2096 n2097 c2098), blk (.slice A71 n72 c73), some b47, some b35]) (L' := [blk (.slice A2209 n2210 c2211), blk (.slice A2186 n2187 c2188), blk (.slice A2096 n2097 c2098), some b47, some b35]) (O := O) (fun _ _ _ _ _ _ h => h) (.cons_cons _ (.cons_cons _ (.cons _ (.cons_cons _ (.cons _ (.cons_cons _ (.cons_cons _ (.slnil)))))))) h2235
          have hc2240 := hc2217.owns g2231 hk2241 hk2239
          refine L_pu (P_move (.tuple #[.slice A2232 n2233 c2234, vb r9]) rfl) ?_
          refine L_pu (P_ext [.slice A2232 n2233 c2234, vb r9] 0 (.slice A2232 n2233 c2234) rfl rfl) ?_
          refine L_pu (P_ext [.slice A2232 n2233 c2234, vb r9] 1 (vb r9) rfl rfl) ?_
          refine L_pu (P_assign (.slice A2232 n2233 c2234) rfl) ?_
          refine L_pu (P_assign (vb r9) rfl) ?_
          refine L_nil ?_
          refine W_seq ?_
          refine W_mixr 27 (none) (by kernel_rfl) rfl fun w2243 g2244 hM2245 => ?_
          have hc2246 := hc2240.k0 g2244
          obtain ⟨hb2247, H⟩ := H
          obtain ⟨hb2248, H⟩ := H
          refine M_pu 0 rfl (by kernel_rfl) hM2245 (P_move (vb r5) rfl) ?_
          refine M_pu 1 rfl (by kernel_rfl) hM2245 (P_move (vb r7) rfl) ?_
          refine M_pu 2 rfl (by kernel_rfl) hM2245 (P_bcmp Try.underlying4 r5 r7 (r5 == r7) rfl rfl rfl) ?_
          refine M_pu 3 rfl (by kernel_rfl) hM2245 (P_move (vb (r5 == r7)) rfl) ?_
          rcases bool_or (r5 == r7) with hq2249 | hq2249
          · have H := ite_t H hq2249
            refine M_pug 4 (dj := 74) rfl (by kernel_rfl) hM2245 rfl rfl (by exact congrArg Value.bool hq2249) (P_move (vb r5) rfl) ?_
            refine M_pu 5 rfl (by kernel_rfl) hM2245 (P_pick true (vb r5) (by exact congrArg Value.bool hq2249) rfl) ?_
            refine M_pu 6 rfl (by kernel_rfl) hM2245 (P_move (vb r5) rfl) ?_
            rcases bool_or r5 with hq2250 | hq2250
            · have H := ite_t H hq2250
              refine M_pug 7 (dj := 77) rfl (by kernel_rfl) hM2245 rfl rfl (by exact congrArg Value.bool hq2250) (P_move (.slice A2186 n2187 c2188) rfl) ?_
              refine M_pug 8 (dj := 77) rfl (by kernel_rfl) hM2245 rfl rfl (by exact congrArg Value.bool hq2250) (P_move (.slice A2209 n2210 c2211) rfl) ?_
              refine M_any1 9 (by kernel_rfl) rfl ?_
              refine L_run (dj := 77) rfl rfl (by exact congrArg Value.bool hq2250) ?_
              have h2251 := (((h2196.sos g2208 hk2216).sos g2231 hk2239).sn g2244)
              have h2252 := Ow.gv (L := [blk (.slice A2232 n2233 c2234), blk (.slice A2209 n2210 c2211), blk (.slice A2186 n2187 c2188), blk (.slice A2166 n2167 c2168), blk (.slice A2096 n2097 c2098), blk (.slice A71 n72 c73), some b47, some b35]) (O := O) h2251 hc2246 (i := 2) rfl
              have hc2253 := hc2246.drop 2 rfl
              have h2256 := (Ow.sd (L := [blk (.slice A2232 n2233 c2234), blk (.slice A2209 n2210 c2211), blk (.slice A2186 n2187 c2188), blk (.slice A2166 n2167 c2168), blk (.slice A2096 n2097 c2098), blk (.slice A71 n72 c73), some b47, some b35]) (O := O) ((h2219.sos g2231 hk2239).sn g2244) (i := 1) rfl (j := 2) rfl (by decide))
              have h2257 := Ow.gv (L := [blk (.slice A2232 n2233 c2234), blk (.slice A2209 n2210 c2211), blk (.slice A2166 n2167 c2168), blk (.slice A2096 n2097 c2098), blk (.slice A71 n72 c73), some b47, some b35]) (O := O) h2256 hc2253 (i := 1) rfl
              have hc2258 := hc2253.drop 1 rfl
              have h2261 := (h2252.st (.dr _ (L := [blk (.slice A2232 n2233 c2234), blk (.slice A2209 n2210 c2211), blk (.slice A2166 n2167 c2168), blk (.slice A2096 n2097 c2098), blk (.slice A71 n72 c73), some b47, some b35]) (O := O) (j := 1) rfl))
              refine L_call go40 [.slice A2186 n2187 c2188, .slice A2209 n2210 c2211] rfl ((laws_wsSame.calls w2243 hc2258.ok r4 A2186 n2187 c2188 h2261 r6 A2209 n2210 c2211 h2257 _ H).mono ?_)
              rintro _ w2262 ⟨r10, rfl, H, g2263⟩
              have hc2267 := hc2246.k0 g2263
              have hM2268 := Gr.tm hM2245 g2263
              refine L_nil ⟨hM2268, ?_⟩
              refine M_pu 10 rfl (by kernel_rfl) hM2268 (P_pick true (vb r10) (by exact congrArg Value.bool hq2250) rfl) ?_
              refine M_pu 11 rfl (by kernel_rfl) hM2268 (P_move (vb r10) rfl) ?_
              rcases bool_or r10 with hq2269 | hq2269
              · have H := ite_t H hq2269
                refine M_pug 12 (dj := 82) rfl (by kernel_rfl) hM2268 rfl rfl (by exact congrArg Value.bool hq2269) (P_move (.slice A2186 n2187 c2188) rfl) ?_
                refine M_pug 15 (dj := 82) rfl (by kernel_rfl) hM2268 rfl rfl (by exact congrArg Value.bool hq2269) (P_move (.slice A10 n11 c12) rfl) ?_
                refine M_any2 13 17 (by kernel_rfl) rfl rfl ?_ ?_
                · refine L_run (dj := 82) rfl rfl (by exact congrArg Value.bool hq2269) ?_
                  have h2270 := ((((((Bx.sm (L := [blk (.slice A2156 n2157 c2158), blk (.slice A2096 n2097 c2098), blk (.slice A71 n72 c73), some b47, some b35]) (O := O) (h2094.k0 g2159) hc2161 (i := 4) rfl (j := 0) rfl (by decide) g2169).k0 g2185).k0 g2208).k0 g2231).k0 g2244).k0 g2263)
                  refine L_pu (P_lda ag41 sz41 cL ⟨b35, 0, none⟩ [vi 99, vi 99] rfl rfl (h2270.cells (off := 0) rfl)) ?_
                  refine L_nil ⟨hM2268, ?_⟩
                  refine M_any2 14 17 (by kernel_rfl) rfl rfl ?_ ?_
                  · refine L_run (dj := 82) rfl rfl (by exact congrArg Value.bool hq2269) ?_
                    refine L_lit (kd := kPt) ei33 hc2267 ([(⟨99, 99⟩ : Pt)] : List Pt) (cells := [vi 99, vi 99]) ⟨[vi 99, vi 99], _, rfl, (kPt.mk _ _ (⟨99, 99⟩ : Pt)), rfl⟩ (fun _ => by kernel_rfl) fun w2271 A2272 n2273 c2274 g2275 hr2276 hc2277 h2278 => ?_
                    have hM2280 := Gr.tm hM2268 g2275
                    refine L_nil ⟨hM2280, ?_⟩
                    refine M_any2 16 17 (by kernel_rfl) rfl rfl ?_ ?_
                    · refine L_run (dj := 82) rfl rfl (by exact congrArg Value.bool hq2269) ?_
                      have h2281 := ((((((((h2091.st (.own _ _ g2159 hr2160)).st s2170).st (.owns _ g2185 hk2193)).st (.owns _ g2208 hk2216)).st (.owns _ g2231 hk2239)).st (.new _ g2244)).st (.new _ g2263)).st (.own _ _ g2275 hr2276))
                      refine L_app ei33 hc2277 (.slice A2272 n2273 c2274) ([(⟨99, 99⟩ : Pt)] : List Pt) r rfl h2278 (.slice A10 n11 c12) rfl h2281.sx 0 rfl hb2247 fun w2282 A2283 n2284 c2285 g2286 s2287 hc2288 h2289 => ?_
                      have hM2290 := Gr.tq hM2280 g2286 (hv_new hM2268 hr2276)
                      have hv2291 := hv_app (L := [blk (.slice A2272 n2273 c2274), blk (.slice A2232 n2233 c2234), blk (.slice A2209 n2210 c2211), blk (.slice A2186 n2187 c2188), blk (.slice A2166 n2167 c2168), blk (.slice A2096 n2097 c2098), blk (.slice A71 n72 c73), some b47, some b35]) (O := O) (i := 0) hM2280 rfl (hv_new hM2268 hr2276) s2287 hc2288
                      refine L_nil ⟨hM2290, ?_⟩
                      refine M_any1 17 (by kernel_rfl) rfl ?_
                      refine L_run (dj := 82) rfl rfl (by exact congrArg Value.bool hq2269) ?_
                      have h2293 := (Bx.sm (L := [blk (.slice A2272 n2273 c2274), blk (.slice A2232 n2233 c2234), blk (.slice A2209 n2210 c2211), blk (.slice A2186 n2187 c2188), blk (.slice A2166 n2167 c2168), blk (.slice A2096 n2097 c2098), blk (.slice A71 n72 c73), some b47, some b35]) (O := O) (((((((Bx.sm (L := [blk (.slice A2156 n2157 c2158), blk (.slice A2096 n2097 c2098), blk (.slice A71 n72 c73), some b47, some b35]) (O := O) (h2095.k0 g2159) hc2161 (i := 3) rfl (j := 0) rfl (by decide) g2169).k0 g2185).k0 g2208).k0 g2231).k0 g2244).k0 g2263).k0 g2275) hc2277 (i := 7) rfl (j := 0) rfl (by decide) g2286)
                      refine L_pu (P_lda ag41 sz41 cL ⟨b47, 0, none⟩ [vi 98, vi 98] rfl rfl (h2293.cells (off := 0) rfl)) ?_
                      refine L_nil ⟨hM2290, ?_⟩
                      refine M_any1 18 (by kernel_rfl) rfl ?_
                      refine L_run (dj := 82) rfl rfl (by exact congrArg Value.bool hq2269) ?_
                      refine L_lit (kd := kPt) ei33 hc2288 ([(⟨98, 98⟩ : Pt)] : List Pt) (cells := [vi 98, vi 98]) ⟨[vi 98, vi 98], _, rfl, (kPt.mk _ _ (⟨98, 98⟩ : Pt)), rfl⟩ (fun _ => by kernel_rfl) fun w2294 A2295 n2296 c2297 g2298 hr2299 hc2300 h2301 => ?_
                      have hM2303 := Gr.tm hM2290 g2298
                      refine L_nil ⟨hM2303, ?_⟩
                      refine M_any1 19 (by kernel_rfl) rfl ?_
                      refine L_run (dj := 82) rfl rfl (by exact congrArg Value.bool hq2269) ?_
                      have h2304 := (h2289.so _ g2298 hr2299)
                      refine L_app ei33 hc2300 (.slice A2283 n2284 c2285) (([(⟨99, 99⟩ : Pt)] : List Pt) ++ r) ([(⟨98, 98⟩ : Pt)] : List Pt) rfl h2304 (.slice A2295 n2296 c2297) rfl h2301.sx 1 rfl hb2248 fun w2305 A2306 n2307 c2308 g2309 s2310 hc2311 h2312 => ?_
                      have hM2313 := Gr.tq hM2303 g2309 hv2291
                      have hv2314 := hv_app (L := [blk (.slice A2295 n2296 c2297), blk (.slice A2283 n2284 c2285), blk (.slice A2232 n2233 c2234), blk (.slice A2209 n2210 c2211), blk (.slice A2186 n2187 c2188), blk (.slice A2166 n2167 c2168), blk (.slice A2096 n2097 c2098), blk (.slice A71 n72 c73), some b47, some b35]) (O := O) (i := 1) hM2303 rfl hv2291 s2310 hc2311
                      refine L_nil ⟨hM2313, ?_⟩
                      refine M_any1 20 (by kernel_rfl) rfl ?_
                      refine L_run (dj := 82) rfl rfl (by exact congrArg Value.bool hq2269) ?_
                      have h2316 := (Ow.sm (L := [blk (.slice A2295 n2296 c2297), blk (.slice A2283 n2284 c2285), blk (.slice A2232 n2233 c2234), blk (.slice A2209 n2210 c2211), blk (.slice A2186 n2187 c2188), blk (.slice A2166 n2167 c2168), blk (.slice A2096 n2097 c2098), blk (.slice A71 n72 c73), some b47, some b35]) (O := O) ((Ow.sm (L := [blk (.slice A2272 n2273 c2274), blk (.slice A2232 n2233 c2234), blk (.slice A2209 n2210 c2211), blk (.slice A2186 n2187 c2188), blk (.slice A2166 n2167 c2168), blk (.slice A2096 n2097 c2098), blk (.slice A71 n72 c73), some b47, some b35]) (O := O) (((((h2196.sos g2208 hk2216).sos g2231 hk2239).sn g2244).sn g2263).so _ g2275 hr2276) hc2277 (i := 3) rfl (j := 0) rfl (by decide) g2286 s2287).so _ g2298 hr2299) hc2300 (i := 4) rfl (j := 1) rfl (by decide) g2309 s2310)
                      have h2317 := Ow.gv (L := [blk (.slice A2295 n2296 c2297), blk (.slice A2306 n2307 c2308), blk (.slice A2232 n2233 c2234), blk (.slice A2209 n2210 c2211), blk (.slice A2186 n2187 c2188), blk (.slice A2166 n2167 c2168), blk (.slice A2096 n2097 c2098), blk (.slice A71 n72 c73), some b47, some b35]) (O := O) h2316 hc2311 (i := 4) rfl
                      have hc2318 := hc2311.drop 4 rfl
                      have h2321 := (Ow.sd (L := [blk (.slice A2295 n2296 c2297), blk (.slice A2306 n2307 c2308), blk (.slice A2232 n2233 c2234), blk (.slice A2209 n2210 c2211), blk (.slice A2186 n2187 c2188), blk (.slice A2166 n2167 c2168), blk (.slice A2096 n2097 c2098), blk (.slice A71 n72 c73), some b47, some b35]) (O := O) h2312 (i := 1) rfl (j := 4) rfl (by decide))
                      have h2322 := Ow.gv (L := [blk (.slice A2295 n2296 c2297), blk (.slice A2306 n2307 c2308), blk (.slice A2232 n2233 c2234), blk (.slice A2209 n2210 c2211), blk (.slice A2166 n2167 c2168), blk (.slice A2096 n2097 c2098), blk (.slice A71 n72 c73), some b47, some b35]) (O := O) h2321 hc2318 (i := 1) rfl
                      have hc2323 := hc2318.drop 1 rfl
                      have h2326 := (h2317.st (.dr _ (L := [blk (.slice A2295 n2296 c2297), blk (.slice A2306 n2307 c2308), blk (.slice A2232 n2233 c2234), blk (.slice A2209 n2210 c2211), blk (.slice A2166 n2167 c2168), blk (.slice A2096 n2097 c2098), blk (.slice A71 n72 c73), some b47, some b35]) (O := O) (j := 1) rfl))
                      refine L_call go40 [.slice A2186 n2187 c2188, .slice A2306 n2307 c2308] rfl ((laws_wsSame.calls w2305 hc2323.ok r4 A2186 n2187 c2188 h2326 ((([(⟨99, 99⟩ : Pt)] : List Pt) ++ r) ++ ([(⟨98, 98⟩ : Pt)] : List Pt)) A2306 n2307 c2308 h2322 _ H).mono ?_)
                      rintro _ w2327 ⟨r11, rfl, H, g2328⟩
                      have hc2332 := hc2311.k0 g2328
                      have hM2333 := Gr.tm hM2313 g2328
                      refine L_nil ⟨hM2333, ?_⟩
                      refine M_pu 21 rfl (by kernel_rfl) hM2333 (P_pick true (vb r11) (by exact congrArg Value.bool hq2269) rfl) ?_
                      refine M_pu 22 rfl (by kernel_rfl) hM2333 (P_move (vb r11) rfl) ?_
                      rcases bool_or r11 with hq2334 | hq2334
                      · have H := ite_t H hq2334
                        refine M_pug 23 (dj := 93) rfl (by kernel_rfl) hM2333 rfl rfl (by exact congrArg Value.bool hq2334) (P_move (vb r9) rfl) ?_
                        refine M_pug 24 (dj := 93) rfl (by kernel_rfl) hM2333 rfl rfl (by exact congrArg Value.bool hq2334) (P_not r9 rfl) ?_
                        refine M_pu 25 rfl (by kernel_rfl) hM2333 (P_pick true (vb (!r9)) (by exact congrArg Value.bool hq2334) rfl) ?_
                        refine M_pu 26 rfl (by kernel_rfl) hM2333 (P_assign (vb (!r9)) rfl) ?_
                        refine M_nil (by kernel_rfl) ?_
                        refine W_ret ?_
                        have hc2335 := hc2332.drop 0 rfl
                        have hc2336 := hc2335.drop 0 rfl
                        have hc2337 := hc2336.drop 0 rfl
                        have hc2338 := hc2337.drop 0 rfl
                        have hc2339 := hc2338.drop 0 rfl
                        have hc2340 := hc2339.drop 0 rfl
                        have hc2341 := hc2340.drop 0 rfl
                        have hc2342 := hc2341.drop 0 rfl
                        have hc2343 := hc2342.drop 0 rfl
                        have hc2344 := hc2343.drop 0 rfl
                        exact ⟨[vb (!r9)], ⟨_, rfl, rfl⟩, !r9, rfl, H, hc2344.gr⟩
                      · have H := ite_f H hq2334
                        refine M_pass 23 (dj := 93) rfl (by kernel_rfl) hM2333 rfl rfl (.inl (by exact congrArg Value.bool hq2334)) ?_
                        refine M_pass 24 (dj := 93) rfl (by kernel_rfl) hM2333 rfl rfl (.inl (by exact congrArg Value.bool hq2334)) ?_
                        refine M_pu 25 rfl (by kernel_rfl) hM2333 (P_pick false (vb false) (by exact congrArg Value.bool hq2334) rfl) ?_
                        refine M_pu 26 rfl (by kernel_rfl) hM2333 (P_assign (vb false) rfl) ?_
                        refine M_nil (by kernel_rfl) ?_
                        refine W_ret ?_
                        have hc2345 := hc2332.drop 0 rfl
                        have hc2346 := hc2345.drop 0 rfl
                        have hc2347 := hc2346.drop 0 rfl
                        have hc2348 := hc2347.drop 0 rfl
                        have hc2349 := hc2348.drop 0 rfl
                        have hc2350 := hc2349.drop 0 rfl
                        have hc2351 := hc2350.drop 0 rfl
                        have hc2352 := hc2351.drop 0 rfl
                        have hc2353 := hc2352.drop 0 rfl
                        have hc2354 := hc2353.drop 0 rfl
                        exact ⟨[vb false], ⟨_, rfl, rfl⟩, false, rfl, H, hc2354.gr⟩
                    · refine L_run (dj := 82) rfl rfl (by exact congrArg Value.bool hq2269) ?_
                      have h2281 := (((((((Bx.sm (L := [blk (.slice A2156 n2157 c2158), blk (.slice A2096 n2097 c2098), blk (.slice A71 n72 c73), some b47, some b35]) (O := O) (h2095.k0 g2159) hc2161 (i := 3) rfl (j := 0) rfl (by decide) g2169).k0 g2185).k0 g2208).k0 g2231).k0 g2244).k0 g2263).k0 g2275)
                      refine L_pu (P_lda ag41 sz41 cL ⟨b47, 0, none⟩ [vi 98, vi 98] rfl rfl (h2281.cells (off := 0) rfl)) ?_
                      refine L_nil ⟨hM2280, ?_⟩
                      refine M_any2 16 18 (by kernel_rfl) rfl rfl ?_ ?_
                      · refine L_run (dj := 82) rfl rfl (by exact congrArg Value.bool hq2269) ?_
                        have h2282 := ((((((((h2091.st (.own _ _ g2159 hr2160)).st s2170).st (.owns _ g2185 hk2193)).st (.owns _ g2208 hk2216)).st (.owns _ g2231 hk2239)).st (.new _ g2244)).st (.new _ g2263)).st (.own _ _ g2275 hr2276))
                        refine L_app ei33 hc2277 (.slice A2272 n2273 c2274) ([(⟨99, 99⟩ : Pt)] : List Pt) r rfl h2278 (.slice A10 n11 c12) rfl h2282.sx 0 rfl hb2247 fun w2283 A2284 n2285 c2286 g2287 s2288 hc2289 h2290 => ?_
                        have hM2291 := Gr.tq hM2280 g2287 (hv_new hM2268 hr2276)
                        have hv2292 := hv_app (L := [blk (.slice A2272 n2273 c2274), blk (.slice A2232 n2233 c2234), blk (.slice A2209 n2210 c2211), blk (.slice A2186 n2187 c2188), blk (.slice A2166 n2167 c2168), blk (.slice A2096 n2097 c2098), blk (.slice A71 n72 c73), some b47, some b35]) (O := O) (i := 0) hM2280 rfl (hv_new hM2268 hr2276) s2288 hc2289
                        refine L_nil ⟨hM2291, ?_⟩
                        refine M_any1 18 (by kernel_rfl) rfl ?_
                        refine L_run (dj := 82) rfl rfl (by exact congrArg Value.bool hq2269) ?_
                        refine L_lit (kd := kPt) ei33 hc2289 ([(⟨98, 98⟩ : Pt)] : List Pt) (cells := [vi 98, vi 98]) ⟨[vi 98, vi 98], _, rfl, (kPt.mk _ _ (⟨98, 98⟩ : Pt)), rfl⟩ (fun _ => by kernel_rfl) fun w2294 A2295 n2296 c2297 g2298 hr2299 hc2300 h2301 => ?_
                        have hM2303 := Gr.tm hM2291 g2298
                        refine L_nil ⟨hM2303, ?_⟩
                        refine M_any1 19 (by kernel_rfl) rfl ?_
                        refine L_run (dj := 82) rfl rfl (by exact congrArg Value.bool hq2269) ?_
                        have h2304 := (h2290.so _ g2298 hr2299)
                        refine L_app ei33 hc2300 (.slice A2284 n2285 c2286) (([(⟨99, 99⟩ : Pt)] : List Pt) ++ r) ([(⟨98, 98⟩ : Pt)] : List Pt) rfl h2304 (.slice A2295 n2296 c2297) rfl h2301.sx 1 rfl hb2248 fun w2305 A2306 n2307 c2308 g2309 s2310 hc2311 h2312 => ?_
                        have hM2313 := Gr.tq hM2303 g2309 hv2292
                        have hv2314 := hv_app (L := [blk (.slice A2295 n2296 c2297), blk (.slice A2284 n2285 c2286), blk (.slice A2232 n2233 c2234), blk (.slice A2209 n2210 c2211), blk (.slice A2186 n2187 c2188), blk (.slice A2166 n2167 c2168), blk (.slice A2096 n2097 c2098), blk (.slice A71 n72 c73), some b47, some b35]) (O := O) (i := 1) hM2303 rfl hv2292 s2310 hc2311
                        refine L_nil ⟨hM2313, ?_⟩
                        refine M_any1 20 (by kernel_rfl) rfl ?_
                        refine L_run (dj := 82) rfl rfl (by exact congrArg Value.bool hq2269) ?_
                        have h2316 := (Ow.sm (L := [blk (.slice A2295 n2296 c2297), blk (.slice A2284 n2285 c2286), blk (.slice A2232 n2233 c2234), blk (.slice A2209 n2210 c2211), blk (.slice A2186 n2187 c2188), blk (.slice A2166 n2167 c2168), blk (.slice A2096 n2097 c2098), blk (.slice A71 n72 c73), some b47, some b35]) (O := O) ((Ow.sm (L := [blk (.slice A2272 n2273 c2274), blk (.slice A2232 n2233 c2234), blk (.slice A2209 n2210 c2211), blk (.slice A2186 n2187 c2188), blk (.slice A2166 n2167 c2168), blk (.slice A2096 n2097 c2098), blk (.slice A71 n72 c73), some b47, some b35]) (O := O) (((((h2196.sos g2208 hk2216).sos g2231 hk2239).sn g2244).sn g2263).so _ g2275 hr2276) hc2277 (i := 3) rfl (j := 0) rfl (by decide) g2287 s2288).so _ g2298 hr2299) hc2300 (i := 4) rfl (j := 1) rfl (by decide) g2309 s2310)
                        have h2317 := Ow.gv (L := [blk (.slice A2295 n2296 c2297), blk (.slice A2306 n2307 c2308), blk (.slice A2232 n2233 c2234), blk (.slice A2209 n2210 c2211), blk (.slice A2186 n2187 c2188), blk (.slice A2166 n2167 c2168), blk (.slice A2096 n2097 c2098), blk (.slice A71 n72 c73), some b47, some b35]) (O := O) h2316 hc2311 (i := 4) rfl
                        have hc2318 := hc2311.drop 4 rfl
                        have h2321 := (Ow.sd (L := [blk (.slice A2295 n2296 c2297), blk (.slice A2306 n2307 c2308), blk (.slice A2232 n2233 c2234), blk (.slice A2209 n2210 c2211), blk (.slice A2186 n2187 c2188), blk (.slice A2166 n2167 c2168), blk (.slice A2096 n2097 c2098), blk (.slice A71 n72 c73), some b47, some b35]) (O := O) h2312 (i := 1) rfl (j := 4) rfl (by decide))
                        have h2322 := Ow.gv (L := [blk (.slice A2295 n2296 c2297), blk (.slice A2306 n2307 c2308), blk (.slice A2232 n2233 c2234), blk (.slice A2209 n2210 c2211), blk (.slice A2166 n2167 c2168), blk (.slice A2096 n2097 c2098), blk (.slice A71 n72 c73), some b47, some b35]) (O := O) h2321 hc2318 (i := 1) rfl
                        have hc2323 := hc2318.drop 1 rfl
                        have h2326 := (h2317.st (.dr _ (L := [blk (.slice A2295 n2296 c2297), blk (.slice A2306 n2307 c2308), blk (.slice A2232 n2233 c2234), blk (.slice A2209 n2210 c2211), blk (.slice A2166 n2167 c2168), blk (.slice A2096 n2097 c2098), blk (.slice A71 n72 c73), some b47, some b35]) (O := O) (j := 1) rfl))
                        refine L_call go40 [.slice A2186 n2187 c2188, .slice A2306 n2307 c2308] rfl ((laws_wsSame.calls w2305 hc2323.ok r4 A2186 n2187 c2188 h2326 ((([(⟨99, 99⟩ : Pt)] : List Pt) ++ r) ++ ([(⟨98, 98⟩ : Pt)] : List Pt)) A2306 n2307 c2308 h2322 _ H).mono ?_)
                        rintro _ w2327 ⟨r11, rfl, H, g2328⟩
                        have hc2332 := hc2311.k0 g2328
                        have hM2333 := Gr.tm hM2313 g2328
                        refine L_nil ⟨hM2333, ?_⟩
                        refine M_pu 21 rfl (by kernel_rfl) hM2333 (P_pick true (vb r11) (by exact congrArg Value.bool hq2269) rfl) ?_
                        refine M_pu 22 rfl (by kernel_rfl) hM2333 (P_move (vb r11) rfl) ?_
                        rcases bool_or r11 with hq2334 | hq2334
                        · have H := ite_t H hq2334
                          refine M_pug 23 (dj := 93) rfl (by kernel_rfl) hM2333 rfl rfl (by exact congrArg Value.bool hq2334) (P_move (vb r9) rfl) ?_
                          refine M_pug 24 (dj := 93) rfl (by kernel_rfl) hM2333 rfl rfl (by exact congrArg Value.bool hq2334) (P_not r9 rfl) ?_
                          refine M_pu 25 rfl (by kernel_rfl) hM2333 (P_pick true (vb (!r9)) (by exact congrArg Value.bool hq2334) rfl) ?_
                          refine M_pu 26 rfl (by kernel_rfl) hM2333 (P_assign (vb (!r9)) rfl) ?_
                          refine M_nil (by kernel_rfl) ?_
                          refine W_ret ?_
                          have hc2335 := hc2332.drop 0 rfl
                          have hc2336 := hc2335.drop 0 rfl
                          have hc2337 := hc2336.drop 0 rfl
                          have hc2338 := hc2337.drop 0 rfl
                          have hc2339 := hc2338.drop 0 rfl
                          have hc2340 := hc2339.drop 0 rfl
                          have hc2341 := hc2340.drop 0 rfl
                          have hc2342 := hc2341.drop 0 rfl
                          have hc2343 := hc2342.drop 0 rfl
                          have hc2344 := hc2343.drop 0 rfl
                          exact ⟨[vb (!r9)], ⟨_, rfl, rfl⟩, !r9, rfl, H, hc2344.gr⟩
                        · have H := ite_f H hq2334
                          refine M_pass 23 (dj := 93) rfl (by kernel_rfl) hM2333 rfl rfl (.inl (by exact congrArg Value.bool hq2334)) ?_
                          refine M_pass 24 (dj := 93) rfl (by kernel_rfl) hM2333 rfl rfl (.inl (by exact congrArg Value.bool hq2334)) ?_
                          refine M_pu 25 rfl (by kernel_rfl) hM2333 (P_pick false (vb false) (by exact congrArg Value.bool hq2334) rfl) ?_
                          refine M_pu 26 rfl (by kernel_rfl) hM2333 (P_assign (vb false) rfl) ?_
                          refine M_nil (by kernel_rfl) ?_
                          refine W_ret ?_
                          have hc2345 := hc2332.drop 0 rfl
                          have hc2346 := hc2345.drop 0 rfl
                          have hc2347 := hc2346.drop 0 rfl
                          have hc2348 := hc2347.drop 0 rfl
                          have hc2349 := hc2348.drop 0 rfl
                          have hc2350 := hc2349.drop 0 rfl
                          have hc2351 := hc2350.drop 0 rfl
                          have hc2352 := hc2351.drop 0 rfl
                          have hc2353 := hc2352.drop 0 rfl
                          have hc2354 := hc2353.drop 0 rfl
                          exact ⟨[vb false], ⟨_, rfl, rfl⟩, false, rfl, H, hc2354.gr⟩
                      · refine L_run (dj := 82) rfl rfl (by exact congrArg Value.bool hq2269) ?_
                        refine L_lit (kd := kPt) ei33 hc2277 ([(⟨98, 98⟩ : Pt)] : List Pt) (cells := [vi 98, vi 98]) ⟨[vi 98, vi 98], _, rfl, (kPt.mk _ _ (⟨98, 98⟩ : Pt)), rfl⟩ (fun _ => by kernel_rfl) fun w2282 A2283 n2284 c2285 g2286 hr2287 hc2288 h2289 => ?_
                        have hM2291 := Gr.tm hM2280 g2286
                        refine L_nil ⟨hM2291, ?_⟩
                        refine M_any1 16 (by kernel_rfl) rfl ?_
                        refine L_run (dj := 82) rfl rfl (by exact congrArg Value.bool hq2269) ?_
                        have h2292 := (((((((((h2091.st (.own _ _ g2159 hr2160)).st s2170).st (.owns _ g2185 hk2193)).st (.owns _ g2208 hk2216)).st (.owns _ g2231 hk2239)).st (.new _ g2244)).st (.new _ g2263)).st (.own _ _ g2275 hr2276)).st (.own _ _ g2286 hr2287))
                        have h2293 := (h2278.so _ g2286 hr2287)
                        refine L_app ei33 hc2288 (.slice A2272 n2273 c2274) ([(⟨99, 99⟩ : Pt)] : List Pt) r rfl h2293 (.slice A10 n11 c12) rfl h2292.sx 1 rfl hb2247 fun w2294 A2295 n2296 c2297 g2298 s2299 hc2300 h2301 => ?_
                        have hM2302 := Gr.tq hM2291 g2298 (hv_new hM2268 hr2276)
                        have hv2303 := hv_app (L := [blk (.slice A2283 n2284 c2285), blk (.slice A2272 n2273 c2274), blk (.slice A2232 n2233 c2234), blk (.slice A2209 n2210 c2211), blk (.slice A2186 n2187 c2188), blk (.slice A2166 n2167 c2168), blk (.slice A2096 n2097 c2098), blk (.slice A71 n72 c73), some b47, some b35]) (O := O) (i := 1) hM2291 rfl (hv_new hM2268 hr2276) s2299 hc2300
                        refine L_nil ⟨hM2302, ?_⟩
                        refine M_any1 19 (by kernel_rfl) rfl ?_
                        refine L_run (dj := 82) rfl rfl (by exact congrArg Value.bool hq2269) ?_
                        have h2305 := (Ow.sm (L := [blk (.slice A2283 n2284 c2285), blk (.slice A2272 n2273 c2274), blk (.slice A2232 n2233 c2234), blk (.slice A2209 n2210 c2211), blk (.slice A2186 n2187 c2188), blk (.slice A2166 n2167 c2168), blk (.slice A2096 n2097 c2098), blk (.slice A71 n72 c73), some b47, some b35]) (O := O) h2289 hc2288 (i := 0) rfl (j := 1) rfl (by decide) g2298 s2299)
                        refine L_app ei33 hc2300 (.slice A2295 n2296 c2297) (([(⟨99, 99⟩ : Pt)] : List Pt) ++ r) ([(⟨98, 98⟩ : Pt)] : List Pt) rfl h2301 (.slice A2283 n2284 c2285) rfl h2305.sx 1 rfl hb2248 fun w2306 A2307 n2308 c2309 g2310 s2311 hc2312 h2313 => ?_
                        have hM2314 := Gr.tq hM2302 g2310 hv2303
                        have hv2315 := hv_app (L := [blk (.slice A2283 n2284 c2285), blk (.slice A2295 n2296 c2297), blk (.slice A2232 n2233 c2234), blk (.slice A2209 n2210 c2211), blk (.slice A2186 n2187 c2188), blk (.slice A2166 n2167 c2168), blk (.slice A2096 n2097 c2098), blk (.slice A71 n72 c73), some b47, some b35]) (O := O) (i := 1) hM2302 rfl hv2303 s2311 hc2312
                        refine L_nil ⟨hM2314, ?_⟩
                        refine M_any1 20 (by kernel_rfl) rfl ?_
                        refine L_run (dj := 82) rfl rfl (by exact congrArg Value.bool hq2269) ?_
                        have h2317 := (Ow.sm (L := [blk (.slice A2283 n2284 c2285), blk (.slice A2295 n2296 c2297), blk (.slice A2232 n2233 c2234), blk (.slice A2209 n2210 c2211), blk (.slice A2186 n2187 c2188), blk (.slice A2166 n2167 c2168), blk (.slice A2096 n2097 c2098), blk (.slice A71 n72 c73), some b47, some b35]) (O := O) (Ow.sm (L := [blk (.slice A2283 n2284 c2285), blk (.slice A2272 n2273 c2274), blk (.slice A2232 n2233 c2234), blk (.slice A2209 n2210 c2211), blk (.slice A2186 n2187 c2188), blk (.slice A2166 n2167 c2168), blk (.slice A2096 n2097 c2098), blk (.slice A71 n72 c73), some b47, some b35]) (O := O) ((((((h2196.sos g2208 hk2216).sos g2231 hk2239).sn g2244).sn g2263).so _ g2275 hr2276).so _ g2286 hr2287) hc2288 (i := 4) rfl (j := 1) rfl (by decide) g2298 s2299) hc2300 (i := 4) rfl (j := 1) rfl (by decide) g2310 s2311)
                        have h2318 := Ow.gv (L := [blk (.slice A2283 n2284 c2285), blk (.slice A2307 n2308 c2309), blk (.slice A2232 n2233 c2234), blk (.slice A2209 n2210 c2211), blk (.slice A2186 n2187 c2188), blk (.slice A2166 n2167 c2168), blk (.slice A2096 n2097 c2098), blk (.slice A71 n72 c73), some b47, some b35]) (O := O) h2317 hc2312 (i := 4) rfl
                        have hc2319 := hc2312.drop 4 rfl
                        have h2322 := (Ow.sd (L := [blk (.slice A2283 n2284 c2285), blk (.slice A2307 n2308 c2309), blk (.slice A2232 n2233 c2234), blk (.slice A2209 n2210 c2211), blk (.slice A2186 n2187 c2188), blk (.slice A2166 n2167 c2168), blk (.slice A2096 n2097 c2098), blk (.slice A71 n72 c73), some b47, some b35]) (O := O) h2313 (i := 1) rfl (j := 4) rfl (by decide))
                        have h2323 := Ow.gv (L := [blk (.slice A2283 n2284 c2285), blk (.slice A2307 n2308 c2309), blk (.slice A2232 n2233 c2234), blk (.slice A2209 n2210 c2211), blk (.slice A2166 n2167 c2168), blk (.slice A2096 n2097 c2098), blk (.slice A71 n72 c73), some b47, some b35]) (O := O) h2322 hc2319 (i := 1) rfl
                        have hc2324 := hc2319.drop 1 rfl
                        have h2327 := (h2318.st (.dr _ (L := [blk (.slice A2283 n2284 c2285), blk (.slice A2307 n2308 c2309), blk (.slice A2232 n2233 c2234), blk (.slice A2209 n2210 c2211), blk (.slice A2166 n2167 c2168), blk (.slice A2096 n2097 c2098), blk (.slice A71 n72 c73), some b47, some b35]) (O := O) (j := 1) rfl))
                        refine L_call go40 [.slice A2186 n2187 c2188, .slice A2307 n2308 c2309] rfl ((laws_wsSame.calls w2306 hc2324.ok r4 A2186 n2187 c2188 h2327 ((([(⟨99, 99⟩ : Pt)] : List Pt) ++ r) ++ ([(⟨98, 98⟩ : Pt)] : List Pt)) A2307 n2308 c2309 h2323 _ H).mono ?_)
                        rintro _ w2328 ⟨r11, rfl, H, g2329⟩
                        have hc2333 := hc2312.k0 g2329
                        have hM2334 := Gr.tm hM2314 g2329
                        refine L_nil ⟨hM2334, ?_⟩
                        refine M_pu 21 rfl (by kernel_rfl) hM2334 (P_pick true (vb r11) (by exact congrArg Value.bool hq2269) rfl) ?_
                        refine M_pu 22 rfl (by kernel_rfl) hM2334 (P_move (vb r11) rfl) ?_
                        rcases bool_or r11 with hq2335 | hq2335
                        · have H := ite_t H hq2335
                          refine M_pug 23 (dj := 93) rfl (by kernel_rfl) hM2334 rfl rfl (by exact congrArg Value.bool hq2335) (P_move (vb r9) rfl) ?_
                          refine M_pug 24 (dj := 93) rfl (by kernel_rfl) hM2334 rfl rfl (by exact congrArg Value.bool hq2335) (P_not r9 rfl) ?_
                          refine M_pu 25 rfl (by kernel_rfl) hM2334 (P_pick true (vb (!r9)) (by exact congrArg Value.bool hq2335) rfl) ?_
                          refine M_pu 26 rfl (by kernel_rfl) hM2334 (P_assign (vb (!r9)) rfl) ?_
                          refine M_nil (by kernel_rfl) ?_
                          refine W_ret ?_
                          have hc2336 := hc2333.drop 0 rfl
                          have hc2337 := hc2336.drop 0 rfl
                          have hc2338 := hc2337.drop 0 rfl
                          have hc2339 := hc2338.drop 0 rfl
                          have hc2340 := hc2339.drop 0 rfl
                          have hc2341 := hc2340.drop 0 rfl
                          have hc2342 := hc2341.drop 0 rfl
                          have hc2343 := hc2342.drop 0 rfl
                          have hc2344 := hc2343.drop 0 rfl
                          have hc2345 := hc2344.drop 0 rfl
                          exact ⟨[vb (!r9)], ⟨_, rfl, rfl⟩, !r9, rfl, H, hc2345.gr⟩
                        · have H := ite_f H hq2335
                          refine M_pass 23 (dj := 93) rfl (by kernel_rfl) hM2334 rfl rfl (.inl (by exact congrArg Value.bool hq2335)) ?_
                          refine M_pass 24 (dj := 93) rfl (by kernel_rfl) hM2334 rfl rfl (.inl (by exact congrArg Value.bool hq2335)) ?_
                          refine M_pu 25 rfl (by kernel_rfl) hM2334 (P_pick false (vb false) (by exact congrArg Value.bool hq2335) rfl) ?_
                          refine M_pu 26 rfl (by kernel_rfl) hM2334 (P_assign (vb false) rfl) ?_
                          refine M_nil (by kernel_rfl) ?_
                          refine W_ret ?_
                          have hc2346 := hc2333.drop 0 rfl
                          have hc2347 := hc2346.drop 0 rfl
                          have hc2348 := hc2347.drop 0 rfl
                          have hc2349 := hc2348.drop 0 rfl
                          have hc2350 := hc2349.drop 0 rfl
                          have hc2351 := hc2350.drop 0 rfl
                          have hc2352 := hc2351.drop 0 rfl
                          have hc2353 := hc2352.drop 0 rfl
                          have hc2354 := hc2353.drop 0 rfl
                          have hc2355 := hc2354.drop 0 rfl
                          exact ⟨[vb false], ⟨_, rfl, rfl⟩, false, rfl, H, hc2355.gr⟩
                  · refine L_run (dj := 82) rfl rfl (by exact congrArg Value.bool hq2269) ?_
                    have h2271 := ((((((Bx.sm (L := [blk (.slice A2156 n2157 c2158), blk (.slice A2096 n2097 c2098), blk (.slice A71 n72 c73), some b47, some b35]) (O := O) (h2095.k0 g2159) hc2161 (i := 3) rfl (j := 0) rfl (by decide) g2169).k0 g2185).k0 g2208).k0 g2231).k0 g2244).k0 g2263)
                    refine L_pu (P_lda ag41 sz41 cL ⟨b47, 0, none⟩ [vi 98, vi 98] rfl rfl (h2271.cells (off := 0) rfl)) ?_
                    refine L_nil ⟨hM2268, ?_⟩
                    refine M_any2 14 18 (by kernel_rfl) rfl rfl ?_ ?_
                    · refine L_run (dj := 82) rfl rfl (by exact congrArg Value.bool hq2269) ?_
                      refine L_lit (kd := kPt) ei33 hc2267 ([(⟨99, 99⟩ : Pt)] : List Pt) (cells := [vi 99, vi 99]) ⟨[vi 99, vi 99], _, rfl, (kPt.mk _ _ (⟨99, 99⟩ : Pt)), rfl⟩ (fun _ => by kernel_rfl) fun w2272 A2273 n2274 c2275 g2276 hr2277 hc2278 h2279 => ?_
                      have hM2281 := Gr.tm hM2268 g2276
                      refine L_nil ⟨hM2281, ?_⟩
                      refine M_any2 16 18 (by kernel_rfl) rfl rfl ?_ ?_
                      · refine L_run (dj := 82) rfl rfl (by exact congrArg Value.bool hq2269) ?_
                        have h2282 := ((((((((h2091.st (.own _ _ g2159 hr2160)).st s2170).st (.owns _ g2185 hk2193)).st (.owns _ g2208 hk2216)).st (.owns _ g2231 hk2239)).st (.new _ g2244)).st (.new _ g2263)).st (.own _ _ g2276 hr2277))
                        refine L_app ei33 hc2278 (.slice A2273 n2274 c2275) ([(⟨99, 99⟩ : Pt)] : List Pt) r rfl h2279 (.slice A10 n11 c12) rfl h2282.sx 0 rfl hb2247 fun w2283 A2284 n2285 c2286 g2287 s2288 hc2289 h2290 => ?_
                        have hM2291 := Gr.tq hM2281 g2287 (hv_new hM2268 hr2277)
                        have hv2292 := hv_app (L := [blk (.slice A2273 n2274 c2275), blk (.slice A2232 n2233 c2234), blk (.slice A2209 n2210 c2211), blk (.slice A2186 n2187 c2188), blk (.slice A2166 n2167 c2168), blk (.slice A2096 n2097 c2098), blk (.slice A71 n72 c73), some b47, some b35]) (O := O) (i := 0) hM2281 rfl (hv_new hM2268 hr2277) s2288 hc2289
                        refine L_nil ⟨hM2291, ?_⟩
                        refine M_any1 18 (by kernel_rfl) rfl ?_
                        refine L_run (dj := 82) rfl rfl (by exact congrArg Value.bool hq2269) ?_
                        refine L_lit (kd := kPt) ei33 hc2289 ([(⟨98, 98⟩ : Pt)] : List Pt) (cells := [vi 98, vi 98]) ⟨[vi 98, vi 98], _, rfl, (kPt.mk _ _ (⟨98, 98⟩ : Pt)), rfl⟩ (fun _ => by kernel_rfl) fun w2294 A2295 n2296 c2297 g2298 hr2299 hc2300 h2301 => ?_
                        have hM2303 := Gr.tm hM2291 g2298
                        refine L_nil ⟨hM2303, ?_⟩
                        refine M_any1 19 (by kernel_rfl) rfl ?_
                        refine L_run (dj := 82) rfl rfl (by exact congrArg Value.bool hq2269) ?_
                        have h2304 := (h2290.so _ g2298 hr2299)
                        refine L_app ei33 hc2300 (.slice A2284 n2285 c2286) (([(⟨99, 99⟩ : Pt)] : List Pt) ++ r) ([(⟨98, 98⟩ : Pt)] : List Pt) rfl h2304 (.slice A2295 n2296 c2297) rfl h2301.sx 1 rfl hb2248 fun w2305 A2306 n2307 c2308 g2309 s2310 hc2311 h2312 => ?_
                        have hM2313 := Gr.tq hM2303 g2309 hv2292
                        have hv2314 := hv_app (L := [blk (.slice A2295 n2296 c2297), blk (.slice A2284 n2285 c2286), blk (.slice A2232 n2233 c2234), blk (.slice A2209 n2210 c2211), blk (.slice A2186 n2187 c2188), blk (.slice A2166 n2167 c2168), blk (.slice A2096 n2097 c2098), blk (.slice A71 n72 c73), some b47, some b35]) (O := O) (i := 1) hM2303 rfl hv2292 s2310 hc2311
                        refine L_nil ⟨hM2313, ?_⟩
                        refine M_any1 20 (by kernel_rfl) rfl ?_
                        refine L_run (dj := 82) rfl rfl (by exact congrArg Value.bool hq2269) ?_
                        have h2316 := (Ow.sm (L := [blk (.slice A2295 n2296 c2297), blk (.slice A2284 n2285 c2286), blk (.slice A2232 n2233 c2234), blk (.slice A2209 n2210 c2211), blk (.slice A2186 n2187 c2188), blk (.slice A2166 n2167 c2168), blk (.slice A2096 n2097 c2098), blk (.slice A71 n72 c73), some b47, some b35]) (O := O) ((Ow.sm (L := [blk (.slice A2273 n2274 c2275), blk (.slice A2232 n2233 c2234), blk (.slice A2209 n2210 c2211), blk (.slice A2186 n2187 c2188), blk (.slice A2166 n2167 c2168), blk (.slice A2096 n2097 c2098), blk (.slice A71 n72 c73), some b47, some b35]) (O := O) (((((h2196.sos g2208 hk2216).sos g2231 hk2239).sn g2244).sn g2263).so _ g2276 hr2277) hc2278 (i := 3) rfl (j := 0) rfl (by decide) g2287 s2288).so _ g2298 hr2299) hc2300 (i := 4) rfl (j := 1) rfl (by decide) g2309 s2310)
                        have h2317 := Ow.gv (L := [blk (.slice A2295 n2296 c2297), blk (.slice A2306 n2307 c2308), blk (.slice A2232 n2233 c2234), blk (.slice A2209 n2210 c2211), blk (.slice A2186 n2187 c2188), blk (.slice A2166 n2167 c2168), blk (.slice A2096 n2097 c2098), blk (.slice A71 n72 c73), some b47, some b35]) (O := O) h2316 hc2311 (i := 4) rfl
                        have hc2318 := hc2311.drop 4 rfl
                        have h2321 := (Ow.sd (L := [blk (.slice A2295 n2296 c2297), blk (.slice A2306 n2307 c2308), blk (.slice A2232 n2233 c2234), blk (.slice A2209 n2210 c2211), blk (.slice A2186 n2187 c2188), blk (.slice A2166 n2167 c2168), blk (.slice A2096 n2097 c2098), blk (.slice A71 n72 c73), some b47, some b35]) (O := O) h2312 (i := 1) rfl (j := 4) rfl (by decide))
                        have h2322 := Ow.gv (L := [blk (.slice A2295 n2296 c2297), blk (.slice A2306 n2307 c2308), blk (.slice A2232 n2233 c2234), blk (.slice A2209 n2210 c2211), blk (.slice A2166 n2167 c2168), blk (.slice A2096 n2097 c2098), blk (.slice A71 n72 c73), some b47, some b35]) (O := O) h2321 hc2318 (i := 1) rfl
                        have hc2323 := hc2318.drop 1 rfl
                        have h2326 := (h2317.st (.dr _ (L := [blk (.slice A2295 n2296 c2297), blk (.slice A2306 n2307 c2308), blk (.slice A2232 n2233 c2234), blk (.slice A2209 n2210 c2211), blk (.slice A2166 n2167 c2168), blk (.slice A2096 n2097 c2098), blk (.slice A71 n72 c73), some b47, some b35]) (O := O) (j := 1) rfl))
                        refine L_call go40 [.slice A2186 n2187 c2188, .slice A2306 n2307 c2308] rfl ((laws_wsSame.calls w2305 hc2323.ok r4 A2186 n2187 c2188 h2326 ((([(⟨99, 99⟩ : Pt)] : List Pt) ++ r) ++ ([(⟨98, 98⟩ : Pt)] : List Pt)) A2306 n2307 c2308 h2322 _ H).mono ?_)
                        rintro _ w2327 ⟨r11, rfl, H, g2328⟩
                        have hc2332 := hc2311.k0 g2328
                        have hM2333 := Gr.tm hM2313 g2328
                        refine L_nil ⟨hM2333, ?_⟩
                        refine M_pu 21 rfl (by kernel_rfl) hM2333 (P_pick true (vb r11) (by exact congrArg Value.bool hq2269) rfl) ?_
                        refine M_pu 22 rfl (by kernel_rfl) hM2333 (P_move (vb r11) rfl) ?_
                        rcases bool_or r11 with hq2334 | hq2334
                        · have H := ite_t H hq2334
                          refine M_pug 23 (dj := 93) rfl (by kernel_rfl) hM2333 rfl rfl (by exact congrArg Value.bool hq2334) (P_move (vb r9) rfl) ?_
                          refine M_pug 24 (dj := 93) rfl (by kernel_rfl) hM2333 rfl rfl (by exact congrArg Value.bool hq2334) (P_not r9 rfl) ?_
                          refine M_pu 25 rfl (by kernel_rfl) hM2333 (P_pick true (vb (!r9)) (by exact congrArg Value.bool hq2334) rfl) ?_
                          refine M_pu 26 rfl (by kernel_rfl) hM2333 (P_assign (vb (!r9)) rfl) ?_
                          refine M_nil (by kernel_rfl) ?_
                          refine W_ret ?_
                          have hc2335 := hc2332.drop 0 rfl
                          have hc2336 := hc2335.drop 0 rfl
                          have hc2337 := hc2336.drop 0 rfl
                          have hc2338 := hc2337.drop 0 rfl
                          have hc2339 := hc2338.drop 0 rfl
                          have hc2340 := hc2339.drop 0 rfl
                          have hc2341 := hc2340.drop 0 rfl
                          have hc2342 := hc2341.drop 0 rfl
                          have hc2343 := hc2342.drop 0 rfl
                          have hc2344 := hc2343.drop 0 rfl
                          exact ⟨[vb (!r9)], ⟨_, rfl, rfl⟩, !r9, rfl, H, hc2344.gr⟩
                        · have H := ite_f H hq2334
                          refine M_pass 23 (dj := 93) rfl (by kernel_rfl) hM2333 rfl rfl (.inl (by exact congrArg Value.bool hq2334)) ?_
                          refine M_pass 24 (dj := 93) rfl (by kernel_rfl) hM2333 rfl rfl (.inl (by exact congrArg Value.bool hq2334)) ?_
                          refine M_pu 25 rfl (by kernel_rfl) hM2333 (P_pick false (vb false) (by exact congrArg Value.bool hq2334) rfl) ?_
                          refine M_pu 26 rfl (by kernel_rfl) hM2333 (P_assign (vb false) rfl) ?_
                          refine M_nil (by kernel_rfl) ?_
                          refine W_ret ?_
                          have hc2345 := hc2332.drop 0 rfl
                          have hc2346 := hc2345.drop 0 rfl
                          have hc2347 := hc2346.drop 0 rfl
                          have hc2348 := hc2347.drop 0 rfl
                          have hc2349 := hc2348.drop 0 rfl
                          have hc2350 := hc2349.drop 0 rfl
                          have hc2351 := hc2350.drop 0 rfl
                          have hc2352 := hc2351.drop 0 rfl
                          have hc2353 := hc2352.drop 0 rfl
                          have hc2354 := hc2353.drop 0 rfl
                          exact ⟨[vb false], ⟨_, rfl, rfl⟩, false, rfl, H, hc2354.gr⟩
                      · refine L_run (dj := 82) rfl rfl (by exact congrArg Value.bool hq2269) ?_
                        refine L_lit (kd := kPt) ei33 hc2278 ([(⟨98, 98⟩ : Pt)] : List Pt) (cells := [vi 98, vi 98]) ⟨[vi 98, vi 98], _, rfl, (kPt.mk _ _ (⟨98, 98⟩ : Pt)), rfl⟩ (fun _ => by kernel_rfl) fun w2282 A2283 n2284 c2285 g2286 hr2287 hc2288 h2289 => ?_
                        have hM2291 := Gr.tm hM2281 g2286
                        refine L_nil ⟨hM2291, ?_⟩
                        refine M_any1 16 (by kernel_rfl) rfl ?_
                        refine L_run (dj := 82) rfl rfl (by exact congrArg Value.bool hq2269) ?_
                        have h2292 := (((((((((h2091.st (.own _ _ g2159 hr2160)).st s2170).st (.owns _ g2185 hk2193)).st (.owns _ g2208 hk2216)).st (.owns _ g2231 hk2239)).st (.new _ g2244)).st (.new _ g2263)).st (.own _ _ g2276 hr2277)).st (.own _ _ g2286 hr2287))
                        have h2293 := (h2279.so _ g2286 hr2287)
                        refine L_app ei33 hc2288 (.slice A2273 n2274 c2275) ([(⟨99, 99⟩ : Pt)] : List Pt) r rfl h2293 (.slice A10 n11 c12) rfl h2292.sx 1 rfl hb2247 fun w2294 A2295 n2296 c2297 g2298 s2299 hc2300 h2301 => ?_
                        have hM2302 := Gr.tq hM2291 g2298 (hv_new hM2268 hr2277)
                        have hv2303 := hv_app (L := [blk (.slice A2283 n2284 c2285), blk (.slice A2273 n2274 c2275), blk (.slice A2232 n2233 c2234), blk (.slice A2209 n2210 c2211), blk (.slice A2186 n2187 c2188), blk (.slice A2166 n2167 c2168), blk (.slice A2096 n2097 c2098), blk (.slice A71 n72 c73), some b47, some b35]) (O := O) (i := 1) hM2291 rfl (hv_new hM2268 hr2277) s2299 hc2300
                        refine L_nil ⟨hM2302, ?_⟩
                        refine M_any1 19 (by kernel_rfl) rfl ?_
                        refine L_run (dj := 82) rfl rfl (by exact congrArg Value.bool hq2269) ?_
                        have h2305 := (Ow.sm (L := [blk (.slice A2283 n2284 c2285), blk (.slice A2273 n2274 c2275), blk (.slice A2232 n2233 c2234), blk (.slice A2209 n2210 c2211), blk (.slice A2186 n2187 c2188), blk (.slice A2166 n2167 c2168), blk (.slice A2096 n2097 c2098), blk (.slice A71 n72 c73), some b47, some b35]) (O := O) h2289 hc2288 (i := 0) rfl (j := 1) rfl (by decide) g2298 s2299)
                        refine L_app ei33 hc2300 (.slice A2295 n2296 c2297) (([(⟨99, 99⟩ : Pt)] : List Pt) ++ r) ([(⟨98, 98⟩ : Pt)] : List Pt) rfl h2301 (.slice A2283 n2284 c2285) rfl h2305.sx 1 rfl hb2248 fun w2306 A2307 n2308 c2309 g2310 s2311 hc2312 h2313 => ?_
                        have hM2314 := Gr.tq hM2302 g2310 hv2303
                        have hv2315 := hv_app (L := [blk (.slice A2283 n2284 c2285), blk (.slice A2295 n2296 c2297), blk (.slice A2232 n2233 c2234), blk (.slice A2209 n2210 c2211), blk (.slice A2186 n2187 c2188), blk (.slice A2166 n2167 c2168), blk (.slice A2096 n2097 c2098), blk (.slice A71 n72 c73), some b47, some b35]) (O := O) (i := 1) hM2302 rfl hv2303 s2311 hc2312
                        refine L_nil ⟨hM2314, ?_⟩
                        refine M_any1 20 (by kernel_rfl) rfl ?_
                        refine L_run (dj := 82) rfl rfl (by exact congrArg Value.bool hq2269) ?_
                        have h2317 := (Ow.sm (L := [blk (.slice A2283 n2284 c2285), blk (.slice A2295 n2296 c2297), blk (.slice A2232 n2233 c2234), blk (.slice A2209 n2210 c2211), blk (.slice A2186 n2187 c2188), blk (.slice A2166 n2167 c2168), blk (.slice A2096 n2097 c2098), blk (.slice A71 n72 c73), some b47, some b35]) (O := O) (Ow.sm (L := [blk (.slice A2283 n2284 c2285), blk (.slice A2273 n2274 c2275), blk (.slice A2232 n2233 c2234), blk (.slice A2209 n2210 c2211), blk (.slice A2186 n2187 c2188), blk (.slice A2166 n2167 c2168), blk (.slice A2096 n2097 c2098), blk (.slice A71 n72 c73), some b47, some b35]) (O := O) ((((((h2196.sos g2208 hk2216).sos g2231 hk2239).sn g2244).sn g2263).so _ g2276 hr2277).so _ g2286 hr2287) hc2288 (i := 4) rfl (j := 1) rfl (by decide) g2298 s2299) hc2300 (i := 4) rfl (j := 1) rfl (by decide) g2310 s2311)
                        have h2318 := Ow.gv (L := [blk (.slice A2283 n2284 c2285), blk (.slice A2307 n2308 c2309), blk (.slice A2232 n2233 c2234), blk (.slice A2209 n2210 c2211), blk (.slice A2186 n2187 c2188), blk (.slice A2166 n2167 c2168), blk (.slice A2096 n2097 c2098), blk (.slice A71 n72 c73), some b47, some b35]) (O := O) h2317 hc2312 (i := 4) rfl
                        have hc2319 := hc2312.drop 4 rfl
                        have h2322 := (Ow.sd (L := [blk (.slice A2283 n2284 c2285), blk (.slice A2307 n2308 c2309), blk (.slice A2232 n2233 c2234), blk (.slice A2209 n2210 c2211), blk (.slice A2186 n2187 c2188), blk (.slice A2166 n2167 c2168), blk (.slice A2096 n2097 c2098), blk (.slice A71 n72 c73), some b47, some b35]) (O := O) h2313 (i := 1) rfl (j := 4) rfl (by decide))
                        have h2323 := Ow.gv (L := [blk (.slice A2283 n2284 c2285), blk (.slice A2307 n2308 c2309), blk (.slice A2232 n2233 c2234), blk (.slice A2209 n2210 c2211), blk (.slice A2166 n2167 c2168), blk (.slice A2096 n2097 c2098), blk (.slice A71 n72 c73), some b47, some b35]) (O := O) h2322 hc2319 (i := 1) rfl
                        have hc2324 := hc2319.drop 1 rfl
                        have h2327 := (h2318.st (.dr _ (L := [blk (.slice A2283 n2284 c2285), blk (.slice A2307 n2308 c2309), blk (.slice A2232 n2233 c2234), blk (.slice A2209 n2210 c2211), blk (.slice A2166 n2167 c2168), blk (.slice A2096 n2097 c2098), blk (.slice A71 n72 c73), some b47, some b35]) (O := O) (j := 1) rfl))
                        refine L_call go40 [.slice A2186 n2187 c2188, .slice A2307 n2308 c2309] rfl ((laws_wsSame.calls w2306 hc2324.ok r4 A2186 n2187 c2188 h2327 ((([(⟨99, 99⟩ : Pt)] : List Pt) ++ r) ++ ([(⟨98, 98⟩ : Pt)] : List Pt)) A2307 n2308 c2309 h2323 _ H).mono ?_)
                        rintro _ w2328 ⟨r11, rfl, H, g2329⟩
                        have hc2333 := hc2312.k0 g2329
                        have hM2334 := Gr.tm hM2314 g2329
                        refine L_nil ⟨hM2334, ?_⟩
                        refine M_pu 21 rfl (by kernel_rfl) hM2334 (P_pick true (vb r11) (by exact congrArg Value.bool hq2269) rfl) ?_
                        refine M_pu 22 rfl (by kernel_rfl) hM2334 (P_move (vb r11) rfl) ?_
                        rcases bool_or r11 with hq2335 | hq2335
                        · have H := ite_t H hq2335
                          refine M_pug 23 (dj := 93) rfl (by kernel_rfl) hM2334 rfl rfl (by exact congrArg Value.bool hq2335) (P_move (vb r9) rfl) ?_
                          refine M_pug 24 (dj := 93) rfl (by kernel_rfl) hM2334 rfl rfl (by exact congrArg Value.bool hq2335) (P_not r9 rfl) ?_
                          refine M_pu 25 rfl (by kernel_rfl) hM2334 (P_pick true (vb (!r9)) (by exact congrArg Value.bool hq2335) rfl) ?_
                          refine M_pu 26 rfl (by kernel_rfl) hM2334 (P_assign (vb (!r9)) rfl) ?_
                          refine M_nil (by kernel_rfl) ?_
                          refine W_ret ?_
                          have hc2336 := hc2333.drop 0 rfl
                          have hc2337 := hc2336.drop 0 rfl
                          have hc2338 := hc2337.drop 0 rfl
                          have hc2339 := hc2338.drop 0 rfl
                          have hc2340 := hc2339.drop 0 rfl
                          have hc2341 := hc2340.drop 0 rfl
                          have hc2342 := hc2341.drop 0 rfl
                          have hc2343 := hc2342.drop 0 rfl
                          have hc2344 := hc2343.drop 0 rfl
                          have hc2345 := hc2344.drop 0 rfl
                          exact ⟨[vb (!r9)], ⟨_, rfl, rfl⟩, !r9, rfl, H, hc2345.gr⟩
                        · have H := ite_f H hq2335
                          refine M_pass 23 (dj := 93) rfl (by kernel_rfl) hM2334 rfl rfl (.inl (by exact congrArg Value.bool hq2335)) ?_
                          refine M_pass 24 (dj := 93) rfl (by kernel_rfl) hM2334 rfl rfl (.inl (by exact congrArg Value.bool hq2335)) ?_
                          refine M_pu 25 rfl (by kernel_rfl) hM2334 (P_pick false (vb false) (by exact congrArg Value.bool hq2335) rfl) ?_
                          refine M_pu 26 rfl (by kernel_rfl) hM2334 (P_assign (vb false) rfl) ?_
                          refine M_nil (by kernel_rfl) ?_
                          refine W_ret ?_
                          have hc2346 := hc2333.drop 0 rfl
                          have hc2347 := hc2346.drop 0 rfl
                          have hc2348 := hc2347.drop 0 rfl
                          have hc2349 := hc2348.drop 0 rfl
                          have hc2350 := hc2349.drop 0 rfl
                          have hc2351 := hc2350.drop 0 rfl
                          have hc2352 := hc2351.drop 0 rfl
                          have hc2353 := hc2352.drop 0 rfl
                          have hc2354 := hc2353.drop 0 rfl
                          have hc2355 := hc2354.drop 0 rfl
                          exact ⟨[vb false], ⟨_, rfl, rfl⟩, false, rfl, H, hc2355.gr⟩
                    · refine L_run (dj := 82) rfl rfl (by exact congrArg Value.bool hq2269) ?_
                      refine L_lit (kd := kPt) ei33 hc2267 ([(⟨98, 98⟩ : Pt)] : List Pt) (cells := [vi 98, vi 98]) ⟨[vi 98, vi 98], _, rfl, (kPt.mk _ _ (⟨98, 98⟩ : Pt)), rfl⟩ (fun _ => by kernel_rfl) fun w2272 A2273 n2274 c2275 g2276 hr2277 hc2278 h2279 => ?_
                      have hM2281 := Gr.tm hM2268 g2276
                      refine L_nil ⟨hM2281, ?_⟩
                      refine M_any1 14 (by kernel_rfl) rfl ?_
                      refine L_run (dj := 82) rfl rfl (by exact congrArg Value.bool hq2269) ?_
                      refine L_lit (kd := kPt) ei33 hc2278 ([(⟨99, 99⟩ : Pt)] : List Pt) (cells := [vi 99, vi 99]) ⟨[vi 99, vi 99], _, rfl, (kPt.mk _ _ (⟨99, 99⟩ : Pt)), rfl⟩ (fun _ => by kernel_rfl) fun w2282 A2283 n2284 c2285 g2286 hr2287 hc2288 h2289 => ?_
                      have hM2291 := Gr.tm hM2281 g2286
                      refine L_nil ⟨hM2291, ?_⟩
                      refine M_any1 16 (by kernel_rfl) rfl ?_
                      refine L_run (dj := 82) rfl rfl (by exact congrArg Value.bool hq2269) ?_
                      have h2292 := (((((((((h2091.st (.own _ _ g2159 hr2160)).st s2170).st (.owns _ g2185 hk2193)).st (.owns _ g2208 hk2216)).st (.owns _ g2231 hk2239)).st (.new _ g2244)).st (.new _ g2263)).st (.own _ _ g2276 hr2277)).st (.own _ _ g2286 hr2287))
                      refine L_app ei33 hc2288 (.slice A2283 n2284 c2285) ([(⟨99, 99⟩ : Pt)] : List Pt) r rfl h2289 (.slice A10 n11 c12) rfl h2292.sx 0 rfl hb2247 fun w2293 A2294 n2295 c2296 g2297 s2298 hc2299 h2300 => ?_
                      have hM2301 := Gr.tq hM2291 g2297 (hv_new hM2281 hr2287)
                      have hv2302 := hv_app (L := [blk (.slice A2283 n2284 c2285), blk (.slice A2273 n2274 c2275), blk (.slice A2232 n2233 c2234), blk (.slice A2209 n2210 c2211), blk (.slice A2186 n2187 c2188), blk (.slice A2166 n2167 c2168), blk (.slice A2096 n2097 c2098), blk (.slice A71 n72 c73), some b47, some b35]) (O := O) (i := 0) hM2291 rfl (hv_new hM2281 hr2287) s2298 hc2299
                      refine L_nil ⟨hM2301, ?_⟩
                      refine M_any1 19 (by kernel_rfl) rfl ?_
                      refine L_run (dj := 82) rfl rfl (by exact congrArg Value.bool hq2269) ?_
                      have h2304 := (Ow.sm (L := [blk (.slice A2283 n2284 c2285), blk (.slice A2273 n2274 c2275), blk (.slice A2232 n2233 c2234), blk (.slice A2209 n2210 c2211), blk (.slice A2186 n2187 c2188), blk (.slice A2166 n2167 c2168), blk (.slice A2096 n2097 c2098), blk (.slice A71 n72 c73), some b47, some b35]) (O := O) (h2279.so _ g2286 hr2287) hc2288 (i := 1) rfl (j := 0) rfl (by decide) g2297 s2298)
                      refine L_app ei33 hc2299 (.slice A2294 n2295 c2296) (([(⟨99, 99⟩ : Pt)] : List Pt) ++ r) ([(⟨98, 98⟩ : Pt)] : List Pt) rfl h2300 (.slice A2273 n2274 c2275) rfl h2304.sx 0 rfl hb2248 fun w2305 A2306 n2307 c2308 g2309 s2310 hc2311 h2312 => ?_
                      have hM2313 := Gr.tq hM2301 g2309 hv2302
                      have hv2314 := hv_app (L := [blk (.slice A2294 n2295 c2296), blk (.slice A2273 n2274 c2275), blk (.slice A2232 n2233 c2234), blk (.slice A2209 n2210 c2211), blk (.slice A2186 n2187 c2188), blk (.slice A2166 n2167 c2168), blk (.slice A2096 n2097 c2098), blk (.slice A71 n72 c73), some b47, some b35]) (O := O) (i := 0) hM2301 rfl hv2302 s2310 hc2311
                      refine L_nil ⟨hM2313, ?_⟩
                      refine M_any1 20 (by kernel_rfl) rfl ?_
                      refine L_run (dj := 82) rfl rfl (by exact congrArg Value.bool hq2269) ?_
                      have h2316 := (Ow.sm (L := [blk (.slice A2294 n2295 c2296), blk (.slice A2273 n2274 c2275), blk (.slice A2232 n2233 c2234), blk (.slice A2209 n2210 c2211), blk (.slice A2186 n2187 c2188), blk (.slice A2166 n2167 c2168), blk (.slice A2096 n2097 c2098), blk (.slice A71 n72 c73), some b47, some b35]) (O := O) (Ow.sm (L := [blk (.slice A2283 n2284 c2285), blk (.slice A2273 n2274 c2275), blk (.slice A2232 n2233 c2234), blk (.slice A2209 n2210 c2211), blk (.slice A2186 n2187 c2188), blk (.slice A2166 n2167 c2168), blk (.slice A2096 n2097 c2098), blk (.slice A71 n72 c73), some b47, some b35]) (O := O) ((((((h2196.sos g2208 hk2216).sos g2231 hk2239).sn g2244).sn g2263).so _ g2276 hr2277).so _ g2286 hr2287) hc2288 (i := 4) rfl (j := 0) rfl (by decide) g2297 s2298) hc2299 (i := 4) rfl (j := 0) rfl (by decide) g2309 s2310)
                      have h2317 := Ow.gv (L := [blk (.slice A2306 n2307 c2308), blk (.slice A2273 n2274 c2275), blk (.slice A2232 n2233 c2234), blk (.slice A2209 n2210 c2211), blk (.slice A2186 n2187 c2188), blk (.slice A2166 n2167 c2168), blk (.slice A2096 n2097 c2098), blk (.slice A71 n72 c73), some b47, some b35]) (O := O) h2316 hc2311 (i := 4) rfl
                      have hc2318 := hc2311.drop 4 rfl
                      have h2321 := (Ow.sd (L := [blk (.slice A2306 n2307 c2308), blk (.slice A2273 n2274 c2275), blk (.slice A2232 n2233 c2234), blk (.slice A2209 n2210 c2211), blk (.slice A2186 n2187 c2188), blk (.slice A2166 n2167 c2168), blk (.slice A2096 n2097 c2098), blk (.slice A71 n72 c73), some b47, some b35]) (O := O) h2312 (i := 0) rfl (j := 4) rfl (by decide))
                      have h2322 := Ow.gv (L := [blk (.slice A2306 n2307 c2308), blk (.slice A2273 n2274 c2275), blk (.slice A2232 n2233 c2234), blk (.slice A2209 n2210 c2211), blk (.slice A2166 n2167 c2168), blk (.slice A2096 n2097 c2098), blk (.slice A71 n72 c73), some b47, some b35]) (O := O) h2321 hc2318 (i := 0) rfl
                      have hc2323 := hc2318.drop 0 rfl
                      have h2326 := (h2317.st (.dr _ (L := [blk (.slice A2306 n2307 c2308), blk (.slice A2273 n2274 c2275), blk (.slice A2232 n2233 c2234), blk (.slice A2209 n2210 c2211), blk (.slice A2166 n2167 c2168), blk (.slice A2096 n2097 c2098), blk (.slice A71 n72 c73), some b47, some b35]) (O := O) (j := 0) rfl))
                      refine L_call go40 [.slice A2186 n2187 c2188, .slice A2306 n2307 c2308] rfl ((laws_wsSame.calls w2305 hc2323.ok r4 A2186 n2187 c2188 h2326 ((([(⟨99, 99⟩ : Pt)] : List Pt) ++ r) ++ ([(⟨98, 98⟩ : Pt)] : List Pt)) A2306 n2307 c2308 h2322 _ H).mono ?_)
                      rintro _ w2327 ⟨r11, rfl, H, g2328⟩
                      have hc2332 := hc2311.k0 g2328
                      have hM2333 := Gr.tm hM2313 g2328
                      refine L_nil ⟨hM2333, ?_⟩
                      refine M_pu 21 rfl (by kernel_rfl) hM2333 (P_pick true (vb r11) (by exact congrArg Value.bool hq2269) rfl) ?_
                      refine M_pu 22 rfl (by kernel_rfl) hM2333 (P_move (vb r11) rfl) ?_
                      rcases bool_or r11 with hq2334 | hq2334
                      · have H := ite_t H hq2334
                        refine M_pug 23 (dj := 93) rfl (by kernel_rfl) hM2333 rfl rfl (by exact congrArg Value.bool hq2334) (P_move (vb r9) rfl) ?_
                        refine M_pug 24 (dj := 93) rfl (by kernel_rfl) hM2333 rfl rfl (by exact congrArg Value.bool hq2334) (P_not r9 rfl) ?_
                        refine M_pu 25 rfl (by kernel_rfl) hM2333 (P_pick true (vb (!r9)) (by exact congrArg Value.bool hq2334) rfl) ?_
                        refine M_pu 26 rfl (by kernel_rfl) hM2333 (P_assign (vb (!r9)) rfl) ?_
                        refine M_nil (by kernel_rfl) ?_
                        refine W_ret ?_
                        have hc2335 := hc2332.drop 0 rfl
                        have hc2336 := hc2335.drop 0 rfl
                        have hc2337 := hc2336.drop 0 rfl
                        have hc2338 := hc2337.drop 0 rfl
                        have hc2339 := hc2338.drop 0 rfl
                        have hc2340 := hc2339.drop 0 rfl
                        have hc2341 := hc2340.drop 0 rfl
                        have hc2342 := hc2341.drop 0 rfl
                        have hc2343 := hc2342.drop 0 rfl
                        have hc2344 := hc2343.drop 0 rfl
                        exact ⟨[vb (!r9)], ⟨_, rfl, rfl⟩, !r9, rfl, H, hc2344.gr⟩
                      · have H := ite_f H hq2334
                        refine M_pass 23 (dj := 93) rfl (by kernel_rfl) hM2333 rfl rfl (.inl (by exact congrArg Value.bool hq2334)) ?_
                        refine M_pass 24 (dj := 93) rfl (by kernel_rfl) hM2333 rfl rfl (.inl (by exact congrArg Value.bool hq2334)) ?_
                        refine M_pu 25 rfl (by kernel_rfl) hM2333 (P_pick false (vb false) (by exact congrArg Value.bool hq2334) rfl) ?_
                        refine M_pu 26 rfl (by kernel_rfl) hM2333 (P_assign (vb false) rfl) ?_
                        refine M_nil (by kernel_rfl) ?_
                        refine W_ret ?_
                        have hc2345 := hc2332.drop 0 rfl
                        have hc2346 := hc2345.drop 0 rfl
                        have hc2347 := hc2346.drop 0 rfl
                        have hc2348 := hc2347.drop 0 rfl
                        have hc2349 := hc2348.drop 0 rfl
                        have hc2350 := hc2349.drop 0 rfl
                        have hc2351 := hc2350.drop 0 rfl
                        have hc2352 := hc2351.drop 0 rfl
                        have hc2353 := hc2352.drop 0 rfl
                        have hc2354 := hc2353.drop 0 rfl
                        exact ⟨[vb false], ⟨_, rfl, rfl⟩, false, rfl, H, hc2354.gr⟩
                · refine L_run (dj := 82) rfl rfl (by exact congrArg Value.bool hq2269) ?_
                  have h2270 := ((((((Bx.sm (L := [blk (.slice A2156 n2157 c2158), blk (.slice A2096 n2097 c2098), blk (.slice A71 n72 c73), some b47, some b35]) (O := O) (h2095.k0 g2159) hc2161 (i := 3) rfl (j := 0) rfl (by decide) g2169).k0 g2185).k0 g2208).k0 g2231).k0 g2244).k0 g2263)
                  refine L_pu (P_lda ag41 sz41 cL ⟨b47, 0, none⟩ [vi 98, vi 98] rfl rfl (h2270.cells (off := 0) rfl)) ?_
                  refine L_nil ⟨hM2268, ?_⟩
                  refine M_any2 13 18 (by kernel_rfl) rfl rfl ?_ ?_
                  · refine L_run (dj := 82) rfl rfl (by exact congrArg Value.bool hq2269) ?_
                    have h2271 := ((((((Bx.sm (L := [blk (.slice A2156 n2157 c2158), blk (.slice A2096 n2097 c2098), blk (.slice A71 n72 c73), some b47, some b35]) (O := O) (h2094.k0 g2159) hc2161 (i := 4) rfl (j := 0) rfl (by decide) g2169).k0 g2185).k0 g2208).k0 g2231).k0 g2244).k0 g2263)
                    refine L_pu (P_lda ag41 sz41 cL ⟨b35, 0, none⟩ [vi 99, vi 99] rfl rfl (h2271.cells (off := 0) rfl)) ?_
                    refine L_nil ⟨hM2268, ?_⟩
                    refine M_any2 14 18 (by kernel_rfl) rfl rfl ?_ ?_
                    · refine L_run (dj := 82) rfl rfl (by exact congrArg Value.bool hq2269) ?_
                      refine L_lit (kd := kPt) ei33 hc2267 ([(⟨99, 99⟩ : Pt)] : List Pt) (cells := [vi 99, vi 99]) ⟨[vi 99, vi 99], _, rfl, (kPt.mk _ _ (⟨99, 99⟩ : Pt)), rfl⟩ (fun _ => by kernel_rfl) fun w2272 A2273 n2274 c2275 g2276 hr2277 hc2278 h2279 => ?_
                      have hM2281 := Gr.tm hM2268 g2276
                      refine L_nil ⟨hM2281, ?_⟩
                      refine M_any2 16 18 (by kernel_rfl) rfl rfl ?_ ?_
                      · refine L_run (dj := 82) rfl rfl (by exact congrArg Value.bool hq2269) ?_
                        have h2282 := ((((((((h2091.st (.own _ _ g2159 hr2160)).st s2170).st (.owns _ g2185 hk2193)).st (.owns _ g2208 hk2216)).st (.owns _ g2231 hk2239)).st (.new _ g2244)).st (.new _ g2263)).st (.own _ _ g2276 hr2277))
                        refine L_app ei33 hc2278 (.slice A2273 n2274 c2275) ([(⟨99, 99⟩ : Pt)] : List Pt) r rfl h2279 (.slice A10 n11 c12) rfl h2282.sx 0 rfl hb2247 fun w2283 A2284 n2285 c2286 g2287 s2288 hc2289 h2290 => ?_
                        have hM2291 := Gr.tq hM2281 g2287 (hv_new hM2268 hr2277)
                        have hv2292 := hv_app (L := [blk (.slice A2273 n2274 c2275), blk (.slice A2232 n2233 c2234), blk (.slice A2209 n2210 c2211), blk (.slice A2186 n2187 c2188), blk (.slice A2166 n2167 c2168), blk (.slice A2096 n2097 c2098), blk (.slice A71 n72 c73), some b47, some b35]) (O := O) (i := 0) hM2281 rfl (hv_new hM2268 hr2277) s2288 hc2289
                        refine L_nil ⟨hM2291, ?_⟩
                        refine M_any1 18 (by kernel_rfl) rfl ?_
                        refine L_run (dj := 82) rfl rfl (by exact congrArg Value.bool hq2269) ?_
                        refine L_lit (kd := kPt) ei33 hc2289 ([(⟨98, 98⟩ : Pt)] : List Pt) (cells := [vi 98, vi 98]) ⟨[vi 98, vi 98], _, rfl, (kPt.mk _ _ (⟨98, 98⟩ : Pt)), rfl⟩ (fun _ => by kernel_rfl) fun w2294 A2295 n2296 c2297 g2298 hr2299 hc2300 h2301 => ?_
                        have hM2303 := Gr.tm hM2291 g2298
                        refine L_nil ⟨hM2303, ?_⟩
                        refine M_any1 19 (by kernel_rfl) rfl ?_
                        refine L_run (dj := 82) rfl rfl (by exact congrArg Value.bool hq2269) ?_
                        have h2304 := (h2290.so _ g2298 hr2299)
                        refine L_app ei33 hc2300 (.slice A2284 n2285 c2286) (([(⟨99, 99⟩ : Pt)] : List Pt) ++ r) ([(⟨98, 98⟩ : Pt)] : List Pt) rfl h2304 (.slice A2295 n2296 c2297) rfl h2301.sx 1 rfl hb2248 fun w2305 A2306 n2307 c2308 g2309 s2310 hc2311 h2312 => ?_
                        have hM2313 := Gr.tq hM2303 g2309 hv2292
                        have hv2314 := hv_app (L := [blk (.slice A2295 n2296 c2297), blk (.slice A2284 n2285 c2286), blk (.slice A2232 n2233 c2234), blk (.slice A2209 n2210 c2211), blk (.slice A2186 n2187 c2188), blk (.slice A2166 n2167 c2168), blk (.slice A2096 n2097 c2098), blk (.slice A71 n72 c73), some b47, some b35]) (O := O) (i := 1) hM2303 rfl hv2292 s2310 hc2311
                        refine L_nil ⟨hM2313, ?_⟩
                        refine M_any1 20 (by kernel_rfl) rfl ?_
                        refine L_run (dj := 82) rfl rfl (by exact congrArg Value.bool hq2269) ?_
                        have h2316 := (Ow.sm (L := [blk (.slice A2295 n2296 c2297), blk (.slice A2284 n2285 c2286), blk (.slice A2232 n2233 c2234), blk (.slice A2209 n2210 c2211), blk (.slice A2186 n2187 c2188), blk (.slice A2166 n2167 c2168), blk (.slice A2096 n2097 c2098), blk (.slice A71 n72 c73), some b47, some b35]) (O := O) ((Ow.sm (L := [blk (.slice A2273 n2274 c2275), blk (.slice A2232 n2233 c2234), blk (.slice A2209 n2210 c2211), blk (.slice A2186 n2187 c2188), blk (.slice A2166 n2167 c2168), blk (.slice A2096 n2097 c2098), blk (.slice A71 n72 c73), some b47, some b35]) (O := O) (((((h2196.sos g2208 hk2216).sos g2231 hk2239).sn g2244).sn g2263).so _ g2276 hr2277) hc2278 (i := 3) rfl (j := 0) rfl (by decide) g2287 s2288).so _ g2298 hr2299) hc2300 (i := 4) rfl (j := 1) rfl (by decide) g2309 s2310)
                        have h2317 := Ow.gv (L := [blk (.slice A2295 n2296 c2297), blk (.slice A2306 n2307 c2308), blk (.slice A2232 n2233 c2234), blk (.slice A2209 n2210 c2211), blk (.slice A2186 n2187 c2188), blk (.slice A2166 n2167 c2168), blk (.slice A2096 n2097 c2098), blk (.slice A71 n72 c73), some b47, some b35]) (O := O) h2316 hc2311 (i := 4) rfl
                        have hc2318 := hc2311.drop 4 rfl
                        have h2321 := (Ow.sd (L := [blk (.slice A2295 n2296 c2297), blk (.slice A2306 n2307 c2308), blk (.slice A2232 n2233 c2234), blk (.slice A2209 n2210 c2211), blk (.slice A2186 n2187 c2188), blk (.slice A2166 n2167 c2168), blk (.slice A2096 n2097 c2098), blk (.slice A71 n72 c73), some b47, some b35]) (O := O) h2312 (i := 1) rfl (j := 4) rfl (by decide))
                        have h2322 := Ow.gv (L := [blk (.slice A2295 n2296 c2297), blk (.slice A2306 n2307 c2308), blk (.slice A2232 n2233 c2234), blk (.slice A2209 n2210 c2211), blk (.slice A2166 n2167 c2168), blk (.slice A2096 n2097 c2098), blk (.slice A71 n72 c73), some b47, some b35]) (O := O) h2321 hc2318 (i := 1) rfl
                        have hc2323 := hc2318.drop 1 rfl
                        have h2326 := (h2317.st (.dr _ (L := [blk (.slice A2295 n2296 c2297), blk (.slice A2306 n2307 c2308), blk (.slice A2232 n2233 c2234), blk (.slice A2209 n2210 c2211), blk (.slice A2166 n2167 c2168), blk (.slice A2096 n2097 c2098), blk (.slice A71 n72 c73), some b47, some b35]) (O := O) (j := 1) rfl))
                        refine L_call go40 [.slice A2186 n2187 c2188, .slice A2306 n2307 c2308] rfl ((laws_wsSame.calls w2305 hc2323.ok r4 A2186 n2187 c2188 h2326 ((([(⟨99, 99⟩ : Pt)] : List Pt) ++ r) ++ ([(⟨98, 98⟩ : Pt)] : List Pt)) A2306 n2307 c2308 h2322 _ H).mono ?_)
                        rintro _ w2327 ⟨r11, rfl, H, g2328⟩
                        have hc2332 := hc2311.k0 g2328
                        have hM2333 := Gr.tm hM2313 g2328
                        refine L_nil ⟨hM2333, ?_⟩
                        refine M_pu 21 rfl (by kernel_rfl) hM2333 (P_pick true (vb r11) (by exact congrArg Value.bool hq2269) rfl) ?_
                        refine M_pu 22 rfl (by kernel_rfl) hM2333 (P_move (vb r11) rfl) ?_
                        rcases bool_or r11 with hq2334 | hq2334
                        · have H := ite_t H hq2334
                          refine M_pug 23 (dj := 93) rfl (by kernel_rfl) hM2333 rfl rfl (by exact congrArg Value.bool hq2334) (P_move (vb r9) rfl) ?_
                          refine M_pug 24 (dj := 93) rfl (by kernel_rfl) hM2333 rfl rfl (by exact congrArg Value.bool hq2334) (P_not r9 rfl) ?_
                          refine M_pu 25 rfl (by kernel_rfl) hM2333 (P_pick true (vb (!r9)) (by exact congrArg Value.bool hq2334) rfl) ?_
                          refine M_pu 26 rfl (by kernel_rfl) hM2333 (P_assign (vb (!r9)) rfl) ?_
                          refine M_nil (by kernel_rfl) ?_
                          refine W_ret ?_
                          have hc2335 := hc2332.drop 0 rfl
                          have hc2336 := hc2335.drop 0 rfl
                          have hc2337 := hc2336.drop 0 rfl
                          have hc2338 := hc2337.drop 0 rfl
                          have hc2339 := hc2338.drop 0 rfl
                          have hc2340 := hc2339.drop 0 rfl
                          have hc2341 := hc2340.drop 0 rfl
                          have hc2342 := hc2341.drop 0 rfl
                          have hc2343 := hc2342.drop 0 rfl
                          have hc2344 := hc2343.drop 0 rfl
                          exact ⟨[vb (!r9)], ⟨_, rfl, rfl⟩, !r9, rfl, H, hc2344.gr⟩
                        · have H := ite_f H hq2334
                          refine M_pass 23 (dj := 93) rfl (by kernel_rfl) hM2333 rfl rfl (.inl (by exact congrArg Value.bool hq2334)) ?_
                          refine M_pass 24 (dj := 93) rfl (by kernel_rfl) hM2333 rfl rfl (.inl (by exact congrArg Value.bool hq2334)) ?_
                          refine M_pu 25 rfl (by kernel_rfl) hM2333 (P_pick false (vb false) (by exact congrArg Value.bool hq2334) rfl) ?_
                          refine M_pu 26 rfl (by kernel_rfl) hM2333 (P_assign (vb false) rfl) ?_
                          refine M_nil (by kernel_rfl) ?_
                          refine W_ret ?_
                          have hc2345 := hc2332.drop 0 rfl
                          have hc2346 := hc2345.drop 0 rfl
                          have hc2347 := hc2346.drop 0 rfl
                          have hc2348 := hc2347.drop 0 rfl
                          have hc2349 := hc2348.drop 0 rfl
                          have hc2350 := hc2349.drop 0 rfl
                          have hc2351 := hc2350.drop 0 rfl
                          have hc2352 := hc2351.drop 0 rfl
                          have hc2353 := hc2352.drop 0 rfl
                          have hc2354 := hc2353.drop 0 rfl
                          exact ⟨[vb false], ⟨_, rfl, rfl⟩, false, rfl, H, hc2354.gr⟩
                      · refine L_run (dj := 82) rfl rfl (by exact congrArg Value.bool hq2269) ?_
                        refine L_lit (kd := kPt) ei33 hc2278 ([(⟨98, 98⟩ : Pt)] : List Pt) (cells := [vi 98, vi 98]) ⟨[vi 98, vi 98], _, rfl, (kPt.mk _ _ (⟨98, 98⟩ : Pt)), rfl⟩ (fun _ => by kernel_rfl) fun w2282 A2283 n2284 c2285 g2286 hr2287 hc2288 h2289 => ?_
                        have hM2291 := Gr.tm hM2281 g2286
                        refine L_nil ⟨hM2291, ?_⟩
                        refine M_any1 16 (by kernel_rfl) rfl ?_
                        refine L_run (dj := 82) rfl rfl (by exact congrArg Value.bool hq2269) ?_
                        have h2292 := (((((((((h2091.st (.own _ _ g2159 hr2160)).st s2170).st (.owns _ g2185 hk2193)).st (.owns _ g2208 hk2216)).st (.owns _ g2231 hk2239)).st (.new _ g2244)).st (.new _ g2263)).st (.own _ _ g2276 hr2277)).st (.own _ _ g2286 hr2287))
                        have h2293 := (h2279.so _ g2286 hr2287)
                        refine L_app ei33 hc2288 (.slice A2273 n2274 c2275) ([(⟨99, 99⟩ : Pt)] : List Pt) r rfl h2293 (.slice A10 n11 c12) rfl h2292.sx 1 rfl hb2247 fun w2294 A2295 n2296 c2297 g2298 s2299 hc2300 h2301 => ?_
                        have hM2302 := Gr.tq hM2291 g2298 (hv_new hM2268 hr2277)
                        have hv2303 := hv_app (L := [blk (.slice A2283 n2284 c2285), blk (.slice A2273 n2274 c2275), blk (.slice A2232 n2233 c2234), blk (.slice A2209 n2210 c2211), blk (.slice A2186 n2187 c2188), blk (.slice A2166 n2167 c2168), blk (.slice A2096 n2097 c2098), blk (.slice A71 n72 c73), some b47, some b35]) (O := O) (i := 1) hM2291 rfl (hv_new hM2268 hr2277) s2299 hc2300
                        refine L_nil ⟨hM2302, ?_⟩
                        refine M_any1 19 (by kernel_rfl) rfl ?_
                        refine L_run (dj := 82) rfl rfl (by exact congrArg Value.bool hq2269) ?_
                        have h2305 := (Ow.sm (L := [blk (.slice A2283 n2284 c2285), blk (.slice A2273 n2274 c2275), blk (.slice A2232 n2233 c2234), blk (.slice A2209 n2210 c2211), blk (.slice A2186 n2187 c2188), blk (.slice A2166 n2167 c2168), blk (.slice A2096 n2097 c2098), blk (.slice A71 n72 c73), some b47, some b35]) (O := O) h2289 hc2288 (i := 0) rfl (j := 1) rfl (by decide) g2298 s2299)
                        refine L_app ei33 hc2300 (.slice A2295 n2296 c2297) (([(⟨99, 99⟩ : Pt)] : List Pt) ++ r) ([(⟨98, 98⟩ : Pt)] : List Pt) rfl h2301 (.slice A2283 n2284 c2285) rfl h2305.sx 1 rfl hb2248 fun w2306 A2307 n2308 c2309 g2310 s2311 hc2312 h2313 => ?_
                        have hM2314 := Gr.tq hM2302 g2310 hv2303
                        have hv2315 := hv_app (L := [blk (.slice A2283 n2284 c2285), blk (.slice A2295 n2296 c2297), blk (.slice A2232 n2233 c2234), blk (.slice A2209 n2210 c2211), blk (.slice A2186 n2187 c2188), blk (.slice A2166 n2167 c2168), blk (.slice A2096 n2097 c2098), blk (.slice A71 n72 c73), some b47, some b35]) (O := O) (i := 1) hM2302 rfl hv2303 s2311 hc2312
                        refine L_nil ⟨hM2314, ?_⟩
                        refine M_any1 20 (by kernel_rfl) rfl ?_
                        refine L_run (dj := 82) rfl rfl (by exact congrArg Value.bool hq2269) ?_
                        have h2317 := (Ow.sm (L := [blk (.slice A2283 n2284 c2285), blk (.slice A2295 n2296 c2297), blk (.slice A2232 n2233 c2234), blk (.slice A2209 n2210 c2211), blk (.slice A2186 n2187 c2188), blk (.slice A2166 n2167 c2168), blk (.slice A2096 n2097 c2098), blk (.slice A71 n72 c73), some b47, some b35]) (O := O) (Ow.sm (L := [blk (.slice A2283 n2284 c2285), blk (.slice A2273 n2274 c2275), blk (.slice A2232 n2233 c2234), blk (.slice A2209 n2210 c2211), blk (.slice A2186 n2187 c2188), blk (.slice A2166 n2167 c2168), blk (.slice A2096 n2097 c2098), blk (.slice A71 n72 c73), some b47, some b35]) (O := O) ((((((h2196.sos g2208 hk2216).sos g2231 hk2239).sn g2244).sn g2263).so _ g2276 hr2277).so _ g2286 hr2287) hc2288 (i := 4) rfl (j := 1) rfl (by decide) g2298 s2299) hc2300 (i := 4) rfl (j := 1) rfl (by decide) g2310 s2311)
                        have h2318 := Ow.gv (L := [blk (.slice A2283 n2284 c2285), blk (.slice A2307 n2308 c2309), blk (.slice A2232 n2233 c2234), blk (.slice A2209 n2210 c2211), blk (.slice A2186 n2187 c2188), blk (.slice A2166 n2167 c2168), blk (.slice A2096 n2097 c2098), blk (.slice A71 n72 c73), some b47, some b35]) (O := O) h2317 hc2312 (i := 4) rfl
                        have hc2319 := hc2312.drop 4 rfl
                        have h2322 := (Ow.sd (L := [blk (.slice A2283 n2284 c2285), blk (.slice A2307 n2308 c2309), blk (.slice A2232 n2233 c2234), blk (.slice A2209 n2210 c2211), blk (.slice A2186 n2187 c2188), blk (.slice A2166 n2167 c2168), blk (.slice A2096 n2097 c2098), blk (.slice A71 n72 c73), some b47, some b35]) (O := O) h2313 (i := 1) rfl (j := 4) rfl (by decide))
                        have h2323 := Ow.gv (L := [blk (.slice A2283 n2284 c2285), blk (.slice A2307 n2308 c2309), blk (.slice A2232 n2233 c2234), blk (.slice A2209 n2210 c2211), blk (.slice A2166 n2167 c2168), blk (.slice A2096 n2097 c2098), blk (.slice A71 n72 c73), some b47, some b35]) (O := O) h2322 hc2319 (i := 1) rfl
                        have hc2324 := hc2319.drop 1 rfl
                        have h2327 := (h2318.st (.dr _ (L := [blk (.slice A2283 n2284 c2285), blk (.slice A2307 n2308 c2309), blk (.slice A2232 n2233 c2234), blk (.slice A2209 n2210 c2211), blk (.slice A2166 n2167 c2168), blk (.slice A2096 n2097 c2098), blk (.slice A71 n72 c73), some b47, some b35]) (O := O) (j := 1) rfl))
                        refine L_call go40 [.slice A2186 n2187 c2188, .slice A2307 n2308 c2309] rfl ((laws_wsSame.calls w2306 hc2324.ok r4 A2186 n2187 c2188 h2327 ((([(⟨99, 99⟩ : Pt)] : List Pt) ++ r) ++ ([(⟨98, 98⟩ : Pt)] : List Pt)) A2307 n2308 c2309 h2323 _ H).mono ?_)
                        rintro _ w2328 ⟨r11, rfl, H, g2329⟩
                        have hc2333 := hc2312.k0 g2329
                        have hM2334 := Gr.tm hM2314 g2329
                        refine L_nil ⟨hM2334, ?_⟩
                        refine M_pu 21 rfl (by kernel_rfl) hM2334 (P_pick true (vb r11) (by exact congrArg Value.bool hq2269) rfl) ?_
                        refine M_pu 22 rfl (by kernel_rfl) hM2334 (P_move (vb r11) rfl) ?_
                        rcases bool_or r11 with hq2335 | hq2335
                        · have H := ite_t H hq2335
                          refine M_pug 23 (dj := 93) rfl (by kernel_rfl) hM2334 rfl rfl (by exact congrArg Value.bool hq2335) (P_move (vb r9) rfl) ?_
                          refine M_pug 24 (dj := 93) rfl (by kernel_rfl) hM2334 rfl rfl (by exact congrArg Value.bool hq2335) (P_not r9 rfl) ?_
                          refine M_pu 25 rfl (by kernel_rfl) hM2334 (P_pick true (vb (!r9)) (by exact congrArg Value.bool hq2335) rfl) ?_
                          refine M_pu 26 rfl (by kernel_rfl) hM2334 (P_assign (vb (!r9)) rfl) ?_
                          refine M_nil (by kernel_rfl) ?_
                          refine W_ret ?_
                          have hc2336 := hc2333.drop 0 rfl
                          have hc2337 := hc2336.drop 0 rfl
                          have hc2338 := hc2337.drop 0 rfl
                          have hc2339 := hc2338.drop 0 rfl
                          have hc2340 := hc2339.drop 0 rfl
                          have hc2341 := hc2340.drop 0 rfl
                          have hc2342 := hc2341.drop 0 rfl
                          have hc2343 := hc2342.drop 0 rfl
                          have hc2344 := hc2343.drop 0 rfl
                          have hc2345 := hc2344.drop 0 rfl
                          exact ⟨[vb (!r9)], ⟨_, rfl, rfl⟩, !r9, rfl, H, hc2345.gr⟩
                        · have H := ite_f H hq2335
                          refine M_pass 23 (dj := 93) rfl (by kernel_rfl) hM2334 rfl rfl (.inl (by exact congrArg Value.bool hq2335)) ?_
                          refine M_pass 24 (dj := 93) rfl (by kernel_rfl) hM2334 rfl rfl (.inl (by exact congrArg Value.bool hq2335)) ?_
                          refine M_pu 25 rfl (by kernel_rfl) hM2334 (P_pick false (vb false) (by exact congrArg Value.bool hq2335) rfl) ?_
                          refine M_pu 26 rfl (by kernel_rfl) hM2334 (P_assign (vb false) rfl) ?_
                          refine M_nil (by kernel_rfl) ?_
                          refine W_ret ?_
                          have hc2346 := hc2333.drop 0 rfl
                          have hc2347 := hc2346.drop 0 rfl
                          have hc2348 := hc2347.drop 0 rfl
                          have hc2349 := hc2348.drop 0 rfl
                          have hc2350 := hc2349.drop 0 rfl
                          have hc2351 := hc2350.drop 0 rfl
                          have hc2352 := hc2351.drop 0 rfl
                          have hc2353 := hc2352.drop 0 rfl
                          have hc2354 := hc2353.drop 0 rfl
                          have hc2355 := hc2354.drop 0 rfl
                          exact ⟨[vb false], ⟨_, rfl, rfl⟩, false, rfl, H, hc2355.gr⟩
                    · refine L_run (dj := 82) rfl rfl (by exact congrArg Value.bool hq2269) ?_
                      refine L_lit (kd := kPt) ei33 hc2267 ([(⟨98, 98⟩ : Pt)] : List Pt) (cells := [vi 98, vi 98]) ⟨[vi 98, vi 98], _, rfl, (kPt.mk _ _ (⟨98, 98⟩ : Pt)), rfl⟩ (fun _ => by kernel_rfl) fun w2272 A2273 n2274 c2275 g2276 hr2277 hc2278 h2279 => ?_
                      have hM2281 := Gr.tm hM2268 g2276
                      refine L_nil ⟨hM2281, ?_⟩
                      refine M_any1 14 (by kernel_rfl) rfl ?_
                      refine L_run (dj := 82) rfl rfl (by exact congrArg Value.bool hq2269) ?_
                      refine L_lit (kd := kPt) ei33 hc2278 ([(⟨99, 99⟩ : Pt)] : List Pt) (cells := [vi 99, vi 99]) ⟨[vi 99, vi 99], _, rfl, (kPt.mk _ _ (⟨99, 99⟩ : Pt)), rfl⟩ (fun _ => by kernel_rfl) fun w2282 A2283 n2284 c2285 g2286 hr2287 hc2288 h2289 => ?_
                      have hM2291 := Gr.tm hM2281 g2286
                      refine L_nil ⟨hM2291, ?_⟩
                      refine M_any1 16 (by kernel_rfl) rfl ?_
                      refine L_run (dj := 82) rfl rfl (by exact congrArg Value.bool hq2269) ?_
                      have h2292 := (((((((((h2091.st (.own _ _ g2159 hr2160)).st s2170).st (.owns _ g2185 hk2193)).st (.owns _ g2208 hk2216)).st (.owns _ g2231 hk2239)).st (.new _ g2244)).st (.new _ g2263)).st (.own _ _ g2276 hr2277)).st (.own _ _ g2286 hr2287))
                      refine L_app ei33 hc2288 (.slice A2283 n2284 c2285) ([(⟨99, 99⟩ : Pt)] : List Pt) r rfl h2289 (.slice A10 n11 c12) rfl h2292.sx 0 rfl hb2247 fun w2293 A2294 n2295 c2296 g2297 s2298 hc2299 h2300 => ?_
                      have hM2301 := Gr.tq hM2291 g2297 (hv_new hM2281 hr2287)
                      have hv2302 := hv_app (L := [blk (.slice A2283 n2284 c2285), blk (.slice A2273 n2274 c2275), blk (.slice A2232 n2233 c2234), blk (.slice A2209 n2210 c2211), blk (.slice A2186 n2187 c2188), blk (.slice A2166 n2167 c2168), blk (.slice A2096 n2097 c2098), blk (.slice A71 n72 c73), some b47, some b35]) (O := O) (i := 0) hM2291 rfl (hv_new hM2281 hr2287) s2298 hc2299
                      refine L_nil ⟨hM2301, ?_⟩
                      refine M_any1 19 (by kernel_rfl) rfl ?_
                      refine L_run (dj := 82) rfl rfl (by exact congrArg Value.bool hq2269) ?_
                      have h2304 := (Ow.sm (L := [blk (.slice A2283 n2284 c2285), blk (.slice A2273 n2274 c2275), blk (.slice A2232 n2233 c2234), blk (.slice A2209 n2210 c2211), blk (.slice A2186 n2187 c2188), blk (.slice A2166 n2167 c2168), blk (.slice A2096 n2097 c2098), blk (.slice A71 n72 c73), some b47, some b35]) (O := O) (h2279.so _ g2286 hr2287) hc2288 (i := 1) rfl (j := 0) rfl (by decide) g2297 s2298)
                      refine L_app ei33 hc2299 (.slice A2294 n2295 c2296) (([(⟨99, 99⟩ : Pt)] : List Pt) ++ r) ([(⟨98, 98⟩ : Pt)] : List Pt) rfl h2300 (.slice A2273 n2274 c2275) rfl h2304.sx 0 rfl hb2248 fun w2305 A2306 n2307 c2308 g2309 s2310 hc2311 h2312 => ?_
                      have hM2313 := Gr.tq hM2301 g2309 hv2302
                      have hv2314 := hv_app (L := [blk (.slice A2294 n2295 c2296), blk (.slice A2273 n2274 c2275), blk (.slice A2232 n2233 c2234), blk (.slice A2209 n2210 c2211), blk (.slice A2186 n2187 c2188), blk (.slice A2166 n2167 c2168), blk (.slice A2096 n2097 c2098), blk (.slice A71 n72 c73), some b47, some b35]) (O := O) (i := 0) hM2301 rfl hv2302 s2310 hc2311
                      refine L_nil ⟨hM2313, ?_⟩
                      refine M_any1 20 (by kernel_rfl) rfl ?_
                      refine L_run (dj := 82) rfl rfl (by exact congrArg Value.bool hq2269) ?_
                      have h2316 := (Ow.sm (L := [blk (.slice A2294 n2295 c2296), blk (.slice A2273 n2274 c2275), blk (.slice A2232 n2233 c2234), blk (.slice A2209 n2210 c2211), blk (.slice A2186 n2187 c2188), blk (.slice A2166 n2167 c2168), blk (.slice A2096 n2097 c2098), blk (.slice A71 n72 c73), some b47, some b35]) (O := O) (Ow.sm (L := [blk (.slice A2283 n2284 c2285), blk (.slice A2273 n2274 c2275), blk (.slice A2232 n2233 c2234), blk (.slice A2209 n2210 c2211), blk (.slice A2186 n2187 c2188), blk (.slice A2166 n2167 c2168), blk (.slice A2096 n2097 c2098), blk (.slice A71 n72 c73), some b47, some b35]) (O := O) ((((((h2196.sos g2208 hk2216).sos g2231 hk2239).sn g2244).sn g2263).so _ g2276 hr2277).so _ g2286 hr2287) hc2288 (i := 4) rfl (j := 0) rfl (by decide) g2297 s2298) hc2299 (i := 4) rfl (j := 0) rfl (by decide) g2309 s2310)
                      have h2317 := Ow.gv (L := [blk (.slice A2306 n2307 c2308), blk (.slice A2273 n2274 c2275), blk (.slice A2232 n2233 c2234), blk (.slice A2209 n2210 c2211), blk (.slice A2186 n2187 c2188), blk (.slice A2166 n2167 c2168), blk (.slice A2096 n2097 c2098), blk (.slice A71 n72 c73), some b47, some b35]) (O := O) h2316 hc2311 (i := 4) rfl
                      have hc2318 := hc2311.drop 4 rfl
                      have h2321 := (Ow.sd (L := [blk (.slice A2306 n2307 c2308), blk (.slice A2273 n2274 c2275), blk (.slice A2232 n2233 c2234), blk (.slice A2209 n2210 c2211), blk (.slice A2186 n2187 c2188), blk (.slice A2166 n2167 c2168), blk (.slice A2096 n2097 c2098), blk (.slice A71 n72 c73), some b47, some b35]) (O := O) h2312 (i := 0) rfl (j := 4) rfl (by decide))
                      have h2322 := Ow.gv (L := [blk (.slice A2306 n2307 c2308), blk (.slice A2273 n2274 c2275), blk (.slice A2232 n2233 c2234), blk (.slice A2209 n2210 c2211), blk (.slice A2166 n2167 c2168), blk (.slice A2096 n2097 c2098), blk (.slice A71 n72 c73), some b47, some b35]) (O := O) h2321 hc2318 (i := 0) rfl
                      have hc2323 := hc2318.drop 0 rfl
                      have h2326 := (h2317.st (.dr _ (L := [blk (.slice A2306 n2307 c2308), blk (.slice A2273 n2274 c2275), blk (.slice A2232 n2233 c2234), blk (.slice A2209 n2210 c2211), blk (.slice A2166 n2167 c2168), blk (.slice A2096 n2097 c2098), blk (.slice A71 n72 c73), some b47, some b35]) (O := O) (j := 0) rfl))
                      refine L_call go40 [.slice A2186 n2187 c2188, .slice A2306 n2307 c2308] rfl ((laws_wsSame.calls w2305 hc2323.ok r4 A2186 n2187 c2188 h2326 ((([(⟨99, 99⟩ : Pt)] : List Pt) ++ r) ++ ([(⟨98, 98⟩ : Pt)] : List Pt)) A2306 n2307 c2308 h2322 _ H).mono ?_)
                      rintro _ w2327 ⟨r11, rfl, H, g2328⟩
                      have hc2332 := hc2311.k0 g2328
                      have hM2333 := Gr.tm hM2313 g2328
                      refine L_nil ⟨hM2333, ?_⟩
                      refine M_pu 21 rfl (by kernel_rfl) hM2333 (P_pick true (vb r11) (by exact congrArg Value.bool hq2269) rfl) ?_
                      refine M_pu 22 rfl (by kernel_rfl) hM2333 (P_move (vb r11) rfl) ?_
                      rcases bool_or r11 with hq2334 | hq2334
                      · have H := ite_t H hq2334
                        refine M_pug 23 (dj := 93) rfl (by kernel_rfl) hM2333 rfl rfl (by exact congrArg Value.bool hq2334) (P_move (vb r9) rfl) ?_
                        refine M_pug 24 (dj := 93) rfl (by kernel_rfl) hM2333 rfl rfl (by exact congrArg Value.bool hq2334) (P_not r9 rfl) ?_
                        refine M_pu 25 rfl (by kernel_rfl) hM2333 (P_pick true (vb (!r9)) (by exact congrArg Value.bool hq2334) rfl) ?_
                        refine M_pu 26 rfl (by kernel_rfl) hM2333 (P_assign (vb (!r9)) rfl) ?_
                        refine M_nil (by kernel_rfl) ?_
                        refine W_ret ?_
                        have hc2335 := hc2332.drop 0 rfl
                        have hc2336 := hc2335.drop 0 rfl
                        have hc2337 := hc2336.drop 0 rfl
                        have hc2338 := hc2337.drop 0 rfl
                        have hc2339 := hc2338.drop 0 rfl
                        have hc2340 := hc2339.drop 0 rfl
                        have hc2341 := hc2340.drop 0 rfl
                        have hc2342 := hc2341.drop 0 rfl
                        have hc2343 := hc2342.drop 0 rfl
                        have hc2344 := hc2343.drop 0 rfl
                        exact ⟨[vb (!r9)], ⟨_, rfl, rfl⟩, !r9, rfl, H, hc2344.gr⟩
                      · have H := ite_f H hq2334
                        refine M_pass 23 (dj := 93) rfl (by kernel_rfl) hM2333 rfl rfl (.inl (by exact congrArg Value.bool hq2334)) ?_
                        refine M_pass 24 (dj := 93) rfl (by kernel_rfl) hM2333 rfl rfl (.inl (by exact congrArg Value.bool hq2334)) ?_
                        refine M_pu 25 rfl (by kernel_rfl) hM2333 (P_pick false (vb false) (by exact congrArg Value.bool hq2334) rfl) ?_
                        refine M_pu 26 rfl (by kernel_rfl) hM2333 (P_assign (vb false) rfl) ?_
                        refine M_nil (by kernel_rfl) ?_
                        refine W_ret ?_
                        have hc2345 := hc2332.drop 0 rfl
                        have hc2346 := hc2345.drop 0 rfl
                        have hc2347 := hc2346.drop 0 rfl
                        have hc2348 := hc2347.drop 0 rfl
                        have hc2349 := hc2348.drop 0 rfl
                        have hc2350 := hc2349.drop 0 rfl
                        have hc2351 := hc2350.drop 0 rfl
                        have hc2352 := hc2351.drop 0 rfl
                        have hc2353 := hc2352.drop 0 rfl
                        have hc2354 := hc2353.drop 0 rfl
                        exact ⟨[vb false], ⟨_, rfl, rfl⟩, false, rfl, H, hc2354.gr⟩
                  · refine L_run (dj := 82) rfl rfl (by exact congrArg Value.bool hq2269) ?_
                    refine L_lit (kd := kPt) ei33 hc2267 ([(⟨98, 98⟩ : Pt)] : List Pt) (cells := [vi 98, vi 98]) ⟨[vi 98, vi 98], _, rfl, (kPt.mk _ _ (⟨98, 98⟩ : Pt)), rfl⟩ (fun _ => by kernel_rfl) fun w2271 A2272 n2273 c2274 g2275 hr2276 hc2277 h2278 => ?_
                    have hM2280 := Gr.tm hM2268 g2275
                    refine L_nil ⟨hM2280, ?_⟩
                    refine M_any1 13 (by kernel_rfl) rfl ?_
                    refine L_run (dj := 82) rfl rfl (by exact congrArg Value.bool hq2269) ?_
                    have h2281 := (((((((Bx.sm (L := [blk (.slice A2156 n2157 c2158), blk (.slice A2096 n2097 c2098), blk (.slice A71 n72 c73), some b47, some b35]) (O := O) (h2094.k0 g2159) hc2161 (i := 4) rfl (j := 0) rfl (by decide) g2169).k0 g2185).k0 g2208).k0 g2231).k0 g2244).k0 g2263).k0 g2275)
                    refine L_pu (P_lda ag41 sz41 cL ⟨b35, 0, none⟩ [vi 99, vi 99] rfl rfl (h2281.cells (off := 0) rfl)) ?_
                    refine L_nil ⟨hM2280, ?_⟩
                    refine M_any1 14 (by kernel_rfl) rfl ?_
                    refine L_run (dj := 82) rfl rfl (by exact congrArg Value.bool hq2269) ?_
                    refine L_lit (kd := kPt) ei33 hc2277 ([(⟨99, 99⟩ : Pt)] : List Pt) (cells := [vi 99, vi 99]) ⟨[vi 99, vi 99], _, rfl, (kPt.mk _ _ (⟨99, 99⟩ : Pt)), rfl⟩ (fun _ => by kernel_rfl) fun w2282 A2283 n2284 c2285 g2286 hr2287 hc2288 h2289 => ?_
                    have hM2291 := Gr.tm hM2280 g2286
                    refine L_nil ⟨hM2291, ?_⟩
                    refine M_any1 16 (by kernel_rfl) rfl ?_
                    refine L_run (dj := 82) rfl rfl (by exact congrArg Value.bool hq2269) ?_
                    have h2292 := (((((((((h2091.st (.own _ _ g2159 hr2160)).st s2170).st (.owns _ g2185 hk2193)).st (.owns _ g2208 hk2216)).st (.owns _ g2231 hk2239)).st (.new _ g2244)).st (.new _ g2263)).st (.own _ _ g2275 hr2276)).st (.own _ _ g2286 hr2287))
                    refine L_app ei33 hc2288 (.slice A2283 n2284 c2285) ([(⟨99, 99⟩ : Pt)] : List Pt) r rfl h2289 (.slice A10 n11 c12) rfl h2292.sx 0 rfl hb2247 fun w2293 A2294 n2295 c2296 g2297 s2298 hc2299 h2300 => ?_
                    have hM2301 := Gr.tq hM2291 g2297 (hv_new hM2280 hr2287)
                    have hv2302 := hv_app (L := [blk (.slice A2283 n2284 c2285), blk (.slice A2272 n2273 c2274), blk (.slice A2232 n2233 c2234), blk (.slice A2209 n2210 c2211), blk (.slice A2186 n2187 c2188), blk (.slice A2166 n2167 c2168), blk (.slice A2096 n2097 c2098), blk (.slice A71 n72 c73), some b47, some b35]) (O := O) (i := 0) hM2291 rfl (hv_new hM2280 hr2287) s2298 hc2299
                    refine L_nil ⟨hM2301, ?_⟩
                    refine M_any1 19 (by kernel_rfl) rfl ?_
                    refine L_run (dj := 82) rfl rfl (by exact congrArg Value.bool hq2269) ?_
                    have h2304 := (Ow.sm (L := [blk (.slice A2283 n2284 c2285), blk (.slice A2272 n2273 c2274), blk (.slice A2232 n2233 c2234), blk (.slice A2209 n2210 c2211), blk (.slice A2186 n2187 c2188), blk (.slice A2166 n2167 c2168), blk (.slice A2096 n2097 c2098), blk (.slice A71 n72 c73), some b47, some b35]) (O := O) (h2278.so _ g2286 hr2287) hc2288 (i := 1) rfl (j := 0) rfl (by decide) g2297 s2298)
                    refine L_app ei33 hc2299 (.slice A2294 n2295 c2296) (([(⟨99, 99⟩ : Pt)] : List Pt) ++ r) ([(⟨98, 98⟩ : Pt)] : List Pt) rfl h2300 (.slice A2272 n2273 c2274) rfl h2304.sx 0 rfl hb2248 fun w2305 A2306 n2307 c2308 g2309 s2310 hc2311 h2312 => ?_
                    have hM2313 := Gr.tq hM2301 g2309 hv2302
                    have hv2314 := hv_app (L := [blk (.slice A2294 n2295 c2296), blk (.slice A2272 n2273 c2274), blk (.slice A2232 n2233 c2234), blk (.slice A2209 n2210 c2211), blk (.slice A2186 n2187 c2188), blk (.slice A2166 n2167 c2168), blk (.slice A2096 n2097 c2098), blk (.slice A71 n72 c73), some b47, some b35]) (O := O) (i := 0) hM2301 rfl hv2302 s2310 hc2311
                    refine L_nil ⟨hM2313, ?_⟩
                    refine M_any1 20 (by kernel_rfl) rfl ?_
                    refine L_run (dj := 82) rfl rfl (by exact congrArg Value.bool hq2269) ?_
                    have h2316 := (Ow.sm (L := [blk (.slice A2294 n2295 c2296), blk (.slice A2272 n2273 c2274), blk (.slice A2232 n2233 c2234), blk (.slice A2209 n2210 c2211), blk (.slice A2186 n2187 c2188), blk (.slice A2166 n2167 c2168), blk (.slice A2096 n2097 c2098), blk (.slice A71 n72 c73), some b47, some b35]) (O := O) (Ow.sm (L := [blk (.slice A2283 n2284 c2285), blk (.slice A2272 n2273 c2274), blk (.slice A2232 n2233 c2234), blk (.slice A2209 n2210 c2211), blk (.slice A2186 n2187 c2188), blk (.slice A2166 n2167 c2168), blk (.slice A2096 n2097 c2098), blk (.slice A71 n72 c73), some b47, some b35]) (O := O) ((((((h2196.sos g2208 hk2216).sos g2231 hk2239).sn g2244).sn g2263).so _ g2275 hr2276).so _ g2286 hr2287) hc2288 (i := 4) rfl (j := 0) rfl (by decide) g2297 s2298) hc2299 (i := 4) rfl (j := 0) rfl (by decide) g2309 s2310)
                    have h2317 := Ow.gv (L := [blk (.slice A2306 n2307 c2308), blk (.slice A2272 n2273 c2274), blk (.slice A2232 n2233 c2234), blk (.slice A2209 n2210 c2211), blk (.slice A2186 n2187 c2188), blk (.slice A2166 n2167 c2168), blk (.slice A2096 n2097 c2098), blk (.slice A71 n72 c73), some b47, some b35]) (O := O) h2316 hc2311 (i := 4) rfl
                    have hc2318 := hc2311.drop 4 rfl
                    have h2321 := (Ow.sd (L := [blk (.slice A2306 n2307 c2308), blk (.slice A2272 n2273 c2274), blk (.slice A2232 n2233 c2234), blk (.slice A2209 n2210 c2211), blk (.slice A2186 n2187 c2188), blk (.slice A2166 n2167 c2168), blk (.slice A2096 n2097 c2098), blk (.slice A71 n72 c73), some b47, some b35]) (O := O) h2312 (i := 0) rfl (j := 4) rfl (by decide))
                    have h2322 := Ow.gv (L := [blk (.slice A2306 n2307 c2308), blk (.slice A2272 n2273 c2274), blk (.slice A2232 n2233 c2234), blk (.slice A2209 n2210 c2211), blk (.slice A2166 n2167 c2168), blk (.slice A2096 n2097 c2098), blk (.slice A71 n72 c73), some b47, some b35]) (O := O) h2321 hc2318 (i := 0) rfl
                    have hc2323 := hc2318.drop 0 rfl
                    have h2326 := (h2317.st (.dr _ (L := [blk (.slice A2306 n2307 c2308), blk (.slice A2272 n2273 c2274), blk (.slice A2232 n2233 c2234), blk (.slice A2209 n2210 c2211), blk (.slice A2166 n2167 c2168), blk (.slice A2096 n2097 c2098), blk (.slice A71 n72 c73), some b47, some b35]) (O := O) (j := 0) rfl))
                    refine L_call go40 [.slice A2186 n2187 c2188, .slice A2306 n2307 c2308] rfl ((laws_wsSame.calls w2305 hc2323.ok r4 A2186 n2187 c2188 h2326 ((([(⟨99, 99⟩ : Pt)] : List Pt) ++ r) ++ ([(⟨98, 98⟩ : Pt)] : List Pt)) A2306 n2307 c2308 h2322 _ H).mono ?_)
                    rintro _ w2327 ⟨r11, rfl, H, g2328⟩
                    have hc2332 := hc2311.k0 g2328
                    have hM2333 := Gr.tm hM2313 g2328
                    refine L_nil ⟨hM2333, ?_⟩
                    refine M_pu 21 rfl (by kernel_rfl) hM2333 (P_pick true (vb r11) (by exact congrArg Value.bool hq2269) rfl) ?_
                    refine M_pu 22 rfl (by kernel_rfl) hM2333 (P_move (vb r11) rfl) ?_
                    rcases bool_or r11 with hq2334 | hq2334
                    · have H := ite_t H hq2334
                      refine M_pug 23 (dj := 93) rfl (by kernel_rfl) hM2333 rfl rfl (by exact congrArg Value.bool hq2334) (P_move (vb r9) rfl) ?_
                      refine M_pug 24 (dj := 93) rfl (by kernel_rfl) hM2333 rfl rfl (by exact congrArg Value.bool hq2334) (P_not r9 rfl) ?_
                      refine M_pu 25 rfl (by kernel_rfl) hM2333 (P_pick true (vb (!r9)) (by exact congrArg Value.bool hq2334) rfl) ?_
                      refine M_pu 26 rfl (by kernel_rfl) hM2333 (P_assign (vb (!r9)) rfl) ?_
                      refine M_nil (by kernel_rfl) ?_
                      refine W_ret ?_
                      have hc2335 := hc2332.drop 0 rfl
                      have hc2336 := hc2335.drop 0 rfl
                      have hc2337 := hc2336.drop 0 rfl
                      have hc2338 := hc2337.drop 0 rfl
                      have hc2339 := hc2338.drop 0 rfl
                      have hc2340 := hc2339.drop 0 rfl
                      have hc2341 := hc2340.drop 0 rfl
                      have hc2342 := hc2341.drop 0 rfl
                      have hc2343 := hc2342.drop 0 rfl
                      have hc2344 := hc2343.drop 0 rfl
                      exact ⟨[vb (!r9)], ⟨_, rfl, rfl⟩, !r9, rfl, H, hc2344.gr⟩
                    · have H := ite_f H hq2334
                      refine M_pass 23 (dj := 93) rfl (by kernel_rfl) hM2333 rfl rfl (.inl (by exact congrArg Value.bool hq2334)) ?_
                      refine M_pass 24 (dj := 93) rfl (by kernel_rfl) hM2333 rfl rfl (.inl (by exact congrArg Value.bool hq2334)) ?_
                      refine M_pu 25 rfl (by kernel_rfl) hM2333 (P_pick false (vb false) (by exact congrArg Value.bool hq2334) rfl) ?_
                      refine M_pu 26 rfl (by kernel_rfl) hM2333 (P_assign (vb false) rfl) ?_
                      refine M_nil (by kernel_rfl) ?_
                      refine W_ret ?_
                      have hc2345 := hc2332.drop 0 rfl
                      have hc2346 := hc2345.drop 0 rfl
                      have hc2347 := hc2346.drop 0 rfl
                      have hc2348 := hc2347.drop 0 rfl
                      have hc2349 := hc2348.drop 0 rfl
                      have hc2350 := hc2349.drop 0 rfl
                      have hc2351 := hc2350.drop 0 rfl
                      have hc2352 := hc2351.drop 0 rfl
                      have hc2353 := hc2352.drop 0 rfl
                      have hc2354 := hc2353.drop 0 rfl
                      exact ⟨[vb false], ⟨_, rfl, rfl⟩, false, rfl, H, hc2354.gr⟩
              · have H := ite_f H hq2269
                refine M_pass 12 (dj := 82) rfl (by kernel_rfl) hM2268 rfl rfl (.inl (by exact congrArg Value.bool hq2269)) ?_
                refine M_pass 15 (dj := 82) rfl (by kernel_rfl) hM2268 rfl rfl (.inl (by exact congrArg Value.bool hq2269)) ?_
                refine M_any2 13 17 (by kernel_rfl) rfl rfl ?_ ?_
                · refine L_pass (dj := 82) rfl rfl (.inl (by exact congrArg Value.bool hq2269)) ?_
                  refine L_nil ⟨hM2268, ?_⟩
                  refine M_any2 14 17 (by kernel_rfl) rfl rfl ?_ ?_
                  · refine L_pass (dj := 82) rfl rfl (.inl (by exact congrArg Value.bool hq2269)) ?_
                    refine L_nil ⟨hM2268, ?_⟩
                    refine M_any2 16 17 (by kernel_rfl) rfl rfl ?_ ?_
                    · refine L_pass (dj := 82) rfl rfl (.inl (by exact congrArg Value.bool hq2269)) ?_
                      refine L_nil ⟨hM2268, ?_⟩
                      refine M_any1 17 (by kernel_rfl) rfl ?_
                      refine L_pass (dj := 82) rfl rfl (.inl (by exact congrArg Value.bool hq2269)) ?_
                      refine L_nil ⟨hM2268, ?_⟩
                      refine M_any1 18 (by kernel_rfl) rfl ?_
                      refine L_pass (dj := 82) rfl rfl (.inl (by exact congrArg Value.bool hq2269)) ?_
                      refine L_nil ⟨hM2268, ?_⟩
                      refine M_any1 19 (by kernel_rfl) rfl ?_
                      refine L_pass (dj := 82) rfl rfl (.inl (by exact congrArg Value.bool hq2269)) ?_
                      refine L_nil ⟨hM2268, ?_⟩
                      refine M_any1 20 (by kernel_rfl) rfl ?_
                      refine L_pass (dj := 82) rfl rfl (.inl (by exact congrArg Value.bool hq2269)) ?_
                      refine L_nil ⟨hM2268, ?_⟩
                      refine M_pu 21 rfl (by kernel_rfl) hM2268 (P_pick false (vb false) (by exact congrArg Value.bool hq2269) rfl) ?_
                      refine M_pu 22 rfl (by kernel_rfl) hM2268 (P_move (vb false) rfl) ?_
                      refine M_pass 23 (dj := 93) rfl (by kernel_rfl) hM2268 rfl rfl (.inl rfl) ?_
                      refine M_pass 24 (dj := 93) rfl (by kernel_rfl) hM2268 rfl rfl (.inl rfl) ?_
                      refine M_pu 25 rfl (by kernel_rfl) hM2268 (P_pick false (vb false) (by exact congrArg Value.bool rfl) rfl) ?_
                      refine M_pu 26 rfl (by kernel_rfl) hM2268 (P_assign (vb false) rfl) ?_
                      refine M_nil (by kernel_rfl) ?_
                      refine W_ret ?_
                      have hc2355 := hc2267.drop 0 rfl
                      have hc2356 := hc2355.drop 0 rfl
                      have hc2357 := hc2356.drop 0 rfl
                      have hc2358 := hc2357.drop 0 rfl
                      have hc2359 := hc2358.drop 0 rfl
                      have hc2360 := hc2359.drop 0 rfl
                      have hc2361 := hc2360.drop 0 rfl
                      have hc2362 := hc2361.drop 0 rfl
                      exact ⟨[vb false], ⟨_, rfl, rfl⟩, false, rfl, H, hc2362.gr⟩
                    · refine L_pass (dj := 82) rfl rfl (.inl (by exact congrArg Value.bool hq2269)) ?_
                      refine L_nil ⟨hM2268, ?_⟩
                      refine M_any2 16 18 (by kernel_rfl) rfl rfl ?_ ?_
                      · refine L_pass (dj := 82) rfl rfl (.inl (by exact congrArg Value.bool hq2269)) ?_
                        refine L_nil ⟨hM2268, ?_⟩
                        refine M_any1 18 (by kernel_rfl) rfl ?_
                        refine L_pass (dj := 82) rfl rfl (.inl (by exact congrArg Value.bool hq2269)) ?_
                        refine L_nil ⟨hM2268, ?_⟩
                        refine M_any1 19 (by kernel_rfl) rfl ?_
                        refine L_pass (dj := 82) rfl rfl (.inl (by exact congrArg Value.bool hq2269)) ?_
                        refine L_nil ⟨hM2268, ?_⟩
                        refine M_any1 20 (by kernel_rfl) rfl ?_
                        refine L_pass (dj := 82) rfl rfl (.inl (by exact congrArg Value.bool hq2269)) ?_
                        refine L_nil ⟨hM2268, ?_⟩
                        refine M_pu 21 rfl (by kernel_rfl) hM2268 (P_pick false (vb false) (by exact congrArg Value.bool hq2269) rfl) ?_
                        refine M_pu 22 rfl (by kernel_rfl) hM2268 (P_move (vb false) rfl) ?_
                        refine M_pass 23 (dj := 93) rfl (by kernel_rfl) hM2268 rfl rfl (.inl rfl) ?_
                        refine M_pass 24 (dj := 93) rfl (by kernel_rfl) hM2268 rfl rfl (.inl rfl) ?_
                        refine M_pu 25 rfl (by kernel_rfl) hM2268 (P_pick false (vb false) (by exact congrArg Value.bool rfl) rfl) ?_
                        refine M_pu 26 rfl (by kernel_rfl) hM2268 (P_assign (vb false) rfl) ?_
                        refine M_nil (by kernel_rfl) ?_
                        refine W_ret ?_
                        have hc2355 := hc2267.drop 0 rfl
                        have hc2356 := hc2355.drop 0 rfl
                        have hc2357 := hc2356.drop 0 rfl
                        have hc2358 := hc2357.drop 0 rfl
                        have hc2359 := hc2358.drop 0 rfl
                        have hc2360 := hc2359.drop 0 rfl
                        have hc2361 := hc2360.drop 0 rfl
                        have hc2362 := hc2361.drop 0 rfl
                        exact ⟨[vb false], ⟨_, rfl, rfl⟩, false, rfl, H, hc2362.gr⟩
                      · refine L_pass (dj := 82) rfl rfl (.inl (by exact congrArg Value.bool hq2269)) ?_
                        refine L_nil ⟨hM2268, ?_⟩
                        refine M_any1 16 (by kernel_rfl) rfl ?_
                        refine L_pass (dj := 82) rfl rfl (.inl (by exact congrArg Value.bool hq2269)) ?_
                        refine L_nil ⟨hM2268, ?_⟩
                        refine M_any1 19 (by kernel_rfl) rfl ?_
                        refine L_pass (dj := 82) rfl rfl (.inl (by exact congrArg Value.bool hq2269)) ?_
                        refine L_nil ⟨hM2268, ?_⟩
                        refine M_any1 20 (by kernel_rfl) rfl ?_
                        refine L_pass (dj := 82) rfl rfl (.inl (by exact congrArg Value.bool hq2269)) ?_
                        refine L_nil ⟨hM2268, ?_⟩
                        refine M_pu 21 rfl (by kernel_rfl) hM2268 (P_pick false (vb false) (by exact congrArg Value.bool hq2269) rfl) ?_
                        refine M_pu 22 rfl (by kernel_rfl) hM2268 (P_move (vb false) rfl) ?_
                        refine M_pass 23 (dj := 93) rfl (by kernel_rfl) hM2268 rfl rfl (.inl rfl) ?_
                        refine M_pass 24 (dj := 93) rfl (by kernel_rfl) hM2268 rfl rfl (.inl rfl) ?_
                        refine M_pu 25 rfl (by kernel_rfl) hM2268 (P_pick false (vb false) (by exact congrArg Value.bool rfl) rfl) ?_
                        refine M_pu 26 rfl (by kernel_rfl) hM2268 (P_assign (vb false) rfl) ?_
                        refine M_nil (by kernel_rfl) ?_
                        refine W_ret ?_
                        have hc2355 := hc2267.drop 0 rfl
                        have hc2356 := hc2355.drop 0 rfl
                        have hc2357 := hc2356.drop 0 rfl
                        have hc2358 := hc2357.drop 0 rfl
                        have hc2359 := hc2358.drop 0 rfl
                        have hc2360 := hc2359.drop 0 rfl
                        have hc2361 := hc2360.drop 0 rfl
                        have hc2362 := hc2361.drop 0 rfl
                        exact ⟨[vb false], ⟨_, rfl, rfl⟩, false, rfl, H, hc2362.gr⟩
                  · refine L_pass (dj := 82) rfl rfl (.inl (by exact congrArg Value.bool hq2269)) ?_
                    refine L_nil ⟨hM2268, ?_⟩
                    refine M_any2 14 18 (by kernel_rfl) rfl rfl ?_ ?_
                    · refine L_pass (dj := 82) rfl rfl (.inl (by exact congrArg Value.bool hq2269)) ?_
                      refine L_nil ⟨hM2268, ?_⟩
                      refine M_any2 16 18 (by kernel_rfl) rfl rfl ?_ ?_
                      · refine L_pass (dj := 82) rfl rfl (.inl (by exact congrArg Value.bool hq2269)) ?_
                        refine L_nil ⟨hM2268, ?_⟩
                        refine M_any1 18 (by kernel_rfl) rfl ?_
                        refine L_pass (dj := 82) rfl rfl (.inl (by exact congrArg Value.bool hq2269)) ?_
                        refine L_nil ⟨hM2268, ?_⟩
                        refine M_any1 19 (by kernel_rfl) rfl ?_
                        refine L_pass (dj := 82) rfl rfl (.inl (by exact congrArg Value.bool hq2269)) ?_
                        refine L_nil ⟨hM2268, ?_⟩
                        refine M_any1 20 (by kernel_rfl) rfl ?_
                        refine L_pass (dj := 82) rfl rfl (.inl (by exact congrArg Value.bool hq2269)) ?_
                        refine L_nil ⟨hM2268, ?_⟩
                        refine M_pu 21 rfl (by kernel_rfl) hM2268 (P_pick false (vb false) (by exact congrArg Value.bool hq2269) rfl) ?_
                        refine M_pu 22 rfl (by kernel_rfl) hM2268 (P_move (vb false) rfl) ?_
                        refine M_pass 23 (dj := 93) rfl (by kernel_rfl) hM2268 rfl rfl (.inl rfl) ?_
                        refine M_pass 24 (dj := 93) rfl (by kernel_rfl) hM2268 rfl rfl (.inl rfl) ?_
                        refine M_pu 25 rfl (by kernel_rfl) hM2268 (P_pick false (vb false) (by exact congrArg Value.bool rfl) rfl) ?_
                        refine M_pu 26 rfl (by kernel_rfl) hM2268 (P_assign (vb false) rfl) ?_
                        refine M_nil (by kernel_rfl) ?_
                        refine W_ret ?_
                        have hc2355 := hc2267.drop 0 rfl
                        have hc2356 := hc2355.drop 0 rfl
                        have hc2357 := hc2356.drop 0 rfl
                        have hc2358 := hc2357.drop 0 rfl
                        have hc2359 := hc2358.drop 0 rfl
                        have hc2360 := hc2359.drop 0 rfl
                        have hc2361 := hc2360.drop 0 rfl
                        have hc2362 := hc2361.drop 0 rfl
                        exact ⟨[vb false], ⟨_, rfl, rfl⟩, false, rfl, H, hc2362.gr⟩
                      · refine L_pass (dj := 82) rfl rfl (.inl (by exact congrArg Value.bool hq2269)) ?_
                        refine L_nil ⟨hM2268, ?_⟩
                        refine M_any1 16 (by kernel_rfl) rfl ?_
                        refine L_pass (dj := 82) rfl rfl (.inl (by exact congrArg Value.bool hq2269)) ?_
                        refine L_nil ⟨hM2268, ?_⟩
                        refine M_any1 19 (by kernel_rfl) rfl ?_
                        refine L_pass (dj := 82) rfl rfl (.inl (by exact congrArg Value.bool hq2269)) ?_
                        refine L_nil ⟨hM2268, ?_⟩
                        refine M_any1 20 (by kernel_rfl) rfl ?_
                        refine L_pass (dj := 82) rfl rfl (.inl (by exact congrArg Value.bool hq2269)) ?_
                        refine L_nil ⟨hM2268, ?_⟩
                        refine M_pu 21 rfl (by kernel_rfl) hM2268 (P_pick false (vb false) (by exact congrArg Value.bool hq2269) rfl) ?_
                        refine M_pu 22 rfl (by kernel_rfl) hM2268 (P_move (vb false) rfl) ?_
                        refine M_pass 23 (dj := 93) rfl (by kernel_rfl) hM2268 rfl rfl (.inl rfl) ?_
                        refine M_pass 24 (dj := 93) rfl (by kernel_rfl) hM2268 rfl rfl (.inl rfl) ?_
                        refine M_pu 25 rfl (by kernel_rfl) hM2268 (P_pick false (vb false) (by exact congrArg Value.bool rfl) rfl) ?_
                        refine M_pu 26 rfl (by kernel_rfl) hM2268 (P_assign (vb false) rfl) ?_
                        refine M_nil (by kernel_rfl) ?_
                        refine W_ret ?_
                        have hc2355 := hc2267.drop 0 rfl
                        have hc2356 := hc2355.drop 0 rfl
                        have hc2357 := hc2356.drop 0 rfl
                        have hc2358 := hc2357.drop 0 rfl
                        have hc2359 := hc2358.drop 0 rfl
                        have hc2360 := hc2359.drop 0 rfl
                        have hc2361 := hc2360.drop 0 rfl
                        have hc2362 := hc2361.drop 0 rfl
                        exact ⟨[vb false], ⟨_, rfl, rfl⟩, false, rfl, H, hc2362.gr⟩
                    · refine L_pass (dj := 82) rfl rfl (.inl (by exact congrArg Value.bool hq2269)) ?_
                      refine L_nil ⟨hM2268, ?_⟩
                      refine M_any1 14 (by kernel_rfl) rfl ?_
                      refine L_pass (dj := 82) rfl rfl (.inl (by exact congrArg Value.bool hq2269)) ?_
                      refine L_nil ⟨hM2268, ?_⟩
                      refine M_any1 16 (by kernel_rfl) rfl ?_
                      refine L_pass (dj := 82) rfl rfl (.inl (by exact congrArg Value.bool hq2269)) ?_
                      refine L_nil ⟨hM2268, ?_⟩
                      refine M_any1 19 (by kernel_rfl) rfl ?_
                      refine L_pass (dj := 82) rfl rfl (.inl (by exact congrArg Value.bool hq2269)) ?_
                      refine L_nil ⟨hM2268, ?_⟩
                      refine M_any1 20 (by kernel_rfl) rfl ?_
                      refine L_pass (dj := 82) rfl rfl (.inl (by exact congrArg Value.bool hq2269)) ?_
                      refine L_nil ⟨hM2268, ?_⟩
                      refine M_pu 21 rfl (by kernel_rfl) hM2268 (P_pick false (vb false) (by exact congrArg Value.bool hq2269) rfl) ?_
                      refine M_pu 22 rfl (by kernel_rfl) hM2268 (P_move (vb false) rfl) ?_
                      refine M_pass 23 (dj := 93) rfl (by kernel_rfl) hM2268 rfl rfl (.inl rfl) ?_
                      refine M_pass 24 (dj := 93) rfl (by kernel_rfl) hM2268 rfl rfl (.inl rfl) ?_
                      refine M_pu 25 rfl (by kernel_rfl) hM2268 (P_pick false (vb false) (by exact congrArg Value.bool rfl) rfl) ?_
                      refine M_pu 26 rfl (by kernel_rfl) hM2268 (P_assign (vb false) rfl) ?_
                      refine M_nil (by kernel_rfl) ?_
                      refine W_ret ?_
                      have hc2355 := hc2267.drop 0 rfl
                      have hc2356 := hc2355.drop 0 rfl
                      have hc2357 := hc2356.drop 0 rfl
                      have hc2358 := hc2357.drop 0 rfl
                      have hc2359 := hc2358.drop 0 rfl
                      have hc2360 := hc2359.drop 0 rfl
                      have hc2361 := hc2360.drop 0 rfl
                      have hc2362 := hc2361.drop 0 rfl
                      exact ⟨[vb false], ⟨_, rfl, rfl⟩, false, rfl, H, hc2362.gr⟩
                · refine L_pass (dj := 82) rfl rfl (.inl (by exact congrArg Value.bool hq2269)) ?_
                  refine L_nil ⟨hM2268, ?_⟩
                  refine M_any2 13 18 (by kernel_rfl) rfl rfl ?_ ?_
                  · refine L_pass (dj := 82) rfl rfl (.inl (by exact congrArg Value.bool hq2269)) ?_
                    refine L_nil ⟨hM2268, ?_⟩
                    refine M_any2 14 18 (by kernel_rfl) rfl rfl ?_ ?_
                    · refine L_pass (dj := 82) rfl rfl (.inl (by exact congrArg Value.bool hq2269)) ?_
                      refine L_nil ⟨hM2268, ?_⟩
                      refine M_any2 16 18 (by kernel_rfl) rfl rfl ?_ ?_
                      · refine L_pass (dj := 82) rfl rfl (.inl (by exact congrArg Value.bool hq2269)) ?_
                        refine L_nil ⟨hM2268, ?_⟩
                        refine M_any1 18 (by kernel_rfl) rfl ?_
                        refine L_pass (dj := 82) rfl rfl (.inl (by exact congrArg Value.bool hq2269)) ?_
                        refine L_nil ⟨hM2268, ?_⟩
                        refine M_any1 19 (by kernel_rfl) rfl ?_
                        refine L_pass (dj := 82) rfl rfl (.inl (by exact congrArg Value.bool hq2269)) ?_
                        refine L_nil ⟨hM2268, ?_⟩
                        refine M_any1 20 (by kernel_rfl) rfl ?_
                        refine L_pass (dj := 82) rfl rfl (.inl (by exact congrArg Value.bool hq2269)) ?_
                        refine L_nil ⟨hM2268, ?_⟩
                        refine M_pu 21 rfl (by kernel_rfl) hM2268 (P_pick false (vb false) (by exact congrArg Value.bool hq2269) rfl) ?_
                        refine M_pu 22 rfl (by kernel_rfl) hM2268 (P_move (vb false) rfl) ?_
                        refine M_pass 23 (dj := 93) rfl (by kernel_rfl) hM2268 rfl rfl (.inl rfl) ?_
                        refine M_pass 24 (dj := 93) rfl (by kernel_rfl) hM2268 rfl rfl (.inl rfl) ?_
                        refine M_pu 25 rfl (by kernel_rfl) hM2268 (P_pick false (vb false) (by exact congrArg Value.bool rfl) rfl) ?_
                        refine M_pu 26 rfl (by kernel_rfl) hM2268 (P_assign (vb false) rfl) ?_
                        refine M_nil (by kernel_rfl) ?_
                        refine W_ret ?_
                        have hc2355 := hc2267.drop 0 rfl
                        have hc2356 := hc2355.drop 0 rfl
                        have hc2357 := hc2356.drop 0 rfl
                        have hc2358 := hc2357.drop 0 rfl
                        have hc2359 := hc2358.drop 0 rfl
                        have hc2360 := hc2359.drop 0 rfl
                        have hc2361 := hc2360.drop 0 rfl
                        have hc2362 := hc2361.drop 0 rfl
                        exact ⟨[vb false], ⟨_, rfl, rfl⟩, false, rfl, H, hc2362.gr⟩
                      · refine L_pass (dj := 82) rfl rfl (.inl (by exact congrArg Value.bool hq2269)) ?_
                        refine L_nil ⟨hM2268, ?_⟩
                        refine M_any1 16 (by kernel_rfl) rfl ?_
                        refine L_pass (dj := 82) rfl rfl (.inl (by exact congrArg Value.bool hq2269)) ?_
                        refine L_nil ⟨hM2268, ?_⟩
                        refine M_any1 19 (by kernel_rfl) rfl ?_
                        refine L_pass (dj := 82) rfl rfl (.inl (by exact congrArg Value.bool hq2269)) ?_
                        refine L_nil ⟨hM2268, ?_⟩
                        refine M_any1 20 (by kernel_rfl) rfl ?_
                        refine L_pass (dj := 82) rfl rfl (.inl (by exact congrArg Value.bool hq2269)) ?_
                        refine L_nil ⟨hM2268, ?_⟩
                        refine M_pu 21 rfl (by kernel_rfl) hM2268 (P_pick false (vb false) (by exact congrArg Value.bool hq2269) rfl) ?_
                        refine M_pu 22 rfl (by kernel_rfl) hM2268 (P_move (vb false) rfl) ?_
                        refine M_pass 23 (dj := 93) rfl (by kernel_rfl) hM2268 rfl rfl (.inl rfl) ?_
                        refine M_pass 24 (dj := 93) rfl (by kernel_rfl) hM2268 rfl rfl (.inl rfl) ?_
                        refine M_pu 25 rfl (by kernel_rfl) hM2268 (P_pick false (vb false) (by exact congrArg Value.bool rfl) rfl) ?_
                        refine M_pu 26 rfl (by kernel_rfl) hM2268 (P_assign (vb false) rfl) ?_
                        refine M_nil (by kernel_rfl) ?_
                        refine W_ret ?_
                        have hc2355 := hc2267.drop 0 rfl
                        have hc2356 := hc2355.drop 0 rfl
                        have hc2357 := hc2356.drop 0 rfl
                        have hc2358 := hc2357.drop 0 rfl
                        have hc2359 := hc2358.drop 0 rfl
                        have hc2360 := hc2359.drop 0 rfl
                        have hc2361 := hc2360.drop 0 rfl
                        have hc2362 := hc2361.drop 0 rfl
                        exact ⟨[vb false], ⟨_, rfl, rfl⟩, false, rfl, H, hc2362.gr⟩
                    · refine L_pass (dj := 82) rfl rfl (.inl (by exact congrArg Value.bool hq2269)) ?_
                      refine L_nil ⟨hM2268, ?_⟩
                      refine M_any1 14 (by kernel_rfl) rfl ?_
                      refine L_pass (dj := 82) rfl rfl (.inl (by exact congrArg Value.bool hq2269)) ?_
                      refine L_nil ⟨hM2268, ?_⟩
                      refine M_any1 16 (by kernel_rfl) rfl ?_
                      refine L_pass (dj := 82) rfl rfl (.inl (by exact congrArg Value.bool hq2269)) ?_
                      refine L_nil ⟨hM2268, ?_⟩
                      refine M_any1 19 (by kernel_rfl) rfl ?_
                      refine L_pass (dj := 82) rfl rfl (.inl (by exact congrArg Value.bool hq2269)) ?_
                      refine L_nil ⟨hM2268, ?_⟩
                      refine M_any1 20 (by kernel_rfl) rfl ?_
                      refine L_pass (dj := 82) rfl rfl (.inl (by exact congrArg Value.bool hq2269)) ?_
                      refine L_nil ⟨hM2268, ?_⟩
                      refine M_pu 21 rfl (by kernel_rfl) hM2268 (P_pick false (vb false) (by exact congrArg Value.bool hq2269) rfl) ?_
                      refine M_pu 22 rfl (by kernel_rfl) hM2268 (P_move (vb false) rfl) ?_
                      refine M_pass 23 (dj := 93) rfl (by kernel_rfl) hM2268 rfl rfl (.inl rfl) ?_
                      refine M_pass 24 (dj := 93) rfl (by kernel_rfl) hM2268 rfl rfl (.inl rfl) ?_
                      refine M_pu 25 rfl (by kernel_rfl) hM2268 (P_pick false (vb false) (by exact congrArg Value.bool rfl) rfl) ?_
                      refine M_pu 26 rfl (by kernel_rfl) hM2268 (P_assign (vb false) rfl) ?_
                      refine M_nil (by kernel_rfl) ?_
                      refine W_ret ?_
                      have hc2355 := hc2267.drop 0 rfl
                      have hc2356 := hc2355.drop 0 rfl
                      have hc2357 := hc2356.drop 0 rfl
                      have hc2358 := hc2357.drop 0 rfl
                      have hc2359 := hc2358.drop 0 rfl
                      have hc2360 := hc2359.drop 0 rfl
                      have hc2361 := hc2360.drop 0 rfl
                      have hc2362 := hc2361.drop 0 rfl
                      exact ⟨[vb false], ⟨_, rfl, rfl⟩, false, rfl, H, hc2362.gr⟩
                  · refine L_pass (dj := 82) rfl rfl (.inl (by exact congrArg Value.bool hq2269)) ?_
                    refine L_nil ⟨hM2268, ?_⟩
                    refine M_any1 13 (by kernel_rfl) rfl ?_
                    refine L_pass (dj := 82) rfl rfl (.inl (by exact congrArg Value.bool hq2269)) ?_
                    refine L_nil ⟨hM2268, ?_⟩
                    refine M_any1 14 (by kernel_rfl) rfl ?_
                    refine L_pass (dj := 82) rfl rfl (.inl (by exact congrArg Value.bool hq2269)) ?_
                    refine L_nil ⟨hM2268, ?_⟩
                    refine M_any1 16 (by kernel_rfl) rfl ?_
                    refine L_pass (dj := 82) rfl rfl (.inl (by exact congrArg Value.bool hq2269)) ?_
                    refine L_nil ⟨hM2268, ?_⟩
                    refine M_any1 19 (by kernel_rfl) rfl ?_
                    refine L_pass (dj := 82) rfl rfl (.inl (by exact congrArg Value.bool hq2269)) ?_
                    refine L_nil ⟨hM2268, ?_⟩
                    refine M_any1 20 (by kernel_rfl) rfl ?_
                    refine L_pass (dj := 82) rfl rfl (.inl (by exact congrArg Value.bool hq2269)) ?_
                    refine L_nil ⟨hM2268, ?_⟩
                    refine M_pu 21 rfl (by kernel_rfl) hM2268 (P_pick false (vb false) (by exact congrArg Value.bool hq2269) rfl) ?_
                    refine M_pu 22 rfl (by kernel_rfl) hM2268 (P_move (vb false) rfl) ?_
                    refine M_pass 23 (dj := 93) rfl (by kernel_rfl) hM2268 rfl rfl (.inl rfl) ?_
                    refine M_pass 24 (dj := 93) rfl (by kernel_rfl) hM2268 rfl rfl (.inl rfl) ?_
                    refine M_pu 25 rfl (by kernel_rfl) hM2268 (P_pick false (vb false) (by exact congrArg Value.bool rfl) rfl) ?_
                    refine M_pu 26 rfl (by kernel_rfl) hM2268 (P_assign (vb false) rfl) ?_
                    refine M_nil (by kernel_rfl) ?_
                    refine W_ret ?_
                    have hc2355 := hc2267.drop 0 rfl
                    have hc2356 := hc2355.drop 0 rfl
                    have hc2357 := hc2356.drop 0 rfl
                    have hc2358 := hc2357.drop 0 rfl
                    have hc2359 := hc2358.drop 0 rfl
                    have hc2360 := hc2359.drop 0 rfl
                    have hc2361 := hc2360.drop 0 rfl
                    have hc2362 := hc2361.drop 0 rfl
                    exact ⟨[vb false], ⟨_, rfl, rfl⟩, false, rfl, H, hc2362.gr⟩
            · have H := ite_f H hq2250
              refine M_pass 7 (dj := 77) rfl (by kernel_rfl) hM2245 rfl rfl (.inl (by exact congrArg Value.bool hq2250)) ?_
              refine M_pass 8 (dj := 77) rfl (by kernel_rfl) hM2245 rfl rfl (.inl (by exact congrArg Value.bool hq2250)) ?_
              refine M_any1 9 (by kernel_rfl) rfl ?_
              refine L_pass (dj := 77) rfl rfl (.inl (by exact congrArg Value.bool hq2250)) ?_
              refine L_nil ⟨hM2245, ?_⟩
              refine M_pu 10 rfl (by kernel_rfl) hM2245 (P_pick false (vb false) (by exact congrArg Value.bool hq2250) rfl) ?_
              refine M_pu 11 rfl (by kernel_rfl) hM2245 (P_move (vb false) rfl) ?_
              refine M_pass 12 (dj := 82) rfl (by kernel_rfl) hM2245 rfl rfl (.inl rfl) ?_
              refine M_pass 15 (dj := 82) rfl (by kernel_rfl) hM2245 rfl rfl (.inl rfl) ?_
              refine M_any2 13 17 (by kernel_rfl) rfl rfl ?_ ?_
              · refine L_pass (dj := 82) rfl rfl (.inl rfl) ?_
                refine L_nil ⟨hM2245, ?_⟩
                refine M_any2 14 17 (by kernel_rfl) rfl rfl ?_ ?_
                · refine L_pass (dj := 82) rfl rfl (.inl rfl) ?_
                  refine L_nil ⟨hM2245, ?_⟩
                  refine M_any2 16 17 (by kernel_rfl) rfl rfl ?_ ?_
                  · refine L_pass (dj := 82) rfl rfl (.inl rfl) ?_
                    refine L_nil ⟨hM2245, ?_⟩
                    refine M_any1 17 (by kernel_rfl) rfl ?_
                    refine L_pass (dj := 82) rfl rfl (.inl rfl) ?_
                    refine L_nil ⟨hM2245, ?_⟩
                    refine M_any1 18 (by kernel_rfl) rfl ?_
                    refine L_pass (dj := 82) rfl rfl (.inl rfl) ?_
                    refine L_nil ⟨hM2245, ?_⟩
                    refine M_any1 19 (by kernel_rfl) rfl ?_
                    refine L_pass (dj := 82) rfl rfl (.inl rfl) ?_
                    refine L_nil ⟨hM2245, ?_⟩
                    refine M_any1 20 (by kernel_rfl) rfl ?_
                    refine L_pass (dj := 82) rfl rfl (.inl rfl) ?_
                    refine L_nil ⟨hM2245, ?_⟩
                    refine M_pu 21 rfl (by kernel_rfl) hM2245 (P_pick false (vb false) (by exact congrArg Value.bool rfl) rfl) ?_
                    refine M_pu 22 rfl (by kernel_rfl) hM2245 (P_move (vb false) rfl) ?_
                    refine M_pass 23 (dj := 93) rfl (by kernel_rfl) hM2245 rfl rfl (.inl rfl) ?_
                    refine M_pass 24 (dj := 93) rfl (by kernel_rfl) hM2245 rfl rfl (.inl rfl) ?_
                    refine M_pu 25 rfl (by kernel_rfl) hM2245 (P_pick false (vb false) (by exact congrArg Value.bool rfl) rfl) ?_
                    refine M_pu 26 rfl (by kernel_rfl) hM2245 (P_assign (vb false) rfl) ?_
                    refine M_nil (by kernel_rfl) ?_
                    refine W_ret ?_
                    have hc2363 := hc2246.drop 0 rfl
                    have hc2364 := hc2363.drop 0 rfl
                    have hc2365 := hc2364.drop 0 rfl
                    have hc2366 := hc2365.drop 0 rfl
                    have hc2367 := hc2366.drop 0 rfl
                    have hc2368 := hc2367.drop 0 rfl
                    have hc2369 := hc2368.drop 0 rfl
                    have hc2370 := hc2369.drop 0 rfl
                    exact ⟨[vb false], ⟨_, rfl, rfl⟩, false, rfl, H, hc2370.gr⟩
                  · refine L_pass (dj := 82) rfl rfl (.inl rfl) ?_
                    refine L_nil ⟨hM2245, ?_⟩
                    refine M_any2 16 18 (by kernel_rfl) rfl rfl ?_ ?_
                    · refine L_pass (dj := 82) rfl rfl (.inl rfl) ?_
                      refine L_nil ⟨hM2245, ?_⟩
                      refine M_any1 18 (by kernel_rfl) rfl ?_
                      refine L_pass (dj := 82) rfl rfl (.inl rfl) ?_
                      refine L_nil ⟨hM2245, ?_⟩
                      refine M_any1 19 (by kernel_rfl) rfl ?_
                      refine L_pass (dj := 82) rfl rfl (.inl rfl) ?_
                      refine L_nil ⟨hM2245, ?_⟩
                      refine M_any1 20 (by kernel_rfl) rfl ?_
                      refine L_pass (dj := 82) rfl rfl (.inl rfl) ?_
                      refine L_nil ⟨hM2245, ?_⟩
                      refine M_pu 21 rfl (by kernel_rfl) hM2245 (P_pick false (vb false) (by exact congrArg Value.bool rfl) rfl) ?_
                      refine M_pu 22 rfl (by kernel_rfl) hM2245 (P_move (vb false) rfl) ?_
                      refine M_pass 23 (dj := 93) rfl (by kernel_rfl) hM2245 rfl rfl (.inl rfl) ?_
                      refine M_pass 24 (dj := 93) rfl (by kernel_rfl) hM2245 rfl rfl (.inl rfl) ?_
                      refine M_pu 25 rfl (by kernel_rfl) hM2245 (P_pick false (vb false) (by exact congrArg Value.bool rfl) rfl) ?_
                      refine M_pu 26 rfl (by kernel_rfl) hM2245 (P_assign (vb false) rfl) ?_
                      refine M_nil (by kernel_rfl) ?_
                      refine W_ret ?_
                      have hc2363 := hc2246.drop 0 rfl
                      have hc2364 := hc2363.drop 0 rfl
                      have hc2365 := hc2364.drop 0 rfl
                      have hc2366 := hc2365.drop 0 rfl
                      have hc2367 := hc2366.drop 0 rfl
                      have hc2368 := hc2367.drop 0 rfl
                      have hc2369 := hc2368.drop 0 rfl
                      have hc2370 := hc2369.drop 0 rfl
                      exact ⟨[vb false], ⟨_, rfl, rfl⟩, false, rfl, H, hc2370.gr⟩
                    · refine L_pass (dj := 82) rfl rfl (.inl rfl) ?_
                      refine L_nil ⟨hM2245, ?_⟩
                      refine M_any1 16 (by kernel_rfl) rfl ?_
                      refine L_pass (dj := 82) rfl rfl (.inl rfl) ?_
                      refine L_nil ⟨hM2245, ?_⟩
                      refine M_any1 19 (by kernel_rfl) rfl ?_
                      refine L_pass (dj := 82) rfl rfl (.inl rfl) ?_
                      refine L_nil ⟨hM2245, ?_⟩
                      refine M_any1 20 (by kernel_rfl) rfl ?_
                      refine L_pass (dj := 82) rfl rfl (.inl rfl) ?_
                      refine L_nil ⟨hM2245, ?_⟩
                      refine M_pu 21 rfl (by kernel_rfl) hM2245 (P_pick false (vb false) (by exact congrArg Value.bool rfl) rfl) ?_
                      refine M_pu 22 rfl (by kernel_rfl) hM2245 (P_move (vb false) rfl) ?_
                      refine M_pass 23 (dj := 93) rfl (by kernel_rfl) hM2245 rfl rfl (.inl rfl) ?_
                      refine M_pass 24 (dj := 93) rfl (by kernel_rfl) hM2245 rfl rfl (.inl rfl) ?_
                      refine M_pu 25 rfl (by kernel_rfl) hM2245 (P_pick false (vb false) (by exact congrArg Value.bool rfl) rfl) ?_
                      refine M_pu 26 rfl (by kernel_rfl) hM2245 (P_assign (vb false) rfl) ?_
                      refine M_nil (by kernel_rfl) ?_
                      refine W_ret ?_
                      have hc2363 := hc2246.drop 0 rfl
                      have hc2364 := hc2363.drop 0 rfl
                      have hc2365 := hc2364.drop 0 rfl
                      have hc2366 := hc2365.drop 0 rfl
                      have hc2367 := hc2366.drop 0 rfl
                      have hc2368 := hc2367.drop 0 rfl
                      have hc2369 := hc2368.drop 0 rfl
                      have hc2370 := hc2369.drop 0 rfl
                      exact ⟨[vb false], ⟨_, rfl, rfl⟩, false, rfl, H, hc2370.gr⟩
                · refine L_pass (dj := 82) rfl rfl (.inl rfl) ?_
                  refine L_nil ⟨hM2245, ?_⟩
                  refine M_any2 14 18 (by kernel_rfl) rfl rfl ?_ ?_
                  · refine L_pass (dj := 82) rfl rfl (.inl rfl) ?_
                    refine L_nil ⟨hM2245, ?_⟩
                    refine M_any2 16 18 (by kernel_rfl) rfl rfl ?_ ?_
                    · refine L_pass (dj := 82) rfl rfl (.inl rfl) ?_
                      refine L_nil ⟨hM2245, ?_⟩
                      refine M_any1 18 (by kernel_rfl) rfl ?_
                      refine L_pass (dj := 82) rfl rfl (.inl rfl) ?_
                      refine L_nil ⟨hM2245, ?_⟩
                      refine M_any1 19 (by kernel_rfl) rfl ?_
                      refine L_pass (dj := 82) rfl rfl (.inl rfl) ?_
                      refine L_nil ⟨hM2245, ?_⟩
                      refine M_any1 20 (by kernel_rfl) rfl ?_
                      refine L_pass (dj := 82) rfl rfl (.inl rfl) ?_
                      refine L_nil ⟨hM2245, ?_⟩
                      refine M_pu 21 rfl (by kernel_rfl) hM2245 (P_pick false (vb false) (by exact congrArg Value.bool rfl) rfl) ?_
                      refine M_pu 22 rfl (by kernel_rfl) hM2245 (P_move (vb false) rfl) ?_
                      refine M_pass 23 (dj := 93) rfl (by kernel_rfl) hM2245 rfl rfl (.inl rfl) ?_
                      refine M_pass 24 (dj := 93) rfl (by kernel_rfl) hM2245 rfl rfl (.inl rfl) ?_
                      refine M_pu 25 rfl (by kernel_rfl) hM2245 (P_pick false (vb false) (by exact congrArg Value.bool rfl) rfl) ?_
                      refine M_pu 26 rfl (by kernel_rfl) hM2245 (P_assign (vb false) rfl) ?_
                      refine M_nil (by kernel_rfl) ?_
                      refine W_ret ?_
                      have hc2363 := hc2246.drop 0 rfl
                      have hc2364 := hc2363.drop 0 rfl
                      have hc2365 := hc2364.drop 0 rfl
                      have hc2366 := hc2365.drop 0 rfl
                      have hc2367 := hc2366.drop 0 rfl
                      have hc2368 := hc2367.drop 0 rfl
                      have hc2369 := hc2368.drop 0 rfl
                      have hc2370 := hc2369.drop 0 rfl
                      exact ⟨[vb false], ⟨_, rfl, rfl⟩, false, rfl, H, hc2370.gr⟩
                    · refine L_pass (dj := 82) rfl rfl (.inl rfl) ?_
                      refine L_nil ⟨hM2245, ?_⟩
                      refine M_any1 16 (by kernel_rfl) rfl ?_
                      refine L_pass (dj := 82) rfl rfl (.inl rfl) ?_
                      refine L_nil ⟨hM2245, ?_⟩
                      refine M_any1 19 (by kernel_rfl) rfl ?_
                      refine L_pass (dj := 82) rfl rfl (.inl rfl) ?_
                      refine L_nil ⟨hM2245, ?_⟩
                      refine M_any1 20 (by kernel_rfl) rfl ?_
                      refine L_pass (dj := 82) rfl rfl (.inl rfl) ?_
                      refine L_nil ⟨hM2245, ?_⟩
                      refine M_pu 21 rfl (by kernel_rfl) hM2245 (P_pick false (vb false) (by exact congrArg Value.bool rfl) rfl) ?_
                      refine M_pu 22 rfl (by kernel_rfl) hM2245 (P_move (vb false) rfl) ?_
                      refine M_pass 23 (dj := 93) rfl (by kernel_rfl) hM2245 rfl rfl (.inl rfl) ?_
                      refine M_pass 24 (dj := 93) rfl (by kernel_rfl) hM2245 rfl rfl (.inl rfl) ?_
                      refine M_pu 25 rfl (by kernel_rfl) hM2245 (P_pick false (vb false) (by exact congrArg Value.bool rfl) rfl) ?_
                      refine M_pu 26 rfl (by kernel_rfl) hM2245 (P_assign (vb false) rfl) ?_
                      refine M_nil (by kernel_rfl) ?_
                      refine W_ret ?_
                      have hc2363 := hc2246.drop 0 rfl
                      have hc2364 := hc2363.drop 0 rfl
                      have hc2365 := hc2364.drop 0 rfl
                      have hc2366 := hc2365.drop 0 rfl
                      have hc2367 := hc2366.drop 0 rfl
                      have hc2368 := hc2367.drop 0 rfl
                      have hc2369 := hc2368.drop 0 rfl
                      have hc2370 := hc2369.drop 0 rfl
                      exact ⟨[vb false], ⟨_, rfl, rfl⟩, false, rfl, H, hc2370.gr⟩
                  · refine L_pass (dj := 82) rfl rfl (.inl rfl) ?_
                    refine L_nil ⟨hM2245, ?_⟩
                    refine M_any1 14 (by kernel_rfl) rfl ?_
                    refine L_pass (dj := 82) rfl rfl (.inl rfl) ?_
                    refine L_nil ⟨hM2245, ?_⟩
                    refine M_any1 16 (by kernel_rfl) rfl ?_
                    refine L_pass (dj := 82) rfl rfl (.inl rfl) ?_
                    refine L_nil ⟨hM2245, ?_⟩
                    refine M_any1 19 (by kernel_rfl) rfl ?_
                    refine L_pass (dj := 82) rfl rfl (.inl rfl) ?_
                    refine L_nil ⟨hM2245, ?_⟩
                    refine M_any1 20 (by kernel_rfl) rfl ?_
                    refine L_pass (dj := 82) rfl rfl (.inl rfl) ?_
                    refine L_nil ⟨hM2245, ?_⟩
                    refine M_pu 21 rfl (by kernel_rfl) hM2245 (P_pick false (vb false) (by exact congrArg Value.bool rfl) rfl) ?_
                    refine M_pu 22 rfl (by kernel_rfl) hM2245 (P_move (vb false) rfl) ?_
                    refine M_pass 23 (dj := 93) rfl (by kernel_rfl) hM2245 rfl rfl (.inl rfl) ?_
                    refine M_pass 24 (dj := 93) rfl (by kernel_rfl) hM2245 rfl rfl (.inl rfl) ?_
                    refine M_pu 25 rfl (by kernel_rfl) hM2245 (P_pick false (vb false) (by exact congrArg Value.bool rfl) rfl) ?_
                    refine M_pu 26 rfl (by kernel_rfl) hM2245 (P_assign (vb false) rfl) ?_
                    refine M_nil (by kernel_rfl) ?_
                    refine W_ret ?_
                    have hc2363 := hc2246.drop 0 rfl
                    have hc2364 := hc2363.drop 0 rfl
                    have hc2365 := hc2364.drop 0 rfl
                    have hc2366 := hc2365.drop 0 rfl
                    have hc2367 := hc2366.drop 0 rfl
                    have hc2368 := hc2367.drop 0 rfl
                    have hc2369 := hc2368.drop 0 rfl
                    have hc2370 := hc2369.drop 0 rfl
                    exact ⟨[vb false], ⟨_, rfl, rfl⟩, false, rfl, H, hc2370.gr⟩
              · refine L_pass (dj := 82) rfl rfl (.inl rfl) ?_
                refine L_nil ⟨hM2245, ?_⟩
                refine M_any2 13 18 (by kernel_rfl) rfl rfl ?_ ?_
                · refine L_pass (dj := 82) rfl rfl (.inl rfl) ?_
                  refine L_nil ⟨hM2245, ?_⟩
                  refine M_any2 14 18 (by kernel_rfl) rfl rfl ?_ ?_
                  · refine L_pass (dj := 82) rfl rfl (.inl rfl) ?_
                    refine L_nil ⟨hM2245, ?_⟩
                    refine M_any2 16 18 (by kernel_rfl) rfl rfl ?_ ?_
                    · refine L_pass (dj := 82) rfl rfl (.inl rfl) ?_
                      refine L_nil ⟨hM2245, ?_⟩
                      refine M_any1 18 (by kernel_rfl) rfl ?_
                      refine L_pass (dj := 82) rfl rfl (.inl rfl) ?_
                      refine L_nil ⟨hM2245, ?_⟩
                      refine M_any1 19 (by kernel_rfl) rfl ?_
                      refine L_pass (dj := 82) rfl rfl (.inl rfl) ?_
                      refine L_nil ⟨hM2245, ?_⟩
                      refine M_any1 20 (by kernel_rfl) rfl ?_
                      refine L_pass (dj := 82) rfl rfl (.inl rfl) ?_
                      refine L_nil ⟨hM2245, ?_⟩
                      refine M_pu 21 rfl (by kernel_rfl) hM2245 (P_pick false (vb false) (by exact congrArg Value.bool rfl) rfl) ?_
                      refine M_pu 22 rfl (by kernel_rfl) hM2245 (P_move (vb false) rfl) ?_
                      refine M_pass 23 (dj := 93) rfl (by kernel_rfl) hM2245 rfl rfl (.inl rfl) ?_
                      refine M_pass 24 (dj := 93) rfl (by kernel_rfl) hM2245 rfl rfl (.inl rfl) ?_
                      refine M_pu 25 rfl (by kernel_rfl) hM2245 (P_pick false (vb false) (by exact congrArg Value.bool rfl) rfl) ?_
                      refine M_pu 26 rfl (by kernel_rfl) hM2245 (P_assign (vb false) rfl) ?_
                      refine M_nil (by kernel_rfl) ?_
                      refine W_ret ?_
                      have hc2363 := hc2246.drop 0 rfl
                      have hc2364 := hc2363.drop 0 rfl
                      have hc2365 := hc2364.drop 0 rfl
                      have hc2366 := hc2365.drop 0 rfl
                      have hc2367 := hc2366.drop 0 rfl
                      have hc2368 := hc2367.drop 0 rfl
                      have hc2369 := hc2368.drop 0 rfl
                      have hc2370 := hc2369.drop 0 rfl
                      exact ⟨[vb false], ⟨_, rfl, rfl⟩, false, rfl, H, hc2370.gr⟩
                    · refine L_pass (dj := 82) rfl rfl (.inl rfl) ?_
                      refine L_nil ⟨hM2245, ?_⟩
                      refine M_any1 16 (by kernel_rfl) rfl ?_
                      refine L_pass (dj := 82) rfl rfl (.inl rfl) ?_
                      refine L_nil ⟨hM2245, ?_⟩
                      refine M_any1 19 (by kernel_rfl) rfl ?_
                      refine L_pass (dj := 82) rfl rfl (.inl rfl) ?_
                      refine L_nil ⟨hM2245, ?_⟩
                      refine M_any1 20 (by kernel_rfl) rfl ?_
                      refine L_pass (dj := 82) rfl rfl (.inl rfl) ?_
                      refine L_nil ⟨hM2245, ?_⟩
                      refine M_pu 21 rfl (by kernel_rfl) hM2245 (P_pick false (vb false) (by exact congrArg Value.bool rfl) rfl) ?_
                      refine M_pu 22 rfl (by kernel_rfl) hM2245 (P_move (vb false) rfl) ?_
                      refine M_pass 23 (dj := 93) rfl (by kernel_rfl) hM2245 rfl rfl (.inl rfl) ?_
                      refine M_pass 24 (dj := 93) rfl (by kernel_rfl) hM2245 rfl rfl (.inl rfl) ?_
                      refine M_pu 25 rfl (by kernel_rfl) hM2245 (P_pick false (vb false) (by exact congrArg Value.bool rfl) rfl) ?_
                      refine M_pu 26 rfl (by kernel_rfl) hM2245 (P_assign (vb false) rfl) ?_
                      refine M_nil (by kernel_rfl) ?_
                      refine W_ret ?_
                      have hc2363 := hc2246.drop 0 rfl
                      have hc2364 := hc2363.drop 0 rfl
                      have hc2365 := hc2364.drop 0 rfl
                      have hc2366 := hc2365.drop 0 rfl
                      have hc2367 := hc2366.drop 0 rfl
                      have hc2368 := hc2367.drop 0 rfl
                      have hc2369 := hc2368.drop 0 rfl
                      have hc2370 := hc2369.drop 0 rfl
                      exact ⟨[vb false], ⟨_, rfl, rfl⟩, false, rfl, H, hc2370.gr⟩
                  · refine L_pass (dj := 82) rfl rfl (.inl rfl) ?_
                    refine L_nil ⟨hM2245, ?_⟩
                    refine M_any1 14 (by kernel_rfl) rfl ?_
                    refine L_pass (dj := 82) rfl rfl (.inl rfl) ?_
                    refine L_nil ⟨hM2245, ?_⟩
                    refine M_any1 16 (by kernel_rfl) rfl ?_
                    refine L_pass (dj := 82) rfl rfl (.inl rfl) ?_
                    refine L_nil ⟨hM2245, ?_⟩
                    refine M_any1 19 (by kernel_rfl) rfl ?_
                    refine L_pass (dj := 82) rfl rfl (.inl rfl) ?_
                    refine L_nil ⟨hM2245, ?_⟩
                    refine M_any1 20 (by kernel_rfl) rfl ?_
                    refine L_pass (dj := 82) rfl rfl (.inl rfl) ?_
                    refine L_nil ⟨hM2245, ?_⟩
                    refine M_pu 21 rfl (by kernel_rfl) hM2245 (P_pick false (vb false) (by exact congrArg Value.bool rfl) rfl) ?_
                    refine M_pu 22 rfl (by kernel_rfl) hM2245 (P_move (vb false) rfl) ?_
                    refine M_pass 23 (dj := 93) rfl (by kernel_rfl) hM2245 rfl rfl (.inl rfl) ?_
                    refine M_pass 24 (dj := 93) rfl (by kernel_rfl) hM2245 rfl rfl (.inl rfl) ?_
                    refine M_pu 25 rfl (by kernel_rfl) hM2245 (P_pick false (vb false) (by exact congrArg Value.bool rfl) rfl) ?_
                    refine M_pu 26 rfl (by kernel_rfl) hM2245 (P_assign (vb false) rfl) ?_
                    refine M_nil (by kernel_rfl) ?_
                    refine W_ret ?_
                    have hc2363 := hc2246.drop 0 rfl
                    have hc2364 := hc2363.drop 0 rfl
                    have hc2365 := hc2364.drop 0 rfl
                    have hc2366 := hc2365.drop 0 rfl
                    have hc2367 := hc2366.drop 0 rfl
                    have hc2368 := hc2367.drop 0 rfl
                    have hc2369 := hc2368.drop 0 rfl
                    have hc2370 := hc2369.drop 0 rfl
                    exact ⟨[vb false], ⟨_, rfl, rfl⟩, false, rfl, H, hc2370.gr⟩
                · refine L_pass (dj := 82) rfl rfl (.inl rfl) ?_
                  refine L_nil ⟨hM2245, ?_⟩
                  refine M_any1 13 (by kernel_rfl) rfl ?_
                  refine L_pass (dj := 82) rfl rfl (.inl rfl) ?_
                  refine L_nil ⟨hM2245, ?_⟩
                  refine M_any1 14 (by kernel_rfl) rfl ?_
                  refine L_pass (dj := 82) rfl rfl (.inl rfl) ?_
                  refine L_nil ⟨hM2245, ?_⟩
                  refine M_any1 16 (by kernel_rfl) rfl ?_
                  refine L_pass (dj := 82) rfl rfl (.inl rfl) ?_
                  refine L_nil ⟨hM2245, ?_⟩
                  refine M_any1 19 (by kernel_rfl) rfl ?_
                  refine L_pass (dj := 82) rfl rfl (.inl rfl) ?_
                  refine L_nil ⟨hM2245, ?_⟩
                  refine M_any1 20 (by kernel_rfl) rfl ?_
                  refine L_pass (dj := 82) rfl rfl (.inl rfl) ?_
                  refine L_nil ⟨hM2245, ?_⟩
                  refine M_pu 21 rfl (by kernel_rfl) hM2245 (P_pick false (vb false) (by exact congrArg Value.bool rfl) rfl) ?_
                  refine M_pu 22 rfl (by kernel_rfl) hM2245 (P_move (vb false) rfl) ?_
                  refine M_pass 23 (dj := 93) rfl (by kernel_rfl) hM2245 rfl rfl (.inl rfl) ?_
                  refine M_pass 24 (dj := 93) rfl (by kernel_rfl) hM2245 rfl rfl (.inl rfl) ?_
                  refine M_pu 25 rfl (by kernel_rfl) hM2245 (P_pick false (vb false) (by exact congrArg Value.bool rfl) rfl) ?_
                  refine M_pu 26 rfl (by kernel_rfl) hM2245 (P_assign (vb false) rfl) ?_
                  refine M_nil (by kernel_rfl) ?_
                  refine W_ret ?_
                  have hc2363 := hc2246.drop 0 rfl
                  have hc2364 := hc2363.drop 0 rfl
                  have hc2365 := hc2364.drop 0 rfl
                  have hc2366 := hc2365.drop 0 rfl
                  have hc2367 := hc2366.drop 0 rfl
                  have hc2368 := hc2367.drop 0 rfl
                  have hc2369 := hc2368.drop 0 rfl
                  have hc2370 := hc2369.drop 0 rfl
                  exact ⟨[vb false], ⟨_, rfl, rfl⟩, false, rfl, H, hc2370.gr⟩
          · have H := ite_f H hq2249
            refine M_pass 4 (dj := 74) rfl (by kernel_rfl) hM2245 rfl rfl (.inl (by exact congrArg Value.bool hq2249)) ?_
            refine M_pu 5 rfl (by kernel_rfl) hM2245 (P_pick false (vb false) (by exact congrArg Value.bool hq2249) rfl) ?_
            refine M_pu 6 rfl (by kernel_rfl) hM2245 (P_move (vb false) rfl) ?_
            refine M_pass 7 (dj := 77) rfl (by kernel_rfl) hM2245 rfl rfl (.inl rfl) ?_
            refine M_pass 8 (dj := 77) rfl (by kernel_rfl) hM2245 rfl rfl (.inl rfl) ?_
            refine M_any1 9 (by kernel_rfl) rfl ?_
            refine L_pass (dj := 77) rfl rfl (.inl rfl) ?_
            refine L_nil ⟨hM2245, ?_⟩
            refine M_pu 10 rfl (by kernel_rfl) hM2245 (P_pick false (vb false) (by exact congrArg Value.bool rfl) rfl) ?_
            refine M_pu 11 rfl (by kernel_rfl) hM2245 (P_move (vb false) rfl) ?_
            refine M_pass 12 (dj := 82) rfl (by kernel_rfl) hM2245 rfl rfl (.inl rfl) ?_
            refine M_pass 15 (dj := 82) rfl (by kernel_rfl) hM2245 rfl rfl (.inl rfl) ?_
            refine M_any2 13 17 (by kernel_rfl) rfl rfl ?_ ?_
            · refine L_pass (dj := 82) rfl rfl (.inl rfl) ?_
              refine L_nil ⟨hM2245, ?_⟩
              refine M_any2 14 17 (by kernel_rfl) rfl rfl ?_ ?_
              · refine L_pass (dj := 82) rfl rfl (.inl rfl) ?_
                refine L_nil ⟨hM2245, ?_⟩
                refine M_any2 16 17 (by kernel_rfl) rfl rfl ?_ ?_
                · refine L_pass (dj := 82) rfl rfl (.inl rfl) ?_
                  refine L_nil ⟨hM2245, ?_⟩
                  refine M_any1 17 (by kernel_rfl) rfl ?_
                  refine L_pass (dj := 82) rfl rfl (.inl rfl) ?_
                  refine L_nil ⟨hM2245, ?_⟩
                  refine M_any1 18 (by kernel_rfl) rfl ?_
                  refine L_pass (dj := 82) rfl rfl (.inl rfl) ?_
                  refine L_nil ⟨hM2245, ?_⟩
                  refine M_any1 19 (by kernel_rfl) rfl ?_
                  refine L_pass (dj := 82) rfl rfl (.inl rfl) ?_
                  refine L_nil ⟨hM2245, ?_⟩
                  refine M_any1 20 (by kernel_rfl) rfl ?_
                  refine L_pass (dj := 82) rfl rfl (.inl rfl) ?_
                  refine L_nil ⟨hM2245, ?_⟩
                  refine M_pu 21 rfl (by kernel_rfl) hM2245 (P_pick false (vb false) (by exact congrArg Value.bool rfl) rfl) ?_
                  refine M_pu 22 rfl (by kernel_rfl) hM2245 (P_move (vb false) rfl) ?_
                  refine M_pass 23 (dj := 93) rfl (by kernel_rfl) hM2245 rfl rfl (.inl rfl) ?_
                  refine M_pass 24 (dj := 93) rfl (by kernel_rfl) hM2245 rfl rfl (.inl rfl) ?_
                  refine M_pu 25 rfl (by kernel_rfl) hM2245 (P_pick false (vb false) (by exact congrArg Value.bool rfl) rfl) ?_
                  refine M_pu 26 rfl (by kernel_rfl) hM2245 (P_assign (vb false) rfl) ?_
                  refine M_nil (by kernel_rfl) ?_
                  refine W_ret ?_
                  have hc2371 := hc2246.drop 0 rfl
                  have hc2372 := hc2371.drop 0 rfl
                  have hc2373 := hc2372.drop 0 rfl
                  have hc2374 := hc2373.drop 0 rfl
                  have hc2375 := hc2374.drop 0 rfl
                  have hc2376 := hc2375.drop 0 rfl
                  have hc2377 := hc2376.drop 0 rfl
                  have hc2378 := hc2377.drop 0 rfl
                  exact ⟨[vb false], ⟨_, rfl, rfl⟩, false, rfl, H, hc2378.gr⟩
                · refine L_pass (dj := 82) rfl rfl (.inl rfl) ?_
                  refine L_nil ⟨hM2245, ?_⟩
                  refine M_any2 16 18 (by kernel_rfl) rfl rfl ?_ ?_
                  · refine L_pass (dj := 82) rfl rfl (.inl rfl) ?_
                    refine L_nil ⟨hM2245, ?_⟩
                    refine M_any1 18 (by kernel_rfl) rfl ?_
                    refine L_pass (dj := 82) rfl rfl (.inl rfl) ?_
                    refine L_nil ⟨hM2245, ?_⟩
                    refine M_any1 19 (by kernel_rfl) rfl ?_
                    refine L_pass (dj := 82) rfl rfl (.inl rfl) ?_
                    refine L_nil ⟨hM2245, ?_⟩
                    refine M_any1 20 (by kernel_rfl) rfl ?_
                    refine L_pass (dj := 82) rfl rfl (.inl rfl) ?_
                    refine L_nil ⟨hM2245, ?_⟩
                    refine M_pu 21 rfl (by kernel_rfl) hM2245 (P_pick false (vb false) (by exact congrArg Value.bool rfl) rfl) ?_
                    refine M_pu 22 rfl (by kernel_rfl) hM2245 (P_move (vb false) rfl) ?_
                    refine M_pass 23 (dj := 93) rfl (by kernel_rfl) hM2245 rfl rfl (.inl rfl) ?_
                    refine M_pass 24 (dj := 93) rfl (by kernel_rfl) hM2245 rfl rfl (.inl rfl) ?_
                    refine M_pu 25 rfl (by kernel_rfl) hM2245 (P_pick false (vb false) (by exact congrArg Value.bool rfl) rfl) ?_
                    refine M_pu 26 rfl (by kernel_rfl) hM2245 (P_assign (vb false) rfl) ?_
                    refine M_nil (by kernel_rfl) ?_
                    refine W_ret ?_
                    have hc2371 := hc2246.drop 0 rfl
                    have hc2372 := hc2371.drop 0 rfl
                    have hc2373 := hc2372.drop 0 rfl
                    have hc2374 := hc2373.drop 0 rfl
                    have hc2375 := hc2374.drop 0 rfl
                    have hc2376 := hc2375.drop 0 rfl
                    have hc2377 := hc2376.drop 0 rfl
                    have hc2378 := hc2377.drop 0 rfl
                    exact ⟨[vb false], ⟨_, rfl, rfl⟩, false, rfl, H, hc2378.gr⟩
                  · refine L_pass (dj := 82) rfl rfl (.inl rfl) ?_
                    refine L_nil ⟨hM2245, ?_⟩
                    refine M_any1 16 (by kernel_rfl) rfl ?_
                    refine L_pass (dj := 82) rfl rfl (.inl rfl) ?_
                    refine L_nil ⟨hM2245, ?_⟩
                    refine M_any1 19 (by kernel_rfl) rfl ?_
                    refine L_pass (dj := 82) rfl rfl (.inl rfl) ?_
                    refine L_nil ⟨hM2245, ?_⟩
                    refine M_any1 20 (by kernel_rfl) rfl ?_
                    refine L_pass (dj := 82) rfl rfl (.inl rfl) ?_
                    refine L_nil ⟨hM2245, ?_⟩
                    refine M_pu 21 rfl (by kernel_rfl) hM2245 (P_pick false (vb false) (by exact congrArg Value.bool rfl) rfl) ?_
                    refine M_pu 22 rfl (by kernel_rfl) hM2245 (P_move (vb false) rfl) ?_
                    refine M_pass 23 (dj := 93) rfl (by kernel_rfl) hM2245 rfl rfl (.inl rfl) ?_
                    refine M_pass 24 (dj := 93) rfl (by kernel_rfl) hM2245 rfl rfl (.inl rfl) ?_
                    refine M_pu 25 rfl (by kernel_rfl) hM2245 (P_pick false (vb false) (by exact congrArg Value.bool rfl) rfl) ?_
                    refine M_pu 26 rfl (by kernel_rfl) hM2245 (P_assign (vb false) rfl) ?_
                    refine M_nil (by kernel_rfl) ?_
                    refine W_ret ?_
                    have hc2371 := hc2246.drop 0 rfl
                    have hc2372 := hc2371.drop 0 rfl
                    have hc2373 := hc2372.drop 0 rfl
                    have hc2374 := hc2373.drop 0 rfl
                    have hc2375 := hc2374.drop 0 rfl
                    have hc2376 := hc2375.drop 0 rfl
                    have hc2377 := hc2376.drop 0 rfl
                    have hc2378 := hc2377.drop 0 rfl
                    exact ⟨[vb false], ⟨_, rfl, rfl⟩, false, rfl, H, hc2378.gr⟩
              · refine L_pass (dj := 82) rfl rfl (.inl rfl) ?_
                refine L_nil ⟨hM2245, ?_⟩
                refine M_any2 14 18 (by kernel_rfl) rfl rfl ?_ ?_
                · refine L_pass (dj := 82) rfl rfl (.inl rfl) ?_
                  refine L_nil ⟨hM2245, ?_⟩
                  refine M_any2 16 18 (by kernel_rfl) rfl rfl ?_ ?_
                  · refine L_pass (dj := 82) rfl rfl (.inl rfl) ?_
                    refine L_nil ⟨hM2245, ?_⟩
                    refine M_any1 18 (by kernel_rfl) rfl ?_
                    refine L_pass (dj := 82) rfl rfl (.inl rfl) ?_
                    refine L_nil ⟨hM2245, ?_⟩
                    refine M_any1 19 (by kernel_rfl) rfl ?_
                    refine L_pass (dj := 82) rfl rfl (.inl rfl) ?_
                    refine L_nil ⟨hM2245, ?_⟩
                    refine M_any1 20 (by kernel_rfl) rfl ?_
                    refine L_pass (dj := 82) rfl rfl (.inl rfl) ?_
                    refine L_nil ⟨hM2245, ?_⟩
                    refine M_pu 21 rfl (by kernel_rfl) hM2245 (P_pick false (vb false) (by exact congrArg Value.bool rfl) rfl) ?_
                    refine M_pu 22 rfl (by kernel_rfl) hM2245 (P_move (vb false) rfl) ?_
                    refine M_pass 23 (dj := 93) rfl (by kernel_rfl) hM2245 rfl rfl (.inl rfl) ?_
                    refine M_pass 24 (dj := 93) rfl (by kernel_rfl) hM2245 rfl rfl (.inl rfl) ?_
                    refine M_pu 25 rfl (by kernel_rfl) hM2245 (P_pick false (vb false) (by exact congrArg Value.bool rfl) rfl) ?_
                    refine M_pu 26 rfl (by kernel_rfl) hM2245 (P_assign (vb false) rfl) ?_
                    refine M_nil (by kernel_rfl) ?_
                    refine W_ret ?_
                    have hc2371 := hc2246.drop 0 rfl
                    have hc2372 := hc2371.drop 0 rfl
                    have hc2373 := hc2372.drop 0 rfl
                    have hc2374 := hc2373.drop 0 rfl
                    have hc2375 := hc2374.drop 0 rfl
                    have hc2376 := hc2375.drop 0 rfl
                    have hc2377 := hc2376.drop 0 rfl
                    have hc2378 := hc2377.drop 0 rfl
                    exact ⟨[vb false], ⟨_, rfl, rfl⟩, false, rfl, H, hc2378.gr⟩
                  · refine L_pass (dj := 82) rfl rfl (.inl rfl) ?_
                    refine L_nil ⟨hM2245, ?_⟩
                    refine M_any1 16 (by kernel_rfl) rfl ?_
                    refine L_pass (dj := 82) rfl rfl (.inl rfl) ?_
                    refine L_nil ⟨hM2245, ?_⟩
                    refine M_any1 19 (by kernel_rfl) rfl ?_
                    refine L_pass (dj := 82) rfl rfl (.inl rfl) ?_
                    refine L_nil ⟨hM2245, ?_⟩
                    refine M_any1 20 (by kernel_rfl) rfl ?_
                    refine L_pass (dj := 82) rfl rfl (.inl rfl) ?_
                    refine L_nil ⟨hM2245, ?_⟩
                    refine M_pu 21 rfl (by kernel_rfl) hM2245 (P_pick false (vb false) (by exact congrArg Value.bool rfl) rfl) ?_
                    refine M_pu 22 rfl (by kernel_rfl) hM2245 (P_move (vb false) rfl) ?_
                    refine M_pass 23 (dj := 93) rfl (by kernel_rfl) hM2245 rfl rfl (.inl rfl) ?_
                    refine M_pass 24 (dj := 93) rfl (by kernel_rfl) hM2245 rfl rfl (.inl rfl) ?_
                    refine M_pu 25 rfl (by kernel_rfl) hM2245 (P_pick false (vb false) (by exact congrArg Value.bool rfl) rfl) ?_
                    refine M_pu 26 rfl (by kernel_rfl) hM2245 (P_assign (vb false) rfl) ?_
                    refine M_nil (by kernel_rfl) ?_
                    refine W_ret ?_
                    have hc2371 := hc2246.drop 0 rfl
                    have hc2372 := hc2371.drop 0 rfl
                    have hc2373 := hc2372.drop 0 rfl
                    have hc2374 := hc2373.drop 0 rfl
                    have hc2375 := hc2374.drop 0 rfl
                    have hc2376 := hc2375.drop 0 rfl
                    have hc2377 := hc2376.drop 0 rfl
                    have hc2378 := hc2377.drop 0 rfl
                    exact ⟨[vb false], ⟨_, rfl, rfl⟩, false, rfl, H, hc2378.gr⟩
                · refine L_pass (dj := 82) rfl rfl (.inl rfl) ?_
                  refine L_nil ⟨hM2245, ?_⟩
                  refine M_any1 14 (by kernel_rfl) rfl ?_
                  refine L_pass (dj := 82) rfl rfl (.inl rfl) ?_
                  refine L_nil ⟨hM2245, ?_⟩
                  refine M_any1 16 (by kernel_rfl) rfl ?_
                  refine L_pass (dj := 82) rfl rfl (.inl rfl) ?_
                  refine L_nil ⟨hM2245, ?_⟩
                  refine M_any1 19 (by kernel_rfl) rfl ?_
                  refine L_pass (dj := 82) rfl rfl (.inl rfl) ?_
                  refine L_nil ⟨hM2245, ?_⟩
                  refine M_any1 20 (by kernel_rfl) rfl ?_
                  refine L_pass (dj := 82) rfl rfl (.inl rfl) ?_
                  refine L_nil ⟨hM2245, ?_⟩
                  refine M_pu 21 rfl (by kernel_rfl) hM2245 (P_pick false (vb false) (by exact congrArg Value.bool rfl) rfl) ?_
                  refine M_pu 22 rfl (by kernel_rfl) hM2245 (P_move (vb false) rfl) ?_
                  refine M_pass 23 (dj := 93) rfl (by kernel_rfl) hM2245 rfl rfl (.inl rfl) ?_
                  refine M_pass 24 (dj := 93) rfl (by kernel_rfl) hM2245 rfl rfl (.inl rfl) ?_
                  refine M_pu 25 rfl (by kernel_rfl) hM2245 (P_pick false (vb false) (by exact congrArg Value.bool rfl) rfl) ?_
                  refine M_pu 26 rfl (by kernel_rfl) hM2245 (P_assign (vb false) rfl) ?_
                  refine M_nil (by kernel_rfl) ?_
                  refine W_ret ?_
                  have hc2371 := hc2246.drop 0 rfl
                  have hc2372 := hc2371.drop 0 rfl
                  have hc2373 := hc2372.drop 0 rfl
                  have hc2374 := hc2373.drop 0 rfl
                  have hc2375 := hc2374.drop 0 rfl
                  have hc2376 := hc2375.drop 0 rfl
                  have hc2377 := hc2376.drop 0 rfl
                  have hc2378 := hc2377.drop 0 rfl
                  exact ⟨[vb false], ⟨_, rfl, rfl⟩, false, rfl, H, hc2378.gr⟩
            · refine L_pass (dj := 82) rfl rfl (.inl rfl) ?_
              refine L_nil ⟨hM2245, ?_⟩
              refine M_any2 13 18 (by kernel_rfl) rfl rfl ?_ ?_
              · refine L_pass (dj := 82) rfl rfl (.inl rfl) ?_
                refine L_nil ⟨hM2245, ?_⟩
                refine M_any2 14 18 (by kernel_rfl) rfl rfl ?_ ?_
                · refine L_pass (dj := 82) rfl rfl (.inl rfl) ?_
                  refine L_nil ⟨hM2245, ?_⟩
                  refine M_any2 16 18 (by kernel_rfl) rfl rfl ?_ ?_
                  · refine L_pass (dj := 82) rfl rfl (.inl rfl) ?_
                    refine L_nil ⟨hM2245, ?_⟩
                    refine M_any1 18 (by kernel_rfl) rfl ?_
                    refine L_pass (dj := 82) rfl rfl (.inl rfl) ?_
                    refine L_nil ⟨hM2245, ?_⟩
                    refine M_any1 19 (by kernel_rfl) rfl ?_
                    refine L_pass (dj := 82) rfl rfl (.inl rfl) ?_
                    refine L_nil ⟨hM2245, ?_⟩
                    refine M_any1 20 (by kernel_rfl) rfl ?_
                    refine L_pass (dj := 82) rfl rfl (.inl rfl) ?_
                    refine L_nil ⟨hM2245, ?_⟩
                    refine M_pu 21 rfl (by kernel_rfl) hM2245 (P_pick false (vb false) (by exact congrArg Value.bool rfl) rfl) ?_
                    refine M_pu 22 rfl (by kernel_rfl) hM2245 (P_move (vb false) rfl) ?_
                    refine M_pass 23 (dj := 93) rfl (by kernel_rfl) hM2245 rfl rfl (.inl rfl) ?_
                    refine M_pass 24 (dj := 93) rfl (by kernel_rfl) hM2245 rfl rfl (.inl rfl) ?_
                    refine M_pu 25 rfl (by kernel_rfl) hM2245 (P_pick false (vb false) (by exact congrArg Value.bool rfl) rfl) ?_
                    refine M_pu 26 rfl (by kernel_rfl) hM2245 (P_assign (vb false) rfl) ?_
                    refine M_nil (by kernel_rfl) ?_
                    refine W_ret ?_
                    have hc2371 := hc2246.drop 0 rfl
                    have hc2372 := hc2371.drop 0 rfl
                    have hc2373 := hc2372.drop 0 rfl
                    have hc2374 := hc2373.drop 0 rfl
                    have hc2375 := hc2374.drop 0 rfl
                    have hc2376 := hc2375.drop 0 rfl
                    have hc2377 := hc2376.drop 0 rfl
                    have hc2378 := hc2377.drop 0 rfl
                    exact ⟨[vb false], ⟨_, rfl, rfl⟩, false, rfl, H, hc2378.gr⟩
                  · refine L_pass (dj := 82) rfl rfl (.inl rfl) ?_
                    refine L_nil ⟨hM2245, ?_⟩
                    refine M_any1 16 (by kernel_rfl) rfl ?_
                    refine L_pass (dj := 82) rfl rfl (.inl rfl) ?_
                    refine L_nil ⟨hM2245, ?_⟩
                    refine M_any1 19 (by kernel_rfl) rfl ?_
                    refine L_pass (dj := 82) rfl rfl (.inl rfl) ?_
                    refine L_nil ⟨hM2245, ?_⟩
                    refine M_any1 20 (by kernel_rfl) rfl ?_
                    refine L_pass (dj := 82) rfl rfl (.inl rfl) ?_
                    refine L_nil ⟨hM2245, ?_⟩
                    refine M_pu 21 rfl (by kernel_rfl) hM2245 (P_pick false (vb false) (by exact congrArg Value.bool rfl) rfl) ?_
                    refine M_pu 22 rfl (by kernel_rfl) hM2245 (P_move (vb false) rfl) ?_
                    refine M_pass 23 (dj := 93) rfl (by kernel_rfl) hM2245 rfl rfl (.inl rfl) ?_
                    refine M_pass 24 (dj := 93) rfl (by kernel_rfl) hM2245 rfl rfl (.inl rfl) ?_
                    refine M_pu 25 rfl (by kernel_rfl) hM2245 (P_pick false (vb false) (by exact congrArg Value.bool rfl) rfl) ?_
                    refine M_pu 26 rfl (by kernel_rfl) hM2245 (P_assign (vb false) rfl) ?_
                    refine M_nil (by kernel_rfl) ?_
                    refine W_ret ?_
                    have hc2371 := hc2246.drop 0 rfl
                    have hc2372 := hc2371.drop 0 rfl
                    have hc2373 := hc2372.drop 0 rfl
                    have hc2374 := hc2373.drop 0 rfl
                    have hc2375 := hc2374.drop 0 rfl
                    have hc2376 := hc2375.drop 0 rfl
                    have hc2377 := hc2376.drop 0 rfl
                    have hc2378 := hc2377.drop 0 rfl
                    exact ⟨[vb false], ⟨_, rfl, rfl⟩, false, rfl, H, hc2378.gr⟩
                · refine L_pass (dj := 82) rfl rfl (.inl rfl) ?_
                  refine L_nil ⟨hM2245, ?_⟩
                  refine M_any1 14 (by kernel_rfl) rfl ?_
                  refine L_pass (dj := 82) rfl rfl (.inl rfl) ?_
                  refine L_nil ⟨hM2245, ?_⟩
                  refine M_any1 16 (by kernel_rfl) rfl ?_
                  refine L_pass (dj := 82) rfl rfl (.inl rfl) ?_
                  refine L_nil ⟨hM2245, ?_⟩
                  refine M_any1 19 (by kernel_rfl) rfl ?_
                  refine L_pass (dj := 82) rfl rfl (.inl rfl) ?_
                  refine L_nil ⟨hM2245, ?_⟩
                  refine M_any1 20 (by kernel_rfl) rfl ?_
                  refine L_pass (dj := 82) rfl rfl (.inl rfl) ?_
                  refine L_nil ⟨hM2245, ?_⟩
                  refine M_pu 21 rfl (by kernel_rfl) hM2245 (P_pick false (vb false) (by exact congrArg Value.bool rfl) rfl) ?_
                  refine M_pu 22 rfl (by kernel_rfl) hM2245 (P_move (vb false) rfl) ?_
                  refine M_pass 23 (dj := 93) rfl (by kernel_rfl) hM2245 rfl rfl (.inl rfl) ?_
                  refine M_pass 24 (dj := 93) rfl (by kernel_rfl) hM2245 rfl rfl (.inl rfl) ?_
                  refine M_pu 25 rfl (by kernel_rfl) hM2245 (P_pick false (vb false) (by exact congrArg Value.bool rfl) rfl) ?_
                  refine M_pu 26 rfl (by kernel_rfl) hM2245 (P_assign (vb false) rfl) ?_
                  refine M_nil (by kernel_rfl) ?_
                  refine W_ret ?_
                  have hc2371 := hc2246.drop 0 rfl
                  have hc2372 := hc2371.drop 0 rfl
                  have hc2373 := hc2372.drop 0 rfl
                  have hc2374 := hc2373.drop 0 rfl
                  have hc2375 := hc2374.drop 0 rfl
                  have hc2376 := hc2375.drop 0 rfl
                  have hc2377 := hc2376.drop 0 rfl
                  have hc2378 := hc2377.drop 0 rfl
                  exact ⟨[vb false], ⟨_, rfl, rfl⟩, false, rfl, H, hc2378.gr⟩
              · refine L_pass (dj := 82) rfl rfl (.inl rfl) ?_
                refine L_nil ⟨hM2245, ?_⟩
                refine M_any1 13 (by kernel_rfl) rfl ?_
                refine L_pass (dj := 82) rfl rfl (.inl rfl) ?_
                refine L_nil ⟨hM2245, ?_⟩
                refine M_any1 14 (by kernel_rfl) rfl ?_
                refine L_pass (dj := 82) rfl rfl (.inl rfl) ?_
                refine L_nil ⟨hM2245, ?_⟩
                refine M_any1 16 (by kernel_rfl) rfl ?_
                refine L_pass (dj := 82) rfl rfl (.inl rfl) ?_
                refine L_nil ⟨hM2245, ?_⟩
                refine M_any1 19 (by kernel_rfl) rfl ?_
                refine L_pass (dj := 82) rfl rfl (.inl rfl) ?_
                refine L_nil ⟨hM2245, ?_⟩
                refine M_any1 20 (by kernel_rfl) rfl ?_
                refine L_pass (dj := 82) rfl rfl (.inl rfl) ?_
                refine L_nil ⟨hM2245, ?_⟩
                refine M_pu 21 rfl (by kernel_rfl) hM2245 (P_pick false (vb false) (by exact congrArg Value.bool rfl) rfl) ?_
                refine M_pu 22 rfl (by kernel_rfl) hM2245 (P_move (vb false) rfl) ?_
                refine M_pass 23 (dj := 93) rfl (by kernel_rfl) hM2245 rfl rfl (.inl rfl) ?_
                refine M_pass 24 (dj := 93) rfl (by kernel_rfl) hM2245 rfl rfl (.inl rfl) ?_
                refine M_pu 25 rfl (by kernel_rfl) hM2245 (P_pick false (vb false) (by exact congrArg Value.bool rfl) rfl) ?_
                refine M_pu 26 rfl (by kernel_rfl) hM2245 (P_assign (vb false) rfl) ?_
                refine M_nil (by kernel_rfl) ?_
                refine W_ret ?_
                have hc2371 := hc2246.drop 0 rfl
                have hc2372 := hc2371.drop 0 rfl
                have hc2373 := hc2372.drop 0 rfl
                have hc2374 := hc2373.drop 0 rfl
                have hc2375 := hc2374.drop 0 rfl
                have hc2376 := hc2375.drop 0 rfl
                have hc2377 := hc2376.drop 0 rfl
                have hc2378 := hc2377.drop 0 rfl
                exact ⟨[vb false], ⟨_, rfl, rfl⟩, false, rfl, H, hc2378.gr⟩
end Go.Proofs.Ytnliofcjplnboaa

namespace Go.Proofs.Ytnliofcjplnboaa
set_option linter.unusedVariables false
set_option linter.unusedSimpArgs false
/-- a merge hands back the row, or nothing -/
def mrow (o a b : List Pt) : List Pt := (smerge o a b).getD []
def mok (o a b : List Pt) : Bool := (smerge o a b).isSome
theorem impl_SeqMerge.is (o a b : List Pt) (Q : List Pt → Bool → Prop) (hq : Q (mrow o a b) (mok o a b)) : impl_SeqMerge.E o a b Q :=
  impl_SeqMerge.law o a b Q (fun r h => by unfold mrow mok at hq; rw [h] at hq; exact hq) (fun h => by unfold mrow mok at hq; rw [h] at hq; exact hq)
theorem spec_SeqMerge.is (o a b : List Pt) (Q : List Pt → Bool → Prop) (hq : Q (mrow o a b) (mok o a b)) : spec_SeqMerge.E o a b Q :=
  spec_SeqMerge.law o a b Q (fun r h => by unfold mrow mok at hq; rw [h] at hq; exact hq) (fun h => by unfold mrow mok at hq; rw [h] at hq; exact hq)
theorem m_of {o a b r : List Pt} (h : smerge o a b = some r) : mrow o a b = r ∧ mok o a b = true := by unfold mrow mok; rw [h]; exact ⟨rfl, rfl⟩
theorem m_not {o a b : List Pt} (h : smerge o a b = none) : mrow o a b = [] ∧ mok o a b = false := by unfold mrow mok; rw [h]; exact ⟨rfl, rfl⟩
end Go.Proofs.Ytnliofcjplnboaa

namespace Go.Proofs.Ytnliofcjplnboaa
set_option linter.unusedVariables false
set_option linter.unusedSimpArgs false
theorem Field.out {l : List Pt} (h : Field l) {x y : Int} (hx : 8 < x) : (⟨x, y⟩ : Pt) ∉ l := fun hm => by have := h _ hm; dsimp only at this; omega
theorem laws_FnSeqApart.gen (code : List UInt8) (Q : Bool → Prop) (hq : Q true) : laws_FnSeqApart.E code Q := by
  unfold laws_FnSeqApart.E
  by_cases c1 : (code.length : Int) > 1048576
  · rw [if_pos (by simpa using c1)]; exact hq
  rw [if_neg (by simpa using c1)]
  refine spec_DrawSeqMerge.law _ _ fun o a b ho ha hb hf _ _ => ?_
  by_cases c2 : (o.length : Int) < 1
  · rw [if_pos (by simpa using c2)]; exact hq
  rw [if_neg (by simpa using c2)]
  by_cases c3 : (o.length : Int) ≥ 12
  · rw [if_pos (by simpa using c3)]; exact hq
  rw [if_neg (by simpa using c3)]
  simp only [List.nil_append, List.singleton_append]
  have hp := hf.out (x := 99) (y := 99) (by omega)
  have hq' := hf.out (x := 98) (y := 98) (by omega)
  obtain ⟨e1, e2⟩ := m_of (smerge_apart (q := ⟨98, 98⟩) hp (by omega) (by omega))
  obtain ⟨e3, e4⟩ := m_not (smerge_clash hp hq' (by decide) (by omega))
  refine ⟨by simp only [List.length_singleton]; omega, by simp only [List.length_nil]; omega, by simp only [List.length_singleton]; omega, by simp only [List.length_singleton]; omega, impl_SeqMerge.is _ _ _ _ (spec_SeqMerge.is _ _ _ _ (impl_SeqMerge.is _ _ _ _ ⟨by simp only [List.length_singleton]; omega, by simp only [List.length_cons, List.length_nil]; omega, ?_⟩))⟩
  rw [e1, e2, e4, if_pos (by decide), if_pos rfl]
  refine laws_wsSame.law _ _ _ ?_
  rw [decide_eq_true rfl, if_pos rfl]
  refine laws_wsSame.law _ _ _ ?_
  rw [decide_eq_true rfl, if_pos rfl]; exact hq
theorem laws_FnSeqApart.law (code : List UInt8) (_ : ∀ x ∈ code, True) : laws_FnSeqApart.E code (fun r => r = true) := laws_FnSeqApart.gen code _ rfl
end Go.Proofs.Ytnliofcjplnboaa

namespace Go.Proofs.Ytnliofcjplnboaa.rFnSeqApart
open Go.ChangeShapes Go.WideShapes Go.ChangeAt Go.RowKit
open Go.ChangeMaps (open_string shut_string)
set_option linter.unusedVariables false
theorem own : ownKnob Try.prog.godebug = none := by kernel_rfl
theorem laidOut : laidOutB Try.prog = true := by kernel_rfl
set_option maxRecDepth 100000 in
theorem lifted (os : Os) (started : os.Started) (H : Type) (enc : TypeId × Value → H) :
    ReturnsInHanded {} Try.checked os 12 .any (Rows.fnSeqApartSpec.pre6 enc Try.prog Try.f12 Rows.fnSeqApartRow.domain false) (Rows.fnSeqApartSpec.post enc Try.prog Try.f12 false true false false) := by
  refine returnsInHanded_of_change_sized (C := Try.checked) own started (by kernel_rfl) Try.func12
    (ChangeSpec.witness6 (enc := enc) (C := Try.checked) false ⟨#[], #[.slice none 0 0], []⟩ 8 (by kernel_rfl) (by kernel_rfl) (by kernel_rfl) (by kernel_rfl)) ?_
  intro W base args ds gs before hval0 hW hcnd hsz0 _
  have hval : ∀ (j : Nat) t v, Try.f12.params[j]? = some t → args[j]? = some v → Value.okWide Try.prog W .any base t v := hval0
  have hW' := hW
  obtain ⟨p, q, hA0, hV, rfl, hfz, hnd⟩ := hW
  have hA : DataW.TrodAll enc Try.prog W 0 (fun _ => true) true Try.f12.params.toList args.toList ds p := hA0
  rw [Try.params12] at hA hval
  obtain ⟨v0, vs0, d0, ds0, p0, q0, hargs, rfl, rfl, h0, r0⟩ := trodAll_cons hA
  obtain ⟨rfl, rfl, rfl⟩ := trodAll_nil r0
  obtain rfl : args = #[v0] := by cases args; simp_all
  obtain ⟨rfl, rfl⟩ := trodVars_none hV
  have k0 := h0
  have lt0 : ∀ x ∈ p0, x.block < W.heap.size := by obtain ⟨m, hm⟩ := k0; exact DataW.trod_lt m _ _ _ hm
  obtain ⟨x0, hv0, hx0⟩ : ∃ a : List UInt8, (∀ y0 ∈ a, True) ∧ (Kd.sl Kd.byte).R W (Fr []) a v0.cells.toList := by obtain ⟨fuel, hf⟩ := h0; exact (Tr.sl Try.underlying37 (by kernel_rfl) (Tr.byte Try.underlying5)) H enc W fuel _ _ hf
  obtain ⟨a0, n0, c0, rfl⟩ := okWide_slice Try.underlying37 (hval 0 37 v0 rfl rfl)
  have s0 : Sl Kd.byte W (Fr []) (.slice a0 n0 c0) x0 := by obtain ⟨_, e, h⟩ := hx0; simp [Value.cells] at e; subst e; exact h
  clear hA0 hval0 hsz0
  refine Calls.mono (laws_FnSeqApart.calls W (Ok.nil W) x0 a0 n0 c0 s0 (fun r => r = true) (laws_FnSeqApart.law x0 hv0)) fun e W' ⟨v, he, r, hr, hq, hg⟩ => ?_
  subst he; subst hr; subst hq
  have bel := Gr.below hg
  exact ⟨_, rfl, _, _, _, [], _, [], hW', trodAll_mk1 (shut_bool Try.underlying4 _), (trodAll_cons_mk (Below.trod laidOut (by kernel_rfl) (of_decide_eq_true (by kernel_rfl)) k0 bel lt0) trodAll_mk0), rfl, bel.frame _, fun h => by cases h⟩
theorem over : Rows.fnSeqApartRow.holds Try.pinned (OpenSpec.ofChange Rows.fnSeqApartSpec) :=
  OpenClaim.holds_of_wide 12 Try.f12 rfl rfl rfl rfl rfl rfl rfl ⟨rfl, rfl, rfl, rfl, rfl⟩ rfl rfl rfl rfl rfl (by kernel_rfl) Try.func12 (by kernel_rfl)
    (of_decide_eq_true (by kernel_rfl)) (by unfold Func.isWrapper; first | (rw [if_pos (by decide +kernel)]; kernel_rfl) | (rw [if_neg (by decide +kernel)]; exact ⟨rfl, rfl⟩))
    (fun os started H enc _ => lifted os started H enc)
theorem proved : Rows.FnSeqApartSaid := over
#print axioms proved
end Go.Proofs.Ytnliofcjplnboaa.rFnSeqApart
namespace Go.Proofs.Ytnliofcjplnboaa
theorem fnSeqApart_holds : Rows.FnSeqApartSaid := rFnSeqApart.proved
end Go.Proofs.Ytnliofcjplnboaa
