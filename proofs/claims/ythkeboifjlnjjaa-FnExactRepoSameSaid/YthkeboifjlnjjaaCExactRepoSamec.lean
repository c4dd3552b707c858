/- It is proved here that the law FnExactRepoSame of the given program holds whatever it is handed: the walks through the code, the plain laws and the row, in this order.
   Conditions: none. -/
import Derived.Below
import Derived.ChangeArms
import Derived.ChangeOld
import Derived.ChangeSlices
import Derived.DataReads
import Derived.Deep.Quiet
import Derived.KernelRfl
import Derived.Laws.Build
import Derived.Laws.OwnMore
import Derived.Laws.Slices
import Derived.Laws.StructEq
import Derived.OpenShut
import Derived.ProofKit
import Derived.ShutString
import Derived.SizedLaws
import Derived.StillTail
import Derived.Test.YthkeboifjlnjjaaProg
import Derived.Test.YthkeboifjlnjjaaRows
import Derived.WalkKit
import Derived.Test.YthkeboifjlnjjaaCExactRepoSamea
import Derived.Test.YthkeboifjlnjjaaCExactRepoSameb
namespace Go.Proofs.Ythkeboifjlnjjaa
open Go.RowKit
set_option linter.unusedVariables false
def slices_EqualFunc_Commit.E (s1 : List Commit) (s2 : List Commit) (eq : Commit → Commit → Bool) (eq_ok : Commit → Commit → Prop) (Q : Bool → Prop) : Prop :=
  (if (s1.length : Int) != (s2.length : Int) then Q false else (∃ (I36 : Int → Prop) (mu37 : Int → Nat), I36 0 ∧ ∀ (v2 : Int), I36 v2 → (if decide (v2 < (s1.length : Int)) then ((0 : Int) ≤ v2 ∧ v2 < (s1.length : Int)) ∧ ((0 : Int) ≤ v2 ∧ v2 < (s2.length : Int)) ∧ (eq_ok (nth s1 v2) (nth s2 v2)) ∧ (if !(eq (nth s1 v2) (nth s2 v2)) then Q false else (I64 (v2 + 1)) ∧ I36 (v2 + 1) ∧ mu37 (v2 + 1) < mu37 v2) else Q true)))
set_option maxHeartbeats 8000000 in
set_option maxRecDepth 100000 in
theorem slices_EqualFunc_Commit.calls {O : Ob} (w0 : World) (hO : Ok w0 O) (s1 : List Commit) (A1 : Option Addr) (n2 c3 : Nat) (hp4 : Sl kCommit w0 (Fr O) (.slice A1 n2 c3) s1) (s2 : List Commit) (A6 : Option Addr) (n7 c8 : Nat) (hp9 : Sl kCommit w0 (Fr O) (.slice A6 n7 c8) s2) (fg11 : FuncId) (fc12 : List Value) (eq : Commit → Commit → Bool) (eq_ok : Commit → Commit → Prop) (hgo13 : Goes Try.prog fg11) (hf14 : ∀ (w : World) (L : Ob), Ct none w0 w L O → ∀ (x0_ : Commit) (A15 : Option Addr) (n16 c17 : Nat) (A20 : Option Addr) (n21 c22 : Nat) (hp18 : Sl (Kd.int .i64) w (Fr (L ++ O)) (.slice A15 n16 c17) x0_.Up) (hp23 : Sl kFeat w (Fr (L ++ O)) (.slice A20 n21 c22) x0_.Sheet) (hs25 : Lim x0_.Note) (x1_ : Commit) (A26 : Option Addr) (n27 c28 : Nat) (A31 : Option Addr) (n32 c33 : Nat) (hp29 : Sl (Kd.int .i64) w (Fr (L ++ O)) (.slice A26 n27 c28) x1_.Up) (hp34 : Sl kFeat w (Fr (L ++ O)) (.slice A31 n32 c33) x1_.Sheet) (hs36 : Lim x1_.Note), eq_ok x0_ x1_ → Ret Try.prog fg11 ([.agg #[.slice A15 n16 c17, .slice A20 n21 c22, vs x0_.Note], .agg #[.slice A26 n27 c28, .slice A31 n32 c33, vs x1_.Note]] ++ fc12) w (fun v w' => v = vb (eq x0_ x1_) ∧ Gr w w' none)) (Q : Bool → Prop) (h : slices_EqualFunc_Commit.E s1 s2 eq eq_ok Q) :
    Ret Try.prog 50 [.slice A1 n2 c3, .slice A6 n7 c8, .func (.func fg11) #[] fc12.toArray] w0 (fun v w' => ∃ (r0 : Bool), v = vb r0 ∧ Q r0 ∧ Gr w0 w' none) := by
  have H : (if (s1.length : Int) != (s2.length : Int) then Q false else (∃ (I36 : Int → Prop) (mu37 : Int → Nat), I36 0 ∧ ∀ (v2 : Int), I36 v2 → (if decide (v2 < (s1.length : Int)) then ((0 : Int) ≤ v2 ∧ v2 < (s1.length : Int)) ∧ ((0 : Int) ≤ v2 ∧ v2 < (s2.length : Int)) ∧ (eq_ok (nth s1 v2) (nth s2 v2)) ∧ (if !(eq (nth s1 v2) (nth s2 v2)) then Q false else (I64 (v2 + 1)) ∧ I36 (v2 + 1) ∧ mu37 (v2 + 1) < mu37 v2) else Q true))) := h
  clear h
  have hc0 := Ct.init hO
  refine Ret_enter Try.func50 rfl 32 rfl [.tmp 6] rfl rfl ?_
  refine W_seq ?_
  refine W_reg ?_
  refine L_pu (P_assign (vb false) rfl) ?_
  refine L_nil ?_
  refine W_seq ?_
  refine W_seq ?_
  refine W_reg ?_
  refine L_pu (P_move (.slice A1 n2 c3) rfl) ?_
  have hl15 := hp4.le
  refine L_pu (P_len Try.underlying43 A1 n2 c3 hp4.len rfl) ?_
  refine L_pu (P_move (.slice A6 n7 c8) rfl) ?_
  have hl16 := hp9.le
  refine L_pu (P_len Try.underlying43 A6 n7 c8 hp9.len rfl) ?_
  refine L_pu (P_cmp (s1.length : Int) (s2.length : Int) ((s1.length : Int) != (s2.length : Int)) rfl rfl rfl) ?_
  refine L_nil ?_
  refine W_cond ((s1.length : Int) != (s2.length : Int)) rfl (fun hq17 => ?_) (fun hq17 => ?_)
  · have H := ite_t H hq17
    refine W_seq ?_
    refine W_reg ?_
    refine L_pu (P_assign (vb false) rfl) ?_
    refine L_nil ?_
    refine W_ret ?_
    exact ⟨[vb false], ⟨_, rfl, rfl⟩, false, rfl, H, hc0.gr⟩
  · have H := ite_f H hq17
    refine W_skip ?_
    refine W_seq ?_
    refine W_seq ?_
    refine W_reg ?_
    refine L_pu (P_move (.slice A1 n2 c3) rfl) ?_
    refine L_pu (P_len Try.underlying43 A1 n2 c3 hp4.len rfl) ?_
    refine L_pu (P_move (vi 0) rfl) ?_
    refine L_nil ?_
    refine W_block ?_
    obtain ⟨I36, mu37, hI38, H⟩ := H
    refine W_loop (α := Int) (fun (sv__ : Int) t w30 => match sv__ with | v2 => I36 v2 ∧ Has t [(1, .slice A6 n7 c8), (2, .func (.func fg11) #[] fc12.toArray), (15, .slice A1 n2 c3), (16, vi (s1.length : Int)), (17, vi v2)] ∧ Ct none w0 w30 [] O ∧ Sl kCommit w30 (Fr ([] ++ O)) (.slice A6 n7 c8) s2 ∧ Sl kCommit w30 (Fr ([] ++ O)) (.slice A1 n2 c3) s1) (fun (sv__ : Int) => match sv__ with | v2 => mu37 v2) 0 ⟨hI38, ⟨rfl, rfl, rfl, rfl, rfl, trivial⟩, hc0, hp9, hp4⟩ ?_
    rintro v2 _ w30 ⟨hI38, hh40, hc33, h34, h35⟩
    obtain ⟨u41, rfl⟩ := Has.ins hh40
    have H := H v2 hI38
    refine W_seq ?_
    refine W_reg ?_
    refine L_pu (P_cmp v2 (s1.length : Int) (decide (v2 < (s1.length : Int))) rfl rfl rfl) ?_
    refine L_nil ?_
    refine W_seq ?_
    refine W_cond (decide (v2 < (s1.length : Int))) rfl (fun hq42 => ?_) (fun hq42 => ?_)
    · have H := ite_t H hq42
      refine W_skip ?_
      refine W_seq ?_
      refine W_block ?_
      refine W_seq ?_
      refine W_reg ?_
      refine L_pu (P_move (vi v2) rfl) ?_
      obtain ⟨hb43, H⟩ := H
      obtain ⟨ad44, cs45, hA46, hS49, hR47, hcl48⟩ := h35.get default (by decide) v2 hb43
      obtain ⟨A50, n51, c52, A55, n56, c57, rfl, h53, h58, hs60⟩ := kCommit.op hR47
      refine L_pu (P_ia Try.underlying43 se43 A1 ad44 n2 c3 h35.len v2 rfl hA46 rfl hb43) ?_
      refine L_pu (P_lda ag93 sz93 cL (ad44.add (v2.toNat * 3)) [.slice A50 n51 c52, .slice A55 n56 c57, vs ((nth s1 v2).Note)] rfl rfl hcl48) ?_
      refine L_alloc [.slice none 0 0, .slice none 0 0, vs []] ze93 fun w61 b62 hl64 hu65 g63 hx66 => ?_
      have hc68 := hc33.own g63 (some b62) (oglt hl64 hu65)
      refine L_pu (P_assign (vi v2) rfl) ?_
      refine L_stb b62 0 [.slice none 0 0, .slice none 0 0, vs ([] : Str)] [.slice A50 n51 c52, .slice A55 n56 c57, vs ((nth s1 v2).Note)] [.slice A50 n51 c52, .slice A55 n56 c57, vs ((nth s1 v2).Note)] rfl hx66 rfl sz93 rfl rfl rfl fun w69 g70 hx71 => ?_
      have hc72 := hc68.wr 0 rfl g70
      refine L_nil ?_
      refine W_seq ?_
      refine W_reg ?_
      refine L_pu (P_move (.slice A6 n7 c8) rfl) ?_
      refine L_pu (P_move (vi v2) rfl) ?_
      obtain ⟨hb73, H⟩ := H
      have h80 := ((h34.st (.own _ _ g63 (oge hl64))).st (.wl (L := [some b62]) (O := O) (j := 0) rfl g70))
      obtain ⟨ad74, cs75, hA76, hS79, hR77, hcl78⟩ := h80.get default (by decide) v2 hb73
      obtain ⟨A81, n82, c83, A86, n87, c88, rfl, h84, h89, hs91⟩ := kCommit.op hR77
      refine L_pu (P_ia Try.underlying43 se43 A6 ad74 n7 c8 h80.len v2 rfl hA76 rfl hb73) ?_
      refine L_pu (P_lda ag93 sz93 cL (ad74.add (v2.toNat * 3)) [.slice A81 n82 c83, .slice A86 n87 c88, vs ((nth s2 v2).Note)] rfl rfl hcl78) ?_
      refine L_alloc [.slice none 0 0, .slice none 0 0, vs []] ze93 fun w92 b93 hl95 hu96 g94 hx97 => ?_
      have hc99 := hc72.own g94 (some b93) (oglt hl95 hu96)
      refine L_stb b93 0 [.slice none 0 0, .slice none 0 0, vs ([] : Str)] [.slice A81 n82 c83, .slice A86 n87 c88, vs ((nth s2 v2).Note)] [.slice A81 n82 c83, .slice A86 n87 c88, vs ((nth s2 v2).Note)] rfl hx97 rfl sz93 rfl rfl rfl fun w100 g101 hx102 => ?_
      have hc103 := hc99.wr 0 rfl g101
      refine L_nil ?_
      refine W_seq ?_
      refine W_reg ?_
      refine L_pu (P_move (.func (.func fg11) #[] fc12.toArray) rfl) ?_
      have h104 := (Bx.sm (L := [some b93, some b62]) (O := O) (hx71.k0 g94) hc99 (i := 1) rfl (j := 0) rfl (by decide) g101)
      refine L_pu (P_lda ag93 sz93 cL ⟨b62, 0, none⟩ [.slice A50 n51 c52, .slice A55 n56 c57, vs ((nth s1 v2).Note)] rfl rfl (h104.cells (off := 0) rfl)) ?_
      refine L_pu (P_lda ag93 sz93 cL ⟨b93, 0, none⟩ [.slice A81 n82 c83, .slice A86 n87 c88, vs ((nth s2 v2).Note)] rfl rfl (hx102.cells (off := 0) rfl)) ?_
      obtain ⟨hb105, H⟩ := H
      have h109 := ((((h53.st (.own _ _ g63 (oge hl64))).st (.wl (L := [some b62]) (O := O) (j := 0) rfl g70)).st (.own _ _ g94 (oge hl95))).st (.wl (L := [some b93, some b62]) (O := O) (j := 0) rfl g101))
      have h110 := ((((h58.st (.own _ _ g63 (oge hl64))).st (.wl (L := [some b62]) (O := O) (j := 0) rfl g70)).st (.own _ _ g94 (oge hl95))).st (.wl (L := [some b93, some b62]) (O := O) (j := 0) rfl g101))
      have h111 := ((h84.st (.own _ _ g94 (oge hl95))).st (.wl (L := [some b93, some b62]) (O := O) (j := 0) rfl g101))
      have h112 := ((h89.st (.own _ _ g94 (oge hl95))).st (.wl (L := [some b93, some b62]) (O := O) (j := 0) rfl g101))
      refine L_callv hgo13 fc12 rfl [.agg #[.slice A50 n51 c52, .slice A55 n56 c57, vs ((nth s1 v2).Note)], .agg #[.slice A81 n82 c83, .slice A86 n87 c88, vs ((nth s2 v2).Note)]] rfl ((hf14 w100 [some b93, some b62] hc103 (nth s1 v2) A50 n51 c52 A55 n56 c57 h109 h110 hs60 (nth s2 v2) A81 n82 c83 A86 n87 c88 h111 h112 hs91 hb105).mono ?_)
      rintro _ w106 ⟨rfl, g107⟩
      have hc113 := hc103.k0 g107
      refine L_pu (P_not (eq (nth s1 v2) (nth s2 v2)) rfl) ?_
      refine L_nil ?_
      refine W_cond (!(eq (nth s1 v2) (nth s2 v2))) rfl (fun hq114 => ?_) (fun hq114 => ?_)
      · have H := ite_t H hq114
        refine W_seq ?_
        refine W_reg ?_
        refine L_pu (P_assign (vb false) rfl) ?_
        refine L_nil ?_
        refine W_ret ?_
        have hc115 := hc113.drop 0 rfl
        have hc116 := hc115.drop 0 rfl
        exact ⟨[vb false], ⟨_, rfl, rfl⟩, false, rfl, H, hc116.gr⟩
      · have H := ite_f H hq114
        refine W_skip ?_
        refine W_reg ?_
        obtain ⟨hb117, H⟩ := H
        refine L_pu (P_add v2 1 rfl rfl hb117) ?_
        refine L_pu (P_move (vi (v2 + 1)) rfl) ?_
        refine L_nil ?_
        have hc118 := hc113.drop 0 rfl
        have hc119 := hc118.drop 0 rfl
        obtain ⟨hI120, hm121⟩ := H
        have h122 := (((((h80.st (.own _ _ g94 (oge hl95))).st (.wl (L := [some b93, some b62]) (O := O) (j := 0) rfl g101)).st (.new _ g107)).st (.dr _ (L := [some b93, some b62]) (O := O) (j := 0) rfl)).st (.dr _ (L := [some b62]) (O := O) (j := 0) rfl))
        have h123 := (((((((h35.st (.own _ _ g63 (oge hl64))).st (.wl (L := [some b62]) (O := O) (j := 0) rfl g70)).st (.own _ _ g94 (oge hl95))).st (.wl (L := [some b93, some b62]) (O := O) (j := 0) rfl g101)).st (.new _ g107)).st (.dr _ (L := [some b93, some b62]) (O := O) (j := 0) rfl)).st (.dr _ (L := [some b62]) (O := O) (j := 0) rfl))
        exact ⟨v2 + 1, hm121, hI120, ⟨rfl, rfl, rfl, rfl, rfl, trivial⟩, hc119, h122, h123⟩
    · have H := ite_f H hq42
      refine W_exit (xin_hit ?_)
      refine W_seq ?_
      refine W_reg ?_
      refine L_pu (P_assign (vb true) rfl) ?_
      refine L_nil ?_
      refine W_ret ?_
      exact ⟨[vb true], ⟨_, rfl, rfl⟩, true, rfl, H, hc33.gr⟩
end Go.Proofs.Ythkeboifjlnjjaa

namespace Go.Proofs.Ythkeboifjlnjjaa
set_option linter.unusedVariables false
set_option linter.unusedSimpArgs false
set_option linter.unusedSectionVars false
theorem slices_EqualFunc_Commit.law (a b : List Commit) (el : Commit → Commit → Bool) (ok : Commit → Commit → Prop) (Q : Bool → Prop) (hb : a.length ≤ 1048576) (hok : ∀ x y, x ∈ a → ok x y) (hel : ∀ x y, x ∈ a → el x y = decide (x = y)) (hq : Q (decide (a = b))) : slices_EqualFunc_Commit.E a b el ok Q := by
  unfold slices_EqualFunc_Commit.E
  exact eqF_shape a b el ok hok hel hb Q hq
end Go.Proofs.Ythkeboifjlnjjaa

namespace Go.Proofs.Ythkeboifjlnjjaa
open Go.RowKit
set_option linter.unusedVariables false
def slices_Equal_int.E (s1 : List Int) (s2 : List Int) (Q : Bool → Prop) : Prop :=
  (if (s1.length : Int) != (s2.length : Int) then Q false else (∃ (I32 : Int → Prop) (mu33 : Int → Nat), I32 0 ∧ ∀ (v2 : Int), I32 v2 → (if decide (v2 < (s1.length : Int)) then ((0 : Int) ≤ v2 ∧ v2 < (s1.length : Int)) ∧ ((0 : Int) ≤ v2 ∧ v2 < (s2.length : Int)) ∧ (if (nth s1 v2) != (nth s2 v2) then Q false else (I64 (v2 + 1)) ∧ I32 (v2 + 1) ∧ mu33 (v2 + 1) < mu33 v2) else Q true)))
set_option maxHeartbeats 8000000 in
set_option maxRecDepth 100000 in
theorem slices_Equal_int.calls {O : Ob} (w0 : World) (hO : Ok w0 O) (s1 : List Int) (A1 : Option Addr) (n2 c3 : Nat) (hp4 : Sl (Kd.int .i64) w0 (Fr O) (.slice A1 n2 c3) s1) (s2 : List Int) (A6 : Option Addr) (n7 c8 : Nat) (hp9 : Sl (Kd.int .i64) w0 (Fr O) (.slice A6 n7 c8) s2) (Q : Bool → Prop) (h : slices_Equal_int.E s1 s2 Q) :
    Ret Try.prog 88 [.slice A1 n2 c3, .slice A6 n7 c8] w0 (fun v w' => ∃ (r0 : Bool), v = vb r0 ∧ Q r0 ∧ Gr w0 w' none) := by
  have H : (if (s1.length : Int) != (s2.length : Int) then Q false else (∃ (I32 : Int → Prop) (mu33 : Int → Nat), I32 0 ∧ ∀ (v2 : Int), I32 v2 → (if decide (v2 < (s1.length : Int)) then ((0 : Int) ≤ v2 ∧ v2 < (s1.length : Int)) ∧ ((0 : Int) ≤ v2 ∧ v2 < (s2.length : Int)) ∧ (if (nth s1 v2) != (nth s2 v2) then Q false else (I64 (v2 + 1)) ∧ I32 (v2 + 1) ∧ mu33 (v2 + 1) < mu33 v2) else Q true))) := h
  clear h
  have hc0 := Ct.init hO
  refine Ret_enter Try.func88 rfl 26 rfl [.tmp 4] rfl rfl ?_
  refine W_seq ?_
  refine W_reg ?_
  refine L_pu (P_assign (vb false) rfl) ?_
  refine L_nil ?_
  refine W_seq ?_
  refine W_seq ?_
  refine W_reg ?_
  refine L_pu (P_move (.slice A1 n2 c3) rfl) ?_
  have hl11 := hp4.le
  refine L_pu (P_len Try.underlying90 A1 n2 c3 hp4.len rfl) ?_
  refine L_pu (P_move (.slice A6 n7 c8) rfl) ?_
  have hl12 := hp9.le
  refine L_pu (P_len Try.underlying90 A6 n7 c8 hp9.len rfl) ?_
  refine L_pu (P_cmp (s1.length : Int) (s2.length : Int) ((s1.length : Int) != (s2.length : Int)) rfl rfl rfl) ?_
  refine L_nil ?_
  refine W_cond ((s1.length : Int) != (s2.length : Int)) rfl (fun hq13 => ?_) (fun hq13 => ?_)
  · have H := ite_t H hq13
    refine W_seq ?_
    refine W_reg ?_
    refine L_pu (P_assign (vb false) rfl) ?_
    refine L_nil ?_
    refine W_ret ?_
    exact ⟨[vb false], ⟨_, rfl, rfl⟩, false, rfl, H, hc0.gr⟩
  · have H := ite_f H hq13
    refine W_skip ?_
    refine W_seq ?_
    refine W_seq ?_
    refine W_reg ?_
    refine L_pu (P_move (.slice A1 n2 c3) rfl) ?_
    refine L_pu (P_len Try.underlying90 A1 n2 c3 hp4.len rfl) ?_
    refine L_pu (P_move (vi 0) rfl) ?_
    refine L_nil ?_
    refine W_block ?_
    obtain ⟨I32, mu33, hI34, H⟩ := H
    refine W_loop (α := Int) (fun (sv__ : Int) t w26 => match sv__ with | v2 => I32 v2 ∧ Has t [(0, .slice A1 n2 c3), (1, .slice A6 n7 c8), (12, vi (s1.length : Int)), (13, vi v2)] ∧ Ct none w0 w26 [] O ∧ Sl (Kd.int .i64) w26 (Fr ([] ++ O)) (.slice A1 n2 c3) s1 ∧ Sl (Kd.int .i64) w26 (Fr ([] ++ O)) (.slice A6 n7 c8) s2) (fun (sv__ : Int) => match sv__ with | v2 => mu33 v2) 0 ⟨hI34, ⟨rfl, rfl, rfl, rfl, trivial⟩, hc0, hp4, hp9⟩ ?_
    rintro v2 _ w26 ⟨hI34, hh36, hc29, h30, h31⟩
    obtain ⟨u37, rfl⟩ := Has.ins hh36
    have H := H v2 hI34
    refine W_seq ?_
    refine W_reg ?_
    refine L_pu (P_cmp v2 (s1.length : Int) (decide (v2 < (s1.length : Int))) rfl rfl rfl) ?_
    refine L_nil ?_
    refine W_seq ?_
    refine W_cond (decide (v2 < (s1.length : Int))) rfl (fun hq38 => ?_) (fun hq38 => ?_)
    · have H := ite_t H hq38
      refine W_skip ?_
      refine W_seq ?_
      refine W_block ?_
      refine W_seq ?_
      refine W_reg ?_
      refine L_pu (P_move (vi v2) rfl) ?_
      refine L_pu (P_assign (vi v2) rfl) ?_
      refine L_nil ?_
      refine W_seq ?_
      refine W_draw (fun x => Gr w26 x none) (by kernel_rfl) (by kernel_rfl) (Gr.drew _) ?_
      refine Q_pu (P_move (.slice A1 n2 c3) rfl) ?_
      refine Q_pu (P_move (vi v2) rfl) ?_
      obtain ⟨hb39, H⟩ := H
      obtain ⟨ad40, cs41, hA42, hS45, hR43, hcl44⟩ := h30.get default (by decide) v2 hb39
      obtain rfl := Kd.int.op hR43
      refine Q_pu (P_ia Try.underlying90 se90 A1 ad40 n2 c3 h30.len v2 rfl hA42 rfl hb39) ?_
      refine Q_pu (P_ld ag3 cQ (ad40.add (v2.toNat * 1)) (vi (nth s1 v2)) rfl (hcl44 0 _ rfl)) ?_
      refine Q_pu (P_move (.slice A6 n7 c8) rfl) ?_
      refine Q_pu (P_move (vi v2) rfl) ?_
      obtain ⟨hb46, H⟩ := H
      obtain ⟨ad47, cs48, hA49, hS52, hR50, hcl51⟩ := h31.get default (by decide) v2 hb46
      obtain rfl := Kd.int.op hR50
      refine Q_pu (P_ia Try.underlying90 se90 A6 ad47 n7 c8 h31.len v2 rfl hA49 rfl hb46) ?_
      refine Q_pu (P_ld ag3 cQ (ad47.add (v2.toNat * 1)) (vi (nth s2 v2)) rfl (hcl51 0 _ rfl)) ?_
      refine Q_pu (P_cmp (nth s1 v2) (nth s2 v2) ((nth s1 v2) != (nth s2 v2)) rfl rfl rfl) ?_
      refine Q_nil fun w53 g54 => ?_
      have hc56 := hc29.k0 g54
      refine W_cond ((nth s1 v2) != (nth s2 v2)) rfl (fun hq57 => ?_) (fun hq57 => ?_)
      · have H := ite_t H hq57
        refine W_seq ?_
        refine W_reg ?_
        refine L_pu (P_assign (vb false) rfl) ?_
        refine L_nil ?_
        refine W_ret ?_
        exact ⟨[vb false], ⟨_, rfl, rfl⟩, false, rfl, H, hc56.gr⟩
      · have H := ite_f H hq57
        refine W_skip ?_
        refine W_reg ?_
        obtain ⟨hb58, H⟩ := H
        refine L_pu (P_add v2 1 rfl rfl hb58) ?_
        refine L_pu (P_move (vi (v2 + 1)) rfl) ?_
        refine L_nil ?_
        obtain ⟨hI59, hm60⟩ := H
        exact ⟨v2 + 1, hm60, hI59, ⟨rfl, rfl, rfl, rfl, trivial⟩, hc56, (h30.st (.new _ g54)), (h31.st (.new _ g54))⟩
    · have H := ite_f H hq38
      refine W_exit (xin_hit ?_)
      refine W_seq ?_
      refine W_reg ?_
      refine L_pu (P_assign (vb true) rfl) ?_
      refine L_nil ?_
      refine W_ret ?_
      exact ⟨[vb true], ⟨_, rfl, rfl⟩, true, rfl, H, hc29.gr⟩
end Go.Proofs.Ythkeboifjlnjjaa

namespace Go.Proofs.Ythkeboifjlnjjaa
set_option linter.unusedVariables false
set_option linter.unusedSimpArgs false
set_option linter.unusedSectionVars false
theorem slices_Equal_int.law (a b : List Int) (Q : Bool → Prop) (hb : a.length ≤ 1048576) (hq : Q (decide (a = b))) : slices_Equal_int.E a b Q := by
  unfold slices_Equal_int.E
  exact eqI_shape (fun x y => x == y) (fun x y => by by_cases h : x = y <;> simp [h]) a b Q hb hq
end Go.Proofs.Ythkeboifjlnjjaa

namespace Go.Proofs.Ythkeboifjlnjjaa
open Go.RowKit
set_option linter.unusedVariables false
def slices_EqualFunc_Feat.E (s1 : List Feat) (s2 : List Feat) (eq : Feat → Feat → Bool) (eq_ok : Feat → Feat → Prop) (Q : Bool → Prop) : Prop :=
  (if (s1.length : Int) != (s2.length : Int) then Q false else (∃ (I36 : Int → Prop) (mu37 : Int → Nat), I36 0 ∧ ∀ (v2 : Int), I36 v2 → (if decide (v2 < (s1.length : Int)) then ((0 : Int) ≤ v2 ∧ v2 < (s1.length : Int)) ∧ ((0 : Int) ≤ v2 ∧ v2 < (s2.length : Int)) ∧ (eq_ok (nth s1 v2) (nth s2 v2)) ∧ (if !(eq (nth s1 v2) (nth s2 v2)) then Q false else (I64 (v2 + 1)) ∧ I36 (v2 + 1) ∧ mu37 (v2 + 1) < mu37 v2) else Q true)))
set_option maxHeartbeats 8000000 in
set_option maxRecDepth 100000 in
theorem slices_EqualFunc_Feat.calls {O : Ob} (w0 : World) (hO : Ok w0 O) (s1 : List Feat) (A1 : Option Addr) (n2 c3 : Nat) (hp4 : Sl kFeat w0 (Fr O) (.slice A1 n2 c3) s1) (s2 : List Feat) (A6 : Option Addr) (n7 c8 : Nat) (hp9 : Sl kFeat w0 (Fr O) (.slice A6 n7 c8) s2) (fg11 : FuncId) (fc12 : List Value) (eq : Feat → Feat → Bool) (eq_ok : Feat → Feat → Prop) (hgo13 : Goes Try.prog fg11) (hf14 : ∀ (w : World) (L : Ob), Ct none w0 w L O → ∀ (x0_ : Feat) (A16 : Option Addr) (n17 c18 : Nat) (A21 : Option Addr) (n22 c23 : Nat) (hs15 : Lim x0_.Id) (hp19 : Sl kPt w (Fr (L ++ O)) (.slice A16 n17 c18) x0_.Shape.Pts) (hp24 : Sl kTag w (Fr (L ++ O)) (.slice A21 n22 c23) x0_.Tags) (x1_ : Feat) (A27 : Option Addr) (n28 c29 : Nat) (A32 : Option Addr) (n33 c34 : Nat) (hs26 : Lim x1_.Id) (hp30 : Sl kPt w (Fr (L ++ O)) (.slice A27 n28 c29) x1_.Shape.Pts) (hp35 : Sl kTag w (Fr (L ++ O)) (.slice A32 n33 c34) x1_.Tags), eq_ok x0_ x1_ → Ret Try.prog fg11 ([.agg #[vs x0_.Id, vi x0_.Shape.Kind, .slice A16 n17 c18, .slice A21 n22 c23], .agg #[vs x1_.Id, vi x1_.Shape.Kind, .slice A27 n28 c29, .slice A32 n33 c34]] ++ fc12) w (fun v w' => v = vb (eq x0_ x1_) ∧ Gr w w' none)) (Q : Bool → Prop) (h : slices_EqualFunc_Feat.E s1 s2 eq eq_ok Q) :
    Ret Try.prog 116 [.slice A1 n2 c3, .slice A6 n7 c8, .func (.func fg11) #[] fc12.toArray] w0 (fun v w' => ∃ (r0 : Bool), v = vb r0 ∧ Q r0 ∧ Gr w0 w' none) := by
  have H : (if (s1.length : Int) != (s2.length : Int) then Q false else (∃ (I36 : Int → Prop) (mu37 : Int → Nat), I36 0 ∧ ∀ (v2 : Int), I36 v2 → (if decide (v2 < (s1.length : Int)) then ((0 : Int) ≤ v2 ∧ v2 < (s1.length : Int)) ∧ ((0 : Int) ≤ v2 ∧ v2 < (s2.length : Int)) ∧ (eq_ok (nth s1 v2) (nth s2 v2)) ∧ (if !(eq (nth s1 v2) (nth s2 v2)) then Q false else (I64 (v2 + 1)) ∧ I36 (v2 + 1) ∧ mu37 (v2 + 1) < mu37 v2) else Q true))) := h
  clear h
  have hc0 := Ct.init hO
  refine Ret_enter Try.func116 rfl 32 rfl [.tmp 6] rfl rfl ?_
  refine W_seq ?_
  refine W_reg ?_
  refine L_pu (P_assign (vb false) rfl) ?_
  refine L_nil ?_
  refine W_seq ?_
  refine W_seq ?_
  refine W_reg ?_
  refine L_pu (P_move (.slice A1 n2 c3) rfl) ?_
  have hl15 := hp4.le
  refine L_pu (P_len Try.underlying91 A1 n2 c3 hp4.len rfl) ?_
  refine L_pu (P_move (.slice A6 n7 c8) rfl) ?_
  have hl16 := hp9.le
  refine L_pu (P_len Try.underlying91 A6 n7 c8 hp9.len rfl) ?_
  refine L_pu (P_cmp (s1.length : Int) (s2.length : Int) ((s1.length : Int) != (s2.length : Int)) rfl rfl rfl) ?_
  refine L_nil ?_
  refine W_cond ((s1.length : Int) != (s2.length : Int)) rfl (fun hq17 => ?_) (fun hq17 => ?_)
  · have H := ite_t H hq17
    refine W_seq ?_
    refine W_reg ?_
    refine L_pu (P_assign (vb false) rfl) ?_
    refine L_nil ?_
    refine W_ret ?_
    exact ⟨[vb false], ⟨_, rfl, rfl⟩, false, rfl, H, hc0.gr⟩
  · have H := ite_f H hq17
    refine W_skip ?_
    refine W_seq ?_
    refine W_seq ?_
    refine W_reg ?_
    refine L_pu (P_move (.slice A1 n2 c3) rfl) ?_
    refine L_pu (P_len Try.underlying91 A1 n2 c3 hp4.len rfl) ?_
    refine L_pu (P_move (vi 0) rfl) ?_
    refine L_nil ?_
    refine W_block ?_
    obtain ⟨I36, mu37, hI38, H⟩ := H
    refine W_loop (α := Int) (fun (sv__ : Int) t w30 => match sv__ with | v2 => I36 v2 ∧ Has t [(1, .slice A6 n7 c8), (2, .func (.func fg11) #[] fc12.toArray), (15, .slice A1 n2 c3), (16, vi (s1.length : Int)), (17, vi v2)] ∧ Ct none w0 w30 [] O ∧ Sl kFeat w30 (Fr ([] ++ O)) (.slice A6 n7 c8) s2 ∧ Sl kFeat w30 (Fr ([] ++ O)) (.slice A1 n2 c3) s1) (fun (sv__ : Int) => match sv__ with | v2 => mu37 v2) 0 ⟨hI38, ⟨rfl, rfl, rfl, rfl, rfl, trivial⟩, hc0, hp9, hp4⟩ ?_
    rintro v2 _ w30 ⟨hI38, hh40, hc33, h34, h35⟩
    obtain ⟨u41, rfl⟩ := Has.ins hh40
    have H := H v2 hI38
    refine W_seq ?_
    refine W_reg ?_
    refine L_pu (P_cmp v2 (s1.length : Int) (decide (v2 < (s1.length : Int))) rfl rfl rfl) ?_
    refine L_nil ?_
    refine W_seq ?_
    refine W_cond (decide (v2 < (s1.length : Int))) rfl (fun hq42 => ?_) (fun hq42 => ?_)
    · have H := ite_t H hq42
      refine W_skip ?_
      refine W_seq ?_
      refine W_block ?_
      refine W_seq ?_
      refine W_reg ?_
      refine L_pu (P_move (vi v2) rfl) ?_
      obtain ⟨hb43, H⟩ := H
      obtain ⟨ad44, cs45, hA46, hS49, hR47, hcl48⟩ := h35.get default (by decide) v2 hb43
      obtain ⟨A51, n52, c53, A56, n57, c58, rfl, hs50, h54, h59⟩ := kFeat.op hR47
      refine L_pu (P_ia Try.underlying91 se91 A1 ad44 n2 c3 h35.len v2 rfl hA46 rfl hb43) ?_
      refine L_pu (P_lda ag79 sz79 cL (ad44.add (v2.toNat * 4)) [vs ((nth s1 v2).Id), vi ((nth s1 v2).Shape.Kind), .slice A51 n52 c53, .slice A56 n57 c58] rfl rfl hcl48) ?_
      refine L_alloc [vs [], .int .i64 0, .slice none 0 0, .slice none 0 0] ze79 fun w61 b62 hl64 hu65 g63 hx66 => ?_
      have hc68 := hc33.own g63 (some b62) (oglt hl64 hu65)
      refine L_pu (P_assign (vi v2) rfl) ?_
      refine L_stb b62 0 [vs ([] : Str), vi 0, .slice none 0 0, .slice none 0 0] [vs ((nth s1 v2).Id), vi ((nth s1 v2).Shape.Kind), .slice A51 n52 c53, .slice A56 n57 c58] [vs ((nth s1 v2).Id), vi ((nth s1 v2).Shape.Kind), .slice A51 n52 c53, .slice A56 n57 c58] rfl hx66 rfl sz79 rfl rfl rfl fun w69 g70 hx71 => ?_
      have hc72 := hc68.wr 0 rfl g70
      refine L_nil ?_
      refine W_seq ?_
      refine W_reg ?_
      refine L_pu (P_move (.slice A6 n7 c8) rfl) ?_
      refine L_pu (P_move (vi v2) rfl) ?_
      obtain ⟨hb73, H⟩ := H
      have h80 := ((h34.st (.own _ _ g63 (oge hl64))).st (.wl (L := [some b62]) (O := O) (j := 0) rfl g70))
      obtain ⟨ad74, cs75, hA76, hS79, hR77, hcl78⟩ := h80.get default (by decide) v2 hb73
      obtain ⟨A82, n83, c84, A87, n88, c89, rfl, hs81, h85, h90⟩ := kFeat.op hR77
      refine L_pu (P_ia Try.underlying91 se91 A6 ad74 n7 c8 h80.len v2 rfl hA76 rfl hb73) ?_
      refine L_pu (P_lda ag79 sz79 cL (ad74.add (v2.toNat * 4)) [vs ((nth s2 v2).Id), vi ((nth s2 v2).Shape.Kind), .slice A82 n83 c84, .slice A87 n88 c89] rfl rfl hcl78) ?_
      refine L_alloc [vs [], .int .i64 0, .slice none 0 0, .slice none 0 0] ze79 fun w92 b93 hl95 hu96 g94 hx97 => ?_
      have hc99 := hc72.own g94 (some b93) (oglt hl95 hu96)
      refine L_stb b93 0 [vs ([] : Str), vi 0, .slice none 0 0, .slice none 0 0] [vs ((nth s2 v2).Id), vi ((nth s2 v2).Shape.Kind), .slice A82 n83 c84, .slice A87 n88 c89] [vs ((nth s2 v2).Id), vi ((nth s2 v2).Shape.Kind), .slice A82 n83 c84, .slice A87 n88 c89] rfl hx97 rfl sz79 rfl rfl rfl fun w100 g101 hx102 => ?_
      have hc103 := hc99.wr 0 rfl g101
      refine L_nil ?_
      refine W_seq ?_
      refine W_reg ?_
      refine L_pu (P_move (.func (.func fg11) #[] fc12.toArray) rfl) ?_
      have h104 := (Bx.sm (L := [some b93, some b62]) (O := O) (hx71.k0 g94) hc99 (i := 1) rfl (j := 0) rfl (by decide) g101)
      refine L_pu (P_lda ag79 sz79 cL ⟨b62, 0, none⟩ [vs ((nth s1 v2).Id), vi ((nth s1 v2).Shape.Kind), .slice A51 n52 c53, .slice A56 n57 c58] rfl rfl (h104.cells (off := 0) rfl)) ?_
      refine L_pu (P_lda ag79 sz79 cL ⟨b93, 0, none⟩ [vs ((nth s2 v2).Id), vi ((nth s2 v2).Shape.Kind), .slice A82 n83 c84, .slice A87 n88 c89] rfl rfl (hx102.cells (off := 0) rfl)) ?_
      obtain ⟨hb105, H⟩ := H
      have h109 := ((((h54.st (.own _ _ g63 (oge hl64))).st (.wl (L := [some b62]) (O := O) (j := 0) rfl g70)).st (.own _ _ g94 (oge hl95))).st (.wl (L := [some b93, some b62]) (O := O) (j := 0) rfl g101))
      have h110 := ((((h59.st (.own _ _ g63 (oge hl64))).st (.wl (L := [some b62]) (O := O) (j := 0) rfl g70)).st (.own _ _ g94 (oge hl95))).st (.wl (L := [some b93, some b62]) (O := O) (j := 0) rfl g101))
      have h111 := ((h85.st (.own _ _ g94 (oge hl95))).st (.wl (L := [some b93, some b62]) (O := O) (j := 0) rfl g101))
      have h112 := ((h90.st (.own _ _ g94 (oge hl95))).st (.wl (L := [some b93, some b62]) (O := O) (j := 0) rfl g101))
      refine L_callv hgo13 fc12 rfl [.agg #[vs ((nth s1 v2).Id), vi ((nth s1 v2).Shape.Kind), .slice A51 n52 c53, .slice A56 n57 c58], .agg #[vs ((nth s2 v2).Id), vi ((nth s2 v2).Shape.Kind), .slice A82 n83 c84, .slice A87 n88 c89]] rfl ((hf14 w100 [some b93, some b62] hc103 (nth s1 v2) A51 n52 c53 A56 n57 c58 hs50 h109 h110 (nth s2 v2) A82 n83 c84 A87 n88 c89 hs81 h111 h112 hb105).mono ?_)
      rintro _ w106 ⟨rfl, g107⟩
      have hc113 := hc103.k0 g107
      refine L_pu (P_not (eq (nth s1 v2) (nth s2 v2)) rfl) ?_
      refine L_nil ?_
      refine W_cond (!(eq (nth s1 v2) (nth s2 v2))) rfl (fun hq114 => ?_) (fun hq114 => ?_)
      · have H := ite_t H hq114
        refine W_seq ?_
        refine W_reg ?_
        refine L_pu (P_assign (vb false) rfl) ?_
        refine L_nil ?_
        refine W_ret ?_
        have hc115 := hc113.drop 0 rfl
        have hc116 := hc115.drop 0 rfl
        exact ⟨[vb false], ⟨_, rfl, rfl⟩, false, rfl, H, hc116.gr⟩
      · have H := ite_f H hq114
        refine W_skip ?_
        refine W_reg ?_
        obtain ⟨hb117, H⟩ := H
        refine L_pu (P_add v2 1 rfl rfl hb117) ?_
        refine L_pu (P_move (vi (v2 + 1)) rfl) ?_
        refine L_nil ?_
        have hc118 := hc113.drop 0 rfl
        have hc119 := hc118.drop 0 rfl
        obtain ⟨hI120, hm121⟩ := H
        have h122 := (((((h80.st (.own _ _ g94 (oge hl95))).st (.wl (L := [some b93, some b62]) (O := O) (j := 0) rfl g101)).st (.new _ g107)).st (.dr _ (L := [some b93, some b62]) (O := O) (j := 0) rfl)).st (.dr _ (L := [some b62]) (O := O) (j := 0) rfl))
        have h123 := (((((((h35.st (.own _ _ g63 (oge hl64))).st (.wl (L := [some b62]) (O := O) (j := 0) rfl g70)).st (.own _ _ g94 (oge hl95))).st (.wl (L := [some b93, some b62]) (O := O) (j := 0) rfl g101)).st (.new _ g107)).st (.dr _ (L := [some b93, some b62]) (O := O) (j := 0) rfl)).st (.dr _ (L := [some b62]) (O := O) (j := 0) rfl))
        exact ⟨v2 + 1, hm121, hI120, ⟨rfl, rfl, rfl, rfl, rfl, trivial⟩, hc119, h122, h123⟩
    · have H := ite_f H hq42
      refine W_exit (xin_hit ?_)
      refine W_seq ?_
      refine W_reg ?_
      refine L_pu (P_assign (vb true) rfl) ?_
      refine L_nil ?_
      refine W_ret ?_
      exact ⟨[vb true], ⟨_, rfl, rfl⟩, true, rfl, H, hc33.gr⟩
end Go.Proofs.Ythkeboifjlnjjaa

namespace Go.Proofs.Ythkeboifjlnjjaa
set_option linter.unusedVariables false
set_option linter.unusedSimpArgs false
set_option linter.unusedSectionVars false
theorem slices_EqualFunc_Feat.law (a b : List Feat) (el : Feat → Feat → Bool) (ok : Feat → Feat → Prop) (Q : Bool → Prop) (hb : a.length ≤ 1048576) (hok : ∀ x y, x ∈ a → ok x y) (hel : ∀ x y, x ∈ a → el x y = decide (x = y)) (hq : Q (decide (a = b))) : slices_EqualFunc_Feat.E a b el ok Q := by
  unfold slices_EqualFunc_Feat.E
  exact eqF_shape a b el ok hok hel hb Q hq
end Go.Proofs.Ythkeboifjlnjjaa

namespace Go.Proofs.Ythkeboifjlnjjaa
open Go.RowKit
set_option linter.unusedVariables false
def slices_Equal_Pt.E (s1 : List Pt) (s2 : List Pt) (Q : Bool → Prop) : Prop :=
  (if (s1.length : Int) != (s2.length : Int) then Q false else (∃ (I32 : Int → Prop) (mu33 : Int → Nat), I32 0 ∧ ∀ (v2 : Int), I32 v2 → (if decide (v2 < (s1.length : Int)) then ((0 : Int) ≤ v2 ∧ v2 < (s1.length : Int)) ∧ ((0 : Int) ≤ v2 ∧ v2 < (s2.length : Int)) ∧ (if !(eqPt (nth s1 v2) (nth s2 v2)) then Q false else (I64 (v2 + 1)) ∧ I32 (v2 + 1) ∧ mu33 (v2 + 1) < mu33 v2) else Q true)))
set_option maxHeartbeats 8000000 in
set_option maxRecDepth 100000 in
theorem slices_Equal_Pt.calls {O : Ob} (w0 : World) (hO : Ok w0 O) (s1 : List Pt) (A1 : Option Addr) (n2 c3 : Nat) (hp4 : Sl kPt w0 (Fr O) (.slice A1 n2 c3) s1) (s2 : List Pt) (A6 : Option Addr) (n7 c8 : Nat) (hp9 : Sl kPt w0 (Fr O) (.slice A6 n7 c8) s2) (Q : Bool → Prop) (h : slices_Equal_Pt.E s1 s2 Q) :
    Ret Try.prog 35 [.slice A1 n2 c3, .slice A6 n7 c8] w0 (fun v w' => ∃ (r0 : Bool), v = vb r0 ∧ Q r0 ∧ Gr w0 w' none) := by
  have H : (if (s1.length : Int) != (s2.length : Int) then Q false else (∃ (I32 : Int → Prop) (mu33 : Int → Nat), I32 0 ∧ ∀ (v2 : Int), I32 v2 → (if decide (v2 < (s1.length : Int)) then ((0 : Int) ≤ v2 ∧ v2 < (s1.length : Int)) ∧ ((0 : Int) ≤ v2 ∧ v2 < (s2.length : Int)) ∧ (if !(eqPt (nth s1 v2) (nth s2 v2)) then Q false else (I64 (v2 + 1)) ∧ I32 (v2 + 1) ∧ mu33 (v2 + 1) < mu33 v2) else Q true))) := h
  clear h
  have hc0 := Ct.init hO
  refine Ret_enter Try.func35 rfl 26 rfl [.tmp 4] rfl rfl ?_
  refine W_seq ?_
  refine W_reg ?_
  refine L_pu (P_assign (vb false) rfl) ?_
  refine L_nil ?_
  refine W_seq ?_
  refine W_seq ?_
  refine W_reg ?_
  refine L_pu (P_move (.slice A1 n2 c3) rfl) ?_
  have hl11 := hp4.le
  refine L_pu (P_len Try.underlying23 A1 n2 c3 hp4.len rfl) ?_
  refine L_pu (P_move (.slice A6 n7 c8) rfl) ?_
  have hl12 := hp9.le
  refine L_pu (P_len Try.underlying23 A6 n7 c8 hp9.len rfl) ?_
  refine L_pu (P_cmp (s1.length : Int) (s2.length : Int) ((s1.length : Int) != (s2.length : Int)) rfl rfl rfl) ?_
  refine L_nil ?_
  refine W_cond ((s1.length : Int) != (s2.length : Int)) rfl (fun hq13 => ?_) (fun hq13 => ?_)
  · have H := ite_t H hq13
    refine W_seq ?_
    refine W_reg ?_
    refine L_pu (P_assign (vb false) rfl) ?_
    refine L_nil ?_
    refine W_ret ?_
    exact ⟨[vb false], ⟨_, rfl, rfl⟩, false, rfl, H, hc0.gr⟩
  · have H := ite_f H hq13
    refine W_skip ?_
    refine W_seq ?_
    refine W_seq ?_
    refine W_reg ?_
    refine L_pu (P_move (.slice A1 n2 c3) rfl) ?_
    refine L_pu (P_len Try.underlying23 A1 n2 c3 hp4.len rfl) ?_
    refine L_pu (P_move (vi 0) rfl) ?_
    refine L_nil ?_
    refine W_block ?_
    obtain ⟨I32, mu33, hI34, H⟩ := H
    refine W_loop (α := Int) (fun (sv__ : Int) t w26 => match sv__ with | v2 => I32 v2 ∧ Has t [(0, .slice A1 n2 c3), (1, .slice A6 n7 c8), (12, vi (s1.length : Int)), (13, vi v2)] ∧ Ct none w0 w26 [] O ∧ Sl kPt w26 (Fr ([] ++ O)) (.slice A1 n2 c3) s1 ∧ Sl kPt w26 (Fr ([] ++ O)) (.slice A6 n7 c8) s2) (fun (sv__ : Int) => match sv__ with | v2 => mu33 v2) 0 ⟨hI34, ⟨rfl, rfl, rfl, rfl, trivial⟩, hc0, hp4, hp9⟩ ?_
    rintro v2 _ w26 ⟨hI34, hh36, hc29, h30, h31⟩
    obtain ⟨u37, rfl⟩ := Has.ins hh36
    have H := H v2 hI34
    refine W_seq ?_
    refine W_reg ?_
    refine L_pu (P_cmp v2 (s1.length : Int) (decide (v2 < (s1.length : Int))) rfl rfl rfl) ?_
    refine L_nil ?_
    refine W_seq ?_
    refine W_cond (decide (v2 < (s1.length : Int))) rfl (fun hq38 => ?_) (fun hq38 => ?_)
    · have H := ite_t H hq38
      refine W_skip ?_
      refine W_seq ?_
      refine W_block ?_
      refine W_seq ?_
      refine W_reg ?_
      refine L_pu (P_move (vi v2) rfl) ?_
      refine L_pu (P_assign (vi v2) rfl) ?_
      refine L_nil ?_
      refine W_seq ?_
      refine W_draw (fun x => Gr w26 x none) (by kernel_rfl) (by kernel_rfl) (Gr.drew _) ?_
      refine Q_pu (P_move (.slice A1 n2 c3) rfl) ?_
      refine Q_pu (P_move (vi v2) rfl) ?_
      obtain ⟨hb39, H⟩ := H
      obtain ⟨ad40, cs41, hA42, hS45, hR43, hcl44⟩ := h30.get default (by decide) v2 hb39
      obtain rfl := kPt.op hR43
      refine Q_pu (P_ia Try.underlying23 se23 A1 ad40 n2 c3 h30.len v2 rfl hA42 rfl hb39) ?_
      refine Q_pu (P_lda ag64 sz64 cQ (ad40.add (v2.toNat * 2)) [vi ((nth s1 v2).X), vi ((nth s1 v2).Y)] rfl rfl hcl44) ?_
      refine Q_pu (P_move (.slice A6 n7 c8) rfl) ?_
      refine Q_pu (P_move (vi v2) rfl) ?_
      obtain ⟨hb46, H⟩ := H
      obtain ⟨ad47, cs48, hA49, hS52, hR50, hcl51⟩ := h31.get default (by decide) v2 hb46
      obtain rfl := kPt.op hR50
      refine Q_pu (P_ia Try.underlying23 se23 A6 ad47 n7 c8 h31.len v2 rfl hA49 rfl hb46) ?_
      refine Q_pu (P_lda ag64 sz64 cQ (ad47.add (v2.toNat * 2)) [vi ((nth s2 v2).X), vi ((nth s2 v2).Y)] rfl rfl hcl51) ?_
      refine Q_pu (P_ne _ _ (eqPt (nth s1 v2) (nth s2 v2)) (qt64 (nth s1 v2) (nth s2 v2)) rfl rfl) ?_
      refine Q_nil fun w53 g54 => ?_
      have hc56 := hc29.k0 g54
      refine W_cond (!(eqPt (nth s1 v2) (nth s2 v2))) rfl (fun hq57 => ?_) (fun hq57 => ?_)
      · have H := ite_t H hq57
        refine W_seq ?_
        refine W_reg ?_
        refine L_pu (P_assign (vb false) rfl) ?_
        refine L_nil ?_
        refine W_ret ?_
        exact ⟨[vb false], ⟨_, rfl, rfl⟩, false, rfl, H, hc56.gr⟩
      · have H := ite_f H hq57
        refine W_skip ?_
        refine W_reg ?_
        obtain ⟨hb58, H⟩ := H
        refine L_pu (P_add v2 1 rfl rfl hb58) ?_
        refine L_pu (P_move (vi (v2 + 1)) rfl) ?_
        refine L_nil ?_
        obtain ⟨hI59, hm60⟩ := H
        exact ⟨v2 + 1, hm60, hI59, ⟨rfl, rfl, rfl, rfl, trivial⟩, hc56, (h30.st (.new _ g54)), (h31.st (.new _ g54))⟩
    · have H := ite_f H hq38
      refine W_exit (xin_hit ?_)
      refine W_seq ?_
      refine W_reg ?_
      refine L_pu (P_assign (vb true) rfl) ?_
      refine L_nil ?_
      refine W_ret ?_
      exact ⟨[vb true], ⟨_, rfl, rfl⟩, true, rfl, H, hc29.gr⟩
end Go.Proofs.Ythkeboifjlnjjaa

namespace Go.Proofs.Ythkeboifjlnjjaa
set_option linter.unusedVariables false
set_option linter.unusedSimpArgs false
set_option linter.unusedSectionVars false
theorem slices_Equal_Pt.law (a b : List Pt) (Q : Bool → Prop) (hb : a.length ≤ 1048576) (hq : Q (decide (a = b))) : slices_Equal_Pt.E a b Q := by
  unfold slices_Equal_Pt.E
  exact eqI_shape eqPt eqPt_is a b Q hb hq
end Go.Proofs.Ythkeboifjlnjjaa

namespace Go.Proofs.Ythkeboifjlnjjaa
open Go.RowKit
set_option linter.unusedVariables false
def impl_ShapeSame.E (a : Shape) (b : Shape) (Q : Bool → Prop) : Prop :=
  (if a.Kind == b.Kind then slices_Equal_Pt.E a.Pts b.Pts (fun r => Q r) else Q false)
set_option maxHeartbeats 8000000 in
set_option maxRecDepth 100000 in
theorem impl_ShapeSame.calls {O : Ob} (w0 : World) (hO : Ok w0 O) (a : Shape) (A1 : Option Addr) (n2 c3 : Nat) (hp4 : Sl kPt w0 (Fr O) (.slice A1 n2 c3) a.Pts) (b : Shape) (A6 : Option Addr) (n7 c8 : Nat) (hp9 : Sl kPt w0 (Fr O) (.slice A6 n7 c8) b.Pts) (Q : Bool → Prop) (h : impl_ShapeSame.E a b Q) :
    Ret Try.prog 108 [.agg #[vi a.Kind, .slice A1 n2 c3], .agg #[vi b.Kind, .slice A6 n7 c8]] w0 (fun v w' => ∃ (r0 : Bool), v = vb r0 ∧ Q r0 ∧ Gr w0 w' none) := by
  have H : (if a.Kind == b.Kind then slices_Equal_Pt.E a.Pts b.Pts (fun r => Q r) else Q false) := h
  clear h
  have hc0 := Ct.init hO
  refine Ret_enter Try.func108 rfl 17 rfl [.tmp 4] rfl rfl ?_
  refine W_seq ?_
  refine W_reg ?_
  refine L_box [vi a.Kind, .slice A1 n2 c3] rfl fun w11 b12 hl14 hu15 g13 hx16 => ?_
  have h18 := Fb.mk hc0.ok hl14 hx16
  have hc19 := hc0.k0 g13
  refine L_box [vi b.Kind, .slice A6 n7 c8] rfl fun w20 b21 hl23 hu24 g22 hx25 => ?_
  have h27 := Fb.mk hc19.ok hl23 hx25
  have hc28 := hc19.k0 g22
  refine L_pu (P_assign (vb false) rfl) ?_
  refine L_nil ?_
  refine W_seq ?_
  refine W_reg ?_
  refine L_pu (P_fa fa76_0 ⟨b12, 0, none⟩ ⟨b12, 0, none⟩ rfl rfl) ?_
  have h29 := (h18.st (.new _ g22))
  refine L_pu (P_ld ag3 cL ⟨b12, 0, none⟩ (vi a.Kind) rfl (h29.cell rfl)) ?_
  refine L_pu (P_fa fa76_0 ⟨b21, 0, none⟩ ⟨b21, 0, none⟩ rfl rfl) ?_
  refine L_pu (P_ld ag3 cL ⟨b21, 0, none⟩ (vi b.Kind) rfl (h27.cell rfl)) ?_
  refine L_pu (P_cmp a.Kind b.Kind (a.Kind == b.Kind) rfl rfl rfl) ?_
  refine L_pu (P_move (vb (a.Kind == b.Kind)) rfl) ?_
  rcases bool_or (a.Kind == b.Kind) with hq30 | hq30
  · have H := ite_t H hq30
    refine L_run (dj := 10) rfl rfl (by exact congrArg Value.bool hq30) ?_
    refine L_pu (P_fa fa76_1 ⟨b12, 0, none⟩ ⟨b12, 1, none⟩ rfl rfl) ?_
    refine L_run (dj := 10) rfl rfl (by exact congrArg Value.bool hq30) ?_
    refine L_pu (P_ld ag23 cL ⟨b12, 1, none⟩ (.slice A1 n2 c3) rfl (h29.cell rfl)) ?_
    refine L_run (dj := 10) rfl rfl (by exact congrArg Value.bool hq30) ?_
    refine L_pu (P_fa fa76_1 ⟨b21, 0, none⟩ ⟨b21, 1, none⟩ rfl rfl) ?_
    refine L_run (dj := 10) rfl rfl (by exact congrArg Value.bool hq30) ?_
    refine L_pu (P_ld ag23 cL ⟨b21, 1, none⟩ (.slice A6 n7 c8) rfl (h27.cell rfl)) ?_
    refine L_run (dj := 10) rfl rfl (by exact congrArg Value.bool hq30) ?_
    refine L_call go35 [.slice A1 n2 c3, .slice A6 n7 c8] rfl ((slices_Equal_Pt.calls w20 hc28.ok a.Pts A1 n2 c3 (hp4.st hc28.st) b.Pts A6 n7 c8 (hp9.st hc28.st) _ H).mono ?_)
    rintro _ w31 ⟨r, rfl, H, g32⟩
    have hc36 := hc28.k0 g32
    refine L_pu (P_pick true (vb r) (by exact congrArg Value.bool hq30) rfl) ?_
    refine L_pu (P_assign (vb r) rfl) ?_
    refine L_nil ?_
    refine W_ret ?_
    exact ⟨[vb r], ⟨_, rfl, rfl⟩, r, rfl, H, hc36.gr⟩
  · have H := ite_f H hq30
    refine L_pass (dj := 10) rfl rfl (.inl (by exact congrArg Value.bool hq30)) ?_
    refine L_pass (dj := 10) rfl rfl (.inl (by exact congrArg Value.bool hq30)) ?_
    refine L_pass (dj := 10) rfl rfl (.inl (by exact congrArg Value.bool hq30)) ?_
    refine L_pass (dj := 10) rfl rfl (.inl (by exact congrArg Value.bool hq30)) ?_
    refine L_pass (dj := 10) rfl rfl (.inl (by exact congrArg Value.bool hq30)) ?_
    refine L_pu (P_pick false (vb false) (by exact congrArg Value.bool hq30) rfl) ?_
    refine L_pu (P_assign (vb false) rfl) ?_
    refine L_nil ?_
    refine W_ret ?_
    exact ⟨[vb false], ⟨_, rfl, rfl⟩, false, rfl, H, hc28.gr⟩
end Go.Proofs.Ythkeboifjlnjjaa

namespace Go.Proofs.Ythkeboifjlnjjaa
set_option linter.unusedVariables false
set_option linter.unusedSimpArgs false
set_option linter.unusedSectionVars false
theorem impl_ShapeSame.law (a b : Shape) (Q : Bool → Prop) (hl : a.Pts.length ≤ 1048576) (hq : Q (decide (a = b))) : impl_ShapeSame.E a b Q := by
  unfold impl_ShapeSame.E
  by_cases h : a.Kind = b.Kind
  · rw [if_pos (by rw [beq_iff_eq]; exact h)]
    refine slices_Equal_Pt.law _ _ _ (by omega) ?_
    have : decide (a.Pts = b.Pts) = decide (a = b) := decide_eq_decide.2 (by rw [Shape.ext_iff']; exact ⟨fun e => ⟨h, e⟩, fun e => e.2⟩)
    rw [this]; exact hq
  · rw [if_neg (by rw [beq_iff_eq]; exact h)]
    rw [decide_eq_false (by rw [Shape.ext_iff']; exact fun e => h e.1)] at hq; exact hq
end Go.Proofs.Ythkeboifjlnjjaa

namespace Go.Proofs.Ythkeboifjlnjjaa
open Go.RowKit
set_option linter.unusedVariables false
def slices_Equal_Tag.E (s1 : List Tag) (s2 : List Tag) (Q : Bool → Prop) : Prop :=
  (if (s1.length : Int) != (s2.length : Int) then Q false else (∃ (I32 : Int → Prop) (mu33 : Int → Nat), I32 0 ∧ ∀ (v2 : Int), I32 v2 → (if decide (v2 < (s1.length : Int)) then ((0 : Int) ≤ v2 ∧ v2 < (s1.length : Int)) ∧ ((0 : Int) ≤ v2 ∧ v2 < (s2.length : Int)) ∧ (if !(eqTag (nth s1 v2) (nth s2 v2)) then Q false else (I64 (v2 + 1)) ∧ I32 (v2 + 1) ∧ mu33 (v2 + 1) < mu33 v2) else Q true)))
set_option maxHeartbeats 8000000 in
set_option maxRecDepth 100000 in
theorem slices_Equal_Tag.calls {O : Ob} (w0 : World) (hO : Ok w0 O) (s1 : List Tag) (A1 : Option Addr) (n2 c3 : Nat) (hp4 : Sl kTag w0 (Fr O) (.slice A1 n2 c3) s1) (s2 : List Tag) (A6 : Option Addr) (n7 c8 : Nat) (hp9 : Sl kTag w0 (Fr O) (.slice A6 n7 c8) s2) (Q : Bool → Prop) (h : slices_Equal_Tag.E s1 s2 Q) :
    Ret Try.prog 109 [.slice A1 n2 c3, .slice A6 n7 c8] w0 (fun v w' => ∃ (r0 : Bool), v = vb r0 ∧ Q r0 ∧ Gr w0 w' none) := by
  have H : (if (s1.length : Int) != (s2.length : Int) then Q false else (∃ (I32 : Int → Prop) (mu33 : Int → Nat), I32 0 ∧ ∀ (v2 : Int), I32 v2 → (if decide (v2 < (s1.length : Int)) then ((0 : Int) ≤ v2 ∧ v2 < (s1.length : Int)) ∧ ((0 : Int) ≤ v2 ∧ v2 < (s2.length : Int)) ∧ (if !(eqTag (nth s1 v2) (nth s2 v2)) then Q false else (I64 (v2 + 1)) ∧ I32 (v2 + 1) ∧ mu33 (v2 + 1) < mu33 v2) else Q true))) := h
  clear h
  have hc0 := Ct.init hO
  refine Ret_enter Try.func109 rfl 26 rfl [.tmp 4] rfl rfl ?_
  refine W_seq ?_
  refine W_reg ?_
  refine L_pu (P_assign (vb false) rfl) ?_
  refine L_nil ?_
  refine W_seq ?_
  refine W_seq ?_
  refine W_reg ?_
  refine L_pu (P_move (.slice A1 n2 c3) rfl) ?_
  have hl11 := hp4.le
  refine L_pu (P_len Try.underlying77 A1 n2 c3 hp4.len rfl) ?_
  refine L_pu (P_move (.slice A6 n7 c8) rfl) ?_
  have hl12 := hp9.le
  refine L_pu (P_len Try.underlying77 A6 n7 c8 hp9.len rfl) ?_
  refine L_pu (P_cmp (s1.length : Int) (s2.length : Int) ((s1.length : Int) != (s2.length : Int)) rfl rfl rfl) ?_
  refine L_nil ?_
  refine W_cond ((s1.length : Int) != (s2.length : Int)) rfl (fun hq13 => ?_) (fun hq13 => ?_)
  · have H := ite_t H hq13
    refine W_seq ?_
    refine W_reg ?_
    refine L_pu (P_assign (vb false) rfl) ?_
    refine L_nil ?_
    refine W_ret ?_
    exact ⟨[vb false], ⟨_, rfl, rfl⟩, false, rfl, H, hc0.gr⟩
  · have H := ite_f H hq13
    refine W_skip ?_
    refine W_seq ?_
    refine W_seq ?_
    refine W_reg ?_
    refine L_pu (P_move (.slice A1 n2 c3) rfl) ?_
    refine L_pu (P_len Try.underlying77 A1 n2 c3 hp4.len rfl) ?_
    refine L_pu (P_move (vi 0) rfl) ?_
    refine L_nil ?_
    refine W_block ?_
    obtain ⟨I32, mu33, hI34, H⟩ := H
    refine W_loop (α := Int) (fun (sv__ : Int) t w26 => match sv__ with | v2 => I32 v2 ∧ Has t [(0, .slice A1 n2 c3), (1, .slice A6 n7 c8), (12, vi (s1.length : Int)), (13, vi v2)] ∧ Ct none w0 w26 [] O ∧ Sl kTag w26 (Fr ([] ++ O)) (.slice A1 n2 c3) s1 ∧ Sl kTag w26 (Fr ([] ++ O)) (.slice A6 n7 c8) s2) (fun (sv__ : Int) => match sv__ with | v2 => mu33 v2) 0 ⟨hI34, ⟨rfl, rfl, rfl, rfl, trivial⟩, hc0, hp4, hp9⟩ ?_
    rintro v2 _ w26 ⟨hI34, hh36, hc29, h30, h31⟩
    obtain ⟨u37, rfl⟩ := Has.ins hh36
    have H := H v2 hI34
    refine W_seq ?_
    refine W_reg ?_
    refine L_pu (P_cmp v2 (s1.length : Int) (decide (v2 < (s1.length : Int))) rfl rfl rfl) ?_
    refine L_nil ?_
    refine W_seq ?_
    refine W_cond (decide (v2 < (s1.length : Int))) rfl (fun hq38 => ?_) (fun hq38 => ?_)
    · have H := ite_t H hq38
      refine W_skip ?_
      refine W_seq ?_
      refine W_block ?_
      refine W_seq ?_
      refine W_reg ?_
      refine L_pu (P_move (vi v2) rfl) ?_
      refine L_pu (P_assign (vi v2) rfl) ?_
      refine L_nil ?_
      refine W_seq ?_
      refine W_draw (fun x => Gr w26 x none) (by kernel_rfl) (by kernel_rfl) (Gr.drew _) ?_
      refine Q_pu (P_move (.slice A1 n2 c3) rfl) ?_
      refine Q_pu (P_move (vi v2) rfl) ?_
      obtain ⟨hb39, H⟩ := H
      obtain ⟨ad40, cs41, hA42, hS45, hR43, hcl44⟩ := h30.get default (by decide) v2 hb39
      obtain ⟨rfl, hs46, hs47⟩ := kTag.op hR43
      refine Q_pu (P_ia Try.underlying77 se77 A1 ad40 n2 c3 h30.len v2 rfl hA42 rfl hb39) ?_
      refine Q_pu (P_lda ag149 sz149 cQ (ad40.add (v2.toNat * 2)) [vs ((nth s1 v2).Key), vs ((nth s1 v2).Val)] rfl rfl hcl44) ?_
      refine Q_pu (P_move (.slice A6 n7 c8) rfl) ?_
      refine Q_pu (P_move (vi v2) rfl) ?_
      obtain ⟨hb48, H⟩ := H
      obtain ⟨ad49, cs50, hA51, hS54, hR52, hcl53⟩ := h31.get default (by decide) v2 hb48
      obtain ⟨rfl, hs55, hs56⟩ := kTag.op hR52
      refine Q_pu (P_ia Try.underlying77 se77 A6 ad49 n7 c8 h31.len v2 rfl hA51 rfl hb48) ?_
      refine Q_pu (P_lda ag149 sz149 cQ (ad49.add (v2.toNat * 2)) [vs ((nth s2 v2).Key), vs ((nth s2 v2).Val)] rfl rfl hcl53) ?_
      refine Q_pu (P_ne _ _ (eqTag (nth s1 v2) (nth s2 v2)) (qt149 (nth s1 v2) (nth s2 v2)) rfl rfl) ?_
      refine Q_nil fun w57 g58 => ?_
      have hc60 := hc29.k0 g58
      refine W_cond (!(eqTag (nth s1 v2) (nth s2 v2))) rfl (fun hq61 => ?_) (fun hq61 => ?_)
      · have H := ite_t H hq61
        refine W_seq ?_
        refine W_reg ?_
        refine L_pu (P_assign (vb false) rfl) ?_
        refine L_nil ?_
        refine W_ret ?_
        exact ⟨[vb false], ⟨_, rfl, rfl⟩, false, rfl, H, hc60.gr⟩
      · have H := ite_f H hq61
        refine W_skip ?_
        refine W_reg ?_
        obtain ⟨hb62, H⟩ := H
        refine L_pu (P_add v2 1 rfl rfl hb62) ?_
        refine L_pu (P_move (vi (v2 + 1)) rfl) ?_
        refine L_nil ?_
        obtain ⟨hI63, hm64⟩ := H
        exact ⟨v2 + 1, hm64, hI63, ⟨rfl, rfl, rfl, rfl, trivial⟩, hc60, (h30.st (.new _ g58)), (h31.st (.new _ g58))⟩
    · have H := ite_f H hq38
      refine W_exit (xin_hit ?_)
      refine W_seq ?_
      refine W_reg ?_
      refine L_pu (P_assign (vb true) rfl) ?_
      refine L_nil ?_
      refine W_ret ?_
      exact ⟨[vb true], ⟨_, rfl, rfl⟩, true, rfl, H, hc29.gr⟩
end Go.Proofs.Ythkeboifjlnjjaa

namespace Go.Proofs.Ythkeboifjlnjjaa
set_option linter.unusedVariables false
set_option linter.unusedSimpArgs false
set_option linter.unusedSectionVars false
theorem slices_Equal_Tag.law (a b : List Tag) (Q : Bool → Prop) (hb : a.length ≤ 1048576) (hq : Q (decide (a = b))) : slices_Equal_Tag.E a b Q := by
  unfold slices_Equal_Tag.E
  exact eqI_shape eqTag eqTag_is a b Q hb hq
end Go.Proofs.Ythkeboifjlnjjaa

namespace Go.Proofs.Ythkeboifjlnjjaa
open Go.RowKit
set_option linter.unusedVariables false
def impl_FeatSame.E (a : Feat) (b : Feat) (Q : Bool → Prop) : Prop :=
  (if a.Id == b.Id then impl_ShapeSame.E a.Shape b.Shape (fun r => (if r then slices_Equal_Tag.E a.Tags b.Tags (fun r2 => Q r2) else Q false)) else Q false)
set_option maxHeartbeats 8000000 in
set_option maxRecDepth 100000 in
theorem impl_FeatSame.calls {O : Ob} (w0 : World) (hO : Ok w0 O) (a : Feat) (A2 : Option Addr) (n3 c4 : Nat) (A7 : Option Addr) (n8 c9 : Nat) (hs1 : Lim a.Id) (hp5 : Sl kPt w0 (Fr O) (.slice A2 n3 c4) a.Shape.Pts) (hp10 : Sl kTag w0 (Fr O) (.slice A7 n8 c9) a.Tags) (b : Feat) (A13 : Option Addr) (n14 c15 : Nat) (A18 : Option Addr) (n19 c20 : Nat) (hs12 : Lim b.Id) (hp16 : Sl kPt w0 (Fr O) (.slice A13 n14 c15) b.Shape.Pts) (hp21 : Sl kTag w0 (Fr O) (.slice A18 n19 c20) b.Tags) (Q : Bool → Prop) (h : impl_FeatSame.E a b Q) :
    Ret Try.prog 80 [.agg #[vs a.Id, vi a.Shape.Kind, .slice A2 n3 c4, .slice A7 n8 c9], .agg #[vs b.Id, vi b.Shape.Kind, .slice A13 n14 c15, .slice A18 n19 c20]] w0 (fun v w' => ∃ (r0 : Bool), v = vb r0 ∧ Q r0 ∧ Gr w0 w' none) := by
  have H : (if a.Id == b.Id then impl_ShapeSame.E a.Shape b.Shape (fun r => (if r then slices_Equal_Tag.E a.Tags b.Tags (fun r2 => Q r2) else Q false)) else Q false) := h
  clear h
  have hc0 := Ct.init hO
  refine Ret_enter Try.func80 rfl 24 rfl [.tmp 4] rfl rfl ?_
  refine W_seq ?_
  refine W_reg ?_
  refine L_box [vs a.Id, vi a.Shape.Kind, .slice A2 n3 c4, .slice A7 n8 c9] rfl fun w23 b24 hl26 hu27 g25 hx28 => ?_
  have h30 := Fb.mk hc0.ok hl26 hx28
  have hc31 := hc0.k0 g25
  refine L_box [vs b.Id, vi b.Shape.Kind, .slice A13 n14 c15, .slice A18 n19 c20] rfl fun w32 b33 hl35 hu36 g34 hx37 => ?_
  have h39 := Fb.mk hc31.ok hl35 hx37
  have hc40 := hc31.k0 g34
  refine L_pu (P_assign (vb false) rfl) ?_
  refine L_nil ?_
  refine W_seq ?_
  refine W_reg ?_
  refine L_pu (P_fa fa79_0 ⟨b24, 0, none⟩ ⟨b24, 0, none⟩ rfl rfl) ?_
  have h41 := (h30.st (.new _ g34))
  refine L_pu (P_ld ag9 cL ⟨b24, 0, none⟩ (vs a.Id) rfl (h41.cell rfl)) ?_
  refine L_pu (P_fa fa79_0 ⟨b33, 0, none⟩ ⟨b33, 0, none⟩ rfl rfl) ?_
  refine L_pu (P_ld ag9 cL ⟨b33, 0, none⟩ (vs b.Id) rfl (h39.cell rfl)) ?_
  refine L_pu (P_scmp a.Id b.Id (a.Id == b.Id) rfl rfl rfl) ?_
  refine L_pu (P_move (vb (a.Id == b.Id)) rfl) ?_
  rcases bool_or (a.Id == b.Id) with hq42 | hq42
  · have H := ite_t H hq42
    refine L_run (dj := 10) rfl rfl (by exact congrArg Value.bool hq42) ?_
    refine L_pu (P_fa fa79_1 ⟨b24, 0, none⟩ ⟨b24, 1, none⟩ rfl rfl) ?_
    refine L_run (dj := 10) rfl rfl (by exact congrArg Value.bool hq42) ?_
    refine L_pu (P_lda ag76 sz76 cL ⟨b24, 1, none⟩ [vi a.Shape.Kind, .slice A2 n3 c4] rfl rfl (h41.cells (off := 1) rfl)) ?_
    refine L_run (dj := 10) rfl rfl (by exact congrArg Value.bool hq42) ?_
    refine L_pu (P_fa fa79_1 ⟨b33, 0, none⟩ ⟨b33, 1, none⟩ rfl rfl) ?_
    refine L_run (dj := 10) rfl rfl (by exact congrArg Value.bool hq42) ?_
    refine L_pu (P_lda ag76 sz76 cL ⟨b33, 1, none⟩ [vi b.Shape.Kind, .slice A13 n14 c15] rfl rfl (h39.cells (off := 1) rfl)) ?_
    refine L_run (dj := 10) rfl rfl (by exact congrArg Value.bool hq42) ?_
    refine L_call go108 [.agg #[vi a.Shape.Kind, .slice A2 n3 c4], .agg #[vi b.Shape.Kind, .slice A13 n14 c15]] rfl ((impl_ShapeSame.calls w32 hc40.ok a.Shape A2 n3 c4 (hp5.st hc40.st) b.Shape A13 n14 c15 (hp16.st hc40.st) _ H).mono ?_)
    rintro _ w43 ⟨r, rfl, H, g44⟩
    have hc48 := hc40.k0 g44
    refine L_pu (P_pick true (vb r) (by exact congrArg Value.bool hq42) rfl) ?_
    refine L_pu (P_move (vb r) rfl) ?_
    rcases bool_or r with hq49 | hq49
    · have H := ite_t H hq49
      refine L_run (dj := 17) rfl rfl (by exact congrArg Value.bool hq49) ?_
      refine L_pu (P_fa fa79_2 ⟨b24, 0, none⟩ ⟨b24, 3, none⟩ rfl rfl) ?_
      refine L_run (dj := 17) rfl rfl (by exact congrArg Value.bool hq49) ?_
      have h50 := (h41.st (.new _ g44))
      refine L_pu (P_ld ag77 cL ⟨b24, 3, none⟩ (.slice A7 n8 c9) rfl (h50.cell rfl)) ?_
      refine L_run (dj := 17) rfl rfl (by exact congrArg Value.bool hq49) ?_
      refine L_pu (P_fa fa79_2 ⟨b33, 0, none⟩ ⟨b33, 3, none⟩ rfl rfl) ?_
      refine L_run (dj := 17) rfl rfl (by exact congrArg Value.bool hq49) ?_
      have h51 := (h39.st (.new _ g44))
      refine L_pu (P_ld ag77 cL ⟨b33, 3, none⟩ (.slice A18 n19 c20) rfl (h51.cell rfl)) ?_
      refine L_run (dj := 17) rfl rfl (by exact congrArg Value.bool hq49) ?_
      refine L_call go109 [.slice A7 n8 c9, .slice A18 n19 c20] rfl ((slices_Equal_Tag.calls w43 hc48.ok a.Tags A7 n8 c9 (hp10.st hc48.st) b.Tags A18 n19 c20 (hp21.st hc48.st) _ H).mono ?_)
      rintro _ w52 ⟨r2, rfl, H, g53⟩
      have hc57 := hc48.k0 g53
      refine L_pu (P_pick true (vb r2) (by exact congrArg Value.bool hq49) rfl) ?_
      refine L_pu (P_assign (vb r2) rfl) ?_
      refine L_nil ?_
      refine W_ret ?_
      exact ⟨[vb r2], ⟨_, rfl, rfl⟩, r2, rfl, H, hc57.gr⟩
    · have H := ite_f H hq49
      refine L_pass (dj := 17) rfl rfl (.inl (by exact congrArg Value.bool hq49)) ?_
      refine L_pass (dj := 17) rfl rfl (.inl (by exact congrArg Value.bool hq49)) ?_
      refine L_pass (dj := 17) rfl rfl (.inl (by exact congrArg Value.bool hq49)) ?_
      refine L_pass (dj := 17) rfl rfl (.inl (by exact congrArg Value.bool hq49)) ?_
      refine L_pass (dj := 17) rfl rfl (.inl (by exact congrArg Value.bool hq49)) ?_
      refine L_pu (P_pick false (vb false) (by exact congrArg Value.bool hq49) rfl) ?_
      refine L_pu (P_assign (vb false) rfl) ?_
      refine L_nil ?_
      refine W_ret ?_
      exact ⟨[vb false], ⟨_, rfl, rfl⟩, false, rfl, H, hc48.gr⟩
  · have H := ite_f H hq42
    refine L_pass (dj := 10) rfl rfl (.inl (by exact congrArg Value.bool hq42)) ?_
    refine L_pass (dj := 10) rfl rfl (.inl (by exact congrArg Value.bool hq42)) ?_
    refine L_pass (dj := 10) rfl rfl (.inl (by exact congrArg Value.bool hq42)) ?_
    refine L_pass (dj := 10) rfl rfl (.inl (by exact congrArg Value.bool hq42)) ?_
    refine L_pass (dj := 10) rfl rfl (.inl (by exact congrArg Value.bool hq42)) ?_
    refine L_pu (P_pick false (vb false) (by exact congrArg Value.bool hq42) rfl) ?_
    refine L_pu (P_move (vb false) rfl) ?_
    refine L_pass (dj := 17) rfl rfl (.inl rfl) ?_
    refine L_pass (dj := 17) rfl rfl (.inl rfl) ?_
    refine L_pass (dj := 17) rfl rfl (.inl rfl) ?_
    refine L_pass (dj := 17) rfl rfl (.inl rfl) ?_
    refine L_pass (dj := 17) rfl rfl (.inl rfl) ?_
    refine L_pu (P_pick false (vb false) (by exact congrArg Value.bool rfl) rfl) ?_
    refine L_pu (P_assign (vb false) rfl) ?_
    refine L_nil ?_
    refine W_ret ?_
    exact ⟨[vb false], ⟨_, rfl, rfl⟩, false, rfl, H, hc40.gr⟩
end Go.Proofs.Ythkeboifjlnjjaa

namespace Go.Proofs.Ythkeboifjlnjjaa
set_option linter.unusedVariables false
set_option linter.unusedSimpArgs false
set_option linter.unusedSectionVars false
theorem impl_FeatSame.law (a b : Feat) (Q : Bool → Prop) (hl : a.Shape.Pts.length ≤ 1048576 ∧ a.Tags.length ≤ 1048576) (hq : Q (decide (a = b))) : impl_FeatSame.E a b Q := by
  unfold impl_FeatSame.E
  by_cases h : a.Id = b.Id
  · rw [if_pos (by rw [beq_iff_eq]; exact h)]
    refine impl_ShapeSame.law _ _ _ (by omega) ?_
    by_cases h2 : a.Shape = b.Shape
    · rw [decide_eq_true h2, if_pos rfl]
      refine slices_Equal_Tag.law _ _ _ (by omega) ?_
      have : decide (a.Tags = b.Tags) = decide (a = b) := decide_eq_decide.2 (by rw [Feat.ext_iff']; exact ⟨fun e => ⟨h, h2, e⟩, fun e => e.2.2⟩)
      rw [this]; exact hq
    · rw [decide_eq_false h2, if_neg (by decide)]
      rw [decide_eq_false (by rw [Feat.ext_iff']; exact fun e => h2 e.2.1)] at hq; exact hq
  · rw [if_neg (by rw [beq_iff_eq]; exact h)]
    rw [decide_eq_false (by rw [Feat.ext_iff']; exact fun e => h e.1)] at hq; exact hq
end Go.Proofs.Ythkeboifjlnjjaa

namespace Go.Proofs.Ythkeboifjlnjjaa
open Go.RowKit
set_option linter.unusedVariables false
def impl_SheetSame.E (a : List Feat) (b : List Feat) (Q : Bool → Prop) : Prop :=
  (∃ (f : Feat → Feat → Bool) (f_ok : Feat → Feat → Prop), (∀ x0_ x1_, f_ok x0_ x1_ → impl_FeatSame.E x0_ x1_  (fun r => r = f x0_ x1_)) ∧ slices_EqualFunc_Feat.E a b f f_ok (fun r => Q r))
set_option maxHeartbeats 8000000 in
set_option maxRecDepth 100000 in
theorem impl_SheetSame.calls {O : Ob} (w0 : World) (hO : Ok w0 O) (a : List Feat) (A1 : Option Addr) (n2 c3 : Nat) (hp4 : Sl kFeat w0 (Fr O) (.slice A1 n2 c3) a) (b : List Feat) (A6 : Option Addr) (n7 c8 : Nat) (hp9 : Sl kFeat w0 (Fr O) (.slice A6 n7 c8) b) (Q : Bool → Prop) (h : impl_SheetSame.E a b Q) :
    Ret Try.prog 89 [.slice A1 n2 c3, .slice A6 n7 c8] w0 (fun v w' => ∃ (r0 : Bool), v = vb r0 ∧ Q r0 ∧ Gr w0 w' none) := by
  have H : (∃ (f : Feat → Feat → Bool) (f_ok : Feat → Feat → Prop), (∀ x0_ x1_, f_ok x0_ x1_ → impl_FeatSame.E x0_ x1_  (fun r => r = f x0_ x1_)) ∧ slices_EqualFunc_Feat.E a b f f_ok (fun r => Q r)) := h
  clear h
  have hc0 := Ct.init hO
  refine Ret_enter Try.func89 rfl 8 rfl [.tmp 4] rfl rfl ?_
  refine W_seq ?_
  refine W_reg ?_
  refine L_pu (P_assign (vb false) rfl) ?_
  refine L_nil ?_
  refine W_seq ?_
  refine W_reg ?_
  refine L_pu (P_move (.slice A1 n2 c3) rfl) ?_
  refine L_pu (P_move (.slice A6 n7 c8) rfl) ?_
  obtain ⟨f, f_ok, hE11, H⟩ := H
  have hf12 : ∀ (w : World) (L : Ob), Ct none w0 w L ([] ++ O) → ∀ (x0_ : Feat) (A13 : Option Addr) (n14 c15 : Nat) (A18 : Option Addr) (n19 c20 : Nat) (hs12 : Lim x0_.Id) (hp16 : Sl kPt w (Fr (L ++ ([] ++ O))) (.slice A13 n14 c15) x0_.Shape.Pts) (hp21 : Sl kTag w (Fr (L ++ ([] ++ O))) (.slice A18 n19 c20) x0_.Tags) (x1_ : Feat) (A24 : Option Addr) (n25 c26 : Nat) (A29 : Option Addr) (n30 c31 : Nat) (hs23 : Lim x1_.Id) (hp27 : Sl kPt w (Fr (L ++ ([] ++ O))) (.slice A24 n25 c26) x1_.Shape.Pts) (hp32 : Sl kTag w (Fr (L ++ ([] ++ O))) (.slice A29 n30 c31) x1_.Tags), f_ok x0_ x1_ → Ret Try.prog 80 ([.agg #[vs x0_.Id, vi x0_.Shape.Kind, .slice A13 n14 c15, .slice A18 n19 c20], .agg #[vs x1_.Id, vi x1_.Shape.Kind, .slice A24 n25 c26, .slice A29 n30 c31]] ++ []) w (fun v w' => v = vb (f x0_ x1_) ∧ Gr w w' none) := by
    intro w L c x0_ A13 n14 c15 A18 n19 c20 hs12 hp16 hp21 x1_ A24 n25 c26 A29 n30 c31 hs23 hp27 hp32 hok
    refine (impl_FeatSame.calls w c.ok x0_ A13 n14 c15 A18 n19 c20 hs12 hp16 hp21 x1_ A24 n25 c26 A29 n30 c31 hs23 hp27 hp32  _ (hE11 x0_ x1_ hok)).mono ?_
    rintro _ w2 ⟨r, rfl, rfl, g2⟩
    exact ⟨rfl, g2⟩
  refine L_call go116 [.slice A1 n2 c3, .slice A6 n7 c8, .func (.func 80) #[] #[]] rfl ((slices_EqualFunc_Feat.calls w0 hc0.ok a A1 n2 c3 hp4 b A6 n7 c8 hp9 80 [] f f_ok go80 hf12 _ H).mono ?_)
  rintro _ w13 ⟨r, rfl, H, g14⟩
  have hc18 := hc0.k0 g14
  refine L_pu (P_assign (vb r) rfl) ?_
  refine L_nil ?_
  refine W_ret ?_
  exact ⟨[vb r], ⟨_, rfl, rfl⟩, r, rfl, H, hc18.gr⟩
end Go.Proofs.Ythkeboifjlnjjaa

namespace Go.Proofs.Ythkeboifjlnjjaa
set_option linter.unusedVariables false
set_option linter.unusedSimpArgs false
set_option linter.unusedSectionVars false
theorem impl_SheetSame.law (a b : List Feat) (Q : Bool → Prop) (hb : bulk a ≤ 1048576) (hq : Q (decide (a = b))) : impl_SheetSame.E a b Q := by
  unfold impl_SheetSame.E
  have hl := bulk_len a
  refine ⟨fun x y => decide (x = y), fun x _ => x ∈ a, fun x y hx => impl_FeatSame.law x y _ ?_ rfl, slices_EqualFunc_Feat.law a b _ _ _ (by omega) (fun x y hx => hx) (fun _ _ _ => rfl) hq⟩
  have m := bulk_mem hx
  have b1 : bulk x = bulk x.Id + bulk x.Shape + bulk x.Tags := rfl
  have b2 : bulk x.Shape = bulk x.Shape.Kind + bulk x.Shape.Pts := rfl
  have l1 := bulk_len x.Tags; have l2 := bulk_len x.Shape.Pts
  omega
end Go.Proofs.Ythkeboifjlnjjaa

namespace Go.Proofs.Ythkeboifjlnjjaa
open Go.RowKit
set_option linter.unusedVariables false
def impl_sameCommit.E (a : Commit) (b : Commit) (Q : Bool → Prop) : Prop :=
  slices_Equal_int.E a.Up b.Up (fun r => (if r then impl_SheetSame.E a.Sheet b.Sheet (fun r2 => (if r2 then Q (a.Note == b.Note) else Q false)) else Q false))
set_option maxHeartbeats 8000000 in
set_option maxRecDepth 100000 in
theorem impl_sameCommit.calls {O : Ob} (w0 : World) (hO : Ok w0 O) (a : Commit) (A1 : Option Addr) (n2 c3 : Nat) (A6 : Option Addr) (n7 c8 : Nat) (hp4 : Sl (Kd.int .i64) w0 (Fr O) (.slice A1 n2 c3) a.Up) (hp9 : Sl kFeat w0 (Fr O) (.slice A6 n7 c8) a.Sheet) (hs11 : Lim a.Note) (b : Commit) (A12 : Option Addr) (n13 c14 : Nat) (A17 : Option Addr) (n18 c19 : Nat) (hp15 : Sl (Kd.int .i64) w0 (Fr O) (.slice A12 n13 c14) b.Up) (hp20 : Sl kFeat w0 (Fr O) (.slice A17 n18 c19) b.Sheet) (hs22 : Lim b.Note) (Q : Bool → Prop) (h : impl_sameCommit.E a b Q) :
    Ret Try.prog 51 [.agg #[.slice A1 n2 c3, .slice A6 n7 c8, vs a.Note], .agg #[.slice A12 n13 c14, .slice A17 n18 c19, vs b.Note]] w0 (fun v w' => ∃ (r0 : Bool), v = vb r0 ∧ Q r0 ∧ Gr w0 w' none) := by
  have H : slices_Equal_int.E a.Up b.Up (fun r => (if r then impl_SheetSame.E a.Sheet b.Sheet (fun r2 => (if r2 then Q (a.Note == b.Note) else Q false)) else Q false)) := h
  clear h
  have hc0 := Ct.init hO
  refine Ret_enter Try.func51 rfl 24 rfl [.tmp 4] rfl rfl ?_
  refine W_seq ?_
  refine W_reg ?_
  refine L_box [.slice A1 n2 c3, .slice A6 n7 c8, vs a.Note] rfl fun w23 b24 hl26 hu27 g25 hx28 => ?_
  have h30 := Fb.mk hc0.ok hl26 hx28
  have hc31 := hc0.k0 g25
  refine L_box [.slice A12 n13 c14, .slice A17 n18 c19, vs b.Note] rfl fun w32 b33 hl35 hu36 g34 hx37 => ?_
  have h39 := Fb.mk hc31.ok hl35 hx37
  have hc40 := hc31.k0 g34
  refine L_pu (P_assign (vb false) rfl) ?_
  refine L_nil ?_
  refine W_seq ?_
  refine W_reg ?_
  refine L_pu (P_fa fa93_0 ⟨b24, 0, none⟩ ⟨b24, 0, none⟩ rfl rfl) ?_
  have h41 := (h30.st (.new _ g34))
  refine L_pu (P_ld ag90 cL ⟨b24, 0, none⟩ (.slice A1 n2 c3) rfl (h41.cell rfl)) ?_
  refine L_pu (P_fa fa93_0 ⟨b33, 0, none⟩ ⟨b33, 0, none⟩ rfl rfl) ?_
  refine L_pu (P_ld ag90 cL ⟨b33, 0, none⟩ (.slice A12 n13 c14) rfl (h39.cell rfl)) ?_
  refine L_call go88 [.slice A1 n2 c3, .slice A12 n13 c14] rfl ((slices_Equal_int.calls w32 hc40.ok a.Up A1 n2 c3 (hp4.st hc40.st) b.Up A12 n13 c14 (hp15.st hc40.st) _ H).mono ?_)
  rintro _ w42 ⟨r, rfl, H, g43⟩
  have hc47 := hc40.k0 g43
  refine L_pu (P_move (vb r) rfl) ?_
  rcases bool_or r with hq48 | hq48
  · have H := ite_t H hq48
    refine L_run (dj := 10) rfl rfl (by exact congrArg Value.bool hq48) ?_
    refine L_pu (P_fa fa93_1 ⟨b24, 0, none⟩ ⟨b24, 1, none⟩ rfl rfl) ?_
    refine L_run (dj := 10) rfl rfl (by exact congrArg Value.bool hq48) ?_
    have h49 := (h41.st (.new _ g43))
    refine L_pu (P_ld ag91 cL ⟨b24, 1, none⟩ (.slice A6 n7 c8) rfl (h49.cell rfl)) ?_
    refine L_run (dj := 10) rfl rfl (by exact congrArg Value.bool hq48) ?_
    refine L_pu (P_fa fa93_1 ⟨b33, 0, none⟩ ⟨b33, 1, none⟩ rfl rfl) ?_
    refine L_run (dj := 10) rfl rfl (by exact congrArg Value.bool hq48) ?_
    have h50 := (h39.st (.new _ g43))
    refine L_pu (P_ld ag91 cL ⟨b33, 1, none⟩ (.slice A17 n18 c19) rfl (h50.cell rfl)) ?_
    refine L_run (dj := 10) rfl rfl (by exact congrArg Value.bool hq48) ?_
    refine L_call go89 [.slice A6 n7 c8, .slice A17 n18 c19] rfl ((impl_SheetSame.calls w42 hc47.ok a.Sheet A6 n7 c8 (hp9.st hc47.st) b.Sheet A17 n18 c19 (hp20.st hc47.st) _ H).mono ?_)
    rintro _ w51 ⟨r2, rfl, H, g52⟩
    have hc56 := hc47.k0 g52
    refine L_pu (P_pick true (vb r2) (by exact congrArg Value.bool hq48) rfl) ?_
    refine L_pu (P_move (vb r2) rfl) ?_
    rcases bool_or r2 with hq57 | hq57
    · have H := ite_t H hq57
      refine L_run (dj := 17) rfl rfl (by exact congrArg Value.bool hq57) ?_
      refine L_pu (P_fa fa93_2 ⟨b24, 0, none⟩ ⟨b24, 2, none⟩ rfl rfl) ?_
      refine L_run (dj := 17) rfl rfl (by exact congrArg Value.bool hq57) ?_
      have h58 := (h49.st (.new _ g52))
      refine L_pu (P_ld ag9 cL ⟨b24, 2, none⟩ (vs a.Note) rfl (h58.cell rfl)) ?_
      refine L_run (dj := 17) rfl rfl (by exact congrArg Value.bool hq57) ?_
      refine L_pu (P_fa fa93_2 ⟨b33, 0, none⟩ ⟨b33, 2, none⟩ rfl rfl) ?_
      refine L_run (dj := 17) rfl rfl (by exact congrArg Value.bool hq57) ?_
      have h59 := (h50.st (.new _ g52))
      refine L_pu (P_ld ag9 cL ⟨b33, 2, none⟩ (vs b.Note) rfl (h59.cell rfl)) ?_
      refine L_run (dj := 17) rfl rfl (by exact congrArg Value.bool hq57) ?_
      refine L_pu (P_scmp a.Note b.Note (a.Note == b.Note) rfl rfl rfl) ?_
      refine L_pu (P_pick true (vb (a.Note == b.Note)) (by exact congrArg Value.bool hq57) rfl) ?_
      refine L_pu (P_assign (vb (a.Note == b.Note)) rfl) ?_
      refine L_nil ?_
      refine W_ret ?_
      exact ⟨[vb (a.Note == b.Note)], ⟨_, rfl, rfl⟩, a.Note == b.Note, rfl, H, hc56.gr⟩
    · have H := ite_f H hq57
      refine L_pass (dj := 17) rfl rfl (.inl (by exact congrArg Value.bool hq57)) ?_
      refine L_pass (dj := 17) rfl rfl (.inl (by exact congrArg Value.bool hq57)) ?_
      refine L_pass (dj := 17) rfl rfl (.inl (by exact congrArg Value.bool hq57)) ?_
      refine L_pass (dj := 17) rfl rfl (.inl (by exact congrArg Value.bool hq57)) ?_
      refine L_pass (dj := 17) rfl rfl (.inl (by exact congrArg Value.bool hq57)) ?_
      refine L_pu (P_pick false (vb false) (by exact congrArg Value.bool hq57) rfl) ?_
      refine L_pu (P_assign (vb false) rfl) ?_
      refine L_nil ?_
      refine W_ret ?_
      exact ⟨[vb false], ⟨_, rfl, rfl⟩, false, rfl, H, hc56.gr⟩
  · have H := ite_f H hq48
    refine L_pass (dj := 10) rfl rfl (.inl (by exact congrArg Value.bool hq48)) ?_
    refine L_pass (dj := 10) rfl rfl (.inl (by exact congrArg Value.bool hq48)) ?_
    refine L_pass (dj := 10) rfl rfl (.inl (by exact congrArg Value.bool hq48)) ?_
    refine L_pass (dj := 10) rfl rfl (.inl (by exact congrArg Value.bool hq48)) ?_
    refine L_pass (dj := 10) rfl rfl (.inl (by exact congrArg Value.bool hq48)) ?_
    refine L_pu (P_pick false (vb false) (by exact congrArg Value.bool hq48) rfl) ?_
    refine L_pu (P_move (vb false) rfl) ?_
    refine L_pass (dj := 17) rfl rfl (.inl rfl) ?_
    refine L_pass (dj := 17) rfl rfl (.inl rfl) ?_
    refine L_pass (dj := 17) rfl rfl (.inl rfl) ?_
    refine L_pass (dj := 17) rfl rfl (.inl rfl) ?_
    refine L_pass (dj := 17) rfl rfl (.inl rfl) ?_
    refine L_pu (P_pick false (vb false) (by exact congrArg Value.bool rfl) rfl) ?_
    refine L_pu (P_assign (vb false) rfl) ?_
    refine L_nil ?_
    refine W_ret ?_
    exact ⟨[vb false], ⟨_, rfl, rfl⟩, false, rfl, H, hc47.gr⟩
end Go.Proofs.Ythkeboifjlnjjaa

namespace Go.Proofs.Ythkeboifjlnjjaa
set_option linter.unusedVariables false
set_option linter.unusedSimpArgs false
set_option linter.unusedSectionVars false
theorem Commit.ext_iff' (a b : Commit) : a = b ↔ a.Up = b.Up ∧ a.Sheet = b.Sheet ∧ a.Note = b.Note := by cases a; cases b; simp
theorem impl_sameCommit.law (a b : Commit) (Q : Bool → Prop) (hb : bulk a ≤ 1048576) (hq : Q (decide (a = b))) : impl_sameCommit.E a b Q := by
  unfold impl_sameCommit.E
  have b1 : bulk a = bulk a.Up + bulk a.Sheet + bulk a.Note := rfl
  have l1 := bulk_len a.Up
  have e : decide (a = b) = (decide (a.Up = b.Up) && (decide (a.Sheet = b.Sheet) && decide (a.Note = b.Note))) := by
    rw [Bool.eq_iff_iff]; simp only [Bool.and_eq_true, decide_eq_true_eq]; exact Commit.ext_iff' a b
  rw [e] at hq
  refine slices_Equal_int.law _ _ _ (by omega) ?_
  cases h1 : decide (a.Up = b.Up) with
  | false => rw [h1] at hq; rw [if_neg (by decide)]; exact hq
  | true =>
    rw [h1, Bool.true_and] at hq
    rw [if_pos rfl]
    refine impl_SheetSame.law _ _ _ (by omega) ?_
    cases h2 : decide (a.Sheet = b.Sheet) with
    | false => rw [h2] at hq; rw [if_neg (by decide)]; exact hq
    | true =>
      rw [h2, Bool.true_and] at hq
      rw [if_pos rfl]
      have : (a.Note == b.Note) = decide (a.Note = b.Note) := by rw [Bool.eq_iff_iff, beq_iff_eq, decide_eq_true_eq]
      rw [this]; exact hq
end Go.Proofs.Ythkeboifjlnjjaa

namespace Go.Proofs.Ythkeboifjlnjjaa
open Go.RowKit
set_option linter.unusedVariables false
def slices_Equal_Head.E (s1 : List Head) (s2 : List Head) (Q : Bool → Prop) : Prop :=
  (if (s1.length : Int) != (s2.length : Int) then Q false else (∃ (I32 : Int → Prop) (mu33 : Int → Nat), I32 0 ∧ ∀ (v2 : Int), I32 v2 → (if decide (v2 < (s1.length : Int)) then ((0 : Int) ≤ v2 ∧ v2 < (s1.length : Int)) ∧ ((0 : Int) ≤ v2 ∧ v2 < (s2.length : Int)) ∧ (if !(eqHead (nth s1 v2) (nth s2 v2)) then Q false else (I64 (v2 + 1)) ∧ I32 (v2 + 1) ∧ mu33 (v2 + 1) < mu33 v2) else Q true)))
set_option maxHeartbeats 8000000 in
set_option maxRecDepth 100000 in
theorem slices_Equal_Head.calls {O : Ob} (w0 : World) (hO : Ok w0 O) (s1 : List Head) (A1 : Option Addr) (n2 c3 : Nat) (hp4 : Sl kHead w0 (Fr O) (.slice A1 n2 c3) s1) (s2 : List Head) (A6 : Option Addr) (n7 c8 : Nat) (hp9 : Sl kHead w0 (Fr O) (.slice A6 n7 c8) s2) (Q : Bool → Prop) (h : slices_Equal_Head.E s1 s2 Q) :
    Ret Try.prog 52 [.slice A1 n2 c3, .slice A6 n7 c8] w0 (fun v w' => ∃ (r0 : Bool), v = vb r0 ∧ Q r0 ∧ Gr w0 w' none) := by
  have H : (if (s1.length : Int) != (s2.length : Int) then Q false else (∃ (I32 : Int → Prop) (mu33 : Int → Nat), I32 0 ∧ ∀ (v2 : Int), I32 v2 → (if decide (v2 < (s1.length : Int)) then ((0 : Int) ≤ v2 ∧ v2 < (s1.length : Int)) ∧ ((0 : Int) ≤ v2 ∧ v2 < (s2.length : Int)) ∧ (if !(eqHead (nth s1 v2) (nth s2 v2)) then Q false else (I64 (v2 + 1)) ∧ I32 (v2 + 1) ∧ mu33 (v2 + 1) < mu33 v2) else Q true))) := h
  clear h
  have hc0 := Ct.init hO
  refine Ret_enter Try.func52 rfl 26 rfl [.tmp 4] rfl rfl ?_
  refine W_seq ?_
  refine W_reg ?_
  refine L_pu (P_assign (vb false) rfl) ?_
  refine L_nil ?_
  refine W_seq ?_
  refine W_seq ?_
  refine W_reg ?_
  refine L_pu (P_move (.slice A1 n2 c3) rfl) ?_
  have hl11 := hp4.le
  refine L_pu (P_len Try.underlying44 A1 n2 c3 hp4.len rfl) ?_
  refine L_pu (P_move (.slice A6 n7 c8) rfl) ?_
  have hl12 := hp9.le
  refine L_pu (P_len Try.underlying44 A6 n7 c8 hp9.len rfl) ?_
  refine L_pu (P_cmp (s1.length : Int) (s2.length : Int) ((s1.length : Int) != (s2.length : Int)) rfl rfl rfl) ?_
  refine L_nil ?_
  refine W_cond ((s1.length : Int) != (s2.length : Int)) rfl (fun hq13 => ?_) (fun hq13 => ?_)
  · have H := ite_t H hq13
    refine W_seq ?_
    refine W_reg ?_
    refine L_pu (P_assign (vb false) rfl) ?_
    refine L_nil ?_
    refine W_ret ?_
    exact ⟨[vb false], ⟨_, rfl, rfl⟩, false, rfl, H, hc0.gr⟩
  · have H := ite_f H hq13
    refine W_skip ?_
    refine W_seq ?_
    refine W_seq ?_
    refine W_reg ?_
    refine L_pu (P_move (.slice A1 n2 c3) rfl) ?_
    refine L_pu (P_len Try.underlying44 A1 n2 c3 hp4.len rfl) ?_
    refine L_pu (P_move (vi 0) rfl) ?_
    refine L_nil ?_
    refine W_block ?_
    obtain ⟨I32, mu33, hI34, H⟩ := H
    refine W_loop (α := Int) (fun (sv__ : Int) t w26 => match sv__ with | v2 => I32 v2 ∧ Has t [(0, .slice A1 n2 c3), (1, .slice A6 n7 c8), (12, vi (s1.length : Int)), (13, vi v2)] ∧ Ct none w0 w26 [] O ∧ Sl kHead w26 (Fr ([] ++ O)) (.slice A1 n2 c3) s1 ∧ Sl kHead w26 (Fr ([] ++ O)) (.slice A6 n7 c8) s2) (fun (sv__ : Int) => match sv__ with | v2 => mu33 v2) 0 ⟨hI34, ⟨rfl, rfl, rfl, rfl, trivial⟩, hc0, hp4, hp9⟩ ?_
    rintro v2 _ w26 ⟨hI34, hh36, hc29, h30, h31⟩
    obtain ⟨u37, rfl⟩ := Has.ins hh36
    have H := H v2 hI34
    refine W_seq ?_
    refine W_reg ?_
    refine L_pu (P_cmp v2 (s1.length : Int) (decide (v2 < (s1.length : Int))) rfl rfl rfl) ?_
    refine L_nil ?_
    refine W_seq ?_
    refine W_cond (decide (v2 < (s1.length : Int))) rfl (fun hq38 => ?_) (fun hq38 => ?_)
    · have H := ite_t H hq38
      refine W_skip ?_
      refine W_seq ?_
      refine W_block ?_
      refine W_seq ?_
      refine W_reg ?_
      refine L_pu (P_move (vi v2) rfl) ?_
      refine L_pu (P_assign (vi v2) rfl) ?_
      refine L_nil ?_
      refine W_seq ?_
      refine W_draw (fun x => Gr w26 x none) (by kernel_rfl) (by kernel_rfl) (Gr.drew _) ?_
      refine Q_pu (P_move (.slice A1 n2 c3) rfl) ?_
      refine Q_pu (P_move (vi v2) rfl) ?_
      obtain ⟨hb39, H⟩ := H
      obtain ⟨ad40, cs41, hA42, hS45, hR43, hcl44⟩ := h30.get default (by decide) v2 hb39
      obtain ⟨rfl, hs46⟩ := kHead.op hR43
      refine Q_pu (P_ia Try.underlying44 se44 A1 ad40 n2 c3 h30.len v2 rfl hA42 rfl hb39) ?_
      refine Q_pu (P_lda ag95 sz95 cQ (ad40.add (v2.toNat * 2)) [vs ((nth s1 v2).Name), vi ((nth s1 v2).At)] rfl rfl hcl44) ?_
      refine Q_pu (P_move (.slice A6 n7 c8) rfl) ?_
      refine Q_pu (P_move (vi v2) rfl) ?_
      obtain ⟨hb47, H⟩ := H
      obtain ⟨ad48, cs49, hA50, hS53, hR51, hcl52⟩ := h31.get default (by decide) v2 hb47
      obtain ⟨rfl, hs54⟩ := kHead.op hR51
      refine Q_pu (P_ia Try.underlying44 se44 A6 ad48 n7 c8 h31.len v2 rfl hA50 rfl hb47) ?_
      refine Q_pu (P_lda ag95 sz95 cQ (ad48.add (v2.toNat * 2)) [vs ((nth s2 v2).Name), vi ((nth s2 v2).At)] rfl rfl hcl52) ?_
      refine Q_pu (P_ne _ _ (eqHead (nth s1 v2) (nth s2 v2)) (qt95 (nth s1 v2) (nth s2 v2)) rfl rfl) ?_
      refine Q_nil fun w55 g56 => ?_
      have hc58 := hc29.k0 g56
      refine W_cond (!(eqHead (nth s1 v2) (nth s2 v2))) rfl (fun hq59 => ?_) (fun hq59 => ?_)
      · have H := ite_t H hq59
        refine W_seq ?_
        refine W_reg ?_
        refine L_pu (P_assign (vb false) rfl) ?_
        refine L_nil ?_
        refine W_ret ?_
        exact ⟨[vb false], ⟨_, rfl, rfl⟩, false, rfl, H, hc58.gr⟩
      · have H := ite_f H hq59
        refine W_skip ?_
        refine W_reg ?_
        obtain ⟨hb60, H⟩ := H
        refine L_pu (P_add v2 1 rfl rfl hb60) ?_
        refine L_pu (P_move (vi (v2 + 1)) rfl) ?_
        refine L_nil ?_
        obtain ⟨hI61, hm62⟩ := H
        exact ⟨v2 + 1, hm62, hI61, ⟨rfl, rfl, rfl, rfl, trivial⟩, hc58, (h30.st (.new _ g56)), (h31.st (.new _ g56))⟩
    · have H := ite_f H hq38
      refine W_exit (xin_hit ?_)
      refine W_seq ?_
      refine W_reg ?_
      refine L_pu (P_assign (vb true) rfl) ?_
      refine L_nil ?_
      refine W_ret ?_
      exact ⟨[vb true], ⟨_, rfl, rfl⟩, true, rfl, H, hc29.gr⟩
end Go.Proofs.Ythkeboifjlnjjaa

namespace Go.Proofs.Ythkeboifjlnjjaa
set_option linter.unusedVariables false
set_option linter.unusedSimpArgs false
set_option linter.unusedSectionVars false
theorem slices_Equal_Head.law (a b : List Head) (Q : Bool → Prop) (hb : a.length ≤ 1048576) (hq : Q (decide (a = b))) : slices_Equal_Head.E a b Q := by
  unfold slices_Equal_Head.E
  exact eqI_shape eqHead eqHead_is a b Q hb hq
end Go.Proofs.Ythkeboifjlnjjaa

namespace Go.Proofs.Ythkeboifjlnjjaa
open Go.RowKit
set_option linter.unusedVariables false
def impl_RepoSame.E (a : Repo) (b : Repo) (Q : Bool → Prop) : Prop :=
  (∃ (f : Commit → Commit → Bool) (f_ok : Commit → Commit → Prop), (∀ x0_ x1_, f_ok x0_ x1_ → impl_sameCommit.E x0_ x1_  (fun r => r = f x0_ x1_)) ∧ slices_EqualFunc_Commit.E a.Commits b.Commits f f_ok (fun r => (if r then slices_Equal_Head.E a.Heads b.Heads (fun r2 => Q r2) else Q false)))
set_option maxHeartbeats 8000000 in
set_option maxRecDepth 100000 in
theorem impl_RepoSame.calls {O : Ob} (w0 : World) (hO : Ok w0 O) (a : Repo) (A1 : Option Addr) (n2 c3 : Nat) (A6 : Option Addr) (n7 c8 : Nat) (hp4 : Sl kCommit w0 (Fr O) (.slice A1 n2 c3) a.Commits) (hp9 : Sl kHead w0 (Fr O) (.slice A6 n7 c8) a.Heads) (b : Repo) (A11 : Option Addr) (n12 c13 : Nat) (A16 : Option Addr) (n17 c18 : Nat) (hp14 : Sl kCommit w0 (Fr O) (.slice A11 n12 c13) b.Commits) (hp19 : Sl kHead w0 (Fr O) (.slice A16 n17 c18) b.Heads) (Q : Bool → Prop) (h : impl_RepoSame.E a b Q) :
    Ret Try.prog 21 [.agg #[.slice A1 n2 c3, .slice A6 n7 c8], .agg #[.slice A11 n12 c13, .slice A16 n17 c18]] w0 (fun v w' => ∃ (r0 : Bool), v = vb r0 ∧ Q r0 ∧ Gr w0 w' none) := by
  have H : (∃ (f : Commit → Commit → Bool) (f_ok : Commit → Commit → Prop), (∀ x0_ x1_, f_ok x0_ x1_ → impl_sameCommit.E x0_ x1_  (fun r => r = f x0_ x1_)) ∧ slices_EqualFunc_Commit.E a.Commits b.Commits f f_ok (fun r => (if r then slices_Equal_Head.E a.Heads b.Heads (fun r2 => Q r2) else Q false))) := h
  clear h
  have hc0 := Ct.init hO
  refine Ret_enter Try.func21 rfl 17 rfl [.tmp 4] rfl rfl ?_
  refine W_seq ?_
  refine W_reg ?_
  refine L_box [.slice A1 n2 c3, .slice A6 n7 c8] rfl fun w21 b22 hl24 hu25 g23 hx26 => ?_
  have h28 := Fb.mk hc0.ok hl24 hx26
  have hc29 := hc0.k0 g23
  refine L_box [.slice A11 n12 c13, .slice A16 n17 c18] rfl fun w30 b31 hl33 hu34 g32 hx35 => ?_
  have h37 := Fb.mk hc29.ok hl33 hx35
  have hc38 := hc29.k0 g32
  refine L_pu (P_assign (vb false) rfl) ?_
  refine L_nil ?_
  refine W_seq ?_
  refine W_reg ?_
  refine L_pu (P_fa fa46_0 ⟨b22, 0, none⟩ ⟨b22, 0, none⟩ rfl rfl) ?_
  have h39 := (h28.st (.new _ g32))
  refine L_pu (P_ld ag43 cL ⟨b22, 0, none⟩ (.slice A1 n2 c3) rfl (h39.cell rfl)) ?_
  refine L_pu (P_fa fa46_0 ⟨b31, 0, none⟩ ⟨b31, 0, none⟩ rfl rfl) ?_
  refine L_pu (P_ld ag43 cL ⟨b31, 0, none⟩ (.slice A11 n12 c13) rfl (h37.cell rfl)) ?_
  obtain ⟨f, f_ok, hE40, H⟩ := H
  have hf41 : ∀ (w : World) (L : Ob), Ct none w30 w L ([] ++ O) → ∀ (x0_ : Commit) (A41 : Option Addr) (n42 c43 : Nat) (A46 : Option Addr) (n47 c48 : Nat) (hp44 : Sl (Kd.int .i64) w (Fr (L ++ ([] ++ O))) (.slice A41 n42 c43) x0_.Up) (hp49 : Sl kFeat w (Fr (L ++ ([] ++ O))) (.slice A46 n47 c48) x0_.Sheet) (hs51 : Lim x0_.Note) (x1_ : Commit) (A52 : Option Addr) (n53 c54 : Nat) (A57 : Option Addr) (n58 c59 : Nat) (hp55 : Sl (Kd.int .i64) w (Fr (L ++ ([] ++ O))) (.slice A52 n53 c54) x1_.Up) (hp60 : Sl kFeat w (Fr (L ++ ([] ++ O))) (.slice A57 n58 c59) x1_.Sheet) (hs62 : Lim x1_.Note), f_ok x0_ x1_ → Ret Try.prog 51 ([.agg #[.slice A41 n42 c43, .slice A46 n47 c48, vs x0_.Note], .agg #[.slice A52 n53 c54, .slice A57 n58 c59, vs x1_.Note]] ++ []) w (fun v w' => v = vb (f x0_ x1_) ∧ Gr w w' none) := by
    intro w L c x0_ A41 n42 c43 A46 n47 c48 hp44 hp49 hs51 x1_ A52 n53 c54 A57 n58 c59 hp55 hp60 hs62 hok
    refine (impl_sameCommit.calls w c.ok x0_ A41 n42 c43 A46 n47 c48 hp44 hp49 hs51 x1_ A52 n53 c54 A57 n58 c59 hp55 hp60 hs62  _ (hE40 x0_ x1_ hok)).mono ?_
    rintro _ w2 ⟨r, rfl, rfl, g2⟩
    exact ⟨rfl, g2⟩
  refine L_call go50 [.slice A1 n2 c3, .slice A11 n12 c13, .func (.func 51) #[] #[]] rfl ((slices_EqualFunc_Commit.calls w30 hc38.ok a.Commits A1 n2 c3 (hp4.st hc38.st) b.Commits A11 n12 c13 (hp14.st hc38.st) 51 [] f f_ok go51 hf41 _ H).mono ?_)
  rintro _ w42 ⟨r, rfl, H, g43⟩
  have hc47 := hc38.k0 g43
  refine L_pu (P_move (vb r) rfl) ?_
  rcases bool_or r with hq48 | hq48
  · have H := ite_t H hq48
    refine L_run (dj := 10) rfl rfl (by exact congrArg Value.bool hq48) ?_
    refine L_pu (P_fa fa46_1 ⟨b22, 0, none⟩ ⟨b22, 1, none⟩ rfl rfl) ?_
    refine L_run (dj := 10) rfl rfl (by exact congrArg Value.bool hq48) ?_
    have h49 := (h39.st (.new _ g43))
    refine L_pu (P_ld ag44 cL ⟨b22, 1, none⟩ (.slice A6 n7 c8) rfl (h49.cell rfl)) ?_
    refine L_run (dj := 10) rfl rfl (by exact congrArg Value.bool hq48) ?_
    refine L_pu (P_fa fa46_1 ⟨b31, 0, none⟩ ⟨b31, 1, none⟩ rfl rfl) ?_
    refine L_run (dj := 10) rfl rfl (by exact congrArg Value.bool hq48) ?_
    have h50 := (h37.st (.new _ g43))
    refine L_pu (P_ld ag44 cL ⟨b31, 1, none⟩ (.slice A16 n17 c18) rfl (h50.cell rfl)) ?_
    refine L_run (dj := 10) rfl rfl (by exact congrArg Value.bool hq48) ?_
    refine L_call go52 [.slice A6 n7 c8, .slice A16 n17 c18] rfl ((slices_Equal_Head.calls w42 hc47.ok a.Heads A6 n7 c8 (hp9.st hc47.st) b.Heads A16 n17 c18 (hp19.st hc47.st) _ H).mono ?_)
    rintro _ w51 ⟨r2, rfl, H, g52⟩
    have hc56 := hc47.k0 g52
    refine L_pu (P_pick true (vb r2) (by exact congrArg Value.bool hq48) rfl) ?_
    refine L_pu (P_assign (vb r2) rfl) ?_
    refine L_nil ?_
    refine W_ret ?_
    exact ⟨[vb r2], ⟨_, rfl, rfl⟩, r2, rfl, H, hc56.gr⟩
  · have H := ite_f H hq48
    refine L_pass (dj := 10) rfl rfl (.inl (by exact congrArg Value.bool hq48)) ?_
    refine L_pass (dj := 10) rfl rfl (.inl (by exact congrArg Value.bool hq48)) ?_
    refine L_pass (dj := 10) rfl rfl (.inl (by exact congrArg Value.bool hq48)) ?_
    refine L_pass (dj := 10) rfl rfl (.inl (by exact congrArg Value.bool hq48)) ?_
    refine L_pass (dj := 10) rfl rfl (.inl (by exact congrArg Value.bool hq48)) ?_
    refine L_pu (P_pick false (vb false) (by exact congrArg Value.bool hq48) rfl) ?_
    refine L_pu (P_assign (vb false) rfl) ?_
    refine L_nil ?_
    refine W_ret ?_
    exact ⟨[vb false], ⟨_, rfl, rfl⟩, false, rfl, H, hc47.gr⟩
end Go.Proofs.Ythkeboifjlnjjaa

namespace Go.Proofs.Ythkeboifjlnjjaa
set_option linter.unusedVariables false
set_option linter.unusedSimpArgs false
set_option linter.unusedSectionVars false
theorem Repo.ext_iff' (a b : Repo) : a = b ↔ a.Commits = b.Commits ∧ a.Heads = b.Heads := by cases a; cases b; simp
theorem impl_RepoSame.law (a b : Repo) (Q : Bool → Prop) (hb : bulk a ≤ 1048576) (hq : Q (decide (a = b))) : impl_RepoSame.E a b Q := by
  unfold impl_RepoSame.E
  have b1 : bulk a = bulk a.Commits + bulk a.Heads := rfl
  have l1 := bulk_len a.Commits; have l2 := bulk_len a.Heads
  have e : decide (a = b) = (decide (a.Commits = b.Commits) && decide (a.Heads = b.Heads)) := by
    rw [Bool.eq_iff_iff]; simp only [Bool.and_eq_true, decide_eq_true_eq]; exact Repo.ext_iff' a b
  rw [e] at hq
  refine ⟨fun x y => decide (x = y), fun x _ => x ∈ a.Commits, fun x y hx => impl_sameCommit.law x y _ (by have := bulk_mem hx; omega) rfl, slices_EqualFunc_Commit.law _ _ _ _ _ (by omega) (fun x y hx => hx) (fun _ _ _ => rfl) ?_⟩
  cases h1 : decide (a.Commits = b.Commits) with
  | false => rw [h1] at hq; rw [if_neg (by decide)]; exact hq
  | true =>
    rw [h1, Bool.true_and] at hq
    rw [if_pos rfl]
    exact slices_Equal_Head.law _ _ _ (by omega) hq
end Go.Proofs.Ythkeboifjlnjjaa

namespace Go.Proofs.Ythkeboifjlnjjaa
open Go.RowKit
set_option linter.unusedVariables false
def laws_eqIntS.E (a : List Int) (b : List Int) (Q : Bool → Prop) : Prop :=
  (if (a.length : Int) != (b.length : Int) then Q false else (∃ (I32 : Int → Prop) (mu33 : Int → Nat), I32 0 ∧ ∀ (i2 : Int), I32 i2 → (if decide (i2 < (a.length : Int)) then ((0 : Int) ≤ i2 ∧ i2 < (a.length : Int)) ∧ ((0 : Int) ≤ i2 ∧ i2 < (b.length : Int)) ∧ (if (nth a i2) != (nth b i2) then Q false else (-9223372036854775808 ≤ i2) ∧ I32 (i2 + 1) ∧ mu33 (i2 + 1) < mu33 i2) else Q true)))
set_option maxHeartbeats 8000000 in
set_option maxRecDepth 100000 in
theorem laws_eqIntS.calls {O : Ob} (w0 : World) (hO : Ok w0 O) (a : List Int) (A1 : Option Addr) (n2 c3 : Nat) (hp4 : Sl (Kd.int .i64) w0 (Fr O) (.slice A1 n2 c3) a) (b : List Int) (A6 : Option Addr) (n7 c8 : Nat) (hp9 : Sl (Kd.int .i64) w0 (Fr O) (.slice A6 n7 c8) b) (Q : Bool → Prop) (h : laws_eqIntS.E a b Q) :
    Ret Try.prog 117 [.slice A1 n2 c3, .slice A6 n7 c8] w0 (fun v w' => ∃ (r0 : Bool), v = vb r0 ∧ Q r0 ∧ Gr w0 w' none) := by
  have H : (if (a.length : Int) != (b.length : Int) then Q false else (∃ (I32 : Int → Prop) (mu33 : Int → Nat), I32 0 ∧ ∀ (i2 : Int), I32 i2 → (if decide (i2 < (a.length : Int)) then ((0 : Int) ≤ i2 ∧ i2 < (a.length : Int)) ∧ ((0 : Int) ≤ i2 ∧ i2 < (b.length : Int)) ∧ (if (nth a i2) != (nth b i2) then Q false else (-9223372036854775808 ≤ i2) ∧ I32 (i2 + 1) ∧ mu33 (i2 + 1) < mu33 i2) else Q true))) := h
  clear h
  have hc0 := Ct.init hO
  refine Ret_enter Try.func117 rfl 26 rfl [.tmp 4] rfl rfl ?_
  refine W_seq ?_
  refine W_reg ?_
  refine L_pu (P_assign (vb false) rfl) ?_
  refine L_nil ?_
  refine W_seq ?_
  refine W_seq ?_
  refine W_reg ?_
  refine L_pu (P_move (.slice A1 n2 c3) rfl) ?_
  have hl11 := hp4.le
  refine L_pu (P_len Try.underlying90 A1 n2 c3 hp4.len rfl) ?_
  refine L_pu (P_move (.slice A6 n7 c8) rfl) ?_
  have hl12 := hp9.le
  refine L_pu (P_len Try.underlying90 A6 n7 c8 hp9.len rfl) ?_
  refine L_pu (P_cmp (a.length : Int) (b.length : Int) ((a.length : Int) != (b.length : Int)) rfl rfl rfl) ?_
  refine L_nil ?_
  refine W_cond ((a.length : Int) != (b.length : Int)) rfl (fun hq13 => ?_) (fun hq13 => ?_)
  · have H := ite_t H hq13
    refine W_seq ?_
    refine W_reg ?_
    refine L_pu (P_assign (vb false) rfl) ?_
    refine L_nil ?_
    refine W_ret ?_
    exact ⟨[vb false], ⟨_, rfl, rfl⟩, false, rfl, H, hc0.gr⟩
  · have H := ite_f H hq13
    refine W_skip ?_
    refine W_seq ?_
    refine W_seq ?_
    refine W_reg ?_
    refine L_pu (P_assign (vi 0) rfl) ?_
    refine L_nil ?_
    refine W_block ?_
    obtain ⟨I32, mu33, hI34, H⟩ := H
    refine W_loop (α := Int) (fun (sv__ : Int) t w26 => match sv__ with | i2 => I32 i2 ∧ Has t [(0, .slice A1 n2 c3), (1, .slice A6 n7 c8), (5, vi i2)] ∧ Ct none w0 w26 [] O ∧ Sl (Kd.int .i64) w26 (Fr ([] ++ O)) (.slice A1 n2 c3) a ∧ Sl (Kd.int .i64) w26 (Fr ([] ++ O)) (.slice A6 n7 c8) b) (fun (sv__ : Int) => match sv__ with | i2 => mu33 i2) 0 ⟨hI34, ⟨rfl, rfl, rfl, trivial⟩, hc0, hp4, hp9⟩ ?_
    rintro i2 _ w26 ⟨hI34, hh36, hc29, h30, h31⟩
    obtain ⟨u37, rfl⟩ := Has.ins hh36
    have H := H i2 hI34
    refine W_seq ?_
    refine W_seq ?_
    refine W_reg ?_
    refine L_pu (P_move (vi i2) rfl) ?_
    refine L_pu (P_move (.slice A1 n2 c3) rfl) ?_
    have hl38 := h30.le
    refine L_pu (P_len Try.underlying90 A1 n2 c3 h30.len rfl) ?_
    refine L_pu (P_cmp i2 (a.length : Int) (decide (i2 < (a.length : Int))) rfl rfl rfl) ?_
    refine L_nil ?_
    refine W_cond (decide (i2 < (a.length : Int))) rfl (fun hq39 => ?_) (fun hq39 => ?_)
    · have H := ite_t H hq39
      refine W_skip ?_
      refine W_seq ?_
      refine W_block ?_
      refine W_seq ?_
      refine W_draw (fun x => Gr w26 x none) (by kernel_rfl) (by kernel_rfl) (Gr.drew _) ?_
      refine Q_pu (P_move (.slice A1 n2 c3) rfl) ?_
      refine Q_pu (P_move (vi i2) rfl) ?_
      obtain ⟨hb40, H⟩ := H
      obtain ⟨ad41, cs42, hA43, hS46, hR44, hcl45⟩ := h30.get default (by decide) i2 hb40
      obtain rfl := Kd.int.op hR44
      refine Q_pu (P_ia Try.underlying90 se90 A1 ad41 n2 c3 h30.len i2 rfl hA43 rfl hb40) ?_
      refine Q_pu (P_ld ag3 cQ (ad41.add (i2.toNat * 1)) (vi (nth a i2)) rfl (hcl45 0 _ rfl)) ?_
      refine Q_pu (P_move (.slice A6 n7 c8) rfl) ?_
      refine Q_pu (P_move (vi i2) rfl) ?_
      obtain ⟨hb47, H⟩ := H
      obtain ⟨ad48, cs49, hA50, hS53, hR51, hcl52⟩ := h31.get default (by decide) i2 hb47
      obtain rfl := Kd.int.op hR51
      refine Q_pu (P_ia Try.underlying90 se90 A6 ad48 n7 c8 h31.len i2 rfl hA50 rfl hb47) ?_
      refine Q_pu (P_ld ag3 cQ (ad48.add (i2.toNat * 1)) (vi (nth b i2)) rfl (hcl52 0 _ rfl)) ?_
      refine Q_pu (P_cmp (nth a i2) (nth b i2) ((nth a i2) != (nth b i2)) rfl rfl rfl) ?_
      refine Q_nil fun w54 g55 => ?_
      have hc57 := hc29.k0 g55
      refine W_cond ((nth a i2) != (nth b i2)) rfl (fun hq58 => ?_) (fun hq58 => ?_)
      · have H := ite_t H hq58
        refine W_seq ?_
        refine W_reg ?_
        refine L_pu (P_assign (vb false) rfl) ?_
        refine L_nil ?_
        refine W_ret ?_
        exact ⟨[vb false], ⟨_, rfl, rfl⟩, false, rfl, H, hc57.gr⟩
      · have H := ite_f H hq58
        refine W_skip ?_
        refine W_reg ?_
        refine L_pu (P_move (vi i2) rfl) ?_
        obtain ⟨hb60, H⟩ := H
        have hi59 : I64 (i2 + 1) := i64_succ (of_decide_eq_true hq39) hl38 hb60
        refine L_pu (P_add i2 1 rfl rfl hi59) ?_
        refine L_pu (P_assign (vi (i2 + 1)) rfl) ?_
        refine L_nil ?_
        obtain ⟨hI61, hm62⟩ := H
        exact ⟨i2 + 1, hm62, hI61, ⟨rfl, rfl, rfl, trivial⟩, hc57, (h30.st (.new _ g55)), (h31.st (.new _ g55))⟩
    · have H := ite_f H hq39
      refine W_exit (xin_hit ?_)
      refine W_seq ?_
      refine W_reg ?_
      refine L_pu (P_assign (vb true) rfl) ?_
      refine L_nil ?_
      refine W_ret ?_
      exact ⟨[vb true], ⟨_, rfl, rfl⟩, true, rfl, H, hc29.gr⟩
end Go.Proofs.Ythkeboifjlnjjaa

namespace Go.Proofs.Ythkeboifjlnjjaa
set_option linter.unusedVariables false
set_option linter.unusedSimpArgs false
set_option linter.unusedSectionVars false
theorem laws_eqIntS.law (a b : List Int) (Q : Bool → Prop) (hq : Q (decide (a = b))) : laws_eqIntS.E a b Q := by
  unfold laws_eqIntS.E
  exact eqN_shape a b Q hq
theorem laws_eqIntS.is (a b : List Int) : laws_eqIntS.E a b (fun r => r = decide (a = b)) := laws_eqIntS.law a b _ rfl
end Go.Proofs.Ythkeboifjlnjjaa

namespace Go.Proofs.Ythkeboifjlnjjaa
open Go.RowKit
set_option linter.unusedVariables false
def laws_eqPt.E (a : Pt) (b : Pt) (Q : Bool → Prop) : Prop :=
  (if a.X != b.X then Q false else (if a.Y != b.Y then Q false else Q true))
set_option maxHeartbeats 8000000 in
set_option maxRecDepth 100000 in
theorem laws_eqPt.calls {O : Ob} (w0 : World) (hO : Ok w0 O) (a : Pt) (b : Pt) (Q : Bool → Prop) (h : laws_eqPt.E a b Q) :
    Ret Try.prog 130 [.agg #[vi a.X, vi a.Y], .agg #[vi b.X, vi b.Y]] w0 (fun v w' => ∃ (r0 : Bool), v = vb r0 ∧ Q r0 ∧ Gr w0 w' none) := by
  have H : (if a.X != b.X then Q false else (if a.Y != b.Y then Q false else Q true)) := h
  clear h
  have hc0 := Ct.init hO
  refine Ret_enter Try.func130 rfl 15 rfl [.tmp 4] rfl rfl ?_
  refine W_seq ?_
  refine W_reg ?_
  refine L_box [vi a.X, vi a.Y] rfl fun w1 b2 hl4 hu5 g3 hx6 => ?_
  have h8 := Fb.mk hc0.ok hl4 hx6
  have hc9 := hc0.k0 g3
  refine L_box [vi b.X, vi b.Y] rfl fun w10 b11 hl13 hu14 g12 hx15 => ?_
  have h17 := Fb.mk hc9.ok hl13 hx15
  have hc18 := hc9.k0 g12
  refine L_pu (P_assign (vb false) rfl) ?_
  refine L_nil ?_
  refine W_seq ?_
  refine W_seq ?_
  refine W_reg ?_
  refine L_pu (P_fa fa64_0 ⟨b2, 0, none⟩ ⟨b2, 0, none⟩ rfl rfl) ?_
  have h19 := (h8.st (.new _ g12))
  refine L_pu (P_ld ag3 cL ⟨b2, 0, none⟩ (vi a.X) rfl (h19.cell rfl)) ?_
  refine L_pu (P_fa fa64_0 ⟨b11, 0, none⟩ ⟨b11, 0, none⟩ rfl rfl) ?_
  refine L_pu (P_ld ag3 cL ⟨b11, 0, none⟩ (vi b.X) rfl (h17.cell rfl)) ?_
  refine L_pu (P_cmp a.X b.X (a.X != b.X) rfl rfl rfl) ?_
  refine L_nil ?_
  refine W_cond (a.X != b.X) rfl (fun hq20 => ?_) (fun hq20 => ?_)
  · have H := ite_t H hq20
    refine W_seq ?_
    refine W_reg ?_
    refine L_pu (P_assign (vb false) rfl) ?_
    refine L_nil ?_
    refine W_ret ?_
    exact ⟨[vb false], ⟨_, rfl, rfl⟩, false, rfl, H, hc18.gr⟩
  · have H := ite_f H hq20
    refine W_skip ?_
    refine W_seq ?_
    refine W_seq ?_
    refine W_reg ?_
    refine L_pu (P_fa fa64_1 ⟨b2, 0, none⟩ ⟨b2, 1, none⟩ rfl rfl) ?_
    refine L_pu (P_ld ag3 cL ⟨b2, 1, none⟩ (vi a.Y) rfl (h19.cell rfl)) ?_
    refine L_pu (P_fa fa64_1 ⟨b11, 0, none⟩ ⟨b11, 1, none⟩ rfl rfl) ?_
    refine L_pu (P_ld ag3 cL ⟨b11, 1, none⟩ (vi b.Y) rfl (h17.cell rfl)) ?_
    refine L_pu (P_cmp a.Y b.Y (a.Y != b.Y) rfl rfl rfl) ?_
    refine L_nil ?_
    refine W_cond (a.Y != b.Y) rfl (fun hq21 => ?_) (fun hq21 => ?_)
    · have H := ite_t H hq21
      refine W_seq ?_
      refine W_reg ?_
      refine L_pu (P_assign (vb false) rfl) ?_
      refine L_nil ?_
      refine W_ret ?_
      exact ⟨[vb false], ⟨_, rfl, rfl⟩, false, rfl, H, hc18.gr⟩
    · have H := ite_f H hq21
      refine W_skip ?_
      refine W_seq ?_
      refine W_reg ?_
      refine L_pu (P_assign (vb true) rfl) ?_
      refine L_nil ?_
      refine W_ret ?_
      exact ⟨[vb true], ⟨_, rfl, rfl⟩, true, rfl, H, hc18.gr⟩
def laws_eqPt.m (a : Pt) (b : Pt) : Bool := (if a.X != b.X then false else (if a.Y != b.Y then false else true))
theorem laws_eqPt.fn (a : Pt) (b : Pt) : laws_eqPt.E a b (fun r => r = laws_eqPt.m a b) := by
  unfold laws_eqPt.E laws_eqPt.m
  (repeat' split) <;> simp_all
end Go.Proofs.Ythkeboifjlnjjaa

namespace Go.Proofs.Ythkeboifjlnjjaa
set_option linter.unusedVariables false
set_option linter.unusedSimpArgs false
set_option linter.unusedSectionVars false
theorem laws_eqPt.law (a b : Pt) (Q : Bool → Prop) (hq : Q (decide (a = b))) : laws_eqPt.E a b Q := by
  obtain ⟨x0, x1⟩ := a; obtain ⟨y0, y1⟩ := b
  rw [show (decide ((⟨x0, x1⟩ : Pt) = ⟨y0, y1⟩)) = ((decide (x0 = y0)) && (decide (x1 = y1))) by simp only [Pt.mk.injEq, Bool.decide_and]] at hq
  unfold laws_eqPt.E
  by_cases h0 : x0 = y0
  case neg => simpa [h0] using hq
  simp only [h0, decide_true, Bool.true_and, bne_self_eq_false, Bool.not_true, Bool.false_eq_true, if_false] at hq ⊢
  by_cases h1 : x1 = y1
  case neg => simpa [h1] using hq
  simp only [h1, decide_true, Bool.true_and, bne_self_eq_false, Bool.not_true, Bool.false_eq_true, if_false] at hq ⊢
  all_goals (try exact hq)
theorem laws_eqPt.is (a b : Pt) : laws_eqPt.E a b (fun r => r = decide (a = b)) := laws_eqPt.law a b _ rfl
end Go.Proofs.Ythkeboifjlnjjaa

namespace Go.Proofs.Ythkeboifjlnjjaa
open Go.RowKit
set_option linter.unusedVariables false
def laws_eqPtS.E (a : List Pt) (b : List Pt) (Q : Bool → Prop) : Prop :=
  (if (a.length : Int) != (b.length : Int) then Q false else (∃ (I32 : Int → Prop) (mu33 : Int → Nat), I32 0 ∧ ∀ (i2 : Int), I32 i2 → (if decide (i2 < (a.length : Int)) then ((0 : Int) ≤ i2 ∧ i2 < (a.length : Int)) ∧ ((0 : Int) ≤ i2 ∧ i2 < (b.length : Int)) ∧ (if !(decide ((nth a i2) = (nth b i2))) then Q false else (-9223372036854775808 ≤ i2) ∧ I32 (i2 + 1) ∧ mu33 (i2 + 1) < mu33 i2) else Q true)))
set_option maxHeartbeats 8000000 in
set_option maxRecDepth 100000 in
theorem laws_eqPtS.calls {O : Ob} (w0 : World) (hO : Ok w0 O) (a : List Pt) (A1 : Option Addr) (n2 c3 : Nat) (hp4 : Sl kPt w0 (Fr O) (.slice A1 n2 c3) a) (b : List Pt) (A6 : Option Addr) (n7 c8 : Nat) (hp9 : Sl kPt w0 (Fr O) (.slice A6 n7 c8) b) (Q : Bool → Prop) (h : laws_eqPtS.E a b Q) :
    Ret Try.prog 126 [.slice A1 n2 c3, .slice A6 n7 c8] w0 (fun v w' => ∃ (r0 : Bool), v = vb r0 ∧ Q r0 ∧ Gr w0 w' none) := by
  have H : (if (a.length : Int) != (b.length : Int) then Q false else (∃ (I32 : Int → Prop) (mu33 : Int → Nat), I32 0 ∧ ∀ (i2 : Int), I32 i2 → (if decide (i2 < (a.length : Int)) then ((0 : Int) ≤ i2 ∧ i2 < (a.length : Int)) ∧ ((0 : Int) ≤ i2 ∧ i2 < (b.length : Int)) ∧ (if !(decide ((nth a i2) = (nth b i2))) then Q false else (-9223372036854775808 ≤ i2) ∧ I32 (i2 + 1) ∧ mu33 (i2 + 1) < mu33 i2) else Q true))) := h
  clear h
  have hc0 := Ct.init hO
  refine Ret_enter Try.func126 rfl 27 rfl [.tmp 4] rfl rfl ?_
  refine W_seq ?_
  refine W_reg ?_
  refine L_pu (P_assign (vb false) rfl) ?_
  refine L_nil ?_
  refine W_seq ?_
  refine W_seq ?_
  refine W_reg ?_
  refine L_pu (P_move (.slice A1 n2 c3) rfl) ?_
  have hl11 := hp4.le
  refine L_pu (P_len Try.underlying23 A1 n2 c3 hp4.len rfl) ?_
  refine L_pu (P_move (.slice A6 n7 c8) rfl) ?_
  have hl12 := hp9.le
  refine L_pu (P_len Try.underlying23 A6 n7 c8 hp9.len rfl) ?_
  refine L_pu (P_cmp (a.length : Int) (b.length : Int) ((a.length : Int) != (b.length : Int)) rfl rfl rfl) ?_
  refine L_nil ?_
  refine W_cond ((a.length : Int) != (b.length : Int)) rfl (fun hq13 => ?_) (fun hq13 => ?_)
  · have H := ite_t H hq13
    refine W_seq ?_
    refine W_reg ?_
    refine L_pu (P_assign (vb false) rfl) ?_
    refine L_nil ?_
    refine W_ret ?_
    exact ⟨[vb false], ⟨_, rfl, rfl⟩, false, rfl, H, hc0.gr⟩
  · have H := ite_f H hq13
    refine W_skip ?_
    refine W_seq ?_
    refine W_seq ?_
    refine W_reg ?_
    refine L_pu (P_assign (vi 0) rfl) ?_
    refine L_nil ?_
    refine W_block ?_
    obtain ⟨I32, mu33, hI34, H⟩ := H
    refine W_loop (α := Int) (fun (sv__ : Int) t w26 => match sv__ with | i2 => I32 i2 ∧ Has t [(0, .slice A1 n2 c3), (1, .slice A6 n7 c8), (5, vi i2)] ∧ Ct none w0 w26 [] O ∧ Sl kPt w26 (Fr ([] ++ O)) (.slice A1 n2 c3) a ∧ Sl kPt w26 (Fr ([] ++ O)) (.slice A6 n7 c8) b) (fun (sv__ : Int) => match sv__ with | i2 => mu33 i2) 0 ⟨hI34, ⟨rfl, rfl, rfl, trivial⟩, hc0, hp4, hp9⟩ ?_
    rintro i2 _ w26 ⟨hI34, hh36, hc29, h30, h31⟩
    obtain ⟨u37, rfl⟩ := Has.ins hh36
    have H := H i2 hI34
    refine W_seq ?_
    refine W_seq ?_
    refine W_reg ?_
    refine L_pu (P_move (vi i2) rfl) ?_
    refine L_pu (P_move (.slice A1 n2 c3) rfl) ?_
    have hl38 := h30.le
    refine L_pu (P_len Try.underlying23 A1 n2 c3 h30.len rfl) ?_
    refine L_pu (P_cmp i2 (a.length : Int) (decide (i2 < (a.length : Int))) rfl rfl rfl) ?_
    refine L_nil ?_
    refine W_cond (decide (i2 < (a.length : Int))) rfl (fun hq39 => ?_) (fun hq39 => ?_)
    · have H := ite_t H hq39
      refine W_skip ?_
      refine W_seq ?_
      refine W_block ?_
      refine W_seq ?_
      refine W_draw (fun x => Gr w26 x none) (by kernel_rfl) (by kernel_rfl) (Gr.drew _) ?_
      refine Q_pu (P_move (.slice A1 n2 c3) rfl) ?_
      refine Q_pu (P_move (vi i2) rfl) ?_
      obtain ⟨hb40, H⟩ := H
      obtain ⟨ad41, cs42, hA43, hS46, hR44, hcl45⟩ := h30.get default (by decide) i2 hb40
      obtain rfl := kPt.op hR44
      refine Q_pu (P_ia Try.underlying23 se23 A1 ad41 n2 c3 h30.len i2 rfl hA43 rfl hb40) ?_
      refine Q_pu (P_lda ag64 sz64 cQ (ad41.add (i2.toNat * 2)) [vi ((nth a i2).X), vi ((nth a i2).Y)] rfl rfl hcl45) ?_
      refine Q_pu (P_move (.slice A6 n7 c8) rfl) ?_
      refine Q_pu (P_move (vi i2) rfl) ?_
      obtain ⟨hb47, H⟩ := H
      obtain ⟨ad48, cs49, hA50, hS53, hR51, hcl52⟩ := h31.get default (by decide) i2 hb47
      obtain rfl := kPt.op hR51
      refine Q_pu (P_ia Try.underlying23 se23 A6 ad48 n7 c8 h31.len i2 rfl hA50 rfl hb47) ?_
      refine Q_pu (P_lda ag64 sz64 cQ (ad48.add (i2.toNat * 2)) [vi ((nth b i2).X), vi ((nth b i2).Y)] rfl rfl hcl52) ?_
      refine Q_call go130 [.agg #[vi ((nth a i2).X), vi ((nth a i2).Y)], .agg #[vi ((nth b i2).X), vi ((nth b i2).Y)]] rfl (vb (decide ((nth a i2) = (nth b i2)))) (fun w g => (laws_eqPt.calls w (hc29.k0 g).ok (nth a i2) (nth b i2) _ (laws_eqPt.is (nth a i2) (nth b i2))).mono ?_) ?_
      · rintro _ w ⟨r, rfl, rfl, g2⟩
        exact ⟨rfl, Gr.t0 g g2⟩
      refine Q_pu (P_not (decide ((nth a i2) = (nth b i2))) rfl) ?_
      refine Q_nil fun w59 g60 => ?_
      have hc62 := hc29.k0 g60
      refine W_cond (!(decide ((nth a i2) = (nth b i2)))) rfl (fun hq63 => ?_) (fun hq63 => ?_)
      · have H := ite_t H hq63
        refine W_seq ?_
        refine W_reg ?_
        refine L_pu (P_assign (vb false) rfl) ?_
        refine L_nil ?_
        refine W_ret ?_
        exact ⟨[vb false], ⟨_, rfl, rfl⟩, false, rfl, H, hc62.gr⟩
      · have H := ite_f H hq63
        refine W_skip ?_
        refine W_reg ?_
        refine L_pu (P_move (vi i2) rfl) ?_
        obtain ⟨hb65, H⟩ := H
        have hi64 : I64 (i2 + 1) := i64_succ (of_decide_eq_true hq39) hl38 hb65
        refine L_pu (P_add i2 1 rfl rfl hi64) ?_
        refine L_pu (P_assign (vi (i2 + 1)) rfl) ?_
        refine L_nil ?_
        obtain ⟨hI66, hm67⟩ := H
        exact ⟨i2 + 1, hm67, hI66, ⟨rfl, rfl, rfl, trivial⟩, hc62, (h30.st (.new _ g60)), (h31.st (.new _ g60))⟩
    · have H := ite_f H hq39
      refine W_exit (xin_hit ?_)
      refine W_seq ?_
      refine W_reg ?_
      refine L_pu (P_assign (vb true) rfl) ?_
      refine L_nil ?_
      refine W_ret ?_
      exact ⟨[vb true], ⟨_, rfl, rfl⟩, true, rfl, H, hc29.gr⟩
end Go.Proofs.Ythkeboifjlnjjaa

namespace Go.Proofs.Ythkeboifjlnjjaa
set_option linter.unusedVariables false
set_option linter.unusedSimpArgs false
set_option linter.unusedSectionVars false
theorem laws_eqPtS.law (a b : List Pt) (Q : Bool → Prop) (hq : Q (decide (a = b))) : laws_eqPtS.E a b Q := by
  unfold laws_eqPtS.E
  exact eqS_shape (fun x y => decide (x = y)) (fun _ _ => rfl) a b Q hq
theorem laws_eqPtS.is (a b : List Pt) : laws_eqPtS.E a b (fun r => r = decide (a = b)) := laws_eqPtS.law a b _ rfl
end Go.Proofs.Ythkeboifjlnjjaa

namespace Go.Proofs.Ythkeboifjlnjjaa
open Go.RowKit
set_option linter.unusedVariables false
def laws_eqShape.E (a : Shape) (b : Shape) (Q : Bool → Prop) : Prop :=
  (if a.Kind != b.Kind then Q false else laws_eqPtS.E a.Pts b.Pts (fun r => (if !r then Q false else Q true)))
set_option maxHeartbeats 8000000 in
set_option maxRecDepth 100000 in
theorem laws_eqShape.calls {O : Ob} (w0 : World) (hO : Ok w0 O) (a : Shape) (A1 : Option Addr) (n2 c3 : Nat) (hp4 : Sl kPt w0 (Fr O) (.slice A1 n2 c3) a.Pts) (b : Shape) (A6 : Option Addr) (n7 c8 : Nat) (hp9 : Sl kPt w0 (Fr O) (.slice A6 n7 c8) b.Pts) (Q : Bool → Prop) (h : laws_eqShape.E a b Q) :
    Ret Try.prog 110 [.agg #[vi a.Kind, .slice A1 n2 c3], .agg #[vi b.Kind, .slice A6 n7 c8]] w0 (fun v w' => ∃ (r0 : Bool), v = vb r0 ∧ Q r0 ∧ Gr w0 w' none) := by
  have H : (if a.Kind != b.Kind then Q false else laws_eqPtS.E a.Pts b.Pts (fun r => (if !r then Q false else Q true))) := h
  clear h
  have hc0 := Ct.init hO
  refine Ret_enter Try.func110 rfl 16 rfl [.tmp 4] rfl rfl ?_
  refine W_seq ?_
  refine W_reg ?_
  refine L_box [vi a.Kind, .slice A1 n2 c3] rfl fun w11 b12 hl14 hu15 g13 hx16 => ?_
  have h18 := Fb.mk hc0.ok hl14 hx16
  have hc19 := hc0.k0 g13
  refine L_box [vi b.Kind, .slice A6 n7 c8] rfl fun w20 b21 hl23 hu24 g22 hx25 => ?_
  have h27 := Fb.mk hc19.ok hl23 hx25
  have hc28 := hc19.k0 g22
  refine L_pu (P_assign (vb false) rfl) ?_
  refine L_nil ?_
  refine W_seq ?_
  refine W_seq ?_
  refine W_reg ?_
  refine L_pu (P_fa fa76_0 ⟨b12, 0, none⟩ ⟨b12, 0, none⟩ rfl rfl) ?_
  have h29 := (h18.st (.new _ g22))
  refine L_pu (P_ld ag3 cL ⟨b12, 0, none⟩ (vi a.Kind) rfl (h29.cell rfl)) ?_
  refine L_pu (P_fa fa76_0 ⟨b21, 0, none⟩ ⟨b21, 0, none⟩ rfl rfl) ?_
  refine L_pu (P_ld ag3 cL ⟨b21, 0, none⟩ (vi b.Kind) rfl (h27.cell rfl)) ?_
  refine L_pu (P_cmp a.Kind b.Kind (a.Kind != b.Kind) rfl rfl rfl) ?_
  refine L_nil ?_
  refine W_cond (a.Kind != b.Kind) rfl (fun hq30 => ?_) (fun hq30 => ?_)
  · have H := ite_t H hq30
    refine W_seq ?_
    refine W_reg ?_
    refine L_pu (P_assign (vb false) rfl) ?_
    refine L_nil ?_
    refine W_ret ?_
    exact ⟨[vb false], ⟨_, rfl, rfl⟩, false, rfl, H, hc28.gr⟩
  · have H := ite_f H hq30
    refine W_skip ?_
    refine W_seq ?_
    refine W_seq ?_
    refine W_reg ?_
    refine L_pu (P_fa fa76_1 ⟨b12, 0, none⟩ ⟨b12, 1, none⟩ rfl rfl) ?_
    refine L_pu (P_ld ag23 cL ⟨b12, 1, none⟩ (.slice A1 n2 c3) rfl (h29.cell rfl)) ?_
    refine L_pu (P_fa fa76_1 ⟨b21, 0, none⟩ ⟨b21, 1, none⟩ rfl rfl) ?_
    refine L_pu (P_ld ag23 cL ⟨b21, 1, none⟩ (.slice A6 n7 c8) rfl (h27.cell rfl)) ?_
    refine L_call go126 [.slice A1 n2 c3, .slice A6 n7 c8] rfl ((laws_eqPtS.calls w20 hc28.ok a.Pts A1 n2 c3 (hp4.st hc28.st) b.Pts A6 n7 c8 (hp9.st hc28.st) _ H).mono ?_)
    rintro _ w31 ⟨r, rfl, H, g32⟩
    have hc36 := hc28.k0 g32
    refine L_pu (P_not r rfl) ?_
    refine L_nil ?_
    refine W_cond (!r) rfl (fun hq37 => ?_) (fun hq37 => ?_)
    · have H := ite_t H hq37
      refine W_seq ?_
      refine W_reg ?_
      refine L_pu (P_assign (vb false) rfl) ?_
      refine L_nil ?_
      refine W_ret ?_
      exact ⟨[vb false], ⟨_, rfl, rfl⟩, false, rfl, H, hc36.gr⟩
    · have H := ite_f H hq37
      refine W_skip ?_
      refine W_seq ?_
      refine W_reg ?_
      refine L_pu (P_assign (vb true) rfl) ?_
      refine L_nil ?_
      refine W_ret ?_
      exact ⟨[vb true], ⟨_, rfl, rfl⟩, true, rfl, H, hc36.gr⟩
end Go.Proofs.Ythkeboifjlnjjaa

namespace Go.Proofs.Ythkeboifjlnjjaa
set_option linter.unusedVariables false
set_option linter.unusedSimpArgs false
set_option linter.unusedSectionVars false
theorem laws_eqShape.law (a b : Shape) (Q : Bool → Prop) (hq : Q (decide (a = b))) : laws_eqShape.E a b Q := by
  obtain ⟨x0, x1⟩ := a; obtain ⟨y0, y1⟩ := b
  rw [show (decide ((⟨x0, x1⟩ : Shape) = ⟨y0, y1⟩)) = ((decide (x0 = y0)) && (decide (x1 = y1))) by simp only [Shape.mk.injEq, Bool.decide_and]] at hq
  unfold laws_eqShape.E
  by_cases h0 : x0 = y0
  case neg => simpa [h0] using hq
  simp only [h0, decide_true, Bool.true_and, bne_self_eq_false, Bool.not_true, Bool.false_eq_true, if_false] at hq ⊢
  try refine laws_eqPtS.law _ _ _ ?_
  by_cases h1 : x1 = y1
  case neg => simpa [h1] using hq
  simp only [h1, decide_true, Bool.true_and, bne_self_eq_false, Bool.not_true, Bool.false_eq_true, if_false] at hq ⊢
  all_goals (try exact hq)
theorem laws_eqShape.is (a b : Shape) : laws_eqShape.E a b (fun r => r = decide (a = b)) := laws_eqShape.law a b _ rfl
end Go.Proofs.Ythkeboifjlnjjaa

namespace Go.Proofs.Ythkeboifjlnjjaa
open Go.RowKit
set_option linter.unusedVariables false
def laws_eqTag.E (a : Tag) (b : Tag) (Q : Bool → Prop) : Prop :=
  (if a.Key != b.Key then Q false else (if a.Val != b.Val then Q false else Q true))
set_option maxHeartbeats 8000000 in
set_option maxRecDepth 100000 in
theorem laws_eqTag.calls {O : Ob} (w0 : World) (hO : Ok w0 O) (a : Tag) (hs1 : Lim a.Key) (hs2 : Lim a.Val) (b : Tag) (hs3 : Lim b.Key) (hs4 : Lim b.Val) (Q : Bool → Prop) (h : laws_eqTag.E a b Q) :
    Ret Try.prog 127 [.agg #[vs a.Key, vs a.Val], .agg #[vs b.Key, vs b.Val]] w0 (fun v w' => ∃ (r0 : Bool), v = vb r0 ∧ Q r0 ∧ Gr w0 w' none) := by
  have H : (if a.Key != b.Key then Q false else (if a.Val != b.Val then Q false else Q true)) := h
  clear h
  have hc0 := Ct.init hO
  refine Ret_enter Try.func127 rfl 15 rfl [.tmp 4] rfl rfl ?_
  refine W_seq ?_
  refine W_reg ?_
  refine L_box [vs a.Key, vs a.Val] rfl fun w5 b6 hl8 hu9 g7 hx10 => ?_
  have h12 := Fb.mk hc0.ok hl8 hx10
  have hc13 := hc0.k0 g7
  refine L_box [vs b.Key, vs b.Val] rfl fun w14 b15 hl17 hu18 g16 hx19 => ?_
  have h21 := Fb.mk hc13.ok hl17 hx19
  have hc22 := hc13.k0 g16
  refine L_pu (P_assign (vb false) rfl) ?_
  refine L_nil ?_
  refine W_seq ?_
  refine W_seq ?_
  refine W_reg ?_
  refine L_pu (P_fa fa149_0 ⟨b6, 0, none⟩ ⟨b6, 0, none⟩ rfl rfl) ?_
  have h23 := (h12.st (.new _ g16))
  refine L_pu (P_ld ag9 cL ⟨b6, 0, none⟩ (vs a.Key) rfl (h23.cell rfl)) ?_
  refine L_pu (P_fa fa149_0 ⟨b15, 0, none⟩ ⟨b15, 0, none⟩ rfl rfl) ?_
  refine L_pu (P_ld ag9 cL ⟨b15, 0, none⟩ (vs b.Key) rfl (h21.cell rfl)) ?_
  refine L_pu (P_scmp a.Key b.Key (a.Key != b.Key) rfl rfl rfl) ?_
  refine L_nil ?_
  refine W_cond (a.Key != b.Key) rfl (fun hq24 => ?_) (fun hq24 => ?_)
  · have H := ite_t H hq24
    refine W_seq ?_
    refine W_reg ?_
    refine L_pu (P_assign (vb false) rfl) ?_
    refine L_nil ?_
    refine W_ret ?_
    exact ⟨[vb false], ⟨_, rfl, rfl⟩, false, rfl, H, hc22.gr⟩
  · have H := ite_f H hq24
    refine W_skip ?_
    refine W_seq ?_
    refine W_seq ?_
    refine W_reg ?_
    refine L_pu (P_fa fa149_1 ⟨b6, 0, none⟩ ⟨b6, 1, none⟩ rfl rfl) ?_
    refine L_pu (P_ld ag9 cL ⟨b6, 1, none⟩ (vs a.Val) rfl (h23.cell rfl)) ?_
    refine L_pu (P_fa fa149_1 ⟨b15, 0, none⟩ ⟨b15, 1, none⟩ rfl rfl) ?_
    refine L_pu (P_ld ag9 cL ⟨b15, 1, none⟩ (vs b.Val) rfl (h21.cell rfl)) ?_
    refine L_pu (P_scmp a.Val b.Val (a.Val != b.Val) rfl rfl rfl) ?_
    refine L_nil ?_
    refine W_cond (a.Val != b.Val) rfl (fun hq25 => ?_) (fun hq25 => ?_)
    · have H := ite_t H hq25
      refine W_seq ?_
      refine W_reg ?_
      refine L_pu (P_assign (vb false) rfl) ?_
      refine L_nil ?_
      refine W_ret ?_
      exact ⟨[vb false], ⟨_, rfl, rfl⟩, false, rfl, H, hc22.gr⟩
    · have H := ite_f H hq25
      refine W_skip ?_
      refine W_seq ?_
      refine W_reg ?_
      refine L_pu (P_assign (vb true) rfl) ?_
      refine L_nil ?_
      refine W_ret ?_
      exact ⟨[vb true], ⟨_, rfl, rfl⟩, true, rfl, H, hc22.gr⟩
def laws_eqTag.m (a : Tag) (b : Tag) : Bool := (if a.Key != b.Key then false else (if a.Val != b.Val then false else true))
theorem laws_eqTag.fn (a : Tag) (b : Tag) : laws_eqTag.E a b (fun r => r = laws_eqTag.m a b) := by
  unfold laws_eqTag.E laws_eqTag.m
  (repeat' split) <;> simp_all
end Go.Proofs.Ythkeboifjlnjjaa

namespace Go.Proofs.Ythkeboifjlnjjaa
set_option linter.unusedVariables false
set_option linter.unusedSimpArgs false
set_option linter.unusedSectionVars false
theorem laws_eqTag.law (a b : Tag) (Q : Bool → Prop) (hq : Q (decide (a = b))) : laws_eqTag.E a b Q := by
  obtain ⟨x0, x1⟩ := a; obtain ⟨y0, y1⟩ := b
  rw [show (decide ((⟨x0, x1⟩ : Tag) = ⟨y0, y1⟩)) = ((decide (x0 = y0)) && (decide (x1 = y1))) by simp only [Tag.mk.injEq, Bool.decide_and]] at hq
  unfold laws_eqTag.E
  by_cases h0 : x0 = y0
  case neg => simpa [h0] using hq
  simp only [h0, decide_true, Bool.true_and, bne_self_eq_false, Bool.not_true, Bool.false_eq_true, if_false] at hq ⊢
  by_cases h1 : x1 = y1
  case neg => simpa [h1] using hq
  simp only [h1, decide_true, Bool.true_and, bne_self_eq_false, Bool.not_true, Bool.false_eq_true, if_false] at hq ⊢
  all_goals (try exact hq)
theorem laws_eqTag.is (a b : Tag) : laws_eqTag.E a b (fun r => r = decide (a = b)) := laws_eqTag.law a b _ rfl
end Go.Proofs.Ythkeboifjlnjjaa

namespace Go.Proofs.Ythkeboifjlnjjaa
open Go.RowKit
set_option linter.unusedVariables false
def laws_eqTagS.E (a : List Tag) (b : List Tag) (Q : Bool → Prop) : Prop :=
  (if (a.length : Int) != (b.length : Int) then Q false else (∃ (I32 : Int → Prop) (mu33 : Int → Nat), I32 0 ∧ ∀ (i2 : Int), I32 i2 → (if decide (i2 < (a.length : Int)) then ((0 : Int) ≤ i2 ∧ i2 < (a.length : Int)) ∧ ((0 : Int) ≤ i2 ∧ i2 < (b.length : Int)) ∧ (if !(decide ((nth a i2) = (nth b i2))) then Q false else (-9223372036854775808 ≤ i2) ∧ I32 (i2 + 1) ∧ mu33 (i2 + 1) < mu33 i2) else Q true)))
set_option maxHeartbeats 8000000 in
set_option maxRecDepth 100000 in
theorem laws_eqTagS.calls {O : Ob} (w0 : World) (hO : Ok w0 O) (a : List Tag) (A1 : Option Addr) (n2 c3 : Nat) (hp4 : Sl kTag w0 (Fr O) (.slice A1 n2 c3) a) (b : List Tag) (A6 : Option Addr) (n7 c8 : Nat) (hp9 : Sl kTag w0 (Fr O) (.slice A6 n7 c8) b) (Q : Bool → Prop) (h : laws_eqTagS.E a b Q) :
    Ret Try.prog 111 [.slice A1 n2 c3, .slice A6 n7 c8] w0 (fun v w' => ∃ (r0 : Bool), v = vb r0 ∧ Q r0 ∧ Gr w0 w' none) := by
  have H : (if (a.length : Int) != (b.length : Int) then Q false else (∃ (I32 : Int → Prop) (mu33 : Int → Nat), I32 0 ∧ ∀ (i2 : Int), I32 i2 → (if decide (i2 < (a.length : Int)) then ((0 : Int) ≤ i2 ∧ i2 < (a.length : Int)) ∧ ((0 : Int) ≤ i2 ∧ i2 < (b.length : Int)) ∧ (if !(decide ((nth a i2) = (nth b i2))) then Q false else (-9223372036854775808 ≤ i2) ∧ I32 (i2 + 1) ∧ mu33 (i2 + 1) < mu33 i2) else Q true))) := h
  clear h
  have hc0 := Ct.init hO
  refine Ret_enter Try.func111 rfl 27 rfl [.tmp 4] rfl rfl ?_
  refine W_seq ?_
  refine W_reg ?_
  refine L_pu (P_assign (vb false) rfl) ?_
  refine L_nil ?_
  refine W_seq ?_
  refine W_seq ?_
  refine W_reg ?_
  refine L_pu (P_move (.slice A1 n2 c3) rfl) ?_
  have hl11 := hp4.le
  refine L_pu (P_len Try.underlying77 A1 n2 c3 hp4.len rfl) ?_
  refine L_pu (P_move (.slice A6 n7 c8) rfl) ?_
  have hl12 := hp9.le
  refine L_pu (P_len Try.underlying77 A6 n7 c8 hp9.len rfl) ?_
  refine L_pu (P_cmp (a.length : Int) (b.length : Int) ((a.length : Int) != (b.length : Int)) rfl rfl rfl) ?_
  refine L_nil ?_
  refine W_cond ((a.length : Int) != (b.length : Int)) rfl (fun hq13 => ?_) (fun hq13 => ?_)
  · have H := ite_t H hq13
    refine W_seq ?_
    refine W_reg ?_
    refine L_pu (P_assign (vb false) rfl) ?_
    refine L_nil ?_
    refine W_ret ?_
    exact ⟨[vb false], ⟨_, rfl, rfl⟩, false, rfl, H, hc0.gr⟩
  · have H := ite_f H hq13
    refine W_skip ?_
    refine W_seq ?_
    refine W_seq ?_
    refine W_reg ?_
    refine L_pu (P_assign (vi 0) rfl) ?_
    refine L_nil ?_
    refine W_block ?_
    obtain ⟨I32, mu33, hI34, H⟩ := H
    refine W_loop (α := Int) (fun (sv__ : Int) t w26 => match sv__ with | i2 => I32 i2 ∧ Has t [(0, .slice A1 n2 c3), (1, .slice A6 n7 c8), (5, vi i2)] ∧ Ct none w0 w26 [] O ∧ Sl kTag w26 (Fr ([] ++ O)) (.slice A1 n2 c3) a ∧ Sl kTag w26 (Fr ([] ++ O)) (.slice A6 n7 c8) b) (fun (sv__ : Int) => match sv__ with | i2 => mu33 i2) 0 ⟨hI34, ⟨rfl, rfl, rfl, trivial⟩, hc0, hp4, hp9⟩ ?_
    rintro i2 _ w26 ⟨hI34, hh36, hc29, h30, h31⟩
    obtain ⟨u37, rfl⟩ := Has.ins hh36
    have H := H i2 hI34
    refine W_seq ?_
    refine W_seq ?_
    refine W_reg ?_
    refine L_pu (P_move (vi i2) rfl) ?_
    refine L_pu (P_move (.slice A1 n2 c3) rfl) ?_
    have hl38 := h30.le
    refine L_pu (P_len Try.underlying77 A1 n2 c3 h30.len rfl) ?_
    refine L_pu (P_cmp i2 (a.length : Int) (decide (i2 < (a.length : Int))) rfl rfl rfl) ?_
    refine L_nil ?_
    refine W_cond (decide (i2 < (a.length : Int))) rfl (fun hq39 => ?_) (fun hq39 => ?_)
    · have H := ite_t H hq39
      refine W_skip ?_
      refine W_seq ?_
      refine W_block ?_
      refine W_seq ?_
      refine W_draw (fun x => Gr w26 x none) (by kernel_rfl) (by kernel_rfl) (Gr.drew _) ?_
      refine Q_pu (P_move (.slice A1 n2 c3) rfl) ?_
      refine Q_pu (P_move (vi i2) rfl) ?_
      obtain ⟨hb40, H⟩ := H
      obtain ⟨ad41, cs42, hA43, hS46, hR44, hcl45⟩ := h30.get default (by decide) i2 hb40
      obtain ⟨rfl, hs47, hs48⟩ := kTag.op hR44
      refine Q_pu (P_ia Try.underlying77 se77 A1 ad41 n2 c3 h30.len i2 rfl hA43 rfl hb40) ?_
      refine Q_pu (P_lda ag149 sz149 cQ (ad41.add (i2.toNat * 2)) [vs ((nth a i2).Key), vs ((nth a i2).Val)] rfl rfl hcl45) ?_
      refine Q_pu (P_move (.slice A6 n7 c8) rfl) ?_
      refine Q_pu (P_move (vi i2) rfl) ?_
      obtain ⟨hb49, H⟩ := H
      obtain ⟨ad50, cs51, hA52, hS55, hR53, hcl54⟩ := h31.get default (by decide) i2 hb49
      obtain ⟨rfl, hs56, hs57⟩ := kTag.op hR53
      refine Q_pu (P_ia Try.underlying77 se77 A6 ad50 n7 c8 h31.len i2 rfl hA52 rfl hb49) ?_
      refine Q_pu (P_lda ag149 sz149 cQ (ad50.add (i2.toNat * 2)) [vs ((nth b i2).Key), vs ((nth b i2).Val)] rfl rfl hcl54) ?_
      refine Q_call go127 [.agg #[vs ((nth a i2).Key), vs ((nth a i2).Val)], .agg #[vs ((nth b i2).Key), vs ((nth b i2).Val)]] rfl (vb (decide ((nth a i2) = (nth b i2)))) (fun w g => (laws_eqTag.calls w (hc29.k0 g).ok (nth a i2) hs47 hs48 (nth b i2) hs56 hs57 _ (laws_eqTag.is (nth a i2) (nth b i2))).mono ?_) ?_
      · rintro _ w ⟨r, rfl, rfl, g2⟩
        exact ⟨rfl, Gr.t0 g g2⟩
      refine Q_pu (P_not (decide ((nth a i2) = (nth b i2))) rfl) ?_
      refine Q_nil fun w63 g64 => ?_
      have hc66 := hc29.k0 g64
      refine W_cond (!(decide ((nth a i2) = (nth b i2)))) rfl (fun hq67 => ?_) (fun hq67 => ?_)
      · have H := ite_t H hq67
        refine W_seq ?_
        refine W_reg ?_
        refine L_pu (P_assign (vb false) rfl) ?_
        refine L_nil ?_
        refine W_ret ?_
        exact ⟨[vb false], ⟨_, rfl, rfl⟩, false, rfl, H, hc66.gr⟩
      · have H := ite_f H hq67
        refine W_skip ?_
        refine W_reg ?_
        refine L_pu (P_move (vi i2) rfl) ?_
        obtain ⟨hb69, H⟩ := H
        have hi68 : I64 (i2 + 1) := i64_succ (of_decide_eq_true hq39) hl38 hb69
        refine L_pu (P_add i2 1 rfl rfl hi68) ?_
        refine L_pu (P_assign (vi (i2 + 1)) rfl) ?_
        refine L_nil ?_
        obtain ⟨hI70, hm71⟩ := H
        exact ⟨i2 + 1, hm71, hI70, ⟨rfl, rfl, rfl, trivial⟩, hc66, (h30.st (.new _ g64)), (h31.st (.new _ g64))⟩
    · have H := ite_f H hq39
      refine W_exit (xin_hit ?_)
      refine W_seq ?_
      refine W_reg ?_
      refine L_pu (P_assign (vb true) rfl) ?_
      refine L_nil ?_
      refine W_ret ?_
      exact ⟨[vb true], ⟨_, rfl, rfl⟩, true, rfl, H, hc29.gr⟩
end Go.Proofs.Ythkeboifjlnjjaa

namespace Go.Proofs.Ythkeboifjlnjjaa
set_option linter.unusedVariables false
set_option linter.unusedSimpArgs false
set_option linter.unusedSectionVars false
theorem laws_eqTagS.law (a b : List Tag) (Q : Bool → Prop) (hq : Q (decide (a = b))) : laws_eqTagS.E a b Q := by
  unfold laws_eqTagS.E
  exact eqS_shape (fun x y => decide (x = y)) (fun _ _ => rfl) a b Q hq
theorem laws_eqTagS.is (a b : List Tag) : laws_eqTagS.E a b (fun r => r = decide (a = b)) := laws_eqTagS.law a b _ rfl
end Go.Proofs.Ythkeboifjlnjjaa

namespace Go.Proofs.Ythkeboifjlnjjaa
open Go.RowKit
set_option linter.unusedVariables false
def laws_eqFeat.E (a : Feat) (b : Feat) (Q : Bool → Prop) : Prop :=
  (if a.Id != b.Id then Q false else laws_eqShape.E a.Shape b.Shape (fun r => (if !r then Q false else laws_eqTagS.E a.Tags b.Tags (fun r2 => (if !r2 then Q false else Q true)))))
set_option maxHeartbeats 8000000 in
set_option maxRecDepth 100000 in
theorem laws_eqFeat.calls {O : Ob} (w0 : World) (hO : Ok w0 O) (a : Feat) (A2 : Option Addr) (n3 c4 : Nat) (A7 : Option Addr) (n8 c9 : Nat) (hs1 : Lim a.Id) (hp5 : Sl kPt w0 (Fr O) (.slice A2 n3 c4) a.Shape.Pts) (hp10 : Sl kTag w0 (Fr O) (.slice A7 n8 c9) a.Tags) (b : Feat) (A13 : Option Addr) (n14 c15 : Nat) (A18 : Option Addr) (n19 c20 : Nat) (hs12 : Lim b.Id) (hp16 : Sl kPt w0 (Fr O) (.slice A13 n14 c15) b.Shape.Pts) (hp21 : Sl kTag w0 (Fr O) (.slice A18 n19 c20) b.Tags) (Q : Bool → Prop) (h : laws_eqFeat.E a b Q) :
    Ret Try.prog 81 [.agg #[vs a.Id, vi a.Shape.Kind, .slice A2 n3 c4, .slice A7 n8 c9], .agg #[vs b.Id, vi b.Shape.Kind, .slice A13 n14 c15, .slice A18 n19 c20]] w0 (fun v w' => ∃ (r0 : Bool), v = vb r0 ∧ Q r0 ∧ Gr w0 w' none) := by
  have H : (if a.Id != b.Id then Q false else laws_eqShape.E a.Shape b.Shape (fun r => (if !r then Q false else laws_eqTagS.E a.Tags b.Tags (fun r2 => (if !r2 then Q false else Q true))))) := h
  clear h
  have hc0 := Ct.init hO
  refine Ret_enter Try.func81 rfl 22 rfl [.tmp 4] rfl rfl ?_
  refine W_seq ?_
  refine W_reg ?_
  refine L_box [vs a.Id, vi a.Shape.Kind, .slice A2 n3 c4, .slice A7 n8 c9] rfl fun w23 b24 hl26 hu27 g25 hx28 => ?_
  have h30 := Fb.mk hc0.ok hl26 hx28
  have hc31 := hc0.k0 g25
  refine L_box [vs b.Id, vi b.Shape.Kind, .slice A13 n14 c15, .slice A18 n19 c20] rfl fun w32 b33 hl35 hu36 g34 hx37 => ?_
  have h39 := Fb.mk hc31.ok hl35 hx37
  have hc40 := hc31.k0 g34
  refine L_pu (P_assign (vb false) rfl) ?_
  refine L_nil ?_
  refine W_seq ?_
  refine W_seq ?_
  refine W_reg ?_
  refine L_pu (P_fa fa79_0 ⟨b24, 0, none⟩ ⟨b24, 0, none⟩ rfl rfl) ?_
  have h41 := (h30.st (.new _ g34))
  refine L_pu (P_ld ag9 cL ⟨b24, 0, none⟩ (vs a.Id) rfl (h41.cell rfl)) ?_
  refine L_pu (P_fa fa79_0 ⟨b33, 0, none⟩ ⟨b33, 0, none⟩ rfl rfl) ?_
  refine L_pu (P_ld ag9 cL ⟨b33, 0, none⟩ (vs b.Id) rfl (h39.cell rfl)) ?_
  refine L_pu (P_scmp a.Id b.Id (a.Id != b.Id) rfl rfl rfl) ?_
  refine L_nil ?_
  refine W_cond (a.Id != b.Id) rfl (fun hq42 => ?_) (fun hq42 => ?_)
  · have H := ite_t H hq42
    refine W_seq ?_
    refine W_reg ?_
    refine L_pu (P_assign (vb false) rfl) ?_
    refine L_nil ?_
    refine W_ret ?_
    exact ⟨[vb false], ⟨_, rfl, rfl⟩, false, rfl, H, hc40.gr⟩
  · have H := ite_f H hq42
    refine W_skip ?_
    refine W_seq ?_
    refine W_seq ?_
    refine W_reg ?_
    refine L_pu (P_fa fa79_1 ⟨b24, 0, none⟩ ⟨b24, 1, none⟩ rfl rfl) ?_
    refine L_pu (P_lda ag76 sz76 cL ⟨b24, 1, none⟩ [vi a.Shape.Kind, .slice A2 n3 c4] rfl rfl (h41.cells (off := 1) rfl)) ?_
    refine L_pu (P_fa fa79_1 ⟨b33, 0, none⟩ ⟨b33, 1, none⟩ rfl rfl) ?_
    refine L_pu (P_lda ag76 sz76 cL ⟨b33, 1, none⟩ [vi b.Shape.Kind, .slice A13 n14 c15] rfl rfl (h39.cells (off := 1) rfl)) ?_
    refine L_call go110 [.agg #[vi a.Shape.Kind, .slice A2 n3 c4], .agg #[vi b.Shape.Kind, .slice A13 n14 c15]] rfl ((laws_eqShape.calls w32 hc40.ok a.Shape A2 n3 c4 (hp5.st hc40.st) b.Shape A13 n14 c15 (hp16.st hc40.st) _ H).mono ?_)
    rintro _ w43 ⟨r, rfl, H, g44⟩
    have hc48 := hc40.k0 g44
    refine L_pu (P_not r rfl) ?_
    refine L_nil ?_
    refine W_cond (!r) rfl (fun hq49 => ?_) (fun hq49 => ?_)
    · have H := ite_t H hq49
      refine W_seq ?_
      refine W_reg ?_
      refine L_pu (P_assign (vb false) rfl) ?_
      refine L_nil ?_
      refine W_ret ?_
      exact ⟨[vb false], ⟨_, rfl, rfl⟩, false, rfl, H, hc48.gr⟩
    · have H := ite_f H hq49
      refine W_skip ?_
      refine W_seq ?_
      refine W_seq ?_
      refine W_reg ?_
      refine L_pu (P_fa fa79_2 ⟨b24, 0, none⟩ ⟨b24, 3, none⟩ rfl rfl) ?_
      have h50 := (h41.st (.new _ g44))
      refine L_pu (P_ld ag77 cL ⟨b24, 3, none⟩ (.slice A7 n8 c9) rfl (h50.cell rfl)) ?_
      refine L_pu (P_fa fa79_2 ⟨b33, 0, none⟩ ⟨b33, 3, none⟩ rfl rfl) ?_
      have h51 := (h39.st (.new _ g44))
      refine L_pu (P_ld ag77 cL ⟨b33, 3, none⟩ (.slice A18 n19 c20) rfl (h51.cell rfl)) ?_
      refine L_call go111 [.slice A7 n8 c9, .slice A18 n19 c20] rfl ((laws_eqTagS.calls w43 hc48.ok a.Tags A7 n8 c9 (hp10.st hc48.st) b.Tags A18 n19 c20 (hp21.st hc48.st) _ H).mono ?_)
      rintro _ w52 ⟨r2, rfl, H, g53⟩
      have hc57 := hc48.k0 g53
      refine L_pu (P_not r2 rfl) ?_
      refine L_nil ?_
      refine W_cond (!r2) rfl (fun hq58 => ?_) (fun hq58 => ?_)
      · have H := ite_t H hq58
        refine W_seq ?_
        refine W_reg ?_
        refine L_pu (P_assign (vb false) rfl) ?_
        refine L_nil ?_
        refine W_ret ?_
        exact ⟨[vb false], ⟨_, rfl, rfl⟩, false, rfl, H, hc57.gr⟩
      · have H := ite_f H hq58
        refine W_skip ?_
        refine W_seq ?_
        refine W_reg ?_
        refine L_pu (P_assign (vb true) rfl) ?_
        refine L_nil ?_
        refine W_ret ?_
        exact ⟨[vb true], ⟨_, rfl, rfl⟩, true, rfl, H, hc57.gr⟩
end Go.Proofs.Ythkeboifjlnjjaa

namespace Go.Proofs.Ythkeboifjlnjjaa
set_option linter.unusedVariables false
set_option linter.unusedSimpArgs false
set_option linter.unusedSectionVars false
theorem laws_eqFeat.law (a b : Feat) (Q : Bool → Prop) (hq : Q (decide (a = b))) : laws_eqFeat.E a b Q := by
  obtain ⟨x0, x1, x2⟩ := a; obtain ⟨y0, y1, y2⟩ := b
  rw [show (decide ((⟨x0, x1, x2⟩ : Feat) = ⟨y0, y1, y2⟩)) = ((decide (x0 = y0)) && ((decide (x1 = y1)) && (decide (x2 = y2)))) by simp only [Feat.mk.injEq, Bool.decide_and]] at hq
  unfold laws_eqFeat.E
  by_cases h0 : x0 = y0
  case neg => simpa [h0] using hq
  simp only [h0, decide_true, Bool.true_and, bne_self_eq_false, Bool.not_true, Bool.false_eq_true, if_false] at hq ⊢
  try refine laws_eqShape.law _ _ _ ?_
  by_cases h1 : x1 = y1
  case neg => simpa [h1] using hq
  simp only [h1, decide_true, Bool.true_and, bne_self_eq_false, Bool.not_true, Bool.false_eq_true, if_false] at hq ⊢
  try refine laws_eqTagS.law _ _ _ ?_
  by_cases h2 : x2 = y2
  case neg => simpa [h2] using hq
  simp only [h2, decide_true, Bool.true_and, bne_self_eq_false, Bool.not_true, Bool.false_eq_true, if_false] at hq ⊢
  all_goals (try exact hq)
theorem laws_eqFeat.is (a b : Feat) : laws_eqFeat.E a b (fun r => r = decide (a = b)) := laws_eqFeat.law a b _ rfl
end Go.Proofs.Ythkeboifjlnjjaa

namespace Go.Proofs.Ythkeboifjlnjjaa
open Go.RowKit
set_option linter.unusedVariables false
def laws_eqFeatS.E (a : List Feat) (b : List Feat) (Q : Bool → Prop) : Prop :=
  (if (a.length : Int) != (b.length : Int) then Q false else (∃ (I32 : Int → Prop) (mu33 : Int → Nat), I32 0 ∧ ∀ (i2 : Int), I32 i2 → (if decide (i2 < (a.length : Int)) then ((0 : Int) ≤ i2 ∧ i2 < (a.length : Int)) ∧ ((0 : Int) ≤ i2 ∧ i2 < (b.length : Int)) ∧ (if !(decide ((nth a i2) = (nth b i2))) then Q false else (-9223372036854775808 ≤ i2) ∧ I32 (i2 + 1) ∧ mu33 (i2 + 1) < mu33 i2) else Q true)))
set_option maxHeartbeats 8000000 in
set_option maxRecDepth 100000 in
theorem laws_eqFeatS.calls {O : Ob} (w0 : World) (hO : Ok w0 O) (a : List Feat) (A1 : Option Addr) (n2 c3 : Nat) (hp4 : Sl kFeat w0 (Fr O) (.slice A1 n2 c3) a) (b : List Feat) (A6 : Option Addr) (n7 c8 : Nat) (hp9 : Sl kFeat w0 (Fr O) (.slice A6 n7 c8) b) (Q : Bool → Prop) (h : laws_eqFeatS.E a b Q) :
    Ret Try.prog 118 [.slice A1 n2 c3, .slice A6 n7 c8] w0 (fun v w' => ∃ (r0 : Bool), v = vb r0 ∧ Q r0 ∧ Gr w0 w' none) := by
  have H : (if (a.length : Int) != (b.length : Int) then Q false else (∃ (I32 : Int → Prop) (mu33 : Int → Nat), I32 0 ∧ ∀ (i2 : Int), I32 i2 → (if decide (i2 < (a.length : Int)) then ((0 : Int) ≤ i2 ∧ i2 < (a.length : Int)) ∧ ((0 : Int) ≤ i2 ∧ i2 < (b.length : Int)) ∧ (if !(decide ((nth a i2) = (nth b i2))) then Q false else (-9223372036854775808 ≤ i2) ∧ I32 (i2 + 1) ∧ mu33 (i2 + 1) < mu33 i2) else Q true))) := h
  clear h
  have hc0 := Ct.init hO
  refine Ret_enter Try.func118 rfl 27 rfl [.tmp 4] rfl rfl ?_
  refine W_seq ?_
  refine W_reg ?_
  refine L_pu (P_assign (vb false) rfl) ?_
  refine L_nil ?_
  refine W_seq ?_
  refine W_seq ?_
  refine W_reg ?_
  refine L_pu (P_move (.slice A1 n2 c3) rfl) ?_
  have hl11 := hp4.le
  refine L_pu (P_len Try.underlying91 A1 n2 c3 hp4.len rfl) ?_
  refine L_pu (P_move (.slice A6 n7 c8) rfl) ?_
  have hl12 := hp9.le
  refine L_pu (P_len Try.underlying91 A6 n7 c8 hp9.len rfl) ?_
  refine L_pu (P_cmp (a.length : Int) (b.length : Int) ((a.length : Int) != (b.length : Int)) rfl rfl rfl) ?_
  refine L_nil ?_
  refine W_cond ((a.length : Int) != (b.length : Int)) rfl (fun hq13 => ?_) (fun hq13 => ?_)
  · have H := ite_t H hq13
    refine W_seq ?_
    refine W_reg ?_
    refine L_pu (P_assign (vb false) rfl) ?_
    refine L_nil ?_
    refine W_ret ?_
    exact ⟨[vb false], ⟨_, rfl, rfl⟩, false, rfl, H, hc0.gr⟩
  · have H := ite_f H hq13
    refine W_skip ?_
    refine W_seq ?_
    refine W_seq ?_
    refine W_reg ?_
    refine L_pu (P_assign (vi 0) rfl) ?_
    refine L_nil ?_
    refine W_block ?_
    obtain ⟨I32, mu33, hI34, H⟩ := H
    refine W_loop (α := Int) (fun (sv__ : Int) t w26 => match sv__ with | i2 => I32 i2 ∧ Has t [(0, .slice A1 n2 c3), (1, .slice A6 n7 c8), (5, vi i2)] ∧ Ct none w0 w26 [] O ∧ Sl kFeat w26 (Fr ([] ++ O)) (.slice A1 n2 c3) a ∧ Sl kFeat w26 (Fr ([] ++ O)) (.slice A6 n7 c8) b) (fun (sv__ : Int) => match sv__ with | i2 => mu33 i2) 0 ⟨hI34, ⟨rfl, rfl, rfl, trivial⟩, hc0, hp4, hp9⟩ ?_
    rintro i2 _ w26 ⟨hI34, hh36, hc29, h30, h31⟩
    obtain ⟨u37, rfl⟩ := Has.ins hh36
    have H := H i2 hI34
    refine W_seq ?_
    refine W_seq ?_
    refine W_reg ?_
    refine L_pu (P_move (vi i2) rfl) ?_
    refine L_pu (P_move (.slice A1 n2 c3) rfl) ?_
    have hl38 := h30.le
    refine L_pu (P_len Try.underlying91 A1 n2 c3 h30.len rfl) ?_
    refine L_pu (P_cmp i2 (a.length : Int) (decide (i2 < (a.length : Int))) rfl rfl rfl) ?_
    refine L_nil ?_
    refine W_cond (decide (i2 < (a.length : Int))) rfl (fun hq39 => ?_) (fun hq39 => ?_)
    · have H := ite_t H hq39
      refine W_skip ?_
      refine W_seq ?_
      refine W_block ?_
      refine W_seq ?_
      refine W_draw (fun x => Gr w26 x none) (by kernel_rfl) (by kernel_rfl) (Gr.drew _) ?_
      refine Q_pu (P_move (.slice A1 n2 c3) rfl) ?_
      refine Q_pu (P_move (vi i2) rfl) ?_
      obtain ⟨hb40, H⟩ := H
      obtain ⟨ad41, cs42, hA43, hS46, hR44, hcl45⟩ := h30.get default (by decide) i2 hb40
      obtain ⟨A48, n49, c50, A53, n54, c55, rfl, hs47, h51, h56⟩ := kFeat.op hR44
      refine Q_pu (P_ia Try.underlying91 se91 A1 ad41 n2 c3 h30.len i2 rfl hA43 rfl hb40) ?_
      refine Q_pu (P_lda ag79 sz79 cQ (ad41.add (i2.toNat * 4)) [vs ((nth a i2).Id), vi ((nth a i2).Shape.Kind), .slice A48 n49 c50, .slice A53 n54 c55] rfl rfl hcl45) ?_
      refine Q_pu (P_move (.slice A6 n7 c8) rfl) ?_
      refine Q_pu (P_move (vi i2) rfl) ?_
      obtain ⟨hb58, H⟩ := H
      obtain ⟨ad59, cs60, hA61, hS64, hR62, hcl63⟩ := h31.get default (by decide) i2 hb58
      obtain ⟨A66, n67, c68, A71, n72, c73, rfl, hs65, h69, h74⟩ := kFeat.op hR62
      refine Q_pu (P_ia Try.underlying91 se91 A6 ad59 n7 c8 h31.len i2 rfl hA61 rfl hb58) ?_
      refine Q_pu (P_lda ag79 sz79 cQ (ad59.add (i2.toNat * 4)) [vs ((nth b i2).Id), vi ((nth b i2).Shape.Kind), .slice A66 n67 c68, .slice A71 n72 c73] rfl rfl hcl63) ?_
      refine Q_call go81 [.agg #[vs ((nth a i2).Id), vi ((nth a i2).Shape.Kind), .slice A48 n49 c50, .slice A53 n54 c55], .agg #[vs ((nth b i2).Id), vi ((nth b i2).Shape.Kind), .slice A66 n67 c68, .slice A71 n72 c73]] rfl (vb (decide ((nth a i2) = (nth b i2)))) (fun w g => (laws_eqFeat.calls w (hc29.k0 g).ok (nth a i2) A48 n49 c50 A53 n54 c55 hs47 (h51.st (.new _ g)) (h56.st (.new _ g)) (nth b i2) A66 n67 c68 A71 n72 c73 hs65 (h69.st (.new _ g)) (h74.st (.new _ g)) _ (laws_eqFeat.is (nth a i2) (nth b i2))).mono ?_) ?_
      · rintro _ w ⟨r, rfl, rfl, g2⟩
        exact ⟨rfl, Gr.t0 g g2⟩
      refine Q_pu (P_not (decide ((nth a i2) = (nth b i2))) rfl) ?_
      refine Q_nil fun w81 g82 => ?_
      have hc84 := hc29.k0 g82
      refine W_cond (!(decide ((nth a i2) = (nth b i2)))) rfl (fun hq85 => ?_) (fun hq85 => ?_)
      · have H := ite_t H hq85
        refine W_seq ?_
        refine W_reg ?_
        refine L_pu (P_assign (vb false) rfl) ?_
        refine L_nil ?_
        refine W_ret ?_
        exact ⟨[vb false], ⟨_, rfl, rfl⟩, false, rfl, H, hc84.gr⟩
      · have H := ite_f H hq85
        refine W_skip ?_
        refine W_reg ?_
        refine L_pu (P_move (vi i2) rfl) ?_
        obtain ⟨hb87, H⟩ := H
        have hi86 : I64 (i2 + 1) := i64_succ (of_decide_eq_true hq39) hl38 hb87
        refine L_pu (P_add i2 1 rfl rfl hi86) ?_
        refine L_pu (P_assign (vi (i2 + 1)) rfl) ?_
        refine L_nil ?_
        obtain ⟨hI88, hm89⟩ := H
        exact ⟨i2 + 1, hm89, hI88, ⟨rfl, rfl, rfl, trivial⟩, hc84, (h30.st (.new _ g82)), (h31.st (.new _ g82))⟩
    · have H := ite_f H hq39
      refine W_exit (xin_hit ?_)
      refine W_seq ?_
      refine W_reg ?_
      refine L_pu (P_assign (vb true) rfl) ?_
      refine L_nil ?_
      refine W_ret ?_
      exact ⟨[vb true], ⟨_, rfl, rfl⟩, true, rfl, H, hc29.gr⟩
end Go.Proofs.Ythkeboifjlnjjaa

namespace Go.Proofs.Ythkeboifjlnjjaa
set_option linter.unusedVariables false
set_option linter.unusedSimpArgs false
set_option linter.unusedSectionVars false
theorem laws_eqFeatS.law (a b : List Feat) (Q : Bool → Prop) (hq : Q (decide (a = b))) : laws_eqFeatS.E a b Q := by
  unfold laws_eqFeatS.E
  exact eqS_shape (fun x y => decide (x = y)) (fun _ _ => rfl) a b Q hq
theorem laws_eqFeatS.is (a b : List Feat) : laws_eqFeatS.E a b (fun r => r = decide (a = b)) := laws_eqFeatS.law a b _ rfl
end Go.Proofs.Ythkeboifjlnjjaa

namespace Go.Proofs.Ythkeboifjlnjjaa
open Go.RowKit
set_option linter.unusedVariables false
def laws_eqCommit.E (a : Commit) (b : Commit) (Q : Bool → Prop) : Prop :=
  laws_eqIntS.E a.Up b.Up (fun r => (if !r then Q false else laws_eqFeatS.E a.Sheet b.Sheet (fun r2 => (if !r2 then Q false else (if a.Note != b.Note then Q false else Q true)))))
set_option maxHeartbeats 8000000 in
set_option maxRecDepth 100000 in
theorem laws_eqCommit.calls {O : Ob} (w0 : World) (hO : Ok w0 O) (a : Commit) (A1 : Option Addr) (n2 c3 : Nat) (A6 : Option Addr) (n7 c8 : Nat) (hp4 : Sl (Kd.int .i64) w0 (Fr O) (.slice A1 n2 c3) a.Up) (hp9 : Sl kFeat w0 (Fr O) (.slice A6 n7 c8) a.Sheet) (hs11 : Lim a.Note) (b : Commit) (A12 : Option Addr) (n13 c14 : Nat) (A17 : Option Addr) (n18 c19 : Nat) (hp15 : Sl (Kd.int .i64) w0 (Fr O) (.slice A12 n13 c14) b.Up) (hp20 : Sl kFeat w0 (Fr O) (.slice A17 n18 c19) b.Sheet) (hs22 : Lim b.Note) (Q : Bool → Prop) (h : laws_eqCommit.E a b Q) :
    Ret Try.prog 90 [.agg #[.slice A1 n2 c3, .slice A6 n7 c8, vs a.Note], .agg #[.slice A12 n13 c14, .slice A17 n18 c19, vs b.Note]] w0 (fun v w' => ∃ (r0 : Bool), v = vb r0 ∧ Q r0 ∧ Gr w0 w' none) := by
  have H : laws_eqIntS.E a.Up b.Up (fun r => (if !r then Q false else laws_eqFeatS.E a.Sheet b.Sheet (fun r2 => (if !r2 then Q false else (if a.Note != b.Note then Q false else Q true))))) := h
  clear h
  have hc0 := Ct.init hO
  refine Ret_enter Try.func90 rfl 22 rfl [.tmp 4] rfl rfl ?_
  refine W_seq ?_
  refine W_reg ?_
  refine L_box [.slice A1 n2 c3, .slice A6 n7 c8, vs a.Note] rfl fun w23 b24 hl26 hu27 g25 hx28 => ?_
  have h30 := Fb.mk hc0.ok hl26 hx28
  have hc31 := hc0.k0 g25
  refine L_box [.slice A12 n13 c14, .slice A17 n18 c19, vs b.Note] rfl fun w32 b33 hl35 hu36 g34 hx37 => ?_
  have h39 := Fb.mk hc31.ok hl35 hx37
  have hc40 := hc31.k0 g34
  refine L_pu (P_assign (vb false) rfl) ?_
  refine L_nil ?_
  refine W_seq ?_
  refine W_seq ?_
  refine W_reg ?_
  refine L_pu (P_fa fa93_0 ⟨b24, 0, none⟩ ⟨b24, 0, none⟩ rfl rfl) ?_
  have h41 := (h30.st (.new _ g34))
  refine L_pu (P_ld ag90 cL ⟨b24, 0, none⟩ (.slice A1 n2 c3) rfl (h41.cell rfl)) ?_
  refine L_pu (P_fa fa93_0 ⟨b33, 0, none⟩ ⟨b33, 0, none⟩ rfl rfl) ?_
  refine L_pu (P_ld ag90 cL ⟨b33, 0, none⟩ (.slice A12 n13 c14) rfl (h39.cell rfl)) ?_
  refine L_call go117 [.slice A1 n2 c3, .slice A12 n13 c14] rfl ((laws_eqIntS.calls w32 hc40.ok a.Up A1 n2 c3 (hp4.st hc40.st) b.Up A12 n13 c14 (hp15.st hc40.st) _ H).mono ?_)
  rintro _ w42 ⟨r, rfl, H, g43⟩
  have hc47 := hc40.k0 g43
  refine L_pu (P_not r rfl) ?_
  refine L_nil ?_
  refine W_cond (!r) rfl (fun hq48 => ?_) (fun hq48 => ?_)
  · have H := ite_t H hq48
    refine W_seq ?_
    refine W_reg ?_
    refine L_pu (P_assign (vb false) rfl) ?_
    refine L_nil ?_
    refine W_ret ?_
    exact ⟨[vb false], ⟨_, rfl, rfl⟩, false, rfl, H, hc47.gr⟩
  · have H := ite_f H hq48
    refine W_skip ?_
    refine W_seq ?_
    refine W_seq ?_
    refine W_reg ?_
    refine L_pu (P_fa fa93_1 ⟨b24, 0, none⟩ ⟨b24, 1, none⟩ rfl rfl) ?_
    have h49 := (h41.st (.new _ g43))
    refine L_pu (P_ld ag91 cL ⟨b24, 1, none⟩ (.slice A6 n7 c8) rfl (h49.cell rfl)) ?_
    refine L_pu (P_fa fa93_1 ⟨b33, 0, none⟩ ⟨b33, 1, none⟩ rfl rfl) ?_
    have h50 := (h39.st (.new _ g43))
    refine L_pu (P_ld ag91 cL ⟨b33, 1, none⟩ (.slice A17 n18 c19) rfl (h50.cell rfl)) ?_
    refine L_call go118 [.slice A6 n7 c8, .slice A17 n18 c19] rfl ((laws_eqFeatS.calls w42 hc47.ok a.Sheet A6 n7 c8 (hp9.st hc47.st) b.Sheet A17 n18 c19 (hp20.st hc47.st) _ H).mono ?_)
    rintro _ w51 ⟨r2, rfl, H, g52⟩
    have hc56 := hc47.k0 g52
    refine L_pu (P_not r2 rfl) ?_
    refine L_nil ?_
    refine W_cond (!r2) rfl (fun hq57 => ?_) (fun hq57 => ?_)
    · have H := ite_t H hq57
      refine W_seq ?_
      refine W_reg ?_
      refine L_pu (P_assign (vb false) rfl) ?_
      refine L_nil ?_
      refine W_ret ?_
      exact ⟨[vb false], ⟨_, rfl, rfl⟩, false, rfl, H, hc56.gr⟩
    · have H := ite_f H hq57
      refine W_skip ?_
      refine W_seq ?_
      refine W_seq ?_
      refine W_reg ?_
      refine L_pu (P_fa fa93_2 ⟨b24, 0, none⟩ ⟨b24, 2, none⟩ rfl rfl) ?_
      have h58 := (h49.st (.new _ g52))
      refine L_pu (P_ld ag9 cL ⟨b24, 2, none⟩ (vs a.Note) rfl (h58.cell rfl)) ?_
      refine L_pu (P_fa fa93_2 ⟨b33, 0, none⟩ ⟨b33, 2, none⟩ rfl rfl) ?_
      have h59 := (h50.st (.new _ g52))
      refine L_pu (P_ld ag9 cL ⟨b33, 2, none⟩ (vs b.Note) rfl (h59.cell rfl)) ?_
      refine L_pu (P_scmp a.Note b.Note (a.Note != b.Note) rfl rfl rfl) ?_
      refine L_nil ?_
      refine W_cond (a.Note != b.Note) rfl (fun hq60 => ?_) (fun hq60 => ?_)
      · have H := ite_t H hq60
        refine W_seq ?_
        refine W_reg ?_
        refine L_pu (P_assign (vb false) rfl) ?_
        refine L_nil ?_
        refine W_ret ?_
        exact ⟨[vb false], ⟨_, rfl, rfl⟩, false, rfl, H, hc56.gr⟩
      · have H := ite_f H hq60
        refine W_skip ?_
        refine W_seq ?_
        refine W_reg ?_
        refine L_pu (P_assign (vb true) rfl) ?_
        refine L_nil ?_
        refine W_ret ?_
        exact ⟨[vb true], ⟨_, rfl, rfl⟩, true, rfl, H, hc56.gr⟩
end Go.Proofs.Ythkeboifjlnjjaa

namespace Go.Proofs.Ythkeboifjlnjjaa
set_option linter.unusedVariables false
set_option linter.unusedSimpArgs false
set_option linter.unusedSectionVars false
theorem laws_eqCommit.law (a b : Commit) (Q : Bool → Prop) (hq : Q (decide (a = b))) : laws_eqCommit.E a b Q := by
  obtain ⟨x0, x1, x2⟩ := a; obtain ⟨y0, y1, y2⟩ := b
  rw [show (decide ((⟨x0, x1, x2⟩ : Commit) = ⟨y0, y1, y2⟩)) = ((decide (x0 = y0)) && ((decide (x1 = y1)) && (decide (x2 = y2)))) by simp only [Commit.mk.injEq, Bool.decide_and]] at hq
  unfold laws_eqCommit.E
  try refine laws_eqIntS.law _ _ _ ?_
  by_cases h0 : x0 = y0
  case neg => simpa [h0] using hq
  simp only [h0, decide_true, Bool.true_and, bne_self_eq_false, Bool.not_true, Bool.false_eq_true, if_false] at hq ⊢
  try refine laws_eqFeatS.law _ _ _ ?_
  by_cases h1 : x1 = y1
  case neg => simpa [h1] using hq
  simp only [h1, decide_true, Bool.true_and, bne_self_eq_false, Bool.not_true, Bool.false_eq_true, if_false] at hq ⊢
  by_cases h2 : x2 = y2
  case neg => simpa [h2] using hq
  simp only [h2, decide_true, Bool.true_and, bne_self_eq_false, Bool.not_true, Bool.false_eq_true, if_false] at hq ⊢
  all_goals (try exact hq)
theorem laws_eqCommit.is (a b : Commit) : laws_eqCommit.E a b (fun r => r = decide (a = b)) := laws_eqCommit.law a b _ rfl
end Go.Proofs.Ythkeboifjlnjjaa

namespace Go.Proofs.Ythkeboifjlnjjaa
open Go.RowKit
set_option linter.unusedVariables false
def laws_eqCommitS.E (a : List Commit) (b : List Commit) (Q : Bool → Prop) : Prop :=
  (if (a.length : Int) != (b.length : Int) then Q false else (∃ (I32 : Int → Prop) (mu33 : Int → Nat), I32 0 ∧ ∀ (i2 : Int), I32 i2 → (if decide (i2 < (a.length : Int)) then ((0 : Int) ≤ i2 ∧ i2 < (a.length : Int)) ∧ ((0 : Int) ≤ i2 ∧ i2 < (b.length : Int)) ∧ (if !(decide ((nth a i2) = (nth b i2))) then Q false else (-9223372036854775808 ≤ i2) ∧ I32 (i2 + 1) ∧ mu33 (i2 + 1) < mu33 i2) else Q true)))
set_option maxHeartbeats 8000000 in
set_option maxRecDepth 100000 in
theorem laws_eqCommitS.calls {O : Ob} (w0 : World) (hO : Ok w0 O) (a : List Commit) (A1 : Option Addr) (n2 c3 : Nat) (hp4 : Sl kCommit w0 (Fr O) (.slice A1 n2 c3) a) (b : List Commit) (A6 : Option Addr) (n7 c8 : Nat) (hp9 : Sl kCommit w0 (Fr O) (.slice A6 n7 c8) b) (Q : Bool → Prop) (h : laws_eqCommitS.E a b Q) :
    Ret Try.prog 53 [.slice A1 n2 c3, .slice A6 n7 c8] w0 (fun v w' => ∃ (r0 : Bool), v = vb r0 ∧ Q r0 ∧ Gr w0 w' none) := by
  have H : (if (a.length : Int) != (b.length : Int) then Q false else (∃ (I32 : Int → Prop) (mu33 : Int → Nat), I32 0 ∧ ∀ (i2 : Int), I32 i2 → (if decide (i2 < (a.length : Int)) then ((0 : Int) ≤ i2 ∧ i2 < (a.length : Int)) ∧ ((0 : Int) ≤ i2 ∧ i2 < (b.length : Int)) ∧ (if !(decide ((nth a i2) = (nth b i2))) then Q false else (-9223372036854775808 ≤ i2) ∧ I32 (i2 + 1) ∧ mu33 (i2 + 1) < mu33 i2) else Q true))) := h
  clear h
  have hc0 := Ct.init hO
  refine Ret_enter Try.func53 rfl 27 rfl [.tmp 4] rfl rfl ?_
  refine W_seq ?_
  refine W_reg ?_
  refine L_pu (P_assign (vb false) rfl) ?_
  refine L_nil ?_
  refine W_seq ?_
  refine W_seq ?_
  refine W_reg ?_
  refine L_pu (P_move (.slice A1 n2 c3) rfl) ?_
  have hl11 := hp4.le
  refine L_pu (P_len Try.underlying43 A1 n2 c3 hp4.len rfl) ?_
  refine L_pu (P_move (.slice A6 n7 c8) rfl) ?_
  have hl12 := hp9.le
  refine L_pu (P_len Try.underlying43 A6 n7 c8 hp9.len rfl) ?_
  refine L_pu (P_cmp (a.length : Int) (b.length : Int) ((a.length : Int) != (b.length : Int)) rfl rfl rfl) ?_
  refine L_nil ?_
  refine W_cond ((a.length : Int) != (b.length : Int)) rfl (fun hq13 => ?_) (fun hq13 => ?_)
  · have H := ite_t H hq13
    refine W_seq ?_
    refine W_reg ?_
    refine L_pu (P_assign (vb false) rfl) ?_
    refine L_nil ?_
    refine W_ret ?_
    exact ⟨[vb false], ⟨_, rfl, rfl⟩, false, rfl, H, hc0.gr⟩
  · have H := ite_f H hq13
    refine W_skip ?_
    refine W_seq ?_
    refine W_seq ?_
    refine W_reg ?_
    refine L_pu (P_assign (vi 0) rfl) ?_
    refine L_nil ?_
    refine W_block ?_
    obtain ⟨I32, mu33, hI34, H⟩ := H
    refine W_loop (α := Int) (fun (sv__ : Int) t w26 => match sv__ with | i2 => I32 i2 ∧ Has t [(0, .slice A1 n2 c3), (1, .slice A6 n7 c8), (5, vi i2)] ∧ Ct none w0 w26 [] O ∧ Sl kCommit w26 (Fr ([] ++ O)) (.slice A1 n2 c3) a ∧ Sl kCommit w26 (Fr ([] ++ O)) (.slice A6 n7 c8) b) (fun (sv__ : Int) => match sv__ with | i2 => mu33 i2) 0 ⟨hI34, ⟨rfl, rfl, rfl, trivial⟩, hc0, hp4, hp9⟩ ?_
    rintro i2 _ w26 ⟨hI34, hh36, hc29, h30, h31⟩
    obtain ⟨u37, rfl⟩ := Has.ins hh36
    have H := H i2 hI34
    refine W_seq ?_
    refine W_seq ?_
    refine W_reg ?_
    refine L_pu (P_move (vi i2) rfl) ?_
    refine L_pu (P_move (.slice A1 n2 c3) rfl) ?_
    have hl38 := h30.le
    refine L_pu (P_len Try.underlying43 A1 n2 c3 h30.len rfl) ?_
    refine L_pu (P_cmp i2 (a.length : Int) (decide (i2 < (a.length : Int))) rfl rfl rfl) ?_
    refine L_nil ?_
    refine W_cond (decide (i2 < (a.length : Int))) rfl (fun hq39 => ?_) (fun hq39 => ?_)
    · have H := ite_t H hq39
      refine W_skip ?_
      refine W_seq ?_
      refine W_block ?_
      refine W_seq ?_
      refine W_draw (fun x => Gr w26 x none) (by kernel_rfl) (by kernel_rfl) (Gr.drew _) ?_
      refine Q_pu (P_move (.slice A1 n2 c3) rfl) ?_
      refine Q_pu (P_move (vi i2) rfl) ?_
      obtain ⟨hb40, H⟩ := H
      obtain ⟨ad41, cs42, hA43, hS46, hR44, hcl45⟩ := h30.get default (by decide) i2 hb40
      obtain ⟨A47, n48, c49, A52, n53, c54, rfl, h50, h55, hs57⟩ := kCommit.op hR44
      refine Q_pu (P_ia Try.underlying43 se43 A1 ad41 n2 c3 h30.len i2 rfl hA43 rfl hb40) ?_
      refine Q_pu (P_lda ag93 sz93 cQ (ad41.add (i2.toNat * 3)) [.slice A47 n48 c49, .slice A52 n53 c54, vs ((nth a i2).Note)] rfl rfl hcl45) ?_
      refine Q_pu (P_move (.slice A6 n7 c8) rfl) ?_
      refine Q_pu (P_move (vi i2) rfl) ?_
      obtain ⟨hb58, H⟩ := H
      obtain ⟨ad59, cs60, hA61, hS64, hR62, hcl63⟩ := h31.get default (by decide) i2 hb58
      obtain ⟨A65, n66, c67, A70, n71, c72, rfl, h68, h73, hs75⟩ := kCommit.op hR62
      refine Q_pu (P_ia Try.underlying43 se43 A6 ad59 n7 c8 h31.len i2 rfl hA61 rfl hb58) ?_
      refine Q_pu (P_lda ag93 sz93 cQ (ad59.add (i2.toNat * 3)) [.slice A65 n66 c67, .slice A70 n71 c72, vs ((nth b i2).Note)] rfl rfl hcl63) ?_
      refine Q_call go90 [.agg #[.slice A47 n48 c49, .slice A52 n53 c54, vs ((nth a i2).Note)], .agg #[.slice A65 n66 c67, .slice A70 n71 c72, vs ((nth b i2).Note)]] rfl (vb (decide ((nth a i2) = (nth b i2)))) (fun w g => (laws_eqCommit.calls w (hc29.k0 g).ok (nth a i2) A47 n48 c49 A52 n53 c54 (h50.st (.new _ g)) (h55.st (.new _ g)) hs57 (nth b i2) A65 n66 c67 A70 n71 c72 (h68.st (.new _ g)) (h73.st (.new _ g)) hs75 _ (laws_eqCommit.is (nth a i2) (nth b i2))).mono ?_) ?_
      · rintro _ w ⟨r, rfl, rfl, g2⟩
        exact ⟨rfl, Gr.t0 g g2⟩
      refine Q_pu (P_not (decide ((nth a i2) = (nth b i2))) rfl) ?_
      refine Q_nil fun w81 g82 => ?_
      have hc84 := hc29.k0 g82
      refine W_cond (!(decide ((nth a i2) = (nth b i2)))) rfl (fun hq85 => ?_) (fun hq85 => ?_)
      · have H := ite_t H hq85
        refine W_seq ?_
        refine W_reg ?_
        refine L_pu (P_assign (vb false) rfl) ?_
        refine L_nil ?_
        refine W_ret ?_
        exact ⟨[vb false], ⟨_, rfl, rfl⟩, false, rfl, H, hc84.gr⟩
      · have H := ite_f H hq85
        refine W_skip ?_
        refine W_reg ?_
        refine L_pu (P_move (vi i2) rfl) ?_
        obtain ⟨hb87, H⟩ := H
        have hi86 : I64 (i2 + 1) := i64_succ (of_decide_eq_true hq39) hl38 hb87
        refine L_pu (P_add i2 1 rfl rfl hi86) ?_
        refine L_pu (P_assign (vi (i2 + 1)) rfl) ?_
        refine L_nil ?_
        obtain ⟨hI88, hm89⟩ := H
        exact ⟨i2 + 1, hm89, hI88, ⟨rfl, rfl, rfl, trivial⟩, hc84, (h30.st (.new _ g82)), (h31.st (.new _ g82))⟩
    · have H := ite_f H hq39
      refine W_exit (xin_hit ?_)
      refine W_seq ?_
      refine W_reg ?_
      refine L_pu (P_assign (vb true) rfl) ?_
      refine L_nil ?_
      refine W_ret ?_
      exact ⟨[vb true], ⟨_, rfl, rfl⟩, true, rfl, H, hc29.gr⟩
end Go.Proofs.Ythkeboifjlnjjaa

namespace Go.Proofs.Ythkeboifjlnjjaa
set_option linter.unusedVariables false
set_option linter.unusedSimpArgs false
set_option linter.unusedSectionVars false
theorem laws_eqCommitS.law (a b : List Commit) (Q : Bool → Prop) (hq : Q (decide (a = b))) : laws_eqCommitS.E a b Q := by
  unfold laws_eqCommitS.E
  exact eqS_shape (fun x y => decide (x = y)) (fun _ _ => rfl) a b Q hq
theorem laws_eqCommitS.is (a b : List Commit) : laws_eqCommitS.E a b (fun r => r = decide (a = b)) := laws_eqCommitS.law a b _ rfl
end Go.Proofs.Ythkeboifjlnjjaa

namespace Go.Proofs.Ythkeboifjlnjjaa
open Go.RowKit
set_option linter.unusedVariables false
def laws_eqHead.E (a : Head) (b : Head) (Q : Bool → Prop) : Prop :=
  (if a.Name != b.Name then Q false else (if a.At != b.At then Q false else Q true))
set_option maxHeartbeats 8000000 in
set_option maxRecDepth 100000 in
theorem laws_eqHead.calls {O : Ob} (w0 : World) (hO : Ok w0 O) (a : Head) (hs1 : Lim a.Name) (b : Head) (hs2 : Lim b.Name) (Q : Bool → Prop) (h : laws_eqHead.E a b Q) :
    Ret Try.prog 91 [.agg #[vs a.Name, vi a.At], .agg #[vs b.Name, vi b.At]] w0 (fun v w' => ∃ (r0 : Bool), v = vb r0 ∧ Q r0 ∧ Gr w0 w' none) := by
  have H : (if a.Name != b.Name then Q false else (if a.At != b.At then Q false else Q true)) := h
  clear h
  have hc0 := Ct.init hO
  refine Ret_enter Try.func91 rfl 15 rfl [.tmp 4] rfl rfl ?_
  refine W_seq ?_
  refine W_reg ?_
  refine L_box [vs a.Name, vi a.At] rfl fun w3 b4 hl6 hu7 g5 hx8 => ?_
  have h10 := Fb.mk hc0.ok hl6 hx8
  have hc11 := hc0.k0 g5
  refine L_box [vs b.Name, vi b.At] rfl fun w12 b13 hl15 hu16 g14 hx17 => ?_
  have h19 := Fb.mk hc11.ok hl15 hx17
  have hc20 := hc11.k0 g14
  refine L_pu (P_assign (vb false) rfl) ?_
  refine L_nil ?_
  refine W_seq ?_
  refine W_seq ?_
  refine W_reg ?_
  refine L_pu (P_fa fa95_0 ⟨b4, 0, none⟩ ⟨b4, 0, none⟩ rfl rfl) ?_
  have h21 := (h10.st (.new _ g14))
  refine L_pu (P_ld ag9 cL ⟨b4, 0, none⟩ (vs a.Name) rfl (h21.cell rfl)) ?_
  refine L_pu (P_fa fa95_0 ⟨b13, 0, none⟩ ⟨b13, 0, none⟩ rfl rfl) ?_
  refine L_pu (P_ld ag9 cL ⟨b13, 0, none⟩ (vs b.Name) rfl (h19.cell rfl)) ?_
  refine L_pu (P_scmp a.Name b.Name (a.Name != b.Name) rfl rfl rfl) ?_
  refine L_nil ?_
  refine W_cond (a.Name != b.Name) rfl (fun hq22 => ?_) (fun hq22 => ?_)
  · have H := ite_t H hq22
    refine W_seq ?_
    refine W_reg ?_
    refine L_pu (P_assign (vb false) rfl) ?_
    refine L_nil ?_
    refine W_ret ?_
    exact ⟨[vb false], ⟨_, rfl, rfl⟩, false, rfl, H, hc20.gr⟩
  · have H := ite_f H hq22
    refine W_skip ?_
    refine W_seq ?_
    refine W_seq ?_
    refine W_reg ?_
    refine L_pu (P_fa fa95_1 ⟨b4, 0, none⟩ ⟨b4, 1, none⟩ rfl rfl) ?_
    refine L_pu (P_ld ag3 cL ⟨b4, 1, none⟩ (vi a.At) rfl (h21.cell rfl)) ?_
    refine L_pu (P_fa fa95_1 ⟨b13, 0, none⟩ ⟨b13, 1, none⟩ rfl rfl) ?_
    refine L_pu (P_ld ag3 cL ⟨b13, 1, none⟩ (vi b.At) rfl (h19.cell rfl)) ?_
    refine L_pu (P_cmp a.At b.At (a.At != b.At) rfl rfl rfl) ?_
    refine L_nil ?_
    refine W_cond (a.At != b.At) rfl (fun hq23 => ?_) (fun hq23 => ?_)
    · have H := ite_t H hq23
      refine W_seq ?_
      refine W_reg ?_
      refine L_pu (P_assign (vb false) rfl) ?_
      refine L_nil ?_
      refine W_ret ?_
      exact ⟨[vb false], ⟨_, rfl, rfl⟩, false, rfl, H, hc20.gr⟩
    · have H := ite_f H hq23
      refine W_skip ?_
      refine W_seq ?_
      refine W_reg ?_
      refine L_pu (P_assign (vb true) rfl) ?_
      refine L_nil ?_
      refine W_ret ?_
      exact ⟨[vb true], ⟨_, rfl, rfl⟩, true, rfl, H, hc20.gr⟩
def laws_eqHead.m (a : Head) (b : Head) : Bool := (if a.Name != b.Name then false else (if a.At != b.At then false else true))
theorem laws_eqHead.fn (a : Head) (b : Head) : laws_eqHead.E a b (fun r => r = laws_eqHead.m a b) := by
  unfold laws_eqHead.E laws_eqHead.m
  (repeat' split) <;> simp_all
end Go.Proofs.Ythkeboifjlnjjaa

namespace Go.Proofs.Ythkeboifjlnjjaa
set_option linter.unusedVariables false
set_option linter.unusedSimpArgs false
set_option linter.unusedSectionVars false
theorem laws_eqHead.law (a b : Head) (Q : Bool → Prop) (hq : Q (decide (a = b))) : laws_eqHead.E a b Q := by
  obtain ⟨x0, x1⟩ := a; obtain ⟨y0, y1⟩ := b
  rw [show (decide ((⟨x0, x1⟩ : Head) = ⟨y0, y1⟩)) = ((decide (x0 = y0)) && (decide (x1 = y1))) by simp only [Head.mk.injEq, Bool.decide_and]] at hq
  unfold laws_eqHead.E
  by_cases h0 : x0 = y0
  case neg => simpa [h0] using hq
  simp only [h0, decide_true, Bool.true_and, bne_self_eq_false, Bool.not_true, Bool.false_eq_true, if_false] at hq ⊢
  by_cases h1 : x1 = y1
  case neg => simpa [h1] using hq
  simp only [h1, decide_true, Bool.true_and, bne_self_eq_false, Bool.not_true, Bool.false_eq_true, if_false] at hq ⊢
  all_goals (try exact hq)
theorem laws_eqHead.is (a b : Head) : laws_eqHead.E a b (fun r => r = decide (a = b)) := laws_eqHead.law a b _ rfl
end Go.Proofs.Ythkeboifjlnjjaa

namespace Go.Proofs.Ythkeboifjlnjjaa
open Go.RowKit
set_option linter.unusedVariables false
def laws_eqHeadS.E (a : List Head) (b : List Head) (Q : Bool → Prop) : Prop :=
  (if (a.length : Int) != (b.length : Int) then Q false else (∃ (I32 : Int → Prop) (mu33 : Int → Nat), I32 0 ∧ ∀ (i2 : Int), I32 i2 → (if decide (i2 < (a.length : Int)) then ((0 : Int) ≤ i2 ∧ i2 < (a.length : Int)) ∧ ((0 : Int) ≤ i2 ∧ i2 < (b.length : Int)) ∧ (if !(decide ((nth a i2) = (nth b i2))) then Q false else (-9223372036854775808 ≤ i2) ∧ I32 (i2 + 1) ∧ mu33 (i2 + 1) < mu33 i2) else Q true)))
set_option maxHeartbeats 8000000 in
set_option maxRecDepth 100000 in
theorem laws_eqHeadS.calls {O : Ob} (w0 : World) (hO : Ok w0 O) (a : List Head) (A1 : Option Addr) (n2 c3 : Nat) (hp4 : Sl kHead w0 (Fr O) (.slice A1 n2 c3) a) (b : List Head) (A6 : Option Addr) (n7 c8 : Nat) (hp9 : Sl kHead w0 (Fr O) (.slice A6 n7 c8) b) (Q : Bool → Prop) (h : laws_eqHeadS.E a b Q) :
    Ret Try.prog 54 [.slice A1 n2 c3, .slice A6 n7 c8] w0 (fun v w' => ∃ (r0 : Bool), v = vb r0 ∧ Q r0 ∧ Gr w0 w' none) := by
  have H : (if (a.length : Int) != (b.length : Int) then Q false else (∃ (I32 : Int → Prop) (mu33 : Int → Nat), I32 0 ∧ ∀ (i2 : Int), I32 i2 → (if decide (i2 < (a.length : Int)) then ((0 : Int) ≤ i2 ∧ i2 < (a.length : Int)) ∧ ((0 : Int) ≤ i2 ∧ i2 < (b.length : Int)) ∧ (if !(decide ((nth a i2) = (nth b i2))) then Q false else (-9223372036854775808 ≤ i2) ∧ I32 (i2 + 1) ∧ mu33 (i2 + 1) < mu33 i2) else Q true))) := h
  clear h
  have hc0 := Ct.init hO
  refine Ret_enter Try.func54 rfl 27 rfl [.tmp 4] rfl rfl ?_
  refine W_seq ?_
  refine W_reg ?_
  refine L_pu (P_assign (vb false) rfl) ?_
  refine L_nil ?_
  refine W_seq ?_
  refine W_seq ?_
  refine W_reg ?_
  refine L_pu (P_move (.slice A1 n2 c3) rfl) ?_
  have hl11 := hp4.le
  refine L_pu (P_len Try.underlying44 A1 n2 c3 hp4.len rfl) ?_
  refine L_pu (P_move (.slice A6 n7 c8) rfl) ?_
  have hl12 := hp9.le
  refine L_pu (P_len Try.underlying44 A6 n7 c8 hp9.len rfl) ?_
  refine L_pu (P_cmp (a.length : Int) (b.length : Int) ((a.length : Int) != (b.length : Int)) rfl rfl rfl) ?_
  refine L_nil ?_
  refine W_cond ((a.length : Int) != (b.length : Int)) rfl (fun hq13 => ?_) (fun hq13 => ?_)
  · have H := ite_t H hq13
    refine W_seq ?_
    refine W_reg ?_
    refine L_pu (P_assign (vb false) rfl) ?_
    refine L_nil ?_
    refine W_ret ?_
    exact ⟨[vb false], ⟨_, rfl, rfl⟩, false, rfl, H, hc0.gr⟩
  · have H := ite_f H hq13
    refine W_skip ?_
    refine W_seq ?_
    refine W_seq ?_
    refine W_reg ?_
    refine L_pu (P_assign (vi 0) rfl) ?_
    refine L_nil ?_
    refine W_block ?_
    obtain ⟨I32, mu33, hI34, H⟩ := H
    refine W_loop (α := Int) (fun (sv__ : Int) t w26 => match sv__ with | i2 => I32 i2 ∧ Has t [(0, .slice A1 n2 c3), (1, .slice A6 n7 c8), (5, vi i2)] ∧ Ct none w0 w26 [] O ∧ Sl kHead w26 (Fr ([] ++ O)) (.slice A1 n2 c3) a ∧ Sl kHead w26 (Fr ([] ++ O)) (.slice A6 n7 c8) b) (fun (sv__ : Int) => match sv__ with | i2 => mu33 i2) 0 ⟨hI34, ⟨rfl, rfl, rfl, trivial⟩, hc0, hp4, hp9⟩ ?_
    rintro i2 _ w26 ⟨hI34, hh36, hc29, h30, h31⟩
    obtain ⟨u37, rfl⟩ := Has.ins hh36
    have H := H i2 hI34
    refine W_seq ?_
    refine W_seq ?_
    refine W_reg ?_
    refine L_pu (P_move (vi i2) rfl) ?_
    refine L_pu (P_move (.slice A1 n2 c3) rfl) ?_
    have hl38 := h30.le
    refine L_pu (P_len Try.underlying44 A1 n2 c3 h30.len rfl) ?_
    refine L_pu (P_cmp i2 (a.length : Int) (decide (i2 < (a.length : Int))) rfl rfl rfl) ?_
    refine L_nil ?_
    refine W_cond (decide (i2 < (a.length : Int))) rfl (fun hq39 => ?_) (fun hq39 => ?_)
    · have H := ite_t H hq39
      refine W_skip ?_
      refine W_seq ?_
      refine W_block ?_
      refine W_seq ?_
      refine W_draw (fun x => Gr w26 x none) (by kernel_rfl) (by kernel_rfl) (Gr.drew _) ?_
      refine Q_pu (P_move (.slice A1 n2 c3) rfl) ?_
      refine Q_pu (P_move (vi i2) rfl) ?_
      obtain ⟨hb40, H⟩ := H
      obtain ⟨ad41, cs42, hA43, hS46, hR44, hcl45⟩ := h30.get default (by decide) i2 hb40
      obtain ⟨rfl, hs47⟩ := kHead.op hR44
      refine Q_pu (P_ia Try.underlying44 se44 A1 ad41 n2 c3 h30.len i2 rfl hA43 rfl hb40) ?_
      refine Q_pu (P_lda ag95 sz95 cQ (ad41.add (i2.toNat * 2)) [vs ((nth a i2).Name), vi ((nth a i2).At)] rfl rfl hcl45) ?_
      refine Q_pu (P_move (.slice A6 n7 c8) rfl) ?_
      refine Q_pu (P_move (vi i2) rfl) ?_
      obtain ⟨hb48, H⟩ := H
      obtain ⟨ad49, cs50, hA51, hS54, hR52, hcl53⟩ := h31.get default (by decide) i2 hb48
      obtain ⟨rfl, hs55⟩ := kHead.op hR52
      refine Q_pu (P_ia Try.underlying44 se44 A6 ad49 n7 c8 h31.len i2 rfl hA51 rfl hb48) ?_
      refine Q_pu (P_lda ag95 sz95 cQ (ad49.add (i2.toNat * 2)) [vs ((nth b i2).Name), vi ((nth b i2).At)] rfl rfl hcl53) ?_
      refine Q_call go91 [.agg #[vs ((nth a i2).Name), vi ((nth a i2).At)], .agg #[vs ((nth b i2).Name), vi ((nth b i2).At)]] rfl (vb (decide ((nth a i2) = (nth b i2)))) (fun w g => (laws_eqHead.calls w (hc29.k0 g).ok (nth a i2) hs47 (nth b i2) hs55 _ (laws_eqHead.is (nth a i2) (nth b i2))).mono ?_) ?_
      · rintro _ w ⟨r, rfl, rfl, g2⟩
        exact ⟨rfl, Gr.t0 g g2⟩
      refine Q_pu (P_not (decide ((nth a i2) = (nth b i2))) rfl) ?_
      refine Q_nil fun w61 g62 => ?_
      have hc64 := hc29.k0 g62
      refine W_cond (!(decide ((nth a i2) = (nth b i2)))) rfl (fun hq65 => ?_) (fun hq65 => ?_)
      · have H := ite_t H hq65
        refine W_seq ?_
        refine W_reg ?_
        refine L_pu (P_assign (vb false) rfl) ?_
        refine L_nil ?_
        refine W_ret ?_
        exact ⟨[vb false], ⟨_, rfl, rfl⟩, false, rfl, H, hc64.gr⟩
      · have H := ite_f H hq65
        refine W_skip ?_
        refine W_reg ?_
        refine L_pu (P_move (vi i2) rfl) ?_
        obtain ⟨hb67, H⟩ := H
        have hi66 : I64 (i2 + 1) := i64_succ (of_decide_eq_true hq39) hl38 hb67
        refine L_pu (P_add i2 1 rfl rfl hi66) ?_
        refine L_pu (P_assign (vi (i2 + 1)) rfl) ?_
        refine L_nil ?_
        obtain ⟨hI68, hm69⟩ := H
        exact ⟨i2 + 1, hm69, hI68, ⟨rfl, rfl, rfl, trivial⟩, hc64, (h30.st (.new _ g62)), (h31.st (.new _ g62))⟩
    · have H := ite_f H hq39
      refine W_exit (xin_hit ?_)
      refine W_seq ?_
      refine W_reg ?_
      refine L_pu (P_assign (vb true) rfl) ?_
      refine L_nil ?_
      refine W_ret ?_
      exact ⟨[vb true], ⟨_, rfl, rfl⟩, true, rfl, H, hc29.gr⟩
end Go.Proofs.Ythkeboifjlnjjaa

namespace Go.Proofs.Ythkeboifjlnjjaa
set_option linter.unusedVariables false
set_option linter.unusedSimpArgs false
set_option linter.unusedSectionVars false
theorem laws_eqHeadS.law (a b : List Head) (Q : Bool → Prop) (hq : Q (decide (a = b))) : laws_eqHeadS.E a b Q := by
  unfold laws_eqHeadS.E
  exact eqS_shape (fun x y => decide (x = y)) (fun _ _ => rfl) a b Q hq
theorem laws_eqHeadS.is (a b : List Head) : laws_eqHeadS.E a b (fun r => r = decide (a = b)) := laws_eqHeadS.law a b _ rfl
end Go.Proofs.Ythkeboifjlnjjaa

namespace Go.Proofs.Ythkeboifjlnjjaa
open Go.RowKit
set_option linter.unusedVariables false
def laws_eqRepo.E (a : Repo) (b : Repo) (Q : Bool → Prop) : Prop :=
  laws_eqCommitS.E a.Commits b.Commits (fun r => (if !r then Q false else laws_eqHeadS.E a.Heads b.Heads (fun r2 => (if !r2 then Q false else Q true))))
set_option maxHeartbeats 8000000 in
set_option maxRecDepth 100000 in
theorem laws_eqRepo.calls {O : Ob} (w0 : World) (hO : Ok w0 O) (a : Repo) (A1 : Option Addr) (n2 c3 : Nat) (A6 : Option Addr) (n7 c8 : Nat) (hp4 : Sl kCommit w0 (Fr O) (.slice A1 n2 c3) a.Commits) (hp9 : Sl kHead w0 (Fr O) (.slice A6 n7 c8) a.Heads) (b : Repo) (A11 : Option Addr) (n12 c13 : Nat) (A16 : Option Addr) (n17 c18 : Nat) (hp14 : Sl kCommit w0 (Fr O) (.slice A11 n12 c13) b.Commits) (hp19 : Sl kHead w0 (Fr O) (.slice A16 n17 c18) b.Heads) (Q : Bool → Prop) (h : laws_eqRepo.E a b Q) :
    Ret Try.prog 22 [.agg #[.slice A1 n2 c3, .slice A6 n7 c8], .agg #[.slice A11 n12 c13, .slice A16 n17 c18]] w0 (fun v w' => ∃ (r0 : Bool), v = vb r0 ∧ Q r0 ∧ Gr w0 w' none) := by
  have H : laws_eqCommitS.E a.Commits b.Commits (fun r => (if !r then Q false else laws_eqHeadS.E a.Heads b.Heads (fun r2 => (if !r2 then Q false else Q true)))) := h
  clear h
  have hc0 := Ct.init hO
  refine Ret_enter Try.func22 rfl 17 rfl [.tmp 4] rfl rfl ?_
  refine W_seq ?_
  refine W_reg ?_
  refine L_box [.slice A1 n2 c3, .slice A6 n7 c8] rfl fun w21 b22 hl24 hu25 g23 hx26 => ?_
  have h28 := Fb.mk hc0.ok hl24 hx26
  have hc29 := hc0.k0 g23
  refine L_box [.slice A11 n12 c13, .slice A16 n17 c18] rfl fun w30 b31 hl33 hu34 g32 hx35 => ?_
  have h37 := Fb.mk hc29.ok hl33 hx35
  have hc38 := hc29.k0 g32
  refine L_pu (P_assign (vb false) rfl) ?_
  refine L_nil ?_
  refine W_seq ?_
  refine W_seq ?_
  refine W_reg ?_
  refine L_pu (P_fa fa46_0 ⟨b22, 0, none⟩ ⟨b22, 0, none⟩ rfl rfl) ?_
  have h39 := (h28.st (.new _ g32))
  refine L_pu (P_ld ag43 cL ⟨b22, 0, none⟩ (.slice A1 n2 c3) rfl (h39.cell rfl)) ?_
  refine L_pu (P_fa fa46_0 ⟨b31, 0, none⟩ ⟨b31, 0, none⟩ rfl rfl) ?_
  refine L_pu (P_ld ag43 cL ⟨b31, 0, none⟩ (.slice A11 n12 c13) rfl (h37.cell rfl)) ?_
  refine L_call go53 [.slice A1 n2 c3, .slice A11 n12 c13] rfl ((laws_eqCommitS.calls w30 hc38.ok a.Commits A1 n2 c3 (hp4.st hc38.st) b.Commits A11 n12 c13 (hp14.st hc38.st) _ H).mono ?_)
  rintro _ w40 ⟨r, rfl, H, g41⟩
  have hc45 := hc38.k0 g41
  refine L_pu (P_not r rfl) ?_
  refine L_nil ?_
  refine W_cond (!r) rfl (fun hq46 => ?_) (fun hq46 => ?_)
  · have H := ite_t H hq46
    refine W_seq ?_
    refine W_reg ?_
    refine L_pu (P_assign (vb false) rfl) ?_
    refine L_nil ?_
    refine W_ret ?_
    exact ⟨[vb false], ⟨_, rfl, rfl⟩, false, rfl, H, hc45.gr⟩
  · have H := ite_f H hq46
    refine W_skip ?_
    refine W_seq ?_
    refine W_seq ?_
    refine W_reg ?_
    refine L_pu (P_fa fa46_1 ⟨b22, 0, none⟩ ⟨b22, 1, none⟩ rfl rfl) ?_
    have h47 := (h39.st (.new _ g41))
    refine L_pu (P_ld ag44 cL ⟨b22, 1, none⟩ (.slice A6 n7 c8) rfl (h47.cell rfl)) ?_
    refine L_pu (P_fa fa46_1 ⟨b31, 0, none⟩ ⟨b31, 1, none⟩ rfl rfl) ?_
    have h48 := (h37.st (.new _ g41))
    refine L_pu (P_ld ag44 cL ⟨b31, 1, none⟩ (.slice A16 n17 c18) rfl (h48.cell rfl)) ?_
    refine L_call go54 [.slice A6 n7 c8, .slice A16 n17 c18] rfl ((laws_eqHeadS.calls w40 hc45.ok a.Heads A6 n7 c8 (hp9.st hc45.st) b.Heads A16 n17 c18 (hp19.st hc45.st) _ H).mono ?_)
    rintro _ w49 ⟨r2, rfl, H, g50⟩
    have hc54 := hc45.k0 g50
    refine L_pu (P_not r2 rfl) ?_
    refine L_nil ?_
    refine W_cond (!r2) rfl (fun hq55 => ?_) (fun hq55 => ?_)
    · have H := ite_t H hq55
      refine W_seq ?_
      refine W_reg ?_
      refine L_pu (P_assign (vb false) rfl) ?_
      refine L_nil ?_
      refine W_ret ?_
      exact ⟨[vb false], ⟨_, rfl, rfl⟩, false, rfl, H, hc54.gr⟩
    · have H := ite_f H hq55
      refine W_skip ?_
      refine W_seq ?_
      refine W_reg ?_
      refine L_pu (P_assign (vb true) rfl) ?_
      refine L_nil ?_
      refine W_ret ?_
      exact ⟨[vb true], ⟨_, rfl, rfl⟩, true, rfl, H, hc54.gr⟩
end Go.Proofs.Ythkeboifjlnjjaa

namespace Go.Proofs.Ythkeboifjlnjjaa
set_option linter.unusedVariables false
set_option linter.unusedSimpArgs false
set_option linter.unusedSectionVars false
theorem laws_eqRepo.law (a b : Repo) (Q : Bool → Prop) (hq : Q (decide (a = b))) : laws_eqRepo.E a b Q := by
  obtain ⟨x0, x1⟩ := a; obtain ⟨y0, y1⟩ := b
  rw [show (decide ((⟨x0, x1⟩ : Repo) = ⟨y0, y1⟩)) = ((decide (x0 = y0)) && (decide (x1 = y1))) by simp only [Repo.mk.injEq, Bool.decide_and]] at hq
  unfold laws_eqRepo.E
  try refine laws_eqCommitS.law _ _ _ ?_
  by_cases h0 : x0 = y0
  case neg => simpa [h0] using hq
  simp only [h0, decide_true, Bool.true_and, bne_self_eq_false, Bool.not_true, Bool.false_eq_true, if_false] at hq ⊢
  try refine laws_eqHeadS.law _ _ _ ?_
  by_cases h1 : x1 = y1
  case neg => simpa [h1] using hq
  simp only [h1, decide_true, Bool.true_and, bne_self_eq_false, Bool.not_true, Bool.false_eq_true, if_false] at hq ⊢
  all_goals (try exact hq)
theorem laws_eqRepo.is (a b : Repo) : laws_eqRepo.E a b (fun r => r = decide (a = b)) := laws_eqRepo.law a b _ rfl
end Go.Proofs.Ythkeboifjlnjjaa

namespace Go.Proofs.Ythkeboifjlnjjaa
open Go.RowKit
set_option linter.unusedVariables false
def laws_FnExactRepoSame.E (aA : Repo) (aB : Repo) (Q : Bool → Prop) : Prop :=
  laws_szRepo.E aA 1048576 (fun r => (if decide (r < 0) then Q true else laws_szRepo.E aB r (fun r2 => (if decide (r2 < 0) then Q true else laws_toRepo.E aA (fun r3 => laws_toRepo.E aB (fun r4 => spec_RepoSame.E r3 r4 (fun r5 => laws_toRepo.E aA (fun r6 => laws_toRepo.E aB (fun r7 => impl_RepoSame.E r6 r7 (fun r8 => (if r8 != r5 then Q false else laws_toRepo.E aA (fun r9 => laws_eqRepo.E r6 r9 (fun r10 => (if !r10 then Q false else laws_toRepo.E aB (fun r11 => laws_eqRepo.E r7 r11 (fun r12 => (if !r12 then Q false else Q true)))))))))))))))))
set_option maxHeartbeats 8000000 in
set_option maxRecDepth 100000 in
theorem laws_FnExactRepoSame.calls {O : Ob} (w0 : World) (hO : Ok w0 O) (aA : Repo) (A1 : Option Addr) (n2 c3 : Nat) (A6 : Option Addr) (n7 c8 : Nat) (hp4 : Sl kCommit w0 (Fr O) (.slice A1 n2 c3) aA.Commits) (hp9 : Sl kHead w0 (Fr O) (.slice A6 n7 c8) aA.Heads) (aB : Repo) (A11 : Option Addr) (n12 c13 : Nat) (A16 : Option Addr) (n17 c18 : Nat) (hp14 : Sl kCommit w0 (Fr O) (.slice A11 n12 c13) aB.Commits) (hp19 : Sl kHead w0 (Fr O) (.slice A16 n17 c18) aB.Heads) (Q : Bool → Prop) (h : laws_FnExactRepoSame.E aA aB Q) :
    Ret Try.prog 5 [.agg #[.slice A1 n2 c3, .slice A6 n7 c8], .agg #[.slice A11 n12 c13, .slice A16 n17 c18]] w0 (fun v w' => ∃ (r0 : Bool), v = vb r0 ∧ Q r0 ∧ Gr w0 w' none) := by
  have H : laws_szRepo.E aA 1048576 (fun r => (if decide (r < 0) then Q true else laws_szRepo.E aB r (fun r2 => (if decide (r2 < 0) then Q true else laws_toRepo.E aA (fun r3 => laws_toRepo.E aB (fun r4 => spec_RepoSame.E r3 r4 (fun r5 => laws_toRepo.E aA (fun r6 => laws_toRepo.E aB (fun r7 => impl_RepoSame.E r6 r7 (fun r8 => (if r8 != r5 then Q false else laws_toRepo.E aA (fun r9 => laws_eqRepo.E r6 r9 (fun r10 => (if !r10 then Q false else laws_toRepo.E aB (fun r11 => laws_eqRepo.E r7 r11 (fun r12 => (if !r12 then Q false else Q true))))))))))))))))) := h
  clear h
  have hc0 := Ct.init hO
  refine Ret_enter Try.func5 rfl 45 rfl [.tmp 4] rfl rfl ?_
  refine W_seq ?_
  refine W_reg ?_
  refine L_box [.slice A1 n2 c3, .slice A6 n7 c8] rfl fun w21 b22 hl24 hu25 g23 hx26 => ?_
  have h28 := Fb.mk hc0.ok hl24 hx26
  have hc29 := hc0.k0 g23
  refine L_box [.slice A11 n12 c13, .slice A16 n17 c18] rfl fun w30 b31 hl33 hu34 g32 hx35 => ?_
  have h37 := Fb.mk hc29.ok hl33 hx35
  have hc38 := hc29.k0 g32
  refine L_pu (P_assign (vb false) rfl) ?_
  refine L_nil ?_
  refine W_seq ?_
  refine W_reg ?_
  refine L_pu (P_assign (vi 1048576) rfl) ?_
  refine L_nil ?_
  refine W_seq ?_
  refine W_reg ?_
  have h39 := (h28.st (.new _ g32))
  refine L_pu (P_lda ag40 sz40 cL ⟨b22, 0, none⟩ [.slice A1 n2 c3, .slice A6 n7 c8] rfl rfl (h39.cells (off := 0) rfl)) ?_
  refine L_pu (P_move (vi 1048576) rfl) ?_
  refine L_call go18 [.agg #[.slice A1 n2 c3, .slice A6 n7 c8], vi 1048576] rfl ((laws_szRepo.calls w30 hc38.ok aA A1 n2 c3 A6 n7 c8 (hp4.st hc38.st) (hp9.st hc38.st) 1048576 _ H).mono ?_)
  rintro _ w40 ⟨r, rfl, H, g41⟩
  have hc45 := hc38.k0 g41
  refine L_pu (P_assign (vi r) rfl) ?_
  refine L_nil ?_
  refine W_seq ?_
  refine W_seq ?_
  refine W_reg ?_
  refine L_pu (P_move (vi r) rfl) ?_
  refine L_pu (P_cmp r 0 (decide (r < 0)) rfl rfl rfl) ?_
  refine L_nil ?_
  refine W_cond (decide (r < 0)) rfl (fun hq46 => ?_) (fun hq46 => ?_)
  · have H := ite_t H hq46
    refine W_seq ?_
    refine W_reg ?_
    refine L_pu (P_assign (vb true) rfl) ?_
    refine L_nil ?_
    refine W_ret ?_
    exact ⟨[vb true], ⟨_, rfl, rfl⟩, true, rfl, H, hc45.gr⟩
  · have H := ite_f H hq46
    refine W_skip ?_
    refine W_seq ?_
    refine W_reg ?_
    have h47 := (h37.st (.new _ g41))
    refine L_pu (P_lda ag40 sz40 cL ⟨b31, 0, none⟩ [.slice A11 n12 c13, .slice A16 n17 c18] rfl rfl (h47.cells (off := 0) rfl)) ?_
    refine L_pu (P_move (vi r) rfl) ?_
    refine L_call go18 [.agg #[.slice A11 n12 c13, .slice A16 n17 c18], vi r] rfl ((laws_szRepo.calls w40 hc45.ok aB A11 n12 c13 A16 n17 c18 (hp14.st hc45.st) (hp19.st hc45.st) r _ H).mono ?_)
    rintro _ w48 ⟨r2, rfl, H, g49⟩
    have hc53 := hc45.k0 g49
    refine L_pu (P_assign (vi r2) rfl) ?_
    refine L_nil ?_
    refine W_seq ?_
    refine W_seq ?_
    refine W_reg ?_
    refine L_pu (P_move (vi r2) rfl) ?_
    refine L_pu (P_cmp r2 0 (decide (r2 < 0)) rfl rfl rfl) ?_
    refine L_nil ?_
    refine W_cond (decide (r2 < 0)) rfl (fun hq54 => ?_) (fun hq54 => ?_)
    · have H := ite_t H hq54
      refine W_seq ?_
      refine W_reg ?_
      refine L_pu (P_assign (vb true) rfl) ?_
      refine L_nil ?_
      refine W_ret ?_
      exact ⟨[vb true], ⟨_, rfl, rfl⟩, true, rfl, H, hc53.gr⟩
    · have H := ite_f H hq54
      refine W_skip ?_
      refine W_seq ?_
      refine W_mixr 6 (none) (by kernel_rfl) rfl fun w55 g56 hM57 => ?_
      have hc58 := hc53.k0 g56
      have h59 := (((h39.st (.new _ g41)).st (.new _ g49)).st (.new _ g56))
      refine M_pu 0 rfl (by kernel_rfl) hM57 (P_lda ag40 sz40 cQ ⟨b22, 0, none⟩ [.slice A1 n2 c3, .slice A6 n7 c8] rfl rfl (h59.cells (off := 0) rfl)) ?_
      have h60 := ((h47.st (.new _ g49)).st (.new _ g56))
      refine M_pu 2 rfl (by kernel_rfl) hM57 (P_lda ag40 sz40 cQ ⟨b31, 0, none⟩ [.slice A11 n12 c13, .slice A16 n17 c18] rfl rfl (h60.cells (off := 0) rfl)) ?_
      refine M_any1 1 (by kernel_rfl) rfl ?_
      refine L_call go20 [.agg #[.slice A1 n2 c3, .slice A6 n7 c8]] rfl ((laws_toRepo.calls w55 hc58.ok aA A1 n2 c3 A6 n7 c8 (hp4.st hc58.st) (hp9.st hc58.st) _ H).mono ?_)
      rintro _ w61 ⟨r3, A63, n64, c65, A68, n69, c70, rfl, H, g62, hk74, hk75, h66, h71⟩
      have hc76 := hc58.owns g62 hk74 hk75
      have hM77 := Gr.tm hM57 g62
      refine L_nil ⟨hM77, ?_⟩
      refine M_any1 3 (by kernel_rfl) rfl ?_
      refine L_call go20 [.agg #[.slice A11 n12 c13, .slice A16 n17 c18]] rfl ((laws_toRepo.calls w61 hc76.ok aB A11 n12 c13 A16 n17 c18 (hp14.st hc76.st) (hp19.st hc76.st) _ H).mono ?_)
      rintro _ w78 ⟨r4, A80, n81, c82, A85, n86, c87, rfl, H, g79, hk91, hk92, h83, h88⟩
      have hc93 := hc76.owns g79 hk91 hk92
      have hM94 := Gr.tm hM77 g79
      refine L_nil ⟨hM94, ?_⟩
      refine M_any1 4 (by kernel_rfl) rfl ?_
      have h95 := (h66.sos g79 hk92)
      have h96 := Ow.gv (L := [blk (.slice A80 n81 c82), blk (.slice A85 n86 c87), blk (.slice A63 n64 c65), blk (.slice A68 n69 c70)]) (O := O) h95 hc93 (i := 2) rfl
      have hc97 := hc93.drop 2 rfl
      have h100 := (Ow.sd (L := [blk (.slice A80 n81 c82), blk (.slice A85 n86 c87), blk (.slice A63 n64 c65), blk (.slice A68 n69 c70)]) (O := O) (h71.sos g79 hk92) (i := 3) rfl (j := 2) rfl (by decide))
      have h101 := Ow.gv (L := [blk (.slice A80 n81 c82), blk (.slice A85 n86 c87), blk (.slice A68 n69 c70)]) (O := O) h100 hc97 (i := 2) rfl
      have hc102 := hc97.drop 2 rfl
      have h105 := (Ow.sd (L := [blk (.slice A80 n81 c82), blk (.slice A85 n86 c87), blk (.slice A68 n69 c70)]) (O := O) (Ow.sd (L := [blk (.slice A80 n81 c82), blk (.slice A85 n86 c87), blk (.slice A63 n64 c65), blk (.slice A68 n69 c70)]) (O := O) h83 (i := 0) rfl (j := 2) rfl (by decide)) (i := 0) rfl (j := 2) rfl (by decide))
      have h106 := Ow.gv (L := [blk (.slice A80 n81 c82), blk (.slice A85 n86 c87)]) (O := O) h105 hc102 (i := 0) rfl
      have hc107 := hc102.drop 0 rfl
      have h110 := (Ow.sd (L := [blk (.slice A80 n81 c82), blk (.slice A85 n86 c87)]) (O := O) (Ow.sd (L := [blk (.slice A80 n81 c82), blk (.slice A85 n86 c87), blk (.slice A68 n69 c70)]) (O := O) (Ow.sd (L := [blk (.slice A80 n81 c82), blk (.slice A85 n86 c87), blk (.slice A63 n64 c65), blk (.slice A68 n69 c70)]) (O := O) h88 (i := 1) rfl (j := 2) rfl (by decide)) (i := 1) rfl (j := 2) rfl (by decide)) (i := 1) rfl (j := 0) rfl (by decide))
      have h111 := Ow.gv (L := [blk (.slice A85 n86 c87)]) (O := O) h110 hc107 (i := 0) rfl
      have hc112 := hc107.drop 0 rfl
      have h115 := (((h96.st (.dr _ (L := [blk (.slice A80 n81 c82), blk (.slice A85 n86 c87), blk (.slice A68 n69 c70)]) (O := O) (j := 2) rfl)).st (.dr _ (L := [blk (.slice A80 n81 c82), blk (.slice A85 n86 c87)]) (O := O) (j := 0) rfl)).st (.dr _ (L := [blk (.slice A85 n86 c87)]) (O := O) (j := 0) rfl))
      have h116 := ((h101.st (.dr _ (L := [blk (.slice A80 n81 c82), blk (.slice A85 n86 c87)]) (O := O) (j := 0) rfl)).st (.dr _ (L := [blk (.slice A85 n86 c87)]) (O := O) (j := 0) rfl))
      have h117 := (h106.st (.dr _ (L := [blk (.slice A85 n86 c87)]) (O := O) (j := 0) rfl))
      refine L_call go19 [.agg #[.slice A63 n64 c65, .slice A68 n69 c70], .agg #[.slice A80 n81 c82, .slice A85 n86 c87]] rfl ((spec_RepoSame.calls w78 hc112.ok r3 A63 n64 c65 A68 n69 c70 h115 h116 r4 A80 n81 c82 A85 n86 c87 h117 h111 _ H).mono ?_)
      rintro _ w118 ⟨r5, rfl, H, g119⟩
      have hc123 := hc112.k0 g119
      have hM124 := Gr.tm hM94 g119
      refine L_nil ⟨hM124, ?_⟩
      refine M_pu 5 rfl (by kernel_rfl) hM124 (P_assign (vb r5) rfl) ?_
      refine M_nil (by kernel_rfl) ?_
      refine W_seq ?_
      refine W_reg ?_
      have h125 := (((((((h59.st (.owns _ g62 hk75)).st (.owns _ g79 hk92)).st (.dr _ (L := [blk (.slice A80 n81 c82), blk (.slice A85 n86 c87), blk (.slice A63 n64 c65), blk (.slice A68 n69 c70)]) (O := O) (j := 2) rfl)).st (.dr _ (L := [blk (.slice A80 n81 c82), blk (.slice A85 n86 c87), blk (.slice A68 n69 c70)]) (O := O) (j := 2) rfl)).st (.dr _ (L := [blk (.slice A80 n81 c82), blk (.slice A85 n86 c87)]) (O := O) (j := 0) rfl)).st (.dr _ (L := [blk (.slice A85 n86 c87)]) (O := O) (j := 0) rfl)).st (.new _ g119))
      refine L_pu (P_lda ag40 sz40 cL ⟨b22, 0, none⟩ [.slice A1 n2 c3, .slice A6 n7 c8] rfl rfl (h125.cells (off := 0) rfl)) ?_
      refine L_call go20 [.agg #[.slice A1 n2 c3, .slice A6 n7 c8]] rfl ((laws_toRepo.calls w118 hc123.ok aA A1 n2 c3 A6 n7 c8 (hp4.st hc123.st) (hp9.st hc123.st) _ H).mono ?_)
      rintro _ w126 ⟨r6, A128, n129, c130, A133, n134, c135, rfl, H, g127, hk139, hk140, h131, h136⟩
      have hc141 := hc123.owns g127 hk139 hk140
      refine L_alloc [.slice none 0 0, .slice none 0 0] ze46 fun w142 b143 hl145 hu146 g144 hx147 => ?_
      have hc149 := hc141.own g144 (some b143) (oglt hl145 hu146)
      refine L_stb b143 0 [.slice none 0 0, .slice none 0 0] [.slice A128 n129 c130, .slice A133 n134 c135] [.slice A128 n129 c130, .slice A133 n134 c135] rfl hx147 rfl sz46 rfl rfl rfl fun w150 g151 hx152 => ?_
      have hc153 := hc149.wr 0 rfl g151
      refine L_nil ?_
      refine W_seq ?_
      refine W_reg ?_
      have h154 := ((((((((((h60.st (.owns _ g62 hk75)).st (.owns _ g79 hk92)).st (.dr _ (L := [blk (.slice A80 n81 c82), blk (.slice A85 n86 c87), blk (.slice A63 n64 c65), blk (.slice A68 n69 c70)]) (O := O) (j := 2) rfl)).st (.dr _ (L := [blk (.slice A80 n81 c82), blk (.slice A85 n86 c87), blk (.slice A68 n69 c70)]) (O := O) (j := 2) rfl)).st (.dr _ (L := [blk (.slice A80 n81 c82), blk (.slice A85 n86 c87)]) (O := O) (j := 0) rfl)).st (.dr _ (L := [blk (.slice A85 n86 c87)]) (O := O) (j := 0) rfl)).st (.new _ g119)).st (.owns _ g127 hk140)).st (.own _ _ g144 (oge hl145))).st (.wl (L := [some b143, blk (.slice A128 n129 c130), blk (.slice A133 n134 c135)]) (O := O) (j := 0) rfl g151))
      refine L_pu (P_lda ag40 sz40 cL ⟨b31, 0, none⟩ [.slice A11 n12 c13, .slice A16 n17 c18] rfl rfl (h154.cells (off := 0) rfl)) ?_
      refine L_call go20 [.agg #[.slice A11 n12 c13, .slice A16 n17 c18]] rfl ((laws_toRepo.calls w150 hc153.ok aB A11 n12 c13 A16 n17 c18 (hp14.st hc153.st) (hp19.st hc153.st) _ H).mono ?_)
      rintro _ w155 ⟨r7, A157, n158, c159, A162, n163, c164, rfl, H, g156, hk168, hk169, h160, h165⟩
      have hc170 := hc153.owns g156 hk168 hk169
      refine L_alloc [.slice none 0 0, .slice none 0 0] ze46 fun w171 b172 hl174 hu175 g173 hx176 => ?_
      have hc178 := hc170.own g173 (some b172) (oglt hl174 hu175)
      refine L_stb b172 0 [.slice none 0 0, .slice none 0 0] [.slice A157 n158 c159, .slice A162 n163 c164] [.slice A157 n158 c159, .slice A162 n163 c164] rfl hx176 rfl sz46 rfl rfl rfl fun w179 g180 hx181 => ?_
      have hc182 := hc178.wr 0 rfl g180
      refine L_nil ?_
      refine W_seq ?_
      refine W_reg ?_
      have h183 := (Bx.sm (L := [some b172, blk (.slice A157 n158 c159), blk (.slice A162 n163 c164), some b143, blk (.slice A128 n129 c130), blk (.slice A133 n134 c135)]) (O := O) ((hx152.k0 g156).k0 g173) hc178 (i := 3) rfl (j := 0) rfl (by decide) g180)
      refine L_pu (P_lda ag46 sz46 cL ⟨b143, 0, none⟩ [.slice A128 n129 c130, .slice A133 n134 c135] rfl rfl (h183.cells (off := 0) rfl)) ?_
      refine L_pu (P_lda ag46 sz46 cL ⟨b172, 0, none⟩ [.slice A157 n158 c159, .slice A162 n163 c164] rfl rfl (hx181.cells (off := 0) rfl)) ?_
      have h184 := (Ow.sw (L := [some b172, blk (.slice A157 n158 c159), blk (.slice A162 n163 c164), some b143, blk (.slice A128 n129 c130), blk (.slice A133 n134 c135)]) (O := O) (((Ow.sw (L := [some b143, blk (.slice A128 n129 c130), blk (.slice A133 n134 c135)]) (O := O) (h131.so _ g144 (oge hl145)) hc149 (i := 1) rfl (j := 0) rfl (by decide) g151).sos g156 hk169).so _ g173 (oge hl174)) hc178 (i := 4) rfl (j := 0) rfl (by decide) g180)
      have h185 := Ow.gv (L := [some b172, blk (.slice A157 n158 c159), blk (.slice A162 n163 c164), some b143, blk (.slice A128 n129 c130), blk (.slice A133 n134 c135)]) (O := O) h184 hc182 (i := 4) rfl
      have hc186 := hc182.drop 4 rfl
      have h188 := (Ow.sd (L := [some b172, blk (.slice A157 n158 c159), blk (.slice A162 n163 c164), some b143, blk (.slice A128 n129 c130), blk (.slice A133 n134 c135)]) (O := O) (Ow.sw (L := [some b172, blk (.slice A157 n158 c159), blk (.slice A162 n163 c164), some b143, blk (.slice A128 n129 c130), blk (.slice A133 n134 c135)]) (O := O) (((Ow.sw (L := [some b143, blk (.slice A128 n129 c130), blk (.slice A133 n134 c135)]) (O := O) (h136.so _ g144 (oge hl145)) hc149 (i := 2) rfl (j := 0) rfl (by decide) g151).sos g156 hk169).so _ g173 (oge hl174)) hc178 (i := 5) rfl (j := 0) rfl (by decide) g180) (i := 5) rfl (j := 4) rfl (by decide))
      have h189 := Ow.gv (L := [some b172, blk (.slice A157 n158 c159), blk (.slice A162 n163 c164), some b143, blk (.slice A133 n134 c135)]) (O := O) h188 hc186 (i := 4) rfl
      have hc190 := hc186.drop 4 rfl
      have h192 := (Ow.sd (L := [some b172, blk (.slice A157 n158 c159), blk (.slice A162 n163 c164), some b143, blk (.slice A133 n134 c135)]) (O := O) (Ow.sd (L := [some b172, blk (.slice A157 n158 c159), blk (.slice A162 n163 c164), some b143, blk (.slice A128 n129 c130), blk (.slice A133 n134 c135)]) (O := O) (Ow.sw (L := [some b172, blk (.slice A157 n158 c159), blk (.slice A162 n163 c164), some b143, blk (.slice A128 n129 c130), blk (.slice A133 n134 c135)]) (O := O) (h160.so _ g173 (oge hl174)) hc178 (i := 1) rfl (j := 0) rfl (by decide) g180) (i := 1) rfl (j := 4) rfl (by decide)) (i := 1) rfl (j := 4) rfl (by decide))
      have h193 := Ow.gv (L := [some b172, blk (.slice A157 n158 c159), blk (.slice A162 n163 c164), some b143]) (O := O) h192 hc190 (i := 1) rfl
      have hc194 := hc190.drop 1 rfl
      have h196 := (Ow.sd (L := [some b172, blk (.slice A157 n158 c159), blk (.slice A162 n163 c164), some b143]) (O := O) (Ow.sd (L := [some b172, blk (.slice A157 n158 c159), blk (.slice A162 n163 c164), some b143, blk (.slice A133 n134 c135)]) (O := O) (Ow.sd (L := [some b172, blk (.slice A157 n158 c159), blk (.slice A162 n163 c164), some b143, blk (.slice A128 n129 c130), blk (.slice A133 n134 c135)]) (O := O) (Ow.sw (L := [some b172, blk (.slice A157 n158 c159), blk (.slice A162 n163 c164), some b143, blk (.slice A128 n129 c130), blk (.slice A133 n134 c135)]) (O := O) (h165.so _ g173 (oge hl174)) hc178 (i := 2) rfl (j := 0) rfl (by decide) g180) (i := 2) rfl (j := 4) rfl (by decide)) (i := 2) rfl (j := 4) rfl (by decide)) (i := 2) rfl (j := 1) rfl (by decide))
      have h197 := Ow.gv (L := [some b172, blk (.slice A162 n163 c164), some b143]) (O := O) h196 hc194 (i := 1) rfl
      have hc198 := hc194.drop 1 rfl
      have h200 := (((h185.st (.dr _ (L := [some b172, blk (.slice A157 n158 c159), blk (.slice A162 n163 c164), some b143, blk (.slice A133 n134 c135)]) (O := O) (j := 4) rfl)).st (.dr _ (L := [some b172, blk (.slice A157 n158 c159), blk (.slice A162 n163 c164), some b143]) (O := O) (j := 1) rfl)).st (.dr _ (L := [some b172, blk (.slice A162 n163 c164), some b143]) (O := O) (j := 1) rfl))
      have h201 := ((h189.st (.dr _ (L := [some b172, blk (.slice A157 n158 c159), blk (.slice A162 n163 c164), some b143]) (O := O) (j := 1) rfl)).st (.dr _ (L := [some b172, blk (.slice A162 n163 c164), some b143]) (O := O) (j := 1) rfl))
      have h202 := (h193.st (.dr _ (L := [some b172, blk (.slice A162 n163 c164), some b143]) (O := O) (j := 1) rfl))
      refine L_call go21 [.agg #[.slice A128 n129 c130, .slice A133 n134 c135], .agg #[.slice A157 n158 c159, .slice A162 n163 c164]] rfl ((impl_RepoSame.calls w179 hc198.ok r6 A128 n129 c130 A133 n134 c135 h200 h201 r7 A157 n158 c159 A162 n163 c164 h202 h197 _ H).mono ?_)
      rintro _ w203 ⟨r8, rfl, H, g204⟩
      have hc208 := hc198.k0 g204
      refine L_pu (P_assign (vb r8) rfl) ?_
      refine L_nil ?_
      refine W_seq ?_
      refine W_seq ?_
      refine W_reg ?_
      refine L_pu (P_move (vb r8) rfl) ?_
      refine L_pu (P_move (vb r5) rfl) ?_
      refine L_pu (P_bcmp Try.underlying4 r8 r5 (r8 != r5) rfl rfl rfl) ?_
      refine L_nil ?_
      refine W_cond (r8 != r5) rfl (fun hq209 => ?_) (fun hq209 => ?_)
      · have H := ite_t H hq209
        refine W_seq ?_
        refine W_reg ?_
        refine L_pu (P_assign (vb false) rfl) ?_
        refine L_nil ?_
        refine W_ret ?_
        have hc210 := hc208.drop 0 rfl
        have hc211 := hc210.drop 0 rfl
        exact ⟨[vb false], ⟨_, rfl, rfl⟩, false, rfl, H, hc211.gr⟩
      · have H := ite_f H hq209
        refine W_skip ?_
        refine W_seq ?_
        refine W_seq ?_
        refine W_mixr 5 (none) (by kernel_rfl) rfl fun w212 g213 hM214 => ?_
        have hc215 := hc208.k0 g213
        have h216 := ((h183.k0 g204).k0 g213)
        refine M_pu 0 rfl (by kernel_rfl) hM214 (P_lda ag46 sz46 cQ ⟨b143, 0, none⟩ [.slice A128 n129 c130, .slice A133 n134 c135] rfl rfl (h216.cells (off := 0) rfl)) ?_
        have h217 := ((((((((((((h125.st (.owns _ g127 hk140)).st (.own _ _ g144 (oge hl145))).st (.wl (L := [some b143, blk (.slice A128 n129 c130), blk (.slice A133 n134 c135)]) (O := O) (j := 0) rfl g151)).st (.owns _ g156 hk169)).st (.own _ _ g173 (oge hl174))).st (.wl (L := [some b172, blk (.slice A157 n158 c159), blk (.slice A162 n163 c164), some b143, blk (.slice A128 n129 c130), blk (.slice A133 n134 c135)]) (O := O) (j := 0) rfl g180)).st (.dr _ (L := [some b172, blk (.slice A157 n158 c159), blk (.slice A162 n163 c164), some b143, blk (.slice A128 n129 c130), blk (.slice A133 n134 c135)]) (O := O) (j := 4) rfl)).st (.dr _ (L := [some b172, blk (.slice A157 n158 c159), blk (.slice A162 n163 c164), some b143, blk (.slice A133 n134 c135)]) (O := O) (j := 4) rfl)).st (.dr _ (L := [some b172, blk (.slice A157 n158 c159), blk (.slice A162 n163 c164), some b143]) (O := O) (j := 1) rfl)).st (.dr _ (L := [some b172, blk (.slice A162 n163 c164), some b143]) (O := O) (j := 1) rfl)).st (.new _ g204)).st (.new _ g213))
        refine M_pu 1 rfl (by kernel_rfl) hM214 (P_lda ag40 sz40 cQ ⟨b22, 0, none⟩ [.slice A1 n2 c3, .slice A6 n7 c8] rfl rfl (h217.cells (off := 0) rfl)) ?_
        refine M_any1 2 (by kernel_rfl) rfl ?_
        refine L_call go20 [.agg #[.slice A1 n2 c3, .slice A6 n7 c8]] rfl ((laws_toRepo.calls w212 hc215.ok aA A1 n2 c3 A6 n7 c8 (hp4.st hc215.st) (hp9.st hc215.st) _ H).mono ?_)
        rintro _ w218 ⟨r9, A220, n221, c222, A225, n226, c227, rfl, H, g219, hk231, hk232, h223, h228⟩
        have hc233 := hc215.owns g219 hk231 hk232
        have hM234 := Gr.tm hM214 g219
        refine L_nil ⟨hM234, ?_⟩
        refine M_any1 3 (by kernel_rfl) rfl ?_
        have h235 := Ow.gv (L := [blk (.slice A220 n221 c222), blk (.slice A225 n226 c227), some b172, some b143]) (O := O) h223 hc233 (i := 0) rfl
        have hc236 := hc233.drop 0 rfl
        have h239 := (Ow.sd (L := [blk (.slice A220 n221 c222), blk (.slice A225 n226 c227), some b172, some b143]) (O := O) h228 (i := 1) rfl (j := 0) rfl (by decide))
        have h240 := Ow.gv (L := [blk (.slice A225 n226 c227), some b172, some b143]) (O := O) h239 hc236 (i := 0) rfl
        have hc241 := hc236.drop 0 rfl
        have h244 := (((((h200.st (.new _ g204)).st (.new _ g213)).st (.owns _ g219 hk232)).st (.dr _ (L := [blk (.slice A220 n221 c222), blk (.slice A225 n226 c227), some b172, some b143]) (O := O) (j := 0) rfl)).st (.dr _ (L := [blk (.slice A225 n226 c227), some b172, some b143]) (O := O) (j := 0) rfl))
        have h245 := (((((h201.st (.new _ g204)).st (.new _ g213)).st (.owns _ g219 hk232)).st (.dr _ (L := [blk (.slice A220 n221 c222), blk (.slice A225 n226 c227), some b172, some b143]) (O := O) (j := 0) rfl)).st (.dr _ (L := [blk (.slice A225 n226 c227), some b172, some b143]) (O := O) (j := 0) rfl))
        have h246 := (h235.st (.dr _ (L := [blk (.slice A225 n226 c227), some b172, some b143]) (O := O) (j := 0) rfl))
        refine L_call go22 [.agg #[.slice A128 n129 c130, .slice A133 n134 c135], .agg #[.slice A220 n221 c222, .slice A225 n226 c227]] rfl ((laws_eqRepo.calls w218 hc241.ok r6 A128 n129 c130 A133 n134 c135 h244 h245 r9 A220 n221 c222 A225 n226 c227 h246 h240 _ H).mono ?_)
        rintro _ w247 ⟨r10, rfl, H, g248⟩
        have hc252 := hc241.k0 g248
        have hM253 := Gr.tm hM234 g248
        refine L_nil ⟨hM253, ?_⟩
        refine M_pu 4 rfl (by kernel_rfl) hM253 (P_not r10 rfl) ?_
        refine M_nil (by kernel_rfl) ?_
        refine W_cond (!r10) rfl (fun hq254 => ?_) (fun hq254 => ?_)
        · have H := ite_t H hq254
          refine W_seq ?_
          refine W_reg ?_
          refine L_pu (P_assign (vb false) rfl) ?_
          refine L_nil ?_
          refine W_ret ?_
          have hc255 := hc252.drop 0 rfl
          have hc256 := hc255.drop 0 rfl
          exact ⟨[vb false], ⟨_, rfl, rfl⟩, false, rfl, H, hc256.gr⟩
        · have H := ite_f H hq254
          refine W_skip ?_
          refine W_seq ?_
          refine W_seq ?_
          refine W_mixr 5 (none) (by kernel_rfl) rfl fun w257 g258 hM259 => ?_
          have hc260 := hc252.k0 g258
          have h261 := (((((hx181.k0 g204).k0 g213).k0 g219).k0 g248).k0 g258)
          refine M_pu 0 rfl (by kernel_rfl) hM259 (P_lda ag46 sz46 cQ ⟨b172, 0, none⟩ [.slice A157 n158 c159, .slice A162 n163 c164] rfl rfl (h261.cells (off := 0) rfl)) ?_
          have h262 := ((((((((((((((h154.st (.owns _ g156 hk169)).st (.own _ _ g173 (oge hl174))).st (.wl (L := [some b172, blk (.slice A157 n158 c159), blk (.slice A162 n163 c164), some b143, blk (.slice A128 n129 c130), blk (.slice A133 n134 c135)]) (O := O) (j := 0) rfl g180)).st (.dr _ (L := [some b172, blk (.slice A157 n158 c159), blk (.slice A162 n163 c164), some b143, blk (.slice A128 n129 c130), blk (.slice A133 n134 c135)]) (O := O) (j := 4) rfl)).st (.dr _ (L := [some b172, blk (.slice A157 n158 c159), blk (.slice A162 n163 c164), some b143, blk (.slice A133 n134 c135)]) (O := O) (j := 4) rfl)).st (.dr _ (L := [some b172, blk (.slice A157 n158 c159), blk (.slice A162 n163 c164), some b143]) (O := O) (j := 1) rfl)).st (.dr _ (L := [some b172, blk (.slice A162 n163 c164), some b143]) (O := O) (j := 1) rfl)).st (.new _ g204)).st (.new _ g213)).st (.owns _ g219 hk232)).st (.dr _ (L := [blk (.slice A220 n221 c222), blk (.slice A225 n226 c227), some b172, some b143]) (O := O) (j := 0) rfl)).st (.dr _ (L := [blk (.slice A225 n226 c227), some b172, some b143]) (O := O) (j := 0) rfl)).st (.new _ g248)).st (.new _ g258))
          refine M_pu 1 rfl (by kernel_rfl) hM259 (P_lda ag40 sz40 cQ ⟨b31, 0, none⟩ [.slice A11 n12 c13, .slice A16 n17 c18] rfl rfl (h262.cells (off := 0) rfl)) ?_
          refine M_any1 2 (by kernel_rfl) rfl ?_
          refine L_call go20 [.agg #[.slice A11 n12 c13, .slice A16 n17 c18]] rfl ((laws_toRepo.calls w257 hc260.ok aB A11 n12 c13 A16 n17 c18 (hp14.st hc260.st) (hp19.st hc260.st) _ H).mono ?_)
          rintro _ w263 ⟨r11, A265, n266, c267, A270, n271, c272, rfl, H, g264, hk276, hk277, h268, h273⟩
          have hc278 := hc260.owns g264 hk276 hk277
          have hM279 := Gr.tm hM259 g264
          refine L_nil ⟨hM279, ?_⟩
          refine M_any1 3 (by kernel_rfl) rfl ?_
          have h280 := Ow.gv (L := [blk (.slice A265 n266 c267), blk (.slice A270 n271 c272), some b172, some b143]) (O := O) h268 hc278 (i := 0) rfl
          have hc281 := hc278.drop 0 rfl
          have h284 := (Ow.sd (L := [blk (.slice A265 n266 c267), blk (.slice A270 n271 c272), some b172, some b143]) (O := O) h273 (i := 1) rfl (j := 0) rfl (by decide))
          have h285 := Ow.gv (L := [blk (.slice A270 n271 c272), some b172, some b143]) (O := O) h284 hc281 (i := 0) rfl
          have hc286 := hc281.drop 0 rfl
          have h289 := ((((((((((h202.st (.new _ g204)).st (.new _ g213)).st (.owns _ g219 hk232)).st (.dr _ (L := [blk (.slice A220 n221 c222), blk (.slice A225 n226 c227), some b172, some b143]) (O := O) (j := 0) rfl)).st (.dr _ (L := [blk (.slice A225 n226 c227), some b172, some b143]) (O := O) (j := 0) rfl)).st (.new _ g248)).st (.new _ g258)).st (.owns _ g264 hk277)).st (.dr _ (L := [blk (.slice A265 n266 c267), blk (.slice A270 n271 c272), some b172, some b143]) (O := O) (j := 0) rfl)).st (.dr _ (L := [blk (.slice A270 n271 c272), some b172, some b143]) (O := O) (j := 0) rfl))
          have h290 := ((((((((((h197.st (.new _ g204)).st (.new _ g213)).st (.owns _ g219 hk232)).st (.dr _ (L := [blk (.slice A220 n221 c222), blk (.slice A225 n226 c227), some b172, some b143]) (O := O) (j := 0) rfl)).st (.dr _ (L := [blk (.slice A225 n226 c227), some b172, some b143]) (O := O) (j := 0) rfl)).st (.new _ g248)).st (.new _ g258)).st (.owns _ g264 hk277)).st (.dr _ (L := [blk (.slice A265 n266 c267), blk (.slice A270 n271 c272), some b172, some b143]) (O := O) (j := 0) rfl)).st (.dr _ (L := [blk (.slice A270 n271 c272), some b172, some b143]) (O := O) (j := 0) rfl))
          have h291 := (h280.st (.dr _ (L := [blk (.slice A270 n271 c272), some b172, some b143]) (O := O) (j := 0) rfl))
          refine L_call go22 [.agg #[.slice A157 n158 c159, .slice A162 n163 c164], .agg #[.slice A265 n266 c267, .slice A270 n271 c272]] rfl ((laws_eqRepo.calls w263 hc286.ok r7 A157 n158 c159 A162 n163 c164 h289 h290 r11 A265 n266 c267 A270 n271 c272 h291 h285 _ H).mono ?_)
          rintro _ w292 ⟨r12, rfl, H, g293⟩
          have hc297 := hc286.k0 g293
          have hM298 := Gr.tm hM279 g293
          refine L_nil ⟨hM298, ?_⟩
          refine M_pu 4 rfl (by kernel_rfl) hM298 (P_not r12 rfl) ?_
          refine M_nil (by kernel_rfl) ?_
          refine W_cond (!r12) rfl (fun hq299 => ?_) (fun hq299 => ?_)
          · have H := ite_t H hq299
            refine W_seq ?_
            refine W_reg ?_
            refine L_pu (P_assign (vb false) rfl) ?_
            refine L_nil ?_
            refine W_ret ?_
            have hc300 := hc297.drop 0 rfl
            have hc301 := hc300.drop 0 rfl
            exact ⟨[vb false], ⟨_, rfl, rfl⟩, false, rfl, H, hc301.gr⟩
          · have H := ite_f H hq299
            refine W_skip ?_
            refine W_seq ?_
            refine W_reg ?_
            refine L_pu (P_assign (vb true) rfl) ?_
            refine L_nil ?_
            refine W_ret ?_
            have hc302 := hc297.drop 0 rfl
            have hc303 := hc302.drop 0 rfl
            exact ⟨[vb true], ⟨_, rfl, rfl⟩, true, rfl, H, hc303.gr⟩
end Go.Proofs.Ythkeboifjlnjjaa

namespace Go.Proofs.Ythkeboifjlnjjaa
set_option linter.unusedVariables false
set_option linter.unusedSimpArgs false
set_option linter.unusedSectionVars false
theorem laws_FnExactRepoSame.law (a : Repo) (_ : vRepo a) (b : Repo) (_ : vRepo b) : laws_FnExactRepoSame.E a b (fun r => r = true) := by
  unfold laws_FnExactRepoSame.E
  refine laws_szRepo.law a _ _ (by decide) (by decide) (fun _ => rfl) (fun h1 => ?_)
  rw [if_neg (by rw [decide_eq_false (by omega)]; exact Bool.false_ne_true)]
  refine laws_szRepo.law b _ _ (by omega) (by omega) (fun _ => rfl) (fun h2 => ?_)
  rw [if_neg (by rw [decide_eq_false (by omega)]; exact Bool.false_ne_true)]
  refine laws_toRepo.law a _ (by omega) (laws_toRepo.law b _ (by omega) (spec_RepoSame.law _ _ _ (laws_toRepo.law a _ (by omega) (laws_toRepo.law b _ (by omega) (impl_RepoSame.law _ _ _ (by omega) ?_)))))
  rw [if_neg (by simp)]
  refine laws_toRepo.law a _ (by omega) (laws_eqRepo.law _ _ _ ?_)
  rw [decide_eq_true rfl, if_neg (by decide)]
  refine laws_toRepo.law b _ (by omega) (laws_eqRepo.law _ _ _ ?_)
  rw [decide_eq_true rfl, if_neg (by decide)]
end Go.Proofs.Ythkeboifjlnjjaa

namespace Go.Proofs.Ythkeboifjlnjjaa.rFnExactRepoSame
open Go.ChangeShapes Go.WideShapes Go.ChangeAt Go.RowKit
open Go.ChangeMaps (open_string shut_string)
set_option linter.unusedVariables false
theorem own : ownKnob Try.prog.godebug = none := by kernel_rfl
theorem laidOut : laidOutB Try.prog = true := by kernel_rfl
set_option maxRecDepth 100000 in
theorem lifted (os : Os) (started : os.Started) (H : Type) (enc : TypeId × Value → H) :
    ReturnsInHanded {} Try.checked os 5 .any (Rows.fnExactRepoSameSpec.pre6 enc Try.prog Try.f5 Rows.fnExactRepoSameRow.domain false) (Rows.fnExactRepoSameSpec.post enc Try.prog Try.f5 false true false false) := by
  refine returnsInHanded_of_change_sized (C := Try.checked) own started (by kernel_rfl) Try.func5
    (ChangeSpec.witness6 (enc := enc) (C := Try.checked) false ⟨#[], #[.agg #[.slice none 0 0, .slice none 0 0], .agg #[.slice none 0 0, .slice none 0 0]], []⟩ 8 (by kernel_rfl) (by kernel_rfl) (by kernel_rfl) (by kernel_rfl)) ?_
  intro W base args ds gs before hval0 hW hcnd hsz0 _
  have hval : ∀ (j : Nat) t v, Try.f5.params[j]? = some t → args[j]? = some v → Value.okWide Try.prog W .any base t v := hval0
  have hW' := hW
  obtain ⟨p, q, hA0, hV, rfl, hfz, hnd⟩ := hW
  have hA : DataW.TrodAll enc Try.prog W 0 (fun _ => true) true Try.f5.params.toList args.toList ds p := hA0
  rw [Try.params5] at hA hval
  obtain ⟨v0, vs0, d0, ds0, p0, q0, hargs, rfl, rfl, h0, r0⟩ := trodAll_cons hA
  obtain ⟨v1, vs1, d1, ds1, p1, q1, rfl, rfl, rfl, h1, r1⟩ := trodAll_cons r0
  obtain ⟨rfl, rfl, rfl⟩ := trodAll_nil r1
  obtain rfl : args = #[v0, v1] := by cases args; simp_all
  obtain ⟨rfl, rfl⟩ := trodVars_none hV
  have k0 := h0
  have lt0 : ∀ x ∈ p0, x.block < W.heap.size := by obtain ⟨m, hm⟩ := k0; exact DataW.trod_lt m _ _ _ hm
  obtain ⟨x0, hv0, hx0⟩ : ∃ a : Repo, (vRepo a) ∧ kRepo.R W (Fr []) a v0.cells.toList := by obtain ⟨fuel, hf⟩ := h0; exact tr40 H enc W fuel _ _ hf
  obtain ⟨b0, rfl, _, _⟩ : ∃ cs, v0 = .agg cs ∧ cs.size = _ ∧ Row.okWide _ _ _ _ _ cs := hval 0 40 v0 rfl rfl
  have y0 := kRepo.op hx0
  obtain ⟨A0_0, N0_0, C0_0, A0_1, N0_1, C0_1, e0, H0_0, H0_1⟩ := y0
  obtain ⟨b0⟩ := b0
  simp only [Value.cells] at e0
  subst e0
  have k1 := h1
  have lt1 : ∀ x ∈ p1, x.block < W.heap.size := by obtain ⟨m, hm⟩ := k1; exact DataW.trod_lt m _ _ _ hm
  obtain ⟨x1, hv1, hx1⟩ : ∃ a : Repo, (vRepo a) ∧ kRepo.R W (Fr []) a v1.cells.toList := by obtain ⟨fuel, hf⟩ := h1; exact tr40 H enc W fuel _ _ hf
  obtain ⟨b1, rfl, _, _⟩ : ∃ cs, v1 = .agg cs ∧ cs.size = _ ∧ Row.okWide _ _ _ _ _ cs := hval 1 40 v1 rfl rfl
  have y1 := kRepo.op hx1
  obtain ⟨A1_0, N1_0, C1_0, A1_1, N1_1, C1_1, e1, H1_0, H1_1⟩ := y1
  obtain ⟨b1⟩ := b1
  simp only [Value.cells] at e1
  subst e1
  clear hA0 hval0 hsz0
  refine Calls.mono (laws_FnExactRepoSame.calls W (Ok.nil W) x0 A0_0 N0_0 C0_0 A0_1 N0_1 C0_1 H0_0 H0_1 x1 A1_0 N1_0 C1_0 A1_1 N1_1 C1_1 H1_0 H1_1 (fun r => r = true) (laws_FnExactRepoSame.law x0 hv0 x1 hv1)) fun e W' ⟨v, he, r, hr, hq, hg⟩ => ?_
  subst he; subst hr; subst hq
  have bel := Gr.below hg
  exact ⟨_, rfl, _, _, _, [], _, [], hW', trodAll_mk1 (shut_bool Try.underlying4 _), (trodAll_cons_mk (Below.trod laidOut (by kernel_rfl) (of_decide_eq_true (by kernel_rfl)) k0 bel lt0) (trodAll_cons_mk (Below.trod laidOut (by kernel_rfl) (of_decide_eq_true (by kernel_rfl)) k1 bel lt1) trodAll_mk0)), rfl, bel.frame _, fun h => by cases h⟩
theorem over : Rows.fnExactRepoSameRow.holds Try.pinned (OpenSpec.ofChange Rows.fnExactRepoSameSpec) :=
  OpenClaim.holds_of_wide 5 Try.f5 rfl rfl rfl rfl rfl rfl rfl ⟨rfl, rfl, rfl, rfl, rfl⟩ rfl rfl rfl rfl rfl (by kernel_rfl) Try.func5 (by kernel_rfl)
    (of_decide_eq_true (by kernel_rfl)) (by unfold Func.isWrapper; first | (rw [if_pos (by decide +kernel)]; kernel_rfl) | (rw [if_neg (by decide +kernel)]; exact ⟨rfl, rfl⟩))
    (fun os started H enc _ => lifted os started H enc)
theorem proved : Rows.FnExactRepoSameSaid := over
#print axioms proved
end Go.Proofs.Ythkeboifjlnjjaa.rFnExactRepoSame
namespace Go.Proofs.Ythkeboifjlnjjaa
theorem fnExactRepoSame_holds : Rows.FnExactRepoSameSaid := rFnExactRepoSame.proved
end Go.Proofs.Ythkeboifjlnjjaa
