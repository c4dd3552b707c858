/- It is proved here that the law FnExactRepoAhead of the given program holds whatever it is handed: the walks through the code, the plain laws and the row, in this order.
   Conditions: none. -/
import Derived.Below
import Derived.ChangeArms
import Derived.ChangeOld
import Derived.ChangeSlices
import Derived.DataReads
import Derived.Deep.Quiet
import Derived.KernelRfl
import Derived.Laws.Build
import Derived.Laws.OwnMore
import Derived.Laws.Slices
import Derived.Laws.StructEq
import Derived.OpenShut
import Derived.ProofKit
import Derived.ShutString
import Derived.SizedLaws
import Derived.StillTail
import Derived.Test.YthkeboifjlnjjaaProg
import Derived.Test.YthkeboifjlnjjaaRows
import Derived.WalkKit
import Derived.Test.YthkeboifjlnjjaaCExactRepoAheada
import Derived.Test.YthkeboifjlnjjaaCExactRepoAheadb
import Derived.Test.YthkeboifjlnjjaaCExactRepoAheadc
import Derived.Test.YthkeboifjlnjjaaCExactRepoAheadd
namespace Go.Proofs.Ythkeboifjlnjjaa
set_option linter.unusedVariables false
set_option linter.unusedSimpArgs false
set_option linter.unusedSectionVars false
theorem laws_eqCommitS.law (a b : List Commit) (Q : Bool → Prop) (hq : Q (decide (a = b))) : laws_eqCommitS.E a b Q := by
  unfold laws_eqCommitS.E
  exact eqS_shape (fun x y => decide (x = y)) (fun _ _ => rfl) a b Q hq
theorem laws_eqCommitS.is (a b : List Commit) : laws_eqCommitS.E a b (fun r => r = decide (a = b)) := laws_eqCommitS.law a b _ rfl
end Go.Proofs.Ythkeboifjlnjjaa

namespace Go.Proofs.Ythkeboifjlnjjaa
open Go.RowKit
set_option linter.unusedVariables false
def laws_eqHead.E (a : Head) (b : Head) (Q : Bool → Prop) : Prop :=
  (if a.Name != b.Name then Q false else (if a.At != b.At then Q false else Q true))
set_option maxHeartbeats 8000000 in
set_option maxRecDepth 100000 in
theorem laws_eqHead.calls {O : Ob} (w0 : World) (hO : Ok w0 O) (a : Head) (hs1 : Lim a.Name) (b : Head) (hs2 : Lim b.Name) (Q : Bool → Prop) (h : laws_eqHead.E a b Q) :
    Ret Try.prog 91 [.agg #[vs a.Name, vi a.At], .agg #[vs b.Name, vi b.At]] w0 (fun v w' => ∃ (r0 : Bool), v = vb r0 ∧ Q r0 ∧ Gr w0 w' none) := by
  have H : (if a.Name != b.Name then Q false else (if a.At != b.At then Q false else Q true)) := h
  clear h
  have hc0 := Ct.init hO
  refine Ret_enter Try.func91 rfl 15 rfl [.tmp 4] rfl rfl ?_
  refine W_seq ?_
  refine W_reg ?_
  refine L_box [vs a.Name, vi a.At] rfl fun w3 b4 hl6 hu7 g5 hx8 => ?_
  have h10 := Fb.mk hc0.ok hl6 hx8
  have hc11 := hc0.k0 g5
  refine L_box [vs b.Name, vi b.At] rfl fun w12 b13 hl15 hu16 g14 hx17 => ?_
  have h19 := Fb.mk hc11.ok hl15 hx17
  have hc20 := hc11.k0 g14
  refine L_pu (P_assign (vb false) rfl) ?_
  refine L_nil ?_
  refine W_seq ?_
  refine W_seq ?_
  refine W_reg ?_
  refine L_pu (P_fa fa95_0 ⟨b4, 0, none⟩ ⟨b4, 0, none⟩ rfl rfl) ?_
  have h21 := (h10.st (.new _ g14))
  refine L_pu (P_ld ag9 cL ⟨b4, 0, none⟩ (vs a.Name) rfl (h21.cell rfl)) ?_
  refine L_pu (P_fa fa95_0 ⟨b13, 0, none⟩ ⟨b13, 0, none⟩ rfl rfl) ?_
  refine L_pu (P_ld ag9 cL ⟨b13, 0, none⟩ (vs b.Name) rfl (h19.cell rfl)) ?_
  refine L_pu (P_scmp a.Name b.Name (a.Name != b.Name) rfl rfl rfl) ?_
  refine L_nil ?_
  refine W_cond (a.Name != b.Name) rfl (fun hq22 => ?_) (fun hq22 => ?_)
  · have H := ite_t H hq22
    refine W_seq ?_
    refine W_reg ?_
    refine L_pu (P_assign (vb false) rfl) ?_
    refine L_nil ?_
    refine W_ret ?_
    exact ⟨[vb false], ⟨_, rfl, rfl⟩, false, rfl, H, hc20.gr⟩
  · have H := ite_f H hq22
    refine W_skip ?_
    refine W_seq ?_
    refine W_seq ?_
    refine W_reg ?_
    refine L_pu (P_fa fa95_1 ⟨b4, 0, none⟩ ⟨b4, 1, none⟩ rfl rfl) ?_
    refine L_pu (P_ld ag3 cL ⟨b4, 1, none⟩ (vi a.At) rfl (h21.cell rfl)) ?_
    refine L_pu (P_fa fa95_1 ⟨b13, 0, none⟩ ⟨b13, 1, none⟩ rfl rfl) ?_
    refine L_pu (P_ld ag3 cL ⟨b13, 1, none⟩ (vi b.At) rfl (h19.cell rfl)) ?_
    refine L_pu (P_cmp a.At b.At (a.At != b.At) rfl rfl rfl) ?_
    refine L_nil ?_
    refine W_cond (a.At != b.At) rfl (fun hq23 => ?_) (fun hq23 => ?_)
    · have H := ite_t H hq23
      refine W_seq ?_
      refine W_reg ?_
      refine L_pu (P_assign (vb false) rfl) ?_
      refine L_nil ?_
      refine W_ret ?_
      exact ⟨[vb false], ⟨_, rfl, rfl⟩, false, rfl, H, hc20.gr⟩
    · have H := ite_f H hq23
      refine W_skip ?_
      refine W_seq ?_
      refine W_reg ?_
      refine L_pu (P_assign (vb true) rfl) ?_
      refine L_nil ?_
      refine W_ret ?_
      exact ⟨[vb true], ⟨_, rfl, rfl⟩, true, rfl, H, hc20.gr⟩
def laws_eqHead.m (a : Head) (b : Head) : Bool := (if a.Name != b.Name then false else (if a.At != b.At then false else true))
theorem laws_eqHead.fn (a : Head) (b : Head) : laws_eqHead.E a b (fun r => r = laws_eqHead.m a b) := by
  unfold laws_eqHead.E laws_eqHead.m
  (repeat' split) <;> simp_all
end Go.Proofs.Ythkeboifjlnjjaa

namespace Go.Proofs.Ythkeboifjlnjjaa
set_option linter.unusedVariables false
set_option linter.unusedSimpArgs false
set_option linter.unusedSectionVars false
theorem laws_eqHead.law (a b : Head) (Q : Bool → Prop) (hq : Q (decide (a = b))) : laws_eqHead.E a b Q := by
  obtain ⟨x0, x1⟩ := a; obtain ⟨y0, y1⟩ := b
  rw [show (decide ((⟨x0, x1⟩ : Head) = ⟨y0, y1⟩)) = ((decide (x0 = y0)) && (decide (x1 = y1))) by simp only [Head.mk.injEq, Bool.decide_and]] at hq
  unfold laws_eqHead.E
  by_cases h0 : x0 = y0
  case neg => simpa [h0] using hq
  simp only [h0, decide_true, Bool.true_and, bne_self_eq_false, Bool.not_true, Bool.false_eq_true, if_false] at hq ⊢
  by_cases h1 : x1 = y1
  case neg => simpa [h1] using hq
  simp only [h1, decide_true, Bool.true_and, bne_self_eq_false, Bool.not_true, Bool.false_eq_true, if_false] at hq ⊢
  all_goals (try exact hq)
theorem laws_eqHead.is (a b : Head) : laws_eqHead.E a b (fun r => r = decide (a = b)) := laws_eqHead.law a b _ rfl
end Go.Proofs.Ythkeboifjlnjjaa

namespace Go.Proofs.Ythkeboifjlnjjaa
open Go.RowKit
set_option linter.unusedVariables false
def laws_eqHeadS.E (a : List Head) (b : List Head) (Q : Bool → Prop) : Prop :=
  (if (a.length : Int) != (b.length : Int) then Q false else (∃ (I32 : Int → Prop) (mu33 : Int → Nat), I32 0 ∧ ∀ (i2 : Int), I32 i2 → (if decide (i2 < (a.length : Int)) then ((0 : Int) ≤ i2 ∧ i2 < (a.length : Int)) ∧ ((0 : Int) ≤ i2 ∧ i2 < (b.length : Int)) ∧ (if !(decide ((nth a i2) = (nth b i2))) then Q false else (-9223372036854775808 ≤ i2) ∧ I32 (i2 + 1) ∧ mu33 (i2 + 1) < mu33 i2) else Q true)))
set_option maxHeartbeats 8000000 in
set_option maxRecDepth 100000 in
theorem laws_eqHeadS.calls {O : Ob} (w0 : World) (hO : Ok w0 O) (a : List Head) (A1 : Option Addr) (n2 c3 : Nat) (hp4 : Sl kHead w0 (Fr O) (.slice A1 n2 c3) a) (b : List Head) (A6 : Option Addr) (n7 c8 : Nat) (hp9 : Sl kHead w0 (Fr O) (.slice A6 n7 c8) b) (Q : Bool → Prop) (h : laws_eqHeadS.E a b Q) :
    Ret Try.prog 54 [.slice A1 n2 c3, .slice A6 n7 c8] w0 (fun v w' => ∃ (r0 : Bool), v = vb r0 ∧ Q r0 ∧ Gr w0 w' none) := by
  have H : (if (a.length : Int) != (b.length : Int) then Q false else (∃ (I32 : Int → Prop) (mu33 : Int → Nat), I32 0 ∧ ∀ (i2 : Int), I32 i2 → (if decide (i2 < (a.length : Int)) then ((0 : Int) ≤ i2 ∧ i2 < (a.length : Int)) ∧ ((0 : Int) ≤ i2 ∧ i2 < (b.length : Int)) ∧ (if !(decide ((nth a i2) = (nth b i2))) then Q false else (-9223372036854775808 ≤ i2) ∧ I32 (i2 + 1) ∧ mu33 (i2 + 1) < mu33 i2) else Q true))) := h
  clear h
  have hc0 := Ct.init hO
  refine Ret_enter Try.func54 rfl 27 rfl [.tmp 4] rfl rfl ?_
  refine W_seq ?_
  refine W_reg ?_
  refine L_pu (P_assign (vb false) rfl) ?_
  refine L_nil ?_
  refine W_seq ?_
  refine W_seq ?_
  refine W_reg ?_
  refine L_pu (P_move (.slice A1 n2 c3) rfl) ?_
  have hl11 := hp4.le
  refine L_pu (P_len Try.underlying44 A1 n2 c3 hp4.len rfl) ?_
  refine L_pu (P_move (.slice A6 n7 c8) rfl) ?_
  have hl12 := hp9.le
  refine L_pu (P_len Try.underlying44 A6 n7 c8 hp9.len rfl) ?_
  refine L_pu (P_cmp (a.length : Int) (b.length : Int) ((a.length : Int) != (b.length : Int)) rfl rfl rfl) ?_
  refine L_nil ?_
  refine W_cond ((a.length : Int) != (b.length : Int)) rfl (fun hq13 => ?_) (fun hq13 => ?_)
  · have H := ite_t H hq13
    refine W_seq ?_
    refine W_reg ?_
    refine L_pu (P_assign (vb false) rfl) ?_
    refine L_nil ?_
    refine W_ret ?_
    exact ⟨[vb false], ⟨_, rfl, rfl⟩, false, rfl, H, hc0.gr⟩
  · have H := ite_f H hq13
    refine W_skip ?_
    refine W_seq ?_
    refine W_seq ?_
    refine W_reg ?_
    refine L_pu (P_assign (vi 0) rfl) ?_
    refine L_nil ?_
    refine W_block ?_
    obtain ⟨I32, mu33, hI34, H⟩ := H
    refine W_loop (α := Int) (fun (sv__ : Int) t w26 => match sv__ with | i2 => I32 i2 ∧ Has t [(0, .slice A1 n2 c3), (1, .slice A6 n7 c8), (5, vi i2)] ∧ Ct none w0 w26 [] O ∧ Sl kHead w26 (Fr ([] ++ O)) (.slice A1 n2 c3) a ∧ Sl kHead w26 (Fr ([] ++ O)) (.slice A6 n7 c8) b) (fun (sv__ : Int) => match sv__ with | i2 => mu33 i2) 0 ⟨hI34, ⟨rfl, rfl, rfl, trivial⟩, hc0, hp4, hp9⟩ ?_
    rintro i2 _ w26 ⟨hI34, hh36, hc29, h30, h31⟩
    obtain ⟨u37, rfl⟩ := Has.ins hh36
    have H := H i2 hI34
    refine W_seq ?_
    refine W_seq ?_
    refine W_reg ?_
    refine L_pu (P_move (vi i2) rfl) ?_
    refine L_pu (P_move (.slice A1 n2 c3) rfl) ?_
    have hl38 := h30.le
    refine L_pu (P_len Try.underlying44 A1 n2 c3 h30.len rfl) ?_
    refine L_pu (P_cmp i2 (a.length : Int) (decide (i2 < (a.length : Int))) rfl rfl rfl) ?_
    refine L_nil ?_
    refine W_cond (decide (i2 < (a.length : Int))) rfl (fun hq39 => ?_) (fun hq39 => ?_)
    · have H := ite_t H hq39
      refine W_skip ?_
      refine W_seq ?_
      refine W_block ?_
      refine W_seq ?_
      refine W_draw (fun x => Gr w26 x none) (by kernel_rfl) (by kernel_rfl) (Gr.drew _) ?_
      refine Q_pu (P_move (.slice A1 n2 c3) rfl) ?_
      refine Q_pu (P_move (vi i2) rfl) ?_
      obtain ⟨hb40, H⟩ := H
      obtain ⟨ad41, cs42, hA43, hS46, hR44, hcl45⟩ := h30.get default (by decide) i2 hb40
      obtain ⟨rfl, hs47⟩ := kHead.op hR44
      refine Q_pu (P_ia Try.underlying44 se44 A1 ad41 n2 c3 h30.len i2 rfl hA43 rfl hb40) ?_
      refine Q_pu (P_lda ag95 sz95 cQ (ad41.add (i2.toNat * 2)) [vs ((nth a i2).Name), vi ((nth a i2).At)] rfl rfl hcl45) ?_
      refine Q_pu (P_move (.slice A6 n7 c8) rfl) ?_
      refine Q_pu (P_move (vi i2) rfl) ?_
      obtain ⟨hb48, H⟩ := H
      obtain ⟨ad49, cs50, hA51, hS54, hR52, hcl53⟩ := h31.get default (by decide) i2 hb48
      obtain ⟨rfl, hs55⟩ := kHead.op hR52
      refine Q_pu (P_ia Try.underlying44 se44 A6 ad49 n7 c8 h31.len i2 rfl hA51 rfl hb48) ?_
      refine Q_pu (P_lda ag95 sz95 cQ (ad49.add (i2.toNat * 2)) [vs ((nth b i2).Name), vi ((nth b i2).At)] rfl rfl hcl53) ?_
      refine Q_call go91 [.agg #[vs ((nth a i2).Name), vi ((nth a i2).At)], .agg #[vs ((nth b i2).Name), vi ((nth b i2).At)]] rfl (vb (decide ((nth a i2) = (nth b i2)))) (fun w g => (laws_eqHead.calls w (hc29.k0 g).ok (nth a i2) hs47 (nth b i2) hs55 _ (laws_eqHead.is (nth a i2) (nth b i2))).mono ?_) ?_
      · rintro _ w ⟨r, rfl, rfl, g2⟩
        exact ⟨rfl, Gr.t0 g g2⟩
      refine Q_pu (P_not (decide ((nth a i2) = (nth b i2))) rfl) ?_
      refine Q_nil fun w61 g62 => ?_
      have hc64 := hc29.k0 g62
      refine W_cond (!(decide ((nth a i2) = (nth b i2)))) rfl (fun hq65 => ?_) (fun hq65 => ?_)
      · have H := ite_t H hq65
        refine W_seq ?_
        refine W_reg ?_
        refine L_pu (P_assign (vb false) rfl) ?_
        refine L_nil ?_
        refine W_ret ?_
        exact ⟨[vb false], ⟨_, rfl, rfl⟩, false, rfl, H, hc64.gr⟩
      · have H := ite_f H hq65
        refine W_skip ?_
        refine W_reg ?_
        refine L_pu (P_move (vi i2) rfl) ?_
        obtain ⟨hb67, H⟩ := H
        have hi66 : I64 (i2 + 1) := i64_succ (of_decide_eq_true hq39) hl38 hb67
        refine L_pu (P_add i2 1 rfl rfl hi66) ?_
        refine L_pu (P_assign (vi (i2 + 1)) rfl) ?_
        refine L_nil ?_
        obtain ⟨hI68, hm69⟩ := H
        exact ⟨i2 + 1, hm69, hI68, ⟨rfl, rfl, rfl, trivial⟩, hc64, (h30.st (.new _ g62)), (h31.st (.new _ g62))⟩
    · have H := ite_f H hq39
      refine W_exit (xin_hit ?_)
      refine W_seq ?_
      refine W_reg ?_
      refine L_pu (P_assign (vb true) rfl) ?_
      refine L_nil ?_
      refine W_ret ?_
      exact ⟨[vb true], ⟨_, rfl, rfl⟩, true, rfl, H, hc29.gr⟩
end Go.Proofs.Ythkeboifjlnjjaa

namespace Go.Proofs.Ythkeboifjlnjjaa
set_option linter.unusedVariables false
set_option linter.unusedSimpArgs false
set_option linter.unusedSectionVars false
theorem laws_eqHeadS.law (a b : List Head) (Q : Bool → Prop) (hq : Q (decide (a = b))) : laws_eqHeadS.E a b Q := by
  unfold laws_eqHeadS.E
  exact eqS_shape (fun x y => decide (x = y)) (fun _ _ => rfl) a b Q hq
theorem laws_eqHeadS.is (a b : List Head) : laws_eqHeadS.E a b (fun r => r = decide (a = b)) := laws_eqHeadS.law a b _ rfl
end Go.Proofs.Ythkeboifjlnjjaa

namespace Go.Proofs.Ythkeboifjlnjjaa
open Go.RowKit
set_option linter.unusedVariables false
def laws_eqRepo.E (a : Repo) (b : Repo) (Q : Bool → Prop) : Prop :=
  laws_eqCommitS.E a.Commits b.Commits (fun r => (if !r then Q false else laws_eqHeadS.E a.Heads b.Heads (fun r2 => (if !r2 then Q false else Q true))))
set_option maxHeartbeats 8000000 in
set_option maxRecDepth 100000 in
theorem laws_eqRepo.calls {O : Ob} (w0 : World) (hO : Ok w0 O) (a : Repo) (A1 : Option Addr) (n2 c3 : Nat) (A6 : Option Addr) (n7 c8 : Nat) (hp4 : Sl kCommit w0 (Fr O) (.slice A1 n2 c3) a.Commits) (hp9 : Sl kHead w0 (Fr O) (.slice A6 n7 c8) a.Heads) (b : Repo) (A11 : Option Addr) (n12 c13 : Nat) (A16 : Option Addr) (n17 c18 : Nat) (hp14 : Sl kCommit w0 (Fr O) (.slice A11 n12 c13) b.Commits) (hp19 : Sl kHead w0 (Fr O) (.slice A16 n17 c18) b.Heads) (Q : Bool → Prop) (h : laws_eqRepo.E a b Q) :
    Ret Try.prog 22 [.agg #[.slice A1 n2 c3, .slice A6 n7 c8], .agg #[.slice A11 n12 c13, .slice A16 n17 c18]] w0 (fun v w' => ∃ (r0 : Bool), v = vb r0 ∧ Q r0 ∧ Gr w0 w' none) := by
  have H : laws_eqCommitS.E a.Commits b.Commits (fun r => (if !r then Q false else laws_eqHeadS.E a.Heads b.Heads (fun r2 => (if !r2 then Q false else Q true)))) := h
  clear h
  have hc0 := Ct.init hO
  refine Ret_enter Try.func22 rfl 17 rfl [.tmp 4] rfl rfl ?_
  refine W_seq ?_
  refine W_reg ?_
  refine L_box [.slice A1 n2 c3, .slice A6 n7 c8] rfl fun w21 b22 hl24 hu25 g23 hx26 => ?_
  have h28 := Fb.mk hc0.ok hl24 hx26
  have hc29 := hc0.k0 g23
  refine L_box [.slice A11 n12 c13, .slice A16 n17 c18] rfl fun w30 b31 hl33 hu34 g32 hx35 => ?_
  have h37 := Fb.mk hc29.ok hl33 hx35
  have hc38 := hc29.k0 g32
  refine L_pu (P_assign (vb false) rfl) ?_
  refine L_nil ?_
  refine W_seq ?_
  refine W_seq ?_
  refine W_reg ?_
  refine L_pu (P_fa fa46_0 ⟨b22, 0, none⟩ ⟨b22, 0, none⟩ rfl rfl) ?_
  have h39 := (h28.st (.new _ g32))
  refine L_pu (P_ld ag43 cL ⟨b22, 0, none⟩ (.slice A1 n2 c3) rfl (h39.cell rfl)) ?_
  refine L_pu (P_fa fa46_0 ⟨b31, 0, none⟩ ⟨b31, 0, none⟩ rfl rfl) ?_
  refine L_pu (P_ld ag43 cL ⟨b31, 0, none⟩ (.slice A11 n12 c13) rfl (h37.cell rfl)) ?_
  refine L_call go53 [.slice A1 n2 c3, .slice A11 n12 c13] rfl ((laws_eqCommitS.calls w30 hc38.ok a.Commits A1 n2 c3 (hp4.st hc38.st) b.Commits A11 n12 c13 (hp14.st hc38.st) _ H).mono ?_)
  rintro _ w40 ⟨r, rfl, H, g41⟩
  have hc45 := hc38.k0 g41
  refine L_pu (P_not r rfl) ?_
  refine L_nil ?_
  refine W_cond (!r) rfl (fun hq46 => ?_) (fun hq46 => ?_)
  · have H := ite_t H hq46
    refine W_seq ?_
    refine W_reg ?_
    refine L_pu (P_assign (vb false) rfl) ?_
    refine L_nil ?_
    refine W_ret ?_
    exact ⟨[vb false], ⟨_, rfl, rfl⟩, false, rfl, H, hc45.gr⟩
  · have H := ite_f H hq46
    refine W_skip ?_
    refine W_seq ?_
    refine W_seq ?_
    refine W_reg ?_
    refine L_pu (P_fa fa46_1 ⟨b22, 0, none⟩ ⟨b22, 1, none⟩ rfl rfl) ?_
    have h47 := (h39.st (.new _ g41))
    refine L_pu (P_ld ag44 cL ⟨b22, 1, none⟩ (.slice A6 n7 c8) rfl (h47.cell rfl)) ?_
    refine L_pu (P_fa fa46_1 ⟨b31, 0, none⟩ ⟨b31, 1, none⟩ rfl rfl) ?_
    have h48 := (h37.st (.new _ g41))
    refine L_pu (P_ld ag44 cL ⟨b31, 1, none⟩ (.slice A16 n17 c18) rfl (h48.cell rfl)) ?_
    refine L_call go54 [.slice A6 n7 c8, .slice A16 n17 c18] rfl ((laws_eqHeadS.calls w40 hc45.ok a.Heads A6 n7 c8 (hp9.st hc45.st) b.Heads A16 n17 c18 (hp19.st hc45.st) _ H).mono ?_)
    rintro _ w49 ⟨r2, rfl, H, g50⟩
    have hc54 := hc45.k0 g50
    refine L_pu (P_not r2 rfl) ?_
    refine L_nil ?_
    refine W_cond (!r2) rfl (fun hq55 => ?_) (fun hq55 => ?_)
    · have H := ite_t H hq55
      refine W_seq ?_
      refine W_reg ?_
      refine L_pu (P_assign (vb false) rfl) ?_
      refine L_nil ?_
      refine W_ret ?_
      exact ⟨[vb false], ⟨_, rfl, rfl⟩, false, rfl, H, hc54.gr⟩
    · have H := ite_f H hq55
      refine W_skip ?_
      refine W_seq ?_
      refine W_reg ?_
      refine L_pu (P_assign (vb true) rfl) ?_
      refine L_nil ?_
      refine W_ret ?_
      exact ⟨[vb true], ⟨_, rfl, rfl⟩, true, rfl, H, hc54.gr⟩
end Go.Proofs.Ythkeboifjlnjjaa

namespace Go.Proofs.Ythkeboifjlnjjaa
set_option linter.unusedVariables false
set_option linter.unusedSimpArgs false
set_option linter.unusedSectionVars false
theorem laws_eqRepo.law (a b : Repo) (Q : Bool → Prop) (hq : Q (decide (a = b))) : laws_eqRepo.E a b Q := by
  obtain ⟨x0, x1⟩ := a; obtain ⟨y0, y1⟩ := b
  rw [show (decide ((⟨x0, x1⟩ : Repo) = ⟨y0, y1⟩)) = ((decide (x0 = y0)) && (decide (x1 = y1))) by simp only [Repo.mk.injEq, Bool.decide_and]] at hq
  unfold laws_eqRepo.E
  try refine laws_eqCommitS.law _ _ _ ?_
  by_cases h0 : x0 = y0
  case neg => simpa [h0] using hq
  simp only [h0, decide_true, Bool.true_and, bne_self_eq_false, Bool.not_true, Bool.false_eq_true, if_false] at hq ⊢
  try refine laws_eqHeadS.law _ _ _ ?_
  by_cases h1 : x1 = y1
  case neg => simpa [h1] using hq
  simp only [h1, decide_true, Bool.true_and, bne_self_eq_false, Bool.not_true, Bool.false_eq_true, if_false] at hq ⊢
  all_goals (try exact hq)
theorem laws_eqRepo.is (a b : Repo) : laws_eqRepo.E a b (fun r => r = decide (a = b)) := laws_eqRepo.law a b _ rfl
end Go.Proofs.Ythkeboifjlnjjaa

namespace Go.Proofs.Ythkeboifjlnjjaa
open Go.RowKit
set_option linter.unusedVariables false
def laws_FnExactRepoAhead.E (aR : Repo) (aA : Int) (aB : Int) (Q : Bool → Prop) : Prop :=
  laws_szRepo.E aR 1048576 (fun r => (if decide (r < 0) then Q true else laws_toRepo.E aR (fun r2 => spec_RepoAhead.E r2 aA aB (fun r3 => laws_toRepo.E aR (fun r4 => impl_RepoAhead.E r4 aA aB (fun r5 => (if r5 != r3 then Q false else laws_toRepo.E aR (fun r6 => laws_eqRepo.E r4 r6 (fun r7 => (if !r7 then Q false else Q true))))))))))
set_option maxHeartbeats 8000000 in
set_option maxRecDepth 100000 in
theorem laws_FnExactRepoAhead.calls {O : Ob} (w0 : World) (hO : Ok w0 O) (aR : Repo) (A1 : Option Addr) (n2 c3 : Nat) (A6 : Option Addr) (n7 c8 : Nat) (hp4 : Sl kCommit w0 (Fr O) (.slice A1 n2 c3) aR.Commits) (hp9 : Sl kHead w0 (Fr O) (.slice A6 n7 c8) aR.Heads) (aA : Int) (aB : Int) (Q : Bool → Prop) (h : laws_FnExactRepoAhead.E aR aA aB Q) :
    Ret Try.prog 8 [.agg #[.slice A1 n2 c3, .slice A6 n7 c8], vi aA, vi aB] w0 (fun v w' => ∃ (r0 : Bool), v = vb r0 ∧ Q r0 ∧ Gr w0 w' none) := by
  have H : laws_szRepo.E aR 1048576 (fun r => (if decide (r < 0) then Q true else laws_toRepo.E aR (fun r2 => spec_RepoAhead.E r2 aA aB (fun r3 => laws_toRepo.E aR (fun r4 => impl_RepoAhead.E r4 aA aB (fun r5 => (if r5 != r3 then Q false else laws_toRepo.E aR (fun r6 => laws_eqRepo.E r4 r6 (fun r7 => (if !r7 then Q false else Q true)))))))))) := h
  clear h
  have hc0 := Ct.init hO
  refine Ret_enter Try.func8 rfl 35 rfl [.tmp 6] rfl rfl ?_
  refine W_seq ?_
  refine W_reg ?_
  refine L_box [.slice A1 n2 c3, .slice A6 n7 c8] rfl fun w11 b12 hl14 hu15 g13 hx16 => ?_
  have h18 := Fb.mk hc0.ok hl14 hx16
  have hc19 := hc0.k0 g13
  refine L_pu (P_assign (vb false) rfl) ?_
  refine L_nil ?_
  refine W_seq ?_
  refine W_reg ?_
  refine L_pu (P_assign (vi 1048576) rfl) ?_
  refine L_nil ?_
  refine W_seq ?_
  refine W_reg ?_
  refine L_pu (P_lda ag40 sz40 cL ⟨b12, 0, none⟩ [.slice A1 n2 c3, .slice A6 n7 c8] rfl rfl (h18.cells (off := 0) rfl)) ?_
  refine L_pu (P_move (vi 1048576) rfl) ?_
  refine L_call go18 [.agg #[.slice A1 n2 c3, .slice A6 n7 c8], vi 1048576] rfl ((laws_szRepo.calls w11 hc19.ok aR A1 n2 c3 A6 n7 c8 (hp4.st hc19.st) (hp9.st hc19.st) 1048576 _ H).mono ?_)
  rintro _ w20 ⟨r, rfl, H, g21⟩
  have hc25 := hc19.k0 g21
  refine L_pu (P_assign (vi r) rfl) ?_
  refine L_nil ?_
  refine W_seq ?_
  refine W_seq ?_
  refine W_reg ?_
  refine L_pu (P_move (vi r) rfl) ?_
  refine L_pu (P_cmp r 0 (decide (r < 0)) rfl rfl rfl) ?_
  refine L_nil ?_
  refine W_cond (decide (r < 0)) rfl (fun hq26 => ?_) (fun hq26 => ?_)
  · have H := ite_t H hq26
    refine W_seq ?_
    refine W_reg ?_
    refine L_pu (P_assign (vb true) rfl) ?_
    refine L_nil ?_
    refine W_ret ?_
    exact ⟨[vb true], ⟨_, rfl, rfl⟩, true, rfl, H, hc25.gr⟩
  · have H := ite_f H hq26
    refine W_skip ?_
    refine W_seq ?_
    refine W_reg ?_
    have h27 := (h18.st (.new _ g21))
    refine L_pu (P_lda ag40 sz40 cL ⟨b12, 0, none⟩ [.slice A1 n2 c3, .slice A6 n7 c8] rfl rfl (h27.cells (off := 0) rfl)) ?_
    refine L_call go20 [.agg #[.slice A1 n2 c3, .slice A6 n7 c8]] rfl ((laws_toRepo.calls w20 hc25.ok aR A1 n2 c3 A6 n7 c8 (hp4.st hc25.st) (hp9.st hc25.st) _ H).mono ?_)
    rintro _ w28 ⟨r2, A30, n31, c32, A35, n36, c37, rfl, H, g29, hk41, hk42, h33, h38⟩
    have hc43 := hc25.owns g29 hk41 hk42
    refine L_pu (P_move (vi aA) rfl) ?_
    refine L_pu (P_move (vi aB) rfl) ?_
    have h44 := Ow.gv (L := [blk (.slice A30 n31 c32), blk (.slice A35 n36 c37)]) (O := O) h33 hc43 (i := 0) rfl
    have hc45 := hc43.drop 0 rfl
    have h47 := (Ow.sd (L := [blk (.slice A30 n31 c32), blk (.slice A35 n36 c37)]) (O := O) h38 (i := 1) rfl (j := 0) rfl (by decide))
    have h48 := Ow.gv (L := [blk (.slice A35 n36 c37)]) (O := O) h47 hc45 (i := 0) rfl
    have hc49 := hc45.drop 0 rfl
    have h51 := (h44.st (.dr _ (L := [blk (.slice A35 n36 c37)]) (O := O) (j := 0) rfl))
    refine L_call go27 [.agg #[.slice A30 n31 c32, .slice A35 n36 c37], vi aA, vi aB] rfl ((spec_RepoAhead.calls w28 hc49.ok r2 A30 n31 c32 A35 n36 c37 h51 h48 aA aB _ H).mono ?_)
    rintro _ w52 ⟨r3, rfl, H, g53⟩
    have hc57 := hc43.k0 g53
    refine L_pu (P_assign (vb r3) rfl) ?_
    refine L_nil ?_
    refine W_seq ?_
    refine W_reg ?_
    have h58 := ((h27.st (.owns _ g29 hk42)).st (.new _ g53))
    refine L_pu (P_lda ag40 sz40 cL ⟨b12, 0, none⟩ [.slice A1 n2 c3, .slice A6 n7 c8] rfl rfl (h58.cells (off := 0) rfl)) ?_
    refine L_call go20 [.agg #[.slice A1 n2 c3, .slice A6 n7 c8]] rfl ((laws_toRepo.calls w52 hc57.ok aR A1 n2 c3 A6 n7 c8 (hp4.st hc57.st) (hp9.st hc57.st) _ H).mono ?_)
    rintro _ w59 ⟨r4, A61, n62, c63, A66, n67, c68, rfl, H, g60, hk72, hk73, h64, h69⟩
    have hc74 := hc57.owns g60 hk72 hk73
    refine L_alloc [.slice none 0 0, .slice none 0 0] ze46 fun w75 b76 hl78 hu79 g77 hx80 => ?_
    have hc82 := hc74.own g77 (some b76) (oglt hl78 hu79)
    refine L_stb b76 0 [.slice none 0 0, .slice none 0 0] [.slice A61 n62 c63, .slice A66 n67 c68] [.slice A61 n62 c63, .slice A66 n67 c68] rfl hx80 rfl sz46 rfl rfl rfl fun w83 g84 hx85 => ?_
    have hc86 := hc82.wr 0 rfl g84
    refine L_nil ?_
    refine W_seq ?_
    refine W_reg ?_
    refine L_pu (P_lda ag46 sz46 cL ⟨b76, 0, none⟩ [.slice A61 n62 c63, .slice A66 n67 c68] rfl rfl (hx85.cells (off := 0) rfl)) ?_
    refine L_pu (P_move (vi aA) rfl) ?_
    refine L_pu (P_move (vi aB) rfl) ?_
    have h87 := (Ow.sw (L := [some b76, blk (.slice A61 n62 c63), blk (.slice A66 n67 c68), blk (.slice A30 n31 c32), blk (.slice A35 n36 c37)]) (O := O) (h64.so _ g77 (oge hl78)) hc82 (i := 1) rfl (j := 0) rfl (by decide) g84)
    have h88 := Ow.gv (L := [some b76, blk (.slice A61 n62 c63), blk (.slice A66 n67 c68), blk (.slice A30 n31 c32), blk (.slice A35 n36 c37)]) (O := O) h87 hc86 (i := 1) rfl
    have hc89 := hc86.drop 1 rfl
    have h91 := (Ow.sd (L := [some b76, blk (.slice A61 n62 c63), blk (.slice A66 n67 c68), blk (.slice A30 n31 c32), blk (.slice A35 n36 c37)]) (O := O) (Ow.sw (L := [some b76, blk (.slice A61 n62 c63), blk (.slice A66 n67 c68), blk (.slice A30 n31 c32), blk (.slice A35 n36 c37)]) (O := O) (h69.so _ g77 (oge hl78)) hc82 (i := 2) rfl (j := 0) rfl (by decide) g84) (i := 2) rfl (j := 1) rfl (by decide))
    have h92 := Ow.gv (L := [some b76, blk (.slice A66 n67 c68), blk (.slice A30 n31 c32), blk (.slice A35 n36 c37)]) (O := O) h91 hc89 (i := 1) rfl
    have hc93 := hc89.drop 1 rfl
    have h95 := (h88.st (.dr _ (L := [some b76, blk (.slice A66 n67 c68), blk (.slice A30 n31 c32), blk (.slice A35 n36 c37)]) (O := O) (j := 1) rfl))
    refine L_call go28 [.agg #[.slice A61 n62 c63, .slice A66 n67 c68], vi aA, vi aB] rfl ((impl_RepoAhead.calls w83 hc93.ok r4 A61 n62 c63 A66 n67 c68 h95 h92 aA aB _ H).mono ?_)
    rintro _ w96 ⟨r5, rfl, H, g97⟩
    have hc101 := hc86.k0 g97
    refine L_pu (P_assign (vb r5) rfl) ?_
    refine L_nil ?_
    refine W_seq ?_
    refine W_seq ?_
    refine W_reg ?_
    refine L_pu (P_move (vb r5) rfl) ?_
    refine L_pu (P_move (vb r3) rfl) ?_
    refine L_pu (P_bcmp Try.underlying4 r5 r3 (r5 != r3) rfl rfl rfl) ?_
    refine L_nil ?_
    refine W_cond (r5 != r3) rfl (fun hq102 => ?_) (fun hq102 => ?_)
    · have H := ite_t H hq102
      refine W_seq ?_
      refine W_reg ?_
      refine L_pu (P_assign (vb false) rfl) ?_
      refine L_nil ?_
      refine W_ret ?_
      have hc103 := hc101.drop 0 rfl
      have hc104 := hc103.drop 0 rfl
      have hc105 := hc104.drop 0 rfl
      have hc106 := hc105.drop 0 rfl
      have hc107 := hc106.drop 0 rfl
      exact ⟨[vb false], ⟨_, rfl, rfl⟩, false, rfl, H, hc107.gr⟩
    · have H := ite_f H hq102
      refine W_skip ?_
      refine W_seq ?_
      refine W_seq ?_
      refine W_mixr 5 [] (by kernel_rfl) rfl fun w108 g109 hM110 => ?_
      have hc111 := hc101.k0 g109
      have h112 := ((hx85.k0 g97).k0 g109)
      refine M_pu 0 rfl (by kernel_rfl) hM110 (P_ldar ag46 sz46 cR ⟨b76, 0, none⟩ [.slice A61 n62 c63, .slice A66 n67 c68] rfl rfl (h112.cells (off := 0) rfl) nm_nil) ?_
      have h113 := (((((h58.st (.owns _ g60 hk73)).st (.own _ _ g77 (oge hl78))).st (.wl (L := [some b76, blk (.slice A61 n62 c63), blk (.slice A66 n67 c68), blk (.slice A30 n31 c32), blk (.slice A35 n36 c37)]) (O := O) (j := 0) rfl g84)).st (.new _ g97)).st (.new _ g109))
      refine M_pu 1 rfl (by kernel_rfl) hM110 (P_ldar ag40 sz40 cR ⟨b12, 0, none⟩ [.slice A1 n2 c3, .slice A6 n7 c8] rfl rfl (h113.cells (off := 0) rfl) nm_nil) ?_
      refine M_any1 2 (by kernel_rfl) rfl ?_
      refine L_call go20 [.agg #[.slice A1 n2 c3, .slice A6 n7 c8]] rfl ((laws_toRepo.calls w108 hc111.ok aR A1 n2 c3 A6 n7 c8 (hp4.st hc111.st) (hp9.st hc111.st) _ H).mono ?_)
      rintro _ w114 ⟨r6, A116, n117, c118, A121, n122, c123, rfl, H, g115, hk127, hk128, h119, h124⟩
      have hc129 := hc111.owns g115 hk127 hk128
      have hM130 := Gm.tm hM110 g115
      refine L_nil ⟨hM130, ?_⟩
      refine M_any1 3 (by kernel_rfl) rfl ?_
      have h131 := ((((Ow.sw (L := [some b76, blk (.slice A61 n62 c63), blk (.slice A66 n67 c68), blk (.slice A30 n31 c32), blk (.slice A35 n36 c37)]) (O := O) (h64.so _ g77 (oge hl78)) hc82 (i := 1) rfl (j := 0) rfl (by decide) g84).sn g97).sn g109).sos g115 hk128)
      have h132 := Ow.gv (L := [blk (.slice A116 n117 c118), blk (.slice A121 n122 c123), some b76, blk (.slice A61 n62 c63), blk (.slice A66 n67 c68), blk (.slice A30 n31 c32), blk (.slice A35 n36 c37)]) (O := O) h131 hc129 (i := 3) rfl
      have hc133 := hc129.drop 3 rfl
      have h136 := (Ow.sd (L := [blk (.slice A116 n117 c118), blk (.slice A121 n122 c123), some b76, blk (.slice A61 n62 c63), blk (.slice A66 n67 c68), blk (.slice A30 n31 c32), blk (.slice A35 n36 c37)]) (O := O) ((((Ow.sw (L := [some b76, blk (.slice A61 n62 c63), blk (.slice A66 n67 c68), blk (.slice A30 n31 c32), blk (.slice A35 n36 c37)]) (O := O) (h69.so _ g77 (oge hl78)) hc82 (i := 2) rfl (j := 0) rfl (by decide) g84).sn g97).sn g109).sos g115 hk128) (i := 4) rfl (j := 3) rfl (by decide))
      have h137 := Ow.gv (L := [blk (.slice A116 n117 c118), blk (.slice A121 n122 c123), some b76, blk (.slice A66 n67 c68), blk (.slice A30 n31 c32), blk (.slice A35 n36 c37)]) (O := O) h136 hc133 (i := 3) rfl
      have hc138 := hc133.drop 3 rfl
      have h141 := (Ow.sd (L := [blk (.slice A116 n117 c118), blk (.slice A121 n122 c123), some b76, blk (.slice A66 n67 c68), blk (.slice A30 n31 c32), blk (.slice A35 n36 c37)]) (O := O) (Ow.sd (L := [blk (.slice A116 n117 c118), blk (.slice A121 n122 c123), some b76, blk (.slice A61 n62 c63), blk (.slice A66 n67 c68), blk (.slice A30 n31 c32), blk (.slice A35 n36 c37)]) (O := O) h119 (i := 0) rfl (j := 3) rfl (by decide)) (i := 0) rfl (j := 3) rfl (by decide))
      have h142 := Ow.gv (L := [blk (.slice A116 n117 c118), blk (.slice A121 n122 c123), some b76, blk (.slice A30 n31 c32), blk (.slice A35 n36 c37)]) (O := O) h141 hc138 (i := 0) rfl
      have hc143 := hc138.drop 0 rfl
      have h146 := (Ow.sd (L := [blk (.slice A116 n117 c118), blk (.slice A121 n122 c123), some b76, blk (.slice A30 n31 c32), blk (.slice A35 n36 c37)]) (O := O) (Ow.sd (L := [blk (.slice A116 n117 c118), blk (.slice A121 n122 c123), some b76, blk (.slice A66 n67 c68), blk (.slice A30 n31 c32), blk (.slice A35 n36 c37)]) (O := O) (Ow.sd (L := [blk (.slice A116 n117 c118), blk (.slice A121 n122 c123), some b76, blk (.slice A61 n62 c63), blk (.slice A66 n67 c68), blk (.slice A30 n31 c32), blk (.slice A35 n36 c37)]) (O := O) h124 (i := 1) rfl (j := 3) rfl (by decide)) (i := 1) rfl (j := 3) rfl (by decide)) (i := 1) rfl (j := 0) rfl (by decide))
      have h147 := Ow.gv (L := [blk (.slice A121 n122 c123), some b76, blk (.slice A30 n31 c32), blk (.slice A35 n36 c37)]) (O := O) h146 hc143 (i := 0) rfl
      have hc148 := hc143.drop 0 rfl
      have h151 := (((h132.st (.dr _ (L := [blk (.slice A116 n117 c118), blk (.slice A121 n122 c123), some b76, blk (.slice A66 n67 c68), blk (.slice A30 n31 c32), blk (.slice A35 n36 c37)]) (O := O) (j := 3) rfl)).st (.dr _ (L := [blk (.slice A116 n117 c118), blk (.slice A121 n122 c123), some b76, blk (.slice A30 n31 c32), blk (.slice A35 n36 c37)]) (O := O) (j := 0) rfl)).st (.dr _ (L := [blk (.slice A121 n122 c123), some b76, blk (.slice A30 n31 c32), blk (.slice A35 n36 c37)]) (O := O) (j := 0) rfl))
      have h152 := ((h137.st (.dr _ (L := [blk (.slice A116 n117 c118), blk (.slice A121 n122 c123), some b76, blk (.slice A30 n31 c32), blk (.slice A35 n36 c37)]) (O := O) (j := 0) rfl)).st (.dr _ (L := [blk (.slice A121 n122 c123), some b76, blk (.slice A30 n31 c32), blk (.slice A35 n36 c37)]) (O := O) (j := 0) rfl))
      have h153 := (h142.st (.dr _ (L := [blk (.slice A121 n122 c123), some b76, blk (.slice A30 n31 c32), blk (.slice A35 n36 c37)]) (O := O) (j := 0) rfl))
      refine L_call go22 [.agg #[.slice A61 n62 c63, .slice A66 n67 c68], .agg #[.slice A116 n117 c118, .slice A121 n122 c123]] rfl ((laws_eqRepo.calls w114 hc148.ok r4 A61 n62 c63 A66 n67 c68 h151 h152 r6 A116 n117 c118 A121 n122 c123 h153 h147 _ H).mono ?_)
      rintro _ w154 ⟨r7, rfl, H, g155⟩
      have hc159 := hc129.k0 g155
      have hM160 := Gm.tm hM130 g155
      refine L_nil ⟨hM160, ?_⟩
      refine M_pu 4 rfl (by kernel_rfl) hM160 (P_not r7 rfl) ?_
      refine M_nil (by kernel_rfl) ?_
      refine W_cond (!r7) rfl (fun hq161 => ?_) (fun hq161 => ?_)
      · have H := ite_t H hq161
        refine W_seq ?_
        refine W_reg ?_
        refine L_pu (P_assign (vb false) rfl) ?_
        refine L_nil ?_
        refine W_ret ?_
        have hc162 := hc159.drop 0 rfl
        have hc163 := hc162.drop 0 rfl
        have hc164 := hc163.drop 0 rfl
        have hc165 := hc164.drop 0 rfl
        have hc166 := hc165.drop 0 rfl
        have hc167 := hc166.drop 0 rfl
        have hc168 := hc167.drop 0 rfl
        exact ⟨[vb false], ⟨_, rfl, rfl⟩, false, rfl, H, hc168.gr⟩
      · have H := ite_f H hq161
        refine W_skip ?_
        refine W_seq ?_
        refine W_reg ?_
        refine L_pu (P_assign (vb true) rfl) ?_
        refine L_nil ?_
        refine W_ret ?_
        have hc169 := hc159.drop 0 rfl
        have hc170 := hc169.drop 0 rfl
        have hc171 := hc170.drop 0 rfl
        have hc172 := hc171.drop 0 rfl
        have hc173 := hc172.drop 0 rfl
        have hc174 := hc173.drop 0 rfl
        have hc175 := hc174.drop 0 rfl
        exact ⟨[vb true], ⟨_, rfl, rfl⟩, true, rfl, H, hc175.gr⟩
end Go.Proofs.Ythkeboifjlnjjaa

namespace Go.Proofs.Ythkeboifjlnjjaa
set_option linter.unusedVariables false
set_option linter.unusedSimpArgs false
set_option linter.unusedSectionVars false
theorem laws_FnExactRepoAhead.law (r : Repo) (_ : vRepo r) (a : Int) (_ : I64 a) (b : Int) (_ : I64 b) : laws_FnExactRepoAhead.E r a b (fun r => r = true) := by
  unfold laws_FnExactRepoAhead.E
  refine laws_szRepo.law r _ _ (by decide) (by decide) (fun _ => rfl) (fun h1 => ?_)
  rw [if_neg (by rw [decide_eq_false (by omega)]; exact Bool.false_ne_true)]
  refine laws_toRepo.law r _ (by omega) (spec_RepoAhead.law _ _ _ _ (laws_toRepo.law r _ (by omega) (impl_RepoAhead.law _ _ _ _ (by omega) ?_)))
  rw [if_neg (by simp)]
  refine laws_toRepo.law r _ (by omega) (laws_eqRepo.law _ _ _ ?_)
  rw [decide_eq_true rfl, if_neg (by decide)]
end Go.Proofs.Ythkeboifjlnjjaa

namespace Go.Proofs.Ythkeboifjlnjjaa.rFnExactRepoAhead
open Go.ChangeShapes Go.WideShapes Go.ChangeAt Go.RowKit
open Go.ChangeMaps (open_string shut_string)
set_option linter.unusedVariables false
theorem own : ownKnob Try.prog.godebug = none := by kernel_rfl
theorem laidOut : laidOutB Try.prog = true := by kernel_rfl
set_option maxHeartbeats 4000000 in
set_option maxRecDepth 100000 in
theorem lifted (os : Os) (started : os.Started) (H : Type) (enc : TypeId × Value → H) :
    ReturnsInHanded {} Try.checked os 8 .any (Rows.fnExactRepoAheadSpec.pre6 enc Try.prog Try.f8 Rows.fnExactRepoAheadRow.domain false) (Rows.fnExactRepoAheadSpec.post enc Try.prog Try.f8 false true false false) := by
  refine returnsInHanded_of_change_sized (C := Try.checked) own started (by kernel_rfl) Try.func8
    (ChangeSpec.witness6 (enc := enc) (C := Try.checked) false ⟨#[], #[.agg #[.slice none 0 0, .slice none 0 0], .int .i64 0, .int .i64 0], []⟩ 8 (by kernel_rfl) (by kernel_rfl) (by kernel_rfl) (by kernel_rfl)) ?_
  intro W base args ds gs before hval0 hW hcnd hsz0 _
  have hval : ∀ (j : Nat) t v, Try.f8.params[j]? = some t → args[j]? = some v → Value.okWide Try.prog W .any base t v := hval0
  have hW' := hW
  obtain ⟨p, q, hA0, hV, rfl, hfz, hnd⟩ := hW
  have hA : DataW.TrodAll enc Try.prog W 0 (fun _ => true) true Try.f8.params.toList args.toList ds p := hA0
  rw [Try.params8] at hA hval
  obtain ⟨v0, vs0, d0, ds0, p0, q0, hargs, rfl, rfl, h0, r0⟩ := trodAll_cons hA
  obtain ⟨v1, vs1, d1, ds1, p1, q1, rfl, rfl, rfl, h1, r1⟩ := trodAll_cons r0
  obtain ⟨v2, vs2, d2, ds2, p2, q2, rfl, rfl, rfl, h2, r2⟩ := trodAll_cons r1
  obtain ⟨rfl, rfl, rfl⟩ := trodAll_nil r2
  obtain rfl : args = #[v0, v1, v2] := by cases args; simp_all
  obtain ⟨rfl, rfl⟩ := trodVars_none hV
  have k0 := h0
  have lt0 : ∀ x ∈ p0, x.block < W.heap.size := by obtain ⟨m, hm⟩ := k0; exact DataW.trod_lt m _ _ _ hm
  obtain ⟨x0, hv0, hx0⟩ : ∃ a : Repo, (vRepo a) ∧ kRepo.R W (Fr []) a v0.cells.toList := by obtain ⟨fuel, hf⟩ := h0; exact tr40 H enc W fuel _ _ hf
  obtain ⟨b0, rfl, _, _⟩ : ∃ cs, v0 = .agg cs ∧ cs.size = _ ∧ Row.okWide _ _ _ _ _ cs := hval 0 40 v0 rfl rfl
  have y0 := kRepo.op hx0
  obtain ⟨A0_0, N0_0, C0_0, A0_1, N0_1, C0_1, e0, H0_0, H0_1⟩ := y0
  obtain ⟨b0⟩ := b0
  simp only [Value.cells] at e0
  subst e0
  have k1 := h1
  have lt1 : ∀ x ∈ p1, x.block < W.heap.size := by obtain ⟨m, hm⟩ := k1; exact DataW.trod_lt m _ _ _ hm
  obtain ⟨x1, hv1, hx1⟩ : ∃ a : Int, (I64 a) ∧ (Kd.int .i64).R W (Fr []) a v1.cells.toList := by obtain ⟨fuel, hf⟩ := h1; exact (Tr.int Try.underlying3) H enc W fuel _ _ hf
  obtain ⟨b1, rfl⟩ := okWide_int Try.underlying3 (hval 1 3 v1 rfl rfl)
  have e1 := hx1
  simp [Kd.int, Value.cells] at e1
  subst e1
  have k2 := h2
  have lt2 : ∀ x ∈ p2, x.block < W.heap.size := by obtain ⟨m, hm⟩ := k2; exact DataW.trod_lt m _ _ _ hm
  obtain ⟨x2, hv2, hx2⟩ : ∃ a : Int, (I64 a) ∧ (Kd.int .i64).R W (Fr []) a v2.cells.toList := by obtain ⟨fuel, hf⟩ := h2; exact (Tr.int Try.underlying3) H enc W fuel _ _ hf
  obtain ⟨b2, rfl⟩ := okWide_int Try.underlying3 (hval 2 3 v2 rfl rfl)
  have e2 := hx2
  simp [Kd.int, Value.cells] at e2
  subst e2
  clear hA0 hval0 hsz0
  refine Calls.mono (laws_FnExactRepoAhead.calls W (Ok.nil W) x0 A0_0 N0_0 C0_0 A0_1 N0_1 C0_1 H0_0 H0_1 b1 b2 (fun r => r = true) (laws_FnExactRepoAhead.law x0 hv0 b1 hv1 b2 hv2)) fun e W' ⟨v, he, r, hr, hq, hg⟩ => ?_
  subst he; subst hr; subst hq
  have bel := Gr.below hg
  exact ⟨_, rfl, _, _, _, [], _, [], hW', trodAll_mk1 (shut_bool Try.underlying4 _), (trodAll_cons_mk (Below.trod laidOut (by kernel_rfl) (of_decide_eq_true (by kernel_rfl)) k0 bel lt0) (trodAll_cons_mk (Below.trod laidOut (by kernel_rfl) (of_decide_eq_true (by kernel_rfl)) k1 bel lt1) (trodAll_cons_mk (Below.trod laidOut (by kernel_rfl) (of_decide_eq_true (by kernel_rfl)) k2 bel lt2) trodAll_mk0))), rfl, bel.frame _, fun h => by cases h⟩
theorem over : Rows.fnExactRepoAheadRow.holds Try.pinned (OpenSpec.ofChange Rows.fnExactRepoAheadSpec) :=
  OpenClaim.holds_of_wide 8 Try.f8 rfl rfl rfl rfl rfl rfl rfl ⟨rfl, rfl, rfl, rfl, rfl⟩ rfl rfl rfl rfl rfl (by kernel_rfl) Try.func8 (by kernel_rfl)
    (of_decide_eq_true (by kernel_rfl)) (by unfold Func.isWrapper; first | (rw [if_pos (by decide +kernel)]; kernel_rfl) | (rw [if_neg (by decide +kernel)]; exact ⟨rfl, rfl⟩))
    (fun os started H enc _ => lifted os started H enc)
theorem proved : Rows.FnExactRepoAheadSaid := over
#print axioms proved
end Go.Proofs.Ythkeboifjlnjjaa.rFnExactRepoAhead
namespace Go.Proofs.Ythkeboifjlnjjaa
theorem fnExactRepoAhead_holds : Rows.FnExactRepoAheadSaid := rFnExactRepoAhead.proved
end Go.Proofs.Ythkeboifjlnjjaa
