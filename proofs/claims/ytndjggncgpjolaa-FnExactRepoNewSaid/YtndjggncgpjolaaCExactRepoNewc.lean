/- It is proved here that the law FnExactRepoNew of the given program holds whatever it is handed: the walks through the code, the plain laws and the row, in this order.
   Conditions: none. -/
import Derived.Below
import Derived.ChangeArms
import Derived.ChangeOld
import Derived.ChangeSlices
import Derived.DataReads
import Derived.Deep.Quiet
import Derived.KernelRfl
import Derived.Laws.Build
import Derived.Laws.IdiomStrings
import Derived.Laws.OwnMore
import Derived.Laws.Slices
import Derived.Laws.StructEq
import Derived.OpenShut
import Derived.ProofKit
import Derived.ShutString
import Derived.SizedLaws
import Derived.StillTail
import Derived.Test.YtndjggncgpjolaaProg
import Derived.Test.YtndjggncgpjolaaRows
import Derived.WalkKit
import Derived.Test.YtndjggncgpjolaaCExactRepoNewa
import Derived.Test.YtndjggncgpjolaaCExactRepoNewb
namespace Go.Proofs.Ytndjggncgpjolaa
open Go.RowKit
set_option linter.unusedVariables false
def laws_markText.E (k : Int) (Q : Str → Prop) : Prop :=
  (if decide (k ≤ 0) then Q ([109, 48] : Str) else (∃ (I10 : Int → Str → Prop) (mu11 : Int → Str → Nat), I10 k ([] : Str) ∧ ∀ (k3 : Int) (out2 : Str), I10 k3 out2 → (if decide (k3 > 0) then ((0 : Int) ≤ k3 ∧ (0 : Int) < 10) ∧ (I64 (48 + (k3 % 10))) ∧ ((0 : Int) ≤ 48 + (k3 % 10) ∧ 48 + (k3 % 10) ≤ (255 : Int)) ∧ (([(UInt8.ofNat (48 + (k3 % 10)).toNat)] : List UInt8).length + out2.length ≤ 9223372036854775807) ∧ (((0 : Int) ≤ k3 ∧ k3 ≤ (9223372036854775807 : Int)) ∧ (0 : Int) < 10) ∧ I10 (k3 / 10) (([(UInt8.ofNat (48 + (k3 % 10)).toNat)] : List UInt8) ++ out2) ∧ mu11 (k3 / 10) (([(UInt8.ofNat (48 + (k3 % 10)).toNat)] : List UInt8) ++ out2) < mu11 k3 out2 else (([109] : Str).length + out2.length ≤ 9223372036854775807) ∧ Q (([109] : Str) ++ out2))))
set_option maxHeartbeats 8000000 in
set_option maxRecDepth 100000 in
theorem laws_markText.calls {O : Ob} (w0 : World) (hO : Ok w0 O) (k : Int) (Q : Str → Prop) (h : laws_markText.E k Q) :
    Ret Try.prog 67 [vi k] w0 (fun v w' => ∃ (r0 : Str), v = vs r0 ∧ Q r0 ∧ Gr w0 w' none ∧ Lim r0) := by
  have H : (if decide (k ≤ 0) then Q ([109, 48] : Str) else (∃ (I10 : Int → Str → Prop) (mu11 : Int → Str → Nat), I10 k ([] : Str) ∧ ∀ (k3 : Int) (out2 : Str), I10 k3 out2 → (if decide (k3 > 0) then ((0 : Int) ≤ k3 ∧ (0 : Int) < 10) ∧ (I64 (48 + (k3 % 10))) ∧ ((0 : Int) ≤ 48 + (k3 % 10) ∧ 48 + (k3 % 10) ≤ (255 : Int)) ∧ (([(UInt8.ofNat (48 + (k3 % 10)).toNat)] : List UInt8).length + out2.length ≤ 9223372036854775807) ∧ (((0 : Int) ≤ k3 ∧ k3 ≤ (9223372036854775807 : Int)) ∧ (0 : Int) < 10) ∧ I10 (k3 / 10) (([(UInt8.ofNat (48 + (k3 % 10)).toNat)] : List UInt8) ++ out2) ∧ mu11 (k3 / 10) (([(UInt8.ofNat (48 + (k3 % 10)).toNat)] : List UInt8) ++ out2) < mu11 k3 out2 else (([109] : Str).length + out2.length ≤ 9223372036854775807) ∧ Q (([109] : Str) ++ out2)))) := h
  clear h
  have hc0 := Ct.init hO
  refine Ret_enter Try.func67 rfl 20 rfl [.tmp 2] rfl rfl ?_
  refine W_seq ?_
  refine W_reg ?_
  refine L_pu (P_assign (vs ([] : Str)) rfl) ?_
  refine L_nil ?_
  refine W_seq ?_
  refine W_seq ?_
  refine W_reg ?_
  refine L_pu (P_move (vi k) rfl) ?_
  refine L_pu (P_cmp k 0 (decide (k ≤ 0)) rfl rfl rfl) ?_
  refine L_nil ?_
  refine W_cond (decide (k ≤ 0)) rfl (fun hq1 => ?_) (fun hq1 => ?_)
  · have H := ite_t H hq1
    refine W_seq ?_
    refine W_reg ?_
    refine L_pu (P_assign (vs ([109, 48] : Str)) rfl) ?_
    refine L_nil ?_
    refine W_ret ?_
    exact ⟨[vs ([109, 48] : Str)], ⟨_, rfl, rfl⟩, ([109, 48] : Str), rfl, H, hc0.gr.g0, (by decide)⟩
  · have H := ite_f H hq1
    refine W_skip ?_
    refine W_seq ?_
    refine W_reg ?_
    refine L_pu (P_assign (vs ([] : Str)) rfl) ?_
    refine L_nil ?_
    refine W_seq ?_
    refine W_block ?_
    obtain ⟨I10, mu11, hI12, H⟩ := H
    refine W_loop (α := Int × Str) (fun (sv__ : Int × Str) t w7 => match sv__ with | (k3, out2) => I10 k3 out2 ∧ Has t [(0, vi k3), (3, vs out2)] ∧ Ct [] w0 w7 [] O ∧ Lim out2) (fun (sv__ : Int × Str) => match sv__ with | (k3, out2) => mu11 k3 out2) (k, ([] : Str)) ⟨hI12, ⟨rfl, rfl, trivial⟩, hc0, (by decide)⟩ ?_
    rintro ⟨k3, out2⟩ _ w7 ⟨hI12, hh14, hc9, hs8⟩
    obtain ⟨u15, rfl⟩ := Has.ins hh14
    have H := H k3 out2 hI12
    refine W_seq ?_
    refine W_seq ?_
    refine W_reg ?_
    refine L_pu (P_move (vi k3) rfl) ?_
    refine L_pu (P_cmp k3 0 (decide (k3 > 0)) rfl rfl rfl) ?_
    refine L_nil ?_
    refine W_cond (decide (k3 > 0)) rfl (fun hq16 => ?_) (fun hq16 => ?_)
    · have H := ite_t H hq16
      refine W_skip ?_
      refine W_block ?_
      refine W_seq ?_
      refine W_reg ?_
      refine L_pu (P_move (vi k3) rfl) ?_
      obtain ⟨hb17, H⟩ := H
      refine L_pu (P_rem k3 10 rfl rfl hb17) ?_
      obtain ⟨hb18, H⟩ := H
      refine L_pu (P_add 48 (k3 % 10) rfl rfl hb18) ?_
      obtain ⟨hb19, H⟩ := H
      refine L_pu (P_convb Try.underlying3 Try.underlying5 (48 + (k3 % 10)) rfl hb19) ?_
      refine L_lit (kd := Kd.byte) ei22 hc9 ([(UInt8.ofNat (48 + (k3 % 10)).toNat)] : List UInt8) (cells := [v8 (UInt8.ofNat (48 + (k3 % 10)).toNat)]) ⟨[v8 (UInt8.ofNat (48 + (k3 % 10)).toNat)], _, rfl, rfl, rfl⟩ (fun _ => by kernel_rfl) fun w20 A21 n22 c23 g24 hr25 hc26 h27 => ?_
      refine L_pu (P_b2s Try.underlying22 Try.underlying5 Try.underlying9 A21 n22 c23 ([(UInt8.ofNat (48 + (k3 % 10)).toNat)] : List UInt8) rfl (fun _ e => e ▸ ⟨_, h27.sx⟩)) ?_
      have hs29 : Lim ([(UInt8.ofNat (48 + (k3 % 10)).toNat)] : List UInt8) := h27.le
      refine L_pu (P_move (vs out2) rfl) ?_
      obtain ⟨hb30, H⟩ := H
      refine L_pu (P_cat ([(UInt8.ofNat (48 + (k3 % 10)).toNat)] : List UInt8) out2 rfl rfl hb30) ?_
      refine L_pu (P_assign (vs (([(UInt8.ofNat (48 + (k3 % 10)).toNat)] : List UInt8) ++ out2)) rfl) ?_
      refine L_nil ?_
      refine W_reg ?_
      refine L_pu (P_move (vi k3) rfl) ?_
      obtain ⟨hb31, H⟩ := H
      refine L_pu (P_quo k3 10 rfl rfl hb31) ?_
      refine L_pu (P_assign (vi (k3 / 10)) rfl) ?_
      refine L_nil ?_
      have hc32 := hc26.drop 0 rfl
      obtain ⟨hI33, hm34⟩ := H
      exact ⟨(k3 / 10, (([(UInt8.ofNat (48 + (k3 % 10)).toNat)] : List UInt8) ++ out2)), hm34, hI33, ⟨rfl, rfl, trivial⟩, hc32, (lim_cat hb30)⟩
    · have H := ite_f H hq16
      refine W_exit (xin_hit ?_)
      refine W_seq ?_
      refine W_reg ?_
      refine L_pu (P_move (vs out2) rfl) ?_
      obtain ⟨hb35, H⟩ := H
      refine L_pu (P_cat ([109] : Str) out2 rfl rfl hb35) ?_
      refine L_pu (P_assign (vs (([109] : Str) ++ out2)) rfl) ?_
      refine L_nil ?_
      refine W_ret ?_
      exact ⟨[vs (([109] : Str) ++ out2)], ⟨_, rfl, rfl⟩, (([109] : Str) ++ out2), rfl, H, hc9.gr.g0, (lim_cat hb35)⟩
end Go.Proofs.Ytndjggncgpjolaa

namespace Go.Proofs.Ytndjggncgpjolaa
set_option linter.unusedVariables false
set_option linter.unusedSimpArgs false
set_option linter.unusedSectionVars false
theorem laws_markText.law' (k : Int) (Q : Str → Prop) (h0 : 0 ≤ k) (h1 : k ≤ 1000000000000) (hq : Lim (tx k) → Q (tx k)) : laws_markText.E k Q := by
  unfold laws_markText.E
  by_cases hk : k ≤ 0
  · rw [if_pos (by simpa using hk)]
    have e : tx k = [109, 48] := by unfold tx; rw [if_pos hk]
    rw [e] at hq; exact hq (by decide)
  · rw [if_neg (by simpa using hk)]
    refine ⟨fun k' out => 0 ≤ k' ∧ (out.length : Int) + k' ≤ k ∧ ∃ f : Nat, k' ≤ f ∧ decA f k' out = decA k.toNat k [], fun k' _ => k'.toNat, ⟨h0, by simp, k.toNat, by omega, rfl⟩, ?_⟩
    rintro k' out ⟨h2, h3, f, h4, h5⟩
    by_cases hp : 0 < k'
    · rw [if_pos (by simpa using hp)]
      obtain ⟨f, rfl⟩ : ∃ f', f = f' + 1 := ⟨f - 1, by omega⟩
      refine ⟨⟨h2, by omega⟩, by unfold I64; omega, ⟨by omega, by omega⟩, by simp only [List.length_cons, List.length_nil]; omega, ⟨⟨h2, by omega⟩, by omega⟩, ⟨by omega, by simp only [List.length_append, List.length_cons, List.length_nil]; omega, f, by omega, ?_⟩, by dsimp only; omega⟩
      rw [← h5]
      conv => rhs; unfold decA
      rw [if_pos hp]; rfl
    · rw [if_neg (by simpa using hp)]
      rw [decA_stop f hp] at h5
      have e : tx k = [109] ++ out := by unfold tx; rw [if_neg hk, h5]
      have hl : ([109] : Str).length + out.length ≤ 9223372036854775807 := by simp only [List.length_cons, List.length_nil]; omega
      refine ⟨hl, ?_⟩
      rw [e] at hq
      exact hq (by unfold Lim; rw [List.length_append]; exact hl)
theorem laws_markText.law (k : Int) (Q : Str → Prop) (h0 : 0 ≤ k) (h1 : k ≤ 1000000000000) (hq : Q (tx k)) : laws_markText.E k Q := laws_markText.law' k Q h0 h1 fun _ => hq
theorem tx_lim (k : Int) (h0 : 0 ≤ k) (h1 : k ≤ 1000000000000) : Lim (tx k) := by
  obtain ⟨h, e⟩ : ∃ q, q = Lim (tx k) := ⟨_, rfl⟩
  by_cases hk : k ≤ 0
  · unfold tx; rw [if_pos hk]; decide
  · have key : ∀ (f : Nat) (k' : Int) (out : Str), 0 ≤ k' → (out.length : Int) + k' ≤ k → ((decA f k' out).length : Int) ≤ k := by
      intro f
      induction f with
      | zero => intro k' out h2 h3; unfold decA; omega
      | succ f ih =>
        intro k' out h2 h3
        unfold decA
        by_cases hp : 0 < k'
        · rw [if_pos hp]; exact ih _ _ (by omega) (by simp only [List.length_cons]; omega)
        · rw [if_neg hp]; omega
    have := key k.toNat k [] h0 (by simp)
    unfold tx Lim; rw [if_neg hk, List.length_append]
    simp only [List.length_cons, List.length_nil]; omega
theorem laws_markText.q (k : Int) (h0 : 0 ≤ k) (h1 : k ≤ 1000000000000) : laws_markText.E k (fun x => x = tx k) := laws_markText.law k _ h0 h1 rfl
end Go.Proofs.Ytndjggncgpjolaa

namespace Go.Proofs.Ytndjggncgpjolaa
open Go.RowKit
set_option linter.unusedVariables false
def laws_markPtS.E (a : List Pt) (k : Int) (Q : Int → List Pt → Prop) : Prop :=
  (∃ (I23 : (List Pt) → Int → Int → Prop) (mu24 : (List Pt) → Int → Int → Nat), I23 a k 0 ∧ ∀ (xs2 : List Pt) (k3 : Int) (i2 : Int), I23 xs2 k3 i2 → (if decide (i2 < (xs2.length : Int)) then ((0 : Int) ≤ i2 ∧ i2 < (xs2.length : Int)) ∧ ((xs2.length : Int) ≤ 9223372036854775807 → I64 (k3 + 1)) ∧ ((0 : Int) ≤ i2 ∧ i2 < ((xs2.set i2.toNat (⟨k3, (nth xs2 i2).Y⟩ : Pt)).length : Int)) ∧ ((xs2.length : Int) ≤ 9223372036854775807 → I64 (k3 + 1 + 1)) ∧ (-9223372036854775808 ≤ i2) ∧ I23 ((xs2.set i2.toNat (⟨k3, (nth xs2 i2).Y⟩ : Pt)).set i2.toNat (⟨(nth (xs2.set i2.toNat (⟨k3, (nth xs2 i2).Y⟩ : Pt)) i2).X, k3 + 1⟩ : Pt)) (k3 + 1 + 1) (i2 + 1) ∧ mu24 ((xs2.set i2.toNat (⟨k3, (nth xs2 i2).Y⟩ : Pt)).set i2.toNat (⟨(nth (xs2.set i2.toNat (⟨k3, (nth xs2 i2).Y⟩ : Pt)) i2).X, k3 + 1⟩ : Pt)) (k3 + 1 + 1) (i2 + 1) < mu24 xs2 k3 i2 else Q k3 xs2))
set_option maxHeartbeats 8000000 in
set_option maxRecDepth 100000 in
theorem laws_markPtS.calls {O : Ob} (w0 : World) (hO : Ok w0 O) (A1 : Option Addr) (n2 c3 : Nat) (a : List Pt) (hp0 : Ow kPt 29 w0 O (.slice A1 n2 c3) a) (k : Int) (Q : Int → List Pt → Prop) (h : laws_markPtS.E a k Q) :
    Ret Try.prog 68 [.slice A1 n2 c3, vi k] w0 (fun v w' => ∃ (r0 : Int) (m0 : List Pt), v = vi r0 ∧ Q r0 m0 ∧ Gr w0 w' (blk (.slice A1 n2 c3)) ∧ Ow kPt 29 w' O (.slice A1 n2 c3) m0) := by
  have H : (∃ (I23 : (List Pt) → Int → Int → Prop) (mu24 : (List Pt) → Int → Int → Nat), I23 a k 0 ∧ ∀ (xs2 : List Pt) (k3 : Int) (i2 : Int), I23 xs2 k3 i2 → (if decide (i2 < (xs2.length : Int)) then ((0 : Int) ≤ i2 ∧ i2 < (xs2.length : Int)) ∧ ((xs2.length : Int) ≤ 9223372036854775807 → I64 (k3 + 1)) ∧ ((0 : Int) ≤ i2 ∧ i2 < ((xs2.set i2.toNat (⟨k3, (nth xs2 i2).Y⟩ : Pt)).length : Int)) ∧ ((xs2.length : Int) ≤ 9223372036854775807 → I64 (k3 + 1 + 1)) ∧ (-9223372036854775808 ≤ i2) ∧ I23 ((xs2.set i2.toNat (⟨k3, (nth xs2 i2).Y⟩ : Pt)).set i2.toNat (⟨(nth (xs2.set i2.toNat (⟨k3, (nth xs2 i2).Y⟩ : Pt)) i2).X, k3 + 1⟩ : Pt)) (k3 + 1 + 1) (i2 + 1) ∧ mu24 ((xs2.set i2.toNat (⟨k3, (nth xs2 i2).Y⟩ : Pt)).set i2.toNat (⟨(nth (xs2.set i2.toNat (⟨k3, (nth xs2 i2).Y⟩ : Pt)) i2).X, k3 + 1⟩ : Pt)) (k3 + 1 + 1) (i2 + 1) < mu24 xs2 k3 i2 else Q k3 xs2)) := h
  clear h
  have hc0 := Ct.initm1 (r := blk (.slice A1 n2 c3)) hO (by intro b e; exact hp0.mem b e)
  refine Ret_enter Try.func68 rfl 27 rfl [.tmp 4] rfl rfl ?_
  refine W_seq ?_
  refine W_reg ?_
  refine L_pu (P_assign (vi 0) rfl) ?_
  refine L_nil ?_
  refine W_seq ?_
  refine W_seq ?_
  refine W_reg ?_
  refine L_pu (P_assign (vi 0) rfl) ?_
  refine L_nil ?_
  refine W_block ?_
  obtain ⟨I23, mu24, hI25, H⟩ := H
  refine W_loop (α := (List Pt) × Int × Int) (fun (sv__ : (List Pt) × Int × Int) t w16 => match sv__ with | (xs2, k3, i2) => I23 xs2 k3 i2 ∧ Has t [(0, .slice A1 n2 c3), (1, vi k3), (5, vi i2)] ∧ Ct [blk (.slice A1 n2 c3)] w0 w16 [] O ∧ Ow kPt 29 w16 O (.slice A1 n2 c3) xs2) (fun (sv__ : (List Pt) × Int × Int) => match sv__ with | (xs2, k3, i2) => mu24 xs2 k3 i2) (a, k, 0) ⟨hI25, ⟨rfl, rfl, rfl, trivial⟩, hc0, hp0⟩ ?_
  rintro ⟨xs2, k3, i2⟩ _ w16 ⟨hI25, hh27, hc21, h22⟩
  obtain ⟨u28, rfl⟩ := Has.ins hh27
  have H := H xs2 k3 i2 hI25
  refine W_seq ?_
  refine W_seq ?_
  refine W_reg ?_
  refine L_pu (P_move (vi i2) rfl) ?_
  refine L_pu (P_move (.slice A1 n2 c3) rfl) ?_
  have hl29 := h22.le
  refine L_pu (P_len Try.underlying23 A1 n2 c3 h22.len rfl) ?_
  refine L_pu (P_cmp i2 (xs2.length : Int) (decide (i2 < (xs2.length : Int))) rfl rfl rfl) ?_
  refine L_nil ?_
  refine W_cond (decide (i2 < (xs2.length : Int))) rfl (fun hq30 => ?_) (fun hq30 => ?_)
  · have H := ite_t H hq30
    refine W_skip ?_
    refine W_seq ?_
    refine W_block ?_
    refine W_seq ?_
    refine W_reg ?_
    refine L_pu (P_move (.slice A1 n2 c3) rfl) ?_
    refine L_pu (P_move (vi i2) rfl) ?_
    refine L_pu (P_move (vi k3) rfl) ?_
    obtain ⟨hb31, H⟩ := H
    obtain ⟨ad32, cs33, hA34, hR35, hcl36⟩ := h22.get default (by decide) i2 hb31
    obtain rfl := kPt.op hR35
    refine L_pu (P_ia Try.underlying23 se23 A1 ad32 n2 c3 h22.len i2 rfl hA34 rfl hb31) ?_
    refine L_pu (P_fa fa29_0 (ad32.add (i2.toNat * 2)) ((ad32.add (i2.toNat * 2)).add 0) rfl rfl) ?_
    refine L_ste1 A1 n2 c3 xs2 h22 i2 hb31 ad32 hA34 0 rfl [vi k3] rfl sz3 rfl (⟨k3, (nth xs2 i2).Y⟩ : Pt) [vi ((nth xs2 i2).X), vi ((nth xs2 i2).Y)] [vi k3, vi ((nth xs2 i2).Y)] hcl36 rfl rfl (kPt.mk _ _ (⟨k3, (nth xs2 i2).Y⟩ : Pt)) fun w38 g39 h40 => ?_
    have hc41 := hc21.wm g39
    refine L_nil ?_
    refine W_seq ?_
    refine W_reg ?_
    refine L_pu (P_move (vi k3) rfl) ?_
    obtain ⟨hb42, H⟩ := H
    have hi43 := hb42 (len_le hl29)
    refine L_pu (P_add k3 1 rfl rfl hi43) ?_
    refine L_pu (P_assign (vi (k3 + 1)) rfl) ?_
    refine L_nil ?_
    refine W_seq ?_
    refine W_reg ?_
    refine L_pu (P_move (.slice A1 n2 c3) rfl) ?_
    refine L_pu (P_move (vi i2) rfl) ?_
    refine L_pu (P_move (vi (k3 + 1)) rfl) ?_
    obtain ⟨hb44, H⟩ := H
    obtain ⟨ad45, cs46, hA47, hR48, hcl49⟩ := h40.get default (by decide) i2 hb44
    obtain rfl := kPt.op hR48
    refine L_pu (P_ia Try.underlying23 se23 A1 ad45 n2 c3 h40.len i2 rfl hA47 rfl hb44) ?_
    refine L_pu (P_fa fa29_1 (ad45.add (i2.toNat * 2)) ((ad45.add (i2.toNat * 2)).add 1) rfl rfl) ?_
    refine L_ste1 A1 n2 c3 (xs2.set i2.toNat (⟨k3, (nth xs2 i2).Y⟩ : Pt)) h40 i2 hb44 ad45 hA47 1 rfl [vi (k3 + 1)] rfl sz3 rfl (⟨(nth (xs2.set i2.toNat (⟨k3, (nth xs2 i2).Y⟩ : Pt)) i2).X, k3 + 1⟩ : Pt) [vi ((nth (xs2.set i2.toNat (⟨k3, (nth xs2 i2).Y⟩ : Pt)) i2).X), vi ((nth (xs2.set i2.toNat (⟨k3, (nth xs2 i2).Y⟩ : Pt)) i2).Y)] [vi ((nth (xs2.set i2.toNat (⟨k3, (nth xs2 i2).Y⟩ : Pt)) i2).X), vi (k3 + 1)] hcl49 rfl rfl (kPt.mk _ _ (⟨(nth (xs2.set i2.toNat (⟨k3, (nth xs2 i2).Y⟩ : Pt)) i2).X, k3 + 1⟩ : Pt)) fun w51 g52 h53 => ?_
    have hc54 := hc41.wm g52
    refine L_nil ?_
    refine W_reg ?_
    refine L_pu (P_move (vi (k3 + 1)) rfl) ?_
    obtain ⟨hb55, H⟩ := H
    have hi56 := hb55 (len_le hl29)
    refine L_pu (P_add (k3 + 1) 1 rfl rfl hi56) ?_
    refine L_pu (P_assign (vi (k3 + 1 + 1)) rfl) ?_
    refine L_nil ?_
    refine W_reg ?_
    refine L_pu (P_move (vi i2) rfl) ?_
    obtain ⟨hb58, H⟩ := H
    have hi57 : I64 (i2 + 1) := i64_succ (of_decide_eq_true hq30) hl29 hb58
    refine L_pu (P_add i2 1 rfl rfl hi57) ?_
    refine L_pu (P_assign (vi (i2 + 1)) rfl) ?_
    refine L_nil ?_
    obtain ⟨hI59, hm60⟩ := H
    exact ⟨(((xs2.set i2.toNat (⟨k3, (nth xs2 i2).Y⟩ : Pt)).set i2.toNat (⟨(nth (xs2.set i2.toNat (⟨k3, (nth xs2 i2).Y⟩ : Pt)) i2).X, k3 + 1⟩ : Pt)), k3 + 1 + 1, i2 + 1), hm60, hI59, ⟨rfl, rfl, rfl, trivial⟩, hc54, h53⟩
  · have H := ite_f H hq30
    refine W_exit (xin_hit ?_)
    refine W_seq ?_
    refine W_reg ?_
    refine L_pu (P_move (vi k3) rfl) ?_
    refine L_pu (P_assign (vi k3) rfl) ?_
    refine L_nil ?_
    refine W_ret ?_
    exact ⟨[vi k3], ⟨_, rfl, rfl⟩, k3, xs2, rfl, H, hc21.gr.g1, h22⟩
end Go.Proofs.Ytndjggncgpjolaa

namespace Go.Proofs.Ytndjggncgpjolaa
set_option linter.unusedVariables false
set_option linter.unusedSimpArgs false
set_option linter.unusedSectionVars false
def markedPt (n : Nat) (k : Int) : List Pt := (List.range n).map fun i : Nat => ⟨k + 2 * (i : Int), k + 2 * (i : Int) + 1⟩
theorem markedPt_len (n : Nat) (k : Int) : (markedPt n k).length = n := by simp [markedPt]
theorem markedPt_nth (n : Nat) (k : Int) {i : Nat} (h : i < n) : nth (markedPt n k) (i : Int) = ⟨k + 2 * i, k + 2 * i + 1⟩ := by
  rw [nth_nat _ (by rw [markedPt_len]; exact h)]; simp [markedPt]
theorem laws_markPtS.law (a : List Pt) (k : Int) (Q : Int → List Pt → Prop) (ha : a.length ≤ 1048576) (h0 : 0 ≤ k) (h1 : k ≤ 1000000000) (hq : Q (k + 2 * a.length) (markedPt a.length k)) : laws_markPtS.E a k Q := by
  unfold laws_markPtS.E
  refine ⟨fun xs k' i => ∃ u : Nat, i = u ∧ u ≤ a.length ∧ k' = k + 2 * u ∧ xs.length = a.length ∧ xs.take u = markedPt u k, fun _ _ i => (a.length - i).toNat, ⟨0, rfl, Nat.zero_le _, by omega, rfl, rfl⟩, ?_⟩
  rintro xs _ _ ⟨u, rfl, hu, rfl, hl, ht⟩
  rw [hl]
  by_cases h : (u : Int) < (a.length : Int)
  · rw [if_pos (by simpa using h)]
    have hu' : u < xs.length := by omega
    rw [Int.toNat_natCast, nth_set _ hu', if_pos rfl, List.set_set]
    refine ⟨by omega, fun _ => by unfold I64; omega, by simp only [List.length_set]; omega, fun _ => by unfold I64; omega, by omega, ⟨u + 1, by omega, by omega, by omega, by rw [List.length_set]; exact hl, ?_⟩, by dsimp only; omega⟩
    rw [List.take_succ_eq_append_getElem (by rw [List.length_set]; exact hu'), List.getElem_set_self, List.take_set_of_le (Nat.le_refl _), ht]
    unfold markedPt
    rw [List.range_succ, List.map_append]
    rfl
  · rw [if_neg (by simpa using h)]
    have : u = a.length := by omega
    subst this
    rw [List.take_of_length_le (by omega)] at ht
    rw [ht]; exact hq
theorem laws_markPtS.lawk (a : List Pt) (k : Int) (Q : Int → List Pt → Prop) (ha : bulk a ≤ 1048576) (h0 : 0 ≤ k) (h1 : k ≤ 1000000000) (hq : Q (mkL gPt a k).2 (mkL gPt a k).1) : laws_markPtS.E a k Q := by
  unfold laws_markPtS.E
  have hbl := bulk_len a
  refine ⟨fun xs k' i => ∃ u : Nat, i = u ∧ Mk gPt a k u xs k', fun _ _ i => (a.length - i).toNat, ⟨0, rfl, .zero a k⟩, ?_⟩
  rintro xs k' _ ⟨u, rfl, M⟩
  have hl := M.len
  have hb := M.bd gPt_bd
  rw [hl]
  by_cases h : u < a.length
  · rw [if_pos (by simpa using h)]
    have hu' : u < xs.length := by omega
    rw [Int.toNat_natCast, nth_set _ hu', if_pos rfl, List.set_set]
    exact ⟨by omega, fun _ => by unfold I64; omega, by simp only [List.length_set]; omega, fun _ => by unfold I64; omega, by omega, ⟨u + 1, by omega, M.next h (by show _ = (_, _); unfold gPt; rw [Int.add_assoc]; rfl)⟩, by dsimp only; omega⟩
  · rw [if_neg (by simpa using h)]
    obtain ⟨rfl, rfl⟩ := M.full h
    exact hq
end Go.Proofs.Ytndjggncgpjolaa

namespace Go.Proofs.Ytndjggncgpjolaa
open Go.RowKit
set_option linter.unusedVariables false
def laws_markTagS.E (a : List Tag) (k : Int) (Q : Int → List Tag → Prop) : Prop :=
  (∃ (I23 : (List Tag) → Int → Int → Prop) (mu24 : (List Tag) → Int → Int → Nat), I23 a k 0 ∧ ∀ (xs2 : List Tag) (k3 : Int) (i2 : Int), I23 xs2 k3 i2 → (if decide (i2 < (xs2.length : Int)) then laws_markText.E k3 (fun r => ((0 : Int) ≤ i2 ∧ i2 < (xs2.length : Int)) ∧ ((xs2.length : Int) ≤ 9223372036854775807 → I64 (k3 + 1)) ∧ laws_markText.E (k3 + 1) (fun r2 => ((0 : Int) ≤ i2 ∧ i2 < ((xs2.set i2.toNat (⟨r, (nth xs2 i2).Val⟩ : Tag)).length : Int)) ∧ ((xs2.length : Int) ≤ 9223372036854775807 → I64 (k3 + 1 + 1)) ∧ (-9223372036854775808 ≤ i2) ∧ I23 ((xs2.set i2.toNat (⟨r, (nth xs2 i2).Val⟩ : Tag)).set i2.toNat (⟨(nth (xs2.set i2.toNat (⟨r, (nth xs2 i2).Val⟩ : Tag)) i2).Key, r2⟩ : Tag)) (k3 + 1 + 1) (i2 + 1) ∧ mu24 ((xs2.set i2.toNat (⟨r, (nth xs2 i2).Val⟩ : Tag)).set i2.toNat (⟨(nth (xs2.set i2.toNat (⟨r, (nth xs2 i2).Val⟩ : Tag)) i2).Key, r2⟩ : Tag)) (k3 + 1 + 1) (i2 + 1) < mu24 xs2 k3 i2)) else Q k3 xs2))
set_option maxHeartbeats 8000000 in
set_option maxRecDepth 100000 in
theorem laws_markTagS.calls {O : Ob} (w0 : World) (hO : Ok w0 O) (A1 : Option Addr) (n2 c3 : Nat) (a : List Tag) (hp0 : Ow kTag 133 w0 O (.slice A1 n2 c3) a) (k : Int) (Q : Int → List Tag → Prop) (h : laws_markTagS.E a k Q) :
    Ret Try.prog 69 [.slice A1 n2 c3, vi k] w0 (fun v w' => ∃ (r0 : Int) (m0 : List Tag), v = vi r0 ∧ Q r0 m0 ∧ Gr w0 w' (blk (.slice A1 n2 c3)) ∧ Ow kTag 133 w' O (.slice A1 n2 c3) m0) := by
  have H : (∃ (I23 : (List Tag) → Int → Int → Prop) (mu24 : (List Tag) → Int → Int → Nat), I23 a k 0 ∧ ∀ (xs2 : List Tag) (k3 : Int) (i2 : Int), I23 xs2 k3 i2 → (if decide (i2 < (xs2.length : Int)) then laws_markText.E k3 (fun r => ((0 : Int) ≤ i2 ∧ i2 < (xs2.length : Int)) ∧ ((xs2.length : Int) ≤ 9223372036854775807 → I64 (k3 + 1)) ∧ laws_markText.E (k3 + 1) (fun r2 => ((0 : Int) ≤ i2 ∧ i2 < ((xs2.set i2.toNat (⟨r, (nth xs2 i2).Val⟩ : Tag)).length : Int)) ∧ ((xs2.length : Int) ≤ 9223372036854775807 → I64 (k3 + 1 + 1)) ∧ (-9223372036854775808 ≤ i2) ∧ I23 ((xs2.set i2.toNat (⟨r, (nth xs2 i2).Val⟩ : Tag)).set i2.toNat (⟨(nth (xs2.set i2.toNat (⟨r, (nth xs2 i2).Val⟩ : Tag)) i2).Key, r2⟩ : Tag)) (k3 + 1 + 1) (i2 + 1) ∧ mu24 ((xs2.set i2.toNat (⟨r, (nth xs2 i2).Val⟩ : Tag)).set i2.toNat (⟨(nth (xs2.set i2.toNat (⟨r, (nth xs2 i2).Val⟩ : Tag)) i2).Key, r2⟩ : Tag)) (k3 + 1 + 1) (i2 + 1) < mu24 xs2 k3 i2)) else Q k3 xs2)) := h
  clear h
  have hc0 := Ct.initm1 (r := blk (.slice A1 n2 c3)) hO (by intro b e; exact hp0.mem b e)
  refine Ret_enter Try.func69 rfl 29 rfl [.tmp 4] rfl rfl ?_
  refine W_seq ?_
  refine W_reg ?_
  refine L_pu (P_assign (vi 0) rfl) ?_
  refine L_nil ?_
  refine W_seq ?_
  refine W_seq ?_
  refine W_reg ?_
  refine L_pu (P_assign (vi 0) rfl) ?_
  refine L_nil ?_
  refine W_block ?_
  obtain ⟨I23, mu24, hI25, H⟩ := H
  refine W_loop (α := (List Tag) × Int × Int) (fun (sv__ : (List Tag) × Int × Int) t w16 => match sv__ with | (xs2, k3, i2) => I23 xs2 k3 i2 ∧ Has t [(0, .slice A1 n2 c3), (1, vi k3), (5, vi i2)] ∧ Ct [blk (.slice A1 n2 c3)] w0 w16 [] O ∧ Ow kTag 133 w16 O (.slice A1 n2 c3) xs2) (fun (sv__ : (List Tag) × Int × Int) => match sv__ with | (xs2, k3, i2) => mu24 xs2 k3 i2) (a, k, 0) ⟨hI25, ⟨rfl, rfl, rfl, trivial⟩, hc0, hp0⟩ ?_
  rintro ⟨xs2, k3, i2⟩ _ w16 ⟨hI25, hh27, hc21, h22⟩
  obtain ⟨u28, rfl⟩ := Has.ins hh27
  have H := H xs2 k3 i2 hI25
  refine W_seq ?_
  refine W_seq ?_
  refine W_reg ?_
  refine L_pu (P_move (vi i2) rfl) ?_
  refine L_pu (P_move (.slice A1 n2 c3) rfl) ?_
  have hl29 := h22.le
  refine L_pu (P_len Try.underlying69 A1 n2 c3 h22.len rfl) ?_
  refine L_pu (P_cmp i2 (xs2.length : Int) (decide (i2 < (xs2.length : Int))) rfl rfl rfl) ?_
  refine L_nil ?_
  refine W_cond (decide (i2 < (xs2.length : Int))) rfl (fun hq30 => ?_) (fun hq30 => ?_)
  · have H := ite_t H hq30
    refine W_skip ?_
    refine W_seq ?_
    refine W_block ?_
    refine W_seq ?_
    refine W_reg ?_
    refine L_pu (P_move (.slice A1 n2 c3) rfl) ?_
    refine L_pu (P_move (vi i2) rfl) ?_
    refine L_pu (P_move (vi k3) rfl) ?_
    refine L_call go67 [vi k3] rfl ((laws_markText.calls w16 hc21.ok k3 _ H).mono ?_)
    rintro _ w31 ⟨r, rfl, H, g32, hs33⟩
    have hc37 := hc21.k0 g32
    obtain ⟨hb38, H⟩ := H
    have h45 := (h22.sn g32)
    obtain ⟨ad39, cs40, hA41, hR42, hcl43⟩ := h45.get default (by decide) i2 hb38
    obtain ⟨rfl, hs46, hs47⟩ := kTag.op hR42
    refine L_pu (P_ia Try.underlying69 se69 A1 ad39 n2 c3 h45.len i2 rfl hA41 rfl hb38) ?_
    refine L_pu (P_fa fa133_0 (ad39.add (i2.toNat * 2)) ((ad39.add (i2.toNat * 2)).add 0) rfl rfl) ?_
    refine L_ste1 A1 n2 c3 xs2 h45 i2 hb38 ad39 hA41 0 rfl [vs r] rfl sz9 rfl (⟨r, (nth xs2 i2).Val⟩ : Tag) [vs ((nth xs2 i2).Key), vs ((nth xs2 i2).Val)] [vs r, vs ((nth xs2 i2).Val)] hcl43 rfl rfl (kTag.mk _ _ (⟨r, (nth xs2 i2).Val⟩ : Tag) hs33 hs47) fun w48 g49 h50 => ?_
    have hc51 := hc37.wm g49
    refine L_nil ?_
    refine W_seq ?_
    refine W_reg ?_
    refine L_pu (P_move (vi k3) rfl) ?_
    obtain ⟨hb52, H⟩ := H
    have hi53 := hb52 (len_le hl29)
    refine L_pu (P_add k3 1 rfl rfl hi53) ?_
    refine L_pu (P_assign (vi (k3 + 1)) rfl) ?_
    refine L_nil ?_
    refine W_seq ?_
    refine W_reg ?_
    refine L_pu (P_move (.slice A1 n2 c3) rfl) ?_
    refine L_pu (P_move (vi i2) rfl) ?_
    refine L_pu (P_move (vi (k3 + 1)) rfl) ?_
    refine L_call go67 [vi (k3 + 1)] rfl ((laws_markText.calls w48 hc51.ok (k3 + 1) _ H).mono ?_)
    rintro _ w54 ⟨r2, rfl, H, g55, hs56⟩
    have hc60 := hc51.k0 g55
    obtain ⟨hb61, H⟩ := H
    have h68 := (h50.sn g55)
    obtain ⟨ad62, cs63, hA64, hR65, hcl66⟩ := h68.get default (by decide) i2 hb61
    obtain ⟨rfl, hs69, hs70⟩ := kTag.op hR65
    refine L_pu (P_ia Try.underlying69 se69 A1 ad62 n2 c3 h68.len i2 rfl hA64 rfl hb61) ?_
    refine L_pu (P_fa fa133_1 (ad62.add (i2.toNat * 2)) ((ad62.add (i2.toNat * 2)).add 1) rfl rfl) ?_
    refine L_ste1 A1 n2 c3 (xs2.set i2.toNat (⟨r, (nth xs2 i2).Val⟩ : Tag)) h68 i2 hb61 ad62 hA64 1 rfl [vs r2] rfl sz9 rfl (⟨(nth (xs2.set i2.toNat (⟨r, (nth xs2 i2).Val⟩ : Tag)) i2).Key, r2⟩ : Tag) [vs ((nth (xs2.set i2.toNat (⟨r, (nth xs2 i2).Val⟩ : Tag)) i2).Key), vs ((nth (xs2.set i2.toNat (⟨r, (nth xs2 i2).Val⟩ : Tag)) i2).Val)] [vs ((nth (xs2.set i2.toNat (⟨r, (nth xs2 i2).Val⟩ : Tag)) i2).Key), vs r2] hcl66 rfl rfl (kTag.mk _ _ (⟨(nth (xs2.set i2.toNat (⟨r, (nth xs2 i2).Val⟩ : Tag)) i2).Key, r2⟩ : Tag) hs69 hs56) fun w71 g72 h73 => ?_
    have hc74 := hc60.wm g72
    refine L_nil ?_
    refine W_reg ?_
    refine L_pu (P_move (vi (k3 + 1)) rfl) ?_
    obtain ⟨hb75, H⟩ := H
    have hi76 := hb75 (len_le hl29)
    refine L_pu (P_add (k3 + 1) 1 rfl rfl hi76) ?_
    refine L_pu (P_assign (vi (k3 + 1 + 1)) rfl) ?_
    refine L_nil ?_
    refine W_reg ?_
    refine L_pu (P_move (vi i2) rfl) ?_
    obtain ⟨hb78, H⟩ := H
    have hi77 : I64 (i2 + 1) := i64_succ (of_decide_eq_true hq30) hl29 hb78
    refine L_pu (P_add i2 1 rfl rfl hi77) ?_
    refine L_pu (P_assign (vi (i2 + 1)) rfl) ?_
    refine L_nil ?_
    obtain ⟨hI79, hm80⟩ := H
    exact ⟨(((xs2.set i2.toNat (⟨r, (nth xs2 i2).Val⟩ : Tag)).set i2.toNat (⟨(nth (xs2.set i2.toNat (⟨r, (nth xs2 i2).Val⟩ : Tag)) i2).Key, r2⟩ : Tag)), k3 + 1 + 1, i2 + 1), hm80, hI79, ⟨rfl, rfl, rfl, trivial⟩, hc74, h73⟩
  · have H := ite_f H hq30
    refine W_exit (xin_hit ?_)
    refine W_seq ?_
    refine W_reg ?_
    refine L_pu (P_move (vi k3) rfl) ?_
    refine L_pu (P_assign (vi k3) rfl) ?_
    refine L_nil ?_
    refine W_ret ?_
    exact ⟨[vi k3], ⟨_, rfl, rfl⟩, k3, xs2, rfl, H, hc21.gr.g1, h22⟩
end Go.Proofs.Ytndjggncgpjolaa

namespace Go.Proofs.Ytndjggncgpjolaa
set_option linter.unusedVariables false
set_option linter.unusedSimpArgs false
set_option linter.unusedSectionVars false
theorem laws_markTagS.lawk (a : List Tag) (k : Int) (Q : Int → List Tag → Prop) (ha : bulk a ≤ 1048576) (h0 : 0 ≤ k) (h1 : k ≤ 1000000000) (hq : Q (mkL gTag a k).2 (mkL gTag a k).1) : laws_markTagS.E a k Q := by
  unfold laws_markTagS.E
  have hbl := bulk_len a
  refine ⟨fun xs k' i => ∃ u : Nat, i = u ∧ Mk gTag a k u xs k', fun _ _ i => (a.length - i).toNat, ⟨0, rfl, .zero a k⟩, ?_⟩
  rintro xs k' _ ⟨u, rfl, M⟩
  have hl := M.len
  have hb := M.bd gTag_bd
  by_cases h : u < a.length
  · rw [if_pos (by rw [hl]; simpa using h)]
    have hu' : u < xs.length := by omega
    have hx := M.nth h
    have hm := bulk_mem (nth_mem a h)
    refine laws_markText.law _ _ (by omega) (by omega) ⟨by omega, fun _ => by unfold I64; omega, laws_markText.law _ _ (by omega) (by omega) ?_⟩
    rw [Int.toNat_natCast, nth_set _ hu', if_pos rfl, List.set_set]
    exact ⟨by simp only [List.length_set]; omega, fun _ => by unfold I64; omega, by omega, ⟨u + 1, by omega, M.next h (by show _ = (_, _); unfold gTag; rw [Int.add_assoc]; rfl)⟩, by dsimp only; omega⟩
  · rw [if_neg (by rw [hl]; simpa using h)]
    obtain ⟨rfl, rfl⟩ := M.full h
    exact hq
end Go.Proofs.Ytndjggncgpjolaa

namespace Go.Proofs.Ytndjggncgpjolaa
open Go.RowKit
set_option linter.unusedVariables false
def laws_markFeatS.E (a : List Feat) (k : Int) (Q : Int → List Feat → Prop) : Prop :=
  (∃ (I32 : (List Feat) → Int → Int → Prop) (mu33 : (List Feat) → Int → Int → Nat), I32 a k 0 ∧ ∀ (xs2 : List Feat) (k3 : Int) (i2 : Int), I32 xs2 k3 i2 → (if decide (i2 < (xs2.length : Int)) then laws_markText.E k3 (fun r => ((0 : Int) ≤ i2 ∧ i2 < (xs2.length : Int)) ∧ (∀ xs3 : List Feat, xs3 = (xs2.set i2.toNat (⟨r, (nth xs2 i2).Shape, (nth xs2 i2).Tags⟩ : Feat)) → ((xs2.length : Int) ≤ 9223372036854775807 → I64 (k3 + 1)) ∧ ((0 : Int) ≤ i2 ∧ i2 < (xs3.length : Int)) ∧ (∀ xs4 : List Feat, xs4 = (xs3.set i2.toNat (⟨(nth xs3 i2).Id, (⟨k3 + 1, (nth xs3 i2).Shape.Pts⟩ : Shape), (nth xs3 i2).Tags⟩ : Feat)) → ((xs2.length : Int) ≤ 9223372036854775807 → I64 (k3 + 1 + 1)) ∧ ((0 : Int) ≤ i2 ∧ i2 < (xs4.length : Int)) ∧ laws_markPtS.E ((nth xs4 i2).Shape.Pts) (k3 + 1 + 1) (fun r2 m => (∀ xs5 : List Feat, xs5 = (xs4.set i2.toNat (⟨(nth xs4 i2).Id, (⟨(nth xs4 i2).Shape.Kind, m⟩ : Shape), (nth xs4 i2).Tags⟩ : Feat)) → ((0 : Int) ≤ i2 ∧ i2 < (xs5.length : Int)) ∧ laws_markTagS.E ((nth xs5 i2).Tags) r2 (fun r3 m2 => (∀ xs6 : List Feat, xs6 = (xs5.set i2.toNat (⟨(nth xs5 i2).Id, (nth xs5 i2).Shape, m2⟩ : Feat)) → (-9223372036854775808 ≤ i2) ∧ I32 xs6 r3 (i2 + 1) ∧ mu33 xs6 r3 (i2 + 1) < mu33 xs2 k3 i2))))))) else Q k3 xs2))
set_option maxHeartbeats 8000000 in
set_option maxRecDepth 100000 in
theorem laws_markFeatS.calls {O : Ob} (w0 : World) (hO : Ok w0 O) (a : List Feat) (A1 : Option Addr) (n2 c3 : Nat) (ra6 : List (List Value)) (q7 : Ob) (hp5 : Ow (Kd.cells 4) 71 w0 O (.slice A1 n2 c3) ra6) (hd8 : DArr dFeat_71 w0 q7 a ra6) (hdj : Dj (blk (.slice A1 n2 c3) :: (q7 ++ []))) (hmm : ∀ b, some b ∈ ((blk (.slice A1 n2 c3) :: (q7 ++ [])) : Ob) → some b ∈ O) (k : Int) (Q : Int → List Feat → Prop) (h : laws_markFeatS.E a k Q) :
    Ret Try.prog 30 [.slice A1 n2 c3, vi k] w0 (fun v w' => ∃ (r0 : Int) (m0 : List Feat) (mra0 : List (List Value)), v = vi r0 ∧ Q r0 m0 ∧ Gm w0 w' (blk (.slice A1 n2 c3) :: (q7 ++ [])) ∧ Ow (Kd.cells 4) 71 w' O (.slice A1 n2 c3) mra0 ∧ DArr dFeat_71 w' q7 m0 mra0) := by
  have H : (∃ (I32 : (List Feat) → Int → Int → Prop) (mu33 : (List Feat) → Int → Int → Nat), I32 a k 0 ∧ ∀ (xs2 : List Feat) (k3 : Int) (i2 : Int), I32 xs2 k3 i2 → (if decide (i2 < (xs2.length : Int)) then laws_markText.E k3 (fun r => ((0 : Int) ≤ i2 ∧ i2 < (xs2.length : Int)) ∧ (∀ xs3 : List Feat, xs3 = (xs2.set i2.toNat (⟨r, (nth xs2 i2).Shape, (nth xs2 i2).Tags⟩ : Feat)) → ((xs2.length : Int) ≤ 9223372036854775807 → I64 (k3 + 1)) ∧ ((0 : Int) ≤ i2 ∧ i2 < (xs3.length : Int)) ∧ (∀ xs4 : List Feat, xs4 = (xs3.set i2.toNat (⟨(nth xs3 i2).Id, (⟨k3 + 1, (nth xs3 i2).Shape.Pts⟩ : Shape), (nth xs3 i2).Tags⟩ : Feat)) → ((xs2.length : Int) ≤ 9223372036854775807 → I64 (k3 + 1 + 1)) ∧ ((0 : Int) ≤ i2 ∧ i2 < (xs4.length : Int)) ∧ laws_markPtS.E ((nth xs4 i2).Shape.Pts) (k3 + 1 + 1) (fun r2 m => (∀ xs5 : List Feat, xs5 = (xs4.set i2.toNat (⟨(nth xs4 i2).Id, (⟨(nth xs4 i2).Shape.Kind, m⟩ : Shape), (nth xs4 i2).Tags⟩ : Feat)) → ((0 : Int) ≤ i2 ∧ i2 < (xs5.length : Int)) ∧ laws_markTagS.E ((nth xs5 i2).Tags) r2 (fun r3 m2 => (∀ xs6 : List Feat, xs6 = (xs5.set i2.toNat (⟨(nth xs5 i2).Id, (nth xs5 i2).Shape, m2⟩ : Feat)) → (-9223372036854775808 ≤ i2) ∧ I32 xs6 r3 (i2 + 1) ∧ mu33 xs6 r3 (i2 + 1) < mu33 xs2 k3 i2))))))) else Q k3 xs2)) := h
  clear h
  have hc0 := Ct.initm hO hmm
  refine Ret_enter Try.func30 rfl 44 rfl [.tmp 4] rfl rfl ?_
  refine W_seq ?_
  refine W_reg ?_
  refine L_pu (P_assign (vi 0) rfl) ?_
  refine L_nil ?_
  refine W_seq ?_
  refine W_seq ?_
  refine W_reg ?_
  refine L_pu (P_assign (vi 0) rfl) ?_
  refine L_nil ?_
  refine W_block ?_
  obtain ⟨I32, mu33, hI34, H⟩ := H
  refine W_loop (α := (List Feat) × (List (List Value)) × Int × Int) (fun (sv__ : (List Feat) × (List (List Value)) × Int × Int) t w23 => match sv__ with | (xs2, ra28, k3, i2) => I32 xs2 k3 i2 ∧ Has t [(0, .slice A1 n2 c3), (1, vi k3), (5, vi i2)] ∧ Ct (blk (.slice A1 n2 c3) :: (q7 ++ [])) w0 w23 [] O ∧ Ow (Kd.cells 4) 71 w23 O (.slice A1 n2 c3) ra28 ∧ DArr dFeat_71 w23 q7 xs2 ra28) (fun (sv__ : (List Feat) × (List (List Value)) × Int × Int) => match sv__ with | (xs2, _, k3, i2) => mu33 xs2 k3 i2) (a, ra6, k, 0) ⟨hI34, ⟨rfl, rfl, rfl, trivial⟩, hc0, hp5, hd8⟩ ?_
  rintro ⟨xs2, ra28, k3, i2⟩ _ w23 ⟨hI34, hh36, hc29, h30, hd31⟩
  obtain ⟨u37, rfl⟩ := Has.ins hh36
  have H := H xs2 k3 i2 hI34
  refine W_seq ?_
  refine W_seq ?_
  refine W_reg ?_
  refine L_pu (P_move (vi i2) rfl) ?_
  refine L_pu (P_move (.slice A1 n2 c3) rfl) ?_
  have hl38 := (Dp.le h30 hd31)
  refine L_pu (P_len Try.underlying52 A1 n2 c3 (Dp.len h30 hd31) rfl) ?_
  refine L_pu (P_cmp i2 (xs2.length : Int) (decide (i2 < (xs2.length : Int))) rfl rfl rfl) ?_
  refine L_nil ?_
  refine W_cond (decide (i2 < (xs2.length : Int))) rfl (fun hq39 => ?_) (fun hq39 => ?_)
  · have H := ite_t H hq39
    refine W_skip ?_
    refine W_seq ?_
    refine W_block ?_
    refine W_seq ?_
    refine W_reg ?_
    refine L_pu (P_move (.slice A1 n2 c3) rfl) ?_
    refine L_pu (P_move (vi i2) rfl) ?_
    refine L_pu (P_move (vi k3) rfl) ?_
    refine L_call go67 [vi k3] rfl ((laws_markText.calls w23 hc29.ok k3 _ H).mono ?_)
    rintro _ w40 ⟨r, rfl, H, g41, hs42⟩
    have hc46 := hc29.k0 g41
    obtain ⟨hb47, H⟩ := H
    have h54 := (h30.sn g41)
    have hd55 := (hd31.k0 g41)
    have hn56 : (0 : Int) ≤ i2 ∧ i2 < (ra28.length : Int) := by rw [hd55.len]; exact hb47
    obtain ⟨ad48, cs49, hA50, hR51, hcl52⟩ := h54.get default (by decide) i2 hn56
    obtain rfl := Kd.cells.op hR51
    refine L_pu (P_ia Try.underlying52 se52 A1 ad48 n2 c3 (Dp.len h54 hd55) i2 rfl hA50 rfl hb47) ?_
    refine L_pu (P_fa fa71_0 (ad48.add (i2.toNat * 4)) ((ad48.add (i2.toNat * 4)).add 0) rfl rfl) ?_
    obtain ⟨q57, hq58, hq59, hD60, hU61⟩ := DArr.at_ (Int.toNat i2) default hd55 (by have := hb47; omega)
    obtain ⟨q62, pr63, cc64, po65, hq66, hq67, hq68, hq69, hF70, hV71⟩ := foc71_0 _ _ _ _ hD60
    have hy72 : ((Dd.flat (k := Kd.str) str_flat)).D w40 q62 r [vs r] := ⟨hF70.1, ⟨rfl, hs42⟩⟩
    have hy73 := hV71 _ _ _ (hq59 (Dj.left hdj.2)) (fun _ _ _ => rfl) hy72
    have hl77 : cc64.length = [vs r].length := (((Dd.flat (k := Kd.str) str_flat)).toR (S := fun _ => True) hF70 fun _ _ => trivial) |> Kd.len _
    refine L_ste1 (kd := Kd.cells 4) A1 n2 c3 ra28 h54 i2 hn56 ad48 hA50 0 rfl [vs r] rfl sz9 rfl (pr63 ++ [vs r] ++ po65) _ (pr63 ++ [vs r] ++ po65) hcl52 (Kd.len _ hR51) (foc_put hq68 hq69 hl77) (Dd.raw _ hy73) fun w74 g75 h76 => ?_
    have hc78 := hc46.wmm (memi (L := (blk (.slice A1 n2 c3) :: (q7 ++ []))) 0 rfl) g75
    have hg80 : ∀ b, some b ∈ (q7 : Ob) → w74.heap[b]? = _ := fun b hb => g75.block b (hd55.lt b hb) (fun e => (hdj).1 b e.symm (List.mem_append_left _ hb))
    have hd79 := hU61 w74 _ _ (Dj.left hdj.2) (fun b hb _ => hg80 b hb) (hV71 _ _ _ (hq59 (Dj.left hdj.2)) (fun b hb _ => hg80 b (hq58 b hb)) hy72)
    obtain ⟨xs3, he81⟩ : ∃ y__ : List Feat, y__ = (xs2.set i2.toNat (⟨r, (nth xs2 i2).Shape, (nth xs2 i2).Tags⟩ : Feat)) := ⟨_, rfl⟩
    have H := H xs3 he81
    rw [← he81] at hd79
    refine L_nil ?_
    refine W_seq ?_
    refine W_reg ?_
    refine L_pu (P_move (vi k3) rfl) ?_
    obtain ⟨hb82, H⟩ := H
    have hi83 := hb82 (len_le hl38)
    refine L_pu (P_add k3 1 rfl rfl hi83) ?_
    refine L_pu (P_assign (vi (k3 + 1)) rfl) ?_
    refine L_nil ?_
    refine W_seq ?_
    refine W_reg ?_
    refine L_pu (P_move (.slice A1 n2 c3) rfl) ?_
    refine L_pu (P_move (vi i2) rfl) ?_
    refine L_pu (P_move (vi (k3 + 1)) rfl) ?_
    obtain ⟨hb84, H⟩ := H
    have hn91 : (0 : Int) ≤ i2 ∧ i2 < ((ra28.set i2.toNat (pr63 ++ [vs r] ++ po65)).length : Int) := by rw [hd79.len]; exact hb84
    obtain ⟨ad85, cs86, hA87, hR88, hcl89⟩ := h76.get default (by decide) i2 hn91
    obtain rfl := Kd.cells.op hR88
    refine L_pu (P_ia Try.underlying52 se52 A1 ad85 n2 c3 (Dp.len h76 hd79) i2 rfl hA87 rfl hb84) ?_
    refine L_pu (P_fa fa71_1 (ad85.add (i2.toNat * 4)) ((ad85.add (i2.toNat * 4)).add 1) rfl rfl) ?_
    refine L_pu (P_fa fa68_0 ((ad85.add (i2.toNat * 4)).add 1) (((ad85.add (i2.toNat * 4)).add 1).add 0) rfl rfl) ?_
    obtain ⟨q92, hq93, hq94, hD95, hU96⟩ := DArr.at_ (Int.toNat i2) default hd79 (by have := hb84; omega)
    obtain ⟨q97, pr98, cc99, po100, hq101, hq102, hq103, hq104, hF105, hV106⟩ := foc71_1 _ _ _ _ hD95
    have hy107 : ((Dd.flat (k := (Kd.int .i64)) (int_flat _))).D w74 q97 (k3 + 1) [vi (k3 + 1)] := ⟨hF105.1, rfl⟩
    have hy108 := hV106 _ _ _ (hq94 (Dj.left hdj.2)) (fun _ _ _ => rfl) hy107
    have hl112 : cc99.length = [vi (k3 + 1)].length := (((Dd.flat (k := (Kd.int .i64)) (int_flat _))).toR (S := fun _ => True) hF105 fun _ _ => trivial) |> Kd.len _
    refine L_ste2 (kd := Kd.cells 4) A1 n2 c3 (ra28.set i2.toNat (pr63 ++ [vs r] ++ po65)) h76 i2 hn91 ad85 hA87 1 rfl rfl [vi (k3 + 1)] rfl sz3 rfl (pr98 ++ [vi (k3 + 1)] ++ po100) _ (pr98 ++ [vi (k3 + 1)] ++ po100) hcl89 (Kd.len _ hR88) (foc_put hq103 hq104 hl112) (Dd.raw _ hy108) fun w109 g110 h111 => ?_
    have hc113 := hc78.wmm (memi (L := (blk (.slice A1 n2 c3) :: (q7 ++ []))) 0 rfl) g110
    have hg115 : ∀ b, some b ∈ (q7 : Ob) → w109.heap[b]? = _ := fun b hb => g110.block b (hd79.lt b hb) (fun e => (hdj).1 b e.symm (List.mem_append_left _ hb))
    have hd114 := hU96 w109 _ _ (Dj.left hdj.2) (fun b hb _ => hg115 b hb) (hV106 _ _ _ (hq94 (Dj.left hdj.2)) (fun b hb _ => hg115 b (hq93 b hb)) hy107)
    obtain ⟨xs4, he116⟩ : ∃ y__ : List Feat, y__ = (xs3.set i2.toNat (⟨(nth xs3 i2).Id, (⟨k3 + 1, (nth xs3 i2).Shape.Pts⟩ : Shape), (nth xs3 i2).Tags⟩ : Feat)) := ⟨_, rfl⟩
    have H := H xs4 he116
    rw [← he116] at hd114
    refine L_nil ?_
    refine W_seq ?_
    refine W_reg ?_
    refine L_pu (P_move (vi (k3 + 1)) rfl) ?_
    obtain ⟨hb117, H⟩ := H
    have hi118 := hb117 (len_le hl38)
    refine L_pu (P_add (k3 + 1) 1 rfl rfl hi118) ?_
    refine L_pu (P_assign (vi (k3 + 1 + 1)) rfl) ?_
    refine L_nil ?_
    refine W_seq ?_
    refine W_reg ?_
    refine L_pu (P_move (.slice A1 n2 c3) rfl) ?_
    refine L_pu (P_move (vi i2) rfl) ?_
    obtain ⟨hb119, H⟩ := H
    have hn126 : (0 : Int) ≤ i2 ∧ i2 < (((ra28.set i2.toNat (pr63 ++ [vs r] ++ po65)).set i2.toNat (pr98 ++ [vi (k3 + 1)] ++ po100)).length : Int) := by rw [hd114.len]; exact hb119
    obtain ⟨ad120, cs121, hA122, hR123, hcl124⟩ := h111.get default (by decide) i2 hn126
    obtain rfl := Kd.cells.op hR123
    refine L_pu (P_ia Try.underlying52 se52 A1 ad120 n2 c3 (Dp.len h111 hd114) i2 rfl hA122 rfl hb119) ?_
    refine L_pu (P_fa fa71_1 (ad120.add (i2.toNat * 4)) ((ad120.add (i2.toNat * 4)).add 1) rfl rfl) ?_
    refine L_pu (P_fa fa68_1 ((ad120.add (i2.toNat * 4)).add 1) (((ad120.add (i2.toNat * 4)).add 1).add 1) rfl rfl) ?_
    obtain ⟨q127, hq128, hq129, hD130, hU131⟩ := DArr.at_ (Int.toNat i2) default hd114 (by have := hb119; omega)
    obtain ⟨q132, pr133, cc134, po135, hq136, hq137, hq138, hq139, hF140, hV141⟩ := foc71_2 _ _ _ _ hD130
    obtain ⟨v142, hv144, hs143⟩ := hF140
    obtain ⟨A145, n146, c147, rfl⟩ := hs143.shape
    subst hv144
    have hcl148 := hcl124 2 _ (foc_cell hq138 hq139)
    refine L_pu (P_ld ag23 cL (((ad120.add (i2.toNat * 4)).add 1).add 1) (.slice A145 n146 c147) rfl ((congrArg w109.cell? (addr2 (o := 2) rfl)).trans hcl148)) ?_
    refine L_pu (P_move (vi (k3 + 1 + 1)) rfl) ?_
    have hp151 : Ow kPt 29 w109 ([] ++ O) (.slice A145 n146 c147) ((nth xs4 i2).Shape.Pts) := Ds.toOw hs143 (fun b hb => List.mem_append_right _ (hmm b (List.mem_cons_of_mem _ (List.mem_append_left _ (hq128 _ (hq136 _ hb))))))
    refine L_call go68 [.slice A145 n146 c147, vi (k3 + 1 + 1)] rfl ((laws_markPtS.calls w109 hc113.ok A145 n146 c147 ((nth xs4 i2).Shape.Pts) hp151 (k3 + 1 + 1) _ H).mono ?_)
    rintro _ w149 ⟨r2, m, rfl, H, g150, h152⟩
    have gm153 : Gm w109 w149 q132 := g150.gm fun b hb => by rw [Ds.rows hs143, hb]; exact List.mem_cons_self
    have hs154 := Ds.upf hs143 h152
    have hF156 : ((Dd.sl (Dd.flat (k := kPt) kPt_flat) 29)).D w149 q132 m [.slice A145 n146 c147] := ⟨_, rfl, hs154⟩
    have hd157 := DArr.fset (hU131 w149 _ _ (Dj.left hdj.2) (fun b hb hn => gm153.block b (hd114.lt b hb) fun hm => hn (hq136 b hm)) (hV141 w149 _ _ (hq129 (Dj.left hdj.2)) (fun b hb hn => gm153.block b (hd114.lt b (hq128 b hb)) hn) hF156)) hq138 rfl
    have h158 := h111.flto (w' := w149) (O' := O) (cells_flat _) fun b hb => ⟨gm153.block b (h111.ltb b hb) fun hm => (hdj).1 b hb (List.mem_append_left _ (hq128 _ (hq136 _ hm))), h111.mem b hb⟩
    have hc159 := hc113.wmg gm153 (fun b hb => (List.mem_cons_of_mem _ (List.mem_append_left _ (hq128 _ (hq136 _ hb)))))
    obtain ⟨xs5, he160⟩ : ∃ y__ : List Feat, y__ = (xs4.set i2.toNat (⟨(nth xs4 i2).Id, (⟨(nth xs4 i2).Shape.Kind, m⟩ : Shape), (nth xs4 i2).Tags⟩ : Feat)) := ⟨_, rfl⟩
    have H := H xs5 he160
    rw [← he160] at hd157
    refine L_pu (P_assign (vi r2) rfl) ?_
    refine L_nil ?_
    refine W_reg ?_
    refine L_pu (P_move (.slice A1 n2 c3) rfl) ?_
    refine L_pu (P_move (vi i2) rfl) ?_
    obtain ⟨hb161, H⟩ := H
    have hn168 : (0 : Int) ≤ i2 ∧ i2 < (((ra28.set i2.toNat (pr63 ++ [vs r] ++ po65)).set i2.toNat (pr98 ++ [vi (k3 + 1)] ++ po100)).length : Int) := by rw [hd157.len]; exact hb161
    obtain ⟨ad162, cs163, hA164, hR165, hcl166⟩ := h158.get default (by decide) i2 hn168
    obtain rfl := Kd.cells.op hR165
    refine L_pu (P_ia Try.underlying52 se52 A1 ad162 n2 c3 (Dp.len h158 hd157) i2 rfl hA164 rfl hb161) ?_
    refine L_pu (P_fa fa71_2 (ad162.add (i2.toNat * 4)) ((ad162.add (i2.toNat * 4)).add 3) rfl rfl) ?_
    obtain ⟨q169, hq170, hq171, hD172, hU173⟩ := DArr.at_ (Int.toNat i2) default hd157 (by have := hb161; omega)
    obtain ⟨q174, pr175, cc176, po177, hq178, hq179, hq180, hq181, hF182, hV183⟩ := foc71_3 _ _ _ _ hD172
    obtain ⟨v184, hv186, hs185⟩ := hF182
    obtain ⟨A187, n188, c189, rfl⟩ := hs185.shape
    subst hv186
    have hcl190 := hcl166 3 _ (foc_cell hq180 hq181)
    refine L_pu (P_ld ag69 cL ((ad162.add (i2.toNat * 4)).add 3) (.slice A187 n188 c189) rfl hcl190) ?_
    refine L_pu (P_move (vi r2) rfl) ?_
    have hp193 : Ow kTag 133 w149 ([] ++ O) (.slice A187 n188 c189) ((nth xs5 i2).Tags) := Ds.toOw hs185 (fun b hb => List.mem_append_right _ (hmm b (List.mem_cons_of_mem _ (List.mem_append_left _ (hq170 _ (hq178 _ hb))))))
    refine L_call go69 [.slice A187 n188 c189, vi r2] rfl ((laws_markTagS.calls w149 hc159.ok A187 n188 c189 ((nth xs5 i2).Tags) hp193 r2 _ H).mono ?_)
    rintro _ w191 ⟨r3, m2, rfl, H, g192, h194⟩
    have gm195 : Gm w149 w191 q174 := g192.gm fun b hb => by rw [Ds.rows hs185, hb]; exact List.mem_cons_self
    have hs196 := Ds.upf hs185 h194
    have hF198 : ((Dd.sl (Dd.flat (k := kTag) kTag_flat) 133)).D w191 q174 m2 [.slice A187 n188 c189] := ⟨_, rfl, hs196⟩
    have hd199 := DArr.fset (hU173 w191 _ _ (Dj.left hdj.2) (fun b hb hn => gm195.block b (hd157.lt b hb) fun hm => hn (hq178 b hm)) (hV183 w191 _ _ (hq171 (Dj.left hdj.2)) (fun b hb hn => gm195.block b (hd157.lt b (hq170 b hb)) hn) hF198)) hq180 rfl
    have h200 := h158.flto (w' := w191) (O' := O) (cells_flat _) fun b hb => ⟨gm195.block b (h158.ltb b hb) fun hm => (hdj).1 b hb (List.mem_append_left _ (hq170 _ (hq178 _ hm))), h158.mem b hb⟩
    have hc201 := hc159.wmg gm195 (fun b hb => (List.mem_cons_of_mem _ (List.mem_append_left _ (hq170 _ (hq178 _ hb)))))
    obtain ⟨xs6, he202⟩ : ∃ y__ : List Feat, y__ = (xs5.set i2.toNat (⟨(nth xs5 i2).Id, (nth xs5 i2).Shape, m2⟩ : Feat)) := ⟨_, rfl⟩
    have H := H xs6 he202
    rw [← he202] at hd199
    refine L_pu (P_assign (vi r3) rfl) ?_
    refine L_nil ?_
    refine W_reg ?_
    refine L_pu (P_move (vi i2) rfl) ?_
    obtain ⟨hb204, H⟩ := H
    have hi203 : I64 (i2 + 1) := i64_succ (of_decide_eq_true hq39) hl38 hb204
    refine L_pu (P_add i2 1 rfl rfl hi203) ?_
    refine L_pu (P_assign (vi (i2 + 1)) rfl) ?_
    refine L_nil ?_
    obtain ⟨hI205, hm206⟩ := H
    exact ⟨(xs6, ((ra28.set i2.toNat (pr63 ++ [vs r] ++ po65)).set i2.toNat (pr98 ++ [vi (k3 + 1)] ++ po100)), r3, i2 + 1), hm206, hI205, ⟨rfl, rfl, rfl, trivial⟩, hc201, h200, hd199⟩
  · have H := ite_f H hq39
    refine W_exit (xin_hit ?_)
    refine W_seq ?_
    refine W_reg ?_
    refine L_pu (P_move (vi k3) rfl) ?_
    refine L_pu (P_assign (vi k3) rfl) ?_
    refine L_nil ?_
    refine W_ret ?_
    exact ⟨[vi k3], ⟨_, rfl, rfl⟩, k3, xs2, ra28, rfl, H, hc29.gr, h30, hd31⟩
end Go.Proofs.Ytndjggncgpjolaa

namespace Go.Proofs.Ytndjggncgpjolaa
set_option linter.unusedVariables false
set_option linter.unusedSimpArgs false
set_option linter.unusedSectionVars false
theorem laws_markFeatS.lawk (a : List Feat) (k : Int) (Q : Int → List Feat → Prop) (ha : bulk a ≤ 1048576) (h0 : 0 ≤ k) (h1 : k ≤ 500000000) (hq : Q (mkL gFeat a k).2 (mkL gFeat a k).1) : laws_markFeatS.E a k Q := by
  unfold laws_markFeatS.E
  have hbl := bulk_len a
  refine ⟨fun xs k' i => ∃ u : Nat, i = u ∧ Mk gFeat a k u xs k', fun _ _ i => (a.length - i).toNat, ⟨0, rfl, .zero a k⟩, ?_⟩
  rintro xs k' _ ⟨u, rfl, M⟩
  have hl := M.len
  have hb := M.bd gFeat_bd
  by_cases h : u < a.length
  · rw [if_pos (by rw [hl]; simpa using h)]
    have hu' : u < xs.length := by omega
    have hx := M.nth h
    have hm := bulk_mem (nth_mem a h)
    have hb1 := bulk_feat (nth a (u : Int))
    have hp := mkL_bd gPt_bd (nth a (u : Int)).Shape.Pts (k' + 2)
    simp only [Int.add_assoc, Int.reduceAdd]
    refine laws_markText.law _ _ (by omega) (by omega) ⟨by omega, ?_⟩
    intro xs3 e3
    rw [hx] at e3
    obtain ⟨n3, l3, s3⟩ := set_facts hu' e3
    try dsimp only at n3
    refine ⟨fun _ => by unfold I64; omega, by omega, ?_⟩
    intro xs4 e4
    try rw [n3] at e4
    try rw [s3] at e4
    try dsimp only at e4
    obtain ⟨n4, l4, s4⟩ := set_facts hu' e4
    try dsimp only at n4
    refine ⟨fun _ => by unfold I64; omega, by omega, ?_⟩
    rw [n4]
    dsimp only
    refine laws_markPtS.lawk _ _ _ (by omega) (by omega) (by omega) ?_
    intro xs5 e5
    try rw [n4] at e5
    try rw [s4] at e5
    try dsimp only at e5
    obtain ⟨n5, l5, s5⟩ := set_facts hu' e5
    try dsimp only at n5
    refine ⟨by omega, ?_⟩
    rw [n5]
    dsimp only
    refine laws_markTagS.lawk _ _ _ (by omega) (by omega) (by omega) ?_
    intro xs6 e6
    try rw [n5] at e6
    try rw [s5] at e6
    try dsimp only at e6
    obtain ⟨n6, l6, s6⟩ := set_facts hu' e6
    try dsimp only at n6
    try rw [s5] at e6
    try rw [s4] at e6
    try rw [s3] at e6
    rw [Int.toNat_natCast] at e6
    rw [e6]
    exact ⟨by omega, ⟨u + 1, by omega, M.next h rfl⟩, by first | omega | (dsimp only; omega)⟩
  · rw [if_neg (by rw [hl]; simpa using h)]
    obtain ⟨rfl, rfl⟩ := M.full h
    exact hq
end Go.Proofs.Ytndjggncgpjolaa

namespace Go.Proofs.Ytndjggncgpjolaa
open Go.RowKit
set_option linter.unusedVariables false
def laws_markCommitS.E (a : List Commit) (k : Int) (Q : Int → List Commit → Prop) : Prop :=
  (∃ (I32 : (List Commit) → Int → Int → Prop) (mu33 : (List Commit) → Int → Int → Nat), I32 a k 0 ∧ ∀ (xs2 : List Commit) (k3 : Int) (i2 : Int), I32 xs2 k3 i2 → (if decide (i2 < (xs2.length : Int)) then ((0 : Int) ≤ i2 ∧ i2 < (xs2.length : Int)) ∧ laws_markIntS.E ((nth xs2 i2).Up) k3 (fun r m => (∀ xs3 : List Commit, xs3 = (xs2.set i2.toNat (⟨m, (nth xs2 i2).Sheet, (nth xs2 i2).Note⟩ : Commit)) → ((0 : Int) ≤ i2 ∧ i2 < (xs3.length : Int)) ∧ laws_markFeatS.E ((nth xs3 i2).Sheet) r (fun r2 m2 => (∀ xs4 : List Commit, xs4 = (xs3.set i2.toNat (⟨(nth xs3 i2).Up, m2, (nth xs3 i2).Note⟩ : Commit)) → laws_markText.E r2 (fun r3 => ((0 : Int) ≤ i2 ∧ i2 < (xs4.length : Int)) ∧ (∀ xs5 : List Commit, xs5 = (xs4.set i2.toNat (⟨(nth xs4 i2).Up, (nth xs4 i2).Sheet, r3⟩ : Commit)) → ((xs2.length : Int) ≤ 9223372036854775807 → I64 (r2 + 1)) ∧ (-9223372036854775808 ≤ i2) ∧ I32 xs5 (r2 + 1) (i2 + 1) ∧ mu33 xs5 (r2 + 1) (i2 + 1) < mu33 xs2 k3 i2)))))) else Q k3 xs2))
set_option maxHeartbeats 8000000 in
set_option maxRecDepth 100000 in
theorem laws_markCommitS.calls {O : Ob} (w0 : World) (hO : Ok w0 O) (a : List Commit) (A1 : Option Addr) (n2 c3 : Nat) (ra6 : List (List Value)) (q7 : Ob) (hp5 : Ow (Kd.cells 3) 91 w0 O (.slice A1 n2 c3) ra6) (hd8 : DArr dCommit_91 w0 q7 a ra6) (hdj : Dj (blk (.slice A1 n2 c3) :: (q7 ++ []))) (hmm : ∀ b, some b ∈ ((blk (.slice A1 n2 c3) :: (q7 ++ [])) : Ob) → some b ∈ O) (k : Int) (Q : Int → List Commit → Prop) (h : laws_markCommitS.E a k Q) :
    Ret Try.prog 56 [.slice A1 n2 c3, vi k] w0 (fun v w' => ∃ (r0 : Int) (m0 : List Commit) (mra0 : List (List Value)), v = vi r0 ∧ Q r0 m0 ∧ Gm w0 w' (blk (.slice A1 n2 c3) :: (q7 ++ [])) ∧ Ow (Kd.cells 3) 91 w' O (.slice A1 n2 c3) mra0 ∧ DArr dCommit_91 w' q7 m0 mra0) := by
  have H : (∃ (I32 : (List Commit) → Int → Int → Prop) (mu33 : (List Commit) → Int → Int → Nat), I32 a k 0 ∧ ∀ (xs2 : List Commit) (k3 : Int) (i2 : Int), I32 xs2 k3 i2 → (if decide (i2 < (xs2.length : Int)) then ((0 : Int) ≤ i2 ∧ i2 < (xs2.length : Int)) ∧ laws_markIntS.E ((nth xs2 i2).Up) k3 (fun r m => (∀ xs3 : List Commit, xs3 = (xs2.set i2.toNat (⟨m, (nth xs2 i2).Sheet, (nth xs2 i2).Note⟩ : Commit)) → ((0 : Int) ≤ i2 ∧ i2 < (xs3.length : Int)) ∧ laws_markFeatS.E ((nth xs3 i2).Sheet) r (fun r2 m2 => (∀ xs4 : List Commit, xs4 = (xs3.set i2.toNat (⟨(nth xs3 i2).Up, m2, (nth xs3 i2).Note⟩ : Commit)) → laws_markText.E r2 (fun r3 => ((0 : Int) ≤ i2 ∧ i2 < (xs4.length : Int)) ∧ (∀ xs5 : List Commit, xs5 = (xs4.set i2.toNat (⟨(nth xs4 i2).Up, (nth xs4 i2).Sheet, r3⟩ : Commit)) → ((xs2.length : Int) ≤ 9223372036854775807 → I64 (r2 + 1)) ∧ (-9223372036854775808 ≤ i2) ∧ I32 xs5 (r2 + 1) (i2 + 1) ∧ mu33 xs5 (r2 + 1) (i2 + 1) < mu33 xs2 k3 i2)))))) else Q k3 xs2)) := h
  clear h
  have hc0 := Ct.initm hO hmm
  refine Ret_enter Try.func56 rfl 35 rfl [.tmp 4] rfl rfl ?_
  refine W_seq ?_
  refine W_reg ?_
  refine L_pu (P_assign (vi 0) rfl) ?_
  refine L_nil ?_
  refine W_seq ?_
  refine W_seq ?_
  refine W_reg ?_
  refine L_pu (P_assign (vi 0) rfl) ?_
  refine L_nil ?_
  refine W_block ?_
  obtain ⟨I32, mu33, hI34, H⟩ := H
  refine W_loop (α := (List Commit) × (List (List Value)) × Int × Int) (fun (sv__ : (List Commit) × (List (List Value)) × Int × Int) t w23 => match sv__ with | (xs2, ra28, k3, i2) => I32 xs2 k3 i2 ∧ Has t [(0, .slice A1 n2 c3), (1, vi k3), (5, vi i2)] ∧ Ct (blk (.slice A1 n2 c3) :: (q7 ++ [])) w0 w23 [] O ∧ Ow (Kd.cells 3) 91 w23 O (.slice A1 n2 c3) ra28 ∧ DArr dCommit_91 w23 q7 xs2 ra28) (fun (sv__ : (List Commit) × (List (List Value)) × Int × Int) => match sv__ with | (xs2, _, k3, i2) => mu33 xs2 k3 i2) (a, ra6, k, 0) ⟨hI34, ⟨rfl, rfl, rfl, trivial⟩, hc0, hp5, hd8⟩ ?_
  rintro ⟨xs2, ra28, k3, i2⟩ _ w23 ⟨hI34, hh36, hc29, h30, hd31⟩
  obtain ⟨u37, rfl⟩ := Has.ins hh36
  have H := H xs2 k3 i2 hI34
  refine W_seq ?_
  refine W_seq ?_
  refine W_reg ?_
  refine L_pu (P_move (vi i2) rfl) ?_
  refine L_pu (P_move (.slice A1 n2 c3) rfl) ?_
  have hl38 := (Dp.le h30 hd31)
  refine L_pu (P_len Try.underlying32 A1 n2 c3 (Dp.len h30 hd31) rfl) ?_
  refine L_pu (P_cmp i2 (xs2.length : Int) (decide (i2 < (xs2.length : Int))) rfl rfl rfl) ?_
  refine L_nil ?_
  refine W_cond (decide (i2 < (xs2.length : Int))) rfl (fun hq39 => ?_) (fun hq39 => ?_)
  · have H := ite_t H hq39
    refine W_skip ?_
    refine W_seq ?_
    refine W_block ?_
    refine W_seq ?_
    refine W_reg ?_
    refine L_pu (P_move (.slice A1 n2 c3) rfl) ?_
    refine L_pu (P_move (vi i2) rfl) ?_
    obtain ⟨hb40, H⟩ := H
    have hn47 : (0 : Int) ≤ i2 ∧ i2 < (ra28.length : Int) := by rw [hd31.len]; exact hb40
    obtain ⟨ad41, cs42, hA43, hR44, hcl45⟩ := h30.get default (by decide) i2 hn47
    obtain rfl := Kd.cells.op hR44
    refine L_pu (P_ia Try.underlying32 se32 A1 ad41 n2 c3 (Dp.len h30 hd31) i2 rfl hA43 rfl hb40) ?_
    refine L_pu (P_fa fa91_0 (ad41.add (i2.toNat * 3)) ((ad41.add (i2.toNat * 3)).add 0) rfl rfl) ?_
    obtain ⟨q48, hq49, hq50, hD51, hU52⟩ := DArr.at_ (Int.toNat i2) default hd31 (by have := hb40; omega)
    obtain ⟨q53, pr54, cc55, po56, hq57, hq58, hq59, hq60, hF61, hV62⟩ := foc91_0 _ _ _ _ hD51
    obtain ⟨v63, hv65, hs64⟩ := hF61
    obtain ⟨A66, n67, c68, rfl⟩ := hs64.shape
    subst hv65
    have hcl69 := hcl45 0 _ (foc_cell hq59 hq60)
    refine L_pu (P_ld ag89 cL ((ad41.add (i2.toNat * 3)).add 0) (.slice A66 n67 c68) rfl hcl69) ?_
    refine L_pu (P_move (vi k3) rfl) ?_
    have hp72 : Ow (Kd.int .i64) 3 w23 ([] ++ O) (.slice A66 n67 c68) ((nth xs2 i2).Up) := Ds.toOw hs64 (fun b hb => List.mem_append_right _ (hmm b (List.mem_cons_of_mem _ (List.mem_append_left _ (hq49 _ (hq57 _ hb))))))
    refine L_call go115 [.slice A66 n67 c68, vi k3] rfl ((laws_markIntS.calls w23 hc29.ok A66 n67 c68 ((nth xs2 i2).Up) hp72 k3 _ H).mono ?_)
    rintro _ w70 ⟨r, m, rfl, H, g71, h73⟩
    have gm74 : Gm w23 w70 q53 := g71.gm fun b hb => by rw [Ds.rows hs64, hb]; exact List.mem_cons_self
    have hs75 := Ds.upf hs64 h73
    have hF77 : ((Dd.sl (Dd.flat (k := (Kd.int .i64)) (int_flat _)) 3)).D w70 q53 m [.slice A66 n67 c68] := ⟨_, rfl, hs75⟩
    have hd78 := DArr.fset (hU52 w70 _ _ (Dj.left hdj.2) (fun b hb hn => gm74.block b (hd31.lt b hb) fun hm => hn (hq57 b hm)) (hV62 w70 _ _ (hq50 (Dj.left hdj.2)) (fun b hb hn => gm74.block b (hd31.lt b (hq49 b hb)) hn) hF77)) hq59 rfl
    have h79 := h30.flto (w' := w70) (O' := O) (cells_flat _) fun b hb => ⟨gm74.block b (h30.ltb b hb) fun hm => (hdj).1 b hb (List.mem_append_left _ (hq49 _ (hq57 _ hm))), h30.mem b hb⟩
    have hc80 := hc29.wmg gm74 (fun b hb => (List.mem_cons_of_mem _ (List.mem_append_left _ (hq49 _ (hq57 _ hb)))))
    obtain ⟨xs3, he81⟩ : ∃ y__ : List Commit, y__ = (xs2.set i2.toNat (⟨m, (nth xs2 i2).Sheet, (nth xs2 i2).Note⟩ : Commit)) := ⟨_, rfl⟩
    have H := H xs3 he81
    rw [← he81] at hd78
    refine L_pu (P_assign (vi r) rfl) ?_
    refine L_nil ?_
    refine W_seq ?_
    refine W_reg ?_
    refine L_pu (P_move (.slice A1 n2 c3) rfl) ?_
    refine L_pu (P_move (vi i2) rfl) ?_
    obtain ⟨hb82, H⟩ := H
    have hn89 : (0 : Int) ≤ i2 ∧ i2 < (ra28.length : Int) := by rw [hd78.len]; exact hb82
    obtain ⟨ad83, cs84, hA85, hR86, hcl87⟩ := h79.get default (by decide) i2 hn89
    obtain rfl := Kd.cells.op hR86
    refine L_pu (P_ia Try.underlying32 se32 A1 ad83 n2 c3 (Dp.len h79 hd78) i2 rfl hA85 rfl hb82) ?_
    refine L_pu (P_fa fa91_1 (ad83.add (i2.toNat * 3)) ((ad83.add (i2.toNat * 3)).add 1) rfl rfl) ?_
    obtain ⟨q90, hq91, hq92, hD93, hU94⟩ := DArr.at_ (Int.toNat i2) default hd78 (by have := hb82; omega)
    obtain ⟨q95, pr96, cc97, po98, hq99, hq100, hq101, hq102, hF103, hV104⟩ := foc91_1 _ _ _ _ hD93
    obtain ⟨v105, hv107, hs106⟩ := hF103
    obtain ⟨A108, n109, c110, rfl⟩ := hs106.shape
    subst hv107
    have hcl111 := hcl87 1 _ (foc_cell hq101 hq102)
    refine L_pu (P_ld ag52 cL ((ad83.add (i2.toNat * 3)).add 1) (.slice A108 n109 c110) rfl hcl111) ?_
    refine L_pu (P_move (vi r) rfl) ?_
    obtain ⟨ra114, q115, he116, ho117, hd118⟩ := hs106
    have hj120 : Dj (blk (.slice A108 n109 c110) :: (q115 ++ [])) := by have := hq100 (hq92 (Dj.left hdj.2)); rw [he116] at this; simpa using this
    have hm121 : ∀ b, some b ∈ ((blk (.slice A108 n109 c110) :: (q115 ++ [])) : Ob) → some b ∈ q95 := fun b hb => (by simp only [List.append_nil] at hb; rw [← he116] at hb; exact hb)
    have hp119 : Ow (Kd.cells 4) 71 w70 ([] ++ O) (.slice A108 n109 c110) ra114 := ho117.flto (cells_flat _) fun b hb => ⟨rfl, List.mem_append_right _ (hmm b (List.mem_cons_of_mem _ (List.mem_append_left _ (hq91 _ (hq99 _ (by rw [he116, hb]; exact List.mem_cons_self))))))⟩
    refine L_call go30 [.slice A108 n109 c110, vi r] rfl ((laws_markFeatS.calls w70 hc80.ok ((nth xs3 i2).Sheet) A108 n109 c110 ra114 q115 hp119 hd118 hj120 (fun b hb => List.mem_append_right _ (hmm b (List.mem_cons_of_mem _ (List.mem_append_left _ (hq91 _ (hq99 _ (hm121 b hb))))))) r _ H).mono ?_)
    rintro _ w112 ⟨r2, m2, ra122, rfl, H, g113, h123, hd124⟩
    have gm125 : Gm w70 w112 q95 := by rw [he116]; simpa using g113
    have hs126 : Ds dFeat_71 71 w112 q95 (.slice A108 n109 c110) m2 := ⟨ra122, q115, he116, h123.flto (cells_flat _) (fun b hb => ⟨rfl, by rw [← hb]; exact List.mem_cons_self⟩), hd124⟩
    have hF128 : ((Dd.sl dFeat_71 71)).D w112 q95 m2 [.slice A108 n109 c110] := ⟨_, rfl, hs126⟩
    have hd129 := DArr.fset (hU94 w112 _ _ (Dj.left hdj.2) (fun b hb hn => gm125.block b (hd78.lt b hb) fun hm => hn (hq99 b hm)) (hV104 w112 _ _ (hq92 (Dj.left hdj.2)) (fun b hb hn => gm125.block b (hd78.lt b (hq91 b hb)) hn) hF128)) hq101 rfl
    have h130 := h79.flto (w' := w112) (O' := O) (cells_flat _) fun b hb => ⟨gm125.block b (h79.ltb b hb) fun hm => (hdj).1 b hb (List.mem_append_left _ (hq91 _ (hq99 _ hm))), h79.mem b hb⟩
    have hc131 := hc80.wmg gm125 (fun b hb => (List.mem_cons_of_mem _ (List.mem_append_left _ (hq91 _ (hq99 _ hb)))))
    obtain ⟨xs4, he132⟩ : ∃ y__ : List Commit, y__ = (xs3.set i2.toNat (⟨(nth xs3 i2).Up, m2, (nth xs3 i2).Note⟩ : Commit)) := ⟨_, rfl⟩
    have H := H xs4 he132
    rw [← he132] at hd129
    refine L_pu (P_assign (vi r2) rfl) ?_
    refine L_nil ?_
    refine W_seq ?_
    refine W_reg ?_
    refine L_pu (P_move (.slice A1 n2 c3) rfl) ?_
    refine L_pu (P_move (vi i2) rfl) ?_
    refine L_pu (P_move (vi r2) rfl) ?_
    refine L_call go67 [vi r2] rfl ((laws_markText.calls w112 hc131.ok r2 _ H).mono ?_)
    rintro _ w133 ⟨r3, rfl, H, g134, hs135⟩
    have hc139 := hc131.k0 g134
    obtain ⟨hb140, H⟩ := H
    have h147 := (h130.sn g134)
    have hd148 := (hd129.k0 g134)
    have hn149 : (0 : Int) ≤ i2 ∧ i2 < (ra28.length : Int) := by rw [hd148.len]; exact hb140
    obtain ⟨ad141, cs142, hA143, hR144, hcl145⟩ := h147.get default (by decide) i2 hn149
    obtain rfl := Kd.cells.op hR144
    refine L_pu (P_ia Try.underlying32 se32 A1 ad141 n2 c3 (Dp.len h147 hd148) i2 rfl hA143 rfl hb140) ?_
    refine L_pu (P_fa fa91_2 (ad141.add (i2.toNat * 3)) ((ad141.add (i2.toNat * 3)).add 2) rfl rfl) ?_
    obtain ⟨q150, hq151, hq152, hD153, hU154⟩ := DArr.at_ (Int.toNat i2) default hd148 (by have := hb140; omega)
    obtain ⟨q155, pr156, cc157, po158, hq159, hq160, hq161, hq162, hF163, hV164⟩ := foc91_2 _ _ _ _ hD153
    have hy165 : ((Dd.flat (k := Kd.str) str_flat)).D w133 q155 r3 [vs r3] := ⟨hF163.1, ⟨rfl, hs135⟩⟩
    have hy166 := hV164 _ _ _ (hq152 (Dj.left hdj.2)) (fun _ _ _ => rfl) hy165
    have hl170 : cc157.length = [vs r3].length := (((Dd.flat (k := Kd.str) str_flat)).toR (S := fun _ => True) hF163 fun _ _ => trivial) |> Kd.len _
    refine L_ste1 (kd := Kd.cells 3) A1 n2 c3 ra28 h147 i2 hn149 ad141 hA143 2 rfl [vs r3] rfl sz9 rfl (pr156 ++ [vs r3] ++ po158) _ (pr156 ++ [vs r3] ++ po158) hcl145 (Kd.len _ hR144) (foc_put hq161 hq162 hl170) (Dd.raw _ hy166) fun w167 g168 h169 => ?_
    have hc171 := hc139.wmm (memi (L := (blk (.slice A1 n2 c3) :: (q7 ++ []))) 0 rfl) g168
    have hg173 : ∀ b, some b ∈ (q7 : Ob) → w167.heap[b]? = _ := fun b hb => g168.block b (hd148.lt b hb) (fun e => (hdj).1 b e.symm (List.mem_append_left _ hb))
    have hd172 := hU154 w167 _ _ (Dj.left hdj.2) (fun b hb _ => hg173 b hb) (hV164 _ _ _ (hq152 (Dj.left hdj.2)) (fun b hb _ => hg173 b (hq151 b hb)) hy165)
    obtain ⟨xs5, he174⟩ : ∃ y__ : List Commit, y__ = (xs4.set i2.toNat (⟨(nth xs4 i2).Up, (nth xs4 i2).Sheet, r3⟩ : Commit)) := ⟨_, rfl⟩
    have H := H xs5 he174
    rw [← he174] at hd172
    refine L_nil ?_
    refine W_reg ?_
    refine L_pu (P_move (vi r2) rfl) ?_
    obtain ⟨hb175, H⟩ := H
    have hi176 := hb175 (len_le hl38)
    refine L_pu (P_add r2 1 rfl rfl hi176) ?_
    refine L_pu (P_assign (vi (r2 + 1)) rfl) ?_
    refine L_nil ?_
    refine W_reg ?_
    refine L_pu (P_move (vi i2) rfl) ?_
    obtain ⟨hb178, H⟩ := H
    have hi177 : I64 (i2 + 1) := i64_succ (of_decide_eq_true hq39) hl38 hb178
    refine L_pu (P_add i2 1 rfl rfl hi177) ?_
    refine L_pu (P_assign (vi (i2 + 1)) rfl) ?_
    refine L_nil ?_
    obtain ⟨hI179, hm180⟩ := H
    exact ⟨(xs5, (ra28.set i2.toNat (pr156 ++ [vs r3] ++ po158)), r2 + 1, i2 + 1), hm180, hI179, ⟨rfl, rfl, rfl, trivial⟩, hc171, h169, hd172⟩
  · have H := ite_f H hq39
    refine W_exit (xin_hit ?_)
    refine W_seq ?_
    refine W_reg ?_
    refine L_pu (P_move (vi k3) rfl) ?_
    refine L_pu (P_assign (vi k3) rfl) ?_
    refine L_nil ?_
    refine W_ret ?_
    exact ⟨[vi k3], ⟨_, rfl, rfl⟩, k3, xs2, ra28, rfl, H, hc29.gr, h30, hd31⟩
end Go.Proofs.Ytndjggncgpjolaa

namespace Go.Proofs.Ytndjggncgpjolaa
set_option linter.unusedVariables false
set_option linter.unusedSimpArgs false
set_option linter.unusedSectionVars false
theorem laws_markCommitS.lawk (a : List Commit) (k : Int) (Q : Int → List Commit → Prop) (ha : bulk a ≤ 1048576) (h0 : 0 ≤ k) (h1 : k ≤ 400000000) (hq : Q (mkL gCommit a k).2 (mkL gCommit a k).1) : laws_markCommitS.E a k Q := by
  unfold laws_markCommitS.E
  have hbl := bulk_len a
  refine ⟨fun xs k' i => ∃ u : Nat, i = u ∧ Mk gCommit a k u xs k', fun _ _ i => (a.length - i).toNat, ⟨0, rfl, .zero a k⟩, ?_⟩
  rintro xs k' _ ⟨u, rfl, M⟩
  have hl := M.len
  have hb := M.bd gCommit_bd
  by_cases h : u < a.length
  · rw [if_pos (by rw [hl]; simpa using h)]
    have hu' : u < xs.length := by omega
    have hx := M.nth h
    have hm := bulk_mem (nth_mem a h)
    have hc : bulk (nth a (u : Int)) = bulk (nth a (u : Int)).Up + bulk (nth a (u : Int)).Sheet + bulk (nth a (u : Int)).Note := rfl
    have hi := mkL_bd gInt_bd (nth a (u : Int)).Up k'
    have hf := mkL_bd gFeat_bd (nth a (u : Int)).Sheet (mkL gInt (nth a (u : Int)).Up k').2
    refine ⟨by omega, ?_⟩
    rw [hx]
    refine laws_markIntS.lawk _ _ _ (by omega) (by omega) (by omega) ?_
    intro xs3 e3
    obtain ⟨n3, l3, s3⟩ := set_facts hu' e3
    try dsimp only at n3
    refine ⟨by omega, ?_⟩
    rw [n3]
    dsimp only
    refine laws_markFeatS.lawk _ _ _ (by omega) (by omega) (by omega) ?_
    intro xs4 e4
    try rw [n3] at e4
    try rw [s3] at e4
    try dsimp only at e4
    obtain ⟨n4, l4, s4'⟩ := set_facts hu' e4
    have s4 : ∀ z, xs4.set (Int.toNat (u : Int)) z = xs.set (Int.toNat (u : Int)) z := s4'
    try dsimp only at n4
    refine laws_markText.law _ _ (by omega) (by omega) ⟨by omega, ?_⟩
    intro xs5 e5
    try rw [n4] at e5
    try rw [s4] at e5
    try dsimp only at e5
    obtain ⟨n5, l5, s5'⟩ := set_facts hu' e5
    have s5 : ∀ z, xs5.set (Int.toNat (u : Int)) z = xs.set (Int.toNat (u : Int)) z := s5'
    try dsimp only at n5
    rw [Int.toNat_natCast] at e5
    rw [e5]
    exact ⟨fun _ => by unfold I64; omega, by omega, ⟨u + 1, by omega, M.next h rfl⟩, by first | omega | (dsimp only; omega)⟩
  · rw [if_neg (by rw [hl]; simpa using h)]
    obtain ⟨rfl, rfl⟩ := M.full h
    exact hq
end Go.Proofs.Ytndjggncgpjolaa

namespace Go.Proofs.Ytndjggncgpjolaa
open Go.RowKit
set_option linter.unusedVariables false
def laws_markHeadS.E (a : List Head) (k : Int) (Q : Int → List Head → Prop) : Prop :=
  (∃ (I23 : (List Head) → Int → Int → Prop) (mu24 : (List Head) → Int → Int → Nat), I23 a k 0 ∧ ∀ (xs2 : List Head) (k3 : Int) (i2 : Int), I23 xs2 k3 i2 → (if decide (i2 < (xs2.length : Int)) then laws_markText.E k3 (fun r => ((0 : Int) ≤ i2 ∧ i2 < (xs2.length : Int)) ∧ ((xs2.length : Int) ≤ 9223372036854775807 → I64 (k3 + 1)) ∧ ((0 : Int) ≤ i2 ∧ i2 < ((xs2.set i2.toNat (⟨r, (nth xs2 i2).At⟩ : Head)).length : Int)) ∧ ((xs2.length : Int) ≤ 9223372036854775807 → I64 (k3 + 1 + 1)) ∧ (-9223372036854775808 ≤ i2) ∧ I23 ((xs2.set i2.toNat (⟨r, (nth xs2 i2).At⟩ : Head)).set i2.toNat (⟨(nth (xs2.set i2.toNat (⟨r, (nth xs2 i2).At⟩ : Head)) i2).Name, k3 + 1⟩ : Head)) (k3 + 1 + 1) (i2 + 1) ∧ mu24 ((xs2.set i2.toNat (⟨r, (nth xs2 i2).At⟩ : Head)).set i2.toNat (⟨(nth (xs2.set i2.toNat (⟨r, (nth xs2 i2).At⟩ : Head)) i2).Name, k3 + 1⟩ : Head)) (k3 + 1 + 1) (i2 + 1) < mu24 xs2 k3 i2) else Q k3 xs2))
set_option maxHeartbeats 8000000 in
set_option maxRecDepth 100000 in
theorem laws_markHeadS.calls {O : Ob} (w0 : World) (hO : Ok w0 O) (A1 : Option Addr) (n2 c3 : Nat) (a : List Head) (hp0 : Ow kHead 93 w0 O (.slice A1 n2 c3) a) (k : Int) (Q : Int → List Head → Prop) (h : laws_markHeadS.E a k Q) :
    Ret Try.prog 57 [.slice A1 n2 c3, vi k] w0 (fun v w' => ∃ (r0 : Int) (m0 : List Head), v = vi r0 ∧ Q r0 m0 ∧ Gr w0 w' (blk (.slice A1 n2 c3)) ∧ Ow kHead 93 w' O (.slice A1 n2 c3) m0) := by
  have H : (∃ (I23 : (List Head) → Int → Int → Prop) (mu24 : (List Head) → Int → Int → Nat), I23 a k 0 ∧ ∀ (xs2 : List Head) (k3 : Int) (i2 : Int), I23 xs2 k3 i2 → (if decide (i2 < (xs2.length : Int)) then laws_markText.E k3 (fun r => ((0 : Int) ≤ i2 ∧ i2 < (xs2.length : Int)) ∧ ((xs2.length : Int) ≤ 9223372036854775807 → I64 (k3 + 1)) ∧ ((0 : Int) ≤ i2 ∧ i2 < ((xs2.set i2.toNat (⟨r, (nth xs2 i2).At⟩ : Head)).length : Int)) ∧ ((xs2.length : Int) ≤ 9223372036854775807 → I64 (k3 + 1 + 1)) ∧ (-9223372036854775808 ≤ i2) ∧ I23 ((xs2.set i2.toNat (⟨r, (nth xs2 i2).At⟩ : Head)).set i2.toNat (⟨(nth (xs2.set i2.toNat (⟨r, (nth xs2 i2).At⟩ : Head)) i2).Name, k3 + 1⟩ : Head)) (k3 + 1 + 1) (i2 + 1) ∧ mu24 ((xs2.set i2.toNat (⟨r, (nth xs2 i2).At⟩ : Head)).set i2.toNat (⟨(nth (xs2.set i2.toNat (⟨r, (nth xs2 i2).At⟩ : Head)) i2).Name, k3 + 1⟩ : Head)) (k3 + 1 + 1) (i2 + 1) < mu24 xs2 k3 i2) else Q k3 xs2)) := h
  clear h
  have hc0 := Ct.initm1 (r := blk (.slice A1 n2 c3)) hO (by intro b e; exact hp0.mem b e)
  refine Ret_enter Try.func57 rfl 28 rfl [.tmp 4] rfl rfl ?_
  refine W_seq ?_
  refine W_reg ?_
  refine L_pu (P_assign (vi 0) rfl) ?_
  refine L_nil ?_
  refine W_seq ?_
  refine W_seq ?_
  refine W_reg ?_
  refine L_pu (P_assign (vi 0) rfl) ?_
  refine L_nil ?_
  refine W_block ?_
  obtain ⟨I23, mu24, hI25, H⟩ := H
  refine W_loop (α := (List Head) × Int × Int) (fun (sv__ : (List Head) × Int × Int) t w16 => match sv__ with | (xs2, k3, i2) => I23 xs2 k3 i2 ∧ Has t [(0, .slice A1 n2 c3), (1, vi k3), (5, vi i2)] ∧ Ct [blk (.slice A1 n2 c3)] w0 w16 [] O ∧ Ow kHead 93 w16 O (.slice A1 n2 c3) xs2) (fun (sv__ : (List Head) × Int × Int) => match sv__ with | (xs2, k3, i2) => mu24 xs2 k3 i2) (a, k, 0) ⟨hI25, ⟨rfl, rfl, rfl, trivial⟩, hc0, hp0⟩ ?_
  rintro ⟨xs2, k3, i2⟩ _ w16 ⟨hI25, hh27, hc21, h22⟩
  obtain ⟨u28, rfl⟩ := Has.ins hh27
  have H := H xs2 k3 i2 hI25
  refine W_seq ?_
  refine W_seq ?_
  refine W_reg ?_
  refine L_pu (P_move (vi i2) rfl) ?_
  refine L_pu (P_move (.slice A1 n2 c3) rfl) ?_
  have hl29 := h22.le
  refine L_pu (P_len Try.underlying33 A1 n2 c3 h22.len rfl) ?_
  refine L_pu (P_cmp i2 (xs2.length : Int) (decide (i2 < (xs2.length : Int))) rfl rfl rfl) ?_
  refine L_nil ?_
  refine W_cond (decide (i2 < (xs2.length : Int))) rfl (fun hq30 => ?_) (fun hq30 => ?_)
  · have H := ite_t H hq30
    refine W_skip ?_
    refine W_seq ?_
    refine W_block ?_
    refine W_seq ?_
    refine W_reg ?_
    refine L_pu (P_move (.slice A1 n2 c3) rfl) ?_
    refine L_pu (P_move (vi i2) rfl) ?_
    refine L_pu (P_move (vi k3) rfl) ?_
    refine L_call go67 [vi k3] rfl ((laws_markText.calls w16 hc21.ok k3 _ H).mono ?_)
    rintro _ w31 ⟨r, rfl, H, g32, hs33⟩
    have hc37 := hc21.k0 g32
    obtain ⟨hb38, H⟩ := H
    have h45 := (h22.sn g32)
    obtain ⟨ad39, cs40, hA41, hR42, hcl43⟩ := h45.get default (by decide) i2 hb38
    obtain ⟨rfl, hs46⟩ := kHead.op hR42
    refine L_pu (P_ia Try.underlying33 se33 A1 ad39 n2 c3 h45.len i2 rfl hA41 rfl hb38) ?_
    refine L_pu (P_fa fa93_0 (ad39.add (i2.toNat * 2)) ((ad39.add (i2.toNat * 2)).add 0) rfl rfl) ?_
    refine L_ste1 A1 n2 c3 xs2 h45 i2 hb38 ad39 hA41 0 rfl [vs r] rfl sz9 rfl (⟨r, (nth xs2 i2).At⟩ : Head) [vs ((nth xs2 i2).Name), vi ((nth xs2 i2).At)] [vs r, vi ((nth xs2 i2).At)] hcl43 rfl rfl (kHead.mk _ _ (⟨r, (nth xs2 i2).At⟩ : Head) hs33) fun w47 g48 h49 => ?_
    have hc50 := hc37.wm g48
    refine L_nil ?_
    refine W_seq ?_
    refine W_reg ?_
    refine L_pu (P_move (vi k3) rfl) ?_
    obtain ⟨hb51, H⟩ := H
    have hi52 := hb51 (len_le hl29)
    refine L_pu (P_add k3 1 rfl rfl hi52) ?_
    refine L_pu (P_assign (vi (k3 + 1)) rfl) ?_
    refine L_nil ?_
    refine W_seq ?_
    refine W_reg ?_
    refine L_pu (P_move (.slice A1 n2 c3) rfl) ?_
    refine L_pu (P_move (vi i2) rfl) ?_
    refine L_pu (P_move (vi (k3 + 1)) rfl) ?_
    obtain ⟨hb53, H⟩ := H
    obtain ⟨ad54, cs55, hA56, hR57, hcl58⟩ := h49.get default (by decide) i2 hb53
    obtain ⟨rfl, hs60⟩ := kHead.op hR57
    refine L_pu (P_ia Try.underlying33 se33 A1 ad54 n2 c3 h49.len i2 rfl hA56 rfl hb53) ?_
    refine L_pu (P_fa fa93_1 (ad54.add (i2.toNat * 2)) ((ad54.add (i2.toNat * 2)).add 1) rfl rfl) ?_
    refine L_ste1 A1 n2 c3 (xs2.set i2.toNat (⟨r, (nth xs2 i2).At⟩ : Head)) h49 i2 hb53 ad54 hA56 1 rfl [vi (k3 + 1)] rfl sz3 rfl (⟨(nth (xs2.set i2.toNat (⟨r, (nth xs2 i2).At⟩ : Head)) i2).Name, k3 + 1⟩ : Head) [vs ((nth (xs2.set i2.toNat (⟨r, (nth xs2 i2).At⟩ : Head)) i2).Name), vi ((nth (xs2.set i2.toNat (⟨r, (nth xs2 i2).At⟩ : Head)) i2).At)] [vs ((nth (xs2.set i2.toNat (⟨r, (nth xs2 i2).At⟩ : Head)) i2).Name), vi (k3 + 1)] hcl58 rfl rfl (kHead.mk _ _ (⟨(nth (xs2.set i2.toNat (⟨r, (nth xs2 i2).At⟩ : Head)) i2).Name, k3 + 1⟩ : Head) hs60) fun w61 g62 h63 => ?_
    have hc64 := hc50.wm g62
    refine L_nil ?_
    refine W_reg ?_
    refine L_pu (P_move (vi (k3 + 1)) rfl) ?_
    obtain ⟨hb65, H⟩ := H
    have hi66 := hb65 (len_le hl29)
    refine L_pu (P_add (k3 + 1) 1 rfl rfl hi66) ?_
    refine L_pu (P_assign (vi (k3 + 1 + 1)) rfl) ?_
    refine L_nil ?_
    refine W_reg ?_
    refine L_pu (P_move (vi i2) rfl) ?_
    obtain ⟨hb68, H⟩ := H
    have hi67 : I64 (i2 + 1) := i64_succ (of_decide_eq_true hq30) hl29 hb68
    refine L_pu (P_add i2 1 rfl rfl hi67) ?_
    refine L_pu (P_assign (vi (i2 + 1)) rfl) ?_
    refine L_nil ?_
    obtain ⟨hI69, hm70⟩ := H
    exact ⟨(((xs2.set i2.toNat (⟨r, (nth xs2 i2).At⟩ : Head)).set i2.toNat (⟨(nth (xs2.set i2.toNat (⟨r, (nth xs2 i2).At⟩ : Head)) i2).Name, k3 + 1⟩ : Head)), k3 + 1 + 1, i2 + 1), hm70, hI69, ⟨rfl, rfl, rfl, trivial⟩, hc64, h63⟩
  · have H := ite_f H hq30
    refine W_exit (xin_hit ?_)
    refine W_seq ?_
    refine W_reg ?_
    refine L_pu (P_move (vi k3) rfl) ?_
    refine L_pu (P_assign (vi k3) rfl) ?_
    refine L_nil ?_
    refine W_ret ?_
    exact ⟨[vi k3], ⟨_, rfl, rfl⟩, k3, xs2, rfl, H, hc21.gr.g1, h22⟩
end Go.Proofs.Ytndjggncgpjolaa

namespace Go.Proofs.Ytndjggncgpjolaa
set_option linter.unusedVariables false
set_option linter.unusedSimpArgs false
set_option linter.unusedSectionVars false
theorem laws_markHeadS.lawk (a : List Head) (k : Int) (Q : Int → List Head → Prop) (ha : bulk a ≤ 1048576) (h0 : 0 ≤ k) (h1 : k ≤ 1000000000) (hq : Q (mkL gHead a k).2 (mkL gHead a k).1) : laws_markHeadS.E a k Q := by
  unfold laws_markHeadS.E
  have hbl := bulk_len a
  refine ⟨fun xs k' i => ∃ u : Nat, i = u ∧ Mk gHead a k u xs k', fun _ _ i => (a.length - i).toNat, ⟨0, rfl, .zero a k⟩, ?_⟩
  rintro xs k' _ ⟨u, rfl, M⟩
  have hl := M.len
  have hb := M.bd gHead_bd
  by_cases h : u < a.length
  · rw [if_pos (by rw [hl]; simpa using h)]
    have hu' : u < xs.length := by omega
    have hx := M.nth h
    have hm := bulk_mem (nth_mem a h)
    refine laws_markText.law _ _ (by omega) (by omega) ⟨by omega, fun _ => by unfold I64; omega, ?_⟩
    rw [Int.toNat_natCast, nth_set _ hu', if_pos rfl, List.set_set]
    exact ⟨by simp only [List.length_set]; omega, fun _ => by unfold I64; omega, by omega, ⟨u + 1, by omega, M.next h (by show _ = (_, _); unfold gHead; rw [Int.add_assoc]; rfl)⟩, by dsimp only; omega⟩
  · rw [if_neg (by rw [hl]; simpa using h)]
    obtain ⟨rfl, rfl⟩ := M.full h
    exact hq
end Go.Proofs.Ytndjggncgpjolaa

namespace Go.Proofs.Ytndjggncgpjolaa
open Go.RowKit
set_option linter.unusedVariables false
def laws_markRepo.E (a : Repo) (k : Int) (Q : Int → List Commit → List Head → Prop) : Prop :=
  laws_markCommitS.E a.Commits k (fun r m => laws_markHeadS.E a.Heads r (fun r2 m2 => Q r2 m m2))
set_option maxHeartbeats 8000000 in
set_option maxRecDepth 100000 in
theorem laws_markRepo.calls {O : Ob} (w0 : World) (hO : Ok w0 O) (a : Repo) (A1 : Option Addr) (n2 c3 : Nat) (ra6 : List (List Value)) (q7 : Ob) (A9 : Option Addr) (n10 c11 : Nat) (hp5 : Ow (Kd.cells 3) 91 w0 O (.slice A1 n2 c3) ra6) (hd8 : DArr dCommit_91 w0 q7 a.Commits ra6) (hp13 : Ow kHead 93 w0 O (.slice A9 n10 c11) a.Heads) (hdj : Dj (blk (.slice A1 n2 c3) :: blk (.slice A9 n10 c11) :: (q7 ++ []))) (hmm : ∀ b, some b ∈ ((blk (.slice A1 n2 c3) :: blk (.slice A9 n10 c11) :: (q7 ++ [])) : Ob) → some b ∈ O) (k : Int) (Q : Int → List Commit → List Head → Prop) (h : laws_markRepo.E a k Q) :
    Ret Try.prog 16 [.agg #[.slice A1 n2 c3, .slice A9 n10 c11], vi k] w0 (fun v w' => ∃ (r0 : Int) (m0 : List Commit) (m1 : List Head) (mra0 : List (List Value)), v = vi r0 ∧ Q r0 m0 m1 ∧ Gm w0 w' (blk (.slice A1 n2 c3) :: blk (.slice A9 n10 c11) :: (q7 ++ [])) ∧ Ow (Kd.cells 3) 91 w' O (.slice A1 n2 c3) mra0 ∧ DArr dCommit_91 w' q7 m0 mra0 ∧ Ow kHead 93 w' O (.slice A9 n10 c11) m1) := by
  have H : laws_markCommitS.E a.Commits k (fun r m => laws_markHeadS.E a.Heads r (fun r2 m2 => Q r2 m m2)) := h
  clear h
  have hc0 := Ct.initm hO hmm
  refine Ret_enter Try.func16 rfl 14 rfl [.tmp 4] rfl rfl ?_
  refine W_seq ?_
  refine W_reg ?_
  refine L_box [.slice A1 n2 c3, .slice A9 n10 c11] rfl fun w14 b15 hl17 hu18 g16 hx19 => ?_
  have h21 := Fb.mk hc0.ok hl17 hx19
  have hc22 := hc0.k0 g16
  refine L_pu (P_assign (vi 0) rfl) ?_
  refine L_nil ?_
  refine W_seq ?_
  refine W_reg ?_
  refine L_pu (P_fa fa35_0 ⟨b15, 0, none⟩ ⟨b15, 0, none⟩ rfl rfl) ?_
  refine L_pu (P_ld ag32 cL ⟨b15, 0, none⟩ (.slice A1 n2 c3) rfl (h21.cell rfl)) ?_
  refine L_pu (P_move (vi k) rfl) ?_
  have h25 := (hp5.sn g16)
  have hd26 := (hd8.k0 g16)
  have hp27 : ((blk (.slice A1 n2 c3) :: blk (.slice A9 n10 c11) :: (q7 ++ [])) : Ob).Perm ((blk (.slice A1 n2 c3) :: (q7 ++ [])) ++ [blk (.slice A9 n10 c11)]) := (by rw [List.perm_iff_count]; intro a; (try simp only [List.count_append, List.count_cons, List.count_nil, Nat.add_zero, Nat.zero_add]); first | done | ac_rfl)
  refine L_call go56 [.slice A1 n2 c3, vi k] rfl ((laws_markCommitS.calls w14 hc22.ok a.Commits A1 n2 c3 ra6 q7 h25 hd26 (Dj.left (hdj.perm hp27)) (fun b hb => List.mem_append_right _ (hmm b (hp27.mem_iff.2 (List.mem_append_left _ hb)))) k _ H).mono ?_)
  rintro _ w23 ⟨r, m, ra30, rfl, H, g24, h28, hd29⟩
  have hc31 := hc22.wmg g24 (fun b hb => hp27.mem_iff.2 (List.mem_append_left _ hb))
  have h32 := (hp13.sn g16)
  have h33 := h32.flto (w' := w23) (O' := O) (kHead_flat) fun b hb => ⟨g24.block b (h32.ltb b hb) fun hm => (Dj.sepp1 (x := blk (.slice A9 n10 c11)) (B := (blk (.slice A1 n2 c3) :: (q7 ++ []))) (C := []) hdj (by rw [List.perm_iff_count]; intro a; (try simp only [List.count_append, List.count_cons, List.count_nil, Nat.add_zero, Nat.zero_add]); first | done | ac_rfl) b hb hm), h32.mem b hb⟩
  refine L_pu (P_assign (vi r) rfl) ?_
  refine L_nil ?_
  refine W_seq ?_
  refine W_reg ?_
  refine L_pu (P_fa fa35_1 ⟨b15, 0, none⟩ ⟨b15, 1, none⟩ rfl rfl) ?_
  have h34 := (h21.st (St.gm g24 (fun b hb => List.mem_append_right _ (hmm b (hp27.mem_iff.2 (List.mem_append_left _ hb))))))
  refine L_pu (P_ld ag33 cL ⟨b15, 1, none⟩ (.slice A9 n10 c11) rfl (h34.cell rfl)) ?_
  refine L_pu (P_move (vi r) rfl) ?_
  have hp37 : ((blk (.slice A1 n2 c3) :: blk (.slice A9 n10 c11) :: (q7 ++ [])) : Ob).Perm ([blk (.slice A9 n10 c11)] ++ (blk (.slice A1 n2 c3) :: (q7 ++ []))) := (by rw [List.perm_iff_count]; intro a; (try simp only [List.count_append, List.count_cons, List.count_nil, Nat.add_zero, Nat.zero_add]); first | done | ac_rfl)
  refine L_call go57 [.slice A9 n10 c11, vi r] rfl ((laws_markHeadS.calls w23 hc31.ok A9 n10 c11 a.Heads h33 r _ H).mono ?_)
  rintro _ w35 ⟨r2, m2, rfl, H, g36, h38⟩
  have gm40 : Gm w23 w35 [blk (.slice A9 n10 c11)] := g36.gm row1
  have hc39 := hc31.wmg gm40 (fun b hb => hp37.mem_iff.2 (List.mem_append_left _ hb))
  have h41 := h28.flto (w' := w35) (O' := O) (cells_flat _) fun b hb => ⟨gm40.block b (h28.ltb b hb) fun hm => (Dj.sepp1 (x := blk (.slice A1 n2 c3)) (B := [blk (.slice A9 n10 c11)]) (C := ((q7 ++ []))) hdj (by rw [List.perm_iff_count]; intro a; (try simp only [List.count_append, List.count_cons, List.count_nil, Nat.add_zero, Nat.zero_add]); first | done | ac_rfl) b hb hm), h28.mem b hb⟩
  have hd42 := hd29.gm gm40 (Dj.sepp (A := q7) (B := [blk (.slice A9 n10 c11)]) (C := [blk (.slice A1 n2 c3)]) hdj (by rw [List.perm_iff_count]; intro a; (try simp only [List.count_append, List.count_cons, List.count_nil, Nat.add_zero, Nat.zero_add]); first | done | ac_rfl))
  refine L_pu (P_assign (vi r2) rfl) ?_
  refine L_nil ?_
  refine W_seq ?_
  refine W_reg ?_
  refine L_pu (P_move (vi r2) rfl) ?_
  refine L_pu (P_assign (vi r2) rfl) ?_
  refine L_nil ?_
  refine W_ret ?_
  exact ⟨[vi r2], ⟨_, rfl, rfl⟩, r2, m, m2, ra30, rfl, H, hc39.gr, h41, hd42, h38⟩
end Go.Proofs.Ytndjggncgpjolaa

namespace Go.Proofs.Ytndjggncgpjolaa
set_option linter.unusedVariables false
set_option linter.unusedSimpArgs false
set_option linter.unusedSectionVars false
theorem laws_markRepo.lawk (a : Repo) (k : Int) (Q : Int → List Commit → List Head → Prop) (ha : bulk a ≤ 1048576) (h0 : 0 ≤ k) (h1 : k ≤ 400000000)
    (hq : Q (mkL gHead a.Heads (mkL gCommit a.Commits k).2).2 (mkL gCommit a.Commits k).1 (mkL gHead a.Heads (mkL gCommit a.Commits k).2).1) : laws_markRepo.E a k Q := by
  have hb : bulk a = bulk a.Commits + bulk a.Heads := rfl
  have h2 := mkL_bd gCommit_bd a.Commits k
  unfold laws_markRepo.E
  exact laws_markCommitS.lawk _ _ _ (by omega) h0 h1 (laws_markHeadS.lawk _ _ _ (by omega) (by omega) (by omega) hq)
end Go.Proofs.Ytndjggncgpjolaa

namespace Go.Proofs.Ytndjggncgpjolaa
open Go.RowKit
set_option linter.unusedVariables false
def laws_heldIntS.E (a : List Int) (k : Int) (Q : Int → Prop) : Prop :=
  (∃ (I18 : Int → Int → Prop) (mu19 : Int → Int → Nat), I18 k 0 ∧ ∀ (k3 : Int) (i2 : Int), I18 k3 i2 → (if decide (i2 < (a.length : Int)) then ((0 : Int) ≤ i2 ∧ i2 < (a.length : Int)) ∧ (if (nth a i2) != k3 then Q (-1) else ((a.length : Int) ≤ 9223372036854775807 → I64 (k3 + 1)) ∧ (-9223372036854775808 ≤ i2) ∧ I18 (k3 + 1) (i2 + 1) ∧ mu19 (k3 + 1) (i2 + 1) < mu19 k3 i2) else Q k3))
set_option maxHeartbeats 8000000 in
set_option maxRecDepth 100000 in
theorem laws_heldIntS.calls {O : Ob} (w0 : World) (hO : Ok w0 O) (a : List Int) (A1 : Option Addr) (n2 c3 : Nat) (hp4 : Sl (Kd.int .i64) w0 (Fr O) (.slice A1 n2 c3) a) (k : Int) (Q : Int → Prop) (h : laws_heldIntS.E a k Q) :
    Ret Try.prog 116 [.slice A1 n2 c3, vi k] w0 (fun v w' => ∃ (r0 : Int), v = vi r0 ∧ Q r0 ∧ Gr w0 w' none) := by
  have H : (∃ (I18 : Int → Int → Prop) (mu19 : Int → Int → Nat), I18 k 0 ∧ ∀ (k3 : Int) (i2 : Int), I18 k3 i2 → (if decide (i2 < (a.length : Int)) then ((0 : Int) ≤ i2 ∧ i2 < (a.length : Int)) ∧ (if (nth a i2) != k3 then Q (-1) else ((a.length : Int) ≤ 9223372036854775807 → I64 (k3 + 1)) ∧ (-9223372036854775808 ≤ i2) ∧ I18 (k3 + 1) (i2 + 1) ∧ mu19 (k3 + 1) (i2 + 1) < mu19 k3 i2) else Q k3)) := h
  clear h
  have hc0 := Ct.init hO
  refine Ret_enter Try.func116 rfl 21 rfl [.tmp 4] rfl rfl ?_
  refine W_seq ?_
  refine W_reg ?_
  refine L_pu (P_assign (vi 0) rfl) ?_
  refine L_nil ?_
  refine W_seq ?_
  refine W_seq ?_
  refine W_reg ?_
  refine L_pu (P_assign (vi 0) rfl) ?_
  refine L_nil ?_
  refine W_block ?_
  obtain ⟨I18, mu19, hI20, H⟩ := H
  refine W_loop (α := Int × Int) (fun (sv__ : Int × Int) t w14 => match sv__ with | (k3, i2) => I18 k3 i2 ∧ Has t [(0, .slice A1 n2 c3), (1, vi k3), (5, vi i2)] ∧ Ct [] w0 w14 [] O ∧ Sl (Kd.int .i64) w14 (Fr ([] ++ O)) (.slice A1 n2 c3) a) (fun (sv__ : Int × Int) => match sv__ with | (k3, i2) => mu19 k3 i2) (k, 0) ⟨hI20, ⟨rfl, rfl, rfl, trivial⟩, hc0, hp4⟩ ?_
  rintro ⟨k3, i2⟩ _ w14 ⟨hI20, hh22, hc16, h17⟩
  obtain ⟨u23, rfl⟩ := Has.ins hh22
  have H := H k3 i2 hI20
  refine W_seq ?_
  refine W_seq ?_
  refine W_reg ?_
  refine L_pu (P_move (vi i2) rfl) ?_
  refine L_pu (P_move (.slice A1 n2 c3) rfl) ?_
  have hl24 := h17.le
  refine L_pu (P_len Try.underlying89 A1 n2 c3 h17.len rfl) ?_
  refine L_pu (P_cmp i2 (a.length : Int) (decide (i2 < (a.length : Int))) rfl rfl rfl) ?_
  refine L_nil ?_
  refine W_cond (decide (i2 < (a.length : Int))) rfl (fun hq25 => ?_) (fun hq25 => ?_)
  · have H := ite_t H hq25
    refine W_skip ?_
    refine W_seq ?_
    refine W_block ?_
    refine W_seq ?_
    refine W_seq ?_
    refine W_reg ?_
    refine L_pu (P_move (.slice A1 n2 c3) rfl) ?_
    refine L_pu (P_move (vi i2) rfl) ?_
    obtain ⟨hb26, H⟩ := H
    obtain ⟨ad27, cs28, hA29, hS32, hR30, hcl31⟩ := h17.get default (by decide) i2 hb26
    obtain rfl := Kd.int.op hR30
    refine L_pu (P_ia Try.underlying89 se89 A1 ad27 n2 c3 h17.len i2 rfl hA29 rfl hb26) ?_
    refine L_pu (P_ld ag3 cL (ad27.add (i2.toNat * 1)) (vi (nth a i2)) rfl (hcl31 0 _ rfl)) ?_
    refine L_pu (P_move (vi k3) rfl) ?_
    refine L_pu (P_cmp (nth a i2) k3 ((nth a i2) != k3) rfl rfl rfl) ?_
    refine L_nil ?_
    refine W_cond ((nth a i2) != k3) rfl (fun hq33 => ?_) (fun hq33 => ?_)
    · have H := ite_t H hq33
      refine W_seq ?_
      refine W_reg ?_
      refine L_pu (P_assign (vi (-1)) rfl) ?_
      refine L_nil ?_
      refine W_ret ?_
      exact ⟨[vi (-1)], ⟨_, rfl, rfl⟩, (-1), rfl, H, hc16.gr.g0⟩
    · have H := ite_f H hq33
      refine W_skip ?_
      refine W_reg ?_
      refine L_pu (P_move (vi k3) rfl) ?_
      obtain ⟨hb34, H⟩ := H
      have hi35 := hb34 (len_le hl24)
      refine L_pu (P_add k3 1 rfl rfl hi35) ?_
      refine L_pu (P_assign (vi (k3 + 1)) rfl) ?_
      refine L_nil ?_
      refine W_reg ?_
      refine L_pu (P_move (vi i2) rfl) ?_
      obtain ⟨hb37, H⟩ := H
      have hi36 : I64 (i2 + 1) := i64_succ (of_decide_eq_true hq25) hl24 hb37
      refine L_pu (P_add i2 1 rfl rfl hi36) ?_
      refine L_pu (P_assign (vi (i2 + 1)) rfl) ?_
      refine L_nil ?_
      obtain ⟨hI38, hm39⟩ := H
      exact ⟨(k3 + 1, i2 + 1), hm39, hI38, ⟨rfl, rfl, rfl, trivial⟩, hc16, h17⟩
  · have H := ite_f H hq25
    refine W_exit (xin_hit ?_)
    refine W_seq ?_
    refine W_reg ?_
    refine L_pu (P_move (vi k3) rfl) ?_
    refine L_pu (P_assign (vi k3) rfl) ?_
    refine L_nil ?_
    refine W_ret ?_
    exact ⟨[vi k3], ⟨_, rfl, rfl⟩, k3, rfl, H, hc16.gr.g0⟩
end Go.Proofs.Ytndjggncgpjolaa

namespace Go.Proofs.Ytndjggncgpjolaa
set_option linter.unusedVariables false
set_option linter.unusedSimpArgs false
set_option linter.unusedSectionVars false
theorem laws_heldIntS.lawk (a : List Int) (k : Int) (Q : Int → Prop) (ha : bulk a ≤ 1048576) (h0 : 0 ≤ k) (h1 : k ≤ 1000000000) (hq : Q (mkL gInt a k).2) : laws_heldIntS.E (mkL gInt a k).1 k Q := by
  unfold laws_heldIntS.E
  have hbl := bulk_len a
  rw [mkL_len]
  refine ⟨fun k' i => ∃ u : Nat, i = u ∧ Hd gInt a k u k', fun _ i => (a.length - i).toNat, ⟨0, rfl, .zero a k⟩, ?_⟩
  rintro k' _ ⟨u, rfl, M⟩
  have hb := M.bd gInt_bd
  by_cases h : u < a.length
  · rw [if_pos (by simpa using h), M.nth h]
    have hm := bulk_mem (nth_mem a h)
    have hn := M.next h
    refine ⟨by omega, ?_⟩
    rw [if_neg (by simp [gInt])]
    exact ⟨fun _ => by unfold I64; omega, by omega, ⟨u + 1, by omega, hn⟩, by dsimp only; omega⟩
  · rw [if_neg (by simpa using h), M.full h]; exact hq
end Go.Proofs.Ytndjggncgpjolaa

namespace Go.Proofs.Ytndjggncgpjolaa
open Go.RowKit
set_option linter.unusedVariables false
def laws_heldPtS.E (a : List Pt) (k : Int) (Q : Int → Prop) : Prop :=
  (∃ (I18 : Int → Int → Prop) (mu19 : Int → Int → Nat), I18 k 0 ∧ ∀ (k3 : Int) (i2 : Int), I18 k3 i2 → (if decide (i2 < (a.length : Int)) then ((0 : Int) ≤ i2 ∧ i2 < (a.length : Int)) ∧ (if ((nth a i2).X) != k3 then Q (-1) else ((a.length : Int) ≤ 9223372036854775807 → I64 (k3 + 1)) ∧ ((0 : Int) ≤ i2 ∧ i2 < (a.length : Int)) ∧ (if ((nth a i2).Y) != (k3 + 1) then Q (-1) else ((a.length : Int) ≤ 9223372036854775807 → I64 (k3 + 1 + 1)) ∧ (-9223372036854775808 ≤ i2) ∧ I18 (k3 + 1 + 1) (i2 + 1) ∧ mu19 (k3 + 1 + 1) (i2 + 1) < mu19 k3 i2)) else Q k3))
set_option maxHeartbeats 8000000 in
set_option maxRecDepth 100000 in
theorem laws_heldPtS.calls {O : Ob} (w0 : World) (hO : Ok w0 O) (a : List Pt) (A1 : Option Addr) (n2 c3 : Nat) (hp4 : Sl kPt w0 (Fr O) (.slice A1 n2 c3) a) (k : Int) (Q : Int → Prop) (h : laws_heldPtS.E a k Q) :
    Ret Try.prog 70 [.slice A1 n2 c3, vi k] w0 (fun v w' => ∃ (r0 : Int), v = vi r0 ∧ Q r0 ∧ Gr w0 w' none) := by
  have H : (∃ (I18 : Int → Int → Prop) (mu19 : Int → Int → Nat), I18 k 0 ∧ ∀ (k3 : Int) (i2 : Int), I18 k3 i2 → (if decide (i2 < (a.length : Int)) then ((0 : Int) ≤ i2 ∧ i2 < (a.length : Int)) ∧ (if ((nth a i2).X) != k3 then Q (-1) else ((a.length : Int) ≤ 9223372036854775807 → I64 (k3 + 1)) ∧ ((0 : Int) ≤ i2 ∧ i2 < (a.length : Int)) ∧ (if ((nth a i2).Y) != (k3 + 1) then Q (-1) else ((a.length : Int) ≤ 9223372036854775807 → I64 (k3 + 1 + 1)) ∧ (-9223372036854775808 ≤ i2) ∧ I18 (k3 + 1 + 1) (i2 + 1) ∧ mu19 (k3 + 1 + 1) (i2 + 1) < mu19 k3 i2)) else Q k3)) := h
  clear h
  have hc0 := Ct.init hO
  refine Ret_enter Try.func70 rfl 31 rfl [.tmp 4] rfl rfl ?_
  refine W_seq ?_
  refine W_reg ?_
  refine L_pu (P_assign (vi 0) rfl) ?_
  refine L_nil ?_
  refine W_seq ?_
  refine W_seq ?_
  refine W_reg ?_
  refine L_pu (P_assign (vi 0) rfl) ?_
  refine L_nil ?_
  refine W_block ?_
  obtain ⟨I18, mu19, hI20, H⟩ := H
  refine W_loop (α := Int × Int) (fun (sv__ : Int × Int) t w14 => match sv__ with | (k3, i2) => I18 k3 i2 ∧ Has t [(0, .slice A1 n2 c3), (1, vi k3), (5, vi i2)] ∧ Ct [] w0 w14 [] O ∧ Sl kPt w14 (Fr ([] ++ O)) (.slice A1 n2 c3) a) (fun (sv__ : Int × Int) => match sv__ with | (k3, i2) => mu19 k3 i2) (k, 0) ⟨hI20, ⟨rfl, rfl, rfl, trivial⟩, hc0, hp4⟩ ?_
  rintro ⟨k3, i2⟩ _ w14 ⟨hI20, hh22, hc16, h17⟩
  obtain ⟨u23, rfl⟩ := Has.ins hh22
  have H := H k3 i2 hI20
  refine W_seq ?_
  refine W_seq ?_
  refine W_reg ?_
  refine L_pu (P_move (vi i2) rfl) ?_
  refine L_pu (P_move (.slice A1 n2 c3) rfl) ?_
  have hl24 := h17.le
  refine L_pu (P_len Try.underlying23 A1 n2 c3 h17.len rfl) ?_
  refine L_pu (P_cmp i2 (a.length : Int) (decide (i2 < (a.length : Int))) rfl rfl rfl) ?_
  refine L_nil ?_
  refine W_cond (decide (i2 < (a.length : Int))) rfl (fun hq25 => ?_) (fun hq25 => ?_)
  · have H := ite_t H hq25
    refine W_skip ?_
    refine W_seq ?_
    refine W_block ?_
    refine W_seq ?_
    refine W_seq ?_
    refine W_reg ?_
    refine L_pu (P_move (.slice A1 n2 c3) rfl) ?_
    refine L_pu (P_move (vi i2) rfl) ?_
    obtain ⟨hb26, H⟩ := H
    obtain ⟨ad27, cs28, hA29, hS32, hR30, hcl31⟩ := h17.get default (by decide) i2 hb26
    obtain rfl := kPt.op hR30
    refine L_pu (P_ia Try.underlying23 se23 A1 ad27 n2 c3 h17.len i2 rfl hA29 rfl hb26) ?_
    refine L_pu (P_fa fa29_0 (ad27.add (i2.toNat * 2)) ((ad27.add (i2.toNat * 2)).add 0) rfl rfl) ?_
    refine L_pu (P_ld ag3 cL ((ad27.add (i2.toNat * 2)).add 0) (vi ((nth a i2).X)) rfl (hcl31 0 _ rfl)) ?_
    refine L_pu (P_move (vi k3) rfl) ?_
    refine L_pu (P_cmp ((nth a i2).X) k3 (((nth a i2).X) != k3) rfl rfl rfl) ?_
    refine L_nil ?_
    refine W_cond (((nth a i2).X) != k3) rfl (fun hq33 => ?_) (fun hq33 => ?_)
    · have H := ite_t H hq33
      refine W_seq ?_
      refine W_reg ?_
      refine L_pu (P_assign (vi (-1)) rfl) ?_
      refine L_nil ?_
      refine W_ret ?_
      exact ⟨[vi (-1)], ⟨_, rfl, rfl⟩, (-1), rfl, H, hc16.gr.g0⟩
    · have H := ite_f H hq33
      refine W_skip ?_
      refine W_seq ?_
      refine W_reg ?_
      refine L_pu (P_move (vi k3) rfl) ?_
      obtain ⟨hb34, H⟩ := H
      have hi35 := hb34 (len_le hl24)
      refine L_pu (P_add k3 1 rfl rfl hi35) ?_
      refine L_pu (P_assign (vi (k3 + 1)) rfl) ?_
      refine L_nil ?_
      refine W_seq ?_
      refine W_seq ?_
      refine W_reg ?_
      refine L_pu (P_move (.slice A1 n2 c3) rfl) ?_
      refine L_pu (P_move (vi i2) rfl) ?_
      obtain ⟨hb36, H⟩ := H
      obtain ⟨ad37, cs38, hA39, hS42, hR40, hcl41⟩ := h17.get default (by decide) i2 hb36
      obtain rfl := kPt.op hR40
      refine L_pu (P_ia Try.underlying23 se23 A1 ad37 n2 c3 h17.len i2 rfl hA39 rfl hb36) ?_
      refine L_pu (P_fa fa29_1 (ad37.add (i2.toNat * 2)) ((ad37.add (i2.toNat * 2)).add 1) rfl rfl) ?_
      refine L_pu (P_ld ag3 cL ((ad37.add (i2.toNat * 2)).add 1) (vi ((nth a i2).Y)) rfl (hcl41 1 _ rfl)) ?_
      refine L_pu (P_move (vi (k3 + 1)) rfl) ?_
      refine L_pu (P_cmp ((nth a i2).Y) (k3 + 1) (((nth a i2).Y) != (k3 + 1)) rfl rfl rfl) ?_
      refine L_nil ?_
      refine W_cond (((nth a i2).Y) != (k3 + 1)) rfl (fun hq43 => ?_) (fun hq43 => ?_)
      · have H := ite_t H hq43
        refine W_seq ?_
        refine W_reg ?_
        refine L_pu (P_assign (vi (-1)) rfl) ?_
        refine L_nil ?_
        refine W_ret ?_
        exact ⟨[vi (-1)], ⟨_, rfl, rfl⟩, (-1), rfl, H, hc16.gr.g0⟩
      · have H := ite_f H hq43
        refine W_skip ?_
        refine W_reg ?_
        refine L_pu (P_move (vi (k3 + 1)) rfl) ?_
        obtain ⟨hb44, H⟩ := H
        have hi45 := hb44 (len_le hl24)
        refine L_pu (P_add (k3 + 1) 1 rfl rfl hi45) ?_
        refine L_pu (P_assign (vi (k3 + 1 + 1)) rfl) ?_
        refine L_nil ?_
        refine W_reg ?_
        refine L_pu (P_move (vi i2) rfl) ?_
        obtain ⟨hb47, H⟩ := H
        have hi46 : I64 (i2 + 1) := i64_succ (of_decide_eq_true hq25) hl24 hb47
        refine L_pu (P_add i2 1 rfl rfl hi46) ?_
        refine L_pu (P_assign (vi (i2 + 1)) rfl) ?_
        refine L_nil ?_
        obtain ⟨hI48, hm49⟩ := H
        exact ⟨(k3 + 1 + 1, i2 + 1), hm49, hI48, ⟨rfl, rfl, rfl, trivial⟩, hc16, h17⟩
  · have H := ite_f H hq25
    refine W_exit (xin_hit ?_)
    refine W_seq ?_
    refine W_reg ?_
    refine L_pu (P_move (vi k3) rfl) ?_
    refine L_pu (P_assign (vi k3) rfl) ?_
    refine L_nil ?_
    refine W_ret ?_
    exact ⟨[vi k3], ⟨_, rfl, rfl⟩, k3, rfl, H, hc16.gr.g0⟩
end Go.Proofs.Ytndjggncgpjolaa

namespace Go.Proofs.Ytndjggncgpjolaa
set_option linter.unusedVariables false
set_option linter.unusedSimpArgs false
set_option linter.unusedSectionVars false
theorem laws_heldPtS.law (n : Nat) (k : Int) (Q : Int → Prop) (ha : n ≤ 1048576) (h0 : 0 ≤ k) (h1 : k ≤ 1000000000) (hq : Q (k + 2 * n)) : laws_heldPtS.E (markedPt n k) k Q := by
  unfold laws_heldPtS.E
  rw [markedPt_len]
  refine ⟨fun k' i => ∃ u : Nat, i = u ∧ u ≤ n ∧ k' = k + 2 * u, fun _ i => (n - i).toNat, ⟨0, rfl, Nat.zero_le _, by omega⟩, ?_⟩
  rintro _ _ ⟨u, rfl, hu, rfl⟩
  by_cases h : (u : Int) < (n : Int)
  · rw [if_pos (by simpa using h), markedPt_nth n k (by omega)]
    refine ⟨by omega, ?_⟩
    rw [if_neg (by simp)]
    refine ⟨fun _ => by unfold I64; omega, by omega, ?_⟩
    rw [if_neg (by simp)]
    exact ⟨fun _ => by unfold I64; omega, by omega, ⟨u + 1, by omega, by omega, by omega⟩, by dsimp only; omega⟩
  · rw [if_neg (by simpa using h)]
    have : u = n := by omega
    subst this
    exact hq
theorem laws_heldPtS.lawk (a : List Pt) (k : Int) (Q : Int → Prop) (ha : bulk a ≤ 1048576) (h0 : 0 ≤ k) (h1 : k ≤ 1000000000) (hq : Q (mkL gPt a k).2) : laws_heldPtS.E (mkL gPt a k).1 k Q := by
  unfold laws_heldPtS.E
  have hbl := bulk_len a
  rw [mkL_len]
  refine ⟨fun k' i => ∃ u : Nat, i = u ∧ Hd gPt a k u k', fun _ i => (a.length - i).toNat, ⟨0, rfl, .zero a k⟩, ?_⟩
  rintro k' _ ⟨u, rfl, M⟩
  have hb := M.bd gPt_bd
  by_cases h : u < a.length
  · rw [if_pos (by simpa using h), M.nth h]
    refine ⟨by omega, ?_⟩
    rw [if_neg (by simp [gPt])]
    refine ⟨fun _ => by unfold I64; omega, by omega, ?_⟩
    rw [if_neg (by simp [gPt])]
    refine ⟨fun _ => by unfold I64; omega, by omega, ⟨u + 1, by omega, ?_⟩, by dsimp only; omega⟩
    have := M.next h
    rw [show k' + 1 + 1 = (gPt (nth a (u : Int)) k').2 by simp [gPt]; omega]; exact this
  · rw [if_neg (by simpa using h), M.full h]; exact hq
end Go.Proofs.Ytndjggncgpjolaa

namespace Go.Proofs.Ytndjggncgpjolaa
open Go.RowKit
set_option linter.unusedVariables false
def laws_heldTagS.E (a : List Tag) (k : Int) (Q : Int → Prop) : Prop :=
  (∃ (I18 : Int → Int → Prop) (mu19 : Int → Int → Nat), I18 k 0 ∧ ∀ (k3 : Int) (i2 : Int), I18 k3 i2 → (if decide (i2 < (a.length : Int)) then ((0 : Int) ≤ i2 ∧ i2 < (a.length : Int)) ∧ (∃ q : Str, laws_markText.E k3 (fun x => x = q) ∧ (Lim q) ∧ (if ((nth a i2).Key) != q then Q (-1) else ((a.length : Int) ≤ 9223372036854775807 → I64 (k3 + 1)) ∧ ((0 : Int) ≤ i2 ∧ i2 < (a.length : Int)) ∧ (∃ q2 : Str, laws_markText.E (k3 + 1) (fun x => x = q2) ∧ (Lim q2) ∧ (if ((nth a i2).Val) != q2 then Q (-1) else ((a.length : Int) ≤ 9223372036854775807 → I64 (k3 + 1 + 1)) ∧ (-9223372036854775808 ≤ i2) ∧ I18 (k3 + 1 + 1) (i2 + 1) ∧ mu19 (k3 + 1 + 1) (i2 + 1) < mu19 k3 i2)))) else Q k3))
set_option maxHeartbeats 8000000 in
set_option maxRecDepth 100000 in
theorem laws_heldTagS.calls {O : Ob} (w0 : World) (hO : Ok w0 O) (a : List Tag) (A1 : Option Addr) (n2 c3 : Nat) (hp4 : Sl kTag w0 (Fr O) (.slice A1 n2 c3) a) (k : Int) (Q : Int → Prop) (h : laws_heldTagS.E a k Q) :
    Ret Try.prog 71 [.slice A1 n2 c3, vi k] w0 (fun v w' => ∃ (r0 : Int), v = vi r0 ∧ Q r0 ∧ Gr w0 w' none) := by
  have H : (∃ (I18 : Int → Int → Prop) (mu19 : Int → Int → Nat), I18 k 0 ∧ ∀ (k3 : Int) (i2 : Int), I18 k3 i2 → (if decide (i2 < (a.length : Int)) then ((0 : Int) ≤ i2 ∧ i2 < (a.length : Int)) ∧ (∃ q : Str, laws_markText.E k3 (fun x => x = q) ∧ (Lim q) ∧ (if ((nth a i2).Key) != q then Q (-1) else ((a.length : Int) ≤ 9223372036854775807 → I64 (k3 + 1)) ∧ ((0 : Int) ≤ i2 ∧ i2 < (a.length : Int)) ∧ (∃ q2 : Str, laws_markText.E (k3 + 1) (fun x => x = q2) ∧ (Lim q2) ∧ (if ((nth a i2).Val) != q2 then Q (-1) else ((a.length : Int) ≤ 9223372036854775807 → I64 (k3 + 1 + 1)) ∧ (-9223372036854775808 ≤ i2) ∧ I18 (k3 + 1 + 1) (i2 + 1) ∧ mu19 (k3 + 1 + 1) (i2 + 1) < mu19 k3 i2)))) else Q k3)) := h
  clear h
  have hc0 := Ct.init hO
  refine Ret_enter Try.func71 rfl 33 rfl [.tmp 4] rfl rfl ?_
  refine W_seq ?_
  refine W_reg ?_
  refine L_pu (P_assign (vi 0) rfl) ?_
  refine L_nil ?_
  refine W_seq ?_
  refine W_seq ?_
  refine W_reg ?_
  refine L_pu (P_assign (vi 0) rfl) ?_
  refine L_nil ?_
  refine W_block ?_
  obtain ⟨I18, mu19, hI20, H⟩ := H
  refine W_loop (α := Int × Int) (fun (sv__ : Int × Int) t w14 => match sv__ with | (k3, i2) => I18 k3 i2 ∧ Has t [(0, .slice A1 n2 c3), (1, vi k3), (5, vi i2)] ∧ Ct [] w0 w14 [] O ∧ Sl kTag w14 (Fr ([] ++ O)) (.slice A1 n2 c3) a) (fun (sv__ : Int × Int) => match sv__ with | (k3, i2) => mu19 k3 i2) (k, 0) ⟨hI20, ⟨rfl, rfl, rfl, trivial⟩, hc0, hp4⟩ ?_
  rintro ⟨k3, i2⟩ _ w14 ⟨hI20, hh22, hc16, h17⟩
  obtain ⟨u23, rfl⟩ := Has.ins hh22
  have H := H k3 i2 hI20
  refine W_seq ?_
  refine W_seq ?_
  refine W_reg ?_
  refine L_pu (P_move (vi i2) rfl) ?_
  refine L_pu (P_move (.slice A1 n2 c3) rfl) ?_
  have hl24 := h17.le
  refine L_pu (P_len Try.underlying69 A1 n2 c3 h17.len rfl) ?_
  refine L_pu (P_cmp i2 (a.length : Int) (decide (i2 < (a.length : Int))) rfl rfl rfl) ?_
  refine L_nil ?_
  refine W_cond (decide (i2 < (a.length : Int))) rfl (fun hq25 => ?_) (fun hq25 => ?_)
  · have H := ite_t H hq25
    refine W_skip ?_
    refine W_seq ?_
    refine W_block ?_
    refine W_seq ?_
    refine W_seq ?_
    refine W_draw (fun x => Gr w14 x none) (by kernel_rfl) (by kernel_rfl) (Gr.drew _) ?_
    refine Q_pu (P_move (.slice A1 n2 c3) rfl) ?_
    refine Q_pu (P_move (vi i2) rfl) ?_
    obtain ⟨hb26, H⟩ := H
    obtain ⟨ad27, cs28, hA29, hS32, hR30, hcl31⟩ := h17.get default (by decide) i2 hb26
    obtain ⟨rfl, hs33, hs34⟩ := kTag.op hR30
    refine Q_pu (P_ia Try.underlying69 se69 A1 ad27 n2 c3 h17.len i2 rfl hA29 rfl hb26) ?_
    refine Q_pu (P_fa fa133_0 (ad27.add (i2.toNat * 2)) ((ad27.add (i2.toNat * 2)).add 0) rfl rfl) ?_
    refine Q_pu (P_ld ag9 cQ ((ad27.add (i2.toNat * 2)).add 0) (vs ((nth a i2).Key)) rfl (hcl31 0 _ rfl)) ?_
    refine Q_pu (P_move (vi k3) rfl) ?_
    obtain ⟨q, hE41, hs42, H⟩ := H
    refine Q_call go67 [vi k3] rfl (vs q) (fun w g => (laws_markText.calls w (hc16.k0 g).ok k3 _ hE41).mono ?_) ?_
    · rintro _ w ⟨r, rfl, rfl, g2, _⟩
      exact ⟨rfl, Gr.t0 g g2⟩
    refine Q_pu (P_scmp ((nth a i2).Key) q (((nth a i2).Key) != q) rfl rfl rfl) ?_
    refine Q_nil fun w43 g44 => ?_
    have hc46 := hc16.k0 g44
    refine W_cond (((nth a i2).Key) != q) rfl (fun hq47 => ?_) (fun hq47 => ?_)
    · have H := ite_t H hq47
      refine W_seq ?_
      refine W_reg ?_
      refine L_pu (P_assign (vi (-1)) rfl) ?_
      refine L_nil ?_
      refine W_ret ?_
      exact ⟨[vi (-1)], ⟨_, rfl, rfl⟩, (-1), rfl, H, hc46.gr.g0⟩
    · have H := ite_f H hq47
      refine W_skip ?_
      refine W_seq ?_
      refine W_reg ?_
      refine L_pu (P_move (vi k3) rfl) ?_
      obtain ⟨hb48, H⟩ := H
      have hi49 := hb48 (len_le hl24)
      refine L_pu (P_add k3 1 rfl rfl hi49) ?_
      refine L_pu (P_assign (vi (k3 + 1)) rfl) ?_
      refine L_nil ?_
      refine W_seq ?_
      refine W_seq ?_
      refine W_draw (fun x => Gr w43 x none) (by kernel_rfl) (by kernel_rfl) (Gr.drew _) ?_
      refine Q_pu (P_move (.slice A1 n2 c3) rfl) ?_
      refine Q_pu (P_move (vi i2) rfl) ?_
      obtain ⟨hb50, H⟩ := H
      obtain ⟨ad51, cs52, hA53, hS56, hR54, hcl55⟩ := (h17.st (.new _ g44)).get default (by decide) i2 hb50
      obtain ⟨rfl, hs57, hs58⟩ := kTag.op hR54
      refine Q_pu (P_ia Try.underlying69 se69 A1 ad51 n2 c3 (h17.st (.new _ g44)).len i2 rfl hA53 rfl hb50) ?_
      refine Q_pu (P_fa fa133_1 (ad51.add (i2.toNat * 2)) ((ad51.add (i2.toNat * 2)).add 1) rfl rfl) ?_
      refine Q_pu (P_ld ag9 cQ ((ad51.add (i2.toNat * 2)).add 1) (vs ((nth a i2).Val)) rfl (hcl55 1 _ rfl)) ?_
      refine Q_pu (P_move (vi (k3 + 1)) rfl) ?_
      obtain ⟨q2, hE65, hs66, H⟩ := H
      refine Q_call go67 [vi (k3 + 1)] rfl (vs q2) (fun w g => (laws_markText.calls w (hc46.k0 g).ok (k3 + 1) _ hE65).mono ?_) ?_
      · rintro _ w ⟨r, rfl, rfl, g2, _⟩
        exact ⟨rfl, Gr.t0 g g2⟩
      refine Q_pu (P_scmp ((nth a i2).Val) q2 (((nth a i2).Val) != q2) rfl rfl rfl) ?_
      refine Q_nil fun w67 g68 => ?_
      have hc70 := hc46.k0 g68
      refine W_cond (((nth a i2).Val) != q2) rfl (fun hq71 => ?_) (fun hq71 => ?_)
      · have H := ite_t H hq71
        refine W_seq ?_
        refine W_reg ?_
        refine L_pu (P_assign (vi (-1)) rfl) ?_
        refine L_nil ?_
        refine W_ret ?_
        exact ⟨[vi (-1)], ⟨_, rfl, rfl⟩, (-1), rfl, H, hc70.gr.g0⟩
      · have H := ite_f H hq71
        refine W_skip ?_
        refine W_reg ?_
        refine L_pu (P_move (vi (k3 + 1)) rfl) ?_
        obtain ⟨hb72, H⟩ := H
        have hi73 := hb72 (len_le hl24)
        refine L_pu (P_add (k3 + 1) 1 rfl rfl hi73) ?_
        refine L_pu (P_assign (vi (k3 + 1 + 1)) rfl) ?_
        refine L_nil ?_
        refine W_reg ?_
        refine L_pu (P_move (vi i2) rfl) ?_
        obtain ⟨hb75, H⟩ := H
        have hi74 : I64 (i2 + 1) := i64_succ (of_decide_eq_true hq25) hl24 hb75
        refine L_pu (P_add i2 1 rfl rfl hi74) ?_
        refine L_pu (P_assign (vi (i2 + 1)) rfl) ?_
        refine L_nil ?_
        obtain ⟨hI76, hm77⟩ := H
        have h78 := ((h17.st (.new _ g44)).st (.new _ g68))
        exact ⟨(k3 + 1 + 1, i2 + 1), hm77, hI76, ⟨rfl, rfl, rfl, trivial⟩, hc70, h78⟩
  · have H := ite_f H hq25
    refine W_exit (xin_hit ?_)
    refine W_seq ?_
    refine W_reg ?_
    refine L_pu (P_move (vi k3) rfl) ?_
    refine L_pu (P_assign (vi k3) rfl) ?_
    refine L_nil ?_
    refine W_ret ?_
    exact ⟨[vi k3], ⟨_, rfl, rfl⟩, k3, rfl, H, hc16.gr.g0⟩
end Go.Proofs.Ytndjggncgpjolaa

namespace Go.Proofs.Ytndjggncgpjolaa
set_option linter.unusedVariables false
set_option linter.unusedSimpArgs false
set_option linter.unusedSectionVars false
theorem laws_heldTagS.lawk (a : List Tag) (k : Int) (Q : Int → Prop) (ha : bulk a ≤ 1048576) (h0 : 0 ≤ k) (h1 : k ≤ 1000000000) (hq : Q (mkL gTag a k).2) : laws_heldTagS.E (mkL gTag a k).1 k Q := by
  unfold laws_heldTagS.E
  have hbl := bulk_len a
  rw [mkL_len]
  refine ⟨fun k' i => ∃ u : Nat, i = u ∧ Hd gTag a k u k', fun _ i => (a.length - i).toNat, ⟨0, rfl, .zero a k⟩, ?_⟩
  rintro k' _ ⟨u, rfl, M⟩
  have hb := M.bd gTag_bd
  by_cases h : u < a.length
  · rw [if_pos (by simpa using h), M.nth h]
    have hm := bulk_mem (nth_mem a h)
    have hn := M.next h
    refine ⟨by omega, tx k', laws_markText.q _ (by omega) (by omega), tx_lim _ (by omega) (by omega), ?_⟩
    rw [if_neg (by simp [gTag])]
    refine ⟨fun _ => by unfold I64; omega, by omega, tx (k' + 1), laws_markText.q _ (by omega) (by omega), tx_lim _ (by omega) (by omega), ?_⟩
    rw [if_neg (by simp [gTag])]
    refine ⟨fun _ => by unfold I64; omega, by omega, ⟨u + 1, by omega, ?_⟩, by dsimp only; omega⟩
    rw [show k' + 1 + 1 = (gTag (nth a (u : Int)) k').2 by simp [gTag]; omega]; exact hn
  · rw [if_neg (by simpa using h), M.full h]; exact hq
end Go.Proofs.Ytndjggncgpjolaa

namespace Go.Proofs.Ytndjggncgpjolaa
open Go.RowKit
set_option linter.unusedVariables false
def laws_heldFeatS.E (a : List Feat) (k : Int) (Q : Int → Prop) : Prop :=
  (∃ (I18 : Int → Int → Prop) (mu19 : Int → Int → Nat), I18 k 0 ∧ ∀ (k3 : Int) (i2 : Int), I18 k3 i2 → (if decide (i2 < (a.length : Int)) then ((0 : Int) ≤ i2 ∧ i2 < (a.length : Int)) ∧ (∃ q : Str, laws_markText.E k3 (fun x => x = q) ∧ (Lim q) ∧ (if ((nth a i2).Id) != q then Q (-1) else ((a.length : Int) ≤ 9223372036854775807 → I64 (k3 + 1)) ∧ ((0 : Int) ≤ i2 ∧ i2 < (a.length : Int)) ∧ (if ((nth a i2).Shape.Kind) != (k3 + 1) then Q (-1) else ((a.length : Int) ≤ 9223372036854775807 → I64 (k3 + 1 + 1)) ∧ ((0 : Int) ≤ i2 ∧ i2 < (a.length : Int)) ∧ laws_heldPtS.E ((nth a i2).Shape.Pts) (k3 + 1 + 1) (fun r2 => (if decide (r2 < 0) then Q (-1) else ((0 : Int) ≤ i2 ∧ i2 < (a.length : Int)) ∧ laws_heldTagS.E ((nth a i2).Tags) r2 (fun r3 => (if decide (r3 < 0) then Q (-1) else (-9223372036854775808 ≤ i2) ∧ I18 r3 (i2 + 1) ∧ mu19 r3 (i2 + 1) < mu19 k3 i2))))))) else Q k3))
set_option maxHeartbeats 8000000 in
set_option maxRecDepth 100000 in
theorem laws_heldFeatS.calls {O : Ob} (w0 : World) (hO : Ok w0 O) (a : List Feat) (A1 : Option Addr) (n2 c3 : Nat) (hp4 : Sl kFeat w0 (Fr O) (.slice A1 n2 c3) a) (k : Int) (Q : Int → Prop) (h : laws_heldFeatS.E a k Q) :
    Ret Try.prog 117 [.slice A1 n2 c3, vi k] w0 (fun v w' => ∃ (r0 : Int), v = vi r0 ∧ Q r0 ∧ Gr w0 w' none) := by
  have H : (∃ (I18 : Int → Int → Prop) (mu19 : Int → Int → Nat), I18 k 0 ∧ ∀ (k3 : Int) (i2 : Int), I18 k3 i2 → (if decide (i2 < (a.length : Int)) then ((0 : Int) ≤ i2 ∧ i2 < (a.length : Int)) ∧ (∃ q : Str, laws_markText.E k3 (fun x => x = q) ∧ (Lim q) ∧ (if ((nth a i2).Id) != q then Q (-1) else ((a.length : Int) ≤ 9223372036854775807 → I64 (k3 + 1)) ∧ ((0 : Int) ≤ i2 ∧ i2 < (a.length : Int)) ∧ (if ((nth a i2).Shape.Kind) != (k3 + 1) then Q (-1) else ((a.length : Int) ≤ 9223372036854775807 → I64 (k3 + 1 + 1)) ∧ ((0 : Int) ≤ i2 ∧ i2 < (a.length : Int)) ∧ laws_heldPtS.E ((nth a i2).Shape.Pts) (k3 + 1 + 1) (fun r2 => (if decide (r2 < 0) then Q (-1) else ((0 : Int) ≤ i2 ∧ i2 < (a.length : Int)) ∧ laws_heldTagS.E ((nth a i2).Tags) r2 (fun r3 => (if decide (r3 < 0) then Q (-1) else (-9223372036854775808 ≤ i2) ∧ I18 r3 (i2 + 1) ∧ mu19 r3 (i2 + 1) < mu19 k3 i2))))))) else Q k3)) := h
  clear h
  have hc0 := Ct.init hO
  refine Ret_enter Try.func117 rfl 52 rfl [.tmp 4] rfl rfl ?_
  refine W_seq ?_
  refine W_reg ?_
  refine L_pu (P_assign (vi 0) rfl) ?_
  refine L_nil ?_
  refine W_seq ?_
  refine W_seq ?_
  refine W_reg ?_
  refine L_pu (P_assign (vi 0) rfl) ?_
  refine L_nil ?_
  refine W_block ?_
  obtain ⟨I18, mu19, hI20, H⟩ := H
  refine W_loop (α := Int × Int) (fun (sv__ : Int × Int) t w14 => match sv__ with | (k3, i2) => I18 k3 i2 ∧ Has t [(0, .slice A1 n2 c3), (1, vi k3), (5, vi i2)] ∧ Ct [] w0 w14 [] O ∧ Sl kFeat w14 (Fr ([] ++ O)) (.slice A1 n2 c3) a) (fun (sv__ : Int × Int) => match sv__ with | (k3, i2) => mu19 k3 i2) (k, 0) ⟨hI20, ⟨rfl, rfl, rfl, trivial⟩, hc0, hp4⟩ ?_
  rintro ⟨k3, i2⟩ _ w14 ⟨hI20, hh22, hc16, h17⟩
  obtain ⟨u23, rfl⟩ := Has.ins hh22
  have H := H k3 i2 hI20
  refine W_seq ?_
  refine W_seq ?_
  refine W_reg ?_
  refine L_pu (P_move (vi i2) rfl) ?_
  refine L_pu (P_move (.slice A1 n2 c3) rfl) ?_
  have hl24 := h17.le
  refine L_pu (P_len Try.underlying52 A1 n2 c3 h17.len rfl) ?_
  refine L_pu (P_cmp i2 (a.length : Int) (decide (i2 < (a.length : Int))) rfl rfl rfl) ?_
  refine L_nil ?_
  refine W_cond (decide (i2 < (a.length : Int))) rfl (fun hq25 => ?_) (fun hq25 => ?_)
  · have H := ite_t H hq25
    refine W_skip ?_
    refine W_seq ?_
    refine W_block ?_
    refine W_seq ?_
    refine W_seq ?_
    refine W_draw (fun x => Gr w14 x none) (by kernel_rfl) (by kernel_rfl) (Gr.drew _) ?_
    refine Q_pu (P_move (.slice A1 n2 c3) rfl) ?_
    refine Q_pu (P_move (vi i2) rfl) ?_
    obtain ⟨hb26, H⟩ := H
    obtain ⟨ad27, cs28, hA29, hS32, hR30, hcl31⟩ := h17.get default (by decide) i2 hb26
    obtain ⟨A34, n35, c36, A39, n40, c41, rfl, hs33, h37, h42⟩ := kFeat.op hR30
    refine Q_pu (P_ia Try.underlying52 se52 A1 ad27 n2 c3 h17.len i2 rfl hA29 rfl hb26) ?_
    refine Q_pu (P_fa fa71_0 (ad27.add (i2.toNat * 4)) ((ad27.add (i2.toNat * 4)).add 0) rfl rfl) ?_
    refine Q_pu (P_ld ag9 cQ ((ad27.add (i2.toNat * 4)).add 0) (vs ((nth a i2).Id)) rfl (hcl31 0 _ rfl)) ?_
    refine Q_pu (P_move (vi k3) rfl) ?_
    obtain ⟨q, hE50, hs51, H⟩ := H
    refine Q_call go67 [vi k3] rfl (vs q) (fun w g => (laws_markText.calls w (hc16.k0 g).ok k3 _ hE50).mono ?_) ?_
    · rintro _ w ⟨r, rfl, rfl, g2, _⟩
      exact ⟨rfl, Gr.t0 g g2⟩
    refine Q_pu (P_scmp ((nth a i2).Id) q (((nth a i2).Id) != q) rfl rfl rfl) ?_
    refine Q_nil fun w52 g53 => ?_
    have hc55 := hc16.k0 g53
    refine W_cond (((nth a i2).Id) != q) rfl (fun hq56 => ?_) (fun hq56 => ?_)
    · have H := ite_t H hq56
      refine W_seq ?_
      refine W_reg ?_
      refine L_pu (P_assign (vi (-1)) rfl) ?_
      refine L_nil ?_
      refine W_ret ?_
      exact ⟨[vi (-1)], ⟨_, rfl, rfl⟩, (-1), rfl, H, hc55.gr.g0⟩
    · have H := ite_f H hq56
      refine W_skip ?_
      refine W_seq ?_
      refine W_reg ?_
      refine L_pu (P_move (vi k3) rfl) ?_
      obtain ⟨hb57, H⟩ := H
      have hi58 := hb57 (len_le hl24)
      refine L_pu (P_add k3 1 rfl rfl hi58) ?_
      refine L_pu (P_assign (vi (k3 + 1)) rfl) ?_
      refine L_nil ?_
      refine W_seq ?_
      refine W_seq ?_
      refine W_reg ?_
      refine L_pu (P_move (.slice A1 n2 c3) rfl) ?_
      refine L_pu (P_move (vi i2) rfl) ?_
      obtain ⟨hb59, H⟩ := H
      obtain ⟨ad60, cs61, hA62, hS65, hR63, hcl64⟩ := (h17.st (.new _ g53)).get default (by decide) i2 hb59
      obtain ⟨A67, n68, c69, A72, n73, c74, rfl, hs66, h70, h75⟩ := kFeat.op hR63
      refine L_pu (P_ia Try.underlying52 se52 A1 ad60 n2 c3 (h17.st (.new _ g53)).len i2 rfl hA62 rfl hb59) ?_
      refine L_pu (P_fa fa71_1 (ad60.add (i2.toNat * 4)) ((ad60.add (i2.toNat * 4)).add 1) rfl rfl) ?_
      refine L_pu (P_fa fa68_0 ((ad60.add (i2.toNat * 4)).add 1) (((ad60.add (i2.toNat * 4)).add 1).add 0) rfl rfl) ?_
      refine L_pu (P_ld ag3 cL (((ad60.add (i2.toNat * 4)).add 1).add 0) (vi ((nth a i2).Shape.Kind)) rfl ((congrArg w52.cell? (add_add _ _ _)).trans (hcl64 1 _ rfl))) ?_
      refine L_pu (P_move (vi (k3 + 1)) rfl) ?_
      refine L_pu (P_cmp ((nth a i2).Shape.Kind) (k3 + 1) (((nth a i2).Shape.Kind) != (k3 + 1)) rfl rfl rfl) ?_
      refine L_nil ?_
      refine W_cond (((nth a i2).Shape.Kind) != (k3 + 1)) rfl (fun hq77 => ?_) (fun hq77 => ?_)
      · have H := ite_t H hq77
        refine W_seq ?_
        refine W_reg ?_
        refine L_pu (P_assign (vi (-1)) rfl) ?_
        refine L_nil ?_
        refine W_ret ?_
        exact ⟨[vi (-1)], ⟨_, rfl, rfl⟩, (-1), rfl, H, hc55.gr.g0⟩
      · have H := ite_f H hq77
        refine W_skip ?_
        refine W_seq ?_
        refine W_reg ?_
        refine L_pu (P_move (vi (k3 + 1)) rfl) ?_
        obtain ⟨hb78, H⟩ := H
        have hi79 := hb78 (len_le hl24)
        refine L_pu (P_add (k3 + 1) 1 rfl rfl hi79) ?_
        refine L_pu (P_assign (vi (k3 + 1 + 1)) rfl) ?_
        refine L_nil ?_
        refine W_seq ?_
        refine W_reg ?_
        refine L_pu (P_move (.slice A1 n2 c3) rfl) ?_
        refine L_pu (P_move (vi i2) rfl) ?_
        obtain ⟨hb80, H⟩ := H
        obtain ⟨ad81, cs82, hA83, hS86, hR84, hcl85⟩ := (h17.st (.new _ g53)).get default (by decide) i2 hb80
        obtain ⟨A88, n89, c90, A93, n94, c95, rfl, hs87, h91, h96⟩ := kFeat.op hR84
        refine L_pu (P_ia Try.underlying52 se52 A1 ad81 n2 c3 (h17.st (.new _ g53)).len i2 rfl hA83 rfl hb80) ?_
        refine L_pu (P_fa fa71_1 (ad81.add (i2.toNat * 4)) ((ad81.add (i2.toNat * 4)).add 1) rfl rfl) ?_
        refine L_pu (P_fa fa68_1 ((ad81.add (i2.toNat * 4)).add 1) (((ad81.add (i2.toNat * 4)).add 1).add 1) rfl rfl) ?_
        refine L_pu (P_ld ag23 cL (((ad81.add (i2.toNat * 4)).add 1).add 1) (.slice A88 n89 c90) rfl ((congrArg w52.cell? (add_add _ _ _)).trans (hcl85 2 _ rfl))) ?_
        refine L_pu (P_move (vi (k3 + 1 + 1)) rfl) ?_
        refine L_call go70 [.slice A88 n89 c90, vi (k3 + 1 + 1)] rfl ((laws_heldPtS.calls w52 hc55.ok ((nth a i2).Shape.Pts) A88 n89 c90 h91 (k3 + 1 + 1) _ H).mono ?_)
        rintro _ w98 ⟨r2, rfl, H, g99⟩
        have hc103 := hc55.k0 g99
        refine L_pu (P_assign (vi r2) rfl) ?_
        refine L_nil ?_
        refine W_seq ?_
        refine W_seq ?_
        refine W_reg ?_
        refine L_pu (P_move (vi r2) rfl) ?_
        refine L_pu (P_cmp r2 0 (decide (r2 < 0)) rfl rfl rfl) ?_
        refine L_nil ?_
        refine W_cond (decide (r2 < 0)) rfl (fun hq104 => ?_) (fun hq104 => ?_)
        · have H := ite_t H hq104
          refine W_seq ?_
          refine W_reg ?_
          refine L_pu (P_assign (vi (-1)) rfl) ?_
          refine L_nil ?_
          refine W_ret ?_
          exact ⟨[vi (-1)], ⟨_, rfl, rfl⟩, (-1), rfl, H, hc103.gr.g0⟩
        · have H := ite_f H hq104
          refine W_skip ?_
          refine W_seq ?_
          refine W_reg ?_
          refine L_pu (P_move (.slice A1 n2 c3) rfl) ?_
          refine L_pu (P_move (vi i2) rfl) ?_
          obtain ⟨hb105, H⟩ := H
          have h112 := ((h17.st (.new _ g53)).st (.new _ g99))
          obtain ⟨ad106, cs107, hA108, hS111, hR109, hcl110⟩ := h112.get default (by decide) i2 hb105
          obtain ⟨A114, n115, c116, A119, n120, c121, rfl, hs113, h117, h122⟩ := kFeat.op hR109
          refine L_pu (P_ia Try.underlying52 se52 A1 ad106 n2 c3 h112.len i2 rfl hA108 rfl hb105) ?_
          refine L_pu (P_fa fa71_2 (ad106.add (i2.toNat * 4)) ((ad106.add (i2.toNat * 4)).add 3) rfl rfl) ?_
          refine L_pu (P_ld ag69 cL ((ad106.add (i2.toNat * 4)).add 3) (.slice A119 n120 c121) rfl (hcl110 3 _ rfl)) ?_
          refine L_pu (P_move (vi r2) rfl) ?_
          refine L_call go71 [.slice A119 n120 c121, vi r2] rfl ((laws_heldTagS.calls w98 hc103.ok ((nth a i2).Tags) A119 n120 c121 h122 r2 _ H).mono ?_)
          rintro _ w124 ⟨r3, rfl, H, g125⟩
          have hc129 := hc103.k0 g125
          refine L_pu (P_assign (vi r3) rfl) ?_
          refine L_nil ?_
          refine W_seq ?_
          refine W_reg ?_
          refine L_pu (P_move (vi r3) rfl) ?_
          refine L_pu (P_cmp r3 0 (decide (r3 < 0)) rfl rfl rfl) ?_
          refine L_nil ?_
          refine W_cond (decide (r3 < 0)) rfl (fun hq130 => ?_) (fun hq130 => ?_)
          · have H := ite_t H hq130
            refine W_seq ?_
            refine W_reg ?_
            refine L_pu (P_assign (vi (-1)) rfl) ?_
            refine L_nil ?_
            refine W_ret ?_
            exact ⟨[vi (-1)], ⟨_, rfl, rfl⟩, (-1), rfl, H, hc129.gr.g0⟩
          · have H := ite_f H hq130
            refine W_skip ?_
            refine W_reg ?_
            refine L_pu (P_move (vi i2) rfl) ?_
            obtain ⟨hb132, H⟩ := H
            have hi131 : I64 (i2 + 1) := i64_succ (of_decide_eq_true hq25) hl24 hb132
            refine L_pu (P_add i2 1 rfl rfl hi131) ?_
            refine L_pu (P_assign (vi (i2 + 1)) rfl) ?_
            refine L_nil ?_
            obtain ⟨hI133, hm134⟩ := H
            exact ⟨(r3, i2 + 1), hm134, hI133, ⟨rfl, rfl, rfl, trivial⟩, hc129, (h112.st (.new _ g125))⟩
  · have H := ite_f H hq25
    refine W_exit (xin_hit ?_)
    refine W_seq ?_
    refine W_reg ?_
    refine L_pu (P_move (vi k3) rfl) ?_
    refine L_pu (P_assign (vi k3) rfl) ?_
    refine L_nil ?_
    refine W_ret ?_
    exact ⟨[vi k3], ⟨_, rfl, rfl⟩, k3, rfl, H, hc16.gr.g0⟩
end Go.Proofs.Ytndjggncgpjolaa

namespace Go.Proofs.Ytndjggncgpjolaa
set_option linter.unusedVariables false
set_option linter.unusedSimpArgs false
set_option linter.unusedSectionVars false
theorem laws_heldFeatS.lawk (a : List Feat) (k : Int) (Q : Int → Prop) (ha : bulk a ≤ 1048576) (h0 : 0 ≤ k) (h1 : k ≤ 500000000) (hq : Q (mkL gFeat a k).2) : laws_heldFeatS.E (mkL gFeat a k).1 k Q := by
  unfold laws_heldFeatS.E
  have hbl := bulk_len a
  rw [mkL_len]
  refine ⟨fun k' i => ∃ u : Nat, i = u ∧ Hd gFeat a k u k', fun _ i => (a.length - i).toNat, ⟨0, rfl, .zero a k⟩, ?_⟩
  rintro k' _ ⟨u, rfl, M⟩
  have hb := M.bd gFeat_bd
  by_cases h : u < a.length
  · rw [if_pos (by simpa using h), M.nth h]
    have hm := bulk_mem (nth_mem a h)
    have hn := M.next h
    have hb1 := bulk_feat (nth a (u : Int))
    have hp := mkL_bd gPt_bd (nth a (u : Int)).Shape.Pts (k' + 2)
    simp only [Int.add_assoc, Int.reduceAdd]
    have ht := mkL_bd gTag_bd (nth a (u : Int)).Tags (mkL gPt (nth a (u : Int)).Shape.Pts (k' + 2)).2
    refine ⟨by omega, tx k', laws_markText.q _ (by omega) (by omega), tx_lim _ (by omega) (by omega), ?_⟩
    rw [if_neg (by simp [gFeat])]
    refine ⟨fun _ => by unfold I64; omega, by omega, ?_⟩
    rw [if_neg (by simp [gFeat])]
    refine ⟨fun _ => by unfold I64; omega, by omega, laws_heldPtS.lawk (nth a (u : Int)).Shape.Pts _ _ (by omega) (by omega) (by omega) ?_⟩
    rw [if_neg (by rw [decide_eq_true_eq]; omega)]
    refine ⟨by omega, laws_heldTagS.lawk (nth a (u : Int)).Tags _ _ (by omega) (by omega) (by omega) ?_⟩
    rw [if_neg (by rw [decide_eq_true_eq]; omega)]
    exact ⟨by omega, ⟨u + 1, by omega, hn⟩, by first | omega | (dsimp only; omega)⟩
  · rw [if_neg (by simpa using h), M.full h]; exact hq
end Go.Proofs.Ytndjggncgpjolaa

namespace Go.Proofs.Ytndjggncgpjolaa
open Go.RowKit
set_option linter.unusedVariables false
def laws_heldCommitS.E (a : List Commit) (k : Int) (Q : Int → Prop) : Prop :=
  (∃ (I18 : Int → Int → Prop) (mu19 : Int → Int → Nat), I18 k 0 ∧ ∀ (k3 : Int) (i2 : Int), I18 k3 i2 → (if decide (i2 < (a.length : Int)) then ((0 : Int) ≤ i2 ∧ i2 < (a.length : Int)) ∧ laws_heldIntS.E ((nth a i2).Up) k3 (fun r => (if decide (r < 0) then Q (-1) else ((0 : Int) ≤ i2 ∧ i2 < (a.length : Int)) ∧ laws_heldFeatS.E ((nth a i2).Sheet) r (fun r2 => (if decide (r2 < 0) then Q (-1) else ((0 : Int) ≤ i2 ∧ i2 < (a.length : Int)) ∧ (∃ q : Str, laws_markText.E r2 (fun x => x = q) ∧ (Lim q) ∧ (if ((nth a i2).Note) != q then Q (-1) else ((a.length : Int) ≤ 9223372036854775807 → I64 (r2 + 1)) ∧ (-9223372036854775808 ≤ i2) ∧ I18 (r2 + 1) (i2 + 1) ∧ mu19 (r2 + 1) (i2 + 1) < mu19 k3 i2)))))) else Q k3))
set_option maxHeartbeats 8000000 in
set_option maxRecDepth 100000 in
theorem laws_heldCommitS.calls {O : Ob} (w0 : World) (hO : Ok w0 O) (a : List Commit) (A1 : Option Addr) (n2 c3 : Nat) (hp4 : Sl kCommit w0 (Fr O) (.slice A1 n2 c3) a) (k : Int) (Q : Int → Prop) (h : laws_heldCommitS.E a k Q) :
    Ret Try.prog 58 [.slice A1 n2 c3, vi k] w0 (fun v w' => ∃ (r0 : Int), v = vi r0 ∧ Q r0 ∧ Gr w0 w' none) := by
  have H : (∃ (I18 : Int → Int → Prop) (mu19 : Int → Int → Nat), I18 k 0 ∧ ∀ (k3 : Int) (i2 : Int), I18 k3 i2 → (if decide (i2 < (a.length : Int)) then ((0 : Int) ≤ i2 ∧ i2 < (a.length : Int)) ∧ laws_heldIntS.E ((nth a i2).Up) k3 (fun r => (if decide (r < 0) then Q (-1) else ((0 : Int) ≤ i2 ∧ i2 < (a.length : Int)) ∧ laws_heldFeatS.E ((nth a i2).Sheet) r (fun r2 => (if decide (r2 < 0) then Q (-1) else ((0 : Int) ≤ i2 ∧ i2 < (a.length : Int)) ∧ (∃ q : Str, laws_markText.E r2 (fun x => x = q) ∧ (Lim q) ∧ (if ((nth a i2).Note) != q then Q (-1) else ((a.length : Int) ≤ 9223372036854775807 → I64 (r2 + 1)) ∧ (-9223372036854775808 ≤ i2) ∧ I18 (r2 + 1) (i2 + 1) ∧ mu19 (r2 + 1) (i2 + 1) < mu19 k3 i2)))))) else Q k3)) := h
  clear h
  have hc0 := Ct.init hO
  refine Ret_enter Try.func58 rfl 41 rfl [.tmp 4] rfl rfl ?_
  refine W_seq ?_
  refine W_reg ?_
  refine L_pu (P_assign (vi 0) rfl) ?_
  refine L_nil ?_
  refine W_seq ?_
  refine W_seq ?_
  refine W_reg ?_
  refine L_pu (P_assign (vi 0) rfl) ?_
  refine L_nil ?_
  refine W_block ?_
  obtain ⟨I18, mu19, hI20, H⟩ := H
  refine W_loop (α := Int × Int) (fun (sv__ : Int × Int) t w14 => match sv__ with | (k3, i2) => I18 k3 i2 ∧ Has t [(0, .slice A1 n2 c3), (1, vi k3), (5, vi i2)] ∧ Ct [] w0 w14 [] O ∧ Sl kCommit w14 (Fr ([] ++ O)) (.slice A1 n2 c3) a) (fun (sv__ : Int × Int) => match sv__ with | (k3, i2) => mu19 k3 i2) (k, 0) ⟨hI20, ⟨rfl, rfl, rfl, trivial⟩, hc0, hp4⟩ ?_
  rintro ⟨k3, i2⟩ _ w14 ⟨hI20, hh22, hc16, h17⟩
  obtain ⟨u23, rfl⟩ := Has.ins hh22
  have H := H k3 i2 hI20
  refine W_seq ?_
  refine W_seq ?_
  refine W_reg ?_
  refine L_pu (P_move (vi i2) rfl) ?_
  refine L_pu (P_move (.slice A1 n2 c3) rfl) ?_
  have hl24 := h17.le
  refine L_pu (P_len Try.underlying32 A1 n2 c3 h17.len rfl) ?_
  refine L_pu (P_cmp i2 (a.length : Int) (decide (i2 < (a.length : Int))) rfl rfl rfl) ?_
  refine L_nil ?_
  refine W_cond (decide (i2 < (a.length : Int))) rfl (fun hq25 => ?_) (fun hq25 => ?_)
  · have H := ite_t H hq25
    refine W_skip ?_
    refine W_seq ?_
    refine W_block ?_
    refine W_seq ?_
    refine W_reg ?_
    refine L_pu (P_move (.slice A1 n2 c3) rfl) ?_
    refine L_pu (P_move (vi i2) rfl) ?_
    obtain ⟨hb26, H⟩ := H
    obtain ⟨ad27, cs28, hA29, hS32, hR30, hcl31⟩ := h17.get default (by decide) i2 hb26
    obtain ⟨A33, n34, c35, A38, n39, c40, rfl, h36, h41, hs43⟩ := kCommit.op hR30
    refine L_pu (P_ia Try.underlying32 se32 A1 ad27 n2 c3 h17.len i2 rfl hA29 rfl hb26) ?_
    refine L_pu (P_fa fa91_0 (ad27.add (i2.toNat * 3)) ((ad27.add (i2.toNat * 3)).add 0) rfl rfl) ?_
    refine L_pu (P_ld ag89 cL ((ad27.add (i2.toNat * 3)).add 0) (.slice A33 n34 c35) rfl (hcl31 0 _ rfl)) ?_
    refine L_pu (P_move (vi k3) rfl) ?_
    refine L_call go116 [.slice A33 n34 c35, vi k3] rfl ((laws_heldIntS.calls w14 hc16.ok ((nth a i2).Up) A33 n34 c35 h36 k3 _ H).mono ?_)
    rintro _ w44 ⟨r, rfl, H, g45⟩
    have hc49 := hc16.k0 g45
    refine L_pu (P_assign (vi r) rfl) ?_
    refine L_nil ?_
    refine W_seq ?_
    refine W_seq ?_
    refine W_reg ?_
    refine L_pu (P_move (vi r) rfl) ?_
    refine L_pu (P_cmp r 0 (decide (r < 0)) rfl rfl rfl) ?_
    refine L_nil ?_
    refine W_cond (decide (r < 0)) rfl (fun hq50 => ?_) (fun hq50 => ?_)
    · have H := ite_t H hq50
      refine W_seq ?_
      refine W_reg ?_
      refine L_pu (P_assign (vi (-1)) rfl) ?_
      refine L_nil ?_
      refine W_ret ?_
      exact ⟨[vi (-1)], ⟨_, rfl, rfl⟩, (-1), rfl, H, hc49.gr.g0⟩
    · have H := ite_f H hq50
      refine W_skip ?_
      refine W_seq ?_
      refine W_reg ?_
      refine L_pu (P_move (.slice A1 n2 c3) rfl) ?_
      refine L_pu (P_move (vi i2) rfl) ?_
      obtain ⟨hb51, H⟩ := H
      obtain ⟨ad52, cs53, hA54, hS57, hR55, hcl56⟩ := (h17.st (.new _ g45)).get default (by decide) i2 hb51
      obtain ⟨A58, n59, c60, A63, n64, c65, rfl, h61, h66, hs68⟩ := kCommit.op hR55
      refine L_pu (P_ia Try.underlying32 se32 A1 ad52 n2 c3 (h17.st (.new _ g45)).len i2 rfl hA54 rfl hb51) ?_
      refine L_pu (P_fa fa91_1 (ad52.add (i2.toNat * 3)) ((ad52.add (i2.toNat * 3)).add 1) rfl rfl) ?_
      refine L_pu (P_ld ag52 cL ((ad52.add (i2.toNat * 3)).add 1) (.slice A63 n64 c65) rfl (hcl56 1 _ rfl)) ?_
      refine L_pu (P_move (vi r) rfl) ?_
      refine L_call go117 [.slice A63 n64 c65, vi r] rfl ((laws_heldFeatS.calls w44 hc49.ok ((nth a i2).Sheet) A63 n64 c65 h66 r _ H).mono ?_)
      rintro _ w69 ⟨r2, rfl, H, g70⟩
      have hc74 := hc49.k0 g70
      refine L_pu (P_assign (vi r2) rfl) ?_
      refine L_nil ?_
      refine W_seq ?_
      refine W_seq ?_
      refine W_reg ?_
      refine L_pu (P_move (vi r2) rfl) ?_
      refine L_pu (P_cmp r2 0 (decide (r2 < 0)) rfl rfl rfl) ?_
      refine L_nil ?_
      refine W_cond (decide (r2 < 0)) rfl (fun hq75 => ?_) (fun hq75 => ?_)
      · have H := ite_t H hq75
        refine W_seq ?_
        refine W_reg ?_
        refine L_pu (P_assign (vi (-1)) rfl) ?_
        refine L_nil ?_
        refine W_ret ?_
        exact ⟨[vi (-1)], ⟨_, rfl, rfl⟩, (-1), rfl, H, hc74.gr.g0⟩
      · have H := ite_f H hq75
        refine W_skip ?_
        refine W_seq ?_
        refine W_seq ?_
        refine W_draw (fun x => Gr w69 x none) (by kernel_rfl) (by kernel_rfl) (Gr.drew _) ?_
        refine Q_pu (P_move (.slice A1 n2 c3) rfl) ?_
        refine Q_pu (P_move (vi i2) rfl) ?_
        obtain ⟨hb76, H⟩ := H
        have h83 := ((h17.st (.new _ g45)).st (.new _ g70))
        obtain ⟨ad77, cs78, hA79, hS82, hR80, hcl81⟩ := h83.get default (by decide) i2 hb76
        obtain ⟨A84, n85, c86, A89, n90, c91, rfl, h87, h92, hs94⟩ := kCommit.op hR80
        refine Q_pu (P_ia Try.underlying32 se32 A1 ad77 n2 c3 h83.len i2 rfl hA79 rfl hb76) ?_
        refine Q_pu (P_fa fa91_2 (ad77.add (i2.toNat * 3)) ((ad77.add (i2.toNat * 3)).add 2) rfl rfl) ?_
        refine Q_pu (P_ld ag9 cQ ((ad77.add (i2.toNat * 3)).add 2) (vs ((nth a i2).Note)) rfl (hcl81 2 _ rfl)) ?_
        refine Q_pu (P_move (vi r2) rfl) ?_
        obtain ⟨q, hE101, hs102, H⟩ := H
        refine Q_call go67 [vi r2] rfl (vs q) (fun w g => (laws_markText.calls w (hc74.k0 g).ok r2 _ hE101).mono ?_) ?_
        · rintro _ w ⟨r, rfl, rfl, g2, _⟩
          exact ⟨rfl, Gr.t0 g g2⟩
        refine Q_pu (P_scmp ((nth a i2).Note) q (((nth a i2).Note) != q) rfl rfl rfl) ?_
        refine Q_nil fun w103 g104 => ?_
        have hc106 := hc74.k0 g104
        refine W_cond (((nth a i2).Note) != q) rfl (fun hq107 => ?_) (fun hq107 => ?_)
        · have H := ite_t H hq107
          refine W_seq ?_
          refine W_reg ?_
          refine L_pu (P_assign (vi (-1)) rfl) ?_
          refine L_nil ?_
          refine W_ret ?_
          exact ⟨[vi (-1)], ⟨_, rfl, rfl⟩, (-1), rfl, H, hc106.gr.g0⟩
        · have H := ite_f H hq107
          refine W_skip ?_
          refine W_reg ?_
          refine L_pu (P_move (vi r2) rfl) ?_
          obtain ⟨hb108, H⟩ := H
          have hi109 := hb108 (len_le hl24)
          refine L_pu (P_add r2 1 rfl rfl hi109) ?_
          refine L_pu (P_assign (vi (r2 + 1)) rfl) ?_
          refine L_nil ?_
          refine W_reg ?_
          refine L_pu (P_move (vi i2) rfl) ?_
          obtain ⟨hb111, H⟩ := H
          have hi110 : I64 (i2 + 1) := i64_succ (of_decide_eq_true hq25) hl24 hb111
          refine L_pu (P_add i2 1 rfl rfl hi110) ?_
          refine L_pu (P_assign (vi (i2 + 1)) rfl) ?_
          refine L_nil ?_
          obtain ⟨hI112, hm113⟩ := H
          exact ⟨(r2 + 1, i2 + 1), hm113, hI112, ⟨rfl, rfl, rfl, trivial⟩, hc106, (h83.st (.new _ g104))⟩
  · have H := ite_f H hq25
    refine W_exit (xin_hit ?_)
    refine W_seq ?_
    refine W_reg ?_
    refine L_pu (P_move (vi k3) rfl) ?_
    refine L_pu (P_assign (vi k3) rfl) ?_
    refine L_nil ?_
    refine W_ret ?_
    exact ⟨[vi k3], ⟨_, rfl, rfl⟩, k3, rfl, H, hc16.gr.g0⟩
end Go.Proofs.Ytndjggncgpjolaa

namespace Go.Proofs.Ytndjggncgpjolaa
set_option linter.unusedVariables false
set_option linter.unusedSimpArgs false
set_option linter.unusedSectionVars false
theorem laws_heldCommitS.lawk (a : List Commit) (k : Int) (Q : Int → Prop) (ha : bulk a ≤ 1048576) (h0 : 0 ≤ k) (h1 : k ≤ 400000000) (hq : Q (mkL gCommit a k).2) : laws_heldCommitS.E (mkL gCommit a k).1 k Q := by
  unfold laws_heldCommitS.E
  have hbl := bulk_len a
  rw [mkL_len]
  refine ⟨fun k' i => ∃ u : Nat, i = u ∧ Hd gCommit a k u k', fun _ i => (a.length - i).toNat, ⟨0, rfl, .zero a k⟩, ?_⟩
  rintro k' _ ⟨u, rfl, M⟩
  have hb := M.bd gCommit_bd
  by_cases h : u < a.length
  · rw [if_pos (by simpa using h), M.nth h]
    have hm := bulk_mem (nth_mem a h)
    have hn := M.next h
    have hc : bulk (nth a (u : Int)) = bulk (nth a (u : Int)).Up + bulk (nth a (u : Int)).Sheet + bulk (nth a (u : Int)).Note := rfl
    have hi := mkL_bd gInt_bd (nth a (u : Int)).Up k'
    have hf := mkL_bd gFeat_bd (nth a (u : Int)).Sheet (mkL gInt (nth a (u : Int)).Up k').2
    refine ⟨by omega, laws_heldIntS.lawk (nth a (u : Int)).Up _ _ (by omega) (by omega) (by omega) ?_⟩
    rw [if_neg (by rw [decide_eq_true_eq]; omega)]
    refine ⟨by omega, laws_heldFeatS.lawk (nth a (u : Int)).Sheet _ _ (by omega) (by omega) (by omega) ?_⟩
    rw [if_neg (by rw [decide_eq_true_eq]; omega)]
    refine ⟨by omega, tx (mkL gFeat (nth a (u : Int)).Sheet (mkL gInt (nth a (u : Int)).Up k').2).2, laws_markText.q _ (by omega) (by omega), tx_lim _ (by omega) (by omega), ?_⟩
    rw [if_neg (by simp [gCommit])]
    exact ⟨fun _ => by unfold I64; omega, by omega, ⟨u + 1, by omega, hn⟩, by first | omega | (dsimp only; omega)⟩
  · rw [if_neg (by simpa using h), M.full h]; exact hq
end Go.Proofs.Ytndjggncgpjolaa

namespace Go.Proofs.Ytndjggncgpjolaa
open Go.RowKit
set_option linter.unusedVariables false
def laws_heldHeadS.E (a : List Head) (k : Int) (Q : Int → Prop) : Prop :=
  (∃ (I18 : Int → Int → Prop) (mu19 : Int → Int → Nat), I18 k 0 ∧ ∀ (k3 : Int) (i2 : Int), I18 k3 i2 → (if decide (i2 < (a.length : Int)) then ((0 : Int) ≤ i2 ∧ i2 < (a.length : Int)) ∧ (∃ q : Str, laws_markText.E k3 (fun x => x = q) ∧ (Lim q) ∧ (if ((nth a i2).Name) != q then Q (-1) else ((a.length : Int) ≤ 9223372036854775807 → I64 (k3 + 1)) ∧ ((0 : Int) ≤ i2 ∧ i2 < (a.length : Int)) ∧ (if ((nth a i2).At) != (k3 + 1) then Q (-1) else ((a.length : Int) ≤ 9223372036854775807 → I64 (k3 + 1 + 1)) ∧ (-9223372036854775808 ≤ i2) ∧ I18 (k3 + 1 + 1) (i2 + 1) ∧ mu19 (k3 + 1 + 1) (i2 + 1) < mu19 k3 i2))) else Q k3))
set_option maxHeartbeats 8000000 in
set_option maxRecDepth 100000 in
theorem laws_heldHeadS.calls {O : Ob} (w0 : World) (hO : Ok w0 O) (a : List Head) (A1 : Option Addr) (n2 c3 : Nat) (hp4 : Sl kHead w0 (Fr O) (.slice A1 n2 c3) a) (k : Int) (Q : Int → Prop) (h : laws_heldHeadS.E a k Q) :
    Ret Try.prog 59 [.slice A1 n2 c3, vi k] w0 (fun v w' => ∃ (r0 : Int), v = vi r0 ∧ Q r0 ∧ Gr w0 w' none) := by
  have H : (∃ (I18 : Int → Int → Prop) (mu19 : Int → Int → Nat), I18 k 0 ∧ ∀ (k3 : Int) (i2 : Int), I18 k3 i2 → (if decide (i2 < (a.length : Int)) then ((0 : Int) ≤ i2 ∧ i2 < (a.length : Int)) ∧ (∃ q : Str, laws_markText.E k3 (fun x => x = q) ∧ (Lim q) ∧ (if ((nth a i2).Name) != q then Q (-1) else ((a.length : Int) ≤ 9223372036854775807 → I64 (k3 + 1)) ∧ ((0 : Int) ≤ i2 ∧ i2 < (a.length : Int)) ∧ (if ((nth a i2).At) != (k3 + 1) then Q (-1) else ((a.length : Int) ≤ 9223372036854775807 → I64 (k3 + 1 + 1)) ∧ (-9223372036854775808 ≤ i2) ∧ I18 (k3 + 1 + 1) (i2 + 1) ∧ mu19 (k3 + 1 + 1) (i2 + 1) < mu19 k3 i2))) else Q k3)) := h
  clear h
  have hc0 := Ct.init hO
  refine Ret_enter Try.func59 rfl 32 rfl [.tmp 4] rfl rfl ?_
  refine W_seq ?_
  refine W_reg ?_
  refine L_pu (P_assign (vi 0) rfl) ?_
  refine L_nil ?_
  refine W_seq ?_
  refine W_seq ?_
  refine W_reg ?_
  refine L_pu (P_assign (vi 0) rfl) ?_
  refine L_nil ?_
  refine W_block ?_
  obtain ⟨I18, mu19, hI20, H⟩ := H
  refine W_loop (α := Int × Int) (fun (sv__ : Int × Int) t w14 => match sv__ with | (k3, i2) => I18 k3 i2 ∧ Has t [(0, .slice A1 n2 c3), (1, vi k3), (5, vi i2)] ∧ Ct [] w0 w14 [] O ∧ Sl kHead w14 (Fr ([] ++ O)) (.slice A1 n2 c3) a) (fun (sv__ : Int × Int) => match sv__ with | (k3, i2) => mu19 k3 i2) (k, 0) ⟨hI20, ⟨rfl, rfl, rfl, trivial⟩, hc0, hp4⟩ ?_
  rintro ⟨k3, i2⟩ _ w14 ⟨hI20, hh22, hc16, h17⟩
  obtain ⟨u23, rfl⟩ := Has.ins hh22
  have H := H k3 i2 hI20
  refine W_seq ?_
  refine W_seq ?_
  refine W_reg ?_
  refine L_pu (P_move (vi i2) rfl) ?_
  refine L_pu (P_move (.slice A1 n2 c3) rfl) ?_
  have hl24 := h17.le
  refine L_pu (P_len Try.underlying33 A1 n2 c3 h17.len rfl) ?_
  refine L_pu (P_cmp i2 (a.length : Int) (decide (i2 < (a.length : Int))) rfl rfl rfl) ?_
  refine L_nil ?_
  refine W_cond (decide (i2 < (a.length : Int))) rfl (fun hq25 => ?_) (fun hq25 => ?_)
  · have H := ite_t H hq25
    refine W_skip ?_
    refine W_seq ?_
    refine W_block ?_
    refine W_seq ?_
    refine W_seq ?_
    refine W_draw (fun x => Gr w14 x none) (by kernel_rfl) (by kernel_rfl) (Gr.drew _) ?_
    refine Q_pu (P_move (.slice A1 n2 c3) rfl) ?_
    refine Q_pu (P_move (vi i2) rfl) ?_
    obtain ⟨hb26, H⟩ := H
    obtain ⟨ad27, cs28, hA29, hS32, hR30, hcl31⟩ := h17.get default (by decide) i2 hb26
    obtain ⟨rfl, hs33⟩ := kHead.op hR30
    refine Q_pu (P_ia Try.underlying33 se33 A1 ad27 n2 c3 h17.len i2 rfl hA29 rfl hb26) ?_
    refine Q_pu (P_fa fa93_0 (ad27.add (i2.toNat * 2)) ((ad27.add (i2.toNat * 2)).add 0) rfl rfl) ?_
    refine Q_pu (P_ld ag9 cQ ((ad27.add (i2.toNat * 2)).add 0) (vs ((nth a i2).Name)) rfl (hcl31 0 _ rfl)) ?_
    refine Q_pu (P_move (vi k3) rfl) ?_
    obtain ⟨q, hE40, hs41, H⟩ := H
    refine Q_call go67 [vi k3] rfl (vs q) (fun w g => (laws_markText.calls w (hc16.k0 g).ok k3 _ hE40).mono ?_) ?_
    · rintro _ w ⟨r, rfl, rfl, g2, _⟩
      exact ⟨rfl, Gr.t0 g g2⟩
    refine Q_pu (P_scmp ((nth a i2).Name) q (((nth a i2).Name) != q) rfl rfl rfl) ?_
    refine Q_nil fun w42 g43 => ?_
    have hc45 := hc16.k0 g43
    refine W_cond (((nth a i2).Name) != q) rfl (fun hq46 => ?_) (fun hq46 => ?_)
    · have H := ite_t H hq46
      refine W_seq ?_
      refine W_reg ?_
      refine L_pu (P_assign (vi (-1)) rfl) ?_
      refine L_nil ?_
      refine W_ret ?_
      exact ⟨[vi (-1)], ⟨_, rfl, rfl⟩, (-1), rfl, H, hc45.gr.g0⟩
    · have H := ite_f H hq46
      refine W_skip ?_
      refine W_seq ?_
      refine W_reg ?_
      refine L_pu (P_move (vi k3) rfl) ?_
      obtain ⟨hb47, H⟩ := H
      have hi48 := hb47 (len_le hl24)
      refine L_pu (P_add k3 1 rfl rfl hi48) ?_
      refine L_pu (P_assign (vi (k3 + 1)) rfl) ?_
      refine L_nil ?_
      refine W_seq ?_
      refine W_seq ?_
      refine W_reg ?_
      refine L_pu (P_move (.slice A1 n2 c3) rfl) ?_
      refine L_pu (P_move (vi i2) rfl) ?_
      obtain ⟨hb49, H⟩ := H
      obtain ⟨ad50, cs51, hA52, hS55, hR53, hcl54⟩ := (h17.st (.new _ g43)).get default (by decide) i2 hb49
      obtain ⟨rfl, hs56⟩ := kHead.op hR53
      refine L_pu (P_ia Try.underlying33 se33 A1 ad50 n2 c3 (h17.st (.new _ g43)).len i2 rfl hA52 rfl hb49) ?_
      refine L_pu (P_fa fa93_1 (ad50.add (i2.toNat * 2)) ((ad50.add (i2.toNat * 2)).add 1) rfl rfl) ?_
      refine L_pu (P_ld ag3 cL ((ad50.add (i2.toNat * 2)).add 1) (vi ((nth a i2).At)) rfl (hcl54 1 _ rfl)) ?_
      refine L_pu (P_move (vi (k3 + 1)) rfl) ?_
      refine L_pu (P_cmp ((nth a i2).At) (k3 + 1) (((nth a i2).At) != (k3 + 1)) rfl rfl rfl) ?_
      refine L_nil ?_
      refine W_cond (((nth a i2).At) != (k3 + 1)) rfl (fun hq57 => ?_) (fun hq57 => ?_)
      · have H := ite_t H hq57
        refine W_seq ?_
        refine W_reg ?_
        refine L_pu (P_assign (vi (-1)) rfl) ?_
        refine L_nil ?_
        refine W_ret ?_
        exact ⟨[vi (-1)], ⟨_, rfl, rfl⟩, (-1), rfl, H, hc45.gr.g0⟩
      · have H := ite_f H hq57
        refine W_skip ?_
        refine W_reg ?_
        refine L_pu (P_move (vi (k3 + 1)) rfl) ?_
        obtain ⟨hb58, H⟩ := H
        have hi59 := hb58 (len_le hl24)
        refine L_pu (P_add (k3 + 1) 1 rfl rfl hi59) ?_
        refine L_pu (P_assign (vi (k3 + 1 + 1)) rfl) ?_
        refine L_nil ?_
        refine W_reg ?_
        refine L_pu (P_move (vi i2) rfl) ?_
        obtain ⟨hb61, H⟩ := H
        have hi60 : I64 (i2 + 1) := i64_succ (of_decide_eq_true hq25) hl24 hb61
        refine L_pu (P_add i2 1 rfl rfl hi60) ?_
        refine L_pu (P_assign (vi (i2 + 1)) rfl) ?_
        refine L_nil ?_
        obtain ⟨hI62, hm63⟩ := H
        exact ⟨(k3 + 1 + 1, i2 + 1), hm63, hI62, ⟨rfl, rfl, rfl, trivial⟩, hc45, (h17.st (.new _ g43))⟩
  · have H := ite_f H hq25
    refine W_exit (xin_hit ?_)
    refine W_seq ?_
    refine W_reg ?_
    refine L_pu (P_move (vi k3) rfl) ?_
    refine L_pu (P_assign (vi k3) rfl) ?_
    refine L_nil ?_
    refine W_ret ?_
    exact ⟨[vi k3], ⟨_, rfl, rfl⟩, k3, rfl, H, hc16.gr.g0⟩
end Go.Proofs.Ytndjggncgpjolaa

namespace Go.Proofs.Ytndjggncgpjolaa
set_option linter.unusedVariables false
set_option linter.unusedSimpArgs false
set_option linter.unusedSectionVars false
theorem laws_heldHeadS.lawk (a : List Head) (k : Int) (Q : Int → Prop) (ha : bulk a ≤ 1048576) (h0 : 0 ≤ k) (h1 : k ≤ 1000000000) (hq : Q (mkL gHead a k).2) : laws_heldHeadS.E (mkL gHead a k).1 k Q := by
  unfold laws_heldHeadS.E
  have hbl := bulk_len a
  rw [mkL_len]
  refine ⟨fun k' i => ∃ u : Nat, i = u ∧ Hd gHead a k u k', fun _ i => (a.length - i).toNat, ⟨0, rfl, .zero a k⟩, ?_⟩
  rintro k' _ ⟨u, rfl, M⟩
  have hb := M.bd gHead_bd
  by_cases h : u < a.length
  · rw [if_pos (by simpa using h), M.nth h]
    have hm := bulk_mem (nth_mem a h)
    have hn := M.next h
    refine ⟨by omega, tx k', laws_markText.q _ (by omega) (by omega), tx_lim _ (by omega) (by omega), ?_⟩
    rw [if_neg (by simp [gHead])]
    refine ⟨fun _ => by unfold I64; omega, by omega, ?_⟩
    rw [if_neg (by simp [gHead])]
    refine ⟨fun _ => by unfold I64; omega, by omega, ⟨u + 1, by omega, ?_⟩, by dsimp only; omega⟩
    rw [show k' + 1 + 1 = (gHead (nth a (u : Int)) k').2 by simp [gHead]; omega]; exact hn
  · rw [if_neg (by simpa using h), M.full h]; exact hq
end Go.Proofs.Ytndjggncgpjolaa

namespace Go.Proofs.Ytndjggncgpjolaa
open Go.RowKit
set_option linter.unusedVariables false
def laws_heldRepo.E (a : Repo) (k : Int) (Q : Int → Prop) : Prop :=
  laws_heldCommitS.E a.Commits k (fun r => (if decide (r < 0) then Q (-1) else laws_heldHeadS.E a.Heads r (fun r2 => (if decide (r2 < 0) then Q (-1) else Q r2))))
set_option maxHeartbeats 8000000 in
set_option maxRecDepth 100000 in
theorem laws_heldRepo.calls {O : Ob} (w0 : World) (hO : Ok w0 O) (a : Repo) (A1 : Option Addr) (n2 c3 : Nat) (A6 : Option Addr) (n7 c8 : Nat) (hp4 : Sl kCommit w0 (Fr O) (.slice A1 n2 c3) a.Commits) (hp9 : Sl kHead w0 (Fr O) (.slice A6 n7 c8) a.Heads) (k : Int) (Q : Int → Prop) (h : laws_heldRepo.E a k Q) :
    Ret Try.prog 17 [.agg #[.slice A1 n2 c3, .slice A6 n7 c8], vi k] w0 (fun v w' => ∃ (r0 : Int), v = vi r0 ∧ Q r0 ∧ Gr w0 w' none) := by
  have H : laws_heldCommitS.E a.Commits k (fun r => (if decide (r < 0) then Q (-1) else laws_heldHeadS.E a.Heads r (fun r2 => (if decide (r2 < 0) then Q (-1) else Q r2)))) := h
  clear h
  have hc0 := Ct.init hO
  refine Ret_enter Try.func17 rfl 18 rfl [.tmp 4] rfl rfl ?_
  refine W_seq ?_
  refine W_reg ?_
  refine L_box [.slice A1 n2 c3, .slice A6 n7 c8] rfl fun w11 b12 hl14 hu15 g13 hx16 => ?_
  have h18 := Fb.mk hc0.ok hl14 hx16
  have hc19 := hc0.k0 g13
  refine L_pu (P_assign (vi 0) rfl) ?_
  refine L_nil ?_
  refine W_seq ?_
  refine W_reg ?_
  refine L_pu (P_fa fa35_0 ⟨b12, 0, none⟩ ⟨b12, 0, none⟩ rfl rfl) ?_
  refine L_pu (P_ld ag32 cL ⟨b12, 0, none⟩ (.slice A1 n2 c3) rfl (h18.cell rfl)) ?_
  refine L_pu (P_move (vi k) rfl) ?_
  refine L_call go58 [.slice A1 n2 c3, vi k] rfl ((laws_heldCommitS.calls w11 hc19.ok a.Commits A1 n2 c3 (hp4.st hc19.st) k _ H).mono ?_)
  rintro _ w20 ⟨r, rfl, H, g21⟩
  have hc25 := hc19.k0 g21
  refine L_pu (P_assign (vi r) rfl) ?_
  refine L_nil ?_
  refine W_seq ?_
  refine W_seq ?_
  refine W_reg ?_
  refine L_pu (P_move (vi r) rfl) ?_
  refine L_pu (P_cmp r 0 (decide (r < 0)) rfl rfl rfl) ?_
  refine L_nil ?_
  refine W_cond (decide (r < 0)) rfl (fun hq26 => ?_) (fun hq26 => ?_)
  · have H := ite_t H hq26
    refine W_seq ?_
    refine W_reg ?_
    refine L_pu (P_assign (vi (-1)) rfl) ?_
    refine L_nil ?_
    refine W_ret ?_
    exact ⟨[vi (-1)], ⟨_, rfl, rfl⟩, (-1), rfl, H, hc25.gr.g0⟩
  · have H := ite_f H hq26
    refine W_skip ?_
    refine W_seq ?_
    refine W_reg ?_
    refine L_pu (P_fa fa35_1 ⟨b12, 0, none⟩ ⟨b12, 1, none⟩ rfl rfl) ?_
    have h27 := (h18.st (.new _ g21))
    refine L_pu (P_ld ag33 cL ⟨b12, 1, none⟩ (.slice A6 n7 c8) rfl (h27.cell rfl)) ?_
    refine L_pu (P_move (vi r) rfl) ?_
    refine L_call go59 [.slice A6 n7 c8, vi r] rfl ((laws_heldHeadS.calls w20 hc25.ok a.Heads A6 n7 c8 (hp9.st hc25.st) r _ H).mono ?_)
    rintro _ w28 ⟨r2, rfl, H, g29⟩
    have hc33 := hc25.k0 g29
    refine L_pu (P_assign (vi r2) rfl) ?_
    refine L_nil ?_
    refine W_seq ?_
    refine W_seq ?_
    refine W_reg ?_
    refine L_pu (P_move (vi r2) rfl) ?_
    refine L_pu (P_cmp r2 0 (decide (r2 < 0)) rfl rfl rfl) ?_
    refine L_nil ?_
    refine W_cond (decide (r2 < 0)) rfl (fun hq34 => ?_) (fun hq34 => ?_)
    · have H := ite_t H hq34
      refine W_seq ?_
      refine W_reg ?_
      refine L_pu (P_assign (vi (-1)) rfl) ?_
      refine L_nil ?_
      refine W_ret ?_
      exact ⟨[vi (-1)], ⟨_, rfl, rfl⟩, (-1), rfl, H, hc33.gr.g0⟩
    · have H := ite_f H hq34
      refine W_skip ?_
      refine W_seq ?_
      refine W_reg ?_
      refine L_pu (P_move (vi r2) rfl) ?_
      refine L_pu (P_assign (vi r2) rfl) ?_
      refine L_nil ?_
      refine W_ret ?_
      exact ⟨[vi r2], ⟨_, rfl, rfl⟩, r2, rfl, H, hc33.gr.g0⟩
end Go.Proofs.Ytndjggncgpjolaa

namespace Go.Proofs.Ytndjggncgpjolaa
set_option linter.unusedVariables false
set_option linter.unusedSimpArgs false
set_option linter.unusedSectionVars false
theorem laws_heldRepo.lawk (a : Repo) (k : Int) (Q : Int → Prop) (ha : bulk a ≤ 1048576) (h0 : 0 ≤ k) (h1 : k ≤ 400000000)
    (hq : Q (mkL gHead a.Heads (mkL gCommit a.Commits k).2).2) : laws_heldRepo.E ⟨(mkL gCommit a.Commits k).1, (mkL gHead a.Heads (mkL gCommit a.Commits k).2).1⟩ k Q := by
  have hb : bulk a = bulk a.Commits + bulk a.Heads := rfl
  have h2 := mkL_bd gCommit_bd a.Commits k
  have h3 := mkL_bd gHead_bd a.Heads (mkL gCommit a.Commits k).2
  unfold laws_heldRepo.E
  refine laws_heldCommitS.lawk a.Commits _ _ (by omega) h0 h1 ?_
  rw [if_neg (by rw [decide_eq_true_eq]; omega)]
  refine laws_heldHeadS.lawk a.Heads _ _ (by omega) (by omega) (by omega) ?_
  rw [if_neg (by rw [decide_eq_true_eq]; omega)]
  exact hq
end Go.Proofs.Ytndjggncgpjolaa

namespace Go.Proofs.Ytndjggncgpjolaa
open Go.RowKit
set_option linter.unusedVariables false
def laws_FnExactRepoNew.E (aName : Str) (Q : Bool → Prop) : Prop :=
  (if decide ((aName.length : Int) > 1048576) then Q true else spec_RepoNew.E aName (fun r r2 => impl_RepoNew.E aName (fun r3 r4 => laws_eqRepo.E r3 r (fun r5 => (if !r5 then Q false else (if r4 != r2 then Q false else laws_markRepo.E r3 1 (fun r6 m m2 => laws_heldRepo.E (⟨m, m2⟩ : Repo) 1 (fun r7 => (if decide (r7 < 0) then Q false else (if r7 != r6 then Q false else impl_RepoNew.E aName (fun r8 r9 => laws_eqRepo.E r8 r (fun r10 => (if !r10 then Q false else (if r9 != r2 then Q false else laws_heldRepo.E (⟨m, m2⟩ : Repo) 1 (fun r11 => (if decide (r11 < 0) then Q false else (if r11 != r6 then Q false else Q true)))))))))))))))))
set_option maxHeartbeats 8000000 in
set_option maxRecDepth 100000 in
theorem laws_FnExactRepoNew.calls {O : Ob} (w0 : World) (hO : Ok w0 O) (aName : Str) (hs1 : Lim aName) (Q : Bool → Prop) (h : laws_FnExactRepoNew.E aName Q) :
    Ret Try.prog 4 [vs aName] w0 (fun v w' => ∃ (r0 : Bool), v = vb r0 ∧ Q r0 ∧ Gr w0 w' none) := by
  have H : (if decide ((aName.length : Int) > 1048576) then Q true else spec_RepoNew.E aName (fun r r2 => impl_RepoNew.E aName (fun r3 r4 => laws_eqRepo.E r3 r (fun r5 => (if !r5 then Q false else (if r4 != r2 then Q false else laws_markRepo.E r3 1 (fun r6 m m2 => laws_heldRepo.E (⟨m, m2⟩ : Repo) 1 (fun r7 => (if decide (r7 < 0) then Q false else (if r7 != r6 then Q false else impl_RepoNew.E aName (fun r8 r9 => laws_eqRepo.E r8 r (fun r10 => (if !r10 then Q false else (if r9 != r2 then Q false else laws_heldRepo.E (⟨m, m2⟩ : Repo) 1 (fun r11 => (if decide (r11 < 0) then Q false else (if r11 != r6 then Q false else Q true))))))))))))))))) := h
  clear h
  have hc0 := Ct.init hO
  refine Ret_enter Try.func4 rfl 66 rfl [.tmp 2] rfl rfl ?_
  refine W_seq ?_
  refine W_reg ?_
  refine L_pu (P_assign (vb false) rfl) ?_
  refine L_nil ?_
  refine W_seq ?_
  refine W_seq ?_
  refine W_reg ?_
  refine L_pu (P_move (vs aName) rfl) ?_
  have hl2 := hs1
  refine L_pu (P_lens Try.underlying9 aName rfl) ?_
  refine L_pu (P_cmp (aName.length : Int) 1048576 (decide ((aName.length : Int) > 1048576)) rfl rfl rfl) ?_
  refine L_nil ?_
  refine W_cond (decide ((aName.length : Int) > 1048576)) rfl (fun hq3 => ?_) (fun hq3 => ?_)
  · have H := ite_t H hq3
    refine W_seq ?_
    refine W_reg ?_
    refine L_pu (P_assign (vb true) rfl) ?_
    refine L_nil ?_
    refine W_ret ?_
    exact ⟨[vb true], ⟨_, rfl, rfl⟩, true, rfl, H, hc0.gr.g0⟩
  · have H := ite_f H hq3
    refine W_skip ?_
    refine W_seq ?_
    refine W_reg ?_
    refine L_pu (P_move (vs aName) rfl) ?_
    refine L_call go13 [vs aName] rfl ((spec_RepoNew.calls w0 hc0.ok aName hs1 _ H).mono ?_)
    rintro _ w4 ⟨r, r2, A6, n7, c8, A11, n12, c13, rfl, H, g5, hk17, hk18, h9, h14⟩
    have hc19 := hc0.owns g5 hk17 hk18
    refine L_pu (P_move (.tuple #[.agg #[.slice A6 n7 c8, .slice A11 n12 c13], vb r2]) rfl) ?_
    refine L_pu (P_ext [.agg #[.slice A6 n7 c8, .slice A11 n12 c13], vb r2] 0 (.agg #[.slice A6 n7 c8, .slice A11 n12 c13]) rfl rfl) ?_
    refine L_pu (P_ext [.agg #[.slice A6 n7 c8, .slice A11 n12 c13], vb r2] 1 (vb r2) rfl rfl) ?_
    refine L_alloc [.slice none 0 0, .slice none 0 0] ze35 fun w20 b21 hl23 hu24 g22 hx25 => ?_
    have hc27 := hc19.own g22 (some b21) (oglt hl23 hu24)
    refine L_stb b21 0 [.slice none 0 0, .slice none 0 0] [.slice A6 n7 c8, .slice A11 n12 c13] [.slice A6 n7 c8, .slice A11 n12 c13] rfl hx25 rfl sz35 rfl rfl rfl fun w28 g29 hx30 => ?_
    have hc31 := hc27.wr 0 rfl g29
    refine L_pu (P_assign (vb r2) rfl) ?_
    refine L_nil ?_
    refine W_seq ?_
    refine W_reg ?_
    refine L_pu (P_move (vs aName) rfl) ?_
    refine L_call go14 [vs aName] rfl ((impl_RepoNew.calls w28 hc31.ok aName hs1 _ H).mono ?_)
    rintro _ w32 ⟨r3, r4, A34, n35, c36, q39, ra40, A42, n43, c44, rfl, H, g33, hk48, hk49, h37, hd41, h45⟩
    have hc50 := hc31.owns g33 hk48 hk49
    have hp51 : (((blk (.slice A34 n35 c36) :: blk (.slice A42 n43 c44) :: (q39 ++ [])) ++ [some b21, blk (.slice A6 n7 c8), blk (.slice A11 n12 c13)]) : Ob).Perm (blk (.slice A34 n35 c36) :: blk (.slice A42 n43 c44) :: some b21 :: blk (.slice A6 n7 c8) :: blk (.slice A11 n12 c13) :: (q39 ++ [])) := (by rw [List.perm_iff_count]; intro a; (try simp only [List.count_append, List.count_cons, List.count_nil, Nat.add_zero, Nat.zero_add]); first | done | ac_rfl)
    have hc52 := hc50.perm hp51
    refine L_pu (P_move (.tuple #[.agg #[.slice A34 n35 c36, .slice A42 n43 c44], vb r4]) rfl) ?_
    refine L_pu (P_ext [.agg #[.slice A34 n35 c36, .slice A42 n43 c44], vb r4] 0 (.agg #[.slice A34 n35 c36, .slice A42 n43 c44]) rfl rfl) ?_
    refine L_pu (P_ext [.agg #[.slice A34 n35 c36, .slice A42 n43 c44], vb r4] 1 (vb r4) rfl rfl) ?_
    refine L_alloc [.slice none 0 0, .slice none 0 0] ze35 fun w53 b54 hl56 hu57 g55 hx58 => ?_
    have hc60 := hc52.own g55 (some b54) (oglt hl56 hu57)
    refine L_stb b54 0 [.slice none 0 0, .slice none 0 0] [.slice A34 n35 c36, .slice A42 n43 c44] [.slice A34 n35 c36, .slice A42 n43 c44] rfl hx58 rfl sz35 rfl rfl rfl fun w61 g62 hx63 => ?_
    have hc64 := hc60.wr 0 rfl g62
    refine L_pu (P_assign (vb r4) rfl) ?_
    refine L_nil ?_
    refine W_seq ?_
    refine W_seq ?_
    refine W_reg ?_
    refine L_pu (P_lda ag35 sz35 cL ⟨b54, 0, none⟩ [.slice A34 n35 c36, .slice A42 n43 c44] rfl rfl (hx63.cells (off := 0) rfl)) ?_
    have h65 := (Bx.sm (L := (some b54 :: blk (.slice A34 n35 c36) :: blk (.slice A42 n43 c44) :: some b21 :: blk (.slice A6 n7 c8) :: blk (.slice A11 n12 c13) :: (q39 ++ []))) (O := O) ((hx30.k0 g33).k0 g55) hc60 (i := 3) rfl (j := 0) rfl (by decide) g62)
    refine L_pu (P_lda ag35 sz35 cL ⟨b21, 0, none⟩ [.slice A6 n7 c8, .slice A11 n12 c13] rfl rfl (h65.cells (off := 0) rfl)) ?_
    have h66 := (Ow.sw (L := (some b54 :: blk (.slice A34 n35 c36) :: blk (.slice A42 n43 c44) :: some b21 :: blk (.slice A6 n7 c8) :: blk (.slice A11 n12 c13) :: (q39 ++ []))) (O := O) ((Ow.spa (A := (blk (.slice A34 n35 c36) :: blk (.slice A42 n43 c44) :: (q39 ++ []))) (L := [some b21, blk (.slice A6 n7 c8), blk (.slice A11 n12 c13)]) (O := O) h37 hp51).so _ g55 (oge hl56)) hc60 (i := 1) rfl (j := 0) rfl (by decide) g62)
    have hd67 := (DArr.sm (L := (some b54 :: blk (.slice A34 n35 c36) :: blk (.slice A42 n43 c44) :: some b21 :: blk (.slice A6 n7 c8) :: blk (.slice A11 n12 c13) :: (q39 ++ []))) (O := O) (i := 0) (hd41.k0 g55) hc60 rfl (fun b hb => (List.mem_cons_of_mem _ (List.mem_cons_of_mem _ (List.mem_cons_of_mem _ (List.mem_cons_of_mem _ (List.mem_cons_of_mem _ (List.mem_append_left _ hb))))))) g62)
    have hp71 : ((some b54 :: blk (.slice A34 n35 c36) :: blk (.slice A42 n43 c44) :: some b21 :: blk (.slice A6 n7 c8) :: blk (.slice A11 n12 c13) :: (q39 ++ [])) : Ob).Perm (blk (.slice A34 n35 c36) :: (q39 ++ [some b54, blk (.slice A42 n43 c44), some b21, blk (.slice A6 n7 c8), blk (.slice A11 n12 c13)])) := (by rw [List.perm_iff_count]; intro a; (try simp only [List.count_append, List.count_cons, List.count_nil, Nat.add_zero, Nat.zero_add]); first | done | ac_rfl)
    obtain ⟨h68, hc69, s70⟩ := Dp.gv (L := (some b54 :: blk (.slice A34 n35 c36) :: blk (.slice A42 n43 c44) :: some b21 :: blk (.slice A6 n7 c8) :: blk (.slice A11 n12 c13) :: (q39 ++ []))) (O := O) h66 hd67 hc64 hp71
    have h74 := (Ow.drops (L := (some b54 :: blk (.slice A34 n35 c36) :: blk (.slice A42 n43 c44) :: some b21 :: blk (.slice A6 n7 c8) :: blk (.slice A11 n12 c13) :: (q39 ++ []))) (O := O) (rs := blk (.slice A34 n35 c36) :: q39) (Ow.sw (L := (some b54 :: blk (.slice A34 n35 c36) :: blk (.slice A42 n43 c44) :: some b21 :: blk (.slice A6 n7 c8) :: blk (.slice A11 n12 c13) :: (q39 ++ []))) (O := O) ((Ow.spa (A := (blk (.slice A34 n35 c36) :: blk (.slice A42 n43 c44) :: (q39 ++ []))) (L := [some b21, blk (.slice A6 n7 c8), blk (.slice A11 n12 c13)]) (O := O) h45 hp51).so _ g55 (oge hl56)) hc60 (i := 2) rfl (j := 0) rfl (by decide) g62) hp71 (memi 1 rfl))
    have h75 := Ow.gv (L := [some b54, blk (.slice A42 n43 c44), some b21, blk (.slice A6 n7 c8), blk (.slice A11 n12 c13)]) (O := O) h74 hc69 (i := 1) rfl
    have hc76 := hc69.drop 1 rfl
    have h78 := (Ow.sd (L := [some b54, blk (.slice A42 n43 c44), some b21, blk (.slice A6 n7 c8), blk (.slice A11 n12 c13)]) (O := O) (Ow.drops (L := (some b54 :: blk (.slice A34 n35 c36) :: blk (.slice A42 n43 c44) :: some b21 :: blk (.slice A6 n7 c8) :: blk (.slice A11 n12 c13) :: (q39 ++ []))) (O := O) (rs := blk (.slice A34 n35 c36) :: q39) (Ow.sw (L := (some b54 :: blk (.slice A34 n35 c36) :: blk (.slice A42 n43 c44) :: some b21 :: blk (.slice A6 n7 c8) :: blk (.slice A11 n12 c13) :: (q39 ++ []))) (O := O) ((Ow.spa (A := (blk (.slice A34 n35 c36) :: blk (.slice A42 n43 c44) :: (q39 ++ []))) (L := [some b21, blk (.slice A6 n7 c8), blk (.slice A11 n12 c13)]) (O := O) ((Ow.sw (L := [some b21, blk (.slice A6 n7 c8), blk (.slice A11 n12 c13)]) (O := O) (h9.so _ g22 (oge hl23)) hc27 (i := 1) rfl (j := 0) rfl (by decide) g29).sos g33 hk49) hp51).so _ g55 (oge hl56)) hc60 (i := 4) rfl (j := 0) rfl (by decide) g62) hp71 (memi 3 rfl)) (i := 3) rfl (j := 1) rfl (by decide))
    have h79 := Ow.gv (L := [some b54, some b21, blk (.slice A6 n7 c8), blk (.slice A11 n12 c13)]) (O := O) h78 hc76 (i := 2) rfl
    have hc80 := hc76.drop 2 rfl
    have h82 := (Ow.sd (L := [some b54, some b21, blk (.slice A6 n7 c8), blk (.slice A11 n12 c13)]) (O := O) (Ow.sd (L := [some b54, blk (.slice A42 n43 c44), some b21, blk (.slice A6 n7 c8), blk (.slice A11 n12 c13)]) (O := O) (Ow.drops (L := (some b54 :: blk (.slice A34 n35 c36) :: blk (.slice A42 n43 c44) :: some b21 :: blk (.slice A6 n7 c8) :: blk (.slice A11 n12 c13) :: (q39 ++ []))) (O := O) (rs := blk (.slice A34 n35 c36) :: q39) (Ow.sw (L := (some b54 :: blk (.slice A34 n35 c36) :: blk (.slice A42 n43 c44) :: some b21 :: blk (.slice A6 n7 c8) :: blk (.slice A11 n12 c13) :: (q39 ++ []))) (O := O) ((Ow.spa (A := (blk (.slice A34 n35 c36) :: blk (.slice A42 n43 c44) :: (q39 ++ []))) (L := [some b21, blk (.slice A6 n7 c8), blk (.slice A11 n12 c13)]) (O := O) ((Ow.sw (L := [some b21, blk (.slice A6 n7 c8), blk (.slice A11 n12 c13)]) (O := O) (h14.so _ g22 (oge hl23)) hc27 (i := 2) rfl (j := 0) rfl (by decide) g29).sos g33 hk49) hp51).so _ g55 (oge hl56)) hc60 (i := 5) rfl (j := 0) rfl (by decide) g62) hp71 (memi 4 rfl)) (i := 4) rfl (j := 1) rfl (by decide)) (i := 3) rfl (j := 2) rfl (by decide))
    have h83 := Ow.gv (L := [some b54, some b21, blk (.slice A11 n12 c13)]) (O := O) h82 hc80 (i := 2) rfl
    have hc84 := hc80.drop 2 rfl
    have h86 := (((h68.st (.dr _ (L := [some b54, blk (.slice A42 n43 c44), some b21, blk (.slice A6 n7 c8), blk (.slice A11 n12 c13)]) (O := O) (j := 1) rfl)).st (.dr _ (L := [some b54, some b21, blk (.slice A6 n7 c8), blk (.slice A11 n12 c13)]) (O := O) (j := 2) rfl)).st (.dr _ (L := [some b54, some b21, blk (.slice A11 n12 c13)]) (O := O) (j := 2) rfl))
    have h87 := ((h75.st (.dr _ (L := [some b54, some b21, blk (.slice A6 n7 c8), blk (.slice A11 n12 c13)]) (O := O) (j := 2) rfl)).st (.dr _ (L := [some b54, some b21, blk (.slice A11 n12 c13)]) (O := O) (j := 2) rfl))
    have h88 := (h79.st (.dr _ (L := [some b54, some b21, blk (.slice A11 n12 c13)]) (O := O) (j := 2) rfl))
    refine L_call go15 [.agg #[.slice A34 n35 c36, .slice A42 n43 c44], .agg #[.slice A6 n7 c8, .slice A11 n12 c13]] rfl ((laws_eqRepo.calls w61 hc84.ok r3 A34 n35 c36 A42 n43 c44 h86 h87 r A6 n7 c8 A11 n12 c13 h88 h83 _ H).mono ?_)
    rintro _ w89 ⟨r5, rfl, H, g90⟩
    have hc94 := hc64.k0 g90
    refine L_pu (P_not r5 rfl) ?_
    refine L_pu (P_move (vb (!r5)) rfl) ?_
    rcases bool_or (!r5) with hq95 | hq95
    · have H := ite_t H hq95
      refine L_pass (dj := 28) rfl rfl (.inl (by exact congrArg Value.bool hq95)) ?_
      refine L_pass (dj := 28) rfl rfl (.inl (by exact congrArg Value.bool hq95)) ?_
      refine L_pass (dj := 28) rfl rfl (.inl (by exact congrArg Value.bool hq95)) ?_
      refine L_pu (P_pick true (vb true) (by exact congrArg Value.bool hq95) rfl) ?_
      refine L_nil ?_
      refine W_ct (b := true) rfl rfl ?_
      refine W_seq ?_
      refine W_reg ?_
      refine L_pu (P_assign (vb false) rfl) ?_
      refine L_nil ?_
      refine W_ret ?_
      have hc96 := hc94.drop 0 rfl
      have hp97 : ((blk (.slice A34 n35 c36) :: blk (.slice A42 n43 c44) :: some b21 :: blk (.slice A6 n7 c8) :: blk (.slice A11 n12 c13) :: (q39 ++ [])) : Ob).Perm ((blk (.slice A34 n35 c36) :: (q39 ++ [])) ++ [blk (.slice A42 n43 c44), some b21, blk (.slice A6 n7 c8), blk (.slice A11 n12 c13)]) := (by rw [List.perm_iff_count]; intro a; (try simp only [List.count_append, List.count_cons, List.count_nil, Nat.add_zero, Nat.zero_add]); first | done | ac_rfl)
      have hc98 := hc96.drops hp97
      have hc99 := hc98.drop 0 rfl
      have hc100 := hc99.drop 0 rfl
      have hc101 := hc100.drop 0 rfl
      have hc102 := hc101.drop 0 rfl
      exact ⟨[vb false], ⟨_, rfl, rfl⟩, false, rfl, H, hc102.gr.g0⟩
    · have H := ite_f H hq95
      refine L_run (dj := 28) rfl rfl (by exact congrArg Value.bool hq95) ?_
      refine L_pu (P_move (vb r4) rfl) ?_
      refine L_run (dj := 28) rfl rfl (by exact congrArg Value.bool hq95) ?_
      refine L_pu (P_move (vb r2) rfl) ?_
      refine L_run (dj := 28) rfl rfl (by exact congrArg Value.bool hq95) ?_
      refine L_pu (P_bcmp Try.underlying4 r4 r2 (r4 != r2) rfl rfl rfl) ?_
      refine L_pu (P_pick false (vb (r4 != r2)) (by exact congrArg Value.bool hq95) rfl) ?_
      refine L_nil ?_
      refine W_cond (r4 != r2) rfl (fun hq103 => ?_) (fun hq103 => ?_)
      · have H := ite_t H hq103
        refine W_seq ?_
        refine W_reg ?_
        refine L_pu (P_assign (vb false) rfl) ?_
        refine L_nil ?_
        refine W_ret ?_
        have hc104 := hc94.drop 0 rfl
        have hp105 : ((blk (.slice A34 n35 c36) :: blk (.slice A42 n43 c44) :: some b21 :: blk (.slice A6 n7 c8) :: blk (.slice A11 n12 c13) :: (q39 ++ [])) : Ob).Perm ((blk (.slice A34 n35 c36) :: (q39 ++ [])) ++ [blk (.slice A42 n43 c44), some b21, blk (.slice A6 n7 c8), blk (.slice A11 n12 c13)]) := (by rw [List.perm_iff_count]; intro a; (try simp only [List.count_append, List.count_cons, List.count_nil, Nat.add_zero, Nat.zero_add]); first | done | ac_rfl)
        have hc106 := hc104.drops hp105
        have hc107 := hc106.drop 0 rfl
        have hc108 := hc107.drop 0 rfl
        have hc109 := hc108.drop 0 rfl
        have hc110 := hc109.drop 0 rfl
        exact ⟨[vb false], ⟨_, rfl, rfl⟩, false, rfl, H, hc110.gr.g0⟩
      · have H := ite_f H hq103
        refine W_skip ?_
        refine W_seq ?_
        refine W_reg ?_
        refine L_pu (P_assign (vi 1) rfl) ?_
        refine L_nil ?_
        refine W_seq ?_
        refine W_reg ?_
        have h111 := (hx63.k0 g90)
        refine L_pu (P_lda ag35 sz35 cL ⟨b54, 0, none⟩ [.slice A34 n35 c36, .slice A42 n43 c44] rfl rfl (h111.cells (off := 0) rfl)) ?_
        refine L_pu (P_move (vi 1) rfl) ?_
        have h114 := ((Ow.sw (L := (some b54 :: blk (.slice A34 n35 c36) :: blk (.slice A42 n43 c44) :: some b21 :: blk (.slice A6 n7 c8) :: blk (.slice A11 n12 c13) :: (q39 ++ []))) (O := O) ((Ow.spa (A := (blk (.slice A34 n35 c36) :: blk (.slice A42 n43 c44) :: (q39 ++ []))) (L := [some b21, blk (.slice A6 n7 c8), blk (.slice A11 n12 c13)]) (O := O) h37 hp51).so _ g55 (oge hl56)) hc60 (i := 1) rfl (j := 0) rfl (by decide) g62).sn g90)
        have hd115 := ((DArr.sm (L := (some b54 :: blk (.slice A34 n35 c36) :: blk (.slice A42 n43 c44) :: some b21 :: blk (.slice A6 n7 c8) :: blk (.slice A11 n12 c13) :: (q39 ++ []))) (O := O) (i := 0) (hd41.k0 g55) hc60 rfl (fun b hb => (List.mem_cons_of_mem _ (List.mem_cons_of_mem _ (List.mem_cons_of_mem _ (List.mem_cons_of_mem _ (List.mem_cons_of_mem _ (List.mem_append_left _ hb))))))) g62).k0 g90)
        have h116 := ((Ow.sw (L := (some b54 :: blk (.slice A34 n35 c36) :: blk (.slice A42 n43 c44) :: some b21 :: blk (.slice A6 n7 c8) :: blk (.slice A11 n12 c13) :: (q39 ++ []))) (O := O) ((Ow.spa (A := (blk (.slice A34 n35 c36) :: blk (.slice A42 n43 c44) :: (q39 ++ []))) (L := [some b21, blk (.slice A6 n7 c8), blk (.slice A11 n12 c13)]) (O := O) h45 hp51).so _ g55 (oge hl56)) hc60 (i := 2) rfl (j := 0) rfl (by decide) g62).sn g90)
        have hp117 : ((some b54 :: blk (.slice A34 n35 c36) :: blk (.slice A42 n43 c44) :: some b21 :: blk (.slice A6 n7 c8) :: blk (.slice A11 n12 c13) :: (q39 ++ [])) : Ob).Perm ((blk (.slice A34 n35 c36) :: blk (.slice A42 n43 c44) :: (q39 ++ [])) ++ [some b54, some b21, blk (.slice A6 n7 c8), blk (.slice A11 n12 c13)]) := (by rw [List.perm_iff_count]; intro a; (try simp only [List.count_append, List.count_cons, List.count_nil, Nat.add_zero, Nat.zero_add]); first | done | ac_rfl)
        refine L_call go16 [.agg #[.slice A34 n35 c36, .slice A42 n43 c44], vi 1] rfl ((laws_markRepo.calls w89 hc94.ok r3 A34 n35 c36 ra40 q39 A42 n43 c44 h114 hd115 h116 (Dj.left (Dj.left (hc94.perm hp117).dj)) (fun b hb => List.mem_append_left _ (hp117.mem_iff.2 (List.mem_append_left _ hb))) 1 _ H).mono ?_)
        rintro _ w112 ⟨r6, m, m2, ra120, rfl, H, g113, h118, hd119, h121⟩
        have hc122 := hc94.dm g113 (fun b hb => hp117.mem_iff.2 (List.mem_append_left _ hb))
        refine L_pu (P_assign (vi r6) rfl) ?_
        refine L_nil ?_
        refine W_seq ?_
        refine W_reg ?_
        refine L_pu (P_assign (vi 1) rfl) ?_
        refine L_nil ?_
        refine W_seq ?_
        refine W_reg ?_
        have h123 := (Bx.gm h111 g113 (Ct.sep1 (L := (some b54 :: blk (.slice A34 n35 c36) :: blk (.slice A42 n43 c44) :: some b21 :: blk (.slice A6 n7 c8) :: blk (.slice A11 n12 c13) :: (q39 ++ []))) (O := O) hc94 (B := (blk (.slice A34 n35 c36) :: blk (.slice A42 n43 c44) :: (q39 ++ []))) (C := (some b21 :: blk (.slice A6 n7 c8) :: blk (.slice A11 n12 c13) :: [])) (by rw [List.perm_iff_count]; intro a; (try simp only [List.count_append, List.count_cons, List.count_nil, Nat.add_zero, Nat.zero_add]); first | done | ac_rfl) _ rfl))
        refine L_pu (P_lda ag35 sz35 cL ⟨b54, 0, none⟩ [.slice A34 n35 c36, .slice A42 n43 c44] rfl rfl (h123.cells (off := 0) rfl)) ?_
        refine L_pu (P_move (vi 1) rfl) ?_
        have hp127 : ((some b54 :: blk (.slice A34 n35 c36) :: blk (.slice A42 n43 c44) :: some b21 :: blk (.slice A6 n7 c8) :: blk (.slice A11 n12 c13) :: (q39 ++ [])) : Ob).Perm (blk (.slice A34 n35 c36) :: (q39 ++ [some b54, blk (.slice A42 n43 c44), some b21, blk (.slice A6 n7 c8), blk (.slice A11 n12 c13)])) := (by rw [List.perm_iff_count]; intro a; (try simp only [List.count_append, List.count_cons, List.count_nil, Nat.add_zero, Nat.zero_add]); first | done | ac_rfl)
        obtain ⟨h124, hc125, s126⟩ := Dp.gv (L := (some b54 :: blk (.slice A34 n35 c36) :: blk (.slice A42 n43 c44) :: some b21 :: blk (.slice A6 n7 c8) :: blk (.slice A11 n12 c13) :: (q39 ++ []))) (O := O) h118 hd119 hc122 hp127
        have h130 := (Ow.drops (L := (some b54 :: blk (.slice A34 n35 c36) :: blk (.slice A42 n43 c44) :: some b21 :: blk (.slice A6 n7 c8) :: blk (.slice A11 n12 c13) :: (q39 ++ []))) (O := O) (rs := blk (.slice A34 n35 c36) :: q39) h121 hp127 (memi 1 rfl))
        have h131 := Ow.gv (L := [some b54, blk (.slice A42 n43 c44), some b21, blk (.slice A6 n7 c8), blk (.slice A11 n12 c13)]) (O := O) h130 hc125 (i := 1) rfl
        have hc132 := hc125.drop 1 rfl
        have h134 := (h124.st (.dr _ (L := [some b54, blk (.slice A42 n43 c44), some b21, blk (.slice A6 n7 c8), blk (.slice A11 n12 c13)]) (O := O) (j := 1) rfl))
        refine L_call go17 [.agg #[.slice A34 n35 c36, .slice A42 n43 c44], vi 1] rfl ((laws_heldRepo.calls w112 hc132.ok (⟨m, m2⟩ : Repo) A34 n35 c36 A42 n43 c44 h134 h131 1 _ H).mono ?_)
        rintro _ w135 ⟨r7, rfl, H, g136⟩
        have hc140 := hc122.k0 g136
        refine L_pu (P_assign (vi r7) rfl) ?_
        refine L_nil ?_
        refine W_seq ?_
        refine W_seq ?_
        refine W_reg ?_
        refine L_pu (P_move (vi r7) rfl) ?_
        refine L_pu (P_cmp r7 0 (decide (r7 < 0)) rfl rfl rfl) ?_
        refine L_nil ?_
        refine W_cond (decide (r7 < 0)) rfl (fun hq141 => ?_) (fun hq141 => ?_)
        · have H := ite_t H hq141
          refine W_seq ?_
          refine W_reg ?_
          refine L_pu (P_assign (vb false) rfl) ?_
          refine L_nil ?_
          refine W_ret ?_
          have hc142 := hc140.drop 0 rfl
          have hp143 : ((blk (.slice A34 n35 c36) :: blk (.slice A42 n43 c44) :: some b21 :: blk (.slice A6 n7 c8) :: blk (.slice A11 n12 c13) :: (q39 ++ [])) : Ob).Perm ((blk (.slice A34 n35 c36) :: (q39 ++ [])) ++ [blk (.slice A42 n43 c44), some b21, blk (.slice A6 n7 c8), blk (.slice A11 n12 c13)]) := (by rw [List.perm_iff_count]; intro a; (try simp only [List.count_append, List.count_cons, List.count_nil, Nat.add_zero, Nat.zero_add]); first | done | ac_rfl)
          have hc144 := hc142.drops hp143
          have hc145 := hc144.drop 0 rfl
          have hc146 := hc145.drop 0 rfl
          have hc147 := hc146.drop 0 rfl
          have hc148 := hc147.drop 0 rfl
          exact ⟨[vb false], ⟨_, rfl, rfl⟩, false, rfl, H, hc148.gr.g0⟩
        · have H := ite_f H hq141
          refine W_skip ?_
          refine W_seq ?_
          refine W_seq ?_
          refine W_reg ?_
          refine L_pu (P_move (vi r7) rfl) ?_
          refine L_pu (P_move (vi r6) rfl) ?_
          refine L_pu (P_cmp r7 r6 (r7 != r6) rfl rfl rfl) ?_
          refine L_nil ?_
          refine W_cond (r7 != r6) rfl (fun hq149 => ?_) (fun hq149 => ?_)
          · have H := ite_t H hq149
            refine W_seq ?_
            refine W_reg ?_
            refine L_pu (P_assign (vb false) rfl) ?_
            refine L_nil ?_
            refine W_ret ?_
            have hc150 := hc140.drop 0 rfl
            have hp151 : ((blk (.slice A34 n35 c36) :: blk (.slice A42 n43 c44) :: some b21 :: blk (.slice A6 n7 c8) :: blk (.slice A11 n12 c13) :: (q39 ++ [])) : Ob).Perm ((blk (.slice A34 n35 c36) :: (q39 ++ [])) ++ [blk (.slice A42 n43 c44), some b21, blk (.slice A6 n7 c8), blk (.slice A11 n12 c13)]) := (by rw [List.perm_iff_count]; intro a; (try simp only [List.count_append, List.count_cons, List.count_nil, Nat.add_zero, Nat.zero_add]); first | done | ac_rfl)
            have hc152 := hc150.drops hp151
            have hc153 := hc152.drop 0 rfl
            have hc154 := hc153.drop 0 rfl
            have hc155 := hc154.drop 0 rfl
            have hc156 := hc155.drop 0 rfl
            exact ⟨[vb false], ⟨_, rfl, rfl⟩, false, rfl, H, hc156.gr.g0⟩
          · have H := ite_f H hq149
            refine W_skip ?_
            refine W_seq ?_
            refine W_reg ?_
            refine L_pu (P_move (vs aName) rfl) ?_
            refine L_call go14 [vs aName] rfl ((impl_RepoNew.calls w135 hc140.ok aName hs1 _ H).mono ?_)
            rintro _ w157 ⟨r8, r9, A159, n160, c161, q164, ra165, A167, n168, c169, rfl, H, g158, hk173, hk174, h162, hd166, h170⟩
            have hc175 := hc140.owns g158 hk173 hk174
            have hp176 : (((blk (.slice A159 n160 c161) :: blk (.slice A167 n168 c169) :: (q164 ++ [])) ++ (some b54 :: blk (.slice A34 n35 c36) :: blk (.slice A42 n43 c44) :: some b21 :: blk (.slice A6 n7 c8) :: blk (.slice A11 n12 c13) :: (q39 ++ []))) : Ob).Perm (blk (.slice A159 n160 c161) :: blk (.slice A167 n168 c169) :: some b54 :: blk (.slice A34 n35 c36) :: blk (.slice A42 n43 c44) :: some b21 :: blk (.slice A6 n7 c8) :: blk (.slice A11 n12 c13) :: (q164 ++ (q39 ++ []))) := (by rw [List.perm_iff_count]; intro a; (try simp only [List.count_append, List.count_cons, List.count_nil, Nat.add_zero, Nat.zero_add]); first | done | ac_rfl)
            have hc177 := hc175.perm hp176
            refine L_pu (P_move (.tuple #[.agg #[.slice A159 n160 c161, .slice A167 n168 c169], vb r9]) rfl) ?_
            refine L_pu (P_ext [.agg #[.slice A159 n160 c161, .slice A167 n168 c169], vb r9] 0 (.agg #[.slice A159 n160 c161, .slice A167 n168 c169]) rfl rfl) ?_
            refine L_pu (P_ext [.agg #[.slice A159 n160 c161, .slice A167 n168 c169], vb r9] 1 (vb r9) rfl rfl) ?_
            refine L_alloc [.slice none 0 0, .slice none 0 0] ze35 fun w178 b179 hl181 hu182 g180 hx183 => ?_
            have hc185 := hc177.own g180 (some b179) (oglt hl181 hu182)
            refine L_stb b179 0 [.slice none 0 0, .slice none 0 0] [.slice A159 n160 c161, .slice A167 n168 c169] [.slice A159 n160 c161, .slice A167 n168 c169] rfl hx183 rfl sz35 rfl rfl rfl fun w186 g187 hx188 => ?_
            have hc189 := hc185.wr 0 rfl g187
            refine L_pu (P_assign (vb r9) rfl) ?_
            refine L_nil ?_
            refine W_seq ?_
            refine W_seq ?_
            refine W_reg ?_
            refine L_pu (P_lda ag35 sz35 cL ⟨b179, 0, none⟩ [.slice A159 n160 c161, .slice A167 n168 c169] rfl rfl (hx188.cells (off := 0) rfl)) ?_
            have h190 := (Bx.sm (L := (some b179 :: blk (.slice A159 n160 c161) :: blk (.slice A167 n168 c169) :: some b54 :: blk (.slice A34 n35 c36) :: blk (.slice A42 n43 c44) :: some b21 :: blk (.slice A6 n7 c8) :: blk (.slice A11 n12 c13) :: (q164 ++ (q39 ++ [])))) (O := O) ((((Bx.gm (h65.k0 g90) g113 (Ct.sep1 (L := (some b54 :: blk (.slice A34 n35 c36) :: blk (.slice A42 n43 c44) :: some b21 :: blk (.slice A6 n7 c8) :: blk (.slice A11 n12 c13) :: (q39 ++ []))) (O := O) hc94 (B := (blk (.slice A34 n35 c36) :: blk (.slice A42 n43 c44) :: (q39 ++ []))) (C := (some b54 :: blk (.slice A6 n7 c8) :: blk (.slice A11 n12 c13) :: [])) (by rw [List.perm_iff_count]; intro a; (try simp only [List.count_append, List.count_cons, List.count_nil, Nat.add_zero, Nat.zero_add]); first | done | ac_rfl) _ rfl)).k0 g136).k0 g158).k0 g180) hc185 (i := 6) rfl (j := 0) rfl (by decide) g187)
            refine L_pu (P_lda ag35 sz35 cL ⟨b21, 0, none⟩ [.slice A6 n7 c8, .slice A11 n12 c13] rfl rfl (h190.cells (off := 0) rfl)) ?_
            have h191 := (Ow.sw (L := (some b179 :: blk (.slice A159 n160 c161) :: blk (.slice A167 n168 c169) :: some b54 :: blk (.slice A34 n35 c36) :: blk (.slice A42 n43 c44) :: some b21 :: blk (.slice A6 n7 c8) :: blk (.slice A11 n12 c13) :: (q164 ++ (q39 ++ [])))) (O := O) ((Ow.spa (A := (blk (.slice A159 n160 c161) :: blk (.slice A167 n168 c169) :: (q164 ++ []))) (L := (some b54 :: blk (.slice A34 n35 c36) :: blk (.slice A42 n43 c44) :: some b21 :: blk (.slice A6 n7 c8) :: blk (.slice A11 n12 c13) :: (q39 ++ []))) (O := O) h162 hp176).so _ g180 (oge hl181)) hc185 (i := 1) rfl (j := 0) rfl (by decide) g187)
            have hd192 := (DArr.sm (L := (some b179 :: blk (.slice A159 n160 c161) :: blk (.slice A167 n168 c169) :: some b54 :: blk (.slice A34 n35 c36) :: blk (.slice A42 n43 c44) :: some b21 :: blk (.slice A6 n7 c8) :: blk (.slice A11 n12 c13) :: (q164 ++ (q39 ++ [])))) (O := O) (i := 0) (hd166.k0 g180) hc185 rfl (fun b hb => (List.mem_cons_of_mem _ (List.mem_cons_of_mem _ (List.mem_cons_of_mem _ (List.mem_cons_of_mem _ (List.mem_cons_of_mem _ (List.mem_cons_of_mem _ (List.mem_cons_of_mem _ (List.mem_cons_of_mem _ (List.mem_append_left _ hb)))))))))) g187)
            have hp196 : ((some b179 :: blk (.slice A159 n160 c161) :: blk (.slice A167 n168 c169) :: some b54 :: blk (.slice A34 n35 c36) :: blk (.slice A42 n43 c44) :: some b21 :: blk (.slice A6 n7 c8) :: blk (.slice A11 n12 c13) :: (q164 ++ (q39 ++ []))) : Ob).Perm (blk (.slice A159 n160 c161) :: (q164 ++ (some b179 :: blk (.slice A167 n168 c169) :: some b54 :: blk (.slice A34 n35 c36) :: blk (.slice A42 n43 c44) :: some b21 :: blk (.slice A6 n7 c8) :: blk (.slice A11 n12 c13) :: (q39 ++ [])))) := (by rw [List.perm_iff_count]; intro a; (try simp only [List.count_append, List.count_cons, List.count_nil, Nat.add_zero, Nat.zero_add]); first | done | ac_rfl)
            obtain ⟨h193, hc194, s195⟩ := Dp.gv (L := (some b179 :: blk (.slice A159 n160 c161) :: blk (.slice A167 n168 c169) :: some b54 :: blk (.slice A34 n35 c36) :: blk (.slice A42 n43 c44) :: some b21 :: blk (.slice A6 n7 c8) :: blk (.slice A11 n12 c13) :: (q164 ++ (q39 ++ [])))) (O := O) h191 hd192 hc189 hp196
            have h199 := (Ow.drops (L := (some b179 :: blk (.slice A159 n160 c161) :: blk (.slice A167 n168 c169) :: some b54 :: blk (.slice A34 n35 c36) :: blk (.slice A42 n43 c44) :: some b21 :: blk (.slice A6 n7 c8) :: blk (.slice A11 n12 c13) :: (q164 ++ (q39 ++ [])))) (O := O) (rs := blk (.slice A159 n160 c161) :: q164) (Ow.sw (L := (some b179 :: blk (.slice A159 n160 c161) :: blk (.slice A167 n168 c169) :: some b54 :: blk (.slice A34 n35 c36) :: blk (.slice A42 n43 c44) :: some b21 :: blk (.slice A6 n7 c8) :: blk (.slice A11 n12 c13) :: (q164 ++ (q39 ++ [])))) (O := O) ((Ow.spa (A := (blk (.slice A159 n160 c161) :: blk (.slice A167 n168 c169) :: (q164 ++ []))) (L := (some b54 :: blk (.slice A34 n35 c36) :: blk (.slice A42 n43 c44) :: some b21 :: blk (.slice A6 n7 c8) :: blk (.slice A11 n12 c13) :: (q39 ++ []))) (O := O) h170 hp176).so _ g180 (oge hl181)) hc185 (i := 2) rfl (j := 0) rfl (by decide) g187) hp196 (memi 1 rfl))
            have h200 := Ow.gv (L := (some b179 :: blk (.slice A167 n168 c169) :: some b54 :: blk (.slice A34 n35 c36) :: blk (.slice A42 n43 c44) :: some b21 :: blk (.slice A6 n7 c8) :: blk (.slice A11 n12 c13) :: (q39 ++ []))) (O := O) h199 hc194 (i := 1) rfl
            have hc201 := hc194.drop 1 rfl
            have h203 := (Ow.sd (L := (some b179 :: blk (.slice A167 n168 c169) :: some b54 :: blk (.slice A34 n35 c36) :: blk (.slice A42 n43 c44) :: some b21 :: blk (.slice A6 n7 c8) :: blk (.slice A11 n12 c13) :: (q39 ++ []))) (O := O) (Ow.drops (L := (some b179 :: blk (.slice A159 n160 c161) :: blk (.slice A167 n168 c169) :: some b54 :: blk (.slice A34 n35 c36) :: blk (.slice A42 n43 c44) :: some b21 :: blk (.slice A6 n7 c8) :: blk (.slice A11 n12 c13) :: (q164 ++ (q39 ++ [])))) (O := O) (rs := blk (.slice A159 n160 c161) :: q164) (Ow.sw (L := (some b179 :: blk (.slice A159 n160 c161) :: blk (.slice A167 n168 c169) :: some b54 :: blk (.slice A34 n35 c36) :: blk (.slice A42 n43 c44) :: some b21 :: blk (.slice A6 n7 c8) :: blk (.slice A11 n12 c13) :: (q164 ++ (q39 ++ [])))) (O := O) ((Ow.spa (A := (blk (.slice A159 n160 c161) :: blk (.slice A167 n168 c169) :: (q164 ++ []))) (L := (some b54 :: blk (.slice A34 n35 c36) :: blk (.slice A42 n43 c44) :: some b21 :: blk (.slice A6 n7 c8) :: blk (.slice A11 n12 c13) :: (q39 ++ []))) (O := O) (((Ow.gm ((Ow.sw (L := (some b54 :: blk (.slice A34 n35 c36) :: blk (.slice A42 n43 c44) :: some b21 :: blk (.slice A6 n7 c8) :: blk (.slice A11 n12 c13) :: (q39 ++ []))) (O := O) ((Ow.spa (A := (blk (.slice A34 n35 c36) :: blk (.slice A42 n43 c44) :: (q39 ++ []))) (L := [some b21, blk (.slice A6 n7 c8), blk (.slice A11 n12 c13)]) (O := O) ((Ow.sw (L := [some b21, blk (.slice A6 n7 c8), blk (.slice A11 n12 c13)]) (O := O) (h9.so _ g22 (oge hl23)) hc27 (i := 1) rfl (j := 0) rfl (by decide) g29).sos g33 hk49) hp51).so _ g55 (oge hl56)) hc60 (i := 4) rfl (j := 0) rfl (by decide) g62).sn g90) g113 (fun b hb => List.mem_append_left _ (hp117.mem_iff.2 (List.mem_append_left _ hb))) (Ct.sep1 (L := (some b54 :: blk (.slice A34 n35 c36) :: blk (.slice A42 n43 c44) :: some b21 :: blk (.slice A6 n7 c8) :: blk (.slice A11 n12 c13) :: (q39 ++ []))) (O := O) hc94 (B := (blk (.slice A34 n35 c36) :: blk (.slice A42 n43 c44) :: (q39 ++ []))) (C := (some b54 :: some b21 :: blk (.slice A11 n12 c13) :: [])) (by rw [List.perm_iff_count]; intro a; (try simp only [List.count_append, List.count_cons, List.count_nil, Nat.add_zero, Nat.zero_add]); first | done | ac_rfl))).sn g136).sos g158 hk174) hp176).so _ g180 (oge hl181)) hc185 (i := 7) rfl (j := 0) rfl (by decide) g187) hp196 (memi 6 rfl)) (i := 6) rfl (j := 1) rfl (by decide))
            have h204 := Ow.gv (L := (some b179 :: some b54 :: blk (.slice A34 n35 c36) :: blk (.slice A42 n43 c44) :: some b21 :: blk (.slice A6 n7 c8) :: blk (.slice A11 n12 c13) :: (q39 ++ []))) (O := O) h203 hc201 (i := 5) rfl
            have hc205 := hc201.drop 5 rfl
            have h207 := (Ow.sd (L := (some b179 :: some b54 :: blk (.slice A34 n35 c36) :: blk (.slice A42 n43 c44) :: some b21 :: blk (.slice A6 n7 c8) :: blk (.slice A11 n12 c13) :: (q39 ++ []))) (O := O) (Ow.sd (L := (some b179 :: blk (.slice A167 n168 c169) :: some b54 :: blk (.slice A34 n35 c36) :: blk (.slice A42 n43 c44) :: some b21 :: blk (.slice A6 n7 c8) :: blk (.slice A11 n12 c13) :: (q39 ++ []))) (O := O) (Ow.drops (L := (some b179 :: blk (.slice A159 n160 c161) :: blk (.slice A167 n168 c169) :: some b54 :: blk (.slice A34 n35 c36) :: blk (.slice A42 n43 c44) :: some b21 :: blk (.slice A6 n7 c8) :: blk (.slice A11 n12 c13) :: (q164 ++ (q39 ++ [])))) (O := O) (rs := blk (.slice A159 n160 c161) :: q164) (Ow.sw (L := (some b179 :: blk (.slice A159 n160 c161) :: blk (.slice A167 n168 c169) :: some b54 :: blk (.slice A34 n35 c36) :: blk (.slice A42 n43 c44) :: some b21 :: blk (.slice A6 n7 c8) :: blk (.slice A11 n12 c13) :: (q164 ++ (q39 ++ [])))) (O := O) ((Ow.spa (A := (blk (.slice A159 n160 c161) :: blk (.slice A167 n168 c169) :: (q164 ++ []))) (L := (some b54 :: blk (.slice A34 n35 c36) :: blk (.slice A42 n43 c44) :: some b21 :: blk (.slice A6 n7 c8) :: blk (.slice A11 n12 c13) :: (q39 ++ []))) (O := O) (((Ow.gm ((Ow.sw (L := (some b54 :: blk (.slice A34 n35 c36) :: blk (.slice A42 n43 c44) :: some b21 :: blk (.slice A6 n7 c8) :: blk (.slice A11 n12 c13) :: (q39 ++ []))) (O := O) ((Ow.spa (A := (blk (.slice A34 n35 c36) :: blk (.slice A42 n43 c44) :: (q39 ++ []))) (L := [some b21, blk (.slice A6 n7 c8), blk (.slice A11 n12 c13)]) (O := O) ((Ow.sw (L := [some b21, blk (.slice A6 n7 c8), blk (.slice A11 n12 c13)]) (O := O) (h14.so _ g22 (oge hl23)) hc27 (i := 2) rfl (j := 0) rfl (by decide) g29).sos g33 hk49) hp51).so _ g55 (oge hl56)) hc60 (i := 5) rfl (j := 0) rfl (by decide) g62).sn g90) g113 (fun b hb => List.mem_append_left _ (hp117.mem_iff.2 (List.mem_append_left _ hb))) (Ct.sep1 (L := (some b54 :: blk (.slice A34 n35 c36) :: blk (.slice A42 n43 c44) :: some b21 :: blk (.slice A6 n7 c8) :: blk (.slice A11 n12 c13) :: (q39 ++ []))) (O := O) hc94 (B := (blk (.slice A34 n35 c36) :: blk (.slice A42 n43 c44) :: (q39 ++ []))) (C := (some b54 :: some b21 :: blk (.slice A6 n7 c8) :: [])) (by rw [List.perm_iff_count]; intro a; (try simp only [List.count_append, List.count_cons, List.count_nil, Nat.add_zero, Nat.zero_add]); first | done | ac_rfl))).sn g136).sos g158 hk174) hp176).so _ g180 (oge hl181)) hc185 (i := 8) rfl (j := 0) rfl (by decide) g187) hp196 (memi 7 rfl)) (i := 7) rfl (j := 1) rfl (by decide)) (i := 6) rfl (j := 5) rfl (by decide))
            have h208 := Ow.gv (L := (some b179 :: some b54 :: blk (.slice A34 n35 c36) :: blk (.slice A42 n43 c44) :: some b21 :: blk (.slice A11 n12 c13) :: (q39 ++ []))) (O := O) h207 hc205 (i := 5) rfl
            have hc209 := hc205.drop 5 rfl
            have h211 := (((h193.st (.dr _ (L := (some b179 :: blk (.slice A167 n168 c169) :: some b54 :: blk (.slice A34 n35 c36) :: blk (.slice A42 n43 c44) :: some b21 :: blk (.slice A6 n7 c8) :: blk (.slice A11 n12 c13) :: (q39 ++ []))) (O := O) (j := 1) rfl)).st (.dr _ (L := (some b179 :: some b54 :: blk (.slice A34 n35 c36) :: blk (.slice A42 n43 c44) :: some b21 :: blk (.slice A6 n7 c8) :: blk (.slice A11 n12 c13) :: (q39 ++ []))) (O := O) (j := 5) rfl)).st (.dr _ (L := (some b179 :: some b54 :: blk (.slice A34 n35 c36) :: blk (.slice A42 n43 c44) :: some b21 :: blk (.slice A11 n12 c13) :: (q39 ++ []))) (O := O) (j := 5) rfl))
            have h212 := ((h200.st (.dr _ (L := (some b179 :: some b54 :: blk (.slice A34 n35 c36) :: blk (.slice A42 n43 c44) :: some b21 :: blk (.slice A6 n7 c8) :: blk (.slice A11 n12 c13) :: (q39 ++ []))) (O := O) (j := 5) rfl)).st (.dr _ (L := (some b179 :: some b54 :: blk (.slice A34 n35 c36) :: blk (.slice A42 n43 c44) :: some b21 :: blk (.slice A11 n12 c13) :: (q39 ++ []))) (O := O) (j := 5) rfl))
            have h213 := (h204.st (.dr _ (L := (some b179 :: some b54 :: blk (.slice A34 n35 c36) :: blk (.slice A42 n43 c44) :: some b21 :: blk (.slice A11 n12 c13) :: (q39 ++ []))) (O := O) (j := 5) rfl))
            refine L_call go15 [.agg #[.slice A159 n160 c161, .slice A167 n168 c169], .agg #[.slice A6 n7 c8, .slice A11 n12 c13]] rfl ((laws_eqRepo.calls w186 hc209.ok r8 A159 n160 c161 A167 n168 c169 h211 h212 r A6 n7 c8 A11 n12 c13 h213 h208 _ H).mono ?_)
            rintro _ w214 ⟨r10, rfl, H, g215⟩
            have hc219 := hc189.k0 g215
            refine L_pu (P_not r10 rfl) ?_
            refine L_pu (P_move (vb (!r10)) rfl) ?_
            rcases bool_or (!r10) with hq220 | hq220
            · have H := ite_t H hq220
              refine L_pass (dj := 53) rfl rfl (.inl (by exact congrArg Value.bool hq220)) ?_
              refine L_pass (dj := 53) rfl rfl (.inl (by exact congrArg Value.bool hq220)) ?_
              refine L_pass (dj := 53) rfl rfl (.inl (by exact congrArg Value.bool hq220)) ?_
              refine L_pu (P_pick true (vb true) (by exact congrArg Value.bool hq220) rfl) ?_
              refine L_nil ?_
              refine W_ct (b := true) rfl rfl ?_
              refine W_seq ?_
              refine W_reg ?_
              refine L_pu (P_assign (vb false) rfl) ?_
              refine L_nil ?_
              refine W_ret ?_
              have hc221 := hc219.drop 0 rfl
              have hp222 : ((blk (.slice A159 n160 c161) :: blk (.slice A167 n168 c169) :: some b54 :: blk (.slice A34 n35 c36) :: blk (.slice A42 n43 c44) :: some b21 :: blk (.slice A6 n7 c8) :: blk (.slice A11 n12 c13) :: (q164 ++ (q39 ++ []))) : Ob).Perm ((blk (.slice A159 n160 c161) :: (q164 ++ [])) ++ (blk (.slice A167 n168 c169) :: some b54 :: blk (.slice A34 n35 c36) :: blk (.slice A42 n43 c44) :: some b21 :: blk (.slice A6 n7 c8) :: blk (.slice A11 n12 c13) :: (q39 ++ []))) := (by rw [List.perm_iff_count]; intro a; (try simp only [List.count_append, List.count_cons, List.count_nil, Nat.add_zero, Nat.zero_add]); first | done | ac_rfl)
              have hc223 := hc221.drops hp222
              have hc224 := hc223.drop 0 rfl
              have hc225 := hc224.drop 0 rfl
              have hp226 : ((blk (.slice A34 n35 c36) :: blk (.slice A42 n43 c44) :: some b21 :: blk (.slice A6 n7 c8) :: blk (.slice A11 n12 c13) :: (q39 ++ [])) : Ob).Perm ((blk (.slice A34 n35 c36) :: (q39 ++ [])) ++ [blk (.slice A42 n43 c44), some b21, blk (.slice A6 n7 c8), blk (.slice A11 n12 c13)]) := (by rw [List.perm_iff_count]; intro a; (try simp only [List.count_append, List.count_cons, List.count_nil, Nat.add_zero, Nat.zero_add]); first | done | ac_rfl)
              have hc227 := hc225.drops hp226
              have hc228 := hc227.drop 0 rfl
              have hc229 := hc228.drop 0 rfl
              have hc230 := hc229.drop 0 rfl
              have hc231 := hc230.drop 0 rfl
              exact ⟨[vb false], ⟨_, rfl, rfl⟩, false, rfl, H, hc231.gr.g0⟩
            · have H := ite_f H hq220
              refine L_run (dj := 53) rfl rfl (by exact congrArg Value.bool hq220) ?_
              refine L_pu (P_move (vb r9) rfl) ?_
              refine L_run (dj := 53) rfl rfl (by exact congrArg Value.bool hq220) ?_
              refine L_pu (P_move (vb r2) rfl) ?_
              refine L_run (dj := 53) rfl rfl (by exact congrArg Value.bool hq220) ?_
              refine L_pu (P_bcmp Try.underlying4 r9 r2 (r9 != r2) rfl rfl rfl) ?_
              refine L_pu (P_pick false (vb (r9 != r2)) (by exact congrArg Value.bool hq220) rfl) ?_
              refine L_nil ?_
              refine W_cond (r9 != r2) rfl (fun hq232 => ?_) (fun hq232 => ?_)
              · have H := ite_t H hq232
                refine W_seq ?_
                refine W_reg ?_
                refine L_pu (P_assign (vb false) rfl) ?_
                refine L_nil ?_
                refine W_ret ?_
                have hc233 := hc219.drop 0 rfl
                have hp234 : ((blk (.slice A159 n160 c161) :: blk (.slice A167 n168 c169) :: some b54 :: blk (.slice A34 n35 c36) :: blk (.slice A42 n43 c44) :: some b21 :: blk (.slice A6 n7 c8) :: blk (.slice A11 n12 c13) :: (q164 ++ (q39 ++ []))) : Ob).Perm ((blk (.slice A159 n160 c161) :: (q164 ++ [])) ++ (blk (.slice A167 n168 c169) :: some b54 :: blk (.slice A34 n35 c36) :: blk (.slice A42 n43 c44) :: some b21 :: blk (.slice A6 n7 c8) :: blk (.slice A11 n12 c13) :: (q39 ++ []))) := (by rw [List.perm_iff_count]; intro a; (try simp only [List.count_append, List.count_cons, List.count_nil, Nat.add_zero, Nat.zero_add]); first | done | ac_rfl)
                have hc235 := hc233.drops hp234
                have hc236 := hc235.drop 0 rfl
                have hc237 := hc236.drop 0 rfl
                have hp238 : ((blk (.slice A34 n35 c36) :: blk (.slice A42 n43 c44) :: some b21 :: blk (.slice A6 n7 c8) :: blk (.slice A11 n12 c13) :: (q39 ++ [])) : Ob).Perm ((blk (.slice A34 n35 c36) :: (q39 ++ [])) ++ [blk (.slice A42 n43 c44), some b21, blk (.slice A6 n7 c8), blk (.slice A11 n12 c13)]) := (by rw [List.perm_iff_count]; intro a; (try simp only [List.count_append, List.count_cons, List.count_nil, Nat.add_zero, Nat.zero_add]); first | done | ac_rfl)
                have hc239 := hc237.drops hp238
                have hc240 := hc239.drop 0 rfl
                have hc241 := hc240.drop 0 rfl
                have hc242 := hc241.drop 0 rfl
                have hc243 := hc242.drop 0 rfl
                exact ⟨[vb false], ⟨_, rfl, rfl⟩, false, rfl, H, hc243.gr.g0⟩
              · have H := ite_f H hq232
                refine W_skip ?_
                refine W_seq ?_
                refine W_reg ?_
                refine L_pu (P_assign (vi 1) rfl) ?_
                refine L_nil ?_
                refine W_seq ?_
                refine W_reg ?_
                have h244 := ((Bx.sm (L := (some b179 :: blk (.slice A159 n160 c161) :: blk (.slice A167 n168 c169) :: some b54 :: blk (.slice A34 n35 c36) :: blk (.slice A42 n43 c44) :: some b21 :: blk (.slice A6 n7 c8) :: blk (.slice A11 n12 c13) :: (q164 ++ (q39 ++ [])))) (O := O) (((h123.k0 g136).k0 g158).k0 g180) hc185 (i := 3) rfl (j := 0) rfl (by decide) g187).k0 g215)
                refine L_pu (P_lda ag35 sz35 cL ⟨b54, 0, none⟩ [.slice A34 n35 c36, .slice A42 n43 c44] rfl rfl (h244.cells (off := 0) rfl)) ?_
                refine L_pu (P_move (vi 1) rfl) ?_
                have h245 := ((Ow.sw (L := (some b179 :: blk (.slice A159 n160 c161) :: blk (.slice A167 n168 c169) :: some b54 :: blk (.slice A34 n35 c36) :: blk (.slice A42 n43 c44) :: some b21 :: blk (.slice A6 n7 c8) :: blk (.slice A11 n12 c13) :: (q164 ++ (q39 ++ [])))) (O := O) ((Ow.spa (A := (blk (.slice A159 n160 c161) :: blk (.slice A167 n168 c169) :: (q164 ++ []))) (L := (some b54 :: blk (.slice A34 n35 c36) :: blk (.slice A42 n43 c44) :: some b21 :: blk (.slice A6 n7 c8) :: blk (.slice A11 n12 c13) :: (q39 ++ []))) (O := O) ((h118.sn g136).sos g158 hk174) hp176).so _ g180 (oge hl181)) hc185 (i := 4) rfl (j := 0) rfl (by decide) g187).sn g215)
                have hd246 := ((DArr.sm (L := (some b179 :: blk (.slice A159 n160 c161) :: blk (.slice A167 n168 c169) :: some b54 :: blk (.slice A34 n35 c36) :: blk (.slice A42 n43 c44) :: some b21 :: blk (.slice A6 n7 c8) :: blk (.slice A11 n12 c13) :: (q164 ++ (q39 ++ [])))) (O := O) (i := 0) (((hd119.k0 g136).k0 g158).k0 g180) hc185 rfl (fun b hb => (List.mem_cons_of_mem _ (List.mem_cons_of_mem _ (List.mem_cons_of_mem _ (List.mem_cons_of_mem _ (List.mem_cons_of_mem _ (List.mem_cons_of_mem _ (List.mem_cons_of_mem _ (List.mem_cons_of_mem _ (List.mem_append_right _ (List.mem_append_left _ hb))))))))))) g187).k0 g215)
                have hp250 : ((some b179 :: blk (.slice A159 n160 c161) :: blk (.slice A167 n168 c169) :: some b54 :: blk (.slice A34 n35 c36) :: blk (.slice A42 n43 c44) :: some b21 :: blk (.slice A6 n7 c8) :: blk (.slice A11 n12 c13) :: (q164 ++ (q39 ++ []))) : Ob).Perm (blk (.slice A34 n35 c36) :: (q39 ++ (some b179 :: blk (.slice A159 n160 c161) :: blk (.slice A167 n168 c169) :: some b54 :: blk (.slice A42 n43 c44) :: some b21 :: blk (.slice A6 n7 c8) :: blk (.slice A11 n12 c13) :: (q164 ++ [])))) := (by rw [List.perm_iff_count]; intro a; (try simp only [List.count_append, List.count_cons, List.count_nil, Nat.add_zero, Nat.zero_add]); first | done | ac_rfl)
                obtain ⟨h247, hc248, s249⟩ := Dp.gv (L := (some b179 :: blk (.slice A159 n160 c161) :: blk (.slice A167 n168 c169) :: some b54 :: blk (.slice A34 n35 c36) :: blk (.slice A42 n43 c44) :: some b21 :: blk (.slice A6 n7 c8) :: blk (.slice A11 n12 c13) :: (q164 ++ (q39 ++ [])))) (O := O) h245 hd246 hc219 hp250
                have h253 := (Ow.drops (L := (some b179 :: blk (.slice A159 n160 c161) :: blk (.slice A167 n168 c169) :: some b54 :: blk (.slice A34 n35 c36) :: blk (.slice A42 n43 c44) :: some b21 :: blk (.slice A6 n7 c8) :: blk (.slice A11 n12 c13) :: (q164 ++ (q39 ++ [])))) (O := O) (rs := blk (.slice A34 n35 c36) :: q39) ((Ow.sw (L := (some b179 :: blk (.slice A159 n160 c161) :: blk (.slice A167 n168 c169) :: some b54 :: blk (.slice A34 n35 c36) :: blk (.slice A42 n43 c44) :: some b21 :: blk (.slice A6 n7 c8) :: blk (.slice A11 n12 c13) :: (q164 ++ (q39 ++ [])))) (O := O) ((Ow.spa (A := (blk (.slice A159 n160 c161) :: blk (.slice A167 n168 c169) :: (q164 ++ []))) (L := (some b54 :: blk (.slice A34 n35 c36) :: blk (.slice A42 n43 c44) :: some b21 :: blk (.slice A6 n7 c8) :: blk (.slice A11 n12 c13) :: (q39 ++ []))) (O := O) ((h121.sn g136).sos g158 hk174) hp176).so _ g180 (oge hl181)) hc185 (i := 5) rfl (j := 0) rfl (by decide) g187).sn g215) hp250 (memi 4 rfl))
                have h254 := Ow.gv (L := (some b179 :: blk (.slice A159 n160 c161) :: blk (.slice A167 n168 c169) :: some b54 :: blk (.slice A42 n43 c44) :: some b21 :: blk (.slice A6 n7 c8) :: blk (.slice A11 n12 c13) :: (q164 ++ []))) (O := O) h253 hc248 (i := 4) rfl
                have hc255 := hc248.drop 4 rfl
                have h257 := (h247.st (.dr _ (L := (some b179 :: blk (.slice A159 n160 c161) :: blk (.slice A167 n168 c169) :: some b54 :: blk (.slice A42 n43 c44) :: some b21 :: blk (.slice A6 n7 c8) :: blk (.slice A11 n12 c13) :: (q164 ++ []))) (O := O) (j := 4) rfl))
                refine L_call go17 [.agg #[.slice A34 n35 c36, .slice A42 n43 c44], vi 1] rfl ((laws_heldRepo.calls w214 hc255.ok (⟨m, m2⟩ : Repo) A34 n35 c36 A42 n43 c44 h257 h254 1 _ H).mono ?_)
                rintro _ w258 ⟨r11, rfl, H, g259⟩
                have hc263 := hc219.k0 g259
                refine L_pu (P_assign (vi r11) rfl) ?_
                refine L_nil ?_
                refine W_seq ?_
                refine W_seq ?_
                refine W_reg ?_
                refine L_pu (P_move (vi r11) rfl) ?_
                refine L_pu (P_cmp r11 0 (decide (r11 < 0)) rfl rfl rfl) ?_
                refine L_nil ?_
                refine W_cond (decide (r11 < 0)) rfl (fun hq264 => ?_) (fun hq264 => ?_)
                · have H := ite_t H hq264
                  refine W_seq ?_
                  refine W_reg ?_
                  refine L_pu (P_assign (vb false) rfl) ?_
                  refine L_nil ?_
                  refine W_ret ?_
                  have hc265 := hc263.drop 0 rfl
                  have hp266 : ((blk (.slice A159 n160 c161) :: blk (.slice A167 n168 c169) :: some b54 :: blk (.slice A34 n35 c36) :: blk (.slice A42 n43 c44) :: some b21 :: blk (.slice A6 n7 c8) :: blk (.slice A11 n12 c13) :: (q164 ++ (q39 ++ []))) : Ob).Perm ((blk (.slice A159 n160 c161) :: (q164 ++ [])) ++ (blk (.slice A167 n168 c169) :: some b54 :: blk (.slice A34 n35 c36) :: blk (.slice A42 n43 c44) :: some b21 :: blk (.slice A6 n7 c8) :: blk (.slice A11 n12 c13) :: (q39 ++ []))) := (by rw [List.perm_iff_count]; intro a; (try simp only [List.count_append, List.count_cons, List.count_nil, Nat.add_zero, Nat.zero_add]); first | done | ac_rfl)
                  have hc267 := hc265.drops hp266
                  have hc268 := hc267.drop 0 rfl
                  have hc269 := hc268.drop 0 rfl
                  have hp270 : ((blk (.slice A34 n35 c36) :: blk (.slice A42 n43 c44) :: some b21 :: blk (.slice A6 n7 c8) :: blk (.slice A11 n12 c13) :: (q39 ++ [])) : Ob).Perm ((blk (.slice A34 n35 c36) :: (q39 ++ [])) ++ [blk (.slice A42 n43 c44), some b21, blk (.slice A6 n7 c8), blk (.slice A11 n12 c13)]) := (by rw [List.perm_iff_count]; intro a; (try simp only [List.count_append, List.count_cons, List.count_nil, Nat.add_zero, Nat.zero_add]); first | done | ac_rfl)
                  have hc271 := hc269.drops hp270
                  have hc272 := hc271.drop 0 rfl
                  have hc273 := hc272.drop 0 rfl
                  have hc274 := hc273.drop 0 rfl
                  have hc275 := hc274.drop 0 rfl
                  exact ⟨[vb false], ⟨_, rfl, rfl⟩, false, rfl, H, hc275.gr.g0⟩
                · have H := ite_f H hq264
                  refine W_skip ?_
                  refine W_seq ?_
                  refine W_seq ?_
                  refine W_reg ?_
                  refine L_pu (P_move (vi r11) rfl) ?_
                  refine L_pu (P_move (vi r6) rfl) ?_
                  refine L_pu (P_cmp r11 r6 (r11 != r6) rfl rfl rfl) ?_
                  refine L_nil ?_
                  refine W_cond (r11 != r6) rfl (fun hq276 => ?_) (fun hq276 => ?_)
                  · have H := ite_t H hq276
                    refine W_seq ?_
                    refine W_reg ?_
                    refine L_pu (P_assign (vb false) rfl) ?_
                    refine L_nil ?_
                    refine W_ret ?_
                    have hc277 := hc263.drop 0 rfl
                    have hp278 : ((blk (.slice A159 n160 c161) :: blk (.slice A167 n168 c169) :: some b54 :: blk (.slice A34 n35 c36) :: blk (.slice A42 n43 c44) :: some b21 :: blk (.slice A6 n7 c8) :: blk (.slice A11 n12 c13) :: (q164 ++ (q39 ++ []))) : Ob).Perm ((blk (.slice A159 n160 c161) :: (q164 ++ [])) ++ (blk (.slice A167 n168 c169) :: some b54 :: blk (.slice A34 n35 c36) :: blk (.slice A42 n43 c44) :: some b21 :: blk (.slice A6 n7 c8) :: blk (.slice A11 n12 c13) :: (q39 ++ []))) := (by rw [List.perm_iff_count]; intro a; (try simp only [List.count_append, List.count_cons, List.count_nil, Nat.add_zero, Nat.zero_add]); first | done | ac_rfl)
                    have hc279 := hc277.drops hp278
                    have hc280 := hc279.drop 0 rfl
                    have hc281 := hc280.drop 0 rfl
                    have hp282 : ((blk (.slice A34 n35 c36) :: blk (.slice A42 n43 c44) :: some b21 :: blk (.slice A6 n7 c8) :: blk (.slice A11 n12 c13) :: (q39 ++ [])) : Ob).Perm ((blk (.slice A34 n35 c36) :: (q39 ++ [])) ++ [blk (.slice A42 n43 c44), some b21, blk (.slice A6 n7 c8), blk (.slice A11 n12 c13)]) := (by rw [List.perm_iff_count]; intro a; (try simp only [List.count_append, List.count_cons, List.count_nil, Nat.add_zero, Nat.zero_add]); first | done | ac_rfl)
                    have hc283 := hc281.drops hp282
                    have hc284 := hc283.drop 0 rfl
                    have hc285 := hc284.drop 0 rfl
                    have hc286 := hc285.drop 0 rfl
                    have hc287 := hc286.drop 0 rfl
                    exact ⟨[vb false], ⟨_, rfl, rfl⟩, false, rfl, H, hc287.gr.g0⟩
                  · have H := ite_f H hq276
                    refine W_skip ?_
                    refine W_seq ?_
                    refine W_reg ?_
                    refine L_pu (P_assign (vb true) rfl) ?_
                    refine L_nil ?_
                    refine W_ret ?_
                    have hc288 := hc263.drop 0 rfl
                    have hp289 : ((blk (.slice A159 n160 c161) :: blk (.slice A167 n168 c169) :: some b54 :: blk (.slice A34 n35 c36) :: blk (.slice A42 n43 c44) :: some b21 :: blk (.slice A6 n7 c8) :: blk (.slice A11 n12 c13) :: (q164 ++ (q39 ++ []))) : Ob).Perm ((blk (.slice A159 n160 c161) :: (q164 ++ [])) ++ (blk (.slice A167 n168 c169) :: some b54 :: blk (.slice A34 n35 c36) :: blk (.slice A42 n43 c44) :: some b21 :: blk (.slice A6 n7 c8) :: blk (.slice A11 n12 c13) :: (q39 ++ []))) := (by rw [List.perm_iff_count]; intro a; (try simp only [List.count_append, List.count_cons, List.count_nil, Nat.add_zero, Nat.zero_add]); first | done | ac_rfl)
                    have hc290 := hc288.drops hp289
                    have hc291 := hc290.drop 0 rfl
                    have hc292 := hc291.drop 0 rfl
                    have hp293 : ((blk (.slice A34 n35 c36) :: blk (.slice A42 n43 c44) :: some b21 :: blk (.slice A6 n7 c8) :: blk (.slice A11 n12 c13) :: (q39 ++ [])) : Ob).Perm ((blk (.slice A34 n35 c36) :: (q39 ++ [])) ++ [blk (.slice A42 n43 c44), some b21, blk (.slice A6 n7 c8), blk (.slice A11 n12 c13)]) := (by rw [List.perm_iff_count]; intro a; (try simp only [List.count_append, List.count_cons, List.count_nil, Nat.add_zero, Nat.zero_add]); first | done | ac_rfl)
                    have hc294 := hc292.drops hp293
                    have hc295 := hc294.drop 0 rfl
                    have hc296 := hc295.drop 0 rfl
                    have hc297 := hc296.drop 0 rfl
                    have hc298 := hc297.drop 0 rfl
                    exact ⟨[vb true], ⟨_, rfl, rfl⟩, true, rfl, H, hc298.gr.g0⟩
end Go.Proofs.Ytndjggncgpjolaa

namespace Go.Proofs.Ytndjggncgpjolaa
set_option linter.unusedVariables false
set_option linter.unusedSimpArgs false
set_option linter.unusedSectionVars false
theorem repoNew_law (name : Str) (Q : Repo → Bool → Prop) (hn : name.length ≤ 1048576) (hq : Q (if wordOk name then ⟨[⟨[], [], [98, 101, 103, 105, 110]⟩], [⟨name, 0⟩]⟩ else ⟨[], []⟩) (wordOk name)) : spec_RepoNew.E name Q ∧ impl_RepoNew.E name Q := by
  unfold spec_RepoNew.E impl_RepoNew.E
  refine ⟨spec_WordOk.law _ _ ?_, impl_WordOk.law _ _ hn ?_⟩
  all_goals
    cases h : wordOk name with
    | false => rw [h] at hq; exact hq
    | true => rw [h] at hq; exact hq
theorem laws_FnExactRepoNew.law (name : Str) (_ : Lim name) : laws_FnExactRepoNew.E name (fun r => r = true) := by
  unfold laws_FnExactRepoNew.E
  by_cases hl : (name.length : Int) > 1048576
  · rw [if_pos (by simpa using hl)]
  rw [if_neg (by simpa using hl)]
  have hn : name.length ≤ 1048576 := by omega
  have hw : wordOk name = true → name.length ≤ 6 := fun h => by
    unfold wordOk at h
    simp only [Bool.and_eq_true, decide_eq_true_eq] at h
    exact h.2.2
  have hb : bulk (if wordOk name then ⟨[⟨[], [], [98, 101, 103, 105, 110]⟩], [⟨name, 0⟩]⟩ else ⟨[], []⟩ : Repo) ≤ 1048576 := by
    cases h : wordOk name with
    | false => rw [if_neg (by decide)]; exact (by decide : bulk (⟨[], []⟩ : Repo) ≤ 1048576)
    | true =>
      rw [if_pos rfl]
      have e1 : bulk name = name.length := bulk_str _
      have e2 : bulk (⟨[⟨[], [], [98, 101, 103, 105, 110]⟩], [⟨name, 0⟩]⟩ : Repo) = 6 + (1 + (bulk name + 0) + 0) := rfl
      have := hw h
      omega
  have hm := mkL_bd gCommit_bd (if wordOk name then ⟨[⟨[], [], [98, 101, 103, 105, 110]⟩], [⟨name, 0⟩]⟩ else ⟨[], []⟩ : Repo).Commits 1
  have hm2 := mkL_bd gHead_bd (if wordOk name then ⟨[⟨[], [], [98, 101, 103, 105, 110]⟩], [⟨name, 0⟩]⟩ else ⟨[], []⟩ : Repo).Heads (mkL gCommit (if wordOk name then ⟨[⟨[], [], [98, 101, 103, 105, 110]⟩], [⟨name, 0⟩]⟩ else ⟨[], []⟩ : Repo).Commits 1).2
  generalize hr : (if wordOk name then ⟨[⟨[], [], [98, 101, 103, 105, 110]⟩], [⟨name, 0⟩]⟩ else ⟨[], []⟩ : Repo) = R at *
  refine (repoNew_law name _ hn ?_).1
  refine (repoNew_law name _ hn ?_).2
  rw [hr]
  refine laws_eqRepo.law _ _ _ ?_
  rw [decide_eq_true rfl, if_neg (by decide), if_neg (by simp)]
  refine laws_markRepo.lawk _ _ _ hb (by decide) (by decide) ?_
  refine laws_heldRepo.lawk _ _ _ hb (by decide) (by decide) ?_
  rw [if_neg (by rw [decide_eq_true_eq]; omega), if_neg (by simp)]
  refine (repoNew_law name _ hn ?_).2
  rw [hr]
  refine laws_eqRepo.law _ _ _ ?_
  rw [decide_eq_true rfl, if_neg (by decide), if_neg (by simp)]
  refine laws_heldRepo.lawk _ _ _ hb (by decide) (by decide) ?_
  rw [if_neg (by rw [decide_eq_true_eq]; omega), if_neg (by simp)]
end Go.Proofs.Ytndjggncgpjolaa

namespace Go.Proofs.Ytndjggncgpjolaa.rFnExactRepoNew
open Go.ChangeShapes Go.WideShapes Go.ChangeAt Go.RowKit
open Go.ChangeMaps (open_string shut_string)
set_option linter.unusedVariables false
theorem own : ownKnob Try.prog.godebug = none := by kernel_rfl
theorem laidOut : laidOutB Try.prog = true := by kernel_rfl
set_option maxHeartbeats 4000000 in
set_option maxRecDepth 100000 in
theorem lifted (os : Os) (started : os.Started) (H : Type) (enc : TypeId × Value → H) :
    ReturnsInHanded {} Try.checked os 4 .any (Rows.fnExactRepoNewSpec.pre6 enc Try.prog Try.f4 Rows.fnExactRepoNewRow.domain false) (Rows.fnExactRepoNewSpec.post enc Try.prog Try.f4 false true false false) := by
  refine returnsInHanded_of_change_sized (C := Try.checked) own started (by kernel_rfl) Try.func4
    (ChangeSpec.witness6 (enc := enc) (C := Try.checked) false ⟨#[], #[.string ⟨#[]⟩], []⟩ 8 (by kernel_rfl) (by kernel_rfl) (by kernel_rfl) (by kernel_rfl)) ?_
  intro W base args ds gs before hval0 hW hcnd hsz0 _
  have hval : ∀ (j : Nat) t v, Try.f4.params[j]? = some t → args[j]? = some v → Value.okWide Try.prog W .any base t v := hval0
  have hW' := hW
  obtain ⟨p, q, hA0, hV, rfl, hfz, hnd⟩ := hW
  have hA : DataW.TrodAll enc Try.prog W 0 (fun _ => true) true Try.f4.params.toList args.toList ds p := hA0
  rw [Try.params4] at hA hval
  obtain ⟨v0, vs0, d0, ds0, p0, q0, hargs, rfl, rfl, h0, r0⟩ := trodAll_cons hA
  obtain ⟨rfl, rfl, rfl⟩ := trodAll_nil r0
  obtain rfl : args = #[v0] := by cases args; simp_all
  obtain ⟨rfl, rfl⟩ := trodVars_none hV
  have k0 := h0
  have lt0 : ∀ x ∈ p0, x.block < W.heap.size := by obtain ⟨m, hm⟩ := k0; exact DataW.trod_lt m _ _ _ hm
  obtain ⟨x0, hv0, hx0⟩ : ∃ a : Str, (Lim a) ∧ Kd.str.R W (Fr []) a v0.cells.toList := by obtain ⟨fuel, hf⟩ := h0; exact (Tr.str Try.underlying9) H enc W fuel _ _ hf
  obtain ⟨b0, rfl⟩ := okWide_string Try.underlying9 (hval 0 9 v0 rfl rfl)
  obtain ⟨e0, l0⟩ := hx0
  simp [Value.cells] at e0
  subst e0
  clear hA0 hval0 hsz0
  refine Calls.mono (laws_FnExactRepoNew.calls W (Ok.nil W) x0 l0 (fun r => r = true) (laws_FnExactRepoNew.law x0 hv0)) fun e W' ⟨v, he, r, hr, hq, hg⟩ => ?_
  subst he; subst hr; subst hq
  have bel := Gr.below hg
  exact ⟨_, rfl, _, _, _, [], _, [], hW', trodAll_mk1 (shut_bool Try.underlying4 _), (trodAll_cons_mk (Below.trod laidOut (by kernel_rfl) (of_decide_eq_true (by kernel_rfl)) k0 bel lt0) trodAll_mk0), rfl, bel.frame _, fun h => by cases h⟩
theorem over : Rows.fnExactRepoNewRow.holds Try.pinned (OpenSpec.ofChange Rows.fnExactRepoNewSpec) :=
  OpenClaim.holds_of_wide 4 Try.f4 rfl rfl rfl rfl rfl rfl rfl ⟨rfl, rfl, rfl, rfl, rfl⟩ rfl rfl rfl rfl rfl (by kernel_rfl) Try.func4 (by kernel_rfl)
    (of_decide_eq_true (by kernel_rfl)) (by unfold Func.isWrapper; first | (rw [if_pos (by decide +kernel)]; kernel_rfl) | (rw [if_neg (by decide +kernel)]; exact ⟨rfl, rfl⟩))
    (fun os started H enc _ => lifted os started H enc)
theorem proved : Rows.FnExactRepoNewSaid := over
#print axioms proved
end Go.Proofs.Ytndjggncgpjolaa.rFnExactRepoNew
namespace Go.Proofs.Ytndjggncgpjolaa
theorem fnExactRepoNew_holds : Rows.FnExactRepoNewSaid := rFnExactRepoNew.proved
end Go.Proofs.Ytndjggncgpjolaa
