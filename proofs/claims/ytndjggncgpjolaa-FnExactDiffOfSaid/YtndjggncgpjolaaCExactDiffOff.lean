/- It is proved here that the law FnExactDiffOf of the given program holds whatever it is handed: the walks through the code, the plain laws and the row, in this order.
   Conditions: none. -/
import Derived.Below
import Derived.ChangeArms
import Derived.ChangeOld
import Derived.ChangeSlices
import Derived.DataReads
import Derived.Deep.Quiet
import Derived.KernelRfl
import Derived.Laws.Build
import Derived.Laws.IdiomStrings
import Derived.Laws.OwnMore
import Derived.Laws.Slices
import Derived.Laws.StructEq
import Derived.OpenShut
import Derived.ProofKit
import Derived.Shelf.Slices.Cells
import Derived.Shelf.Slices.CompactS
import Derived.Shelf.Slices.In.SortNone
import Derived.Shelf.Small.Bits
import Derived.Shelf.Sort.Plain
import Derived.Shelf.Strconv.Itoa0
import Derived.ShutString
import Derived.SizedLaws
import Derived.StillTail
import Derived.Test.YtndjggncgpjolaaProg
import Derived.Test.YtndjggncgpjolaaRows
import Derived.WalkKit
import Derived.Test.YtndjggncgpjolaaCExactDiffOfa
import Derived.Test.YtndjggncgpjolaaCExactDiffOfb
import Derived.Test.YtndjggncgpjolaaCExactDiffOfc
import Derived.Test.YtndjggncgpjolaaCExactDiffOfd
import Derived.Test.YtndjggncgpjolaaCExactDiffOfe
namespace Go.Proofs.Ytndjggncgpjolaa
open Go.RowKit
set_option linter.unusedVariables false
def laws_heldChangeS.E (a : List Change) (k : Int) (Q : Int → Prop) : Prop :=
  (∃ (I18 : Int → Int → Prop) (mu19 : Int → Int → Nat), I18 k 0 ∧ ∀ (k3 : Int) (i2 : Int), I18 k3 i2 → (if decide (i2 < (a.length : Int)) then ((0 : Int) ≤ i2 ∧ i2 < (a.length : Int)) ∧ (∃ q : Str, laws_markText.E k3 (fun x => x = q) ∧ (Lim q) ∧ (if ((nth a i2).Id) != q then Q (-1) else ((a.length : Int) ≤ 9223372036854775807 → I64 (k3 + 1)) ∧ ((0 : Int) ≤ i2 ∧ i2 < (a.length : Int)) ∧ ((0 : Int) ≤ k3 + 1 ∧ (0 : Int) < 3) ∧ (if ((nth a i2).Had) != (((k3 + 1) % 3) == 0) then Q (-1) else ((a.length : Int) ≤ 9223372036854775807 → I64 (k3 + 1 + 1)) ∧ ((0 : Int) ≤ i2 ∧ i2 < (a.length : Int)) ∧ (∃ q2 : Str, laws_markText.E (k3 + 1 + 1) (fun x => x = q2) ∧ (Lim q2) ∧ (if ((nth a i2).Was.Id) != q2 then Q (-1) else ((a.length : Int) ≤ 9223372036854775807 → I64 (k3 + 1 + 1 + 1)) ∧ ((0 : Int) ≤ i2 ∧ i2 < (a.length : Int)) ∧ (if ((nth a i2).Was.Shape.Kind) != (k3 + 1 + 1 + 1) then Q (-1) else ((a.length : Int) ≤ 9223372036854775807 → I64 (k3 + 1 + 1 + 1 + 1)) ∧ ((0 : Int) ≤ i2 ∧ i2 < (a.length : Int)) ∧ laws_heldPtS.E ((nth a i2).Was.Shape.Pts) (k3 + 1 + 1 + 1 + 1) (fun r3 => (if decide (r3 < 0) then Q (-1) else ((0 : Int) ≤ i2 ∧ i2 < (a.length : Int)) ∧ laws_heldTagS.E ((nth a i2).Was.Tags) r3 (fun r4 => (if decide (r4 < 0) then Q (-1) else ((0 : Int) ≤ i2 ∧ i2 < (a.length : Int)) ∧ ((0 : Int) ≤ r4 ∧ (0 : Int) < 3) ∧ (if ((nth a i2).Has) != ((r4 % 3) == 0) then Q (-1) else ((a.length : Int) ≤ 9223372036854775807 → I64 (r4 + 1)) ∧ ((0 : Int) ≤ i2 ∧ i2 < (a.length : Int)) ∧ (∃ q3 : Str, laws_markText.E (r4 + 1) (fun x => x = q3) ∧ (Lim q3) ∧ (if ((nth a i2).Now.Id) != q3 then Q (-1) else ((a.length : Int) ≤ 9223372036854775807 → I64 (r4 + 1 + 1)) ∧ ((0 : Int) ≤ i2 ∧ i2 < (a.length : Int)) ∧ (if ((nth a i2).Now.Shape.Kind) != (r4 + 1 + 1) then Q (-1) else ((a.length : Int) ≤ 9223372036854775807 → I64 (r4 + 1 + 1 + 1)) ∧ ((0 : Int) ≤ i2 ∧ i2 < (a.length : Int)) ∧ laws_heldPtS.E ((nth a i2).Now.Shape.Pts) (r4 + 1 + 1 + 1) (fun r6 => (if decide (r6 < 0) then Q (-1) else ((0 : Int) ≤ i2 ∧ i2 < (a.length : Int)) ∧ laws_heldTagS.E ((nth a i2).Now.Tags) r6 (fun r7 => (if decide (r7 < 0) then Q (-1) else (-9223372036854775808 ≤ i2) ∧ I18 r7 (i2 + 1) ∧ mu19 r7 (i2 + 1) < mu19 k3 i2)))))))))))))))))) else Q k3))
set_option maxHeartbeats 8000000 in
set_option maxRecDepth 100000 in
theorem laws_heldChangeS.calls {O : Ob} (w0 : World) (hO : Ok w0 O) (a : List Change) (A1 : Option Addr) (n2 c3 : Nat) (hp4 : Sl kChange w0 (Fr O) (.slice A1 n2 c3) a) (k : Int) (Q : Int → Prop) (h : laws_heldChangeS.E a k Q) :
    Ret Try.prog 24 [.slice A1 n2 c3, vi k] w0 (fun v w' => ∃ (r0 : Int), v = vi r0 ∧ Q r0 ∧ Gr w0 w' none) := by
  have H : (∃ (I18 : Int → Int → Prop) (mu19 : Int → Int → Nat), I18 k 0 ∧ ∀ (k3 : Int) (i2 : Int), I18 k3 i2 → (if decide (i2 < (a.length : Int)) then ((0 : Int) ≤ i2 ∧ i2 < (a.length : Int)) ∧ (∃ q : Str, laws_markText.E k3 (fun x => x = q) ∧ (Lim q) ∧ (if ((nth a i2).Id) != q then Q (-1) else ((a.length : Int) ≤ 9223372036854775807 → I64 (k3 + 1)) ∧ ((0 : Int) ≤ i2 ∧ i2 < (a.length : Int)) ∧ ((0 : Int) ≤ k3 + 1 ∧ (0 : Int) < 3) ∧ (if ((nth a i2).Had) != (((k3 + 1) % 3) == 0) then Q (-1) else ((a.length : Int) ≤ 9223372036854775807 → I64 (k3 + 1 + 1)) ∧ ((0 : Int) ≤ i2 ∧ i2 < (a.length : Int)) ∧ (∃ q2 : Str, laws_markText.E (k3 + 1 + 1) (fun x => x = q2) ∧ (Lim q2) ∧ (if ((nth a i2).Was.Id) != q2 then Q (-1) else ((a.length : Int) ≤ 9223372036854775807 → I64 (k3 + 1 + 1 + 1)) ∧ ((0 : Int) ≤ i2 ∧ i2 < (a.length : Int)) ∧ (if ((nth a i2).Was.Shape.Kind) != (k3 + 1 + 1 + 1) then Q (-1) else ((a.length : Int) ≤ 9223372036854775807 → I64 (k3 + 1 + 1 + 1 + 1)) ∧ ((0 : Int) ≤ i2 ∧ i2 < (a.length : Int)) ∧ laws_heldPtS.E ((nth a i2).Was.Shape.Pts) (k3 + 1 + 1 + 1 + 1) (fun r3 => (if decide (r3 < 0) then Q (-1) else ((0 : Int) ≤ i2 ∧ i2 < (a.length : Int)) ∧ laws_heldTagS.E ((nth a i2).Was.Tags) r3 (fun r4 => (if decide (r4 < 0) then Q (-1) else ((0 : Int) ≤ i2 ∧ i2 < (a.length : Int)) ∧ ((0 : Int) ≤ r4 ∧ (0 : Int) < 3) ∧ (if ((nth a i2).Has) != ((r4 % 3) == 0) then Q (-1) else ((a.length : Int) ≤ 9223372036854775807 → I64 (r4 + 1)) ∧ ((0 : Int) ≤ i2 ∧ i2 < (a.length : Int)) ∧ (∃ q3 : Str, laws_markText.E (r4 + 1) (fun x => x = q3) ∧ (Lim q3) ∧ (if ((nth a i2).Now.Id) != q3 then Q (-1) else ((a.length : Int) ≤ 9223372036854775807 → I64 (r4 + 1 + 1)) ∧ ((0 : Int) ≤ i2 ∧ i2 < (a.length : Int)) ∧ (if ((nth a i2).Now.Shape.Kind) != (r4 + 1 + 1) then Q (-1) else ((a.length : Int) ≤ 9223372036854775807 → I64 (r4 + 1 + 1 + 1)) ∧ ((0 : Int) ≤ i2 ∧ i2 < (a.length : Int)) ∧ laws_heldPtS.E ((nth a i2).Now.Shape.Pts) (r4 + 1 + 1 + 1) (fun r6 => (if decide (r6 < 0) then Q (-1) else ((0 : Int) ≤ i2 ∧ i2 < (a.length : Int)) ∧ laws_heldTagS.E ((nth a i2).Now.Tags) r6 (fun r7 => (if decide (r7 < 0) then Q (-1) else (-9223372036854775808 ≤ i2) ∧ I18 r7 (i2 + 1) ∧ mu19 r7 (i2 + 1) < mu19 k3 i2)))))))))))))))))) else Q k3)) := h
  clear h
  have hc0 := Ct.init hO
  refine Ret_enter Try.func24 rfl 131 rfl [.tmp 4] rfl rfl ?_
  refine W_seq ?_
  refine W_reg ?_
  refine L_pu (P_assign (vi 0) rfl) ?_
  refine L_nil ?_
  refine W_seq ?_
  refine W_seq ?_
  refine W_reg ?_
  refine L_pu (P_assign (vi 0) rfl) ?_
  refine L_nil ?_
  refine W_block ?_
  obtain ⟨I18, mu19, hI20, H⟩ := H
  refine W_loop (α := Int × Int) (fun (sv__ : Int × Int) t w14 => match sv__ with | (k3, i2) => I18 k3 i2 ∧ Has t [(0, .slice A1 n2 c3), (1, vi k3), (5, vi i2)] ∧ Ct [] w0 w14 [] O ∧ Sl kChange w14 (Fr ([] ++ O)) (.slice A1 n2 c3) a) (fun (sv__ : Int × Int) => match sv__ with | (k3, i2) => mu19 k3 i2) (k, 0) ⟨hI20, ⟨rfl, rfl, rfl, trivial⟩, hc0, hp4⟩ ?_
  rintro ⟨k3, i2⟩ _ w14 ⟨hI20, hh22, hc16, h17⟩
  obtain ⟨u23, rfl⟩ := Has.ins hh22
  have H := H k3 i2 hI20
  refine W_seq ?_
  refine W_seq ?_
  refine W_reg ?_
  refine L_pu (P_move (vi i2) rfl) ?_
  refine L_pu (P_move (.slice A1 n2 c3) rfl) ?_
  have hl24 := h17.le
  refine L_pu (P_len Try.underlying43 A1 n2 c3 h17.len rfl) ?_
  refine L_pu (P_cmp i2 (a.length : Int) (decide (i2 < (a.length : Int))) rfl rfl rfl) ?_
  refine L_nil ?_
  refine W_cond (decide (i2 < (a.length : Int))) rfl (fun hq25 => ?_) (fun hq25 => ?_)
  · have H := ite_t H hq25
    refine W_skip ?_
    refine W_seq ?_
    refine W_block ?_
    refine W_seq ?_
    refine W_seq ?_
    refine W_draw (fun x => Gr w14 x none) (by kernel_rfl) (by kernel_rfl) (Gr.drew _) ?_
    refine Q_pu (P_move (.slice A1 n2 c3) rfl) ?_
    refine Q_pu (P_move (vi i2) rfl) ?_
    obtain ⟨hb26, H⟩ := H
    obtain ⟨ad27, cs28, hA29, hS32, hR30, hcl31⟩ := h17.get default (by decide) i2 hb26
    obtain ⟨A35, n36, c37, A40, n41, c42, A46, n47, c48, A51, n52, c53, rfl, hs33, hs34, h38, h43, hs45, h49, h54⟩ := kChange.op hR30
    refine Q_pu (P_ia Try.underlying43 se43 A1 ad27 n2 c3 h17.len i2 rfl hA29 rfl hb26) ?_
    refine Q_pu (P_fa fa103_0 (ad27.add (i2.toNat * 11)) ((ad27.add (i2.toNat * 11)).add 0) rfl rfl) ?_
    refine Q_pu (P_ld ag9 cQ ((ad27.add (i2.toNat * 11)).add 0) (vs ((nth a i2).Id)) rfl (hcl31 0 _ rfl)) ?_
    refine Q_pu (P_move (vi k3) rfl) ?_
    obtain ⟨q, hE62, hs63, H⟩ := H
    refine Q_call go67 [vi k3] rfl (vs q) (fun w g => (laws_markText.calls w (hc16.k0 g).ok k3 _ hE62).mono ?_) ?_
    · rintro _ w ⟨r, rfl, rfl, g2, _⟩
      exact ⟨rfl, Gr.t0 g g2⟩
    refine Q_pu (P_scmp ((nth a i2).Id) q (((nth a i2).Id) != q) rfl rfl rfl) ?_
    refine Q_nil fun w64 g65 => ?_
    have hc67 := hc16.k0 g65
    refine W_cond (((nth a i2).Id) != q) rfl (fun hq68 => ?_) (fun hq68 => ?_)
    · have H := ite_t H hq68
      refine W_seq ?_
      refine W_reg ?_
      refine L_pu (P_assign (vi (-1)) rfl) ?_
      refine L_nil ?_
      refine W_ret ?_
      exact ⟨[vi (-1)], ⟨_, rfl, rfl⟩, (-1), rfl, H, hc67.gr.g0⟩
    · have H := ite_f H hq68
      refine W_skip ?_
      refine W_seq ?_
      refine W_reg ?_
      refine L_pu (P_move (vi k3) rfl) ?_
      obtain ⟨hb69, H⟩ := H
      have hi70 := hb69 (len_le hl24)
      refine L_pu (P_add k3 1 rfl rfl hi70) ?_
      refine L_pu (P_assign (vi (k3 + 1)) rfl) ?_
      refine L_nil ?_
      refine W_seq ?_
      refine W_seq ?_
      refine W_reg ?_
      refine L_pu (P_move (.slice A1 n2 c3) rfl) ?_
      refine L_pu (P_move (vi i2) rfl) ?_
      obtain ⟨hb71, H⟩ := H
      obtain ⟨ad72, cs73, hA74, hS77, hR75, hcl76⟩ := (h17.st (.new _ g65)).get default (by decide) i2 hb71
      obtain ⟨A80, n81, c82, A85, n86, c87, A91, n92, c93, A96, n97, c98, rfl, hs78, hs79, h83, h88, hs90, h94, h99⟩ := kChange.op hR75
      refine L_pu (P_ia Try.underlying43 se43 A1 ad72 n2 c3 (h17.st (.new _ g65)).len i2 rfl hA74 rfl hb71) ?_
      refine L_pu (P_fa fa103_1 (ad72.add (i2.toNat * 11)) ((ad72.add (i2.toNat * 11)).add 1) rfl rfl) ?_
      refine L_pu (P_ld ag4 cL ((ad72.add (i2.toNat * 11)).add 1) (vb ((nth a i2).Had)) rfl (hcl76 1 _ rfl)) ?_
      refine L_pu (P_move (vi (k3 + 1)) rfl) ?_
      obtain ⟨hb101, H⟩ := H
      refine L_pu (P_rem (k3 + 1) 3 rfl rfl hb101) ?_
      refine L_pu (P_cmp ((k3 + 1) % 3) 0 (((k3 + 1) % 3) == 0) rfl rfl rfl) ?_
      refine L_pu (P_bcmp Try.underlying4 ((nth a i2).Had) (((k3 + 1) % 3) == 0) (((nth a i2).Had) != (((k3 + 1) % 3) == 0)) rfl rfl rfl) ?_
      refine L_nil ?_
      refine W_cond (((nth a i2).Had) != (((k3 + 1) % 3) == 0)) rfl (fun hq102 => ?_) (fun hq102 => ?_)
      · have H := ite_t H hq102
        refine W_seq ?_
        refine W_reg ?_
        refine L_pu (P_assign (vi (-1)) rfl) ?_
        refine L_nil ?_
        refine W_ret ?_
        exact ⟨[vi (-1)], ⟨_, rfl, rfl⟩, (-1), rfl, H, hc67.gr.g0⟩
      · have H := ite_f H hq102
        refine W_skip ?_
        refine W_seq ?_
        refine W_reg ?_
        refine L_pu (P_move (vi (k3 + 1)) rfl) ?_
        obtain ⟨hb103, H⟩ := H
        have hi104 := hb103 (len_le hl24)
        refine L_pu (P_add (k3 + 1) 1 rfl rfl hi104) ?_
        refine L_pu (P_assign (vi (k3 + 1 + 1)) rfl) ?_
        refine L_nil ?_
        refine W_seq ?_
        refine W_seq ?_
        refine W_draw (fun x => Gr w64 x none) (by kernel_rfl) (by kernel_rfl) (Gr.drew _) ?_
        refine Q_pu (P_move (.slice A1 n2 c3) rfl) ?_
        refine Q_pu (P_move (vi i2) rfl) ?_
        obtain ⟨hb105, H⟩ := H
        obtain ⟨ad106, cs107, hA108, hS111, hR109, hcl110⟩ := (h17.st (.new _ g65)).get default (by decide) i2 hb105
        obtain ⟨A114, n115, c116, A119, n120, c121, A125, n126, c127, A130, n131, c132, rfl, hs112, hs113, h117, h122, hs124, h128, h133⟩ := kChange.op hR109
        refine Q_pu (P_ia Try.underlying43 se43 A1 ad106 n2 c3 (h17.st (.new _ g65)).len i2 rfl hA108 rfl hb105) ?_
        refine Q_pu (P_fa fa103_2 (ad106.add (i2.toNat * 11)) ((ad106.add (i2.toNat * 11)).add 2) rfl rfl) ?_
        refine Q_pu (P_fa fa71_0 ((ad106.add (i2.toNat * 11)).add 2) (((ad106.add (i2.toNat * 11)).add 2).add 0) rfl rfl) ?_
        refine Q_pu (P_ld ag9 cQ (((ad106.add (i2.toNat * 11)).add 2).add 0) (vs ((nth a i2).Was.Id)) rfl ((congrArg w64.cell? (add_add _ _ _)).trans (hcl110 2 _ rfl))) ?_
        refine Q_pu (P_move (vi (k3 + 1 + 1)) rfl) ?_
        obtain ⟨q2, hE141, hs142, H⟩ := H
        refine Q_call go67 [vi (k3 + 1 + 1)] rfl (vs q2) (fun w g => (laws_markText.calls w (hc67.k0 g).ok (k3 + 1 + 1) _ hE141).mono ?_) ?_
        · rintro _ w ⟨r, rfl, rfl, g2, _⟩
          exact ⟨rfl, Gr.t0 g g2⟩
        refine Q_pu (P_scmp ((nth a i2).Was.Id) q2 (((nth a i2).Was.Id) != q2) rfl rfl rfl) ?_
        refine Q_nil fun w143 g144 => ?_
        have hc146 := hc67.k0 g144
        refine W_cond (((nth a i2).Was.Id) != q2) rfl (fun hq147 => ?_) (fun hq147 => ?_)
        · have H := ite_t H hq147
          refine W_seq ?_
          refine W_reg ?_
          refine L_pu (P_assign (vi (-1)) rfl) ?_
          refine L_nil ?_
          refine W_ret ?_
          exact ⟨[vi (-1)], ⟨_, rfl, rfl⟩, (-1), rfl, H, hc146.gr.g0⟩
        · have H := ite_f H hq147
          refine W_skip ?_
          refine W_seq ?_
          refine W_reg ?_
          refine L_pu (P_move (vi (k3 + 1 + 1)) rfl) ?_
          obtain ⟨hb148, H⟩ := H
          have hi149 := hb148 (len_le hl24)
          refine L_pu (P_add (k3 + 1 + 1) 1 rfl rfl hi149) ?_
          refine L_pu (P_assign (vi (k3 + 1 + 1 + 1)) rfl) ?_
          refine L_nil ?_
          refine W_seq ?_
          refine W_seq ?_
          refine W_reg ?_
          refine L_pu (P_move (.slice A1 n2 c3) rfl) ?_
          refine L_pu (P_move (vi i2) rfl) ?_
          obtain ⟨hb150, H⟩ := H
          have h157 := ((h17.st (.new _ g65)).st (.new _ g144))
          obtain ⟨ad151, cs152, hA153, hS156, hR154, hcl155⟩ := h157.get default (by decide) i2 hb150
          obtain ⟨A160, n161, c162, A165, n166, c167, A171, n172, c173, A176, n177, c178, rfl, hs158, hs159, h163, h168, hs170, h174, h179⟩ := kChange.op hR154
          refine L_pu (P_ia Try.underlying43 se43 A1 ad151 n2 c3 h157.len i2 rfl hA153 rfl hb150) ?_
          refine L_pu (P_fa fa103_2 (ad151.add (i2.toNat * 11)) ((ad151.add (i2.toNat * 11)).add 2) rfl rfl) ?_
          refine L_pu (P_fa fa71_1 ((ad151.add (i2.toNat * 11)).add 2) (((ad151.add (i2.toNat * 11)).add 2).add 1) rfl rfl) ?_
          refine L_pu (P_fa fa68_0 (((ad151.add (i2.toNat * 11)).add 2).add 1) ((((ad151.add (i2.toNat * 11)).add 2).add 1).add 0) rfl rfl) ?_
          refine L_pu (P_ld ag3 cL ((((ad151.add (i2.toNat * 11)).add 2).add 1).add 0) (vi ((nth a i2).Was.Shape.Kind)) rfl ((congrArg w143.cell? (add_add _ _ _)).trans (hcl155 3 _ rfl))) ?_
          refine L_pu (P_move (vi (k3 + 1 + 1 + 1)) rfl) ?_
          refine L_pu (P_cmp ((nth a i2).Was.Shape.Kind) (k3 + 1 + 1 + 1) (((nth a i2).Was.Shape.Kind) != (k3 + 1 + 1 + 1)) rfl rfl rfl) ?_
          refine L_nil ?_
          refine W_cond (((nth a i2).Was.Shape.Kind) != (k3 + 1 + 1 + 1)) rfl (fun hq181 => ?_) (fun hq181 => ?_)
          · have H := ite_t H hq181
            refine W_seq ?_
            refine W_reg ?_
            refine L_pu (P_assign (vi (-1)) rfl) ?_
            refine L_nil ?_
            refine W_ret ?_
            exact ⟨[vi (-1)], ⟨_, rfl, rfl⟩, (-1), rfl, H, hc146.gr.g0⟩
          · have H := ite_f H hq181
            refine W_skip ?_
            refine W_seq ?_
            refine W_reg ?_
            refine L_pu (P_move (vi (k3 + 1 + 1 + 1)) rfl) ?_
            obtain ⟨hb182, H⟩ := H
            have hi183 := hb182 (len_le hl24)
            refine L_pu (P_add (k3 + 1 + 1 + 1) 1 rfl rfl hi183) ?_
            refine L_pu (P_assign (vi (k3 + 1 + 1 + 1 + 1)) rfl) ?_
            refine L_nil ?_
            refine W_seq ?_
            refine W_reg ?_
            refine L_pu (P_move (.slice A1 n2 c3) rfl) ?_
            refine L_pu (P_move (vi i2) rfl) ?_
            obtain ⟨hb184, H⟩ := H
            obtain ⟨ad185, cs186, hA187, hS190, hR188, hcl189⟩ := h157.get default (by decide) i2 hb184
            obtain ⟨A193, n194, c195, A198, n199, c200, A204, n205, c206, A209, n210, c211, rfl, hs191, hs192, h196, h201, hs203, h207, h212⟩ := kChange.op hR188
            refine L_pu (P_ia Try.underlying43 se43 A1 ad185 n2 c3 h157.len i2 rfl hA187 rfl hb184) ?_
            refine L_pu (P_fa fa103_2 (ad185.add (i2.toNat * 11)) ((ad185.add (i2.toNat * 11)).add 2) rfl rfl) ?_
            refine L_pu (P_fa fa71_1 ((ad185.add (i2.toNat * 11)).add 2) (((ad185.add (i2.toNat * 11)).add 2).add 1) rfl rfl) ?_
            refine L_pu (P_fa fa68_1 (((ad185.add (i2.toNat * 11)).add 2).add 1) ((((ad185.add (i2.toNat * 11)).add 2).add 1).add 1) rfl rfl) ?_
            refine L_pu (P_ld ag23 cL ((((ad185.add (i2.toNat * 11)).add 2).add 1).add 1) (.slice A193 n194 c195) rfl ((congrArg w143.cell? (add_add _ _ _)).trans (hcl189 4 _ rfl))) ?_
            refine L_pu (P_move (vi (k3 + 1 + 1 + 1 + 1)) rfl) ?_
            refine L_call go70 [.slice A193 n194 c195, vi (k3 + 1 + 1 + 1 + 1)] rfl ((laws_heldPtS.calls w143 hc146.ok ((nth a i2).Was.Shape.Pts) A193 n194 c195 h196 (k3 + 1 + 1 + 1 + 1) _ H).mono ?_)
            rintro _ w214 ⟨r3, rfl, H, g215⟩
            have hc219 := hc146.k0 g215
            refine L_pu (P_assign (vi r3) rfl) ?_
            refine L_nil ?_
            refine W_seq ?_
            refine W_seq ?_
            refine W_reg ?_
            refine L_pu (P_move (vi r3) rfl) ?_
            refine L_pu (P_cmp r3 0 (decide (r3 < 0)) rfl rfl rfl) ?_
            refine L_nil ?_
            refine W_cond (decide (r3 < 0)) rfl (fun hq220 => ?_) (fun hq220 => ?_)
            · have H := ite_t H hq220
              refine W_seq ?_
              refine W_reg ?_
              refine L_pu (P_assign (vi (-1)) rfl) ?_
              refine L_nil ?_
              refine W_ret ?_
              exact ⟨[vi (-1)], ⟨_, rfl, rfl⟩, (-1), rfl, H, hc219.gr.g0⟩
            · have H := ite_f H hq220
              refine W_skip ?_
              refine W_seq ?_
              refine W_reg ?_
              refine L_pu (P_move (.slice A1 n2 c3) rfl) ?_
              refine L_pu (P_move (vi i2) rfl) ?_
              obtain ⟨hb221, H⟩ := H
              obtain ⟨ad222, cs223, hA224, hS227, hR225, hcl226⟩ := (h157.st (.new _ g215)).get default (by decide) i2 hb221
              obtain ⟨A230, n231, c232, A235, n236, c237, A241, n242, c243, A246, n247, c248, rfl, hs228, hs229, h233, h238, hs240, h244, h249⟩ := kChange.op hR225
              refine L_pu (P_ia Try.underlying43 se43 A1 ad222 n2 c3 (h157.st (.new _ g215)).len i2 rfl hA224 rfl hb221) ?_
              refine L_pu (P_fa fa103_2 (ad222.add (i2.toNat * 11)) ((ad222.add (i2.toNat * 11)).add 2) rfl rfl) ?_
              refine L_pu (P_fa fa71_2 ((ad222.add (i2.toNat * 11)).add 2) (((ad222.add (i2.toNat * 11)).add 2).add 3) rfl rfl) ?_
              refine L_pu (P_ld ag69 cL (((ad222.add (i2.toNat * 11)).add 2).add 3) (.slice A235 n236 c237) rfl ((congrArg w214.cell? (add_add _ _ _)).trans (hcl226 5 _ rfl))) ?_
              refine L_pu (P_move (vi r3) rfl) ?_
              refine L_call go71 [.slice A235 n236 c237, vi r3] rfl ((laws_heldTagS.calls w214 hc219.ok ((nth a i2).Was.Tags) A235 n236 c237 h238 r3 _ H).mono ?_)
              rintro _ w251 ⟨r4, rfl, H, g252⟩
              have hc256 := hc219.k0 g252
              refine L_pu (P_assign (vi r4) rfl) ?_
              refine L_nil ?_
              refine W_seq ?_
              refine W_seq ?_
              refine W_reg ?_
              refine L_pu (P_move (vi r4) rfl) ?_
              refine L_pu (P_cmp r4 0 (decide (r4 < 0)) rfl rfl rfl) ?_
              refine L_nil ?_
              refine W_cond (decide (r4 < 0)) rfl (fun hq257 => ?_) (fun hq257 => ?_)
              · have H := ite_t H hq257
                refine W_seq ?_
                refine W_reg ?_
                refine L_pu (P_assign (vi (-1)) rfl) ?_
                refine L_nil ?_
                refine W_ret ?_
                exact ⟨[vi (-1)], ⟨_, rfl, rfl⟩, (-1), rfl, H, hc256.gr.g0⟩
              · have H := ite_f H hq257
                refine W_skip ?_
                refine W_seq ?_
                refine W_seq ?_
                refine W_reg ?_
                refine L_pu (P_move (.slice A1 n2 c3) rfl) ?_
                refine L_pu (P_move (vi i2) rfl) ?_
                obtain ⟨hb258, H⟩ := H
                have h265 := ((h157.st (.new _ g215)).st (.new _ g252))
                obtain ⟨ad259, cs260, hA261, hS264, hR262, hcl263⟩ := h265.get default (by decide) i2 hb258
                obtain ⟨A268, n269, c270, A273, n274, c275, A279, n280, c281, A284, n285, c286, rfl, hs266, hs267, h271, h276, hs278, h282, h287⟩ := kChange.op hR262
                refine L_pu (P_ia Try.underlying43 se43 A1 ad259 n2 c3 h265.len i2 rfl hA261 rfl hb258) ?_
                refine L_pu (P_fa fa103_3 (ad259.add (i2.toNat * 11)) ((ad259.add (i2.toNat * 11)).add 6) rfl rfl) ?_
                refine L_pu (P_ld ag4 cL ((ad259.add (i2.toNat * 11)).add 6) (vb ((nth a i2).Has)) rfl (hcl263 6 _ rfl)) ?_
                refine L_pu (P_move (vi r4) rfl) ?_
                obtain ⟨hb289, H⟩ := H
                refine L_pu (P_rem r4 3 rfl rfl hb289) ?_
                refine L_pu (P_cmp (r4 % 3) 0 ((r4 % 3) == 0) rfl rfl rfl) ?_
                refine L_pu (P_bcmp Try.underlying4 ((nth a i2).Has) ((r4 % 3) == 0) (((nth a i2).Has) != ((r4 % 3) == 0)) rfl rfl rfl) ?_
                refine L_nil ?_
                refine W_cond (((nth a i2).Has) != ((r4 % 3) == 0)) rfl (fun hq290 => ?_) (fun hq290 => ?_)
                · have H := ite_t H hq290
                  refine W_seq ?_
                  refine W_reg ?_
                  refine L_pu (P_assign (vi (-1)) rfl) ?_
                  refine L_nil ?_
                  refine W_ret ?_
                  exact ⟨[vi (-1)], ⟨_, rfl, rfl⟩, (-1), rfl, H, hc256.gr.g0⟩
                · have H := ite_f H hq290
                  refine W_skip ?_
                  refine W_seq ?_
                  refine W_reg ?_
                  refine L_pu (P_move (vi r4) rfl) ?_
                  obtain ⟨hb291, H⟩ := H
                  have hi292 := hb291 (len_le hl24)
                  refine L_pu (P_add r4 1 rfl rfl hi292) ?_
                  refine L_pu (P_assign (vi (r4 + 1)) rfl) ?_
                  refine L_nil ?_
                  refine W_seq ?_
                  refine W_seq ?_
                  refine W_draw (fun x => Gr w251 x none) (by kernel_rfl) (by kernel_rfl) (Gr.drew _) ?_
                  refine Q_pu (P_move (.slice A1 n2 c3) rfl) ?_
                  refine Q_pu (P_move (vi i2) rfl) ?_
                  obtain ⟨hb293, H⟩ := H
                  obtain ⟨ad294, cs295, hA296, hS299, hR297, hcl298⟩ := h265.get default (by decide) i2 hb293
                  obtain ⟨A302, n303, c304, A307, n308, c309, A313, n314, c315, A318, n319, c320, rfl, hs300, hs301, h305, h310, hs312, h316, h321⟩ := kChange.op hR297
                  refine Q_pu (P_ia Try.underlying43 se43 A1 ad294 n2 c3 h265.len i2 rfl hA296 rfl hb293) ?_
                  refine Q_pu (P_fa fa103_4 (ad294.add (i2.toNat * 11)) ((ad294.add (i2.toNat * 11)).add 7) rfl rfl) ?_
                  refine Q_pu (P_fa fa71_0 ((ad294.add (i2.toNat * 11)).add 7) (((ad294.add (i2.toNat * 11)).add 7).add 0) rfl rfl) ?_
                  refine Q_pu (P_ld ag9 cQ (((ad294.add (i2.toNat * 11)).add 7).add 0) (vs ((nth a i2).Now.Id)) rfl ((congrArg w251.cell? (add_add _ _ _)).trans (hcl298 7 _ rfl))) ?_
                  refine Q_pu (P_move (vi (r4 + 1)) rfl) ?_
                  obtain ⟨q3, hE329, hs330, H⟩ := H
                  refine Q_call go67 [vi (r4 + 1)] rfl (vs q3) (fun w g => (laws_markText.calls w (hc256.k0 g).ok (r4 + 1) _ hE329).mono ?_) ?_
                  · rintro _ w ⟨r, rfl, rfl, g2, _⟩
                    exact ⟨rfl, Gr.t0 g g2⟩
                  refine Q_pu (P_scmp ((nth a i2).Now.Id) q3 (((nth a i2).Now.Id) != q3) rfl rfl rfl) ?_
                  refine Q_nil fun w331 g332 => ?_
                  have hc334 := hc256.k0 g332
                  refine W_cond (((nth a i2).Now.Id) != q3) rfl (fun hq335 => ?_) (fun hq335 => ?_)
                  · have H := ite_t H hq335
                    refine W_seq ?_
                    refine W_reg ?_
                    refine L_pu (P_assign (vi (-1)) rfl) ?_
                    refine L_nil ?_
                    refine W_ret ?_
                    exact ⟨[vi (-1)], ⟨_, rfl, rfl⟩, (-1), rfl, H, hc334.gr.g0⟩
                  · have H := ite_f H hq335
                    refine W_skip ?_
                    refine W_seq ?_
                    refine W_reg ?_
                    refine L_pu (P_move (vi (r4 + 1)) rfl) ?_
                    obtain ⟨hb336, H⟩ := H
                    have hi337 := hb336 (len_le hl24)
                    refine L_pu (P_add (r4 + 1) 1 rfl rfl hi337) ?_
                    refine L_pu (P_assign (vi (r4 + 1 + 1)) rfl) ?_
                    refine L_nil ?_
                    refine W_seq ?_
                    refine W_seq ?_
                    refine W_reg ?_
                    refine L_pu (P_move (.slice A1 n2 c3) rfl) ?_
                    refine L_pu (P_move (vi i2) rfl) ?_
                    obtain ⟨hb338, H⟩ := H
                    obtain ⟨ad339, cs340, hA341, hS344, hR342, hcl343⟩ := (h265.st (.new _ g332)).get default (by decide) i2 hb338
                    obtain ⟨A347, n348, c349, A352, n353, c354, A358, n359, c360, A363, n364, c365, rfl, hs345, hs346, h350, h355, hs357, h361, h366⟩ := kChange.op hR342
                    refine L_pu (P_ia Try.underlying43 se43 A1 ad339 n2 c3 (h265.st (.new _ g332)).len i2 rfl hA341 rfl hb338) ?_
                    refine L_pu (P_fa fa103_4 (ad339.add (i2.toNat * 11)) ((ad339.add (i2.toNat * 11)).add 7) rfl rfl) ?_
                    refine L_pu (P_fa fa71_1 ((ad339.add (i2.toNat * 11)).add 7) (((ad339.add (i2.toNat * 11)).add 7).add 1) rfl rfl) ?_
                    refine L_pu (P_fa fa68_0 (((ad339.add (i2.toNat * 11)).add 7).add 1) ((((ad339.add (i2.toNat * 11)).add 7).add 1).add 0) rfl rfl) ?_
                    refine L_pu (P_ld ag3 cL ((((ad339.add (i2.toNat * 11)).add 7).add 1).add 0) (vi ((nth a i2).Now.Shape.Kind)) rfl ((congrArg w331.cell? (add_add _ _ _)).trans (hcl343 8 _ rfl))) ?_
                    refine L_pu (P_move (vi (r4 + 1 + 1)) rfl) ?_
                    refine L_pu (P_cmp ((nth a i2).Now.Shape.Kind) (r4 + 1 + 1) (((nth a i2).Now.Shape.Kind) != (r4 + 1 + 1)) rfl rfl rfl) ?_
                    refine L_nil ?_
                    refine W_cond (((nth a i2).Now.Shape.Kind) != (r4 + 1 + 1)) rfl (fun hq368 => ?_) (fun hq368 => ?_)
                    · have H := ite_t H hq368
                      refine W_seq ?_
                      refine W_reg ?_
                      refine L_pu (P_assign (vi (-1)) rfl) ?_
                      refine L_nil ?_
                      refine W_ret ?_
                      exact ⟨[vi (-1)], ⟨_, rfl, rfl⟩, (-1), rfl, H, hc334.gr.g0⟩
                    · have H := ite_f H hq368
                      refine W_skip ?_
                      refine W_seq ?_
                      refine W_reg ?_
                      refine L_pu (P_move (vi (r4 + 1 + 1)) rfl) ?_
                      obtain ⟨hb369, H⟩ := H
                      have hi370 := hb369 (len_le hl24)
                      refine L_pu (P_add (r4 + 1 + 1) 1 rfl rfl hi370) ?_
                      refine L_pu (P_assign (vi (r4 + 1 + 1 + 1)) rfl) ?_
                      refine L_nil ?_
                      refine W_seq ?_
                      refine W_reg ?_
                      refine L_pu (P_move (.slice A1 n2 c3) rfl) ?_
                      refine L_pu (P_move (vi i2) rfl) ?_
                      obtain ⟨hb371, H⟩ := H
                      obtain ⟨ad372, cs373, hA374, hS377, hR375, hcl376⟩ := (h265.st (.new _ g332)).get default (by decide) i2 hb371
                      obtain ⟨A380, n381, c382, A385, n386, c387, A391, n392, c393, A396, n397, c398, rfl, hs378, hs379, h383, h388, hs390, h394, h399⟩ := kChange.op hR375
                      refine L_pu (P_ia Try.underlying43 se43 A1 ad372 n2 c3 (h265.st (.new _ g332)).len i2 rfl hA374 rfl hb371) ?_
                      refine L_pu (P_fa fa103_4 (ad372.add (i2.toNat * 11)) ((ad372.add (i2.toNat * 11)).add 7) rfl rfl) ?_
                      refine L_pu (P_fa fa71_1 ((ad372.add (i2.toNat * 11)).add 7) (((ad372.add (i2.toNat * 11)).add 7).add 1) rfl rfl) ?_
                      refine L_pu (P_fa fa68_1 (((ad372.add (i2.toNat * 11)).add 7).add 1) ((((ad372.add (i2.toNat * 11)).add 7).add 1).add 1) rfl rfl) ?_
                      refine L_pu (P_ld ag23 cL ((((ad372.add (i2.toNat * 11)).add 7).add 1).add 1) (.slice A391 n392 c393) rfl ((congrArg w331.cell? (add_add _ _ _)).trans (hcl376 9 _ rfl))) ?_
                      refine L_pu (P_move (vi (r4 + 1 + 1 + 1)) rfl) ?_
                      refine L_call go70 [.slice A391 n392 c393, vi (r4 + 1 + 1 + 1)] rfl ((laws_heldPtS.calls w331 hc334.ok ((nth a i2).Now.Shape.Pts) A391 n392 c393 h394 (r4 + 1 + 1 + 1) _ H).mono ?_)
                      rintro _ w401 ⟨r6, rfl, H, g402⟩
                      have hc406 := hc334.k0 g402
                      refine L_pu (P_assign (vi r6) rfl) ?_
                      refine L_nil ?_
                      refine W_seq ?_
                      refine W_seq ?_
                      refine W_reg ?_
                      refine L_pu (P_move (vi r6) rfl) ?_
                      refine L_pu (P_cmp r6 0 (decide (r6 < 0)) rfl rfl rfl) ?_
                      refine L_nil ?_
                      refine W_cond (decide (r6 < 0)) rfl (fun hq407 => ?_) (fun hq407 => ?_)
                      · have H := ite_t H hq407
                        refine W_seq ?_
                        refine W_reg ?_
                        refine L_pu (P_assign (vi (-1)) rfl) ?_
                        refine L_nil ?_
                        refine W_ret ?_
                        exact ⟨[vi (-1)], ⟨_, rfl, rfl⟩, (-1), rfl, H, hc406.gr.g0⟩
                      · have H := ite_f H hq407
                        refine W_skip ?_
                        refine W_seq ?_
                        refine W_reg ?_
                        refine L_pu (P_move (.slice A1 n2 c3) rfl) ?_
                        refine L_pu (P_move (vi i2) rfl) ?_
                        obtain ⟨hb408, H⟩ := H
                        have h415 := ((h265.st (.new _ g332)).st (.new _ g402))
                        obtain ⟨ad409, cs410, hA411, hS414, hR412, hcl413⟩ := h415.get default (by decide) i2 hb408
                        obtain ⟨A418, n419, c420, A423, n424, c425, A429, n430, c431, A434, n435, c436, rfl, hs416, hs417, h421, h426, hs428, h432, h437⟩ := kChange.op hR412
                        refine L_pu (P_ia Try.underlying43 se43 A1 ad409 n2 c3 h415.len i2 rfl hA411 rfl hb408) ?_
                        refine L_pu (P_fa fa103_4 (ad409.add (i2.toNat * 11)) ((ad409.add (i2.toNat * 11)).add 7) rfl rfl) ?_
                        refine L_pu (P_fa fa71_2 ((ad409.add (i2.toNat * 11)).add 7) (((ad409.add (i2.toNat * 11)).add 7).add 3) rfl rfl) ?_
                        refine L_pu (P_ld ag69 cL (((ad409.add (i2.toNat * 11)).add 7).add 3) (.slice A434 n435 c436) rfl ((congrArg w401.cell? (add_add _ _ _)).trans (hcl413 10 _ rfl))) ?_
                        refine L_pu (P_move (vi r6) rfl) ?_
                        refine L_call go71 [.slice A434 n435 c436, vi r6] rfl ((laws_heldTagS.calls w401 hc406.ok ((nth a i2).Now.Tags) A434 n435 c436 h437 r6 _ H).mono ?_)
                        rintro _ w439 ⟨r7, rfl, H, g440⟩
                        have hc444 := hc406.k0 g440
                        refine L_pu (P_assign (vi r7) rfl) ?_
                        refine L_nil ?_
                        refine W_seq ?_
                        refine W_reg ?_
                        refine L_pu (P_move (vi r7) rfl) ?_
                        refine L_pu (P_cmp r7 0 (decide (r7 < 0)) rfl rfl rfl) ?_
                        refine L_nil ?_
                        refine W_cond (decide (r7 < 0)) rfl (fun hq445 => ?_) (fun hq445 => ?_)
                        · have H := ite_t H hq445
                          refine W_seq ?_
                          refine W_reg ?_
                          refine L_pu (P_assign (vi (-1)) rfl) ?_
                          refine L_nil ?_
                          refine W_ret ?_
                          exact ⟨[vi (-1)], ⟨_, rfl, rfl⟩, (-1), rfl, H, hc444.gr.g0⟩
                        · have H := ite_f H hq445
                          refine W_skip ?_
                          refine W_reg ?_
                          refine L_pu (P_move (vi i2) rfl) ?_
                          obtain ⟨hb447, H⟩ := H
                          have hi446 : I64 (i2 + 1) := i64_succ (of_decide_eq_true hq25) hl24 hb447
                          refine L_pu (P_add i2 1 rfl rfl hi446) ?_
                          refine L_pu (P_assign (vi (i2 + 1)) rfl) ?_
                          refine L_nil ?_
                          obtain ⟨hI448, hm449⟩ := H
                          exact ⟨(r7, i2 + 1), hm449, hI448, ⟨rfl, rfl, rfl, trivial⟩, hc444, (h415.st (.new _ g440))⟩
  · have H := ite_f H hq25
    refine W_exit (xin_hit ?_)
    refine W_seq ?_
    refine W_reg ?_
    refine L_pu (P_move (vi k3) rfl) ?_
    refine L_pu (P_assign (vi k3) rfl) ?_
    refine L_nil ?_
    refine W_ret ?_
    exact ⟨[vi k3], ⟨_, rfl, rfl⟩, k3, rfl, H, hc16.gr.g0⟩
end Go.Proofs.Ytndjggncgpjolaa

namespace Go.Proofs.Ytndjggncgpjolaa
set_option linter.unusedVariables false
set_option linter.unusedSimpArgs false
set_option linter.unusedSectionVars false
theorem laws_heldChangeS.lawk (a : List Change) (k : Int) (Q : Int → Prop) (ha : bulk a ≤ 1048576) (h0 : 0 ≤ k) (h1 : k ≤ 500000000) (hq : Q (mkL gChange a k).2) : laws_heldChangeS.E (mkL gChange a k).1 k Q := by
  unfold laws_heldChangeS.E
  have hbl := bulk_len a
  rw [mkL_len]
  refine ⟨fun k' i => ∃ u : Nat, i = u ∧ Hd gChange a k u k', fun _ i => (a.length - i).toNat, ⟨0, rfl, .zero a k⟩, ?_⟩
  rintro k' _ ⟨u, rfl, M⟩
  have hb := M.bd gChange_bd
  by_cases h : u < a.length
  · rw [if_pos (by simpa using h), M.nth h]
    have hm := bulk_mem (nth_mem a h)
    have hn := M.next h
    have hc := bulk_change (nth a (u : Int))
    have hb1 := bulk_feat (nth a (u : Int)).Was
    have hb2 := bulk_feat (nth a (u : Int)).Now
    have hp := mkL_bd gPt_bd (nth a (u : Int)).Was.Shape.Pts (k' + 4)
    have ht := mkL_bd gTag_bd (nth a (u : Int)).Was.Tags (mkL gPt (nth a (u : Int)).Was.Shape.Pts (k' + 4)).2
    have hq2 := mkL_bd gPt_bd (nth a (u : Int)).Now.Shape.Pts ((mkL gTag (nth a (u : Int)).Was.Tags (mkL gPt (nth a (u : Int)).Was.Shape.Pts (k' + 4)).2).2 + 3)
    have hs2 := mkL_bd gTag_bd (nth a (u : Int)).Now.Tags (mkL gPt (nth a (u : Int)).Now.Shape.Pts ((mkL gTag (nth a (u : Int)).Was.Tags (mkL gPt (nth a (u : Int)).Was.Shape.Pts (k' + 4)).2).2 + 3)).2
    simp only [Int.add_assoc, Int.reduceAdd]
    refine ⟨by omega, tx k', laws_markText.q _ (by omega) (by omega), tx_lim _ (by omega) (by omega), ?_⟩
    rw [if_neg (by simp [gChange])]
    refine ⟨fun _ => by unfold I64; omega, by omega, ⟨by omega, by omega⟩, ?_⟩
    rw [if_neg (by simp [gChange])]
    refine ⟨fun _ => by unfold I64; omega, by omega, tx (k' + 2), laws_markText.q _ (by omega) (by omega), tx_lim _ (by omega) (by omega), ?_⟩
    rw [if_neg (by simp [gChange])]
    refine ⟨fun _ => by unfold I64; omega, by omega, ?_⟩
    rw [if_neg (by simp [gChange])]
    refine ⟨fun _ => by unfold I64; omega, by omega, laws_heldPtS.lawk (nth a (u : Int)).Was.Shape.Pts _ _ (by omega) (by omega) (by omega) ?_⟩
    rw [if_neg (by rw [decide_eq_true_eq]; omega)]
    refine ⟨by omega, laws_heldTagS.lawk (nth a (u : Int)).Was.Tags _ _ (by omega) (by omega) (by omega) ?_⟩
    rw [if_neg (by rw [decide_eq_true_eq]; omega)]
    refine ⟨by omega, ⟨by omega, by omega⟩, ?_⟩
    rw [if_neg (by simp [gChange])]
    refine ⟨fun _ => by unfold I64; omega, by omega, tx ((mkL gTag (nth a (u : Int)).Was.Tags (mkL gPt (nth a (u : Int)).Was.Shape.Pts (k' + 4)).2).2 + 1), laws_markText.q _ (by omega) (by omega), tx_lim _ (by omega) (by omega), ?_⟩
    rw [if_neg (by simp [gChange])]
    refine ⟨fun _ => by unfold I64; omega, by omega, ?_⟩
    rw [if_neg (by simp [gChange])]
    refine ⟨fun _ => by unfold I64; omega, by omega, laws_heldPtS.lawk (nth a (u : Int)).Now.Shape.Pts _ _ (by omega) (by omega) (by omega) ?_⟩
    rw [if_neg (by rw [decide_eq_true_eq]; omega)]
    refine ⟨by omega, laws_heldTagS.lawk (nth a (u : Int)).Now.Tags _ _ (by omega) (by omega) (by omega) ?_⟩
    rw [if_neg (by rw [decide_eq_true_eq]; omega)]
    exact ⟨by omega, ⟨u + 1, by omega, hn⟩, by first | omega | (dsimp only; omega)⟩
  · rw [if_neg (by simpa using h), M.full h]; exact hq
end Go.Proofs.Ytndjggncgpjolaa

namespace Go.Proofs.Ytndjggncgpjolaa
open Go.RowKit
set_option linter.unusedVariables false
def laws_FnExactDiffOf.E (aA : List Feat) (aB : List Feat) (Q : Bool → Prop) : Prop :=
  laws_szFeatS.E aA 1048576 (fun r => (if decide (r < 0) then Q true else laws_szFeatS.E aB r (fun r2 => (if decide (r2 < 0) then Q true else laws_toFeatS.E aA (fun r3 => laws_toFeatS.E aB (fun r4 => spec_DiffOf.E r3 r4 (fun r5 => laws_toFeatS.E aA (fun r6 => laws_toFeatS.E aB (fun r7 => impl_DiffOf.E r6 r7 (fun r8 => laws_eqChangeS.E r8 r5 (fun r9 => (if !r9 then Q false else laws_toFeatS.E aA (fun r10 => laws_eqFeatS.E r6 r10 (fun r11 => (if !r11 then Q false else laws_toFeatS.E aB (fun r12 => laws_eqFeatS.E r7 r12 (fun r13 => (if !r13 then Q false else laws_markFeatS.E r6 1 (fun r14 m => laws_markFeatS.E r7 r14 (fun r15 m2 => (if decide (r15 < 0) then Q false else laws_eqChangeS.E r8 r5 (fun r16 => (if !r16 then Q false else laws_markChangeS.E r8 1 (fun r17 m3 => laws_heldChangeS.E m3 1 (fun r18 => (if decide (r18 < 0) then Q false else (if r18 != r17 then Q false else laws_toFeatS.E aA (fun r19 => laws_toFeatS.E aB (fun r20 => impl_DiffOf.E r19 r20 (fun r21 => laws_eqChangeS.E r21 r5 (fun r22 => (if !r22 then Q false else laws_heldChangeS.E m3 1 (fun r23 => (if decide (r23 < 0) then Q false else (if r23 != r17 then Q false else Q true)))))))))))))))))))))))))))))))))))
set_option maxHeartbeats 8000000 in
set_option maxRecDepth 100000 in
theorem laws_FnExactDiffOf.calls {O : Ob} (w0 : World) (hO : Ok w0 O) (aA : List Feat) (A1 : Option Addr) (n2 c3 : Nat) (hp4 : Sl kFeat w0 (Fr O) (.slice A1 n2 c3) aA) (aB : List Feat) (A6 : Option Addr) (n7 c8 : Nat) (hp9 : Sl kFeat w0 (Fr O) (.slice A6 n7 c8) aB) (Q : Bool → Prop) (h : laws_FnExactDiffOf.E aA aB Q) :
    Ret Try.prog 6 [.slice A1 n2 c3, .slice A6 n7 c8] w0 (fun v w' => ∃ (r0 : Bool), v = vb r0 ∧ Q r0 ∧ Gr w0 w' none) := by
  have H : laws_szFeatS.E aA 1048576 (fun r => (if decide (r < 0) then Q true else laws_szFeatS.E aB r (fun r2 => (if decide (r2 < 0) then Q true else laws_toFeatS.E aA (fun r3 => laws_toFeatS.E aB (fun r4 => spec_DiffOf.E r3 r4 (fun r5 => laws_toFeatS.E aA (fun r6 => laws_toFeatS.E aB (fun r7 => impl_DiffOf.E r6 r7 (fun r8 => laws_eqChangeS.E r8 r5 (fun r9 => (if !r9 then Q false else laws_toFeatS.E aA (fun r10 => laws_eqFeatS.E r6 r10 (fun r11 => (if !r11 then Q false else laws_toFeatS.E aB (fun r12 => laws_eqFeatS.E r7 r12 (fun r13 => (if !r13 then Q false else laws_markFeatS.E r6 1 (fun r14 m => laws_markFeatS.E r7 r14 (fun r15 m2 => (if decide (r15 < 0) then Q false else laws_eqChangeS.E r8 r5 (fun r16 => (if !r16 then Q false else laws_markChangeS.E r8 1 (fun r17 m3 => laws_heldChangeS.E m3 1 (fun r18 => (if decide (r18 < 0) then Q false else (if r18 != r17 then Q false else laws_toFeatS.E aA (fun r19 => laws_toFeatS.E aB (fun r20 => impl_DiffOf.E r19 r20 (fun r21 => laws_eqChangeS.E r21 r5 (fun r22 => (if !r22 then Q false else laws_heldChangeS.E m3 1 (fun r23 => (if decide (r23 < 0) then Q false else (if r23 != r17 then Q false else Q true))))))))))))))))))))))))))))))))))) := h
  clear h
  have hc0 := Ct.init hO
  refine Ret_enter Try.func6 rfl 92 rfl [.tmp 4] rfl rfl ?_
  refine W_seq ?_
  refine W_reg ?_
  refine L_pu (P_assign (vb false) rfl) ?_
  refine L_nil ?_
  refine W_seq ?_
  refine W_reg ?_
  refine L_pu (P_assign (vi 1048576) rfl) ?_
  refine L_nil ?_
  refine W_seq ?_
  refine W_reg ?_
  refine L_pu (P_move (.slice A1 n2 c3) rfl) ?_
  refine L_pu (P_move (vi 1048576) rfl) ?_
  refine L_call go25 [.slice A1 n2 c3, vi 1048576] rfl ((laws_szFeatS.calls w0 hc0.ok aA A1 n2 c3 hp4 1048576 _ H).mono ?_)
  rintro _ w11 ⟨r, rfl, H, g12⟩
  have hc16 := hc0.k0 g12
  refine L_pu (P_assign (vi r) rfl) ?_
  refine L_nil ?_
  refine W_seq ?_
  refine W_seq ?_
  refine W_reg ?_
  refine L_pu (P_move (vi r) rfl) ?_
  refine L_pu (P_cmp r 0 (decide (r < 0)) rfl rfl rfl) ?_
  refine L_nil ?_
  refine W_cond (decide (r < 0)) rfl (fun hq17 => ?_) (fun hq17 => ?_)
  · have H := ite_t H hq17
    refine W_seq ?_
    refine W_reg ?_
    refine L_pu (P_assign (vb true) rfl) ?_
    refine L_nil ?_
    refine W_ret ?_
    exact ⟨[vb true], ⟨_, rfl, rfl⟩, true, rfl, H, hc16.gr.g0⟩
  · have H := ite_f H hq17
    refine W_skip ?_
    refine W_seq ?_
    refine W_reg ?_
    refine L_pu (P_move (.slice A6 n7 c8) rfl) ?_
    refine L_pu (P_move (vi r) rfl) ?_
    refine L_call go25 [.slice A6 n7 c8, vi r] rfl ((laws_szFeatS.calls w11 hc16.ok aB A6 n7 c8 (hp9.st hc16.st) r _ H).mono ?_)
    rintro _ w18 ⟨r2, rfl, H, g19⟩
    have hc23 := hc16.k0 g19
    refine L_pu (P_assign (vi r2) rfl) ?_
    refine L_nil ?_
    refine W_seq ?_
    refine W_seq ?_
    refine W_reg ?_
    refine L_pu (P_move (vi r2) rfl) ?_
    refine L_pu (P_cmp r2 0 (decide (r2 < 0)) rfl rfl rfl) ?_
    refine L_nil ?_
    refine W_cond (decide (r2 < 0)) rfl (fun hq24 => ?_) (fun hq24 => ?_)
    · have H := ite_t H hq24
      refine W_seq ?_
      refine W_reg ?_
      refine L_pu (P_assign (vb true) rfl) ?_
      refine L_nil ?_
      refine W_ret ?_
      exact ⟨[vb true], ⟨_, rfl, rfl⟩, true, rfl, H, hc23.gr.g0⟩
    · have H := ite_f H hq24
      refine W_skip ?_
      refine W_seq ?_
      refine W_reg ?_
      refine L_pu (P_move (.slice A1 n2 c3) rfl) ?_
      refine L_call go27 [.slice A1 n2 c3] rfl ((laws_toFeatS.calls w18 hc23.ok aA A1 n2 c3 (hp4.st hc23.st) _ H).mono ?_)
      rintro _ w25 ⟨r3, A27, n28, c29, q32, ra33, rfl, H, g26, hk36, hk37, h30, hd34⟩
      have hc38 := hc23.owns g26 hk36 hk37
      have hp39 : (((blk (.slice A27 n28 c29) :: (q32 ++ [])) ++ []) : Ob).Perm (blk (.slice A27 n28 c29) :: (q32 ++ [])) := (by rw [List.perm_iff_count]; intro a; (try simp only [List.count_append, List.count_cons, List.count_nil, Nat.add_zero, Nat.zero_add]); first | done | ac_rfl)
      have hc40 := hc38.perm hp39
      refine L_pu (P_move (.slice A6 n7 c8) rfl) ?_
      refine L_call go27 [.slice A6 n7 c8] rfl ((laws_toFeatS.calls w25 hc40.ok aB A6 n7 c8 (hp9.st hc40.st) _ H).mono ?_)
      rintro _ w41 ⟨r4, A43, n44, c45, q48, ra49, rfl, H, g42, hk52, hk53, h46, hd50⟩
      have hc54 := hc40.owns g42 hk52 hk53
      have hp55 : (((blk (.slice A43 n44 c45) :: (q48 ++ [])) ++ (blk (.slice A27 n28 c29) :: (q32 ++ []))) : Ob).Perm (blk (.slice A43 n44 c45) :: blk (.slice A27 n28 c29) :: (q48 ++ (q32 ++ []))) := (by rw [List.perm_iff_count]; intro a; (try simp only [List.count_append, List.count_cons, List.count_nil, Nat.add_zero, Nat.zero_add]); first | done | ac_rfl)
      have hc56 := hc54.perm hp55
      have h57 := (Ow.spa (A := (blk (.slice A43 n44 c45) :: (q48 ++ []))) (L := (blk (.slice A27 n28 c29) :: (q32 ++ []))) (O := O) ((Ow.spa (A := (blk (.slice A27 n28 c29) :: (q32 ++ []))) (L := []) (O := O) h30 hp39).sos g42 hk53) hp55)
      have hd58 := (hd34.k0 g42)
      have hp62 : ((blk (.slice A43 n44 c45) :: blk (.slice A27 n28 c29) :: (q48 ++ (q32 ++ []))) : Ob).Perm (blk (.slice A27 n28 c29) :: (q32 ++ (blk (.slice A43 n44 c45) :: (q48 ++ [])))) := (by rw [List.perm_iff_count]; intro a; (try simp only [List.count_append, List.count_cons, List.count_nil, Nat.add_zero, Nat.zero_add]); first | done | ac_rfl)
      obtain ⟨h59, hc60, s61⟩ := Dp.gv (L := (blk (.slice A43 n44 c45) :: blk (.slice A27 n28 c29) :: (q48 ++ (q32 ++ [])))) (O := O) h57 hd58 hc56 hp62
      have h65 := (Ow.drops (L := (blk (.slice A43 n44 c45) :: blk (.slice A27 n28 c29) :: (q48 ++ (q32 ++ [])))) (O := O) (rs := blk (.slice A27 n28 c29) :: q32) (Ow.spa (A := (blk (.slice A43 n44 c45) :: (q48 ++ []))) (L := (blk (.slice A27 n28 c29) :: (q32 ++ []))) (O := O) h46 hp55) hp62 (memi 0 rfl))
      have hd66 := hd50
      have hp70 : ((blk (.slice A43 n44 c45) :: (q48 ++ [])) : Ob).Perm (blk (.slice A43 n44 c45) :: (q48 ++ [])) := (by rw [List.perm_iff_count]; intro a; (try simp only [List.count_append, List.count_cons, List.count_nil, Nat.add_zero, Nat.zero_add]); first | done | ac_rfl)
      obtain ⟨h67, hc68, s69⟩ := Dp.gv (L := (blk (.slice A43 n44 c45) :: (q48 ++ []))) (O := O) h65 hd66 hc60 hp70
      refine L_call go26 [.slice A27 n28 c29, .slice A43 n44 c45] rfl ((spec_DiffOf.calls w41 hc68.ok r3 A27 n28 c29 (h59.st s69) r4 A43 n44 c45 h67 _ H).mono ?_)
      rintro _ w73 ⟨r5, A75, n76, c77, rfl, H, g74, hk81, hk82, h78⟩
      have hc83 := hc68.owns g74 hk81 hk82
      refine L_pu (P_assign (.slice A75 n76 c77) rfl) ?_
      refine L_nil ?_
      refine W_seq ?_
      refine W_reg ?_
      refine L_pu (P_move (.slice A1 n2 c3) rfl) ?_
      refine L_call go27 [.slice A1 n2 c3] rfl ((laws_toFeatS.calls w73 hc83.ok aA A1 n2 c3 (hp4.st hc83.st) _ H).mono ?_)
      rintro _ w84 ⟨r6, A86, n87, c88, q91, ra92, rfl, H, g85, hk95, hk96, h89, hd93⟩
      have hc97 := hc83.owns g85 hk95 hk96
      have hp98 : (((blk (.slice A86 n87 c88) :: (q91 ++ [])) ++ [blk (.slice A75 n76 c77)]) : Ob).Perm (blk (.slice A86 n87 c88) :: blk (.slice A75 n76 c77) :: (q91 ++ [])) := (by rw [List.perm_iff_count]; intro a; (try simp only [List.count_append, List.count_cons, List.count_nil, Nat.add_zero, Nat.zero_add]); first | done | ac_rfl)
      have hc99 := hc97.perm hp98
      refine L_pu (P_assign (.slice A86 n87 c88) rfl) ?_
      refine L_nil ?_
      refine W_seq ?_
      refine W_reg ?_
      refine L_pu (P_move (.slice A6 n7 c8) rfl) ?_
      refine L_call go27 [.slice A6 n7 c8] rfl ((laws_toFeatS.calls w84 hc99.ok aB A6 n7 c8 (hp9.st hc99.st) _ H).mono ?_)
      rintro _ w100 ⟨r7, A102, n103, c104, q107, ra108, rfl, H, g101, hk111, hk112, h105, hd109⟩
      have hc113 := hc99.owns g101 hk111 hk112
      have hp114 : (((blk (.slice A102 n103 c104) :: (q107 ++ [])) ++ (blk (.slice A86 n87 c88) :: blk (.slice A75 n76 c77) :: (q91 ++ []))) : Ob).Perm (blk (.slice A102 n103 c104) :: blk (.slice A86 n87 c88) :: blk (.slice A75 n76 c77) :: (q107 ++ (q91 ++ []))) := (by rw [List.perm_iff_count]; intro a; (try simp only [List.count_append, List.count_cons, List.count_nil, Nat.add_zero, Nat.zero_add]); first | done | ac_rfl)
      have hc115 := hc113.perm hp114
      refine L_pu (P_assign (.slice A102 n103 c104) rfl) ?_
      refine L_nil ?_
      refine W_seq ?_
      refine W_reg ?_
      refine L_pu (P_move (.slice A86 n87 c88) rfl) ?_
      refine L_pu (P_move (.slice A102 n103 c104) rfl) ?_
      have h116 := (Ow.spa (A := (blk (.slice A102 n103 c104) :: (q107 ++ []))) (L := (blk (.slice A86 n87 c88) :: blk (.slice A75 n76 c77) :: (q91 ++ []))) (O := O) ((Ow.spa (A := (blk (.slice A86 n87 c88) :: (q91 ++ []))) (L := [blk (.slice A75 n76 c77)]) (O := O) h89 hp98).sos g101 hk112) hp114)
      have hd117 := (hd93.k0 g101)
      have hp121 : ((blk (.slice A102 n103 c104) :: blk (.slice A86 n87 c88) :: blk (.slice A75 n76 c77) :: (q107 ++ (q91 ++ []))) : Ob).Perm (blk (.slice A86 n87 c88) :: (q91 ++ (blk (.slice A102 n103 c104) :: blk (.slice A75 n76 c77) :: (q107 ++ [])))) := (by rw [List.perm_iff_count]; intro a; (try simp only [List.count_append, List.count_cons, List.count_nil, Nat.add_zero, Nat.zero_add]); first | done | ac_rfl)
      obtain ⟨h118, hc119, s120⟩ := Dp.gv (L := (blk (.slice A102 n103 c104) :: blk (.slice A86 n87 c88) :: blk (.slice A75 n76 c77) :: (q107 ++ (q91 ++ [])))) (O := O) h116 hd117 hc115 hp121
      have h124 := (Ow.drops (L := (blk (.slice A102 n103 c104) :: blk (.slice A86 n87 c88) :: blk (.slice A75 n76 c77) :: (q107 ++ (q91 ++ [])))) (O := O) (rs := blk (.slice A86 n87 c88) :: q91) (Ow.spa (A := (blk (.slice A102 n103 c104) :: (q107 ++ []))) (L := (blk (.slice A86 n87 c88) :: blk (.slice A75 n76 c77) :: (q91 ++ []))) (O := O) h105 hp114) hp121 (memi 0 rfl))
      have hd125 := hd109
      have hp129 : ((blk (.slice A102 n103 c104) :: blk (.slice A75 n76 c77) :: (q107 ++ [])) : Ob).Perm (blk (.slice A102 n103 c104) :: (q107 ++ [blk (.slice A75 n76 c77)])) := (by rw [List.perm_iff_count]; intro a; (try simp only [List.count_append, List.count_cons, List.count_nil, Nat.add_zero, Nat.zero_add]); first | done | ac_rfl)
      obtain ⟨h126, hc127, s128⟩ := Dp.gv (L := (blk (.slice A102 n103 c104) :: blk (.slice A75 n76 c77) :: (q107 ++ []))) (O := O) h124 hd125 hc119 hp129
      refine L_call go28 [.slice A86 n87 c88, .slice A102 n103 c104] rfl ((impl_DiffOf.calls w100 hc127.ok r6 A86 n87 c88 (h118.st s128) r7 A102 n103 c104 h126 _ H).mono ?_)
      rintro _ w132 ⟨r8, A134, n135, c136, q139, ra140, rfl, H, g133, hk143, hk144, h137, hd141⟩
      have hk146 := Ok.unl (L := (blk (.slice A102 n103 c104) :: blk (.slice A86 n87 c88) :: blk (.slice A75 n76 c77) :: (q107 ++ (q91 ++ [])))) (L' := [blk (.slice A75 n76 c77)]) (O := O) hc115 g133 hk143 hk144
      have h147 := Ow.unl (L := (blk (.slice A102 n103 c104) :: blk (.slice A86 n87 c88) :: blk (.slice A75 n76 c77) :: (q107 ++ (q91 ++ [])))) (L' := [blk (.slice A75 n76 c77)]) (O := O) (fun _ _ _ _ _ _ h => h) (.cons _ (.cons _ (.cons_cons _ ((List.sublist_append_of_sublist_right (List.sublist_append_of_sublist_right (.refl _))))))) h137
      have hc145 := hc115.owns g133 hk146 hk144
      have hp148 : (((blk (.slice A134 n135 c136) :: (q139 ++ [])) ++ (blk (.slice A102 n103 c104) :: blk (.slice A86 n87 c88) :: blk (.slice A75 n76 c77) :: (q107 ++ (q91 ++ [])))) : Ob).Perm (blk (.slice A134 n135 c136) :: blk (.slice A102 n103 c104) :: blk (.slice A86 n87 c88) :: blk (.slice A75 n76 c77) :: (q139 ++ (q107 ++ (q91 ++ [])))) := (by rw [List.perm_iff_count]; intro a; (try simp only [List.count_append, List.count_cons, List.count_nil, Nat.add_zero, Nat.zero_add]); first | done | ac_rfl)
      have hc149 := hc145.perm hp148
      refine L_pu (P_assign (.slice A134 n135 c136) rfl) ?_
      refine L_nil ?_
      refine W_seq ?_
      refine W_seq ?_
      refine W_reg ?_
      refine L_pu (P_move (.slice A134 n135 c136) rfl) ?_
      refine L_pu (P_move (.slice A75 n76 c77) rfl) ?_
      have h150 := (Ow.spa (A := (blk (.slice A134 n135 c136) :: (q139 ++ []))) (L := (blk (.slice A102 n103 c104) :: blk (.slice A86 n87 c88) :: blk (.slice A75 n76 c77) :: (q107 ++ (q91 ++ [])))) (O := O) h147 hp148)
      have hd151 := hd141
      have hp155 : ((blk (.slice A134 n135 c136) :: blk (.slice A102 n103 c104) :: blk (.slice A86 n87 c88) :: blk (.slice A75 n76 c77) :: (q139 ++ (q107 ++ (q91 ++ [])))) : Ob).Perm (blk (.slice A134 n135 c136) :: (q139 ++ (blk (.slice A102 n103 c104) :: blk (.slice A86 n87 c88) :: blk (.slice A75 n76 c77) :: (q107 ++ (q91 ++ []))))) := (by rw [List.perm_iff_count]; intro a; (try simp only [List.count_append, List.count_cons, List.count_nil, Nat.add_zero, Nat.zero_add]); first | done | ac_rfl)
      obtain ⟨h152, hc153, s154⟩ := Dp.gv (L := (blk (.slice A134 n135 c136) :: blk (.slice A102 n103 c104) :: blk (.slice A86 n87 c88) :: blk (.slice A75 n76 c77) :: (q139 ++ (q107 ++ (q91 ++ []))))) (O := O) h150 hd151 hc149 hp155
      have h158 := (Ow.drops (L := (blk (.slice A134 n135 c136) :: blk (.slice A102 n103 c104) :: blk (.slice A86 n87 c88) :: blk (.slice A75 n76 c77) :: (q139 ++ (q107 ++ (q91 ++ []))))) (O := O) (rs := blk (.slice A134 n135 c136) :: q139) (Ow.spa (A := (blk (.slice A134 n135 c136) :: (q139 ++ []))) (L := (blk (.slice A102 n103 c104) :: blk (.slice A86 n87 c88) :: blk (.slice A75 n76 c77) :: (q107 ++ (q91 ++ [])))) (O := O) ((Ow.spa (A := (blk (.slice A102 n103 c104) :: (q107 ++ []))) (L := (blk (.slice A86 n87 c88) :: blk (.slice A75 n76 c77) :: (q91 ++ []))) (O := O) ((Ow.spa (A := (blk (.slice A86 n87 c88) :: (q91 ++ []))) (L := [blk (.slice A75 n76 c77)]) (O := O) (h78.sos g85 hk96) hp98).sos g101 hk112) hp114).sos g133 hk144) hp148) hp155 (memi 2 rfl))
      have h159 := Ow.gv (L := (blk (.slice A102 n103 c104) :: blk (.slice A86 n87 c88) :: blk (.slice A75 n76 c77) :: (q107 ++ (q91 ++ [])))) (O := O) h158 hc153 (i := 2) rfl
      have hc160 := hc153.drop 2 rfl
      have h162 := (h152.st (.dr _ (L := (blk (.slice A102 n103 c104) :: blk (.slice A86 n87 c88) :: blk (.slice A75 n76 c77) :: (q107 ++ (q91 ++ [])))) (O := O) (j := 2) rfl))
      refine L_call go22 [.slice A134 n135 c136, .slice A75 n76 c77] rfl ((laws_eqChangeS.calls w132 hc160.ok r8 A134 n135 c136 h162 r5 A75 n76 c77 h159 _ H).mono ?_)
      rintro _ w163 ⟨r9, rfl, H, g164⟩
      have hc168 := hc149.k0 g164
      refine L_pu (P_not r9 rfl) ?_
      refine L_nil ?_
      refine W_cond (!r9) rfl (fun hq169 => ?_) (fun hq169 => ?_)
      · have H := ite_t H hq169
        refine W_seq ?_
        refine W_reg ?_
        refine L_pu (P_assign (vb false) rfl) ?_
        refine L_nil ?_
        refine W_ret ?_
        have hp170 : ((blk (.slice A134 n135 c136) :: blk (.slice A102 n103 c104) :: blk (.slice A86 n87 c88) :: blk (.slice A75 n76 c77) :: (q139 ++ (q107 ++ (q91 ++ [])))) : Ob).Perm ((blk (.slice A134 n135 c136) :: (q139 ++ [])) ++ (blk (.slice A102 n103 c104) :: blk (.slice A86 n87 c88) :: blk (.slice A75 n76 c77) :: (q107 ++ (q91 ++ [])))) := (by rw [List.perm_iff_count]; intro a; (try simp only [List.count_append, List.count_cons, List.count_nil, Nat.add_zero, Nat.zero_add]); first | done | ac_rfl)
        have hc171 := hc168.drops hp170
        have hp172 : ((blk (.slice A102 n103 c104) :: blk (.slice A86 n87 c88) :: blk (.slice A75 n76 c77) :: (q107 ++ (q91 ++ []))) : Ob).Perm ((blk (.slice A102 n103 c104) :: (q107 ++ [])) ++ (blk (.slice A86 n87 c88) :: blk (.slice A75 n76 c77) :: (q91 ++ []))) := (by rw [List.perm_iff_count]; intro a; (try simp only [List.count_append, List.count_cons, List.count_nil, Nat.add_zero, Nat.zero_add]); first | done | ac_rfl)
        have hc173 := hc171.drops hp172
        have hp174 : ((blk (.slice A86 n87 c88) :: blk (.slice A75 n76 c77) :: (q91 ++ [])) : Ob).Perm ((blk (.slice A86 n87 c88) :: (q91 ++ [])) ++ [blk (.slice A75 n76 c77)]) := (by rw [List.perm_iff_count]; intro a; (try simp only [List.count_append, List.count_cons, List.count_nil, Nat.add_zero, Nat.zero_add]); first | done | ac_rfl)
        have hc175 := hc173.drops hp174
        have hc176 := hc175.drop 0 rfl
        exact ⟨[vb false], ⟨_, rfl, rfl⟩, false, rfl, H, hc176.gr.g0⟩
      · have H := ite_f H hq169
        refine W_skip ?_
        refine W_seq ?_
        refine W_seq ?_
        refine W_reg ?_
        refine L_pu (P_move (.slice A86 n87 c88) rfl) ?_
        refine L_pu (P_move (.slice A1 n2 c3) rfl) ?_
        refine L_call go27 [.slice A1 n2 c3] rfl ((laws_toFeatS.calls w163 hc168.ok aA A1 n2 c3 (hp4.st hc168.st) _ H).mono ?_)
        rintro _ w177 ⟨r10, A179, n180, c181, q184, ra185, rfl, H, g178, hk188, hk189, h182, hd186⟩
        have hc190 := hc168.owns g178 hk188 hk189
        have hp191 : (((blk (.slice A179 n180 c181) :: (q184 ++ [])) ++ (blk (.slice A134 n135 c136) :: blk (.slice A102 n103 c104) :: blk (.slice A86 n87 c88) :: blk (.slice A75 n76 c77) :: (q139 ++ (q107 ++ (q91 ++ []))))) : Ob).Perm (blk (.slice A179 n180 c181) :: blk (.slice A134 n135 c136) :: blk (.slice A102 n103 c104) :: blk (.slice A86 n87 c88) :: blk (.slice A75 n76 c77) :: (q184 ++ (q139 ++ (q107 ++ (q91 ++ []))))) := (by rw [List.perm_iff_count]; intro a; (try simp only [List.count_append, List.count_cons, List.count_nil, Nat.add_zero, Nat.zero_add]); first | done | ac_rfl)
        have hc192 := hc190.perm hp191
        have h193 := (Ow.spa (A := (blk (.slice A179 n180 c181) :: (q184 ++ []))) (L := (blk (.slice A134 n135 c136) :: blk (.slice A102 n103 c104) :: blk (.slice A86 n87 c88) :: blk (.slice A75 n76 c77) :: (q139 ++ (q107 ++ (q91 ++ []))))) (O := O) (((Ow.spa (A := (blk (.slice A134 n135 c136) :: (q139 ++ []))) (L := (blk (.slice A102 n103 c104) :: blk (.slice A86 n87 c88) :: blk (.slice A75 n76 c77) :: (q107 ++ (q91 ++ [])))) (O := O) ((Ow.spa (A := (blk (.slice A102 n103 c104) :: (q107 ++ []))) (L := (blk (.slice A86 n87 c88) :: blk (.slice A75 n76 c77) :: (q91 ++ []))) (O := O) ((Ow.spa (A := (blk (.slice A86 n87 c88) :: (q91 ++ []))) (L := [blk (.slice A75 n76 c77)]) (O := O) h89 hp98).sos g101 hk112) hp114).sos g133 hk144) hp148).sn g164).sos g178 hk189) hp191)
        have hd194 := ((((hd93.k0 g101).k0 g133).k0 g164).k0 g178)
        have hp198 : ((blk (.slice A179 n180 c181) :: blk (.slice A134 n135 c136) :: blk (.slice A102 n103 c104) :: blk (.slice A86 n87 c88) :: blk (.slice A75 n76 c77) :: (q184 ++ (q139 ++ (q107 ++ (q91 ++ []))))) : Ob).Perm (blk (.slice A86 n87 c88) :: (q91 ++ (blk (.slice A179 n180 c181) :: blk (.slice A134 n135 c136) :: blk (.slice A102 n103 c104) :: blk (.slice A75 n76 c77) :: (q184 ++ (q139 ++ (q107 ++ [])))))) := (by rw [List.perm_iff_count]; intro a; (try simp only [List.count_append, List.count_cons, List.count_nil, Nat.add_zero, Nat.zero_add]); first | done | ac_rfl)
        obtain ⟨h195, hc196, s197⟩ := Dp.gv (L := (blk (.slice A179 n180 c181) :: blk (.slice A134 n135 c136) :: blk (.slice A102 n103 c104) :: blk (.slice A86 n87 c88) :: blk (.slice A75 n76 c77) :: (q184 ++ (q139 ++ (q107 ++ (q91 ++ [])))))) (O := O) h193 hd194 hc192 hp198
        have h201 := (Ow.drops (L := (blk (.slice A179 n180 c181) :: blk (.slice A134 n135 c136) :: blk (.slice A102 n103 c104) :: blk (.slice A86 n87 c88) :: blk (.slice A75 n76 c77) :: (q184 ++ (q139 ++ (q107 ++ (q91 ++ [])))))) (O := O) (rs := blk (.slice A86 n87 c88) :: q91) (Ow.spa (A := (blk (.slice A179 n180 c181) :: (q184 ++ []))) (L := (blk (.slice A134 n135 c136) :: blk (.slice A102 n103 c104) :: blk (.slice A86 n87 c88) :: blk (.slice A75 n76 c77) :: (q139 ++ (q107 ++ (q91 ++ []))))) (O := O) h182 hp191) hp198 (memi 0 rfl))
        have hd202 := hd186
        have hp206 : ((blk (.slice A179 n180 c181) :: blk (.slice A134 n135 c136) :: blk (.slice A102 n103 c104) :: blk (.slice A75 n76 c77) :: (q184 ++ (q139 ++ (q107 ++ [])))) : Ob).Perm (blk (.slice A179 n180 c181) :: (q184 ++ (blk (.slice A134 n135 c136) :: blk (.slice A102 n103 c104) :: blk (.slice A75 n76 c77) :: (q139 ++ (q107 ++ []))))) := (by rw [List.perm_iff_count]; intro a; (try simp only [List.count_append, List.count_cons, List.count_nil, Nat.add_zero, Nat.zero_add]); first | done | ac_rfl)
        obtain ⟨h203, hc204, s205⟩ := Dp.gv (L := (blk (.slice A179 n180 c181) :: blk (.slice A134 n135 c136) :: blk (.slice A102 n103 c104) :: blk (.slice A75 n76 c77) :: (q184 ++ (q139 ++ (q107 ++ []))))) (O := O) h201 hd202 hc196 hp206
        refine L_call go29 [.slice A86 n87 c88, .slice A179 n180 c181] rfl ((laws_eqFeatS.calls w177 hc204.ok r6 A86 n87 c88 (h195.st s205) r10 A179 n180 c181 h203 _ H).mono ?_)
        rintro _ w209 ⟨r11, rfl, H, g210⟩
        have hc214 := hc192.k0 g210
        refine L_pu (P_not r11 rfl) ?_
        refine L_nil ?_
        refine W_cond (!r11) rfl (fun hq215 => ?_) (fun hq215 => ?_)
        · have H := ite_t H hq215
          refine W_seq ?_
          refine W_reg ?_
          refine L_pu (P_assign (vb false) rfl) ?_
          refine L_nil ?_
          refine W_ret ?_
          have hp216 : ((blk (.slice A179 n180 c181) :: blk (.slice A134 n135 c136) :: blk (.slice A102 n103 c104) :: blk (.slice A86 n87 c88) :: blk (.slice A75 n76 c77) :: (q184 ++ (q139 ++ (q107 ++ (q91 ++ []))))) : Ob).Perm ((blk (.slice A179 n180 c181) :: (q184 ++ [])) ++ (blk (.slice A134 n135 c136) :: blk (.slice A102 n103 c104) :: blk (.slice A86 n87 c88) :: blk (.slice A75 n76 c77) :: (q139 ++ (q107 ++ (q91 ++ []))))) := (by rw [List.perm_iff_count]; intro a; (try simp only [List.count_append, List.count_cons, List.count_nil, Nat.add_zero, Nat.zero_add]); first | done | ac_rfl)
          have hc217 := hc214.drops hp216
          have hp218 : ((blk (.slice A134 n135 c136) :: blk (.slice A102 n103 c104) :: blk (.slice A86 n87 c88) :: blk (.slice A75 n76 c77) :: (q139 ++ (q107 ++ (q91 ++ [])))) : Ob).Perm ((blk (.slice A134 n135 c136) :: (q139 ++ [])) ++ (blk (.slice A102 n103 c104) :: blk (.slice A86 n87 c88) :: blk (.slice A75 n76 c77) :: (q107 ++ (q91 ++ [])))) := (by rw [List.perm_iff_count]; intro a; (try simp only [List.count_append, List.count_cons, List.count_nil, Nat.add_zero, Nat.zero_add]); first | done | ac_rfl)
          have hc219 := hc217.drops hp218
          have hp220 : ((blk (.slice A102 n103 c104) :: blk (.slice A86 n87 c88) :: blk (.slice A75 n76 c77) :: (q107 ++ (q91 ++ []))) : Ob).Perm ((blk (.slice A102 n103 c104) :: (q107 ++ [])) ++ (blk (.slice A86 n87 c88) :: blk (.slice A75 n76 c77) :: (q91 ++ []))) := (by rw [List.perm_iff_count]; intro a; (try simp only [List.count_append, List.count_cons, List.count_nil, Nat.add_zero, Nat.zero_add]); first | done | ac_rfl)
          have hc221 := hc219.drops hp220
          have hp222 : ((blk (.slice A86 n87 c88) :: blk (.slice A75 n76 c77) :: (q91 ++ [])) : Ob).Perm ((blk (.slice A86 n87 c88) :: (q91 ++ [])) ++ [blk (.slice A75 n76 c77)]) := (by rw [List.perm_iff_count]; intro a; (try simp only [List.count_append, List.count_cons, List.count_nil, Nat.add_zero, Nat.zero_add]); first | done | ac_rfl)
          have hc223 := hc221.drops hp222
          have hc224 := hc223.drop 0 rfl
          exact ⟨[vb false], ⟨_, rfl, rfl⟩, false, rfl, H, hc224.gr.g0⟩
        · have H := ite_f H hq215
          refine W_skip ?_
          refine W_seq ?_
          refine W_seq ?_
          refine W_reg ?_
          refine L_pu (P_move (.slice A102 n103 c104) rfl) ?_
          refine L_pu (P_move (.slice A6 n7 c8) rfl) ?_
          refine L_call go27 [.slice A6 n7 c8] rfl ((laws_toFeatS.calls w209 hc214.ok aB A6 n7 c8 (hp9.st hc214.st) _ H).mono ?_)
          rintro _ w225 ⟨r12, A227, n228, c229, q232, ra233, rfl, H, g226, hk236, hk237, h230, hd234⟩
          have hc238 := hc214.owns g226 hk236 hk237
          have hp239 : (((blk (.slice A227 n228 c229) :: (q232 ++ [])) ++ (blk (.slice A179 n180 c181) :: blk (.slice A134 n135 c136) :: blk (.slice A102 n103 c104) :: blk (.slice A86 n87 c88) :: blk (.slice A75 n76 c77) :: (q184 ++ (q139 ++ (q107 ++ (q91 ++ [])))))) : Ob).Perm (blk (.slice A227 n228 c229) :: blk (.slice A179 n180 c181) :: blk (.slice A134 n135 c136) :: blk (.slice A102 n103 c104) :: blk (.slice A86 n87 c88) :: blk (.slice A75 n76 c77) :: (q232 ++ (q184 ++ (q139 ++ (q107 ++ (q91 ++ [])))))) := (by rw [List.perm_iff_count]; intro a; (try simp only [List.count_append, List.count_cons, List.count_nil, Nat.add_zero, Nat.zero_add]); first | done | ac_rfl)
          have hc240 := hc238.perm hp239
          have h241 := (Ow.spa (A := (blk (.slice A227 n228 c229) :: (q232 ++ []))) (L := (blk (.slice A179 n180 c181) :: blk (.slice A134 n135 c136) :: blk (.slice A102 n103 c104) :: blk (.slice A86 n87 c88) :: blk (.slice A75 n76 c77) :: (q184 ++ (q139 ++ (q107 ++ (q91 ++ [])))))) (O := O) (((Ow.spa (A := (blk (.slice A179 n180 c181) :: (q184 ++ []))) (L := (blk (.slice A134 n135 c136) :: blk (.slice A102 n103 c104) :: blk (.slice A86 n87 c88) :: blk (.slice A75 n76 c77) :: (q139 ++ (q107 ++ (q91 ++ []))))) (O := O) (((Ow.spa (A := (blk (.slice A134 n135 c136) :: (q139 ++ []))) (L := (blk (.slice A102 n103 c104) :: blk (.slice A86 n87 c88) :: blk (.slice A75 n76 c77) :: (q107 ++ (q91 ++ [])))) (O := O) ((Ow.spa (A := (blk (.slice A102 n103 c104) :: (q107 ++ []))) (L := (blk (.slice A86 n87 c88) :: blk (.slice A75 n76 c77) :: (q91 ++ []))) (O := O) h105 hp114).sos g133 hk144) hp148).sn g164).sos g178 hk189) hp191).sn g210).sos g226 hk237) hp239)
          have hd242 := (((((hd109.k0 g133).k0 g164).k0 g178).k0 g210).k0 g226)
          have hp246 : ((blk (.slice A227 n228 c229) :: blk (.slice A179 n180 c181) :: blk (.slice A134 n135 c136) :: blk (.slice A102 n103 c104) :: blk (.slice A86 n87 c88) :: blk (.slice A75 n76 c77) :: (q232 ++ (q184 ++ (q139 ++ (q107 ++ (q91 ++ [])))))) : Ob).Perm (blk (.slice A102 n103 c104) :: (q107 ++ (blk (.slice A227 n228 c229) :: blk (.slice A179 n180 c181) :: blk (.slice A134 n135 c136) :: blk (.slice A86 n87 c88) :: blk (.slice A75 n76 c77) :: (q232 ++ (q184 ++ (q139 ++ (q91 ++ []))))))) := (by rw [List.perm_iff_count]; intro a; (try simp only [List.count_append, List.count_cons, List.count_nil, Nat.add_zero, Nat.zero_add]); first | done | ac_rfl)
          obtain ⟨h243, hc244, s245⟩ := Dp.gv (L := (blk (.slice A227 n228 c229) :: blk (.slice A179 n180 c181) :: blk (.slice A134 n135 c136) :: blk (.slice A102 n103 c104) :: blk (.slice A86 n87 c88) :: blk (.slice A75 n76 c77) :: (q232 ++ (q184 ++ (q139 ++ (q107 ++ (q91 ++ []))))))) (O := O) h241 hd242 hc240 hp246
          have h249 := (Ow.drops (L := (blk (.slice A227 n228 c229) :: blk (.slice A179 n180 c181) :: blk (.slice A134 n135 c136) :: blk (.slice A102 n103 c104) :: blk (.slice A86 n87 c88) :: blk (.slice A75 n76 c77) :: (q232 ++ (q184 ++ (q139 ++ (q107 ++ (q91 ++ []))))))) (O := O) (rs := blk (.slice A102 n103 c104) :: q107) (Ow.spa (A := (blk (.slice A227 n228 c229) :: (q232 ++ []))) (L := (blk (.slice A179 n180 c181) :: blk (.slice A134 n135 c136) :: blk (.slice A102 n103 c104) :: blk (.slice A86 n87 c88) :: blk (.slice A75 n76 c77) :: (q184 ++ (q139 ++ (q107 ++ (q91 ++ [])))))) (O := O) h230 hp239) hp246 (memi 0 rfl))
          have hd250 := hd234
          have hp254 : ((blk (.slice A227 n228 c229) :: blk (.slice A179 n180 c181) :: blk (.slice A134 n135 c136) :: blk (.slice A86 n87 c88) :: blk (.slice A75 n76 c77) :: (q232 ++ (q184 ++ (q139 ++ (q91 ++ []))))) : Ob).Perm (blk (.slice A227 n228 c229) :: (q232 ++ (blk (.slice A179 n180 c181) :: blk (.slice A134 n135 c136) :: blk (.slice A86 n87 c88) :: blk (.slice A75 n76 c77) :: (q184 ++ (q139 ++ (q91 ++ [])))))) := (by rw [List.perm_iff_count]; intro a; (try simp only [List.count_append, List.count_cons, List.count_nil, Nat.add_zero, Nat.zero_add]); first | done | ac_rfl)
          obtain ⟨h251, hc252, s253⟩ := Dp.gv (L := (blk (.slice A227 n228 c229) :: blk (.slice A179 n180 c181) :: blk (.slice A134 n135 c136) :: blk (.slice A86 n87 c88) :: blk (.slice A75 n76 c77) :: (q232 ++ (q184 ++ (q139 ++ (q91 ++ [])))))) (O := O) h249 hd250 hc244 hp254
          refine L_call go29 [.slice A102 n103 c104, .slice A227 n228 c229] rfl ((laws_eqFeatS.calls w225 hc252.ok r7 A102 n103 c104 (h243.st s253) r12 A227 n228 c229 h251 _ H).mono ?_)
          rintro _ w257 ⟨r13, rfl, H, g258⟩
          have hc262 := hc240.k0 g258
          refine L_pu (P_not r13 rfl) ?_
          refine L_nil ?_
          refine W_cond (!r13) rfl (fun hq263 => ?_) (fun hq263 => ?_)
          · have H := ite_t H hq263
            refine W_seq ?_
            refine W_reg ?_
            refine L_pu (P_assign (vb false) rfl) ?_
            refine L_nil ?_
            refine W_ret ?_
            have hp264 : ((blk (.slice A227 n228 c229) :: blk (.slice A179 n180 c181) :: blk (.slice A134 n135 c136) :: blk (.slice A102 n103 c104) :: blk (.slice A86 n87 c88) :: blk (.slice A75 n76 c77) :: (q232 ++ (q184 ++ (q139 ++ (q107 ++ (q91 ++ [])))))) : Ob).Perm ((blk (.slice A227 n228 c229) :: (q232 ++ [])) ++ (blk (.slice A179 n180 c181) :: blk (.slice A134 n135 c136) :: blk (.slice A102 n103 c104) :: blk (.slice A86 n87 c88) :: blk (.slice A75 n76 c77) :: (q184 ++ (q139 ++ (q107 ++ (q91 ++ [])))))) := (by rw [List.perm_iff_count]; intro a; (try simp only [List.count_append, List.count_cons, List.count_nil, Nat.add_zero, Nat.zero_add]); first | done | ac_rfl)
            have hc265 := hc262.drops hp264
            have hp266 : ((blk (.slice A179 n180 c181) :: blk (.slice A134 n135 c136) :: blk (.slice A102 n103 c104) :: blk (.slice A86 n87 c88) :: blk (.slice A75 n76 c77) :: (q184 ++ (q139 ++ (q107 ++ (q91 ++ []))))) : Ob).Perm ((blk (.slice A179 n180 c181) :: (q184 ++ [])) ++ (blk (.slice A134 n135 c136) :: blk (.slice A102 n103 c104) :: blk (.slice A86 n87 c88) :: blk (.slice A75 n76 c77) :: (q139 ++ (q107 ++ (q91 ++ []))))) := (by rw [List.perm_iff_count]; intro a; (try simp only [List.count_append, List.count_cons, List.count_nil, Nat.add_zero, Nat.zero_add]); first | done | ac_rfl)
            have hc267 := hc265.drops hp266
            have hp268 : ((blk (.slice A134 n135 c136) :: blk (.slice A102 n103 c104) :: blk (.slice A86 n87 c88) :: blk (.slice A75 n76 c77) :: (q139 ++ (q107 ++ (q91 ++ [])))) : Ob).Perm ((blk (.slice A134 n135 c136) :: (q139 ++ [])) ++ (blk (.slice A102 n103 c104) :: blk (.slice A86 n87 c88) :: blk (.slice A75 n76 c77) :: (q107 ++ (q91 ++ [])))) := (by rw [List.perm_iff_count]; intro a; (try simp only [List.count_append, List.count_cons, List.count_nil, Nat.add_zero, Nat.zero_add]); first | done | ac_rfl)
            have hc269 := hc267.drops hp268
            have hp270 : ((blk (.slice A102 n103 c104) :: blk (.slice A86 n87 c88) :: blk (.slice A75 n76 c77) :: (q107 ++ (q91 ++ []))) : Ob).Perm ((blk (.slice A102 n103 c104) :: (q107 ++ [])) ++ (blk (.slice A86 n87 c88) :: blk (.slice A75 n76 c77) :: (q91 ++ []))) := (by rw [List.perm_iff_count]; intro a; (try simp only [List.count_append, List.count_cons, List.count_nil, Nat.add_zero, Nat.zero_add]); first | done | ac_rfl)
            have hc271 := hc269.drops hp270
            have hp272 : ((blk (.slice A86 n87 c88) :: blk (.slice A75 n76 c77) :: (q91 ++ [])) : Ob).Perm ((blk (.slice A86 n87 c88) :: (q91 ++ [])) ++ [blk (.slice A75 n76 c77)]) := (by rw [List.perm_iff_count]; intro a; (try simp only [List.count_append, List.count_cons, List.count_nil, Nat.add_zero, Nat.zero_add]); first | done | ac_rfl)
            have hc273 := hc271.drops hp272
            have hc274 := hc273.drop 0 rfl
            exact ⟨[vb false], ⟨_, rfl, rfl⟩, false, rfl, H, hc274.gr.g0⟩
          · have H := ite_f H hq263
            refine W_skip ?_
            refine W_seq ?_
            refine W_reg ?_
            refine L_pu (P_assign (vi 1) rfl) ?_
            refine L_nil ?_
            refine W_seq ?_
            refine W_reg ?_
            refine L_pu (P_move (.slice A86 n87 c88) rfl) ?_
            refine L_pu (P_move (vi 1) rfl) ?_
            have h277 := ((Ow.spa (A := (blk (.slice A227 n228 c229) :: (q232 ++ []))) (L := (blk (.slice A179 n180 c181) :: blk (.slice A134 n135 c136) :: blk (.slice A102 n103 c104) :: blk (.slice A86 n87 c88) :: blk (.slice A75 n76 c77) :: (q184 ++ (q139 ++ (q107 ++ (q91 ++ [])))))) (O := O) (((Ow.spa (A := (blk (.slice A179 n180 c181) :: (q184 ++ []))) (L := (blk (.slice A134 n135 c136) :: blk (.slice A102 n103 c104) :: blk (.slice A86 n87 c88) :: blk (.slice A75 n76 c77) :: (q139 ++ (q107 ++ (q91 ++ []))))) (O := O) (((Ow.spa (A := (blk (.slice A134 n135 c136) :: (q139 ++ []))) (L := (blk (.slice A102 n103 c104) :: blk (.slice A86 n87 c88) :: blk (.slice A75 n76 c77) :: (q107 ++ (q91 ++ [])))) (O := O) ((Ow.spa (A := (blk (.slice A102 n103 c104) :: (q107 ++ []))) (L := (blk (.slice A86 n87 c88) :: blk (.slice A75 n76 c77) :: (q91 ++ []))) (O := O) ((Ow.spa (A := (blk (.slice A86 n87 c88) :: (q91 ++ []))) (L := [blk (.slice A75 n76 c77)]) (O := O) h89 hp98).sos g101 hk112) hp114).sos g133 hk144) hp148).sn g164).sos g178 hk189) hp191).sn g210).sos g226 hk237) hp239).sn g258)
            have hd278 := (((((((hd93.k0 g101).k0 g133).k0 g164).k0 g178).k0 g210).k0 g226).k0 g258)
            have hp279 : ((blk (.slice A227 n228 c229) :: blk (.slice A179 n180 c181) :: blk (.slice A134 n135 c136) :: blk (.slice A102 n103 c104) :: blk (.slice A86 n87 c88) :: blk (.slice A75 n76 c77) :: (q232 ++ (q184 ++ (q139 ++ (q107 ++ (q91 ++ [])))))) : Ob).Perm ((blk (.slice A86 n87 c88) :: (q91 ++ [])) ++ (blk (.slice A227 n228 c229) :: blk (.slice A179 n180 c181) :: blk (.slice A134 n135 c136) :: blk (.slice A102 n103 c104) :: blk (.slice A75 n76 c77) :: (q232 ++ (q184 ++ (q139 ++ (q107 ++ [])))))) := (by rw [List.perm_iff_count]; intro a; (try simp only [List.count_append, List.count_cons, List.count_nil, Nat.add_zero, Nat.zero_add]); first | done | ac_rfl)
            refine L_call go30 [.slice A86 n87 c88, vi 1] rfl ((laws_markFeatS.calls w257 hc262.ok r6 A86 n87 c88 ra92 q91 h277 hd278 (Dj.left (Dj.left (hc262.perm hp279).dj)) (fun b hb => List.mem_append_left _ (hp279.mem_iff.2 (List.mem_append_left _ hb))) 1 _ H).mono ?_)
            rintro _ w275 ⟨r14, m, ra282, rfl, H, g276, h280, hd281⟩
            have hc283 := hc262.dm g276 (fun b hb => hp279.mem_iff.2 (List.mem_append_left _ hb))
            refine L_pu (P_assign (vi r14) rfl) ?_
            refine L_nil ?_
            refine W_seq ?_
            refine W_reg ?_
            refine L_pu (P_move (.slice A102 n103 c104) rfl) ?_
            refine L_pu (P_move (vi r14) rfl) ?_
            have h286 := (Ow.gm ((Ow.spa (A := (blk (.slice A227 n228 c229) :: (q232 ++ []))) (L := (blk (.slice A179 n180 c181) :: blk (.slice A134 n135 c136) :: blk (.slice A102 n103 c104) :: blk (.slice A86 n87 c88) :: blk (.slice A75 n76 c77) :: (q184 ++ (q139 ++ (q107 ++ (q91 ++ [])))))) (O := O) (((Ow.spa (A := (blk (.slice A179 n180 c181) :: (q184 ++ []))) (L := (blk (.slice A134 n135 c136) :: blk (.slice A102 n103 c104) :: blk (.slice A86 n87 c88) :: blk (.slice A75 n76 c77) :: (q139 ++ (q107 ++ (q91 ++ []))))) (O := O) (((Ow.spa (A := (blk (.slice A134 n135 c136) :: (q139 ++ []))) (L := (blk (.slice A102 n103 c104) :: blk (.slice A86 n87 c88) :: blk (.slice A75 n76 c77) :: (q107 ++ (q91 ++ [])))) (O := O) ((Ow.spa (A := (blk (.slice A102 n103 c104) :: (q107 ++ []))) (L := (blk (.slice A86 n87 c88) :: blk (.slice A75 n76 c77) :: (q91 ++ []))) (O := O) h105 hp114).sos g133 hk144) hp148).sn g164).sos g178 hk189) hp191).sn g210).sos g226 hk237) hp239).sn g258) g276 (fun b hb => List.mem_append_left _ (hp279.mem_iff.2 (List.mem_append_left _ hb))) (Ct.sep1 (L := (blk (.slice A227 n228 c229) :: blk (.slice A179 n180 c181) :: blk (.slice A134 n135 c136) :: blk (.slice A102 n103 c104) :: blk (.slice A86 n87 c88) :: blk (.slice A75 n76 c77) :: (q232 ++ (q184 ++ (q139 ++ (q107 ++ (q91 ++ []))))))) (O := O) hc262 (B := (blk (.slice A86 n87 c88) :: (q91 ++ []))) (C := (blk (.slice A227 n228 c229) :: blk (.slice A179 n180 c181) :: blk (.slice A134 n135 c136) :: blk (.slice A75 n76 c77) :: (q232 ++ (q184 ++ (q139 ++ (q107 ++ [])))))) (by rw [List.perm_iff_count]; intro a; (try simp only [List.count_append, List.count_cons, List.count_nil, Nat.add_zero, Nat.zero_add]); first | done | ac_rfl)))
            have hd287 := (DArr.gm ((((((hd109.k0 g133).k0 g164).k0 g178).k0 g210).k0 g226).k0 g258) g276 (Ct.sep (L := (blk (.slice A227 n228 c229) :: blk (.slice A179 n180 c181) :: blk (.slice A134 n135 c136) :: blk (.slice A102 n103 c104) :: blk (.slice A86 n87 c88) :: blk (.slice A75 n76 c77) :: (q232 ++ (q184 ++ (q139 ++ (q107 ++ (q91 ++ []))))))) (O := O) hc262 (A := q107) (B := (blk (.slice A86 n87 c88) :: (q91 ++ []))) (C := (blk (.slice A227 n228 c229) :: blk (.slice A179 n180 c181) :: blk (.slice A134 n135 c136) :: blk (.slice A102 n103 c104) :: blk (.slice A75 n76 c77) :: (q232 ++ (q184 ++ (q139 ++ []))))) (by rw [List.perm_iff_count]; intro a; (try simp only [List.count_append, List.count_cons, List.count_nil, Nat.add_zero, Nat.zero_add]); first | done | ac_rfl)))
            have hp288 : ((blk (.slice A227 n228 c229) :: blk (.slice A179 n180 c181) :: blk (.slice A134 n135 c136) :: blk (.slice A102 n103 c104) :: blk (.slice A86 n87 c88) :: blk (.slice A75 n76 c77) :: (q232 ++ (q184 ++ (q139 ++ (q107 ++ (q91 ++ [])))))) : Ob).Perm ((blk (.slice A102 n103 c104) :: (q107 ++ [])) ++ (blk (.slice A227 n228 c229) :: blk (.slice A179 n180 c181) :: blk (.slice A134 n135 c136) :: blk (.slice A86 n87 c88) :: blk (.slice A75 n76 c77) :: (q232 ++ (q184 ++ (q139 ++ (q91 ++ [])))))) := (by rw [List.perm_iff_count]; intro a; (try simp only [List.count_append, List.count_cons, List.count_nil, Nat.add_zero, Nat.zero_add]); first | done | ac_rfl)
            refine L_call go30 [.slice A102 n103 c104, vi r14] rfl ((laws_markFeatS.calls w275 hc283.ok r7 A102 n103 c104 ra108 q107 h286 hd287 (Dj.left (Dj.left (hc283.perm hp288).dj)) (fun b hb => List.mem_append_left _ (hp288.mem_iff.2 (List.mem_append_left _ hb))) r14 _ H).mono ?_)
            rintro _ w284 ⟨r15, m2, ra291, rfl, H, g285, h289, hd290⟩
            have hc292 := hc283.dm g285 (fun b hb => hp288.mem_iff.2 (List.mem_append_left _ hb))
            refine L_pu (P_assign (vi r15) rfl) ?_
            refine L_nil ?_
            refine W_seq ?_
            refine W_seq ?_
            refine W_reg ?_
            refine L_pu (P_move (vi r15) rfl) ?_
            refine L_pu (P_cmp r15 0 (decide (r15 < 0)) rfl rfl rfl) ?_
            refine L_pu (P_move (vb (decide (r15 < 0))) rfl) ?_
            rcases bool_or (decide (r15 < 0)) with hq293 | hq293
            · have H := ite_t H hq293
              refine L_pass (dj := 58) rfl rfl (.inl (by exact congrArg Value.bool hq293)) ?_
              refine L_pass (dj := 58) rfl rfl (.inl (by exact congrArg Value.bool hq293)) ?_
              refine L_pass (dj := 58) rfl rfl (.inl (by exact congrArg Value.bool hq293)) ?_
              refine L_pass (dj := 58) rfl rfl (.inl (by exact congrArg Value.bool hq293)) ?_
              refine L_pu (P_pick true (vb true) (by exact congrArg Value.bool hq293) rfl) ?_
              refine L_nil ?_
              refine W_ct (b := true) rfl rfl ?_
              refine W_seq ?_
              refine W_reg ?_
              refine L_pu (P_assign (vb false) rfl) ?_
              refine L_nil ?_
              refine W_ret ?_
              have hp294 : ((blk (.slice A227 n228 c229) :: blk (.slice A179 n180 c181) :: blk (.slice A134 n135 c136) :: blk (.slice A102 n103 c104) :: blk (.slice A86 n87 c88) :: blk (.slice A75 n76 c77) :: (q232 ++ (q184 ++ (q139 ++ (q107 ++ (q91 ++ [])))))) : Ob).Perm ((blk (.slice A227 n228 c229) :: (q232 ++ [])) ++ (blk (.slice A179 n180 c181) :: blk (.slice A134 n135 c136) :: blk (.slice A102 n103 c104) :: blk (.slice A86 n87 c88) :: blk (.slice A75 n76 c77) :: (q184 ++ (q139 ++ (q107 ++ (q91 ++ [])))))) := (by rw [List.perm_iff_count]; intro a; (try simp only [List.count_append, List.count_cons, List.count_nil, Nat.add_zero, Nat.zero_add]); first | done | ac_rfl)
              have hc295 := hc292.drops hp294
              have hp296 : ((blk (.slice A179 n180 c181) :: blk (.slice A134 n135 c136) :: blk (.slice A102 n103 c104) :: blk (.slice A86 n87 c88) :: blk (.slice A75 n76 c77) :: (q184 ++ (q139 ++ (q107 ++ (q91 ++ []))))) : Ob).Perm ((blk (.slice A179 n180 c181) :: (q184 ++ [])) ++ (blk (.slice A134 n135 c136) :: blk (.slice A102 n103 c104) :: blk (.slice A86 n87 c88) :: blk (.slice A75 n76 c77) :: (q139 ++ (q107 ++ (q91 ++ []))))) := (by rw [List.perm_iff_count]; intro a; (try simp only [List.count_append, List.count_cons, List.count_nil, Nat.add_zero, Nat.zero_add]); first | done | ac_rfl)
              have hc297 := hc295.drops hp296
              have hp298 : ((blk (.slice A134 n135 c136) :: blk (.slice A102 n103 c104) :: blk (.slice A86 n87 c88) :: blk (.slice A75 n76 c77) :: (q139 ++ (q107 ++ (q91 ++ [])))) : Ob).Perm ((blk (.slice A134 n135 c136) :: (q139 ++ [])) ++ (blk (.slice A102 n103 c104) :: blk (.slice A86 n87 c88) :: blk (.slice A75 n76 c77) :: (q107 ++ (q91 ++ [])))) := (by rw [List.perm_iff_count]; intro a; (try simp only [List.count_append, List.count_cons, List.count_nil, Nat.add_zero, Nat.zero_add]); first | done | ac_rfl)
              have hc299 := hc297.drops hp298
              have hp300 : ((blk (.slice A102 n103 c104) :: blk (.slice A86 n87 c88) :: blk (.slice A75 n76 c77) :: (q107 ++ (q91 ++ []))) : Ob).Perm ((blk (.slice A102 n103 c104) :: (q107 ++ [])) ++ (blk (.slice A86 n87 c88) :: blk (.slice A75 n76 c77) :: (q91 ++ []))) := (by rw [List.perm_iff_count]; intro a; (try simp only [List.count_append, List.count_cons, List.count_nil, Nat.add_zero, Nat.zero_add]); first | done | ac_rfl)
              have hc301 := hc299.drops hp300
              have hp302 : ((blk (.slice A86 n87 c88) :: blk (.slice A75 n76 c77) :: (q91 ++ [])) : Ob).Perm ((blk (.slice A86 n87 c88) :: (q91 ++ [])) ++ [blk (.slice A75 n76 c77)]) := (by rw [List.perm_iff_count]; intro a; (try simp only [List.count_append, List.count_cons, List.count_nil, Nat.add_zero, Nat.zero_add]); first | done | ac_rfl)
              have hc303 := hc301.drops hp302
              have hc304 := hc303.drop 0 rfl
              exact ⟨[vb false], ⟨_, rfl, rfl⟩, false, rfl, H, hc304.gr.g0⟩
            · have H := ite_f H hq293
              refine L_run (dj := 58) rfl rfl (by exact congrArg Value.bool hq293) ?_
              refine L_pu (P_move (.slice A134 n135 c136) rfl) ?_
              refine L_run (dj := 58) rfl rfl (by exact congrArg Value.bool hq293) ?_
              refine L_pu (P_move (.slice A75 n76 c77) rfl) ?_
              refine L_run (dj := 58) rfl rfl (by exact congrArg Value.bool hq293) ?_
              have h305 := (Ow.gm (Ow.gm ((Ow.spa (A := (blk (.slice A227 n228 c229) :: (q232 ++ []))) (L := (blk (.slice A179 n180 c181) :: blk (.slice A134 n135 c136) :: blk (.slice A102 n103 c104) :: blk (.slice A86 n87 c88) :: blk (.slice A75 n76 c77) :: (q184 ++ (q139 ++ (q107 ++ (q91 ++ [])))))) (O := O) (((Ow.spa (A := (blk (.slice A179 n180 c181) :: (q184 ++ []))) (L := (blk (.slice A134 n135 c136) :: blk (.slice A102 n103 c104) :: blk (.slice A86 n87 c88) :: blk (.slice A75 n76 c77) :: (q139 ++ (q107 ++ (q91 ++ []))))) (O := O) (((Ow.spa (A := (blk (.slice A134 n135 c136) :: (q139 ++ []))) (L := (blk (.slice A102 n103 c104) :: blk (.slice A86 n87 c88) :: blk (.slice A75 n76 c77) :: (q107 ++ (q91 ++ [])))) (O := O) h147 hp148).sn g164).sos g178 hk189) hp191).sn g210).sos g226 hk237) hp239).sn g258) g276 (fun b hb => List.mem_append_left _ (hp279.mem_iff.2 (List.mem_append_left _ hb))) (Ct.sep1 (L := (blk (.slice A227 n228 c229) :: blk (.slice A179 n180 c181) :: blk (.slice A134 n135 c136) :: blk (.slice A102 n103 c104) :: blk (.slice A86 n87 c88) :: blk (.slice A75 n76 c77) :: (q232 ++ (q184 ++ (q139 ++ (q107 ++ (q91 ++ []))))))) (O := O) hc262 (B := (blk (.slice A86 n87 c88) :: (q91 ++ []))) (C := (blk (.slice A227 n228 c229) :: blk (.slice A179 n180 c181) :: blk (.slice A102 n103 c104) :: blk (.slice A75 n76 c77) :: (q232 ++ (q184 ++ (q139 ++ (q107 ++ [])))))) (by rw [List.perm_iff_count]; intro a; (try simp only [List.count_append, List.count_cons, List.count_nil, Nat.add_zero, Nat.zero_add]); first | done | ac_rfl))) g285 (fun b hb => List.mem_append_left _ (hp288.mem_iff.2 (List.mem_append_left _ hb))) (Ct.sep1 (L := (blk (.slice A227 n228 c229) :: blk (.slice A179 n180 c181) :: blk (.slice A134 n135 c136) :: blk (.slice A102 n103 c104) :: blk (.slice A86 n87 c88) :: blk (.slice A75 n76 c77) :: (q232 ++ (q184 ++ (q139 ++ (q107 ++ (q91 ++ []))))))) (O := O) hc283 (B := (blk (.slice A102 n103 c104) :: (q107 ++ []))) (C := (blk (.slice A227 n228 c229) :: blk (.slice A179 n180 c181) :: blk (.slice A86 n87 c88) :: blk (.slice A75 n76 c77) :: (q232 ++ (q184 ++ (q139 ++ (q91 ++ [])))))) (by rw [List.perm_iff_count]; intro a; (try simp only [List.count_append, List.count_cons, List.count_nil, Nat.add_zero, Nat.zero_add]); first | done | ac_rfl)))
              have hd306 := (DArr.gm (DArr.gm (((((hd141.k0 g164).k0 g178).k0 g210).k0 g226).k0 g258) g276 (Ct.sep (L := (blk (.slice A227 n228 c229) :: blk (.slice A179 n180 c181) :: blk (.slice A134 n135 c136) :: blk (.slice A102 n103 c104) :: blk (.slice A86 n87 c88) :: blk (.slice A75 n76 c77) :: (q232 ++ (q184 ++ (q139 ++ (q107 ++ (q91 ++ []))))))) (O := O) hc262 (A := q139) (B := (blk (.slice A86 n87 c88) :: (q91 ++ []))) (C := (blk (.slice A227 n228 c229) :: blk (.slice A179 n180 c181) :: blk (.slice A134 n135 c136) :: blk (.slice A102 n103 c104) :: blk (.slice A75 n76 c77) :: (q232 ++ (q184 ++ (q107 ++ []))))) (by rw [List.perm_iff_count]; intro a; (try simp only [List.count_append, List.count_cons, List.count_nil, Nat.add_zero, Nat.zero_add]); first | done | ac_rfl))) g285 (Ct.sep (L := (blk (.slice A227 n228 c229) :: blk (.slice A179 n180 c181) :: blk (.slice A134 n135 c136) :: blk (.slice A102 n103 c104) :: blk (.slice A86 n87 c88) :: blk (.slice A75 n76 c77) :: (q232 ++ (q184 ++ (q139 ++ (q107 ++ (q91 ++ []))))))) (O := O) hc283 (A := q139) (B := (blk (.slice A102 n103 c104) :: (q107 ++ []))) (C := (blk (.slice A227 n228 c229) :: blk (.slice A179 n180 c181) :: blk (.slice A134 n135 c136) :: blk (.slice A86 n87 c88) :: blk (.slice A75 n76 c77) :: (q232 ++ (q184 ++ (q91 ++ []))))) (by rw [List.perm_iff_count]; intro a; (try simp only [List.count_append, List.count_cons, List.count_nil, Nat.add_zero, Nat.zero_add]); first | done | ac_rfl)))
              have hp310 : ((blk (.slice A227 n228 c229) :: blk (.slice A179 n180 c181) :: blk (.slice A134 n135 c136) :: blk (.slice A102 n103 c104) :: blk (.slice A86 n87 c88) :: blk (.slice A75 n76 c77) :: (q232 ++ (q184 ++ (q139 ++ (q107 ++ (q91 ++ [])))))) : Ob).Perm (blk (.slice A134 n135 c136) :: (q139 ++ (blk (.slice A227 n228 c229) :: blk (.slice A179 n180 c181) :: blk (.slice A102 n103 c104) :: blk (.slice A86 n87 c88) :: blk (.slice A75 n76 c77) :: (q232 ++ (q184 ++ (q107 ++ (q91 ++ []))))))) := (by rw [List.perm_iff_count]; intro a; (try simp only [List.count_append, List.count_cons, List.count_nil, Nat.add_zero, Nat.zero_add]); first | done | ac_rfl)
              obtain ⟨h307, hc308, s309⟩ := Dp.gv (L := (blk (.slice A227 n228 c229) :: blk (.slice A179 n180 c181) :: blk (.slice A134 n135 c136) :: blk (.slice A102 n103 c104) :: blk (.slice A86 n87 c88) :: blk (.slice A75 n76 c77) :: (q232 ++ (q184 ++ (q139 ++ (q107 ++ (q91 ++ []))))))) (O := O) h305 hd306 hc292 hp310
              have h313 := (Ow.drops (L := (blk (.slice A227 n228 c229) :: blk (.slice A179 n180 c181) :: blk (.slice A134 n135 c136) :: blk (.slice A102 n103 c104) :: blk (.slice A86 n87 c88) :: blk (.slice A75 n76 c77) :: (q232 ++ (q184 ++ (q139 ++ (q107 ++ (q91 ++ []))))))) (O := O) (rs := blk (.slice A134 n135 c136) :: q139) (Ow.gm (Ow.gm ((Ow.spa (A := (blk (.slice A227 n228 c229) :: (q232 ++ []))) (L := (blk (.slice A179 n180 c181) :: blk (.slice A134 n135 c136) :: blk (.slice A102 n103 c104) :: blk (.slice A86 n87 c88) :: blk (.slice A75 n76 c77) :: (q184 ++ (q139 ++ (q107 ++ (q91 ++ [])))))) (O := O) (((Ow.spa (A := (blk (.slice A179 n180 c181) :: (q184 ++ []))) (L := (blk (.slice A134 n135 c136) :: blk (.slice A102 n103 c104) :: blk (.slice A86 n87 c88) :: blk (.slice A75 n76 c77) :: (q139 ++ (q107 ++ (q91 ++ []))))) (O := O) (((Ow.spa (A := (blk (.slice A134 n135 c136) :: (q139 ++ []))) (L := (blk (.slice A102 n103 c104) :: blk (.slice A86 n87 c88) :: blk (.slice A75 n76 c77) :: (q107 ++ (q91 ++ [])))) (O := O) ((Ow.spa (A := (blk (.slice A102 n103 c104) :: (q107 ++ []))) (L := (blk (.slice A86 n87 c88) :: blk (.slice A75 n76 c77) :: (q91 ++ []))) (O := O) ((Ow.spa (A := (blk (.slice A86 n87 c88) :: (q91 ++ []))) (L := [blk (.slice A75 n76 c77)]) (O := O) (h78.sos g85 hk96) hp98).sos g101 hk112) hp114).sos g133 hk144) hp148).sn g164).sos g178 hk189) hp191).sn g210).sos g226 hk237) hp239).sn g258) g276 (fun b hb => List.mem_append_left _ (hp279.mem_iff.2 (List.mem_append_left _ hb))) (Ct.sep1 (L := (blk (.slice A227 n228 c229) :: blk (.slice A179 n180 c181) :: blk (.slice A134 n135 c136) :: blk (.slice A102 n103 c104) :: blk (.slice A86 n87 c88) :: blk (.slice A75 n76 c77) :: (q232 ++ (q184 ++ (q139 ++ (q107 ++ (q91 ++ []))))))) (O := O) hc262 (B := (blk (.slice A86 n87 c88) :: (q91 ++ []))) (C := (blk (.slice A227 n228 c229) :: blk (.slice A179 n180 c181) :: blk (.slice A134 n135 c136) :: blk (.slice A102 n103 c104) :: (q232 ++ (q184 ++ (q139 ++ (q107 ++ [])))))) (by rw [List.perm_iff_count]; intro a; (try simp only [List.count_append, List.count_cons, List.count_nil, Nat.add_zero, Nat.zero_add]); first | done | ac_rfl))) g285 (fun b hb => List.mem_append_left _ (hp288.mem_iff.2 (List.mem_append_left _ hb))) (Ct.sep1 (L := (blk (.slice A227 n228 c229) :: blk (.slice A179 n180 c181) :: blk (.slice A134 n135 c136) :: blk (.slice A102 n103 c104) :: blk (.slice A86 n87 c88) :: blk (.slice A75 n76 c77) :: (q232 ++ (q184 ++ (q139 ++ (q107 ++ (q91 ++ []))))))) (O := O) hc283 (B := (blk (.slice A102 n103 c104) :: (q107 ++ []))) (C := (blk (.slice A227 n228 c229) :: blk (.slice A179 n180 c181) :: blk (.slice A134 n135 c136) :: blk (.slice A86 n87 c88) :: (q232 ++ (q184 ++ (q139 ++ (q91 ++ [])))))) (by rw [List.perm_iff_count]; intro a; (try simp only [List.count_append, List.count_cons, List.count_nil, Nat.add_zero, Nat.zero_add]); first | done | ac_rfl))) hp310 (memi 4 rfl))
              have h314 := Ow.gv (L := (blk (.slice A227 n228 c229) :: blk (.slice A179 n180 c181) :: blk (.slice A102 n103 c104) :: blk (.slice A86 n87 c88) :: blk (.slice A75 n76 c77) :: (q232 ++ (q184 ++ (q107 ++ (q91 ++ [])))))) (O := O) h313 hc308 (i := 4) rfl
              have hc315 := hc308.drop 4 rfl
              have h317 := (h307.st (.dr _ (L := (blk (.slice A227 n228 c229) :: blk (.slice A179 n180 c181) :: blk (.slice A102 n103 c104) :: blk (.slice A86 n87 c88) :: blk (.slice A75 n76 c77) :: (q232 ++ (q184 ++ (q107 ++ (q91 ++ [])))))) (O := O) (j := 4) rfl))
              refine L_call go22 [.slice A134 n135 c136, .slice A75 n76 c77] rfl ((laws_eqChangeS.calls w284 hc315.ok r8 A134 n135 c136 h317 r5 A75 n76 c77 h314 _ H).mono ?_)
              rintro _ w318 ⟨r16, rfl, H, g319⟩
              have hc323 := hc292.k0 g319
              refine L_run (dj := 58) rfl rfl (by exact congrArg Value.bool hq293) ?_
              refine L_pu (P_not r16 rfl) ?_
              refine L_pu (P_pick false (vb (!r16)) (by exact congrArg Value.bool hq293) rfl) ?_
              refine L_nil ?_
              refine W_cond (!r16) rfl (fun hq324 => ?_) (fun hq324 => ?_)
              · have H := ite_t H hq324
                refine W_seq ?_
                refine W_reg ?_
                refine L_pu (P_assign (vb false) rfl) ?_
                refine L_nil ?_
                refine W_ret ?_
                have hp325 : ((blk (.slice A227 n228 c229) :: blk (.slice A179 n180 c181) :: blk (.slice A134 n135 c136) :: blk (.slice A102 n103 c104) :: blk (.slice A86 n87 c88) :: blk (.slice A75 n76 c77) :: (q232 ++ (q184 ++ (q139 ++ (q107 ++ (q91 ++ [])))))) : Ob).Perm ((blk (.slice A227 n228 c229) :: (q232 ++ [])) ++ (blk (.slice A179 n180 c181) :: blk (.slice A134 n135 c136) :: blk (.slice A102 n103 c104) :: blk (.slice A86 n87 c88) :: blk (.slice A75 n76 c77) :: (q184 ++ (q139 ++ (q107 ++ (q91 ++ [])))))) := (by rw [List.perm_iff_count]; intro a; (try simp only [List.count_append, List.count_cons, List.count_nil, Nat.add_zero, Nat.zero_add]); first | done | ac_rfl)
                have hc326 := hc323.drops hp325
                have hp327 : ((blk (.slice A179 n180 c181) :: blk (.slice A134 n135 c136) :: blk (.slice A102 n103 c104) :: blk (.slice A86 n87 c88) :: blk (.slice A75 n76 c77) :: (q184 ++ (q139 ++ (q107 ++ (q91 ++ []))))) : Ob).Perm ((blk (.slice A179 n180 c181) :: (q184 ++ [])) ++ (blk (.slice A134 n135 c136) :: blk (.slice A102 n103 c104) :: blk (.slice A86 n87 c88) :: blk (.slice A75 n76 c77) :: (q139 ++ (q107 ++ (q91 ++ []))))) := (by rw [List.perm_iff_count]; intro a; (try simp only [List.count_append, List.count_cons, List.count_nil, Nat.add_zero, Nat.zero_add]); first | done | ac_rfl)
                have hc328 := hc326.drops hp327
                have hp329 : ((blk (.slice A134 n135 c136) :: blk (.slice A102 n103 c104) :: blk (.slice A86 n87 c88) :: blk (.slice A75 n76 c77) :: (q139 ++ (q107 ++ (q91 ++ [])))) : Ob).Perm ((blk (.slice A134 n135 c136) :: (q139 ++ [])) ++ (blk (.slice A102 n103 c104) :: blk (.slice A86 n87 c88) :: blk (.slice A75 n76 c77) :: (q107 ++ (q91 ++ [])))) := (by rw [List.perm_iff_count]; intro a; (try simp only [List.count_append, List.count_cons, List.count_nil, Nat.add_zero, Nat.zero_add]); first | done | ac_rfl)
                have hc330 := hc328.drops hp329
                have hp331 : ((blk (.slice A102 n103 c104) :: blk (.slice A86 n87 c88) :: blk (.slice A75 n76 c77) :: (q107 ++ (q91 ++ []))) : Ob).Perm ((blk (.slice A102 n103 c104) :: (q107 ++ [])) ++ (blk (.slice A86 n87 c88) :: blk (.slice A75 n76 c77) :: (q91 ++ []))) := (by rw [List.perm_iff_count]; intro a; (try simp only [List.count_append, List.count_cons, List.count_nil, Nat.add_zero, Nat.zero_add]); first | done | ac_rfl)
                have hc332 := hc330.drops hp331
                have hp333 : ((blk (.slice A86 n87 c88) :: blk (.slice A75 n76 c77) :: (q91 ++ [])) : Ob).Perm ((blk (.slice A86 n87 c88) :: (q91 ++ [])) ++ [blk (.slice A75 n76 c77)]) := (by rw [List.perm_iff_count]; intro a; (try simp only [List.count_append, List.count_cons, List.count_nil, Nat.add_zero, Nat.zero_add]); first | done | ac_rfl)
                have hc334 := hc332.drops hp333
                have hc335 := hc334.drop 0 rfl
                exact ⟨[vb false], ⟨_, rfl, rfl⟩, false, rfl, H, hc335.gr.g0⟩
              · have H := ite_f H hq324
                refine W_skip ?_
                refine W_seq ?_
                refine W_reg ?_
                refine L_pu (P_assign (vi 1) rfl) ?_
                refine L_nil ?_
                refine W_seq ?_
                refine W_reg ?_
                refine L_pu (P_move (.slice A134 n135 c136) rfl) ?_
                refine L_pu (P_move (vi 1) rfl) ?_
                have h338 := ((Ow.gm (Ow.gm ((Ow.spa (A := (blk (.slice A227 n228 c229) :: (q232 ++ []))) (L := (blk (.slice A179 n180 c181) :: blk (.slice A134 n135 c136) :: blk (.slice A102 n103 c104) :: blk (.slice A86 n87 c88) :: blk (.slice A75 n76 c77) :: (q184 ++ (q139 ++ (q107 ++ (q91 ++ [])))))) (O := O) (((Ow.spa (A := (blk (.slice A179 n180 c181) :: (q184 ++ []))) (L := (blk (.slice A134 n135 c136) :: blk (.slice A102 n103 c104) :: blk (.slice A86 n87 c88) :: blk (.slice A75 n76 c77) :: (q139 ++ (q107 ++ (q91 ++ []))))) (O := O) (((Ow.spa (A := (blk (.slice A134 n135 c136) :: (q139 ++ []))) (L := (blk (.slice A102 n103 c104) :: blk (.slice A86 n87 c88) :: blk (.slice A75 n76 c77) :: (q107 ++ (q91 ++ [])))) (O := O) h147 hp148).sn g164).sos g178 hk189) hp191).sn g210).sos g226 hk237) hp239).sn g258) g276 (fun b hb => List.mem_append_left _ (hp279.mem_iff.2 (List.mem_append_left _ hb))) (Ct.sep1 (L := (blk (.slice A227 n228 c229) :: blk (.slice A179 n180 c181) :: blk (.slice A134 n135 c136) :: blk (.slice A102 n103 c104) :: blk (.slice A86 n87 c88) :: blk (.slice A75 n76 c77) :: (q232 ++ (q184 ++ (q139 ++ (q107 ++ (q91 ++ []))))))) (O := O) hc262 (B := (blk (.slice A86 n87 c88) :: (q91 ++ []))) (C := (blk (.slice A227 n228 c229) :: blk (.slice A179 n180 c181) :: blk (.slice A102 n103 c104) :: blk (.slice A75 n76 c77) :: (q232 ++ (q184 ++ (q139 ++ (q107 ++ [])))))) (by rw [List.perm_iff_count]; intro a; (try simp only [List.count_append, List.count_cons, List.count_nil, Nat.add_zero, Nat.zero_add]); first | done | ac_rfl))) g285 (fun b hb => List.mem_append_left _ (hp288.mem_iff.2 (List.mem_append_left _ hb))) (Ct.sep1 (L := (blk (.slice A227 n228 c229) :: blk (.slice A179 n180 c181) :: blk (.slice A134 n135 c136) :: blk (.slice A102 n103 c104) :: blk (.slice A86 n87 c88) :: blk (.slice A75 n76 c77) :: (q232 ++ (q184 ++ (q139 ++ (q107 ++ (q91 ++ []))))))) (O := O) hc283 (B := (blk (.slice A102 n103 c104) :: (q107 ++ []))) (C := (blk (.slice A227 n228 c229) :: blk (.slice A179 n180 c181) :: blk (.slice A86 n87 c88) :: blk (.slice A75 n76 c77) :: (q232 ++ (q184 ++ (q139 ++ (q91 ++ [])))))) (by rw [List.perm_iff_count]; intro a; (try simp only [List.count_append, List.count_cons, List.count_nil, Nat.add_zero, Nat.zero_add]); first | done | ac_rfl))).sn g319)
                have hd339 := ((DArr.gm (DArr.gm (((((hd141.k0 g164).k0 g178).k0 g210).k0 g226).k0 g258) g276 (Ct.sep (L := (blk (.slice A227 n228 c229) :: blk (.slice A179 n180 c181) :: blk (.slice A134 n135 c136) :: blk (.slice A102 n103 c104) :: blk (.slice A86 n87 c88) :: blk (.slice A75 n76 c77) :: (q232 ++ (q184 ++ (q139 ++ (q107 ++ (q91 ++ []))))))) (O := O) hc262 (A := q139) (B := (blk (.slice A86 n87 c88) :: (q91 ++ []))) (C := (blk (.slice A227 n228 c229) :: blk (.slice A179 n180 c181) :: blk (.slice A134 n135 c136) :: blk (.slice A102 n103 c104) :: blk (.slice A75 n76 c77) :: (q232 ++ (q184 ++ (q107 ++ []))))) (by rw [List.perm_iff_count]; intro a; (try simp only [List.count_append, List.count_cons, List.count_nil, Nat.add_zero, Nat.zero_add]); first | done | ac_rfl))) g285 (Ct.sep (L := (blk (.slice A227 n228 c229) :: blk (.slice A179 n180 c181) :: blk (.slice A134 n135 c136) :: blk (.slice A102 n103 c104) :: blk (.slice A86 n87 c88) :: blk (.slice A75 n76 c77) :: (q232 ++ (q184 ++ (q139 ++ (q107 ++ (q91 ++ []))))))) (O := O) hc283 (A := q139) (B := (blk (.slice A102 n103 c104) :: (q107 ++ []))) (C := (blk (.slice A227 n228 c229) :: blk (.slice A179 n180 c181) :: blk (.slice A134 n135 c136) :: blk (.slice A86 n87 c88) :: blk (.slice A75 n76 c77) :: (q232 ++ (q184 ++ (q91 ++ []))))) (by rw [List.perm_iff_count]; intro a; (try simp only [List.count_append, List.count_cons, List.count_nil, Nat.add_zero, Nat.zero_add]); first | done | ac_rfl))).k0 g319)
                have hp340 : ((blk (.slice A227 n228 c229) :: blk (.slice A179 n180 c181) :: blk (.slice A134 n135 c136) :: blk (.slice A102 n103 c104) :: blk (.slice A86 n87 c88) :: blk (.slice A75 n76 c77) :: (q232 ++ (q184 ++ (q139 ++ (q107 ++ (q91 ++ [])))))) : Ob).Perm ((blk (.slice A134 n135 c136) :: (q139 ++ [])) ++ (blk (.slice A227 n228 c229) :: blk (.slice A179 n180 c181) :: blk (.slice A102 n103 c104) :: blk (.slice A86 n87 c88) :: blk (.slice A75 n76 c77) :: (q232 ++ (q184 ++ (q107 ++ (q91 ++ [])))))) := (by rw [List.perm_iff_count]; intro a; (try simp only [List.count_append, List.count_cons, List.count_nil, Nat.add_zero, Nat.zero_add]); first | done | ac_rfl)
                refine L_call go23 [.slice A134 n135 c136, vi 1] rfl ((laws_markChangeS.calls w318 hc323.ok r8 A134 n135 c136 ra140 q139 h338 hd339 (Dj.left (Dj.left (hc323.perm hp340).dj)) (fun b hb => List.mem_append_left _ (hp340.mem_iff.2 (List.mem_append_left _ hb))) 1 _ H).mono ?_)
                rintro _ w336 ⟨r17, m3, ra343, rfl, H, g337, h341, hd342⟩
                have hc344 := hc323.dm g337 (fun b hb => hp340.mem_iff.2 (List.mem_append_left _ hb))
                refine L_pu (P_assign (vi r17) rfl) ?_
                refine L_nil ?_
                refine W_seq ?_
                refine W_reg ?_
                refine L_pu (P_assign (vi 1) rfl) ?_
                refine L_nil ?_
                refine W_seq ?_
                refine W_reg ?_
                refine L_pu (P_move (.slice A134 n135 c136) rfl) ?_
                refine L_pu (P_move (vi 1) rfl) ?_
                have hp348 : ((blk (.slice A227 n228 c229) :: blk (.slice A179 n180 c181) :: blk (.slice A134 n135 c136) :: blk (.slice A102 n103 c104) :: blk (.slice A86 n87 c88) :: blk (.slice A75 n76 c77) :: (q232 ++ (q184 ++ (q139 ++ (q107 ++ (q91 ++ [])))))) : Ob).Perm (blk (.slice A134 n135 c136) :: (q139 ++ (blk (.slice A227 n228 c229) :: blk (.slice A179 n180 c181) :: blk (.slice A102 n103 c104) :: blk (.slice A86 n87 c88) :: blk (.slice A75 n76 c77) :: (q232 ++ (q184 ++ (q107 ++ (q91 ++ []))))))) := (by rw [List.perm_iff_count]; intro a; (try simp only [List.count_append, List.count_cons, List.count_nil, Nat.add_zero, Nat.zero_add]); first | done | ac_rfl)
                obtain ⟨h345, hc346, s347⟩ := Dp.gv (L := (blk (.slice A227 n228 c229) :: blk (.slice A179 n180 c181) :: blk (.slice A134 n135 c136) :: blk (.slice A102 n103 c104) :: blk (.slice A86 n87 c88) :: blk (.slice A75 n76 c77) :: (q232 ++ (q184 ++ (q139 ++ (q107 ++ (q91 ++ []))))))) (O := O) h341 hd342 hc344 hp348
                refine L_call go24 [.slice A134 n135 c136, vi 1] rfl ((laws_heldChangeS.calls w336 hc346.ok m3 A134 n135 c136 h345 1 _ H).mono ?_)
                rintro _ w351 ⟨r18, rfl, H, g352⟩
                have hc356 := hc344.k0 g352
                refine L_pu (P_assign (vi r18) rfl) ?_
                refine L_nil ?_
                refine W_seq ?_
                refine W_seq ?_
                refine W_reg ?_
                refine L_pu (P_move (vi r18) rfl) ?_
                refine L_pu (P_cmp r18 0 (decide (r18 < 0)) rfl rfl rfl) ?_
                refine L_nil ?_
                refine W_cond (decide (r18 < 0)) rfl (fun hq357 => ?_) (fun hq357 => ?_)
                · have H := ite_t H hq357
                  refine W_seq ?_
                  refine W_reg ?_
                  refine L_pu (P_assign (vb false) rfl) ?_
                  refine L_nil ?_
                  refine W_ret ?_
                  have hp358 : ((blk (.slice A227 n228 c229) :: blk (.slice A179 n180 c181) :: blk (.slice A134 n135 c136) :: blk (.slice A102 n103 c104) :: blk (.slice A86 n87 c88) :: blk (.slice A75 n76 c77) :: (q232 ++ (q184 ++ (q139 ++ (q107 ++ (q91 ++ [])))))) : Ob).Perm ((blk (.slice A227 n228 c229) :: (q232 ++ [])) ++ (blk (.slice A179 n180 c181) :: blk (.slice A134 n135 c136) :: blk (.slice A102 n103 c104) :: blk (.slice A86 n87 c88) :: blk (.slice A75 n76 c77) :: (q184 ++ (q139 ++ (q107 ++ (q91 ++ [])))))) := (by rw [List.perm_iff_count]; intro a; (try simp only [List.count_append, List.count_cons, List.count_nil, Nat.add_zero, Nat.zero_add]); first | done | ac_rfl)
                  have hc359 := hc356.drops hp358
                  have hp360 : ((blk (.slice A179 n180 c181) :: blk (.slice A134 n135 c136) :: blk (.slice A102 n103 c104) :: blk (.slice A86 n87 c88) :: blk (.slice A75 n76 c77) :: (q184 ++ (q139 ++ (q107 ++ (q91 ++ []))))) : Ob).Perm ((blk (.slice A179 n180 c181) :: (q184 ++ [])) ++ (blk (.slice A134 n135 c136) :: blk (.slice A102 n103 c104) :: blk (.slice A86 n87 c88) :: blk (.slice A75 n76 c77) :: (q139 ++ (q107 ++ (q91 ++ []))))) := (by rw [List.perm_iff_count]; intro a; (try simp only [List.count_append, List.count_cons, List.count_nil, Nat.add_zero, Nat.zero_add]); first | done | ac_rfl)
                  have hc361 := hc359.drops hp360
                  have hp362 : ((blk (.slice A134 n135 c136) :: blk (.slice A102 n103 c104) :: blk (.slice A86 n87 c88) :: blk (.slice A75 n76 c77) :: (q139 ++ (q107 ++ (q91 ++ [])))) : Ob).Perm ((blk (.slice A134 n135 c136) :: (q139 ++ [])) ++ (blk (.slice A102 n103 c104) :: blk (.slice A86 n87 c88) :: blk (.slice A75 n76 c77) :: (q107 ++ (q91 ++ [])))) := (by rw [List.perm_iff_count]; intro a; (try simp only [List.count_append, List.count_cons, List.count_nil, Nat.add_zero, Nat.zero_add]); first | done | ac_rfl)
                  have hc363 := hc361.drops hp362
                  have hp364 : ((blk (.slice A102 n103 c104) :: blk (.slice A86 n87 c88) :: blk (.slice A75 n76 c77) :: (q107 ++ (q91 ++ []))) : Ob).Perm ((blk (.slice A102 n103 c104) :: (q107 ++ [])) ++ (blk (.slice A86 n87 c88) :: blk (.slice A75 n76 c77) :: (q91 ++ []))) := (by rw [List.perm_iff_count]; intro a; (try simp only [List.count_append, List.count_cons, List.count_nil, Nat.add_zero, Nat.zero_add]); first | done | ac_rfl)
                  have hc365 := hc363.drops hp364
                  have hp366 : ((blk (.slice A86 n87 c88) :: blk (.slice A75 n76 c77) :: (q91 ++ [])) : Ob).Perm ((blk (.slice A86 n87 c88) :: (q91 ++ [])) ++ [blk (.slice A75 n76 c77)]) := (by rw [List.perm_iff_count]; intro a; (try simp only [List.count_append, List.count_cons, List.count_nil, Nat.add_zero, Nat.zero_add]); first | done | ac_rfl)
                  have hc367 := hc365.drops hp366
                  have hc368 := hc367.drop 0 rfl
                  exact ⟨[vb false], ⟨_, rfl, rfl⟩, false, rfl, H, hc368.gr.g0⟩
                · have H := ite_f H hq357
                  refine W_skip ?_
                  refine W_seq ?_
                  refine W_seq ?_
                  refine W_reg ?_
                  refine L_pu (P_move (vi r18) rfl) ?_
                  refine L_pu (P_move (vi r17) rfl) ?_
                  refine L_pu (P_cmp r18 r17 (r18 != r17) rfl rfl rfl) ?_
                  refine L_nil ?_
                  refine W_cond (r18 != r17) rfl (fun hq369 => ?_) (fun hq369 => ?_)
                  · have H := ite_t H hq369
                    refine W_seq ?_
                    refine W_reg ?_
                    refine L_pu (P_assign (vb false) rfl) ?_
                    refine L_nil ?_
                    refine W_ret ?_
                    have hp370 : ((blk (.slice A227 n228 c229) :: blk (.slice A179 n180 c181) :: blk (.slice A134 n135 c136) :: blk (.slice A102 n103 c104) :: blk (.slice A86 n87 c88) :: blk (.slice A75 n76 c77) :: (q232 ++ (q184 ++ (q139 ++ (q107 ++ (q91 ++ [])))))) : Ob).Perm ((blk (.slice A227 n228 c229) :: (q232 ++ [])) ++ (blk (.slice A179 n180 c181) :: blk (.slice A134 n135 c136) :: blk (.slice A102 n103 c104) :: blk (.slice A86 n87 c88) :: blk (.slice A75 n76 c77) :: (q184 ++ (q139 ++ (q107 ++ (q91 ++ [])))))) := (by rw [List.perm_iff_count]; intro a; (try simp only [List.count_append, List.count_cons, List.count_nil, Nat.add_zero, Nat.zero_add]); first | done | ac_rfl)
                    have hc371 := hc356.drops hp370
                    have hp372 : ((blk (.slice A179 n180 c181) :: blk (.slice A134 n135 c136) :: blk (.slice A102 n103 c104) :: blk (.slice A86 n87 c88) :: blk (.slice A75 n76 c77) :: (q184 ++ (q139 ++ (q107 ++ (q91 ++ []))))) : Ob).Perm ((blk (.slice A179 n180 c181) :: (q184 ++ [])) ++ (blk (.slice A134 n135 c136) :: blk (.slice A102 n103 c104) :: blk (.slice A86 n87 c88) :: blk (.slice A75 n76 c77) :: (q139 ++ (q107 ++ (q91 ++ []))))) := (by rw [List.perm_iff_count]; intro a; (try simp only [List.count_append, List.count_cons, List.count_nil, Nat.add_zero, Nat.zero_add]); first | done | ac_rfl)
                    have hc373 := hc371.drops hp372
                    have hp374 : ((blk (.slice A134 n135 c136) :: blk (.slice A102 n103 c104) :: blk (.slice A86 n87 c88) :: blk (.slice A75 n76 c77) :: (q139 ++ (q107 ++ (q91 ++ [])))) : Ob).Perm ((blk (.slice A134 n135 c136) :: (q139 ++ [])) ++ (blk (.slice A102 n103 c104) :: blk (.slice A86 n87 c88) :: blk (.slice A75 n76 c77) :: (q107 ++ (q91 ++ [])))) := (by rw [List.perm_iff_count]; intro a; (try simp only [List.count_append, List.count_cons, List.count_nil, Nat.add_zero, Nat.zero_add]); first | done | ac_rfl)
                    have hc375 := hc373.drops hp374
                    have hp376 : ((blk (.slice A102 n103 c104) :: blk (.slice A86 n87 c88) :: blk (.slice A75 n76 c77) :: (q107 ++ (q91 ++ []))) : Ob).Perm ((blk (.slice A102 n103 c104) :: (q107 ++ [])) ++ (blk (.slice A86 n87 c88) :: blk (.slice A75 n76 c77) :: (q91 ++ []))) := (by rw [List.perm_iff_count]; intro a; (try simp only [List.count_append, List.count_cons, List.count_nil, Nat.add_zero, Nat.zero_add]); first | done | ac_rfl)
                    have hc377 := hc375.drops hp376
                    have hp378 : ((blk (.slice A86 n87 c88) :: blk (.slice A75 n76 c77) :: (q91 ++ [])) : Ob).Perm ((blk (.slice A86 n87 c88) :: (q91 ++ [])) ++ [blk (.slice A75 n76 c77)]) := (by rw [List.perm_iff_count]; intro a; (try simp only [List.count_append, List.count_cons, List.count_nil, Nat.add_zero, Nat.zero_add]); first | done | ac_rfl)
                    have hc379 := hc377.drops hp378
                    have hc380 := hc379.drop 0 rfl
                    exact ⟨[vb false], ⟨_, rfl, rfl⟩, false, rfl, H, hc380.gr.g0⟩
                  · have H := ite_f H hq369
                    refine W_skip ?_
                    refine W_seq ?_
                    refine W_reg ?_
                    refine L_pu (P_move (.slice A1 n2 c3) rfl) ?_
                    refine L_call go27 [.slice A1 n2 c3] rfl ((laws_toFeatS.calls w351 hc356.ok aA A1 n2 c3 (hp4.st hc356.st) _ H).mono ?_)
                    rintro _ w381 ⟨r19, A383, n384, c385, q388, ra389, rfl, H, g382, hk392, hk393, h386, hd390⟩
                    have hc394 := hc356.owns g382 hk392 hk393
                    have hp395 : (((blk (.slice A383 n384 c385) :: (q388 ++ [])) ++ (blk (.slice A227 n228 c229) :: blk (.slice A179 n180 c181) :: blk (.slice A134 n135 c136) :: blk (.slice A102 n103 c104) :: blk (.slice A86 n87 c88) :: blk (.slice A75 n76 c77) :: (q232 ++ (q184 ++ (q139 ++ (q107 ++ (q91 ++ []))))))) : Ob).Perm (blk (.slice A383 n384 c385) :: blk (.slice A227 n228 c229) :: blk (.slice A179 n180 c181) :: blk (.slice A134 n135 c136) :: blk (.slice A102 n103 c104) :: blk (.slice A86 n87 c88) :: blk (.slice A75 n76 c77) :: (q388 ++ (q232 ++ (q184 ++ (q139 ++ (q107 ++ (q91 ++ []))))))) := (by rw [List.perm_iff_count]; intro a; (try simp only [List.count_append, List.count_cons, List.count_nil, Nat.add_zero, Nat.zero_add]); first | done | ac_rfl)
                    have hc396 := hc394.perm hp395
                    refine L_pu (P_move (.slice A6 n7 c8) rfl) ?_
                    refine L_call go27 [.slice A6 n7 c8] rfl ((laws_toFeatS.calls w381 hc396.ok aB A6 n7 c8 (hp9.st hc396.st) _ H).mono ?_)
                    rintro _ w397 ⟨r20, A399, n400, c401, q404, ra405, rfl, H, g398, hk408, hk409, h402, hd406⟩
                    have hc410 := hc396.owns g398 hk408 hk409
                    have hp411 : (((blk (.slice A399 n400 c401) :: (q404 ++ [])) ++ (blk (.slice A383 n384 c385) :: blk (.slice A227 n228 c229) :: blk (.slice A179 n180 c181) :: blk (.slice A134 n135 c136) :: blk (.slice A102 n103 c104) :: blk (.slice A86 n87 c88) :: blk (.slice A75 n76 c77) :: (q388 ++ (q232 ++ (q184 ++ (q139 ++ (q107 ++ (q91 ++ [])))))))) : Ob).Perm (blk (.slice A399 n400 c401) :: blk (.slice A383 n384 c385) :: blk (.slice A227 n228 c229) :: blk (.slice A179 n180 c181) :: blk (.slice A134 n135 c136) :: blk (.slice A102 n103 c104) :: blk (.slice A86 n87 c88) :: blk (.slice A75 n76 c77) :: (q404 ++ (q388 ++ (q232 ++ (q184 ++ (q139 ++ (q107 ++ (q91 ++ [])))))))) := (by rw [List.perm_iff_count]; intro a; (try simp only [List.count_append, List.count_cons, List.count_nil, Nat.add_zero, Nat.zero_add]); first | done | ac_rfl)
                    have hc412 := hc410.perm hp411
                    have h413 := (Ow.spa (A := (blk (.slice A399 n400 c401) :: (q404 ++ []))) (L := (blk (.slice A383 n384 c385) :: blk (.slice A227 n228 c229) :: blk (.slice A179 n180 c181) :: blk (.slice A134 n135 c136) :: blk (.slice A102 n103 c104) :: blk (.slice A86 n87 c88) :: blk (.slice A75 n76 c77) :: (q388 ++ (q232 ++ (q184 ++ (q139 ++ (q107 ++ (q91 ++ [])))))))) (O := O) ((Ow.spa (A := (blk (.slice A383 n384 c385) :: (q388 ++ []))) (L := (blk (.slice A227 n228 c229) :: blk (.slice A179 n180 c181) :: blk (.slice A134 n135 c136) :: blk (.slice A102 n103 c104) :: blk (.slice A86 n87 c88) :: blk (.slice A75 n76 c77) :: (q232 ++ (q184 ++ (q139 ++ (q107 ++ (q91 ++ []))))))) (O := O) h386 hp395).sos g398 hk409) hp411)
                    have hd414 := (hd390.k0 g398)
                    have hp418 : ((blk (.slice A399 n400 c401) :: blk (.slice A383 n384 c385) :: blk (.slice A227 n228 c229) :: blk (.slice A179 n180 c181) :: blk (.slice A134 n135 c136) :: blk (.slice A102 n103 c104) :: blk (.slice A86 n87 c88) :: blk (.slice A75 n76 c77) :: (q404 ++ (q388 ++ (q232 ++ (q184 ++ (q139 ++ (q107 ++ (q91 ++ [])))))))) : Ob).Perm (blk (.slice A383 n384 c385) :: (q388 ++ (blk (.slice A399 n400 c401) :: blk (.slice A227 n228 c229) :: blk (.slice A179 n180 c181) :: blk (.slice A134 n135 c136) :: blk (.slice A102 n103 c104) :: blk (.slice A86 n87 c88) :: blk (.slice A75 n76 c77) :: (q404 ++ (q232 ++ (q184 ++ (q139 ++ (q107 ++ (q91 ++ []))))))))) := (by rw [List.perm_iff_count]; intro a; (try simp only [List.count_append, List.count_cons, List.count_nil, Nat.add_zero, Nat.zero_add]); first | done | ac_rfl)
                    obtain ⟨h415, hc416, s417⟩ := Dp.gv (L := (blk (.slice A399 n400 c401) :: blk (.slice A383 n384 c385) :: blk (.slice A227 n228 c229) :: blk (.slice A179 n180 c181) :: blk (.slice A134 n135 c136) :: blk (.slice A102 n103 c104) :: blk (.slice A86 n87 c88) :: blk (.slice A75 n76 c77) :: (q404 ++ (q388 ++ (q232 ++ (q184 ++ (q139 ++ (q107 ++ (q91 ++ []))))))))) (O := O) h413 hd414 hc412 hp418
                    have h421 := (Ow.drops (L := (blk (.slice A399 n400 c401) :: blk (.slice A383 n384 c385) :: blk (.slice A227 n228 c229) :: blk (.slice A179 n180 c181) :: blk (.slice A134 n135 c136) :: blk (.slice A102 n103 c104) :: blk (.slice A86 n87 c88) :: blk (.slice A75 n76 c77) :: (q404 ++ (q388 ++ (q232 ++ (q184 ++ (q139 ++ (q107 ++ (q91 ++ []))))))))) (O := O) (rs := blk (.slice A383 n384 c385) :: q388) (Ow.spa (A := (blk (.slice A399 n400 c401) :: (q404 ++ []))) (L := (blk (.slice A383 n384 c385) :: blk (.slice A227 n228 c229) :: blk (.slice A179 n180 c181) :: blk (.slice A134 n135 c136) :: blk (.slice A102 n103 c104) :: blk (.slice A86 n87 c88) :: blk (.slice A75 n76 c77) :: (q388 ++ (q232 ++ (q184 ++ (q139 ++ (q107 ++ (q91 ++ [])))))))) (O := O) h402 hp411) hp418 (memi 0 rfl))
                    have hd422 := hd406
                    have hp426 : ((blk (.slice A399 n400 c401) :: blk (.slice A227 n228 c229) :: blk (.slice A179 n180 c181) :: blk (.slice A134 n135 c136) :: blk (.slice A102 n103 c104) :: blk (.slice A86 n87 c88) :: blk (.slice A75 n76 c77) :: (q404 ++ (q232 ++ (q184 ++ (q139 ++ (q107 ++ (q91 ++ []))))))) : Ob).Perm (blk (.slice A399 n400 c401) :: (q404 ++ (blk (.slice A227 n228 c229) :: blk (.slice A179 n180 c181) :: blk (.slice A134 n135 c136) :: blk (.slice A102 n103 c104) :: blk (.slice A86 n87 c88) :: blk (.slice A75 n76 c77) :: (q232 ++ (q184 ++ (q139 ++ (q107 ++ (q91 ++ [])))))))) := (by rw [List.perm_iff_count]; intro a; (try simp only [List.count_append, List.count_cons, List.count_nil, Nat.add_zero, Nat.zero_add]); first | done | ac_rfl)
                    obtain ⟨h423, hc424, s425⟩ := Dp.gv (L := (blk (.slice A399 n400 c401) :: blk (.slice A227 n228 c229) :: blk (.slice A179 n180 c181) :: blk (.slice A134 n135 c136) :: blk (.slice A102 n103 c104) :: blk (.slice A86 n87 c88) :: blk (.slice A75 n76 c77) :: (q404 ++ (q232 ++ (q184 ++ (q139 ++ (q107 ++ (q91 ++ [])))))))) (O := O) h421 hd422 hc416 hp426
                    refine L_call go28 [.slice A383 n384 c385, .slice A399 n400 c401] rfl ((impl_DiffOf.calls w397 hc424.ok r19 A383 n384 c385 (h415.st s425) r20 A399 n400 c401 h423 _ H).mono ?_)
                    rintro _ w429 ⟨r21, A431, n432, c433, q436, ra437, rfl, H, g430, hk440, hk441, h434, hd438⟩
                    have hk443 := Ok.unl (L := (blk (.slice A399 n400 c401) :: blk (.slice A383 n384 c385) :: blk (.slice A227 n228 c229) :: blk (.slice A179 n180 c181) :: blk (.slice A134 n135 c136) :: blk (.slice A102 n103 c104) :: blk (.slice A86 n87 c88) :: blk (.slice A75 n76 c77) :: (q404 ++ (q388 ++ (q232 ++ (q184 ++ (q139 ++ (q107 ++ (q91 ++ []))))))))) (L' := (blk (.slice A227 n228 c229) :: blk (.slice A179 n180 c181) :: blk (.slice A134 n135 c136) :: blk (.slice A102 n103 c104) :: blk (.slice A86 n87 c88) :: blk (.slice A75 n76 c77) :: (q232 ++ (q184 ++ (q139 ++ (q107 ++ (q91 ++ []))))))) (O := O) hc412 g430 hk440 hk441
                    have h444 := Ow.unl (L := (blk (.slice A399 n400 c401) :: blk (.slice A383 n384 c385) :: blk (.slice A227 n228 c229) :: blk (.slice A179 n180 c181) :: blk (.slice A134 n135 c136) :: blk (.slice A102 n103 c104) :: blk (.slice A86 n87 c88) :: blk (.slice A75 n76 c77) :: (q404 ++ (q388 ++ (q232 ++ (q184 ++ (q139 ++ (q107 ++ (q91 ++ []))))))))) (L' := (blk (.slice A227 n228 c229) :: blk (.slice A179 n180 c181) :: blk (.slice A134 n135 c136) :: blk (.slice A102 n103 c104) :: blk (.slice A86 n87 c88) :: blk (.slice A75 n76 c77) :: (q232 ++ (q184 ++ (q139 ++ (q107 ++ (q91 ++ []))))))) (O := O) (fun _ _ _ _ _ _ h => h) (.cons _ (.cons _ (.cons_cons _ (.cons_cons _ (.cons_cons _ (.cons_cons _ (.cons_cons _ (.cons_cons _ (List.sublist_append_of_sublist_right (List.sublist_append_of_sublist_right (.append (.refl _) (.append (.refl _) (.append (.refl _) (.append (.refl _) (.append (.refl _) (.refl _)))))))))))))))) h434
                    have hc442 := hc412.owns g430 hk443 hk441
                    have hp445 : (((blk (.slice A431 n432 c433) :: (q436 ++ [])) ++ (blk (.slice A399 n400 c401) :: blk (.slice A383 n384 c385) :: blk (.slice A227 n228 c229) :: blk (.slice A179 n180 c181) :: blk (.slice A134 n135 c136) :: blk (.slice A102 n103 c104) :: blk (.slice A86 n87 c88) :: blk (.slice A75 n76 c77) :: (q404 ++ (q388 ++ (q232 ++ (q184 ++ (q139 ++ (q107 ++ (q91 ++ []))))))))) : Ob).Perm (blk (.slice A431 n432 c433) :: blk (.slice A399 n400 c401) :: blk (.slice A383 n384 c385) :: blk (.slice A227 n228 c229) :: blk (.slice A179 n180 c181) :: blk (.slice A134 n135 c136) :: blk (.slice A102 n103 c104) :: blk (.slice A86 n87 c88) :: blk (.slice A75 n76 c77) :: (q436 ++ (q404 ++ (q388 ++ (q232 ++ (q184 ++ (q139 ++ (q107 ++ (q91 ++ []))))))))) := (by rw [List.perm_iff_count]; intro a; (try simp only [List.count_append, List.count_cons, List.count_nil, Nat.add_zero, Nat.zero_add]); first | done | ac_rfl)
                    have hc446 := hc442.perm hp445
                    refine L_pu (P_assign (.slice A431 n432 c433) rfl) ?_
                    refine L_nil ?_
                    refine W_seq ?_
                    refine W_seq ?_
                    refine W_reg ?_
                    refine L_pu (P_move (.slice A431 n432 c433) rfl) ?_
                    refine L_pu (P_move (.slice A75 n76 c77) rfl) ?_
                    have h447 := (Ow.spa (A := (blk (.slice A431 n432 c433) :: (q436 ++ []))) (L := (blk (.slice A399 n400 c401) :: blk (.slice A383 n384 c385) :: blk (.slice A227 n228 c229) :: blk (.slice A179 n180 c181) :: blk (.slice A134 n135 c136) :: blk (.slice A102 n103 c104) :: blk (.slice A86 n87 c88) :: blk (.slice A75 n76 c77) :: (q404 ++ (q388 ++ (q232 ++ (q184 ++ (q139 ++ (q107 ++ (q91 ++ []))))))))) (O := O) h444 hp445)
                    have hd448 := hd438
                    have hp452 : ((blk (.slice A431 n432 c433) :: blk (.slice A399 n400 c401) :: blk (.slice A383 n384 c385) :: blk (.slice A227 n228 c229) :: blk (.slice A179 n180 c181) :: blk (.slice A134 n135 c136) :: blk (.slice A102 n103 c104) :: blk (.slice A86 n87 c88) :: blk (.slice A75 n76 c77) :: (q436 ++ (q404 ++ (q388 ++ (q232 ++ (q184 ++ (q139 ++ (q107 ++ (q91 ++ []))))))))) : Ob).Perm (blk (.slice A431 n432 c433) :: (q436 ++ (blk (.slice A399 n400 c401) :: blk (.slice A383 n384 c385) :: blk (.slice A227 n228 c229) :: blk (.slice A179 n180 c181) :: blk (.slice A134 n135 c136) :: blk (.slice A102 n103 c104) :: blk (.slice A86 n87 c88) :: blk (.slice A75 n76 c77) :: (q404 ++ (q388 ++ (q232 ++ (q184 ++ (q139 ++ (q107 ++ (q91 ++ [])))))))))) := (by rw [List.perm_iff_count]; intro a; (try simp only [List.count_append, List.count_cons, List.count_nil, Nat.add_zero, Nat.zero_add]); first | done | ac_rfl)
                    obtain ⟨h449, hc450, s451⟩ := Dp.gv (L := (blk (.slice A431 n432 c433) :: blk (.slice A399 n400 c401) :: blk (.slice A383 n384 c385) :: blk (.slice A227 n228 c229) :: blk (.slice A179 n180 c181) :: blk (.slice A134 n135 c136) :: blk (.slice A102 n103 c104) :: blk (.slice A86 n87 c88) :: blk (.slice A75 n76 c77) :: (q436 ++ (q404 ++ (q388 ++ (q232 ++ (q184 ++ (q139 ++ (q107 ++ (q91 ++ [])))))))))) (O := O) h447 hd448 hc446 hp452
                    have h455 := (Ow.drops (L := (blk (.slice A431 n432 c433) :: blk (.slice A399 n400 c401) :: blk (.slice A383 n384 c385) :: blk (.slice A227 n228 c229) :: blk (.slice A179 n180 c181) :: blk (.slice A134 n135 c136) :: blk (.slice A102 n103 c104) :: blk (.slice A86 n87 c88) :: blk (.slice A75 n76 c77) :: (q436 ++ (q404 ++ (q388 ++ (q232 ++ (q184 ++ (q139 ++ (q107 ++ (q91 ++ [])))))))))) (O := O) (rs := blk (.slice A431 n432 c433) :: q436) (Ow.spa (A := (blk (.slice A431 n432 c433) :: (q436 ++ []))) (L := (blk (.slice A399 n400 c401) :: blk (.slice A383 n384 c385) :: blk (.slice A227 n228 c229) :: blk (.slice A179 n180 c181) :: blk (.slice A134 n135 c136) :: blk (.slice A102 n103 c104) :: blk (.slice A86 n87 c88) :: blk (.slice A75 n76 c77) :: (q404 ++ (q388 ++ (q232 ++ (q184 ++ (q139 ++ (q107 ++ (q91 ++ []))))))))) (O := O) ((Ow.spa (A := (blk (.slice A399 n400 c401) :: (q404 ++ []))) (L := (blk (.slice A383 n384 c385) :: blk (.slice A227 n228 c229) :: blk (.slice A179 n180 c181) :: blk (.slice A134 n135 c136) :: blk (.slice A102 n103 c104) :: blk (.slice A86 n87 c88) :: blk (.slice A75 n76 c77) :: (q388 ++ (q232 ++ (q184 ++ (q139 ++ (q107 ++ (q91 ++ [])))))))) (O := O) ((Ow.spa (A := (blk (.slice A383 n384 c385) :: (q388 ++ []))) (L := (blk (.slice A227 n228 c229) :: blk (.slice A179 n180 c181) :: blk (.slice A134 n135 c136) :: blk (.slice A102 n103 c104) :: blk (.slice A86 n87 c88) :: blk (.slice A75 n76 c77) :: (q232 ++ (q184 ++ (q139 ++ (q107 ++ (q91 ++ []))))))) (O := O) (((Ow.gm ((Ow.gm (Ow.gm ((Ow.spa (A := (blk (.slice A227 n228 c229) :: (q232 ++ []))) (L := (blk (.slice A179 n180 c181) :: blk (.slice A134 n135 c136) :: blk (.slice A102 n103 c104) :: blk (.slice A86 n87 c88) :: blk (.slice A75 n76 c77) :: (q184 ++ (q139 ++ (q107 ++ (q91 ++ [])))))) (O := O) (((Ow.spa (A := (blk (.slice A179 n180 c181) :: (q184 ++ []))) (L := (blk (.slice A134 n135 c136) :: blk (.slice A102 n103 c104) :: blk (.slice A86 n87 c88) :: blk (.slice A75 n76 c77) :: (q139 ++ (q107 ++ (q91 ++ []))))) (O := O) (((Ow.spa (A := (blk (.slice A134 n135 c136) :: (q139 ++ []))) (L := (blk (.slice A102 n103 c104) :: blk (.slice A86 n87 c88) :: blk (.slice A75 n76 c77) :: (q107 ++ (q91 ++ [])))) (O := O) ((Ow.spa (A := (blk (.slice A102 n103 c104) :: (q107 ++ []))) (L := (blk (.slice A86 n87 c88) :: blk (.slice A75 n76 c77) :: (q91 ++ []))) (O := O) ((Ow.spa (A := (blk (.slice A86 n87 c88) :: (q91 ++ []))) (L := [blk (.slice A75 n76 c77)]) (O := O) (h78.sos g85 hk96) hp98).sos g101 hk112) hp114).sos g133 hk144) hp148).sn g164).sos g178 hk189) hp191).sn g210).sos g226 hk237) hp239).sn g258) g276 (fun b hb => List.mem_append_left _ (hp279.mem_iff.2 (List.mem_append_left _ hb))) (Ct.sep1 (L := (blk (.slice A227 n228 c229) :: blk (.slice A179 n180 c181) :: blk (.slice A134 n135 c136) :: blk (.slice A102 n103 c104) :: blk (.slice A86 n87 c88) :: blk (.slice A75 n76 c77) :: (q232 ++ (q184 ++ (q139 ++ (q107 ++ (q91 ++ []))))))) (O := O) hc262 (B := (blk (.slice A86 n87 c88) :: (q91 ++ []))) (C := (blk (.slice A227 n228 c229) :: blk (.slice A179 n180 c181) :: blk (.slice A134 n135 c136) :: blk (.slice A102 n103 c104) :: (q232 ++ (q184 ++ (q139 ++ (q107 ++ [])))))) (by rw [List.perm_iff_count]; intro a; (try simp only [List.count_append, List.count_cons, List.count_nil, Nat.add_zero, Nat.zero_add]); first | done | ac_rfl))) g285 (fun b hb => List.mem_append_left _ (hp288.mem_iff.2 (List.mem_append_left _ hb))) (Ct.sep1 (L := (blk (.slice A227 n228 c229) :: blk (.slice A179 n180 c181) :: blk (.slice A134 n135 c136) :: blk (.slice A102 n103 c104) :: blk (.slice A86 n87 c88) :: blk (.slice A75 n76 c77) :: (q232 ++ (q184 ++ (q139 ++ (q107 ++ (q91 ++ []))))))) (O := O) hc283 (B := (blk (.slice A102 n103 c104) :: (q107 ++ []))) (C := (blk (.slice A227 n228 c229) :: blk (.slice A179 n180 c181) :: blk (.slice A134 n135 c136) :: blk (.slice A86 n87 c88) :: (q232 ++ (q184 ++ (q139 ++ (q91 ++ [])))))) (by rw [List.perm_iff_count]; intro a; (try simp only [List.count_append, List.count_cons, List.count_nil, Nat.add_zero, Nat.zero_add]); first | done | ac_rfl))).sn g319) g337 (fun b hb => List.mem_append_left _ (hp340.mem_iff.2 (List.mem_append_left _ hb))) (Ct.sep1 (L := (blk (.slice A227 n228 c229) :: blk (.slice A179 n180 c181) :: blk (.slice A134 n135 c136) :: blk (.slice A102 n103 c104) :: blk (.slice A86 n87 c88) :: blk (.slice A75 n76 c77) :: (q232 ++ (q184 ++ (q139 ++ (q107 ++ (q91 ++ []))))))) (O := O) hc323 (B := (blk (.slice A134 n135 c136) :: (q139 ++ []))) (C := (blk (.slice A227 n228 c229) :: blk (.slice A179 n180 c181) :: blk (.slice A102 n103 c104) :: blk (.slice A86 n87 c88) :: (q232 ++ (q184 ++ (q107 ++ (q91 ++ [])))))) (by rw [List.perm_iff_count]; intro a; (try simp only [List.count_append, List.count_cons, List.count_nil, Nat.add_zero, Nat.zero_add]); first | done | ac_rfl))).sn g352).sos g382 hk393) hp395).sos g398 hk409) hp411).sos g430 hk441) hp445) hp452 (memi 7 rfl))
                    have h456 := Ow.gv (L := (blk (.slice A399 n400 c401) :: blk (.slice A383 n384 c385) :: blk (.slice A227 n228 c229) :: blk (.slice A179 n180 c181) :: blk (.slice A134 n135 c136) :: blk (.slice A102 n103 c104) :: blk (.slice A86 n87 c88) :: blk (.slice A75 n76 c77) :: (q404 ++ (q388 ++ (q232 ++ (q184 ++ (q139 ++ (q107 ++ (q91 ++ []))))))))) (O := O) h455 hc450 (i := 7) rfl
                    have hc457 := hc450.drop 7 rfl
                    have h459 := (h449.st (.dr _ (L := (blk (.slice A399 n400 c401) :: blk (.slice A383 n384 c385) :: blk (.slice A227 n228 c229) :: blk (.slice A179 n180 c181) :: blk (.slice A134 n135 c136) :: blk (.slice A102 n103 c104) :: blk (.slice A86 n87 c88) :: blk (.slice A75 n76 c77) :: (q404 ++ (q388 ++ (q232 ++ (q184 ++ (q139 ++ (q107 ++ (q91 ++ []))))))))) (O := O) (j := 7) rfl))
                    refine L_call go22 [.slice A431 n432 c433, .slice A75 n76 c77] rfl ((laws_eqChangeS.calls w429 hc457.ok r21 A431 n432 c433 h459 r5 A75 n76 c77 h456 _ H).mono ?_)
                    rintro _ w460 ⟨r22, rfl, H, g461⟩
                    have hc465 := hc446.k0 g461
                    refine L_pu (P_not r22 rfl) ?_
                    refine L_nil ?_
                    refine W_cond (!r22) rfl (fun hq466 => ?_) (fun hq466 => ?_)
                    · have H := ite_t H hq466
                      refine W_seq ?_
                      refine W_reg ?_
                      refine L_pu (P_assign (vb false) rfl) ?_
                      refine L_nil ?_
                      refine W_ret ?_
                      have hp467 : ((blk (.slice A431 n432 c433) :: blk (.slice A399 n400 c401) :: blk (.slice A383 n384 c385) :: blk (.slice A227 n228 c229) :: blk (.slice A179 n180 c181) :: blk (.slice A134 n135 c136) :: blk (.slice A102 n103 c104) :: blk (.slice A86 n87 c88) :: blk (.slice A75 n76 c77) :: (q436 ++ (q404 ++ (q388 ++ (q232 ++ (q184 ++ (q139 ++ (q107 ++ (q91 ++ []))))))))) : Ob).Perm ((blk (.slice A431 n432 c433) :: (q436 ++ [])) ++ (blk (.slice A399 n400 c401) :: blk (.slice A383 n384 c385) :: blk (.slice A227 n228 c229) :: blk (.slice A179 n180 c181) :: blk (.slice A134 n135 c136) :: blk (.slice A102 n103 c104) :: blk (.slice A86 n87 c88) :: blk (.slice A75 n76 c77) :: (q404 ++ (q388 ++ (q232 ++ (q184 ++ (q139 ++ (q107 ++ (q91 ++ []))))))))) := (by rw [List.perm_iff_count]; intro a; (try simp only [List.count_append, List.count_cons, List.count_nil, Nat.add_zero, Nat.zero_add]); first | done | ac_rfl)
                      have hc468 := hc465.drops hp467
                      have hp469 : ((blk (.slice A399 n400 c401) :: blk (.slice A383 n384 c385) :: blk (.slice A227 n228 c229) :: blk (.slice A179 n180 c181) :: blk (.slice A134 n135 c136) :: blk (.slice A102 n103 c104) :: blk (.slice A86 n87 c88) :: blk (.slice A75 n76 c77) :: (q404 ++ (q388 ++ (q232 ++ (q184 ++ (q139 ++ (q107 ++ (q91 ++ [])))))))) : Ob).Perm ((blk (.slice A399 n400 c401) :: (q404 ++ [])) ++ (blk (.slice A383 n384 c385) :: blk (.slice A227 n228 c229) :: blk (.slice A179 n180 c181) :: blk (.slice A134 n135 c136) :: blk (.slice A102 n103 c104) :: blk (.slice A86 n87 c88) :: blk (.slice A75 n76 c77) :: (q388 ++ (q232 ++ (q184 ++ (q139 ++ (q107 ++ (q91 ++ [])))))))) := (by rw [List.perm_iff_count]; intro a; (try simp only [List.count_append, List.count_cons, List.count_nil, Nat.add_zero, Nat.zero_add]); first | done | ac_rfl)
                      have hc470 := hc468.drops hp469
                      have hp471 : ((blk (.slice A383 n384 c385) :: blk (.slice A227 n228 c229) :: blk (.slice A179 n180 c181) :: blk (.slice A134 n135 c136) :: blk (.slice A102 n103 c104) :: blk (.slice A86 n87 c88) :: blk (.slice A75 n76 c77) :: (q388 ++ (q232 ++ (q184 ++ (q139 ++ (q107 ++ (q91 ++ []))))))) : Ob).Perm ((blk (.slice A383 n384 c385) :: (q388 ++ [])) ++ (blk (.slice A227 n228 c229) :: blk (.slice A179 n180 c181) :: blk (.slice A134 n135 c136) :: blk (.slice A102 n103 c104) :: blk (.slice A86 n87 c88) :: blk (.slice A75 n76 c77) :: (q232 ++ (q184 ++ (q139 ++ (q107 ++ (q91 ++ []))))))) := (by rw [List.perm_iff_count]; intro a; (try simp only [List.count_append, List.count_cons, List.count_nil, Nat.add_zero, Nat.zero_add]); first | done | ac_rfl)
                      have hc472 := hc470.drops hp471
                      have hp473 : ((blk (.slice A227 n228 c229) :: blk (.slice A179 n180 c181) :: blk (.slice A134 n135 c136) :: blk (.slice A102 n103 c104) :: blk (.slice A86 n87 c88) :: blk (.slice A75 n76 c77) :: (q232 ++ (q184 ++ (q139 ++ (q107 ++ (q91 ++ [])))))) : Ob).Perm ((blk (.slice A227 n228 c229) :: (q232 ++ [])) ++ (blk (.slice A179 n180 c181) :: blk (.slice A134 n135 c136) :: blk (.slice A102 n103 c104) :: blk (.slice A86 n87 c88) :: blk (.slice A75 n76 c77) :: (q184 ++ (q139 ++ (q107 ++ (q91 ++ [])))))) := (by rw [List.perm_iff_count]; intro a; (try simp only [List.count_append, List.count_cons, List.count_nil, Nat.add_zero, Nat.zero_add]); first | done | ac_rfl)
                      have hc474 := hc472.drops hp473
                      have hp475 : ((blk (.slice A179 n180 c181) :: blk (.slice A134 n135 c136) :: blk (.slice A102 n103 c104) :: blk (.slice A86 n87 c88) :: blk (.slice A75 n76 c77) :: (q184 ++ (q139 ++ (q107 ++ (q91 ++ []))))) : Ob).Perm ((blk (.slice A179 n180 c181) :: (q184 ++ [])) ++ (blk (.slice A134 n135 c136) :: blk (.slice A102 n103 c104) :: blk (.slice A86 n87 c88) :: blk (.slice A75 n76 c77) :: (q139 ++ (q107 ++ (q91 ++ []))))) := (by rw [List.perm_iff_count]; intro a; (try simp only [List.count_append, List.count_cons, List.count_nil, Nat.add_zero, Nat.zero_add]); first | done | ac_rfl)
                      have hc476 := hc474.drops hp475
                      have hp477 : ((blk (.slice A134 n135 c136) :: blk (.slice A102 n103 c104) :: blk (.slice A86 n87 c88) :: blk (.slice A75 n76 c77) :: (q139 ++ (q107 ++ (q91 ++ [])))) : Ob).Perm ((blk (.slice A134 n135 c136) :: (q139 ++ [])) ++ (blk (.slice A102 n103 c104) :: blk (.slice A86 n87 c88) :: blk (.slice A75 n76 c77) :: (q107 ++ (q91 ++ [])))) := (by rw [List.perm_iff_count]; intro a; (try simp only [List.count_append, List.count_cons, List.count_nil, Nat.add_zero, Nat.zero_add]); first | done | ac_rfl)
                      have hc478 := hc476.drops hp477
                      have hp479 : ((blk (.slice A102 n103 c104) :: blk (.slice A86 n87 c88) :: blk (.slice A75 n76 c77) :: (q107 ++ (q91 ++ []))) : Ob).Perm ((blk (.slice A102 n103 c104) :: (q107 ++ [])) ++ (blk (.slice A86 n87 c88) :: blk (.slice A75 n76 c77) :: (q91 ++ []))) := (by rw [List.perm_iff_count]; intro a; (try simp only [List.count_append, List.count_cons, List.count_nil, Nat.add_zero, Nat.zero_add]); first | done | ac_rfl)
                      have hc480 := hc478.drops hp479
                      have hp481 : ((blk (.slice A86 n87 c88) :: blk (.slice A75 n76 c77) :: (q91 ++ [])) : Ob).Perm ((blk (.slice A86 n87 c88) :: (q91 ++ [])) ++ [blk (.slice A75 n76 c77)]) := (by rw [List.perm_iff_count]; intro a; (try simp only [List.count_append, List.count_cons, List.count_nil, Nat.add_zero, Nat.zero_add]); first | done | ac_rfl)
                      have hc482 := hc480.drops hp481
                      have hc483 := hc482.drop 0 rfl
                      exact ⟨[vb false], ⟨_, rfl, rfl⟩, false, rfl, H, hc483.gr.g0⟩
                    · have H := ite_f H hq466
                      refine W_skip ?_
                      refine W_seq ?_
                      refine W_reg ?_
                      refine L_pu (P_assign (vi 1) rfl) ?_
                      refine L_nil ?_
                      refine W_seq ?_
                      refine W_reg ?_
                      refine L_pu (P_move (.slice A134 n135 c136) rfl) ?_
                      refine L_pu (P_move (vi 1) rfl) ?_
                      have h484 := ((Ow.spa (A := (blk (.slice A431 n432 c433) :: (q436 ++ []))) (L := (blk (.slice A399 n400 c401) :: blk (.slice A383 n384 c385) :: blk (.slice A227 n228 c229) :: blk (.slice A179 n180 c181) :: blk (.slice A134 n135 c136) :: blk (.slice A102 n103 c104) :: blk (.slice A86 n87 c88) :: blk (.slice A75 n76 c77) :: (q404 ++ (q388 ++ (q232 ++ (q184 ++ (q139 ++ (q107 ++ (q91 ++ []))))))))) (O := O) ((Ow.spa (A := (blk (.slice A399 n400 c401) :: (q404 ++ []))) (L := (blk (.slice A383 n384 c385) :: blk (.slice A227 n228 c229) :: blk (.slice A179 n180 c181) :: blk (.slice A134 n135 c136) :: blk (.slice A102 n103 c104) :: blk (.slice A86 n87 c88) :: blk (.slice A75 n76 c77) :: (q388 ++ (q232 ++ (q184 ++ (q139 ++ (q107 ++ (q91 ++ [])))))))) (O := O) ((Ow.spa (A := (blk (.slice A383 n384 c385) :: (q388 ++ []))) (L := (blk (.slice A227 n228 c229) :: blk (.slice A179 n180 c181) :: blk (.slice A134 n135 c136) :: blk (.slice A102 n103 c104) :: blk (.slice A86 n87 c88) :: blk (.slice A75 n76 c77) :: (q232 ++ (q184 ++ (q139 ++ (q107 ++ (q91 ++ []))))))) (O := O) ((h341.sn g352).sos g382 hk393) hp395).sos g398 hk409) hp411).sos g430 hk441) hp445).sn g461)
                      have hd485 := (((((hd342.k0 g352).k0 g382).k0 g398).k0 g430).k0 g461)
                      have hp489 : ((blk (.slice A431 n432 c433) :: blk (.slice A399 n400 c401) :: blk (.slice A383 n384 c385) :: blk (.slice A227 n228 c229) :: blk (.slice A179 n180 c181) :: blk (.slice A134 n135 c136) :: blk (.slice A102 n103 c104) :: blk (.slice A86 n87 c88) :: blk (.slice A75 n76 c77) :: (q436 ++ (q404 ++ (q388 ++ (q232 ++ (q184 ++ (q139 ++ (q107 ++ (q91 ++ []))))))))) : Ob).Perm (blk (.slice A134 n135 c136) :: (q139 ++ (blk (.slice A431 n432 c433) :: blk (.slice A399 n400 c401) :: blk (.slice A383 n384 c385) :: blk (.slice A227 n228 c229) :: blk (.slice A179 n180 c181) :: blk (.slice A102 n103 c104) :: blk (.slice A86 n87 c88) :: blk (.slice A75 n76 c77) :: (q436 ++ (q404 ++ (q388 ++ (q232 ++ (q184 ++ (q107 ++ (q91 ++ [])))))))))) := (by rw [List.perm_iff_count]; intro a; (try simp only [List.count_append, List.count_cons, List.count_nil, Nat.add_zero, Nat.zero_add]); first | done | ac_rfl)
                      obtain ⟨h486, hc487, s488⟩ := Dp.gv (L := (blk (.slice A431 n432 c433) :: blk (.slice A399 n400 c401) :: blk (.slice A383 n384 c385) :: blk (.slice A227 n228 c229) :: blk (.slice A179 n180 c181) :: blk (.slice A134 n135 c136) :: blk (.slice A102 n103 c104) :: blk (.slice A86 n87 c88) :: blk (.slice A75 n76 c77) :: (q436 ++ (q404 ++ (q388 ++ (q232 ++ (q184 ++ (q139 ++ (q107 ++ (q91 ++ [])))))))))) (O := O) h484 hd485 hc465 hp489
                      refine L_call go24 [.slice A134 n135 c136, vi 1] rfl ((laws_heldChangeS.calls w460 hc487.ok m3 A134 n135 c136 h486 1 _ H).mono ?_)
                      rintro _ w492 ⟨r23, rfl, H, g493⟩
                      have hc497 := hc465.k0 g493
                      refine L_pu (P_assign (vi r23) rfl) ?_
                      refine L_nil ?_
                      refine W_seq ?_
                      refine W_seq ?_
                      refine W_reg ?_
                      refine L_pu (P_move (vi r23) rfl) ?_
                      refine L_pu (P_cmp r23 0 (decide (r23 < 0)) rfl rfl rfl) ?_
                      refine L_nil ?_
                      refine W_cond (decide (r23 < 0)) rfl (fun hq498 => ?_) (fun hq498 => ?_)
                      · have H := ite_t H hq498
                        refine W_seq ?_
                        refine W_reg ?_
                        refine L_pu (P_assign (vb false) rfl) ?_
                        refine L_nil ?_
                        refine W_ret ?_
                        have hp499 : ((blk (.slice A431 n432 c433) :: blk (.slice A399 n400 c401) :: blk (.slice A383 n384 c385) :: blk (.slice A227 n228 c229) :: blk (.slice A179 n180 c181) :: blk (.slice A134 n135 c136) :: blk (.slice A102 n103 c104) :: blk (.slice A86 n87 c88) :: blk (.slice A75 n76 c77) :: (q436 ++ (q404 ++ (q388 ++ (q232 ++ (q184 ++ (q139 ++ (q107 ++ (q91 ++ []))))))))) : Ob).Perm ((blk (.slice A431 n432 c433) :: (q436 ++ [])) ++ (blk (.slice A399 n400 c401) :: blk (.slice A383 n384 c385) :: blk (.slice A227 n228 c229) :: blk (.slice A179 n180 c181) :: blk (.slice A134 n135 c136) :: blk (.slice A102 n103 c104) :: blk (.slice A86 n87 c88) :: blk (.slice A75 n76 c77) :: (q404 ++ (q388 ++ (q232 ++ (q184 ++ (q139 ++ (q107 ++ (q91 ++ []))))))))) := (by rw [List.perm_iff_count]; intro a; (try simp only [List.count_append, List.count_cons, List.count_nil, Nat.add_zero, Nat.zero_add]); first | done | ac_rfl)
                        have hc500 := hc497.drops hp499
                        have hp501 : ((blk (.slice A399 n400 c401) :: blk (.slice A383 n384 c385) :: blk (.slice A227 n228 c229) :: blk (.slice A179 n180 c181) :: blk (.slice A134 n135 c136) :: blk (.slice A102 n103 c104) :: blk (.slice A86 n87 c88) :: blk (.slice A75 n76 c77) :: (q404 ++ (q388 ++ (q232 ++ (q184 ++ (q139 ++ (q107 ++ (q91 ++ [])))))))) : Ob).Perm ((blk (.slice A399 n400 c401) :: (q404 ++ [])) ++ (blk (.slice A383 n384 c385) :: blk (.slice A227 n228 c229) :: blk (.slice A179 n180 c181) :: blk (.slice A134 n135 c136) :: blk (.slice A102 n103 c104) :: blk (.slice A86 n87 c88) :: blk (.slice A75 n76 c77) :: (q388 ++ (q232 ++ (q184 ++ (q139 ++ (q107 ++ (q91 ++ [])))))))) := (by rw [List.perm_iff_count]; intro a; (try simp only [List.count_append, List.count_cons, List.count_nil, Nat.add_zero, Nat.zero_add]); first | done | ac_rfl)
                        have hc502 := hc500.drops hp501
                        have hp503 : ((blk (.slice A383 n384 c385) :: blk (.slice A227 n228 c229) :: blk (.slice A179 n180 c181) :: blk (.slice A134 n135 c136) :: blk (.slice A102 n103 c104) :: blk (.slice A86 n87 c88) :: blk (.slice A75 n76 c77) :: (q388 ++ (q232 ++ (q184 ++ (q139 ++ (q107 ++ (q91 ++ []))))))) : Ob).Perm ((blk (.slice A383 n384 c385) :: (q388 ++ [])) ++ (blk (.slice A227 n228 c229) :: blk (.slice A179 n180 c181) :: blk (.slice A134 n135 c136) :: blk (.slice A102 n103 c104) :: blk (.slice A86 n87 c88) :: blk (.slice A75 n76 c77) :: (q232 ++ (q184 ++ (q139 ++ (q107 ++ (q91 ++ []))))))) := (by rw [List.perm_iff_count]; intro a; (try simp only [List.count_append, List.count_cons, List.count_nil, Nat.add_zero, Nat.zero_add]); first | done | ac_rfl)
                        have hc504 := hc502.drops hp503
                        have hp505 : ((blk (.slice A227 n228 c229) :: blk (.slice A179 n180 c181) :: blk (.slice A134 n135 c136) :: blk (.slice A102 n103 c104) :: blk (.slice A86 n87 c88) :: blk (.slice A75 n76 c77) :: (q232 ++ (q184 ++ (q139 ++ (q107 ++ (q91 ++ [])))))) : Ob).Perm ((blk (.slice A227 n228 c229) :: (q232 ++ [])) ++ (blk (.slice A179 n180 c181) :: blk (.slice A134 n135 c136) :: blk (.slice A102 n103 c104) :: blk (.slice A86 n87 c88) :: blk (.slice A75 n76 c77) :: (q184 ++ (q139 ++ (q107 ++ (q91 ++ [])))))) := (by rw [List.perm_iff_count]; intro a; (try simp only [List.count_append, List.count_cons, List.count_nil, Nat.add_zero, Nat.zero_add]); first | done | ac_rfl)
                        have hc506 := hc504.drops hp505
                        have hp507 : ((blk (.slice A179 n180 c181) :: blk (.slice A134 n135 c136) :: blk (.slice A102 n103 c104) :: blk (.slice A86 n87 c88) :: blk (.slice A75 n76 c77) :: (q184 ++ (q139 ++ (q107 ++ (q91 ++ []))))) : Ob).Perm ((blk (.slice A179 n180 c181) :: (q184 ++ [])) ++ (blk (.slice A134 n135 c136) :: blk (.slice A102 n103 c104) :: blk (.slice A86 n87 c88) :: blk (.slice A75 n76 c77) :: (q139 ++ (q107 ++ (q91 ++ []))))) := (by rw [List.perm_iff_count]; intro a; (try simp only [List.count_append, List.count_cons, List.count_nil, Nat.add_zero, Nat.zero_add]); first | done | ac_rfl)
                        have hc508 := hc506.drops hp507
                        have hp509 : ((blk (.slice A134 n135 c136) :: blk (.slice A102 n103 c104) :: blk (.slice A86 n87 c88) :: blk (.slice A75 n76 c77) :: (q139 ++ (q107 ++ (q91 ++ [])))) : Ob).Perm ((blk (.slice A134 n135 c136) :: (q139 ++ [])) ++ (blk (.slice A102 n103 c104) :: blk (.slice A86 n87 c88) :: blk (.slice A75 n76 c77) :: (q107 ++ (q91 ++ [])))) := (by rw [List.perm_iff_count]; intro a; (try simp only [List.count_append, List.count_cons, List.count_nil, Nat.add_zero, Nat.zero_add]); first | done | ac_rfl)
                        have hc510 := hc508.drops hp509
                        have hp511 : ((blk (.slice A102 n103 c104) :: blk (.slice A86 n87 c88) :: blk (.slice A75 n76 c77) :: (q107 ++ (q91 ++ []))) : Ob).Perm ((blk (.slice A102 n103 c104) :: (q107 ++ [])) ++ (blk (.slice A86 n87 c88) :: blk (.slice A75 n76 c77) :: (q91 ++ []))) := (by rw [List.perm_iff_count]; intro a; (try simp only [List.count_append, List.count_cons, List.count_nil, Nat.add_zero, Nat.zero_add]); first | done | ac_rfl)
                        have hc512 := hc510.drops hp511
                        have hp513 : ((blk (.slice A86 n87 c88) :: blk (.slice A75 n76 c77) :: (q91 ++ [])) : Ob).Perm ((blk (.slice A86 n87 c88) :: (q91 ++ [])) ++ [blk (.slice A75 n76 c77)]) := (by rw [List.perm_iff_count]; intro a; (try simp only [List.count_append, List.count_cons, List.count_nil, Nat.add_zero, Nat.zero_add]); first | done | ac_rfl)
                        have hc514 := hc512.drops hp513
                        have hc515 := hc514.drop 0 rfl
                        exact ⟨[vb false], ⟨_, rfl, rfl⟩, false, rfl, H, hc515.gr.g0⟩
                      · have H := ite_f H hq498
                        refine W_skip ?_
                        refine W_seq ?_
                        refine W_seq ?_
                        refine W_reg ?_
                        refine L_pu (P_move (vi r23) rfl) ?_
                        refine L_pu (P_move (vi r17) rfl) ?_
                        refine L_pu (P_cmp r23 r17 (r23 != r17) rfl rfl rfl) ?_
                        refine L_nil ?_
                        refine W_cond (r23 != r17) rfl (fun hq516 => ?_) (fun hq516 => ?_)
                        · have H := ite_t H hq516
                          refine W_seq ?_
                          refine W_reg ?_
                          refine L_pu (P_assign (vb false) rfl) ?_
                          refine L_nil ?_
                          refine W_ret ?_
                          have hp517 : ((blk (.slice A431 n432 c433) :: blk (.slice A399 n400 c401) :: blk (.slice A383 n384 c385) :: blk (.slice A227 n228 c229) :: blk (.slice A179 n180 c181) :: blk (.slice A134 n135 c136) :: blk (.slice A102 n103 c104) :: blk (.slice A86 n87 c88) :: blk (.slice A75 n76 c77) :: (q436 ++ (q404 ++ (q388 ++ (q232 ++ (q184 ++ (q139 ++ (q107 ++ (q91 ++ []))))))))) : Ob).Perm ((blk (.slice A431 n432 c433) :: (q436 ++ [])) ++ (blk (.slice A399 n400 c401) :: blk (.slice A383 n384 c385) :: blk (.slice A227 n228 c229) :: blk (.slice A179 n180 c181) :: blk (.slice A134 n135 c136) :: blk (.slice A102 n103 c104) :: blk (.slice A86 n87 c88) :: blk (.slice A75 n76 c77) :: (q404 ++ (q388 ++ (q232 ++ (q184 ++ (q139 ++ (q107 ++ (q91 ++ []))))))))) := (by rw [List.perm_iff_count]; intro a; (try simp only [List.count_append, List.count_cons, List.count_nil, Nat.add_zero, Nat.zero_add]); first | done | ac_rfl)
                          have hc518 := hc497.drops hp517
                          have hp519 : ((blk (.slice A399 n400 c401) :: blk (.slice A383 n384 c385) :: blk (.slice A227 n228 c229) :: blk (.slice A179 n180 c181) :: blk (.slice A134 n135 c136) :: blk (.slice A102 n103 c104) :: blk (.slice A86 n87 c88) :: blk (.slice A75 n76 c77) :: (q404 ++ (q388 ++ (q232 ++ (q184 ++ (q139 ++ (q107 ++ (q91 ++ [])))))))) : Ob).Perm ((blk (.slice A399 n400 c401) :: (q404 ++ [])) ++ (blk (.slice A383 n384 c385) :: blk (.slice A227 n228 c229) :: blk (.slice A179 n180 c181) :: blk (.slice A134 n135 c136) :: blk (.slice A102 n103 c104) :: blk (.slice A86 n87 c88) :: blk (.slice A75 n76 c77) :: (q388 ++ (q232 ++ (q184 ++ (q139 ++ (q107 ++ (q91 ++ [])))))))) := (by rw [List.perm_iff_count]; intro a; (try simp only [List.count_append, List.count_cons, List.count_nil, Nat.add_zero, Nat.zero_add]); first | done | ac_rfl)
                          have hc520 := hc518.drops hp519
                          have hp521 : ((blk (.slice A383 n384 c385) :: blk (.slice A227 n228 c229) :: blk (.slice A179 n180 c181) :: blk (.slice A134 n135 c136) :: blk (.slice A102 n103 c104) :: blk (.slice A86 n87 c88) :: blk (.slice A75 n76 c77) :: (q388 ++ (q232 ++ (q184 ++ (q139 ++ (q107 ++ (q91 ++ []))))))) : Ob).Perm ((blk (.slice A383 n384 c385) :: (q388 ++ [])) ++ (blk (.slice A227 n228 c229) :: blk (.slice A179 n180 c181) :: blk (.slice A134 n135 c136) :: blk (.slice A102 n103 c104) :: blk (.slice A86 n87 c88) :: blk (.slice A75 n76 c77) :: (q232 ++ (q184 ++ (q139 ++ (q107 ++ (q91 ++ []))))))) := (by rw [List.perm_iff_count]; intro a; (try simp only [List.count_append, List.count_cons, List.count_nil, Nat.add_zero, Nat.zero_add]); first | done | ac_rfl)
                          have hc522 := hc520.drops hp521
                          have hp523 : ((blk (.slice A227 n228 c229) :: blk (.slice A179 n180 c181) :: blk (.slice A134 n135 c136) :: blk (.slice A102 n103 c104) :: blk (.slice A86 n87 c88) :: blk (.slice A75 n76 c77) :: (q232 ++ (q184 ++ (q139 ++ (q107 ++ (q91 ++ [])))))) : Ob).Perm ((blk (.slice A227 n228 c229) :: (q232 ++ [])) ++ (blk (.slice A179 n180 c181) :: blk (.slice A134 n135 c136) :: blk (.slice A102 n103 c104) :: blk (.slice A86 n87 c88) :: blk (.slice A75 n76 c77) :: (q184 ++ (q139 ++ (q107 ++ (q91 ++ [])))))) := (by rw [List.perm_iff_count]; intro a; (try simp only [List.count_append, List.count_cons, List.count_nil, Nat.add_zero, Nat.zero_add]); first | done | ac_rfl)
                          have hc524 := hc522.drops hp523
                          have hp525 : ((blk (.slice A179 n180 c181) :: blk (.slice A134 n135 c136) :: blk (.slice A102 n103 c104) :: blk (.slice A86 n87 c88) :: blk (.slice A75 n76 c77) :: (q184 ++ (q139 ++ (q107 ++ (q91 ++ []))))) : Ob).Perm ((blk (.slice A179 n180 c181) :: (q184 ++ [])) ++ (blk (.slice A134 n135 c136) :: blk (.slice A102 n103 c104) :: blk (.slice A86 n87 c88) :: blk (.slice A75 n76 c77) :: (q139 ++ (q107 ++ (q91 ++ []))))) := (by rw [List.perm_iff_count]; intro a; (try simp only [List.count_append, List.count_cons, List.count_nil, Nat.add_zero, Nat.zero_add]); first | done | ac_rfl)
                          have hc526 := hc524.drops hp525
                          have hp527 : ((blk (.slice A134 n135 c136) :: blk (.slice A102 n103 c104) :: blk (.slice A86 n87 c88) :: blk (.slice A75 n76 c77) :: (q139 ++ (q107 ++ (q91 ++ [])))) : Ob).Perm ((blk (.slice A134 n135 c136) :: (q139 ++ [])) ++ (blk (.slice A102 n103 c104) :: blk (.slice A86 n87 c88) :: blk (.slice A75 n76 c77) :: (q107 ++ (q91 ++ [])))) := (by rw [List.perm_iff_count]; intro a; (try simp only [List.count_append, List.count_cons, List.count_nil, Nat.add_zero, Nat.zero_add]); first | done | ac_rfl)
                          have hc528 := hc526.drops hp527
                          have hp529 : ((blk (.slice A102 n103 c104) :: blk (.slice A86 n87 c88) :: blk (.slice A75 n76 c77) :: (q107 ++ (q91 ++ []))) : Ob).Perm ((blk (.slice A102 n103 c104) :: (q107 ++ [])) ++ (blk (.slice A86 n87 c88) :: blk (.slice A75 n76 c77) :: (q91 ++ []))) := (by rw [List.perm_iff_count]; intro a; (try simp only [List.count_append, List.count_cons, List.count_nil, Nat.add_zero, Nat.zero_add]); first | done | ac_rfl)
                          have hc530 := hc528.drops hp529
                          have hp531 : ((blk (.slice A86 n87 c88) :: blk (.slice A75 n76 c77) :: (q91 ++ [])) : Ob).Perm ((blk (.slice A86 n87 c88) :: (q91 ++ [])) ++ [blk (.slice A75 n76 c77)]) := (by rw [List.perm_iff_count]; intro a; (try simp only [List.count_append, List.count_cons, List.count_nil, Nat.add_zero, Nat.zero_add]); first | done | ac_rfl)
                          have hc532 := hc530.drops hp531
                          have hc533 := hc532.drop 0 rfl
                          exact ⟨[vb false], ⟨_, rfl, rfl⟩, false, rfl, H, hc533.gr.g0⟩
                        · have H := ite_f H hq516
                          refine W_skip ?_
                          refine W_seq ?_
                          refine W_reg ?_
                          refine L_pu (P_assign (vb true) rfl) ?_
                          refine L_nil ?_
                          refine W_ret ?_
                          have hp534 : ((blk (.slice A431 n432 c433) :: blk (.slice A399 n400 c401) :: blk (.slice A383 n384 c385) :: blk (.slice A227 n228 c229) :: blk (.slice A179 n180 c181) :: blk (.slice A134 n135 c136) :: blk (.slice A102 n103 c104) :: blk (.slice A86 n87 c88) :: blk (.slice A75 n76 c77) :: (q436 ++ (q404 ++ (q388 ++ (q232 ++ (q184 ++ (q139 ++ (q107 ++ (q91 ++ []))))))))) : Ob).Perm ((blk (.slice A431 n432 c433) :: (q436 ++ [])) ++ (blk (.slice A399 n400 c401) :: blk (.slice A383 n384 c385) :: blk (.slice A227 n228 c229) :: blk (.slice A179 n180 c181) :: blk (.slice A134 n135 c136) :: blk (.slice A102 n103 c104) :: blk (.slice A86 n87 c88) :: blk (.slice A75 n76 c77) :: (q404 ++ (q388 ++ (q232 ++ (q184 ++ (q139 ++ (q107 ++ (q91 ++ []))))))))) := (by rw [List.perm_iff_count]; intro a; (try simp only [List.count_append, List.count_cons, List.count_nil, Nat.add_zero, Nat.zero_add]); first | done | ac_rfl)
                          have hc535 := hc497.drops hp534
                          have hp536 : ((blk (.slice A399 n400 c401) :: blk (.slice A383 n384 c385) :: blk (.slice A227 n228 c229) :: blk (.slice A179 n180 c181) :: blk (.slice A134 n135 c136) :: blk (.slice A102 n103 c104) :: blk (.slice A86 n87 c88) :: blk (.slice A75 n76 c77) :: (q404 ++ (q388 ++ (q232 ++ (q184 ++ (q139 ++ (q107 ++ (q91 ++ [])))))))) : Ob).Perm ((blk (.slice A399 n400 c401) :: (q404 ++ [])) ++ (blk (.slice A383 n384 c385) :: blk (.slice A227 n228 c229) :: blk (.slice A179 n180 c181) :: blk (.slice A134 n135 c136) :: blk (.slice A102 n103 c104) :: blk (.slice A86 n87 c88) :: blk (.slice A75 n76 c77) :: (q388 ++ (q232 ++ (q184 ++ (q139 ++ (q107 ++ (q91 ++ [])))))))) := (by rw [List.perm_iff_count]; intro a; (try simp only [List.count_append, List.count_cons, List.count_nil, Nat.add_zero, Nat.zero_add]); first | done | ac_rfl)
                          have hc537 := hc535.drops hp536
                          have hp538 : ((blk (.slice A383 n384 c385) :: blk (.slice A227 n228 c229) :: blk (.slice A179 n180 c181) :: blk (.slice A134 n135 c136) :: blk (.slice A102 n103 c104) :: blk (.slice A86 n87 c88) :: blk (.slice A75 n76 c77) :: (q388 ++ (q232 ++ (q184 ++ (q139 ++ (q107 ++ (q91 ++ []))))))) : Ob).Perm ((blk (.slice A383 n384 c385) :: (q388 ++ [])) ++ (blk (.slice A227 n228 c229) :: blk (.slice A179 n180 c181) :: blk (.slice A134 n135 c136) :: blk (.slice A102 n103 c104) :: blk (.slice A86 n87 c88) :: blk (.slice A75 n76 c77) :: (q232 ++ (q184 ++ (q139 ++ (q107 ++ (q91 ++ []))))))) := (by rw [List.perm_iff_count]; intro a; (try simp only [List.count_append, List.count_cons, List.count_nil, Nat.add_zero, Nat.zero_add]); first | done | ac_rfl)
                          have hc539 := hc537.drops hp538
                          have hp540 : ((blk (.slice A227 n228 c229) :: blk (.slice A179 n180 c181) :: blk (.slice A134 n135 c136) :: blk (.slice A102 n103 c104) :: blk (.slice A86 n87 c88) :: blk (.slice A75 n76 c77) :: (q232 ++ (q184 ++ (q139 ++ (q107 ++ (q91 ++ [])))))) : Ob).Perm ((blk (.slice A227 n228 c229) :: (q232 ++ [])) ++ (blk (.slice A179 n180 c181) :: blk (.slice A134 n135 c136) :: blk (.slice A102 n103 c104) :: blk (.slice A86 n87 c88) :: blk (.slice A75 n76 c77) :: (q184 ++ (q139 ++ (q107 ++ (q91 ++ [])))))) := (by rw [List.perm_iff_count]; intro a; (try simp only [List.count_append, List.count_cons, List.count_nil, Nat.add_zero, Nat.zero_add]); first | done | ac_rfl)
                          have hc541 := hc539.drops hp540
                          have hp542 : ((blk (.slice A179 n180 c181) :: blk (.slice A134 n135 c136) :: blk (.slice A102 n103 c104) :: blk (.slice A86 n87 c88) :: blk (.slice A75 n76 c77) :: (q184 ++ (q139 ++ (q107 ++ (q91 ++ []))))) : Ob).Perm ((blk (.slice A179 n180 c181) :: (q184 ++ [])) ++ (blk (.slice A134 n135 c136) :: blk (.slice A102 n103 c104) :: blk (.slice A86 n87 c88) :: blk (.slice A75 n76 c77) :: (q139 ++ (q107 ++ (q91 ++ []))))) := (by rw [List.perm_iff_count]; intro a; (try simp only [List.count_append, List.count_cons, List.count_nil, Nat.add_zero, Nat.zero_add]); first | done | ac_rfl)
                          have hc543 := hc541.drops hp542
                          have hp544 : ((blk (.slice A134 n135 c136) :: blk (.slice A102 n103 c104) :: blk (.slice A86 n87 c88) :: blk (.slice A75 n76 c77) :: (q139 ++ (q107 ++ (q91 ++ [])))) : Ob).Perm ((blk (.slice A134 n135 c136) :: (q139 ++ [])) ++ (blk (.slice A102 n103 c104) :: blk (.slice A86 n87 c88) :: blk (.slice A75 n76 c77) :: (q107 ++ (q91 ++ [])))) := (by rw [List.perm_iff_count]; intro a; (try simp only [List.count_append, List.count_cons, List.count_nil, Nat.add_zero, Nat.zero_add]); first | done | ac_rfl)
                          have hc545 := hc543.drops hp544
                          have hp546 : ((blk (.slice A102 n103 c104) :: blk (.slice A86 n87 c88) :: blk (.slice A75 n76 c77) :: (q107 ++ (q91 ++ []))) : Ob).Perm ((blk (.slice A102 n103 c104) :: (q107 ++ [])) ++ (blk (.slice A86 n87 c88) :: blk (.slice A75 n76 c77) :: (q91 ++ []))) := (by rw [List.perm_iff_count]; intro a; (try simp only [List.count_append, List.count_cons, List.count_nil, Nat.add_zero, Nat.zero_add]); first | done | ac_rfl)
                          have hc547 := hc545.drops hp546
                          have hp548 : ((blk (.slice A86 n87 c88) :: blk (.slice A75 n76 c77) :: (q91 ++ [])) : Ob).Perm ((blk (.slice A86 n87 c88) :: (q91 ++ [])) ++ [blk (.slice A75 n76 c77)]) := (by rw [List.perm_iff_count]; intro a; (try simp only [List.count_append, List.count_cons, List.count_nil, Nat.add_zero, Nat.zero_add]); first | done | ac_rfl)
                          have hc549 := hc547.drops hp548
                          have hc550 := hc549.drop 0 rfl
                          exact ⟨[vb true], ⟨_, rfl, rfl⟩, true, rfl, H, hc550.gr.g0⟩
end Go.Proofs.Ytndjggncgpjolaa

namespace Go.Proofs.Ytndjggncgpjolaa
set_option linter.unusedVariables false
set_option linter.unusedSimpArgs false
set_option linter.unusedSectionVars false
theorem laws_FnExactDiffOf.law (a : List Feat) (_ : ∀ x ∈ a, vFeat x) (b : List Feat) (_ : ∀ x ∈ b, vFeat x) : laws_FnExactDiffOf.E a b (fun r => r = true) := by
  unfold laws_FnExactDiffOf.E
  refine laws_szFeatS.law a _ _ (by decide) (by decide) (fun _ => rfl) (fun h1 => ?_)
  rw [if_neg (by rw [decide_eq_false (by omega)]; exact Bool.false_ne_true)]
  refine laws_szFeatS.law b _ _ (by omega) (by omega) (fun _ => rfl) (fun h2 => ?_)
  rw [if_neg (by rw [decide_eq_false (by omega)]; exact Bool.false_ne_true)]
  have ha : bulk a ≤ 1048576 := by omega
  have hb : bulk b ≤ 1048576 := by omega
  have hd := diffOf_small a b
  have m1 := mkL_bd gFeat_bd a 1
  have m2 := mkL_bd gFeat_bd b (mkL gFeat a 1).2
  have m3 := mkL_bd gChange_bd (diffOf a b) 1
  refine laws_toFeatS.law a _ ha (laws_toFeatS.law b _ hb (spec_DiffOf.law _ _ _ ha hb (laws_toFeatS.law a _ ha (laws_toFeatS.law b _ hb (impl_DiffOf.law _ _ _ ha hb (laws_eqChangeS.law _ _ _ ?_))))))
  rw [decide_eq_true rfl, if_neg (by decide)]
  refine laws_toFeatS.law a _ ha (laws_eqFeatS.law _ _ _ ?_)
  rw [decide_eq_true rfl, if_neg (by decide)]
  refine laws_toFeatS.law b _ hb (laws_eqFeatS.law _ _ _ ?_)
  rw [decide_eq_true rfl, if_neg (by decide)]
  refine laws_markFeatS.lawk _ _ _ ha (by decide) (by decide) (laws_markFeatS.lawk _ _ _ hb (by omega) (by omega) ?_)
  rw [if_neg (by rw [decide_eq_true_eq]; omega)]
  refine laws_eqChangeS.law _ _ _ ?_
  rw [decide_eq_true rfl, if_neg (by decide)]
  refine laws_markChangeS.lawk _ _ _ (by omega) (by decide) (by decide) (laws_heldChangeS.lawk _ _ _ (by omega) (by decide) (by decide) ?_)
  rw [if_neg (by rw [decide_eq_true_eq]; omega), if_neg (by simp)]
  refine laws_toFeatS.law a _ ha (laws_toFeatS.law b _ hb (impl_DiffOf.law _ _ _ ha hb (laws_eqChangeS.law _ _ _ ?_)))
  rw [decide_eq_true rfl, if_neg (by decide)]
  refine laws_heldChangeS.lawk _ _ _ (by omega) (by decide) (by decide) ?_
  rw [if_neg (by rw [decide_eq_true_eq]; omega), if_neg (by simp)]
end Go.Proofs.Ytndjggncgpjolaa

namespace Go.Proofs.Ytndjggncgpjolaa.rFnExactDiffOf
open Go.ChangeShapes Go.WideShapes Go.ChangeAt Go.RowKit
open Go.ChangeMaps (open_string shut_string)
set_option linter.unusedVariables false
theorem own : ownKnob Try.prog.godebug = none := by kernel_rfl
theorem laidOut : laidOutB Try.prog = true := by kernel_rfl
set_option maxHeartbeats 4000000 in
set_option maxRecDepth 100000 in
theorem lifted (os : Os) (started : os.Started) (H : Type) (enc : TypeId × Value → H) :
    ReturnsInHanded {} Try.checked os 6 .any (Rows.fnExactDiffOfSpec.pre6 enc Try.prog Try.f6 Rows.fnExactDiffOfRow.domain false) (Rows.fnExactDiffOfSpec.post enc Try.prog Try.f6 false true false false) := by
  refine returnsInHanded_of_change_sized (C := Try.checked) own started (by kernel_rfl) Try.func6
    (ChangeSpec.witness6 (enc := enc) (C := Try.checked) false ⟨#[], #[.slice none 0 0, .slice none 0 0], []⟩ 8 (by kernel_rfl) (by kernel_rfl) (by kernel_rfl) (by kernel_rfl)) ?_
  intro W base args ds gs before hval0 hW hcnd hsz0 _
  have hval : ∀ (j : Nat) t v, Try.f6.params[j]? = some t → args[j]? = some v → Value.okWide Try.prog W .any base t v := hval0
  have hW' := hW
  obtain ⟨p, q, hA0, hV, rfl, hfz, hnd⟩ := hW
  have hA : DataW.TrodAll enc Try.prog W 0 (fun _ => true) true Try.f6.params.toList args.toList ds p := hA0
  rw [Try.params6] at hA hval
  obtain ⟨v0, vs0, d0, ds0, p0, q0, hargs, rfl, rfl, h0, r0⟩ := trodAll_cons hA
  obtain ⟨v1, vs1, d1, ds1, p1, q1, rfl, rfl, rfl, h1, r1⟩ := trodAll_cons r0
  obtain ⟨rfl, rfl, rfl⟩ := trodAll_nil r1
  obtain rfl : args = #[v0, v1] := by cases args; simp_all
  obtain ⟨rfl, rfl⟩ := trodVars_none hV
  have k0 := h0
  have lt0 : ∀ x ∈ p0, x.block < W.heap.size := by obtain ⟨m, hm⟩ := k0; exact DataW.trod_lt m _ _ _ hm
  obtain ⟨x0, hv0, hx0⟩ : ∃ a : List Feat, (∀ y0 ∈ a, vFeat y0) ∧ (Kd.sl kFeat).R W (Fr []) a v0.cells.toList := by obtain ⟨fuel, hf⟩ := h0; exact (Tr.sl Try.underlying49 (by kernel_rfl) tr65) H enc W fuel _ _ hf
  obtain ⟨a0, n0, c0, rfl⟩ := okWide_slice Try.underlying49 (hval 0 49 v0 rfl rfl)
  have s0 : Sl kFeat W (Fr []) (.slice a0 n0 c0) x0 := by obtain ⟨_, e, h⟩ := hx0; simp [Value.cells] at e; subst e; exact h
  have k1 := h1
  have lt1 : ∀ x ∈ p1, x.block < W.heap.size := by obtain ⟨m, hm⟩ := k1; exact DataW.trod_lt m _ _ _ hm
  obtain ⟨x1, hv1, hx1⟩ : ∃ a : List Feat, (∀ y0 ∈ a, vFeat y0) ∧ (Kd.sl kFeat).R W (Fr []) a v1.cells.toList := by obtain ⟨fuel, hf⟩ := h1; exact (Tr.sl Try.underlying49 (by kernel_rfl) tr65) H enc W fuel _ _ hf
  obtain ⟨a1, n1, c1, rfl⟩ := okWide_slice Try.underlying49 (hval 1 49 v1 rfl rfl)
  have s1 : Sl kFeat W (Fr []) (.slice a1 n1 c1) x1 := by obtain ⟨_, e, h⟩ := hx1; simp [Value.cells] at e; subst e; exact h
  clear hA0 hval0 hsz0
  refine Calls.mono (laws_FnExactDiffOf.calls W (Ok.nil W) x0 a0 n0 c0 s0 x1 a1 n1 c1 s1 (fun r => r = true) (laws_FnExactDiffOf.law x0 hv0 x1 hv1)) fun e W' ⟨v, he, r, hr, hq, hg⟩ => ?_
  subst he; subst hr; subst hq
  have bel := Gr.below hg
  exact ⟨_, rfl, _, _, _, [], _, [], hW', trodAll_mk1 (shut_bool Try.underlying4 _), (trodAll_cons_mk (Below.trod laidOut (by kernel_rfl) (of_decide_eq_true (by kernel_rfl)) k0 bel lt0) (trodAll_cons_mk (Below.trod laidOut (by kernel_rfl) (of_decide_eq_true (by kernel_rfl)) k1 bel lt1) trodAll_mk0)), rfl, bel.frame _, fun h => by cases h⟩
theorem over : Rows.fnExactDiffOfRow.holds Try.pinned (OpenSpec.ofChange Rows.fnExactDiffOfSpec) :=
  OpenClaim.holds_of_wide 6 Try.f6 rfl rfl rfl rfl rfl rfl rfl ⟨rfl, rfl, rfl, rfl, rfl⟩ rfl rfl rfl rfl rfl (by kernel_rfl) Try.func6 (by kernel_rfl)
    (of_decide_eq_true (by kernel_rfl)) (by unfold Func.isWrapper; first | (rw [if_pos (by decide +kernel)]; kernel_rfl) | (rw [if_neg (by decide +kernel)]; exact ⟨rfl, rfl⟩))
    (fun os started H enc _ => lifted os started H enc)
theorem proved : Rows.FnExactDiffOfSaid := over
#print axioms proved
end Go.Proofs.Ytndjggncgpjolaa.rFnExactDiffOf
namespace Go.Proofs.Ytndjggncgpjolaa
theorem fnExactDiffOf_holds : Rows.FnExactDiffOfSaid := rFnExactDiffOf.proved
end Go.Proofs.Ytndjggncgpjolaa
