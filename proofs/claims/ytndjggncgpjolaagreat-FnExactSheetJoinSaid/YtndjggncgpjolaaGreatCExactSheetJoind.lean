/- It is proved here that the law FnExactSheetJoin of the given program holds whatever it is handed: the walks through the code, the plain laws and the row, in this order.
   Conditions: none. -/
import Derived.Below
import Derived.ChangeArms
import Derived.ChangeOld
import Derived.ChangeSlices
import Derived.DataReads
import Derived.Deep.Quiet
import Derived.KernelRfl
import Derived.Laws.Build
import Derived.Laws.IdiomStrings
import Derived.Laws.OwnMore
import Derived.Laws.Slices
import Derived.Laws.StructEq
import Derived.OpenShut
import Derived.ProofKit
import Derived.Shelf.Slices.Cells
import Derived.Shelf.Slices.CompactS
import Derived.Shelf.Slices.In.SortNone
import Derived.Shelf.Small.Bits
import Derived.Shelf.Sort.Plain
import Derived.Shelf.Strconv.Itoa0
import Derived.ShutString
import Derived.SizedLaws
import Derived.StillTail
import Derived.Test.YtndjggncgpjolaaGreatProg
import Derived.Test.YtndjggncgpjolaaGreatRows
import Derived.WalkKit
import Derived.Test.YtndjggncgpjolaaGreatCExactSheetJoina
import Derived.Test.YtndjggncgpjolaaGreatCExactSheetJoinb
import Derived.Test.YtndjggncgpjolaaGreatCExactSheetJoinc
namespace Go.Proofs.YtndjggncgpjolaaGreat
set_option linter.unusedVariables false
set_option linter.unusedSimpArgs false
set_option linter.unusedSectionVars false
set_option maxHeartbeats 8000000
set_option maxRecDepth 100000
section
open Go.RowKit
def F45.E (a : List Pt) (b : List Pt) (Q : List Pair → Prop) : Prop :=
 (if decide ((a.length : Int) > 12) then Q ([] : List Pair) else (if decide ((b.length : Int) > 12) then Q ([] : List Pair) else F65.E a b (fun r => (∃ (I71 : (List Pair) → Int → Int → Prop) (mu72 : (List Pair) → Int → Int → Nat), I71 ([] : List Pair) 0 0 ∧ ∀ (xs2 : List Pair) (i2 : Int) (j2 : Int), I71 xs2 i2 j2 → (if decide (i2 < (a.length : Int)) then (if decide (j2 < (b.length : Int)) then ((0 : Int) ≤ i2 ∧ i2 < (a.length : Int)) ∧ ((0 : Int) ≤ j2 ∧ j2 < (b.length : Int)) ∧ (if eqPt (nth a i2) (nth b j2) then (xs2.length + ([(⟨i2, j2⟩ : Pair)] : List Pair).length ≤ 268435456) ∧ (-9223372036854775808 ≤ i2) ∧ (-9223372036854775808 ≤ j2) ∧ I71 (xs2 ++ ([(⟨i2, j2⟩ : Pair)] : List Pair)) (i2 + 1) (j2 + 1) ∧ mu72 (xs2 ++ ([(⟨i2, j2⟩ : Pair)] : List Pair)) (i2 + 1) (j2 + 1) < mu72 xs2 i2 j2 else (-9223372036854775808 ≤ i2) ∧ ((0 : Int) ≤ i2 + 1 ∧ i2 + 1 < (r.length : Int)) ∧ ((0 : Int) ≤ j2 ∧ j2 < ((nth r (i2 + 1)).length : Int)) ∧ ((0 : Int) ≤ i2 ∧ i2 < (r.length : Int)) ∧ (-9223372036854775808 ≤ j2) ∧ ((0 : Int) ≤ j2 + 1 ∧ j2 + 1 < ((nth r i2).length : Int)) ∧ (if decide ((nth (nth r (i2 + 1)) j2) ≥ (nth (nth r i2) (j2 + 1))) then (-9223372036854775808 ≤ i2) ∧ I71 xs2 (i2 + 1) j2 ∧ mu72 xs2 (i2 + 1) j2 < mu72 xs2 i2 j2 else (-9223372036854775808 ≤ j2) ∧ I71 xs2 i2 (j2 + 1) ∧ mu72 xs2 i2 (j2 + 1) < mu72 xs2 i2 j2)) else Q xs2) else Q xs2)))))
theorem F45.calls {O : Ob} (w0 : World) (hO : Ok w0 O) (a : List Pt) (A1 : Option Addr) (n2 c3 : Nat) (hp4 : Sl kPt w0 (Fr O) (.slice A1 n2 c3) a) (b : List Pt) (A6 : Option Addr) (n7 c8 : Nat) (hp9 : Sl kPt w0 (Fr O) (.slice A6 n7 c8) b) (Q : List Pair → Prop) (h : F45.E a b Q) :
  Ret Tryz.prog 117 [.slice A1 n2 c3, .slice A6 n7 c8] w0 (fun v w' => ∃ (r0 : List Pair) (A0 : Option Addr) (n0 c0 : Nat), v = .slice A0 n0 c0 ∧ Q r0 ∧ Gr w0 w' none ∧ Ok w' ([bk A0] ++ O) ∧ (∀ b, some b ∈ [bk A0] → w0.heap.size ≤ b) ∧ Ow kPair 186 w' ([bk A0] ++ O) (.slice A0 n0 c0) r0) := by
 unfold F45.E at h
 have H := h
 clear h
 have hc0 := Ct.init hO
 refine Ret_enter Tryz.func117 rfl 75 rfl [.tmp 4] rfl rfl ?_
 refine W_seq (W_reg (L_as (.slice none 0 0) rfl (L_nil (W_seq (W_reg (L_lit (kd := kPair) ei156 hc0 ([] : List Pair) (cells := []) rfl (fun _ => by kernel_rfl) fun b6 ag ah ai d2 hr16 ae az => ?_))))))
 refine L_as (.slice ag ah ai) rfl (L_nil (W_seq (W_seq (W_reg (L_mv (.slice A1 n2 c3) rfl ?_)))))
 have d3 := (hp4.st ae.st).le
 refine L_pu (P_len Tryz.underlying56 A1 n2 c3 (hp4.st ae.st).len rfl) (L_pu (P_cmp (a.length : Int) 12 (decide ((a.length : Int) > 12)) rfl rfl rfl) (L_mv (vb (decide ((a.length : Int) > 12))) rfl ?_))
 rcases bool_or (decide ((a.length : Int) > 12)) with af | af
 ·have H := ite_t H af
  refine L_pb af rfl (L_pb af rfl (L_pb af rfl (L_pu (P_pick true (vb true) (by exact congrArg Value.bool af) rfl) (L_nil (W_ct (b := true) rfl rfl ?_)))))
  exact W_seq (W_reg (L_mv (.slice ag ah ai) rfl (L_as (.slice ag ah ai) rfl (L_nil (W_ret ⟨[.slice ag ah ai], ⟨_, rfl, rfl⟩, ([] : List Pair), ag, ah, ai, rfl, H, ae.gr.g0, ae.ok, ae.ge, az⟩)))))
 have H := ite_f H af
 refine L_rb af rfl (L_mv (.slice A6 n7 c8) rfl (L_rb af rfl ?_))
 have d4 := (hp9.st ae.st).le
 refine L_pu (P_len Tryz.underlying56 A6 n7 c8 (hp9.st ae.st).len rfl) (L_rb af rfl (L_pu (P_cmp (b.length : Int) 12 (decide ((b.length : Int) > 12)) rfl rfl rfl) (L_pu (P_pick false (vb (decide ((b.length : Int) > 12))) (by exact congrArg Value.bool af) rfl) (L_nil ?_))))
 refine W_cond (decide ((b.length : Int) > 12)) rfl (fun a0 => ?_) (fun a0 => ?_)
 ·have H := ite_t H a0
  exact W_seq (W_reg (L_mv (.slice ag ah ai) rfl (L_as (.slice ag ah ai) rfl (L_nil (W_ret ⟨[.slice ag ah ai], ⟨_, rfl, rfl⟩, ([] : List Pair), ag, ah, ai, rfl, H, ae.gr.g0, ae.ok, ae.ge, az⟩)))))
 have H := ite_f H a0
 refine W_skip (W_seq (W_reg (L_mv (.slice A1 n2 c3) rfl (L_mv (.slice A6 n7 c8) rfl ?_))))
 refine L_call go143 [.slice A1 n2 c3, .slice A6 n7 c8] rfl ((F65.calls b6 ae.ok a A1 n2 c3 (hp4.st ae.st) b A6 n7 c8 (hp9.st ae.st) _ H).mono ?_)
 rintro _ d5 ⟨r, al, am, an, rfl, H, be, b7⟩
 have a1 := ae.k0 be
 refine L_as (.slice al am an) rfl (L_nil (W_seq (W_seq (W_reg (L_as (vi 0) rfl (L_as (vi 0) rfl (L_nil (W_block ?_))))))))
 obtain ⟨b8, b9, a2, H⟩ := H
 have ca := (az.sn be)
 refine W_loop (α := (List Pair) × (Option Addr) × Nat × Nat × Int × Int) (fun (sv__ : (List Pair) × (Option Addr) × Nat × Nat × Int × Int) t ao => match sv__ with | (xs2, aa, ac, ad, i2, j2) => b8 xs2 i2 j2 ∧ Has t [(0, .slice A1 n2 c3), (1, .slice A6 n7 c8), (5, .slice aa ac ad), (6, .slice al am an), (7, vi i2), (8, vi j2)] ∧ Ct [] w0 ao [bk aa] O ∧ Sl kPt ao (Fr ([bk aa] ++ O)) (.slice A1 n2 c3) a ∧ Sl kPt ao (Fr ([bk aa] ++ O)) (.slice A6 n7 c8) b ∧ Sl (Kd.sl (Kd.int .i64)) ao (Fr ([bk aa] ++ O)) (.slice al am an) r ∧ Ow kPair 186 ao ([bk aa] ++ O) (.slice aa ac ad) xs2) (fun (sv__ : (List Pair) × (Option Addr) × Nat × Nat × Int × Int) => match sv__ with | (xs2, _, _, _, i2, j2) => b9 xs2 i2 j2) (([] : List Pair), ag, ah, ai, 0, 0) ⟨a2, (hasI rfl), a1, (hp4.st a1.st), (hp9.st a1.st), b7, ca⟩ ?_
 rintro ⟨xs2, aa, ac, ad, i2, j2⟩ _ ao ⟨a2, cb, ak, ap, aq, ar, aw⟩
 obtain ⟨d6, rfl⟩ := Has.ins cb
 have H := H xs2 i2 j2 a2
 refine W_seq (W_seq (W_reg (L_mv (vi i2) rfl (L_mv (.slice A1 n2 c3) rfl ?_))))
 have a3 := ap.le
 refine L_pu (P_len Tryz.underlying56 A1 n2 c3 ap.len rfl) (L_pu (P_cmp i2 (a.length : Int) (decide (i2 < (a.length : Int))) rfl rfl rfl) (L_mv (vb (decide (i2 < (a.length : Int)))) rfl ?_))
 rcases bool_or (decide (i2 < (a.length : Int))) with ab | ab
 ·have H := ite_t H ab
  refine L_rb ab rfl (L_mv (vi j2) rfl (L_rb ab rfl (L_mv (.slice A6 n7 c8) rfl (L_rb ab rfl ?_))))
  have a4 := aq.le
  refine L_pu (P_len Tryz.underlying56 A6 n7 c8 aq.len rfl) (L_rb ab rfl (L_pu (P_cmp j2 (b.length : Int) (decide (j2 < (b.length : Int))) rfl rfl rfl) (L_pu (P_pick true (vb (decide (j2 < (b.length : Int)))) (by exact congrArg Value.bool ab) rfl) (L_nil ?_))))
  refine W_cond (decide (j2 < (b.length : Int))) rfl (fun au => ?_) (fun au => ?_)
  ·have H := ite_t H au
   refine W_skip (W_block (W_block (W_seq (W_draw (fun x => Gr ao x none) (by kernel_rfl) (by kernel_rfl) (Gr.drew _) ?_))))
   refine Q_mv (.slice A1 n2 c3) rfl (Q_mv (vi i2) rfl ?_)
   obtain ⟨bf, H⟩ := H
   obtain ⟨bg, d7, cc, d8, cd, ce⟩ := ap.get default (by decide) i2 bf
   obtain rfl := kPt.op cd
   refine Q_pu (P_ia Tryz.underlying56 se56 A1 bg n2 c3 ap.len i2 rfl cc rfl bf) (Q_pu (P_lda ag114 sz114 cQ (bg.add (i2.toNat * 2)) [vi ((nth a i2).X), vi ((nth a i2).Y)] rfl rfl ce) (Q_mv (.slice A6 n7 c8) rfl (Q_mv (vi j2) rfl ?_)))
   obtain ⟨bh, H⟩ := H
   obtain ⟨bi, d9, cf, ea, cg, ch⟩ := aq.get default (by decide) j2 bh
   obtain rfl := kPt.op cg
   refine Q_pu (P_ia Tryz.underlying56 se56 A6 bi n7 c8 aq.len j2 rfl cf rfl bh) (Q_pu (P_lda ag114 sz114 cQ (bi.add (j2.toNat * 2)) [vi ((nth b j2).X), vi ((nth b j2).Y)] rfl rfl ch) (Q_pu (P_eq _ _ (eqPt (nth a i2) (nth b j2)) (qt114 (nth a i2) (nth b j2)) rfl rfl) (Q_as (vb (eqPt (nth a i2) (nth b j2))) rfl (Q_nil fun ci av => ?_))))
   have ax := ak.k0 av
   refine W_cond (eqPt (nth a i2) (nth b j2)) rfl (fun a5 => ?_) (fun a5 => ?_)
   ·have H := ite_t H a5
    refine W_seq (W_reg (L_mv (.slice aa ac ad) rfl (L_mv (vi i2) rfl (L_mv (vi j2) rfl (L_pu (P_build (.agg #[vi i2, vi j2]) (fun _ => by kernel_rfl)) (L_lit (kd := kPair) ei156 ax ([(⟨i2, j2⟩ : Pair)] : List Pair) (cells := [vi i2, vi j2]) ⟨[vi i2, vi j2], _, rfl, (kPair.mk _ _ (⟨i2, j2⟩ : Pair)), rfl⟩ (fun _ => by kernel_rfl) fun eb cj ck cl bj hr106 cm cn => ?_))))))
    obtain ⟨co, H⟩ := H
    have cp := ((aw.sn av).so _ bj hr106)
    refine L_app ei156 cm (.slice aa ac ad) xs2 ([(⟨i2, j2⟩ : Pair)] : List Pair) rfl cp (.slice cj ck cl) rfl cn.sx 1 rfl co fun ec bl bm bn ed a6 a7 cq => ?_
    refine L_as (.slice bl bm bn) rfl (L_nil (W_seq (W_reg (L_mv (vi i2) rfl ?_))))
    obtain ⟨cr, H⟩ := H
    have cs : I64 (i2 + 1) := i64_succ (of_decide_eq_true ab) a3 cr
    refine L_pu (P_add i2 1 rfl rfl cs) (L_as (vi (i2 + 1)) rfl (L_nil (W_reg (L_mv (vi j2) rfl ?_))))
    obtain ⟨ct, H⟩ := H
    have cu : I64 (j2 + 1) := i64_succ (of_decide_eq_true au) a4 ct
    refine L_pu (P_add j2 1 rfl rfl cu) (L_as (vi (j2 + 1)) rfl (L_nil ?_))
    have cv := a7.drop 0 rfl
    obtain ⟨cw, cx⟩ := H
    have a8 := ak.stn av
    have a9 := ax.stown _ bj hr106
    have ba := a7.std 0 rfl
    have cy := ((((ap.st a8).st a9).st a6).st ba)
    have cz := ((((aq.st a8).st a9).st a6).st ba)
    have c1 := ((((ar.st a8).st a9).st a6).st ba)
    have c2 := (a7.sd cq 1 0 rfl rfl rfl)
    exact ⟨((xs2 ++ ([(⟨i2, j2⟩ : Pair)] : List Pair)), bl, bm, bn, i2 + 1, j2 + 1), cx, cw, (hasI rfl), cv, cy, cz, c1, c2⟩
   have H := ite_f H a5
   refine W_seq (W_draw (fun x => Gr ci x none) (by kernel_rfl) (by kernel_rfl) (Gr.drew _) ?_)
   refine Q_mv (.slice al am an) rfl (Q_mv (vi i2) rfl ?_)
   obtain ⟨c4, H⟩ := H
   have c5 : I64 (i2 + 1) := i64_succ (of_decide_eq_true ab) a3 c4
   refine Q_pu (P_add i2 1 rfl rfl c5) ?_
   obtain ⟨bo, H⟩ := H
   have aj := ak.stn av
   obtain ⟨bp, ee, c6, ef, c7, c9⟩ := (ar.st aj).get default (by decide) (i2 + 1) bo
   obtain ⟨bq, br, bs, rfl, bt⟩ := Kd.sl.op c7
   refine Q_pu (P_ia Tryz.underlying183 se183 al bp am an (ar.st aj).len (i2 + 1) rfl c6 rfl bo) (Q_pu (P_ld ag187 cQ (bp.add ((i2 + 1).toNat * 1)) (.slice bq br bs) rfl (c9 0 _ rfl)) (Q_mv (vi j2) rfl ?_))
   obtain ⟨bu, H⟩ := H
   obtain ⟨bv, eg, da, eh, db, dc⟩ := bt.get default (by decide) j2 bu
   obtain rfl := Kd.int.op db
   refine Q_pu (P_ia Tryz.underlying187 se187 bq bv br bs bt.len j2 rfl da rfl bu) (Q_pu (P_ld ag3 cQ (bv.add (j2.toNat * 1)) (vi (nth (nth r (i2 + 1)) j2)) rfl (dc 0 _ rfl)) (Q_mv (.slice al am an) rfl (Q_mv (vi i2) rfl ?_)))
   obtain ⟨bw, H⟩ := H
   obtain ⟨bx, ei, dd, ej, de, df⟩ := (ar.st aj).get default (by decide) i2 bw
   obtain ⟨bz, b0, b1, rfl, b2⟩ := Kd.sl.op de
   refine Q_pu (P_ia Tryz.underlying183 se183 al bx am an (ar.st aj).len i2 rfl dd rfl bw) (Q_pu (P_ld ag187 cQ (bx.add (i2.toNat * 1)) (.slice bz b0 b1) rfl (df 0 _ rfl)) (Q_mv (vi j2) rfl ?_))
   obtain ⟨dg, H⟩ := H
   have dh : I64 (j2 + 1) := i64_succ (of_decide_eq_true au) a4 dg
   refine Q_pu (P_add j2 1 rfl rfl dh) ?_
   obtain ⟨b3, H⟩ := H
   obtain ⟨b4, ek, di, el, dj, dk⟩ := b2.get default (by decide) (j2 + 1) b3
   obtain rfl := Kd.int.op dj
   refine Q_pu (P_ia Tryz.underlying187 se187 bz b4 b0 b1 b2.len (j2 + 1) rfl di rfl b3) (Q_pu (P_ld ag3 cQ (b4.add ((j2 + 1).toNat * 1)) (vi (nth (nth r i2) (j2 + 1))) rfl (dk 0 _ rfl)) (Q_pu (P_cmp (nth (nth r (i2 + 1)) j2) (nth (nth r i2) (j2 + 1)) (decide ((nth (nth r (i2 + 1)) j2) ≥ (nth (nth r i2) (j2 + 1)))) rfl rfl rfl) (Q_as (vb (decide ((nth (nth r (i2 + 1)) j2) ≥ (nth (nth r i2) (j2 + 1))))) rfl (Q_nil fun em ay => ?_))))
   have b5 := ax.k0 ay
   refine W_cond (decide ((nth (nth r (i2 + 1)) j2) ≥ (nth (nth r i2) (j2 + 1)))) rfl (fun bb => ?_) (fun bb => ?_)
   ·have H := ite_t H bb
    refine W_reg (L_mv (vi i2) rfl ?_)
    obtain ⟨dl, H⟩ := H
    have dm : I64 (i2 + 1) := i64_succ (of_decide_eq_true ab) a3 dl
    refine L_pu (P_add i2 1 rfl rfl dm) (L_as (vi (i2 + 1)) rfl (L_nil ?_))
    obtain ⟨dn, dp⟩ := H
    have bc := ax.stn ay
    have dq := ((ap.st aj).st bc)
    have dr := ((aq.st aj).st bc)
    have ds := ((ar.st aj).st bc)
    have dt := ((aw.sn av).sn ay)
    exact ⟨(xs2, aa, ac, ad, i2 + 1, j2), dp, dn, (hasI rfl), b5, dq, dr, ds, dt⟩
   have H := ite_f H bb
   refine W_reg (L_mv (vi j2) rfl ?_)
   obtain ⟨du, H⟩ := H
   have dv : I64 (j2 + 1) := i64_succ (of_decide_eq_true au) a4 du
   refine L_pu (P_add j2 1 rfl rfl dv) (L_as (vi (j2 + 1)) rfl (L_nil ?_))
   obtain ⟨dw, dx⟩ := H
   have bd := ax.stn ay
   have dy := ((ap.st aj).st bd)
   have dz := ((aq.st aj).st bd)
   have d0 := ((ar.st aj).st bd)
   have d1 := ((aw.sn av).sn ay)
   exact ⟨(xs2, aa, ac, ad, i2, j2 + 1), dx, dw, (hasI rfl), b5, dy, dz, d0, d1⟩
  have H := ite_f H au
  refine W_exit (xin_hit ?_)
  exact W_seq (W_reg (L_mv (.slice aa ac ad) rfl (L_as (.slice aa ac ad) rfl (L_nil (W_ret ⟨[.slice aa ac ad], ⟨_, rfl, rfl⟩, xs2, aa, ac, ad, rfl, H, ak.gr.g0, ak.ok, ak.ge, aw⟩)))))
 have H := ite_f H ab
 refine L_pb ab rfl (L_pb ab rfl (L_pb ab rfl (L_pb ab rfl (L_pu (P_pick false (vb false) (by exact congrArg Value.bool ab) rfl) (L_nil (W_cf (b := false) rfl rfl ?_))))))
 refine W_exit (xin_hit ?_)
 exact W_seq (W_reg (L_mv (.slice aa ac ad) rfl (L_as (.slice aa ac ad) rfl (L_nil (W_ret ⟨[.slice aa ac ad], ⟨_, rfl, rfl⟩, xs2, aa, ac, ad, rfl, H, ak.gr.g0, ak.ok, ak.ge, aw⟩)))))
end
section
open Go.RowKit
def F66.E (list : List Pair) (at_ : Int) (Q : Int → Prop) : Prop :=
 (∃ (I19 : Int → Prop) (mu20 : Int → Nat), I19 0 ∧ ∀ (v2 : Int), I19 v2 → (if decide (v2 < (list.length : Int)) then ((0 : Int) ≤ v2 ∧ v2 < (list.length : Int)) ∧ (if ((nth list v2).A) == at_ then Q ((nth list v2).B) else (I64 (v2 + 1)) ∧ I19 (v2 + 1) ∧ mu20 (v2 + 1) < mu20 v2) else Q (-1)))
theorem F66.calls {O : Ob} (w0 : World) (hO : Ok w0 O) (list : List Pair) (A1 : Option Addr) (n2 c3 : Nat) (hp4 : Sl kPair w0 (Fr O) (.slice A1 n2 c3) list) (at_ : Int) (Q : Int → Prop) (h : F66.E list at_ Q) :
  Ret Tryz.prog 118 [.slice A1 n2 c3, vi at_] w0 (fun v w' => ∃ (r0 : Int), v = vi r0 ∧ Q r0 ∧ Gr w0 w' none) := by
 unfold F66.E at h
 have H := h
 clear h
 have hc0 := Ct.init hO
 refine Ret_enter Tryz.func118 rfl 20 rfl [.tmp 4] rfl rfl ?_
 refine W_seq (W_reg (L_as (vi 0) rfl (L_nil (W_seq (W_seq (W_reg (L_mv (.slice A1 n2 c3) rfl ?_)))))))
 have hl6 := hp4.le
 refine L_pu (P_len Tryz.underlying156 A1 n2 c3 hp4.len rfl) (L_mv (vi 0) rfl (L_nil (W_block ?_)))
 obtain ⟨ap, aq, ab, H⟩ := H
 refine W_loop (α := Int) (fun (sv__ : Int) t ac => match sv__ with | v2 => ap v2 ∧ Has t [(1, vi at_), (7, .slice A1 n2 c3), (8, vi (list.length : Int)), (9, vi v2)] ∧ Ct [] w0 ac [] O ∧ Sl kPair ac (Fr ([] ++ O)) (.slice A1 n2 c3) list) (fun (sv__ : Int) => match sv__ with | v2 => aq v2) 0 ⟨ab, (hasI rfl), hc0, hp4⟩ ?_
 rintro v2 _ ac ⟨ab, ar, ad, ae⟩
 obtain ⟨a7, rfl⟩ := Has.ins ar
 have H := H v2 ab
 refine W_seq (W_reg (L_pu (P_cmp v2 (list.length : Int) (decide (v2 < (list.length : Int))) rfl rfl rfl) (L_nil (W_seq ?_))))
 refine W_cond (decide (v2 < (list.length : Int))) rfl (fun af => ?_) (fun af => ?_)
 ·have H := ite_t H af
  refine W_skip (W_seq (W_block (W_seq (W_reg ?_))))
  obtain ⟨ai, H⟩ := H
  obtain ⟨aj, a8, au, a9, av, aw⟩ := ae.get default (by decide) v2 ai
  obtain rfl := kPair.op av
  refine L_pu (P_ia Tryz.underlying156 se156 A1 aj n2 c3 ae.len v2 rfl au rfl ai) (L_pu (P_lda ag186 sz186 cL (aj.add (v2.toNat * 2)) [vi ((nth list v2).A), vi ((nth list v2).B)] rfl rfl aw) (L_alloc [.int .i64 0, .int .i64 0] ze186 fun ba aa ak hu37 al ax => ?_))
  have am := ad.own al (some aa) (oglt ak hu37)
  refine L_stb aa 0 [vi 0, vi 0] [vi ((nth list v2).A), vi ((nth list v2).B)] [vi ((nth list v2).A), vi ((nth list v2).B)] rfl ax rfl sz186 rfl rfl rfl fun bb an ao => ?_
  have ag := am.wr 0 rfl an
  refine L_nil (W_seq (W_reg (L_pu (P_fa fa186_0 ⟨aa, 0, none⟩ ⟨aa, 0, none⟩ rfl rfl) (L_pu (P_ld ag3 cL ⟨aa, 0, none⟩ (vi ((nth list v2).A)) rfl (ao.cell rfl)) (L_mv (vi at_) rfl (L_pu (P_cmp ((nth list v2).A) at_ (((nth list v2).A) == at_) rfl rfl rfl) (L_nil ?_)))))))
  refine W_cond (((nth list v2).A) == at_) rfl (fun ah => ?_) (fun ah => ?_)
  ·have H := ite_t H ah
   refine W_seq (W_reg (L_pu (P_fa fa186_1 ⟨aa, 0, none⟩ ⟨aa, 1, none⟩ rfl rfl) (L_pu (P_ld ag3 cL ⟨aa, 1, none⟩ (vi ((nth list v2).B)) rfl (ao.cell rfl)) (L_as (vi ((nth list v2).B)) rfl (L_nil (W_ret ?_))))))
   have ay := ag.drop 0 rfl
   exact ⟨[vi ((nth list v2).B)], ⟨_, rfl, rfl⟩, (nth list v2).B, rfl, H, ay.gr.g0⟩
  have H := ite_f H ah
  refine W_skip (W_reg ?_)
  obtain ⟨az, H⟩ := H
  refine L_pu (P_add v2 1 rfl rfl az) (L_mv (vi (v2 + 1)) rfl (L_nil ?_))
  have a0 := ag.drop 0 rfl
  obtain ⟨a1, a2⟩ := H
  have a3 := ad.stown _ al (oge ak)
  have a4 := am.stw 0 rfl an
  have a5 := ag.std 0 rfl
  have a6 := (((ae.st a3).st a4).st a5)
  exact ⟨v2 + 1, a2, a1, (hasI rfl), a0, a6⟩
 have H := ite_f H af
 refine W_exit (xin_hit ?_)
 exact W_seq (W_reg (L_as (vi (-1)) rfl (L_nil (W_ret ⟨[vi (-1)], ⟨_, rfl, rfl⟩, (-1), rfl, H, ad.gr.g0⟩))))
end
section
open Go.RowKit
def F46.E (base_ : List Pt) (a : List Pt) (b : List Pt) (Q : List Pt → Bool → Prop) : Prop :=
 (if decide ((base_.length : Int) > 12) then Q ([] : List Pt) false else (if decide ((a.length : Int) > 12) then Q ([] : List Pt) false else (if decide ((b.length : Int) > 12) then Q ([] : List Pt) false else F45.E base_ a (fun r => F45.E base_ b (fun r2 => (∃ (I128 : (List Pt) → Int → Int → Int → Int → Prop) (mu129 : (List Pt) → Int → Int → Int → Int → Nat), I128 ([] : List Pt) 0 0 0 0 ∧ ∀ (xs2 : List Pt) (i2 : Int) (j2 : Int) (k2 : Int) (at_2 : Int), I128 xs2 i2 j2 k2 at_2 → (if decide (at_2 ≤ (base_.length : Int)) then (if decide (at_2 < (base_.length : Int)) then F66.E r at_2 (fun r3 => F66.E r2 at_2 (fun r4 => (if decide (r3 < 0) then (-9223372036854775808 ≤ at_2) ∧ I128 xs2 i2 j2 k2 (at_2 + 1) ∧ mu129 xs2 i2 j2 k2 (at_2 + 1) < mu129 xs2 i2 j2 k2 at_2 else (if decide (r4 < 0) then (-9223372036854775808 ≤ at_2) ∧ I128 xs2 i2 j2 k2 (at_2 + 1) ∧ mu129 xs2 i2 j2 k2 (at_2 + 1) < mu129 xs2 i2 j2 k2 at_2 else ((0 : Int) ≤ i2 ∧ (i2 : Int) ≤ at_2 ∧ at_2 ≤ (base_.length : Int)) ∧ ((0 : Int) ≤ j2 ∧ (j2 : Int) ≤ r3 ∧ r3 ≤ (a.length : Int)) ∧ ((0 : Int) ≤ k2 ∧ (k2 : Int) ≤ r4 ∧ r4 ≤ (b.length : Int)) ∧ F15.E ((a.drop j2.toNat).take (r3.toNat - j2.toNat)) ((base_.drop i2.toNat).take (at_2.toNat - i2.toNat)) (fun r5 => (if r5 then (xs2.length + ((b.drop k2.toNat).take (r4.toNat - k2.toNat)).length ≤ 268435456) ∧ ((0 : Int) ≤ at_2 ∧ at_2 < (base_.length : Int)) ∧ ((xs2 ++ ((b.drop k2.toNat).take (r4.toNat - k2.toNat))).length + ([(nth base_ at_2)] : List Pt).length ≤ 268435456) ∧ (-9223372036854775808 ≤ at_2) ∧ ((base_.length : Int) ≤ 9223372036854775807 → (a.length : Int) ≤ 9223372036854775807 → (b.length : Int) ≤ 9223372036854775807 → I64 (r3 + 1)) ∧ ((base_.length : Int) ≤ 9223372036854775807 → (a.length : Int) ≤ 9223372036854775807 → (b.length : Int) ≤ 9223372036854775807 → I64 (r4 + 1)) ∧ (-9223372036854775808 ≤ at_2) ∧ I128 ((xs2 ++ ((b.drop k2.toNat).take (r4.toNat - k2.toNat))) ++ ([(nth base_ at_2)] : List Pt)) (at_2 + 1) (r3 + 1) (r4 + 1) (at_2 + 1) ∧ mu129 ((xs2 ++ ((b.drop k2.toNat).take (r4.toNat - k2.toNat))) ++ ([(nth base_ at_2)] : List Pt)) (at_2 + 1) (r3 + 1) (r4 + 1) (at_2 + 1) < mu129 xs2 i2 j2 k2 at_2 else F15.E ((b.drop k2.toNat).take (r4.toNat - k2.toNat)) ((base_.drop i2.toNat).take (at_2.toNat - i2.toNat)) (fun r6 => (if r6 then (xs2.length + ((a.drop j2.toNat).take (r3.toNat - j2.toNat)).length ≤ 268435456) ∧ ((0 : Int) ≤ at_2 ∧ at_2 < (base_.length : Int)) ∧ ((xs2 ++ ((a.drop j2.toNat).take (r3.toNat - j2.toNat))).length + ([(nth base_ at_2)] : List Pt).length ≤ 268435456) ∧ (-9223372036854775808 ≤ at_2) ∧ ((base_.length : Int) ≤ 9223372036854775807 → (a.length : Int) ≤ 9223372036854775807 → (b.length : Int) ≤ 9223372036854775807 → I64 (r3 + 1)) ∧ ((base_.length : Int) ≤ 9223372036854775807 → (a.length : Int) ≤ 9223372036854775807 → (b.length : Int) ≤ 9223372036854775807 → I64 (r4 + 1)) ∧ (-9223372036854775808 ≤ at_2) ∧ I128 ((xs2 ++ ((a.drop j2.toNat).take (r3.toNat - j2.toNat))) ++ ([(nth base_ at_2)] : List Pt)) (at_2 + 1) (r3 + 1) (r4 + 1) (at_2 + 1) ∧ mu129 ((xs2 ++ ((a.drop j2.toNat).take (r3.toNat - j2.toNat))) ++ ([(nth base_ at_2)] : List Pt)) (at_2 + 1) (r3 + 1) (r4 + 1) (at_2 + 1) < mu129 xs2 i2 j2 k2 at_2 else F15.E ((a.drop j2.toNat).take (r3.toNat - j2.toNat)) ((b.drop k2.toNat).take (r4.toNat - k2.toNat)) (fun r7 => (if r7 then (xs2.length + ((a.drop j2.toNat).take (r3.toNat - j2.toNat)).length ≤ 268435456) ∧ ((0 : Int) ≤ at_2 ∧ at_2 < (base_.length : Int)) ∧ ((xs2 ++ ((a.drop j2.toNat).take (r3.toNat - j2.toNat))).length + ([(nth base_ at_2)] : List Pt).length ≤ 268435456) ∧ (-9223372036854775808 ≤ at_2) ∧ ((base_.length : Int) ≤ 9223372036854775807 → (a.length : Int) ≤ 9223372036854775807 → (b.length : Int) ≤ 9223372036854775807 → I64 (r3 + 1)) ∧ ((base_.length : Int) ≤ 9223372036854775807 → (a.length : Int) ≤ 9223372036854775807 → (b.length : Int) ≤ 9223372036854775807 → I64 (r4 + 1)) ∧ (-9223372036854775808 ≤ at_2) ∧ I128 ((xs2 ++ ((a.drop j2.toNat).take (r3.toNat - j2.toNat))) ++ ([(nth base_ at_2)] : List Pt)) (at_2 + 1) (r3 + 1) (r4 + 1) (at_2 + 1) ∧ mu129 ((xs2 ++ ((a.drop j2.toNat).take (r3.toNat - j2.toNat))) ++ ([(nth base_ at_2)] : List Pt)) (at_2 + 1) (r3 + 1) (r4 + 1) (at_2 + 1) < mu129 xs2 i2 j2 k2 at_2 else Q ([] : List Pt) false)))))))))) else ((0 : Int) ≤ i2 ∧ (i2 : Int) ≤ at_2 ∧ at_2 ≤ (base_.length : Int)) ∧ ((0 : Int) ≤ j2 ∧ (j2 : Int) ≤ (a.length : Int) ∧ (a.length : Int) ≤ (a.length : Int)) ∧ ((0 : Int) ≤ k2 ∧ (k2 : Int) ≤ (b.length : Int) ∧ (b.length : Int) ≤ (b.length : Int)) ∧ F15.E ((a.drop j2.toNat).take ((a.length : Int).toNat - j2.toNat)) ((base_.drop i2.toNat).take (at_2.toNat - i2.toNat)) (fun r8 => (if r8 then (xs2.length + ((b.drop k2.toNat).take ((b.length : Int).toNat - k2.toNat)).length ≤ 268435456) ∧ ((base_.length : Int) ≤ 9223372036854775807 → (a.length : Int) ≤ 9223372036854775807 → (b.length : Int) ≤ 9223372036854775807 → I64 (at_2 + 1)) ∧ ((base_.length : Int) ≤ 9223372036854775807 → (a.length : Int) ≤ 9223372036854775807 → (b.length : Int) ≤ 9223372036854775807 → I64 ((a.length : Int) + 1)) ∧ ((base_.length : Int) ≤ 9223372036854775807 → (a.length : Int) ≤ 9223372036854775807 → (b.length : Int) ≤ 9223372036854775807 → I64 ((b.length : Int) + 1)) ∧ ((base_.length : Int) ≤ 9223372036854775807 → (a.length : Int) ≤ 9223372036854775807 → (b.length : Int) ≤ 9223372036854775807 → I64 (at_2 + 1)) ∧ I128 (xs2 ++ ((b.drop k2.toNat).take ((b.length : Int).toNat - k2.toNat))) (at_2 + 1) ((a.length : Int) + 1) ((b.length : Int) + 1) (at_2 + 1) ∧ mu129 (xs2 ++ ((b.drop k2.toNat).take ((b.length : Int).toNat - k2.toNat))) (at_2 + 1) ((a.length : Int) + 1) ((b.length : Int) + 1) (at_2 + 1) < mu129 xs2 i2 j2 k2 at_2 else F15.E ((b.drop k2.toNat).take ((b.length : Int).toNat - k2.toNat)) ((base_.drop i2.toNat).take (at_2.toNat - i2.toNat)) (fun r9 => (if r9 then (xs2.length + ((a.drop j2.toNat).take ((a.length : Int).toNat - j2.toNat)).length ≤ 268435456) ∧ ((base_.length : Int) ≤ 9223372036854775807 → (a.length : Int) ≤ 9223372036854775807 → (b.length : Int) ≤ 9223372036854775807 → I64 (at_2 + 1)) ∧ ((base_.length : Int) ≤ 9223372036854775807 → (a.length : Int) ≤ 9223372036854775807 → (b.length : Int) ≤ 9223372036854775807 → I64 ((a.length : Int) + 1)) ∧ ((base_.length : Int) ≤ 9223372036854775807 → (a.length : Int) ≤ 9223372036854775807 → (b.length : Int) ≤ 9223372036854775807 → I64 ((b.length : Int) + 1)) ∧ ((base_.length : Int) ≤ 9223372036854775807 → (a.length : Int) ≤ 9223372036854775807 → (b.length : Int) ≤ 9223372036854775807 → I64 (at_2 + 1)) ∧ I128 (xs2 ++ ((a.drop j2.toNat).take ((a.length : Int).toNat - j2.toNat))) (at_2 + 1) ((a.length : Int) + 1) ((b.length : Int) + 1) (at_2 + 1) ∧ mu129 (xs2 ++ ((a.drop j2.toNat).take ((a.length : Int).toNat - j2.toNat))) (at_2 + 1) ((a.length : Int) + 1) ((b.length : Int) + 1) (at_2 + 1) < mu129 xs2 i2 j2 k2 at_2 else F15.E ((a.drop j2.toNat).take ((a.length : Int).toNat - j2.toNat)) ((b.drop k2.toNat).take ((b.length : Int).toNat - k2.toNat)) (fun r10 => (if r10 then (xs2.length + ((a.drop j2.toNat).take ((a.length : Int).toNat - j2.toNat)).length ≤ 268435456) ∧ ((base_.length : Int) ≤ 9223372036854775807 → (a.length : Int) ≤ 9223372036854775807 → (b.length : Int) ≤ 9223372036854775807 → I64 (at_2 + 1)) ∧ ((base_.length : Int) ≤ 9223372036854775807 → (a.length : Int) ≤ 9223372036854775807 → (b.length : Int) ≤ 9223372036854775807 → I64 ((a.length : Int) + 1)) ∧ ((base_.length : Int) ≤ 9223372036854775807 → (a.length : Int) ≤ 9223372036854775807 → (b.length : Int) ≤ 9223372036854775807 → I64 ((b.length : Int) + 1)) ∧ ((base_.length : Int) ≤ 9223372036854775807 → (a.length : Int) ≤ 9223372036854775807 → (b.length : Int) ≤ 9223372036854775807 → I64 (at_2 + 1)) ∧ I128 (xs2 ++ ((a.drop j2.toNat).take ((a.length : Int).toNat - j2.toNat))) (at_2 + 1) ((a.length : Int) + 1) ((b.length : Int) + 1) (at_2 + 1) ∧ mu129 (xs2 ++ ((a.drop j2.toNat).take ((a.length : Int).toNat - j2.toNat))) (at_2 + 1) ((a.length : Int) + 1) ((b.length : Int) + 1) (at_2 + 1) < mu129 xs2 i2 j2 k2 at_2 else Q ([] : List Pt) false))))))) else Q xs2 true)))))))
theorem F46.calls {O : Ob} (w0 : World) (hO : Ok w0 O) (base_ : List Pt) (A1 : Option Addr) (n2 c3 : Nat) (hp4 : Sl kPt w0 (Fr O) (.slice A1 n2 c3) base_) (a : List Pt) (A6 : Option Addr) (n7 c8 : Nat) (hp9 : Sl kPt w0 (Fr O) (.slice A6 n7 c8) a) (b : List Pt) (an : Option Addr) (ao ap : Nat) (cm : Sl kPt w0 (Fr O) (.slice an ao ap) b) (Q : List Pt → Bool → Prop) (h : F46.E base_ a b Q) :
  Ret Tryz.prog 82 [.slice A1 n2 c3, .slice A6 n7 c8, .slice an ao ap] w0 (fun v w' => ∃ (r0 : List Pt) (r1 : Bool) (A0 : Option Addr) (n0 c0 : Nat), v = .tuple #[.slice A0 n0 c0, vb r1] ∧ Q r0 r1 ∧ Gr w0 w' none ∧ Ok w' ([bk A0] ++ O) ∧ (∀ b, some b ∈ [bk A0] → w0.heap.size ≤ b) ∧ Ow kPt 114 w' ([bk A0] ++ O) (.slice A0 n0 c0) r0) := by
 unfold F46.E at h
 have H := h
 clear h
 have hc0 := Ct.init hO
 refine Ret_enter Tryz.func82 rfl 117 rfl [.tmp 6, .tmp 7] rfl rfl ?_
 refine W_seq (W_reg (L_as (.slice none 0 0) rfl (L_as (vb false) rfl (L_nil (W_seq (W_seq (W_reg (L_mv (.slice A1 n2 c3) rfl ?_))))))))
 have ms := hp4.le
 refine L_pu (P_len Tryz.underlying56 A1 n2 c3 hp4.len rfl) (L_pu (P_cmp (base_.length : Int) 12 (decide ((base_.length : Int) > 12)) rfl rfl rfl) (L_mv (vb (decide ((base_.length : Int) > 12))) rfl ?_))
 rcases bool_or (decide ((base_.length : Int) > 12)) with au | au
 ·have H := ite_t H au
  refine L_pb au rfl (L_pb au rfl (L_pb au rfl (L_pu (P_pick true (vb true) (by exact congrArg Value.bool au) rfl) (L_mv (vb true) rfl (L_pass (dj := 28) rfl rfl (.inl rfl) (L_pass (dj := 28) rfl rfl (.inl rfl) (L_pass (dj := 28) rfl rfl (.inl rfl) (L_pu (P_pick true (vb true) (by exact congrArg Value.bool rfl) rfl) ?_))))))))
  refine L_nil (W_ct (b := true) rfl rfl ?_)
  refine W_seq (W_reg (L_lit (kd := kPt) ei56 hc0 ([] : List Pt) (cells := []) rfl (fun _ => by kernel_rfl) fun mt dc dd de mu hr23 df gg => ?_))
  exact L_as (.slice dc dd de) rfl (L_as (vb false) rfl (L_nil (W_ret ⟨[.slice dc dd de, vb false], ⟨_, rfl, ⟨_, rfl, rfl⟩⟩, ([] : List Pt), false, dc, dd, de, rfl, H, df.gr.g0, df.ok, df.ge, gg⟩)))
 have H := ite_f H au
 refine L_rb au rfl (L_mv (.slice A6 n7 c8) rfl (L_rb au rfl ?_))
 have mv := hp9.le
 refine L_pu (P_len Tryz.underlying56 A6 n7 c8 hp9.len rfl) (L_rb au rfl (L_pu (P_cmp (a.length : Int) 12 (decide ((a.length : Int) > 12)) rfl rfl rfl) (L_pu (P_pick false (vb (decide ((a.length : Int) > 12))) (by exact congrArg Value.bool au) rfl) (L_mv (vb (decide ((a.length : Int) > 12))) rfl ?_))))
 rcases bool_or (decide ((a.length : Int) > 12)) with av | av
 ·have H := ite_t H av
  refine L_pb av rfl (L_pb av rfl (L_pb av rfl (L_pu (P_pick true (vb true) (by exact congrArg Value.bool av) rfl) (L_nil (W_ct (b := true) rfl rfl ?_)))))
  refine W_seq (W_reg (L_lit (kd := kPt) ei56 hc0 ([] : List Pt) (cells := []) rfl (fun _ => by kernel_rfl) fun mw dg dh di mx hr34 dk gh => ?_))
  exact L_as (.slice dg dh di) rfl (L_as (vb false) rfl (L_nil (W_ret ⟨[.slice dg dh di, vb false], ⟨_, rfl, ⟨_, rfl, rfl⟩⟩, ([] : List Pt), false, dg, dh, di, rfl, H, dk.gr.g0, dk.ok, dk.ge, gh⟩)))
 have H := ite_f H av
 refine L_rb av rfl (L_mv (.slice an ao ap) rfl (L_rb av rfl ?_))
 have my := cm.le
 refine L_pu (P_len Tryz.underlying56 an ao ap cm.len rfl) (L_rb av rfl (L_pu (P_cmp (b.length : Int) 12 (decide ((b.length : Int) > 12)) rfl rfl rfl) (L_pu (P_pick false (vb (decide ((b.length : Int) > 12))) (by exact congrArg Value.bool av) rfl) (L_nil ?_))))
 refine W_cond (decide ((b.length : Int) > 12)) rfl (fun dl => ?_) (fun dl => ?_)
 ·have H := ite_t H dl
  refine W_seq (W_reg (L_lit (kd := kPt) ei56 hc0 ([] : List Pt) (cells := []) rfl (fun _ => by kernel_rfl) fun mz dm dn dp m0 hr45 dq gi => ?_))
  exact L_as (.slice dm dn dp) rfl (L_as (vb false) rfl (L_nil (W_ret ⟨[.slice dm dn dp, vb false], ⟨_, rfl, ⟨_, rfl, rfl⟩⟩, ([] : List Pt), false, dm, dn, dp, rfl, H, dq.gr.g0, dq.ok, dq.ge, gi⟩)))
 have H := ite_f H dl
 refine W_skip (W_seq (W_reg (L_mv (.slice A1 n2 c3) rfl (L_mv (.slice A6 n7 c8) rfl ?_))))
 refine L_call go117 [.slice A1 n2 c3, .slice A6 n7 c8] rfl ((F45.calls w0 hc0.ok base_ A1 n2 c3 hp4 a A6 n7 c8 hp9 _ H).mono ?_)
 rintro _ gj ⟨r, ai, bz, b0, rfl, H, gk, gl, gm, gn⟩
 have cn := hc0.owns gk gl gm
 refine L_mv (.slice A1 n2 c3) rfl (L_mv (.slice an ao ap) rfl ?_)
 refine L_call go117 [.slice A1 n2 c3, .slice an ao ap] rfl ((F45.calls gj cn.ok base_ A1 n2 c3 (hp4.st cn.st) b an ao ap (cm.st cn.st) _ H).mono ?_)
 rintro _ m1 ⟨r2, aj, b1, b2, rfl, H, ex, gp, ey, gq⟩
 have gs := cn.owns ex gp ey
 refine L_as (.slice ai bz b0) rfl (L_as (.slice aj b1 b2) rfl (L_nil (W_seq (W_reg (L_lit (kd := kPt) ei56 gs ([] : List Pt) (cells := []) rfl (fun _ => by kernel_rfl) fun m2 ez e0 e1 e2 hr76 co gt => ?_)))))
 refine L_as (.slice ez e0 e1) rfl (L_nil (W_seq (W_reg (L_as (vi 0) rfl (L_as (vi 0) rfl (L_as (vi 0) rfl (L_nil (W_seq ?_))))))))
 refine W_seq (W_reg (L_as (vi 0) rfl (L_nil (W_block ?_))))
 obtain ⟨gu, gw, dr, H⟩ := H
 have gx := ((gn.sos ex ey).so _ e2 hr76)
 have gy := (gq.so _ e2 hr76)
 refine W_loop (α := (List Pt) × (Option Addr) × Nat × Nat × Int × Int × Int × Int) (fun (sv__ : (List Pt) × (Option Addr) × Nat × Nat × Int × Int × Int × Int) t a6 => match sv__ with | (xs2, aa, ac, ad, i2, j2, k2, at_2) => gu xs2 i2 j2 k2 at_2 ∧ Has t [(0, .slice A1 n2 c3), (1, .slice A6 n7 c8), (2, .slice an ao ap), (8, .slice ai bz b0), (9, .slice aj b1 b2), (10, .slice aa ac ad), (11, vi i2), (12, vi j2), (13, vi k2), (14, vi at_2)] ∧ Ct [] w0 a6 [bk aa, bk aj, bk ai] O ∧ Sl kPt a6 (Fr ([bk aa, bk aj, bk ai] ++ O)) (.slice A1 n2 c3) base_ ∧ Sl kPt a6 (Fr ([bk aa, bk aj, bk ai] ++ O)) (.slice A6 n7 c8) a ∧ Sl kPt a6 (Fr ([bk aa, bk aj, bk ai] ++ O)) (.slice an ao ap) b ∧ Ow kPair 186 a6 ([bk aa, bk aj, bk ai] ++ O) (.slice ai bz b0) r ∧ Ow kPair 186 a6 ([bk aa, bk aj, bk ai] ++ O) (.slice aj b1 b2) r2 ∧ Ow kPt 114 a6 ([bk aa, bk aj, bk ai] ++ O) (.slice aa ac ad) xs2) (fun (sv__ : (List Pt) × (Option Addr) × Nat × Nat × Int × Int × Int × Int) => match sv__ with | (xs2, _, _, _, i2, j2, k2, at_2) => gw xs2 i2 j2 k2 at_2) (([] : List Pt), ez, e0, e1, 0, 0, 0, 0) ⟨dr, (hasI rfl), co, (hp4.st co.st), (hp9.st co.st), (cm.st co.st), gx, gy, gt⟩ ?_
 rintro ⟨xs2, aa, ac, ad, i2, j2, k2, at_2⟩ _ a6 ⟨dr, gz, a7, a8, bb, bc, bd, be, bf⟩
 obtain ⟨m3, rfl⟩ := Has.ins gz
 have H := H xs2 i2 j2 k2 at_2 dr
 refine W_seq (W_seq (W_reg (L_mv (vi at_2) rfl (L_mv (.slice A1 n2 c3) rfl ?_))))
 have ab := a8.le
 refine L_pu (P_len Tryz.underlying56 A1 n2 c3 a8.len rfl) (L_pu (P_cmp at_2 (base_.length : Int) (decide (at_2 ≤ (base_.length : Int))) rfl rfl rfl) (L_nil ?_))
 refine W_cond (decide (at_2 ≤ (base_.length : Int))) rfl (fun ds => ?_) (fun ds => ?_)
 ·have H := ite_t H ds
  refine W_skip (W_seq (W_block (W_seq (W_reg (L_mv (.slice A6 n7 c8) rfl ?_)))))
  have ag := bb.le
  refine L_pu (P_len Tryz.underlying56 A6 n7 c8 bb.len rfl) (L_mv (.slice an ao ap) rfl ?_)
  have ah := bc.le
  refine L_pu (P_len Tryz.underlying56 an ao ap bc.len rfl) (L_as (vi (a.length : Int)) rfl (L_as (vi (b.length : Int)) rfl (L_nil (W_seq (W_seq (W_reg (L_mv (vi at_2) rfl (L_mv (.slice A1 n2 c3) rfl ?_))))))))
  refine L_pu (P_len Tryz.underlying56 A1 n2 c3 a8.len rfl) (L_pu (P_cmp at_2 (base_.length : Int) (decide (at_2 < (base_.length : Int))) rfl rfl rfl) (L_nil ?_))
  refine W_cond (decide (at_2 < (base_.length : Int))) rfl (fun ak => ?_) (fun ak => ?_)
  ·have H := ite_t H ak
   refine W_seq (W_reg (L_mv (.slice ai bz b0) rfl (L_mv (vi at_2) rfl ?_)))
   have g1 := a7.gv bd 2 rfl
   have g2 := a7.drop 2 rfl
   refine L_call go118 [.slice ai bz b0, vi at_2] rfl ((F66.calls a6 g2.ok r ai bz b0 g1 at_2 _ H).mono ?_)
   rintro _ g3 ⟨r3, rfl, H, ae⟩
   have b3 := a7.k0 ae
   refine L_mv (.slice aj b1 b2) rfl (L_mv (vi at_2) rfl ?_)
   have g4 := (be.sn ae)
   have g5 := b3.gv g4 1 rfl
   have g6 := b3.drop 1 rfl
   refine L_call go118 [.slice aj b1 b2, vi at_2] rfl ((F66.calls g3 g6.ok r2 aj b1 b2 g5 at_2 _ H).mono ?_)
   rintro _ g7 ⟨r4, rfl, H, af⟩
   have cp := b3.k0 af
   refine L_as (vi r3) rfl (L_as (vi r4) rfl (L_nil (W_seq (W_reg (L_mv (vi r3) rfl (L_pu (P_cmp r3 0 (decide (r3 < 0)) rfl rfl rfl) (L_mv (vb (decide (r3 < 0))) rfl ?_)))))))
   rcases bool_or (decide (r3 < 0)) with bg | bg
   ·have H := ite_t H bg
    refine L_pb bg rfl (L_pb bg rfl (L_pu (P_pick true (vb true) (by exact congrArg Value.bool bg) rfl) (L_nil (W_ct (b := true) rfl rfl ?_))))
    refine W_exit (xin_hit ?_)
    refine W_reg (L_mv (vi at_2) rfl ?_)
    obtain ⟨g8, H⟩ := H
    have g9 : I64 (at_2 + 1) := i64_succ (of_decide_eq_true ak) ab g8
    refine L_pu (P_add at_2 1 rfl rfl g9) (L_as (vi (at_2 + 1)) rfl (L_nil ?_))
    obtain ⟨ha, hb⟩ := H
    have dt := a7.stn ae
    have du := b3.stn af
    have hc := ((a8.st dt).st du)
    have hd := ((bb.st dt).st du)
    have he := ((bc.st dt).st du)
    have hf := ((bd.sn ae).sn af)
    have hg := ((be.sn ae).sn af)
    have hh := ((bf.sn ae).sn af)
    exact ⟨(xs2, aa, ac, ad, i2, j2, k2, at_2 + 1), hb, ha, (hasI rfl), cp, hc, hd, he, hf, hg, hh⟩
   have H := ite_f H bg
   refine L_rb bg rfl (L_mv (vi r4) rfl (L_rb bg rfl (L_pu (P_cmp r4 0 (decide (r4 < 0)) rfl rfl rfl) (L_pu (P_pick false (vb (decide (r4 < 0))) (by exact congrArg Value.bool bg) rfl) (L_nil ?_)))))
   refine W_cond (decide (r4 < 0)) rfl (fun dv => ?_) (fun dv => ?_)
   ·have H := ite_t H dv
    refine W_exit (xin_hit ?_)
    refine W_reg (L_mv (vi at_2) rfl ?_)
    obtain ⟨hi, H⟩ := H
    have hj : I64 (at_2 + 1) := i64_succ (of_decide_eq_true ak) ab hi
    refine L_pu (P_add at_2 1 rfl rfl hj) (L_as (vi (at_2 + 1)) rfl (L_nil ?_))
    obtain ⟨hk, hl⟩ := H
    have dw := a7.stn ae
    have dx := b3.stn af
    have hm := ((a8.st dw).st dx)
    have hn := ((bb.st dw).st dx)
    have ho := ((bc.st dw).st dx)
    have hp := ((bd.sn ae).sn af)
    have hq := ((be.sn ae).sn af)
    have hr := ((bf.sn ae).sn af)
    exact ⟨(xs2, aa, ac, ad, i2, j2, k2, at_2 + 1), hl, hk, (hasI rfl), cp, hm, hn, ho, hp, hq, hr⟩
   have H := ite_f H dv
   refine W_skip (W_seq (W_draw (fun x => Gr g7 x none) (by kernel_rfl) (by kernel_rfl) (Gr.drew _) ?_))
   refine Q_mv (.slice A1 n2 c3) rfl (Q_mv (vi i2) rfl (Q_mv (vi at_2) rfl ?_))
   obtain ⟨hs, H⟩ := H
   have dy := a7.stn ae
   have dz := b3.stn af
   have cq := ((a8.st dy).st dz)
   refine Q_cuts Tryz.underlying56 se56 A1 n2 c3 base_ rfl cq i2 at_2 rfl rfl hs fun bq br bs e3 => ?_
   refine Q_mv (.slice A6 n7 c8) rfl (Q_mv (vi j2) rfl (Q_mv (vi r3) rfl ?_))
   obtain ⟨ht, H⟩ := H
   have cr := ((bb.st dy).st dz)
   refine Q_cuts Tryz.underlying56 se56 A6 n7 c8 a rfl cr j2 r3 rfl rfl ht fun aw ax ay d0 => ?_
   refine Q_mv (.slice an ao ap) rfl (Q_mv (vi k2) rfl (Q_mv (vi r4) rfl ?_))
   obtain ⟨hu, H⟩ := H
   have cs := ((bc.st dy).st dz)
   refine Q_cuts Tryz.underlying56 se56 an ao ap b rfl cs k2 r4 rfl rfl hu fun bh bi bj e4 => ?_
   refine Q_as (.slice bq br bs) rfl (Q_as (.slice aw ax ay) rfl (Q_as (.slice bh bi bj) rfl (Q_nil fun hv az => ?_)))
   have ct := cp.k0 az
   refine W_seq (W_block (W_seq (W_reg (L_mv (.slice aw ax ay) rfl (L_mv (.slice bq br bs) rfl ?_)))))
   have al := cp.stn az
   refine L_call go101 [.slice aw ax ay, .slice bq br bs] rfl ((F15.calls hv ct.ok ((a.drop j2.toNat).take (r3.toNat - j2.toNat)) aw ax ay (d0.st al) ((base_.drop i2.toNat).take (at_2.toNat - i2.toNat)) bq br bs (e3.st al) _ H).mono ?_)
   rintro _ hw ⟨r5, rfl, H, aq⟩
   have bt := ct.k0 aq
   refine L_as (vb r5) rfl (L_nil ?_)
   refine W_cond r5 rfl (fun d1 => ?_) (fun d1 => ?_)
   ·have H := ite_t H d1
    refine W_reg (L_mv (.slice aa ac ad) rfl (L_mv (.slice bh bi bj) rfl ?_))
    have cu := ct.stn aq
    have hx := ((e4.st al).st cu)
    obtain ⟨hy, H⟩ := H
    have hz := ((((bf.sn ae).sn af).sn az).sn aq)
    refine L_app ei56 bt (.slice aa ac ad) xs2 ((b.drop k2.toNat).take (r4.toNat - k2.toNat)) rfl hz (.slice bh bi bj) rfl hx.sx 0 rfl hy fun m4 d2 d3 d4 e5 b6 e6 h0 => ?_
    refine L_as (.slice d2 d3 d4) rfl (L_nil (W_seq (W_seq (W_reg (L_mv (vi at_2) rfl (L_mv (.slice A1 n2 c3) rfl ?_))))))
    have cv := (((cq.st al).st cu).st b6)
    refine L_pu (P_len Tryz.underlying56 A1 n2 c3 cv.len rfl) (L_pu (P_cmp at_2 (base_.length : Int) (decide (at_2 < (base_.length : Int))) rfl rfl rfl) (L_nil (W_ct (b := decide (at_2 < (base_.length : Int))) rfl ak ?_)))
    refine W_reg (L_mv (.slice d2 d3 d4) rfl (L_mv (.slice A1 n2 c3) rfl (L_mv (vi at_2) rfl ?_)))
    obtain ⟨e7, H⟩ := H
    obtain ⟨e8, m5, h1, m6, h2, h3⟩ := cv.get default (by decide) at_2 e7
    obtain rfl := kPt.op h2
    refine L_pu (P_ia Tryz.underlying56 se56 A1 e8 n2 c3 cv.len at_2 rfl h1 rfl e7) (L_pu (P_lda ag114 sz114 cL (e8.add (at_2.toNat * 2)) [vi ((nth base_ at_2).X), vi ((nth base_ at_2).Y)] rfl rfl h3) (L_lit (kd := kPt) ei56 e6 ([(nth base_ at_2)] : List Pt) (cells := [vi ((nth base_ at_2).X), vi ((nth base_ at_2).Y)]) ⟨[vi ((nth base_ at_2).X), vi ((nth base_ at_2).Y)], _, rfl, (kPt.mk _ _ (nth base_ at_2)), rfl⟩ (fun _ => by kernel_rfl) fun m7 h4 h5 h6 cw hr247 d5 h7 => ?_))
    obtain ⟨h8, H⟩ := H
    have h9 := (h0.so _ cw hr247)
    refine L_app ei56 d5 (.slice d2 d3 d4) (xs2 ++ ((b.drop k2.toNat).take (r4.toNat - k2.toNat))) ([(nth base_ at_2)] : List Pt) rfl h9 (.slice h4 h5 h6) rfl h7.sx 1 rfl h8 fun m8 e9 fa fb fc b7 b8 ia => ?_
    refine L_as (.slice e9 fa fb) rfl (L_nil (W_reg (L_mv (vi at_2) rfl ?_)))
    obtain ⟨ib, H⟩ := H
    have ic : I64 (at_2 + 1) := i64_succ (of_decide_eq_true ak) ab ib
    refine L_pu (P_add at_2 1 rfl rfl ic) (L_mv (vi r3) rfl ?_)
    obtain ⟨id, H⟩ := H
    have ie := id (len_le ab) (len_le ag) (len_le ah)
    refine L_pu (P_add r3 1 rfl rfl ie) (L_mv (vi r4) rfl ?_)
    obtain ⟨ig, H⟩ := H
    have ih := ig (len_le ab) (len_le ag) (len_le ah)
    refine L_pu (P_add r4 1 rfl rfl ih) (L_as (vi (at_2 + 1)) rfl (L_as (vi (r3 + 1)) rfl (L_as (vi (r4 + 1)) rfl (L_nil (W_reg (L_mv (vi at_2) rfl ?_))))))
    obtain ⟨ii, H⟩ := H
    have ij : I64 (at_2 + 1) := i64_succ (of_decide_eq_true ak) ab ii
    refine L_pu (P_add at_2 1 rfl rfl ij) (L_as (vi (at_2 + 1)) rfl (L_nil ?_))
    have ik := b8.drop 0 rfl
    obtain ⟨il, im⟩ := H
    have d6 := e6.stown _ cw hr247
    have d7 := b8.std 0 rfl
    have io := (((cv.st d6).st b7).st d7)
    have ip := ((((((cr.st al).st cu).st b6).st d6).st b7).st d7)
    have iq := ((((((cs.st al).st cu).st b6).st d6).st b7).st d7)
    have ir := (b8.sd (d5.sm ((bt.sm ((((bd.sn ae).sn af).sn az).sn aq) 2 0 rfl rfl rfl e5 b6).so _ cw hr247) 3 1 rfl rfl rfl fc b7) 3 0 rfl rfl rfl)
    have it := (b8.sd (d5.sm ((bt.sm ((((be.sn ae).sn af).sn az).sn aq) 1 0 rfl rfl rfl e5 b6).so _ cw hr247) 2 1 rfl rfl rfl fc b7) 2 0 rfl rfl rfl)
    have iu := (b8.sd ia 1 0 rfl rfl rfl)
    exact ⟨(((xs2 ++ ((b.drop k2.toNat).take (r4.toNat - k2.toNat))) ++ ([(nth base_ at_2)] : List Pt)), e9, fa, fb, at_2 + 1, r3 + 1, r4 + 1, at_2 + 1), im, il, (hasI rfl), ik, io, ip, iq, ir, it, iu⟩
   have H := ite_f H d1
   refine W_seq (W_reg (L_mv (.slice bh bi bj) rfl (L_mv (.slice bq br bs) rfl ?_)))
   have a9 := ct.stn aq
   have fd := ((e4.st al).st a9)
   have iv := ((e3.st al).st a9)
   refine L_call go101 [.slice bh bi bj, .slice bq br bs] rfl ((F15.calls hw bt.ok ((b.drop k2.toNat).take (r4.toNat - k2.toNat)) bh bi bj fd ((base_.drop i2.toNat).take (at_2.toNat - i2.toNat)) bq br bs iv _ H).mono ?_)
   rintro _ iw ⟨r6, rfl, H, bl⟩
   have b4 := bt.k0 bl
   refine L_mv (vb r6) rfl ?_
   rcases bool_or r6 with a0 | a0
   ·have H := ite_t H a0
    refine L_pb a0 rfl (L_pb a0 rfl (L_pb a0 rfl (L_pu (P_pick true (vb true) (by exact congrArg Value.bool a0) rfl) (L_as (vb true) rfl (L_nil (W_ct (b := true) rfl rfl ?_))))))
    refine W_reg (L_mv (.slice aa ac ad) rfl (L_mv (.slice aw ax ay) rfl ?_))
    have cx := bt.stn bl
    have ix := (((d0.st al).st a9).st cx)
    obtain ⟨iy, H⟩ := H
    have iz := (((((bf.sn ae).sn af).sn az).sn aq).sn bl)
    refine L_app ei56 b4 (.slice aa ac ad) xs2 ((a.drop j2.toNat).take (r3.toNat - j2.toNat)) rfl iz (.slice aw ax ay) rfl ix.sx 0 rfl iy fun m9 d8 d9 ea fe b9 ff i0 => ?_
    refine L_as (.slice d8 d9 ea) rfl (L_nil (W_seq (W_seq (W_reg (L_mv (vi at_2) rfl (L_mv (.slice A1 n2 c3) rfl ?_))))))
    have cy := ((((cq.st al).st a9).st cx).st b9)
    refine L_pu (P_len Tryz.underlying56 A1 n2 c3 cy.len rfl) (L_pu (P_cmp at_2 (base_.length : Int) (decide (at_2 < (base_.length : Int))) rfl rfl rfl) (L_nil (W_ct (b := decide (at_2 < (base_.length : Int))) rfl ak ?_)))
    refine W_reg (L_mv (.slice d8 d9 ea) rfl (L_mv (.slice A1 n2 c3) rfl (L_mv (vi at_2) rfl ?_)))
    obtain ⟨fg, H⟩ := H
    obtain ⟨fh, na, i1, nb, i3, i4⟩ := cy.get default (by decide) at_2 fg
    obtain rfl := kPt.op i3
    refine L_pu (P_ia Tryz.underlying56 se56 A1 fh n2 c3 cy.len at_2 rfl i1 rfl fg) (L_pu (P_lda ag114 sz114 cL (fh.add (at_2.toNat * 2)) [vi ((nth base_ at_2).X), vi ((nth base_ at_2).Y)] rfl rfl i4) (L_lit (kd := kPt) ei56 ff ([(nth base_ at_2)] : List Pt) (cells := [vi ((nth base_ at_2).X), vi ((nth base_ at_2).Y)]) ⟨[vi ((nth base_ at_2).X), vi ((nth base_ at_2).Y)], _, rfl, (kPt.mk _ _ (nth base_ at_2)), rfl⟩ (fun _ => by kernel_rfl) fun nc i5 i6 i7 cz hr317 eb i8 => ?_))
    obtain ⟨i9, H⟩ := H
    have ja := (i0.so _ cz hr317)
    refine L_app ei56 eb (.slice d8 d9 ea) (xs2 ++ ((a.drop j2.toNat).take (r3.toNat - j2.toNat))) ([(nth base_ at_2)] : List Pt) rfl ja (.slice i5 i6 i7) rfl i8.sx 1 rfl i9 fun nd fi fj fk fl ca cb jb => ?_
    refine L_as (.slice fi fj fk) rfl (L_nil (W_reg (L_mv (vi at_2) rfl ?_)))
    obtain ⟨jc, H⟩ := H
    have jd : I64 (at_2 + 1) := i64_succ (of_decide_eq_true ak) ab jc
    refine L_pu (P_add at_2 1 rfl rfl jd) (L_mv (vi r3) rfl ?_)
    obtain ⟨je, H⟩ := H
    have jf := je (len_le ab) (len_le ag) (len_le ah)
    refine L_pu (P_add r3 1 rfl rfl jf) (L_mv (vi r4) rfl ?_)
    obtain ⟨jg, H⟩ := H
    have jh := jg (len_le ab) (len_le ag) (len_le ah)
    refine L_pu (P_add r4 1 rfl rfl jh) (L_as (vi (at_2 + 1)) rfl (L_as (vi (r3 + 1)) rfl (L_as (vi (r4 + 1)) rfl (L_nil (W_reg (L_mv (vi at_2) rfl ?_))))))
    obtain ⟨ji, H⟩ := H
    have jj : I64 (at_2 + 1) := i64_succ (of_decide_eq_true ak) ab ji
    refine L_pu (P_add at_2 1 rfl rfl jj) (L_as (vi (at_2 + 1)) rfl (L_nil ?_))
    have jk := cb.drop 0 rfl
    obtain ⟨jl, jm⟩ := H
    have ec := ff.stown _ cz hr317
    have ed := cb.std 0 rfl
    have jn := (((cy.st ec).st ca).st ed)
    have jo := (((((((cr.st al).st a9).st cx).st b9).st ec).st ca).st ed)
    have jp := (((((((cs.st al).st a9).st cx).st b9).st ec).st ca).st ed)
    have jq := (cb.sd (eb.sm ((b4.sm (((((bd.sn ae).sn af).sn az).sn aq).sn bl) 2 0 rfl rfl rfl fe b9).so _ cz hr317) 3 1 rfl rfl rfl fl ca) 3 0 rfl rfl rfl)
    have jr := (cb.sd (eb.sm ((b4.sm (((((be.sn ae).sn af).sn az).sn aq).sn bl) 1 0 rfl rfl rfl fe b9).so _ cz hr317) 2 1 rfl rfl rfl fl ca) 2 0 rfl rfl rfl)
    have js := (cb.sd jb 1 0 rfl rfl rfl)
    exact ⟨(((xs2 ++ ((a.drop j2.toNat).take (r3.toNat - j2.toNat))) ++ ([(nth base_ at_2)] : List Pt)), fi, fj, fk, at_2 + 1, r3 + 1, r4 + 1, at_2 + 1), jm, jl, (hasI rfl), jk, jn, jo, jp, jq, jr, js⟩
   have H := ite_f H a0
   refine L_rb a0 rfl (L_mv (.slice aw ax ay) rfl (L_rb a0 rfl (L_mv (.slice bh bi bj) rfl (L_rb a0 rfl ?_))))
   have cc := bt.stn bl
   have fm := (((d0.st al).st a9).st cc)
   refine L_call go101 [.slice aw ax ay, .slice bh bi bj] rfl ((F15.calls iw b4.ok ((a.drop j2.toNat).take (r3.toNat - j2.toNat)) aw ax ay fm ((b.drop k2.toNat).take (r4.toNat - k2.toNat)) bh bi bj (fd.st cc) _ H).mono ?_)
   rintro _ ne ⟨r7, rfl, H, cd⟩
   have c1 := b4.k0 cd
   refine L_pu (P_pick false (vb r7) (by exact congrArg Value.bool a0) rfl) (L_as (vb r7) rfl (L_nil ?_))
   refine W_cond r7 rfl (fun ee => ?_) (fun ee => ?_)
   ·have H := ite_t H ee
    refine W_reg (L_mv (.slice aa ac ad) rfl (L_mv (.slice aw ax ay) rfl ?_))
    have c2 := b4.stn cd
    obtain ⟨jt, H⟩ := H
    have ju := ((((((bf.sn ae).sn af).sn az).sn aq).sn bl).sn cd)
    refine L_app ei56 c1 (.slice aa ac ad) xs2 ((a.drop j2.toNat).take (r3.toNat - j2.toNat)) rfl ju (.slice aw ax ay) rfl (fm.st c2).sx 0 rfl jt fun nf ef eg eh fn ce fo jv => ?_
    refine L_as (.slice ef eg eh) rfl (L_nil (W_seq (W_seq (W_reg (L_mv (vi at_2) rfl (L_mv (.slice A1 n2 c3) rfl ?_))))))
    have c4 := (((((cq.st al).st a9).st cc).st c2).st ce)
    refine L_pu (P_len Tryz.underlying56 A1 n2 c3 c4.len rfl) (L_pu (P_cmp at_2 (base_.length : Int) (decide (at_2 < (base_.length : Int))) rfl rfl rfl) (L_nil (W_ct (b := decide (at_2 < (base_.length : Int))) rfl ak ?_)))
    refine W_reg (L_mv (.slice ef eg eh) rfl (L_mv (.slice A1 n2 c3) rfl (L_mv (vi at_2) rfl ?_)))
    obtain ⟨fp, H⟩ := H
    obtain ⟨fq, ng, jw, nh, jx, jy⟩ := c4.get default (by decide) at_2 fp
    obtain rfl := kPt.op jx
    refine L_pu (P_ia Tryz.underlying56 se56 A1 fq n2 c3 c4.len at_2 rfl jw rfl fp) (L_pu (P_lda ag114 sz114 cL (fq.add (at_2.toNat * 2)) [vi ((nth base_ at_2).X), vi ((nth base_ at_2).Y)] rfl rfl jy) (L_lit (kd := kPt) ei56 fo ([(nth base_ at_2)] : List Pt) (cells := [vi ((nth base_ at_2).X), vi ((nth base_ at_2).Y)]) ⟨[vi ((nth base_ at_2).X), vi ((nth base_ at_2).Y)], _, rfl, (kPt.mk _ _ (nth base_ at_2)), rfl⟩ (fun _ => by kernel_rfl) fun ni jz j0 j1 c5 hr385 ei j3 => ?_))
    obtain ⟨j4, H⟩ := H
    have j5 := (jv.so _ c5 hr385)
    refine L_app ei56 ei (.slice ef eg eh) (xs2 ++ ((a.drop j2.toNat).take (r3.toNat - j2.toNat))) ([(nth base_ at_2)] : List Pt) rfl j5 (.slice jz j0 j1) rfl j3.sx 1 rfl j4 fun nj fr fs ft fu cf cg j6 => ?_
    refine L_as (.slice fr fs ft) rfl (L_nil (W_reg (L_mv (vi at_2) rfl ?_)))
    obtain ⟨j7, H⟩ := H
    have j8 : I64 (at_2 + 1) := i64_succ (of_decide_eq_true ak) ab j7
    refine L_pu (P_add at_2 1 rfl rfl j8) (L_mv (vi r3) rfl ?_)
    obtain ⟨j9, H⟩ := H
    have ka := j9 (len_le ab) (len_le ag) (len_le ah)
    refine L_pu (P_add r3 1 rfl rfl ka) (L_mv (vi r4) rfl ?_)
    obtain ⟨kb, H⟩ := H
    have kc := kb (len_le ab) (len_le ag) (len_le ah)
    refine L_pu (P_add r4 1 rfl rfl kc) (L_as (vi (at_2 + 1)) rfl (L_as (vi (r3 + 1)) rfl (L_as (vi (r4 + 1)) rfl (L_nil (W_reg (L_mv (vi at_2) rfl ?_))))))
    obtain ⟨ke, H⟩ := H
    have kf : I64 (at_2 + 1) := i64_succ (of_decide_eq_true ak) ab ke
    refine L_pu (P_add at_2 1 rfl rfl kf) (L_as (vi (at_2 + 1)) rfl (L_nil ?_))
    have kg := cg.drop 0 rfl
    obtain ⟨kh, ki⟩ := H
    have ej := fo.stown _ c5 hr385
    have ek := cg.std 0 rfl
    have kj := (((c4.st ej).st cf).st ek)
    have kk := ((((((((cr.st al).st a9).st cc).st c2).st ce).st ej).st cf).st ek)
    have kl := ((((((((cs.st al).st a9).st cc).st c2).st ce).st ej).st cf).st ek)
    have km := (cg.sd (ei.sm ((c1.sm ((((((bd.sn ae).sn af).sn az).sn aq).sn bl).sn cd) 2 0 rfl rfl rfl fn ce).so _ c5 hr385) 3 1 rfl rfl rfl fu cf) 3 0 rfl rfl rfl)
    have kn := (cg.sd (ei.sm ((c1.sm ((((((be.sn ae).sn af).sn az).sn aq).sn bl).sn cd) 1 0 rfl rfl rfl fn ce).so _ c5 hr385) 2 1 rfl rfl rfl fu cf) 2 0 rfl rfl rfl)
    have ko := (cg.sd j6 1 0 rfl rfl rfl)
    exact ⟨(((xs2 ++ ((a.drop j2.toNat).take (r3.toNat - j2.toNat))) ++ ([(nth base_ at_2)] : List Pt)), fr, fs, ft, at_2 + 1, r3 + 1, r4 + 1, at_2 + 1), ki, kh, (hasI rfl), kg, kj, kk, kl, km, kn, ko⟩
   have H := ite_f H ee
   refine W_seq ?_
   have kp : ([bk aa, bk aj, bk ai] : Ob).Perm ((bk aa :: bk aj :: bk ai :: []) ++ []) := (pc fun a => by (try simp only [pca, pcc, pcn, Nat.add_zero, Nat.zero_add]); first | done | ac_rfl)
   have kq := c1.drops kp
   refine W_reg (L_lit (kd := kPt) ei56 kq ([] : List Pt) (cells := []) rfl (fun _ => by kernel_rfl) fun nk el em en nl hr426 eo kr => ?_)
   exact L_as (.slice el em en) rfl (L_as (vb false) rfl (L_nil (W_ret ⟨[.slice el em en, vb false], ⟨_, rfl, ⟨_, rfl, rfl⟩⟩, ([] : List Pt), false, el, em, en, rfl, H, eo.gr.g0, eo.ok, eo.ge, kr⟩)))
  have H := ite_f H ak
  refine W_skip (W_seq (W_draw (fun x => Gr a6 x none) (by kernel_rfl) (by kernel_rfl) (Gr.drew _) ?_))
  refine Q_mv (.slice A1 n2 c3) rfl (Q_mv (vi i2) rfl (Q_mv (vi at_2) rfl ?_))
  obtain ⟨ks, H⟩ := H
  refine Q_cuts Tryz.underlying56 se56 A1 n2 c3 base_ rfl a8 i2 at_2 rfl rfl ks fun bu bv bw fv => ?_
  refine Q_mv (.slice A6 n7 c8) rfl (Q_mv (vi j2) rfl (Q_mv (vi (a.length : Int)) rfl ?_))
  obtain ⟨kt, H⟩ := H
  refine Q_cuts Tryz.underlying56 se56 A6 n7 c8 a rfl bb j2 (a.length : Int) rfl rfl kt fun a1 a2 a3 ep => ?_
  refine Q_mv (.slice an ao ap) rfl (Q_mv (vi k2) rfl (Q_mv (vi (b.length : Int)) rfl ?_))
  obtain ⟨ku, H⟩ := H
  refine Q_cuts Tryz.underlying56 se56 an ao ap b rfl bc k2 (b.length : Int) rfl rfl ku fun bm bn bo fw => ?_
  refine Q_as (.slice bu bv bw) rfl (Q_as (.slice a1 a2 a3) rfl (Q_as (.slice bm bn bo) rfl (Q_nil fun kv a4 => ?_)))
  have c6 := a7.k0 a4
  refine W_seq (W_block (W_seq (W_reg (L_mv (.slice a1 a2 a3) rfl (L_mv (.slice bu bv bw) rfl ?_)))))
  have am := a7.stn a4
  refine L_call go101 [.slice a1 a2 a3, .slice bu bv bw] rfl ((F15.calls kv c6.ok ((a.drop j2.toNat).take ((a.length : Int).toNat - j2.toNat)) a1 a2 a3 (ep.st am) ((base_.drop i2.toNat).take (at_2.toNat - i2.toNat)) bu bv bw (fv.st am) _ H).mono ?_)
  rintro _ kx ⟨r8, rfl, H, ar⟩
  have bx := c6.k0 ar
  refine L_as (vb r8) rfl (L_nil ?_)
  refine W_cond r8 rfl (fun eq => ?_) (fun eq => ?_)
  ·have H := ite_t H eq
   refine W_reg (L_mv (.slice aa ac ad) rfl (L_mv (.slice bm bn bo) rfl ?_))
   have c7 := c6.stn ar
   have ky := ((fw.st am).st c7)
   obtain ⟨kz, H⟩ := H
   have k1 := ((bf.sn a4).sn ar)
   refine L_app ei56 bx (.slice aa ac ad) xs2 ((b.drop k2.toNat).take ((b.length : Int).toNat - k2.toNat)) rfl k1 (.slice bm bn bo) rfl ky.sx 0 rfl kz fun nm fx fy fz f0 ch k3 k4 => ?_
   refine L_as (.slice fx fy fz) rfl (L_nil (W_seq (W_seq (W_reg (L_mv (vi at_2) rfl (L_mv (.slice A1 n2 c3) rfl ?_))))))
   have f1 := (((a8.st am).st c7).st ch)
   refine L_pu (P_len Tryz.underlying56 A1 n2 c3 f1.len rfl) (L_pu (P_cmp at_2 (base_.length : Int) (decide (at_2 < (base_.length : Int))) rfl rfl rfl) (L_nil (W_cf (b := decide (at_2 < (base_.length : Int))) rfl ak ?_)))
   refine W_skip (W_reg (L_mv (vi at_2) rfl ?_))
   obtain ⟨k5, H⟩ := H
   have k6 := k5 (len_le ab) (len_le ag) (len_le ah)
   refine L_pu (P_add at_2 1 rfl rfl k6) (L_mv (vi (a.length : Int)) rfl ?_)
   obtain ⟨k7, H⟩ := H
   have k8 := k7 (len_le ab) (len_le ag) (len_le ah)
   refine L_pu (P_add (a.length : Int) 1 rfl rfl k8) (L_mv (vi (b.length : Int)) rfl ?_)
   obtain ⟨k9, H⟩ := H
   have la := k9 (len_le ab) (len_le ag) (len_le ah)
   refine L_pu (P_add (b.length : Int) 1 rfl rfl la) (L_as (vi (at_2 + 1)) rfl (L_as (vi ((a.length : Int) + 1)) rfl (L_as (vi ((b.length : Int) + 1)) rfl (L_nil (W_reg (L_mv (vi at_2) rfl ?_))))))
   obtain ⟨lb, H⟩ := H
   have lc := lb (len_le ab) (len_le ag) (len_le ah)
   refine L_pu (P_add at_2 1 rfl rfl lc) (L_as (vi (at_2 + 1)) rfl (L_nil ?_))
   obtain ⟨ld, lf⟩ := H
   have lg := (((bb.st am).st c7).st ch)
   have lh := (((bc.st am).st c7).st ch)
   have li := (bx.sm ((bd.sn a4).sn ar) 2 0 rfl rfl rfl f0 ch)
   have lj := (bx.sm ((be.sn a4).sn ar) 1 0 rfl rfl rfl f0 ch)
   exact ⟨((xs2 ++ ((b.drop k2.toNat).take ((b.length : Int).toNat - k2.toNat))), fx, fy, fz, at_2 + 1, (a.length : Int) + 1, (b.length : Int) + 1, at_2 + 1), lf, ld, (hasI rfl), k3, f1, lg, lh, li, lj, k4⟩
  have H := ite_f H eq
  refine W_seq (W_reg (L_mv (.slice bm bn bo) rfl (L_mv (.slice bu bv bw) rfl ?_)))
  have ba := c6.stn ar
  have f2 := ((fw.st am).st ba)
  have lk := ((fv.st am).st ba)
  refine L_call go101 [.slice bm bn bo, .slice bu bv bw] rfl ((F15.calls kx bx.ok ((b.drop k2.toNat).take ((b.length : Int).toNat - k2.toNat)) bm bn bo f2 ((base_.drop i2.toNat).take (at_2.toNat - i2.toNat)) bu bv bw lk _ H).mono ?_)
  rintro _ ll ⟨r9, rfl, H, bp⟩
  have b5 := bx.k0 bp
  refine L_mv (vb r9) rfl ?_
  rcases bool_or r9 with a5 | a5
  ·have H := ite_t H a5
   refine L_pb a5 rfl (L_pb a5 rfl (L_pb a5 rfl (L_pu (P_pick true (vb true) (by exact congrArg Value.bool a5) rfl) (L_as (vb true) rfl (L_nil (W_ct (b := true) rfl rfl ?_))))))
   refine W_reg (L_mv (.slice aa ac ad) rfl (L_mv (.slice a1 a2 a3) rfl ?_))
   have c9 := bx.stn bp
   have lm := (((ep.st am).st ba).st c9)
   obtain ⟨ln, H⟩ := H
   have lo := (((bf.sn a4).sn ar).sn bp)
   refine L_app ei56 b5 (.slice aa ac ad) xs2 ((a.drop j2.toNat).take ((a.length : Int).toNat - j2.toNat)) rfl lo (.slice a1 a2 a3) rfl lm.sx 0 rfl ln fun nn f3 f4 f5 f6 ci lp lq => ?_
   refine L_as (.slice f3 f4 f5) rfl (L_nil (W_seq (W_seq (W_reg (L_mv (vi at_2) rfl (L_mv (.slice A1 n2 c3) rfl ?_))))))
   have f7 := ((((a8.st am).st ba).st c9).st ci)
   refine L_pu (P_len Tryz.underlying56 A1 n2 c3 f7.len rfl) (L_pu (P_cmp at_2 (base_.length : Int) (decide (at_2 < (base_.length : Int))) rfl rfl rfl) (L_nil (W_cf (b := decide (at_2 < (base_.length : Int))) rfl ak ?_)))
   refine W_skip (W_reg (L_mv (vi at_2) rfl ?_))
   obtain ⟨lr, H⟩ := H
   have ls := lr (len_le ab) (len_le ag) (len_le ah)
   refine L_pu (P_add at_2 1 rfl rfl ls) (L_mv (vi (a.length : Int)) rfl ?_)
   obtain ⟨lt, H⟩ := H
   have lu := lt (len_le ab) (len_le ag) (len_le ah)
   refine L_pu (P_add (a.length : Int) 1 rfl rfl lu) (L_mv (vi (b.length : Int)) rfl ?_)
   obtain ⟨lv, H⟩ := H
   have lw := lv (len_le ab) (len_le ag) (len_le ah)
   refine L_pu (P_add (b.length : Int) 1 rfl rfl lw) (L_as (vi (at_2 + 1)) rfl (L_as (vi ((a.length : Int) + 1)) rfl (L_as (vi ((b.length : Int) + 1)) rfl (L_nil (W_reg (L_mv (vi at_2) rfl ?_))))))
   obtain ⟨lx, H⟩ := H
   have ly := lx (len_le ab) (len_le ag) (len_le ah)
   refine L_pu (P_add at_2 1 rfl rfl ly) (L_as (vi (at_2 + 1)) rfl (L_nil ?_))
   obtain ⟨lz, l0⟩ := H
   have l1 := ((((bb.st am).st ba).st c9).st ci)
   have l2 := ((((bc.st am).st ba).st c9).st ci)
   have l3 := (b5.sm (((bd.sn a4).sn ar).sn bp) 2 0 rfl rfl rfl f6 ci)
   have l4 := (b5.sm (((be.sn a4).sn ar).sn bp) 1 0 rfl rfl rfl f6 ci)
   exact ⟨((xs2 ++ ((a.drop j2.toNat).take ((a.length : Int).toNat - j2.toNat))), f3, f4, f5, at_2 + 1, (a.length : Int) + 1, (b.length : Int) + 1, at_2 + 1), l0, lz, (hasI rfl), lp, f7, l1, l2, l3, l4, lq⟩
  have H := ite_f H a5
  refine L_rb a5 rfl (L_mv (.slice a1 a2 a3) rfl (L_rb a5 rfl (L_mv (.slice bm bn bo) rfl (L_rb a5 rfl ?_))))
  have cj := bx.stn bp
  have f8 := (((ep.st am).st ba).st cj)
  refine L_call go101 [.slice a1 a2 a3, .slice bm bn bo] rfl ((F15.calls ll b5.ok ((a.drop j2.toNat).take ((a.length : Int).toNat - j2.toNat)) a1 a2 a3 f8 ((b.drop k2.toNat).take ((b.length : Int).toNat - k2.toNat)) bm bn bo (f2.st cj) _ H).mono ?_)
  rintro _ no ⟨r10, rfl, H, ck⟩
  have da := b5.k0 ck
  refine L_pu (P_pick false (vb r10) (by exact congrArg Value.bool a5) rfl) (L_as (vb r10) rfl (L_nil ?_))
  refine W_cond r10 rfl (fun er => ?_) (fun er => ?_)
  ·have H := ite_t H er
   refine W_reg (L_mv (.slice aa ac ad) rfl (L_mv (.slice a1 a2 a3) rfl ?_))
   have db := b5.stn ck
   obtain ⟨l5, H⟩ := H
   have l6 := ((((bf.sn a4).sn ar).sn bp).sn ck)
   refine L_app ei56 da (.slice aa ac ad) xs2 ((a.drop j2.toNat).take ((a.length : Int).toNat - j2.toNat)) rfl l6 (.slice a1 a2 a3) rfl (f8.st db).sx 0 rfl l5 fun np f9 ga gb gc cl l7 l8 => ?_
   refine L_as (.slice f9 ga gb) rfl (L_nil (W_seq (W_seq (W_reg (L_mv (vi at_2) rfl (L_mv (.slice A1 n2 c3) rfl ?_))))))
   have gd := (((((a8.st am).st ba).st cj).st db).st cl)
   refine L_pu (P_len Tryz.underlying56 A1 n2 c3 gd.len rfl) (L_pu (P_cmp at_2 (base_.length : Int) (decide (at_2 < (base_.length : Int))) rfl rfl rfl) (L_nil (W_cf (b := decide (at_2 < (base_.length : Int))) rfl ak ?_)))
   refine W_skip (W_reg (L_mv (vi at_2) rfl ?_))
   obtain ⟨l9, H⟩ := H
   have ma := l9 (len_le ab) (len_le ag) (len_le ah)
   refine L_pu (P_add at_2 1 rfl rfl ma) (L_mv (vi (a.length : Int)) rfl ?_)
   obtain ⟨mb, H⟩ := H
   have mc := mb (len_le ab) (len_le ag) (len_le ah)
   refine L_pu (P_add (a.length : Int) 1 rfl rfl mc) (L_mv (vi (b.length : Int)) rfl ?_)
   obtain ⟨md, H⟩ := H
   have me := md (len_le ab) (len_le ag) (len_le ah)
   refine L_pu (P_add (b.length : Int) 1 rfl rfl me) (L_as (vi (at_2 + 1)) rfl (L_as (vi ((a.length : Int) + 1)) rfl (L_as (vi ((b.length : Int) + 1)) rfl (L_nil (W_reg (L_mv (vi at_2) rfl ?_))))))
   obtain ⟨mf, H⟩ := H
   have mg := mf (len_le ab) (len_le ag) (len_le ah)
   refine L_pu (P_add at_2 1 rfl rfl mg) (L_as (vi (at_2 + 1)) rfl (L_nil ?_))
   obtain ⟨mh, mi⟩ := H
   have mj := (((((bb.st am).st ba).st cj).st db).st cl)
   have ml := (((((bc.st am).st ba).st cj).st db).st cl)
   have mm := (da.sm ((((bd.sn a4).sn ar).sn bp).sn ck) 2 0 rfl rfl rfl gc cl)
   have mn := (da.sm ((((be.sn a4).sn ar).sn bp).sn ck) 1 0 rfl rfl rfl gc cl)
   exact ⟨((xs2 ++ ((a.drop j2.toNat).take ((a.length : Int).toNat - j2.toNat))), f9, ga, gb, at_2 + 1, (a.length : Int) + 1, (b.length : Int) + 1, at_2 + 1), mi, mh, (hasI rfl), l7, gd, mj, ml, mm, mn, l8⟩
  have H := ite_f H er
  refine W_seq ?_
  have mo : ([bk aa, bk aj, bk ai] : Ob).Perm ((bk aa :: bk aj :: bk ai :: []) ++ []) := (pc fun a => by (try simp only [pca, pcc, pcn, Nat.add_zero, Nat.zero_add]); first | done | ac_rfl)
  have mp := da.drops mo
  refine W_reg (L_lit (kd := kPt) ei56 mp ([] : List Pt) (cells := []) rfl (fun _ => by kernel_rfl) fun nq es et eu nr hr569 ev mq => ?_)
  exact L_as (.slice es et eu) rfl (L_as (vb false) rfl (L_nil (W_ret ⟨[.slice es et eu, vb false], ⟨_, rfl, ⟨_, rfl, rfl⟩⟩, ([] : List Pt), false, es, et, eu, rfl, H, ev.gr.g0, ev.ok, ev.ge, mq⟩)))
 have H := ite_f H ds
 refine W_exit (xin_hit ?_)
 refine W_seq (W_reg (L_mv (.slice aa ac ad) rfl (L_as (.slice aa ac ad) rfl (L_as (vb true) rfl (L_nil (W_ret ?_))))))
 have gf := a7.drop 1 rfl
 have ew := gf.drop 1 rfl
 have mr := (gf.sd (a7.sd bf 0 1 rfl rfl rfl) 0 1 rfl rfl rfl)
 exact ⟨[.slice aa ac ad, vb true], ⟨_, rfl, ⟨_, rfl, rfl⟩⟩, xs2, true, aa, ac, ad, rfl, H, ew.gr.g0, ew.ok, ew.ge, mr⟩
end
section
open Go.RowKit
section
variable {P : Program} {n : Nat} {N R : Ps} {X : Nat → Ps} {t : Tm} {w : World} {ops : Array Oper} {rest : List Oper} {ty : TypeId} {pos : String} {aft : Array Edge} {x y : Operand} {d : Nat} {C : World → Prop}
theorem P_capn {T e : TypeId} (hu : P.underlying T = some (.slice e)) (hx : evt n t x = .slice none 0 0) : Pu P n t C ⟨some d, .call ⟨.builtin .cap, #[x], #[T]⟩, ty, pos, aft, none⟩ (vi 0) := fun w hw => by
  simp [execOp, resolve, hx, invoke, builtin, Builtin.cap_, run_underlying hu]; rfl
theorem P_cutn {T e : TypeId} {s : Nat} (hu : P.underlying T = some (.slice e)) (hs : SizeOf P e s) {lo hi : Option Operand} (hx : evt n t x = .slice none 0 0) (hlo : bound n t lo 0 0) (hhi : bound n t hi ((0 : Nat) : Int) 0) :
    Pu P n t C ⟨some d, .slice T x lo hi none, ty, pos, aft, none⟩ (.slice none 0 0) := by
  have h := P_cut (C := C) (d := d) (ty := ty) (pos := pos) (aft := aft) hu hs none 0 0 hx 0 0 hlo hhi ⟨Int.le_refl _, Int.le_refl _, Int.le_refl _⟩
  rw [show (0 : Int).toNat = 0 from rfl, sliced0] at h
  exact h
theorem run_append_zeros (T U e : TypeId) (i : TypeInfo) (z : Value) (k : IntKind) (ht : P.underlying T = some (.slice e)) (hu : P.underlying U = some (.int k)) (hi : P.info? e = some i) (hz : i.zero = some z) (m : Nat) (h0 : 0 < m) (hm : (m : Int) ≤ 268435456) (hb : i.bytes ≤ 524288) (hsz : 0 < i.size) :
    (Builtin.append_ #[T, U] ty #[.slice none 0 0, vi (m : Int)]).run P w = .ok (.slice (some ⟨w.heap.size, 0, none⟩) m (grownCap w m 0 e)) (w.drew.alloc (.cells (Builtin.zeroCells z.cells m ++ Builtin.zeroCells z.cells (grownCap w m 0 e - m)) e)) := by
  have hw : I64 (m : Int) := by unfold I64; omega
  have hn : m ≠ 0 := by omega
  have h1 : ¬ ((m : Int) < 0) := by omega
  have hmul : m * i.bytes ≤ 140737488355328 := Nat.le_trans (Nat.mul_le_mul (show m ≤ 268435456 by omega) hb) (by omega)
  have h2 : ¬ ((281474976710656 : Int) < (m : Int) * (i.bytes : Int)) := by
    have : ((m * i.bytes : Nat) : Int) ≤ 140737488355328 := by omega
    rw [Int.natCast_mul] at this; omega
  have h63' : ¬ (9223372036854775807 < (m : Int)) := by omega
  have h48' : ¬ (281474976710656 < Builtin.nextslicecap m 0 * i.bytes) := by rw [nextslicecap_zero h0]; omega
  have hms : ¬ (m * i.size = 0) := by have := Nat.mul_pos h0 hsz; omega
  have hms2 : ¬ i.size = 0 := by omega
  simp [Builtin.append_, run_underlying ht, run_underlying hu, sizeOf, typeInfo, zeroValue, hi, hz, hn, h1, h2, h63', h48', hms2, Question.forced, run_firstCells_none, newRow, grownCap, hw.wrap, asInt, asIntOf]
  intro h; exact absurd h hms
theorem zero_list (zc : List Value) (hpos : 0 < zc.length) (m : Nat) : (Builtin.zeroCells zc.toArray m).toList = (List.replicate m zc).flatten := by
  have := made_list zc hpos m
  rw [← this]
  simp only [Builtin.zeroCells, madeCells, List.size_toArray]
theorem L_appz {T U e : TypeId} {k0 : IntKind} {bytes : Nat} {zc : List Value} {α : Type} {kd : Kd α} (E : EI P T e kd.sz bytes zc) (hU : P.underlying U = some (.int k0)) {O M : Ob} {w0 : World} {mr : Ob} (hC : Ct mr w0 w M O) (z : α) (hz : kd.R w (Fr (M ++ O)) z zc) (m : Int) (hx : evt n t x = .slice none 0 0) (hy : evt n t y = vi m) (hm : 0 < m ∧ m ≤ 268435456)
    (k : ∀ w' A l c, Gr w w' none → (∀ b, bk A = some b → w.heap.size ≤ b) → Ct mr w0 w' (bk A :: M) O →
      Ow kd e w' (bk A :: M ++ O) (.slice A l c) (List.replicate m.toNat z) → L P n ops N R X rest (upd d (.slice A l c) t) w') :
    L P n ops N R X (⟨some d, .call ⟨.builtin .append, #[x, y], #[T, U]⟩, ty, pos, aft, none⟩ :: rest) t w := by
  obtain ⟨ti, zv, hti, hzv, hsz, hb, hzc⟩ := E.inf
  have hbb := E.byt
  have hmn : ((m.toNat : Nat) : Int) = m := by omega
  have hr := run_append_zeros (P := P) (w := w) (ty := ty) T U e ti zv k0 E.un hU hti hzv m.toNat (by omega) (by omega) (by omega) (by rw [hsz]; exact E.pos)
  rw [hmn] at hr
  have hzl : zv.cells = zc.toArray := by rw [← hzc]
  have hpos : 0 < zc.length := by rw [E.len]; exact E.pos
  have harr := Arr.rep (w := w) z zc hz m.toNat
  have hal := harr.len
  rw [List.length_replicate] at hal
  have g : Gr w (w.drew.alloc (.cells (Builtin.zeroCells zv.cells m.toNat ++ Builtin.zeroCells zv.cells (grownCap w m.toNat 0 e - m.toNat)) e)) none := (Gr.drew w).t0 (Gr.alloc _ _)
  have hge := grownCap_ge w m.toNat 0 e
  have hle := grownCap_le_maxLen w m.toNat 0 e (by unfold maxLen; omega)
  have e1 : (Builtin.zeroCells zv.cells m.toNat).toList = (List.replicate m.toNat zc).flatten := by rw [hzl]; exact zero_list zc hpos _
  have e2 : (Builtin.zeroCells zv.cells (grownCap w m.toNat 0 e - m.toNat)).size = (grownCap w m.toNat 0 e - m.toNat) * kd.sz := by simp only [Builtin.zeroCells, Array.size_map, Array.size_range]; rw [hzl, List.size_toArray, E.len]
  have e3 : (Builtin.zeroCells zv.cells m.toNat).size = m.toNat * kd.sz := by simp only [Builtin.zeroCells, Array.size_map, Array.size_range]; rw [hzl, List.size_toArray, E.len]
  refine L_op rfl (.slice (some ⟨w.heap.size, 0, none⟩) (List.replicate m.toNat z).length (grownCap w m.toNat 0 e)) _ (by rw [List.length_replicate]; simp [execOp, resolve, hx, hy, invoke, builtin, hr]) (k _ (some ⟨w.heap.size, 0, none⟩) _ _ g (fun b e => by cases e; exact Nat.le_refl _)
    (hC.own g _ fun b e => by cases e; simp) ⟨(List.replicate m.toNat zc).flatten, ?_, ?_, fun b e => by rw [← e]; exact List.mem_cons_self⟩)
  · rw [List.length_replicate]
    refine ⟨by rw [hal], .inr ⟨w.heap.size, grownCap w m.toNat 0 e, _, rfl, Nat.zero_le _, heap_alloc_new w.drew _, hge, hle, ?_, ?_⟩⟩
    · rw [Array.size_append, e2, e3, ← Nat.add_mul]; congr 1; omega
    · rw [Array.toList_append, e1, List.take_left']
      rw [hal]
  · exact (harr.mono fun b hS hb => (⟨hS, hb⟩ : some b ∉ M ++ O ∧ b < w.heap.size)).keep (fun b hS hb => g.block b hb (by simp)) |>.mono fun b hS _ hm => by
      rcases List.mem_cons.1 hm with e' | hm
      · cases e'; exact absurd hS.2 (Nat.lt_irrefl _)
      · exact hS.1 hm
end
end
section
open Go.RowKit
def F18.E (n : Int) (Q : List Tag → Prop) : Prop :=
 (if decide (n < 0) then False else (I64 (0 - 0)) ∧ (I64 (n - (0 - 0))) ∧ (if decide (n - (0 - 0) > 0) then ((0 : Int) < n - (0 - 0) ∧ n - (0 - 0) ≤ (268435456 : Int)) ∧ ((0 : Int) ≤ 0 ∧ 0 ≤ ((List.replicate (n - (0 - 0)).toNat ((⟨([] : Str), ([] : Str)⟩ : Tag) : Tag)).length : Int)) ∧ Q ((List.replicate (n - (0 - 0)).toNat ((⟨([] : Str), ([] : Str)⟩ : Tag) : Tag)).take (0 : Int).toNat) else Q ([] : List Tag)))
theorem F18.calls {O : Ob} (w0 : World) (hO : Ok w0 O) (n : Int) (Q : List Tag → Prop) (h : F18.E n Q) :
  Ret Tryz.prog 120 [.slice none 0 0, vi n] w0 (fun v w' => ∃ (r0 : List Tag) (A0 : Option Addr) (n0 c0 : Nat), v = .slice A0 n0 c0 ∧ Q r0 ∧ Gr w0 w' none ∧ Ok w' ([bk A0] ++ O) ∧ (∀ b, some b ∈ [bk A0] → w0.heap.size ≤ b) ∧ Ow kTag 106 w' ([bk A0] ++ O) (.slice A0 n0 c0) r0) := by
 unfold F18.E at h
 have H := h
 clear h
 have hc0 := Ct.init hO
 refine Ret_enter Tryz.func120 rfl 27 rfl [.tmp 4] rfl rfl ?_
 refine W_seq (W_reg (L_as (.slice none 0 0) rfl (L_nil (W_seq (W_seq (W_reg (L_mv (vi n) rfl (L_pu (P_cmp n 0 (decide (n < 0)) rfl rfl rfl) ?_))))))))
 refine L_nil ?_
 refine W_cond (decide (n < 0)) rfl (fun hq1 => ?_) (fun hq1 => ?_)
 ·have H := ite_t H hq1
  exact False.elim H
 have H := ite_f H hq1
 refine W_skip (W_seq (W_seq (W_reg (L_mv (vi n) rfl (L_mv (.slice none 0 0) rfl (L_pu (P_capn Tryz.underlying59 rfl) (L_mv (.slice none 0 0) rfl (L_pu (P_len Tryz.underlying59 none 0 0 rfl rfl) ?_))))))))
 obtain ⟨hb2, H⟩ := H
 refine L_pu (P_sub 0 0 rfl rfl hb2) ?_
 obtain ⟨hb3, H⟩ := H
 refine L_pu (P_sub n (0 - 0) rfl rfl hb3) (L_as (vi (n - (0 - 0))) rfl (L_nil (W_seq (W_reg (L_mv (vi (n - (0 - 0))) rfl (L_pu (P_cmp (n - (0 - 0)) 0 (decide (n - (0 - 0) > 0)) rfl rfl rfl) (L_nil ?_)))))))
 refine W_cond (decide (n - (0 - 0) > 0)) rfl (fun hq4 => ?_) (fun hq4 => ?_)
 ·have H := ite_t H hq4
  refine W_reg (L_mv (.slice none 0 0) rfl (L_mv (.slice none 0 0) rfl (L_pu (P_capn Tryz.underlying59 rfl) (L_pu (P_cutn Tryz.underlying59 se59 rfl rfl rfl) (L_mv (vi (n - (0 - 0))) rfl ?_)))))
  obtain ⟨hb5, H⟩ := H
  refine L_appz (kd := kTag) ei59 Tryz.underlying3 hc0 ((⟨([] : Str), ([] : Str)⟩ : Tag) : Tag) ((kTag.mk _ _ (⟨([] : Str), ([] : Str)⟩ : Tag) (by decide) (by decide))) (n - (0 - 0)) rfl rfl hb5 fun w6 A7 n8 c9 ah hr11 ab ad => ?_
  refine L_mv (.slice none 0 0) rfl (L_pu (P_len Tryz.underlying59 none 0 0 rfl rfl) ?_)
  obtain ⟨ae, H⟩ := H
  refine L_cuto Tryz.underlying59 se59 A7 n8 c9 (List.replicate (n - (0 - 0)).toNat ((⟨([] : Str), ([] : Str)⟩ : Tag) : Tag)) rfl ad 0 rfl rfl ae fun aa af => ?_
  exact L_as (.slice A7 aa c9) rfl (L_nil (W_seq (W_reg (L_mv (.slice A7 aa c9) rfl (L_as (.slice A7 aa c9) rfl (L_nil (W_ret ⟨[.slice A7 aa c9], ⟨_, rfl, rfl⟩, ((List.replicate (n - (0 - 0)).toNat ((⟨([] : Str), ([] : Str)⟩ : Tag) : Tag)).take (0 : Int).toNat), A7, aa, c9, rfl, H, ab.gr.g0, ab.ok, ab.ge, af⟩)))))))
 have H := ite_f H hq4
 refine W_skip (W_seq (W_reg (L_mv (.slice none 0 0) rfl (L_as (.slice none 0 0) rfl (L_nil (W_ret ?_))))))
 have ac := hc0.own (Gr.refl _ none) none (by simp)
 have ag : Ow kTag 106 w0 ([bk none] ++ O) (.slice none 0 0) [] := Ow.nil _ _ _ _
 exact ⟨[.slice none 0 0], ⟨_, rfl, rfl⟩, ([] : List Tag), none, 0, 0, rfl, H, ac.gr.g0, ac.ok, ac.ge, ag⟩
end
section
open Go.RowKit
def F11.E (slices : List (List Tag)) (Q : List Tag → Prop) : Prop :=
 (∃ (I19 : Int → Int → Prop) (mu20 : Int → Int → Nat), I19 0 0 ∧ ∀ (size2 : Int) (v2 : Int), I19 size2 v2 → (if decide (v2 < (slices.length : Int)) then ((0 : Int) ≤ v2 ∧ v2 < (slices.length : Int)) ∧ (((nth slices v2).length : Int) ≤ 9223372036854775807 → I64 (size2 + ((nth slices v2).length : Int))) ∧ (if decide (size2 + ((nth slices v2).length : Int) < 0) then False else (((nth slices v2).length : Int) ≤ 9223372036854775807 → I64 (v2 + 1)) ∧ I19 (size2 + ((nth slices v2).length : Int)) (v2 + 1) ∧ mu20 (size2 + ((nth slices v2).length : Int)) (v2 + 1) < mu20 size2 v2) else F18.E size2 (fun r => (∃ (I83 : (List Tag) → Int → Prop) (mu84 : (List Tag) → Int → Nat), I83 r 0 ∧ ∀ (xs2 : List Tag) (v4 : Int), I83 xs2 v4 → (if decide (v4 < (slices.length : Int)) then ((0 : Int) ≤ v4 ∧ v4 < (slices.length : Int)) ∧ (xs2.length + (nth slices v4).length ≤ 268435456) ∧ (I64 (v4 + 1)) ∧ I83 (xs2 ++ (nth slices v4)) (v4 + 1) ∧ mu84 (xs2 ++ (nth slices v4)) (v4 + 1) < mu84 xs2 v4 else Q xs2)))))
theorem F11.calls {O : Ob} (w0 : World) (hO : Ok w0 O) (slices : List (List Tag)) (A1 : Option Addr) (n2 c3 : Nat) (hp4 : Sl (Kd.sl kTag) w0 (Fr O) (.slice A1 n2 c3) slices) (Q : List Tag → Prop) (h : F11.E slices Q) :
  Ret Tryz.prog 84 [.slice A1 n2 c3] w0 (fun v w' => ∃ (r0 : List Tag) (A0 : Option Addr) (n0 c0 : Nat), v = .slice A0 n0 c0 ∧ Q r0 ∧ Gr w0 w' none ∧ Ok w' ([bk A0] ++ O) ∧ (∀ b, some b ∈ [bk A0] → w0.heap.size ≤ b) ∧ Ow kTag 106 w' ([bk A0] ++ O) (.slice A0 n0 c0) r0) := by
 unfold F11.E at h
 have H := h
 clear h
 have hc0 := Ct.init hO
 refine Ret_enter Tryz.func84 rfl 36 rfl [.tmp 2] rfl rfl ?_
 refine W_seq (W_reg (L_as (.slice none 0 0) rfl (L_nil (W_seq (W_reg (L_as (vi 0) rfl (L_nil (W_seq ?_))))))))
 refine W_seq (W_reg (L_mv (.slice A1 n2 c3) rfl ?_))
 have hl6 := hp4.le
 refine L_pu (P_len Tryz.underlying160 A1 n2 c3 hp4.len rfl) (L_mv (vi 0) rfl (L_nil (W_block ?_)))
 obtain ⟨bc, bd, ao, H⟩ := H
 refine W_loop (α := Int × Int) (fun (sv__ : Int × Int) t ae => match sv__ with | (size2, v2) => bc size2 v2 ∧ Has t [(0, .slice A1 n2 c3), (3, vi size2), (9, .slice A1 n2 c3), (10, vi (slices.length : Int)), (11, vi v2)] ∧ Ct [] w0 ae [] O ∧ Sl (Kd.sl kTag) ae (Fr ([] ++ O)) (.slice A1 n2 c3) slices) (fun (sv__ : Int × Int) => match sv__ with | (size2, v2) => bd size2 v2) (0, 0) ⟨ao, (hasI rfl), hc0, hp4⟩ ?_
 rintro ⟨size2, v2⟩ _ ae ⟨ao, be, af, ad⟩
 obtain ⟨b7, rfl⟩ := Has.ins be
 have H := H size2 v2 ao
 refine W_seq (W_reg (L_pu (P_cmp v2 (slices.length : Int) (decide (v2 < (slices.length : Int))) rfl rfl rfl) (L_nil (W_seq ?_))))
 refine W_cond (decide (v2 < (slices.length : Int))) rfl (fun ap => ?_) (fun ap => ?_)
 ·have H := ite_t H ap
  refine W_skip (W_seq (W_block (W_seq (W_reg ?_))))
  obtain ⟨ax, H⟩ := H
  obtain ⟨ay, b8, bf, b9, bg, bh⟩ := ad.get default (by decide) v2 ax
  obtain ⟨ag, ah, ai, rfl, az⟩ := Kd.sl.op bg
  refine L_pu (P_ia Tryz.underlying160 se160 A1 ay n2 c3 ad.len v2 rfl bf rfl ax) (L_pu (P_ld ag59 cL (ay.add (v2.toNat * 1)) (.slice ag ah ai) rfl (bh 0 _ rfl)) (L_as (.slice ag ah ai) rfl (L_nil (W_seq (W_reg (L_mv (vi size2) rfl (L_mv (.slice ag ah ai) rfl ?_)))))))
  have a0 := az.le
  refine L_pu (P_len Tryz.underlying59 ag ah ai az.len rfl) ?_
  obtain ⟨bi, H⟩ := H
  have bj := bi (len_le a0)
  refine L_pu (P_add size2 ((nth slices v2).length : Int) rfl rfl bj) (L_as (vi (size2 + ((nth slices v2).length : Int))) rfl (L_nil (W_seq (W_reg (L_mv (vi (size2 + ((nth slices v2).length : Int))) rfl (L_pu (P_cmp (size2 + ((nth slices v2).length : Int)) 0 (decide (size2 + ((nth slices v2).length : Int) < 0)) rfl rfl rfl) (L_nil ?_)))))))
  refine W_cond (decide (size2 + ((nth slices v2).length : Int) < 0)) rfl (fun aq => ?_) (fun aq => ?_)
  ·have H := ite_t H aq
   exact False.elim H
  have H := ite_f H aq
  refine W_skip (W_reg ?_)
  obtain ⟨bl, H⟩ := H
  have bm := bl (len_le a0)
  refine L_pu (P_add v2 1 rfl rfl bm) (L_mv (vi (v2 + 1)) rfl (L_nil ?_))
  obtain ⟨bn, bo⟩ := H
  exact ⟨(size2 + ((nth slices v2).length : Int), v2 + 1), bo, bn, (hasI rfl), af, ad⟩
 have H := ite_f H ap
 refine W_exit (xin_hit ?_)
 refine W_seq (W_reg (L_mv (vi size2) rfl ?_))
 refine L_call go120 [.slice none 0 0, vi size2] rfl ((F18.calls ae af.ok size2 _ H).mono ?_)
 rintro _ ca ⟨r, a1, a2, a3, rfl, H, a4, bp, a5, bq⟩
 have br := af.owns a4 bp a5
 refine L_as (.slice a1 a2 a3) rfl (L_nil (W_seq (W_seq (W_reg (L_mv (.slice A1 n2 c3) rfl ?_)))))
 have ar := af.stos a4 a5
 have cb := (ad.st ar).le
 refine L_pu (P_len Tryz.underlying160 A1 n2 c3 (ad.st ar).len rfl) (L_mv (vi 0) rfl (L_nil (W_block ?_)))
 obtain ⟨bs, bt, au, H⟩ := H
 refine W_loop (α := (List Tag) × (Option Addr) × Nat × Nat × Int) (fun (sv__ : (List Tag) × (Option Addr) × Nat × Nat × Int) t aj => match sv__ with | (xs2, aa, ab, ac, v4) => bs xs2 v4 ∧ Has t [(6, .slice aa ab ac), (25, .slice A1 n2 c3), (26, vi (slices.length : Int)), (27, vi v4)] ∧ Ct [] w0 aj [bk aa] O ∧ Sl (Kd.sl kTag) aj (Fr ([bk aa] ++ O)) (.slice A1 n2 c3) slices ∧ Ow kTag 106 aj ([bk aa] ++ O) (.slice aa ab ac) xs2) (fun (sv__ : (List Tag) × (Option Addr) × Nat × Nat × Int) => match sv__ with | (xs2, _, _, _, v4) => bt xs2 v4) (r, a1, a2, a3, 0) ⟨au, (hasI rfl), br, (ad.st ar), bq⟩ ?_
 rintro ⟨xs2, aa, ab, ac, v4⟩ _ aj ⟨au, bu, ak, av, a6⟩
 obtain ⟨cc, rfl⟩ := Has.ins bu
 have H := H xs2 v4 au
 refine W_seq (W_reg (L_pu (P_cmp v4 (slices.length : Int) (decide (v4 < (slices.length : Int))) rfl rfl rfl) (L_nil (W_seq ?_))))
 refine W_cond (decide (v4 < (slices.length : Int))) rfl (fun aw => ?_) (fun aw => ?_)
 ·have H := ite_t H aw
  refine W_skip (W_seq (W_block (W_seq (W_reg ?_))))
  obtain ⟨a7, H⟩ := H
  obtain ⟨a8, cd, bv, ce, bw, bx⟩ := av.get default (by decide) v4 a7
  obtain ⟨al, am, an, rfl, bz⟩ := Kd.sl.op bw
  refine L_pu (P_ia Tryz.underlying160 se160 A1 a8 n2 c3 av.len v4 rfl bv rfl a7) (L_pu (P_ld ag59 cL (a8.add (v4.toNat * 1)) (.slice al am an) rfl (bx 0 _ rfl)) (L_as (.slice al am an) rfl (L_nil (W_reg (L_mv (.slice aa ab ac) rfl (L_mv (.slice al am an) rfl ?_))))))
  obtain ⟨b0, H⟩ := H
  refine L_app ei59 ak (.slice aa ab ac) xs2 (nth slices v4) rfl a6 (.slice al am an) rfl bz.sx 0 rfl b0 fun cf a9 ba bb cg b1 b2 b3 => ?_
  refine L_as (.slice a9 ba bb) rfl (L_nil (W_reg ?_))
  obtain ⟨b4, H⟩ := H
  refine L_pu (P_add v4 1 rfl rfl b4) (L_mv (vi (v4 + 1)) rfl (L_nil ?_))
  obtain ⟨b5, b6⟩ := H
  exact ⟨((xs2 ++ (nth slices v4)), a9, ba, bb, v4 + 1), b6, b5, (hasI rfl), b2, (av.st b1), b3⟩
 have H := ite_f H aw
 refine W_exit (xin_hit ?_)
 exact W_seq (W_reg (L_mv (.slice aa ab ac) rfl (L_as (.slice aa ab ac) rfl (L_nil (W_ret ⟨[.slice aa ab ac], ⟨_, rfl, rfl⟩, xs2, aa, ab, ac, rfl, H, ak.gr.g0, ak.ok, ak.ge, a6⟩)))))
end
section
open Go.RowKit
def F19.E (t_ : Tag) (fv2 : Str) (Q : Bool → Prop) : Prop :=
 Q (t_.Key == fv2)
theorem F19.calls {O : Ob} (w0 : World) (hO : Ok w0 O) (t_ : Tag) (hs1 : Lim t_.Key) (hs2 : Lim t_.Val) (b : Nat) (fv2 : Str) (hs4 : Lim fv2) (hp1 : Fb w0 O b [vs fv2]) (Q : Bool → Prop) (h : F19.E t_ fv2 Q) :
  Ret Tryz.prog 145 [.agg #[vs t_.Key, vs t_.Val], .pointer (some ⟨b, 0, none⟩)] w0 (fun v w' => ∃ (r0 : Bool), v = vb r0 ∧ Q r0 ∧ Gr w0 w' none) := by
 unfold F19.E at h
 have H := h
 clear h
 have hc0 := Ct.init hO
 refine Ret_enter Tryz.func145 rfl 8 rfl [.tmp 3] rfl rfl ?_
 refine W_seq (W_reg (L_box [vs t_.Key, vs t_.Val] rfl fun w5 b6 hl8 hu9 g7 ab => ?_))
 have ac := Fb.mk hc0.ok hl8 ab
 have aa := hc0.k0 g7
 refine L_as (vb false) rfl (L_nil (W_seq (W_reg (L_pu (P_fa fa106_0 ⟨b6, 0, none⟩ ⟨b6, 0, none⟩ rfl rfl) (L_pu (P_ld ag9 cL ⟨b6, 0, none⟩ (vs t_.Key) rfl (ac.cell rfl)) ?_)))))
 have ad := (hp1.st aa.st)
 exact L_pu (P_ld ag9 cL ⟨b, 0, none⟩ (vs fv2) rfl (ad.cell rfl)) (L_pu (P_scmp t_.Key fv2 (t_.Key == fv2) rfl rfl rfl) (L_as (vb (t_.Key == fv2)) rfl (L_nil (W_ret ⟨[vb (t_.Key == fv2)], ⟨_, rfl, rfl⟩, t_.Key == fv2, rfl, H, aa.gr.g0⟩))))
end
section
open Go.RowKit
def F6.E (s : List Tag) (f : Tag → Bool) (f_ok : Tag → Prop) (Q : Int → Prop) : Prop :=
 (∃ (I23 : Int → Prop) (mu24 : Int → Nat), I23 0 ∧ ∀ (v2 : Int), I23 v2 → (if decide (v2 < (s.length : Int)) then ((0 : Int) ≤ v2 ∧ v2 < (s.length : Int)) ∧ (f_ok (nth s v2)) ∧ (if (f (nth s v2)) then Q v2 else (I64 (v2 + 1)) ∧ I23 (v2 + 1) ∧ mu24 (v2 + 1) < mu24 v2) else Q (-1)))
theorem F6.calls {O : Ob} (w0 : World) (hO : Ok w0 O) (s : List Tag) (A1 : Option Addr) (n2 c3 : Nat) (hp4 : Sl kTag w0 (Fr O) (.slice A1 n2 c3) s) (fg6 : FuncId) (fc7 : List Value) (f : Tag → Bool) (f_ok : Tag → Prop) (hgo8 : Goes Tryz.prog fg6) (hf9 : ∀ (w : World) (L : Ob), Ct [] w0 w L O → ∀ (x0_ : Tag) (az : Lim x0_.Key) (a0 : Lim x0_.Val), f_ok x0_ → Ret Tryz.prog fg6 ([.agg #[vs x0_.Key, vs x0_.Val]] ++ fc7) w (fun v w' => v = vb (f x0_) ∧ Gr w w' none)) (Q : Int → Prop) (h : F6.E s f f_ok Q) :
  Ret Tryz.prog 144 [.slice A1 n2 c3, .func (.func fg6) #[] fc7.toArray] w0 (fun v w' => ∃ (r0 : Int), v = vi r0 ∧ Q r0 ∧ Gr w0 w' none) := by
 unfold F6.E at h
 have H := h
 clear h
 have hc0 := Ct.init hO
 refine Ret_enter Tryz.func144 rfl 19 rfl [.tmp 4] rfl rfl ?_
 refine W_seq (W_reg (L_as (vi 0) rfl (L_nil (W_seq (W_seq (W_reg (L_mv (.slice A1 n2 c3) rfl ?_)))))))
 have a1 := hp4.le
 refine L_pu (P_len Tryz.underlying59 A1 n2 c3 hp4.len rfl) (L_mv (vi 0) rfl (L_nil (W_block ?_)))
 obtain ⟨ak, al, ac, H⟩ := H
 refine W_loop (α := Int) (fun (sv__ : Int) t aa => match sv__ with | v2 => ak v2 ∧ Has t [(0, .slice A1 n2 c3), (1, .func (.func fg6) #[] fc7.toArray), (7, vi (s.length : Int)), (8, vi v2)] ∧ Ct [] w0 aa [] O ∧ Sl kTag aa (Fr ([] ++ O)) (.slice A1 n2 c3) s) (fun (sv__ : Int) => match sv__ with | v2 => al v2) 0 ⟨ac, (hasI rfl), hc0, hp4⟩ ?_
 rintro v2 _ aa ⟨ac, am, ab, ad⟩
 obtain ⟨a2, rfl⟩ := Has.ins am
 have H := H v2 ac
 refine W_seq (W_reg (L_pu (P_cmp v2 (s.length : Int) (decide (v2 < (s.length : Int))) rfl rfl rfl) (L_nil (W_seq ?_))))
 refine W_cond (decide (v2 < (s.length : Int))) rfl (fun ae => ?_) (fun ae => ?_)
 ·have H := ite_t H ae
  refine W_skip (W_seq (W_block (W_seq (W_reg (L_mv (vi v2) rfl (L_as (vi v2) rfl (L_nil (W_seq ?_))))))))
  refine W_reg (L_mv (.func (.func fg6) #[] fc7.toArray) rfl (L_mv (.slice A1 n2 c3) rfl (L_mv (vi v2) rfl ?_)))
  obtain ⟨ag, H⟩ := H
  obtain ⟨ah, a3, an, a4, ao, ap⟩ := ad.get default (by decide) v2 ag
  obtain ⟨rfl, aq, ar⟩ := kTag.op ao
  refine L_pu (P_ia Tryz.underlying59 se59 A1 ah n2 c3 ad.len v2 rfl an rfl ag) (L_pu (P_lda ag106 sz106 cL (ah.add (v2.toNat * 2)) [vs ((nth s v2).Key), vs ((nth s v2).Val)] rfl rfl ap) ?_)
  obtain ⟨au, H⟩ := H
  refine L_callv hgo8 fc7 rfl [.agg #[vs ((nth s v2).Key), vs ((nth s v2).Val)]] rfl ((hf9 aa [] ab (nth s v2) aq ar au).mono ?_)
  rintro _ a5 ⟨rfl, ai⟩
  have aj := ab.k0 ai
  refine L_nil ?_
  refine W_cond (f (nth s v2)) rfl (fun af => ?_) (fun af => ?_)
  ·have H := ite_t H af
   exact W_seq (W_reg (L_mv (vi v2) rfl (L_as (vi v2) rfl (L_nil (W_ret ⟨[vi v2], ⟨_, rfl, rfl⟩, v2, rfl, H, aj.gr.g0⟩)))))
  have H := ite_f H af
  refine W_skip (W_reg ?_)
  obtain ⟨av, H⟩ := H
  refine L_pu (P_add v2 1 rfl rfl av) (L_mv (vi (v2 + 1)) rfl (L_nil ?_))
  obtain ⟨aw, ax⟩ := H
  have ay := ab.stn ai
  exact ⟨v2 + 1, ax, aw, (hasI rfl), aj, (ad.st ay)⟩
 have H := ite_f H ae
 refine W_exit (xin_hit ?_)
 exact W_seq (W_reg (L_as (vi (-1)) rfl (L_nil (W_ret ⟨[vi (-1)], ⟨_, rfl, rfl⟩, (-1), rfl, H, ab.gr.g0⟩))))
end
section
open Go.RowKit
def F47.E (f : Feat) (key : Str) (Q : Int → Prop) : Prop :=
 (∃ (f2 : Tag → Bool) (f2_ok : Tag → Prop), (∀ x0_, f2_ok x0_ → F19.E x0_ key (fun r => r = f2 x0_)) ∧ F6.E f.Tags f2 f2_ok (fun r => Q r))
theorem F47.calls {O : Ob} (w0 : World) (hO : Ok w0 O) (f : Feat) (A2 : Option Addr) (n3 c4 : Nat) (A7 : Option Addr) (n8 c9 : Nat) (hs1 : Lim f.Id) (hp5 : Sl kPt w0 (Fr O) (.slice A2 n3 c4) f.Shape.Pts) (ai : Sl kTag w0 (Fr O) (.slice A7 n8 c9) f.Tags) (key : Str) (aj : Lim key) (Q : Int → Prop) (h : F47.E f key Q) :
  Ret Tryz.prog 121 [.agg #[vs f.Id, vi f.Shape.Kind, .slice A2 n3 c4, .slice A7 n8 c9], vs key] w0 (fun v w' => ∃ (r0 : Int), v = vi r0 ∧ Q r0 ∧ Gr w0 w' none) := by
 unfold F47.E at h
 have H := h
 clear h
 have hc0 := Ct.init hO
 refine Ret_enter Tryz.func121 rfl 9 rfl [.tmp 4] rfl rfl ?_
 refine W_seq (W_reg (L_box [vs f.Id, vi f.Shape.Kind, .slice A2 n3 c4, .slice A7 n8 c9] rfl fun az ab ak hu17 al am => ?_))
 have an := Fb.mk hc0.ok ak am
 have ac := hc0.k0 al
 refine L_box [vs key] rfl fun ae aa ao hu26 af ap => ?_
 have aq := Fb.mk ac.ok ao ap
 have ad := ac.k0 af
 refine L_as (vi 0) rfl (L_nil (W_seq (W_reg (L_pu (P_fa fa61_2 ⟨ab, 0, none⟩ ⟨ab, 3, none⟩ rfl rfl) ?_))))
 have ar := ac.stn af
 have au := (an.st ar)
 refine L_pu (P_ld ag59 cL ⟨ab, 3, none⟩ (.slice A7 n8 c9) rfl (au.cell rfl)) (L_pu (P_func [.pointer (some ⟨aa, 0, none⟩)] rfl) ?_)
 obtain ⟨f2, f2_ok, av, H⟩ := H
 have aw : ∀ (w : World) (L : Ob), Ct [] ae w L ([] ++ O) → ∀ (x0_ : Tag) (ag : Lim x0_.Key) (ah : Lim x0_.Val), f2_ok x0_ → Ret Tryz.prog 145 ([.agg #[vs x0_.Key, vs x0_.Val]] ++ [.pointer (some ⟨aa, 0, none⟩)]) w (fun v w' => v = vb (f2 x0_) ∧ Gr w w' none) := by
  intro w L c x0_ ag ah hok
  refine (F19.calls w c.ok x0_ ag ah aa key aj (aq.st c.st) _ (av x0_ hok)).mono ?_
  rintro _ w2 ⟨r, rfl, rfl, g2⟩
  exact ⟨rfl, g2⟩
 refine L_call go144 [.slice A7 n8 c9, .func (.func 145) #[] #[.pointer (some ⟨aa, 0, none⟩)]] rfl ((F6.calls ae ad.ok f.Tags A7 n8 c9 (ai.st ad.st) 145 [.pointer (some ⟨aa, 0, none⟩)] f2 f2_ok go145 aw _ H).mono ?_)
 rintro _ a0 ⟨r, rfl, H, ax⟩
 have ay := ad.k0 ax
 exact L_as (vi r) rfl (L_nil (W_ret ⟨[vi r], ⟨_, rfl, rfl⟩, r, rfl, H, ay.gr.g0⟩))
end
section
open Go.RowKit
def F67.E (f : Feat) (key : Str) (Q : value → Prop) : Prop :=
 F47.E f key (fun r => (if decide (r < 0) then Q (⟨false, ([] : Str)⟩ : value) else ((0 : Int) ≤ r ∧ r < (f.Tags.length : Int)) ∧ Q (⟨true, (nth f.Tags r).Val⟩ : value)))
theorem F67.calls {O : Ob} (w0 : World) (hO : Ok w0 O) (f : Feat) (A2 : Option Addr) (n3 c4 : Nat) (A7 : Option Addr) (n8 c9 : Nat) (hs1 : Lim f.Id) (hp5 : Sl kPt w0 (Fr O) (.slice A2 n3 c4) f.Shape.Pts) (af : Sl kTag w0 (Fr O) (.slice A7 n8 c9) f.Tags) (key : Str) (aq : Lim key) (Q : value → Prop) (h : F67.E f key Q) :
  Ret Tryz.prog 85 [.agg #[vs f.Id, vi f.Shape.Kind, .slice A2 n3 c4, .slice A7 n8 c9], vs key] w0 (fun v w' => ∃ (r0 : value), v = .agg #[vb r0.has, vs r0.val] ∧ Q r0 ∧ Gr w0 w' none ∧ Lim r0.val) := by
 unfold F67.E at h
 have H := h
 clear h
 have hc0 := Ct.init hO
 refine Ret_enter Tryz.func85 rfl 19 rfl [.cell 4 128] rfl rfl ?_
 refine W_seq (W_reg (L_box [vs f.Id, vi f.Shape.Kind, .slice A2 n3 c4, .slice A7 n8 c9] rfl fun bf ab ar hu17 au av => ?_))
 have aw := Fb.mk hc0.ok ar av
 have ai := hc0.k0 au
 refine L_alloc [vb false, vs []] ze128 fun ax ag aj hu26 ak al => ?_
 have aa := ai.own ak (some ag) (oglt aj hu26)
 refine L_nil (W_seq (W_reg ?_))
 have ay := ai.stown _ ak (oge aj)
 have am := (aw.st ay)
 refine L_pu (P_lda ag61 sz61 cL ⟨ab, 0, none⟩ [vs f.Id, vi f.Shape.Kind, .slice A2 n3 c4, .slice A7 n8 c9] rfl rfl (am.cells (off := 0) rfl)) (L_mv (vs key) rfl ?_)
 refine L_call go121 [.agg #[vs f.Id, vi f.Shape.Kind, .slice A2 n3 c4, .slice A7 n8 c9], vs key] rfl ((F47.calls ax aa.ok f A2 n3 c4 A7 n8 c9 hs1 (hp5.st aa.st) (af.st aa.st) key aq _ H).mono ?_)
 rintro _ bg ⟨r, rfl, H, ac⟩
 have ad := aa.k0 ac
 refine L_as (vi r) rfl (L_nil (W_seq (W_seq (W_reg (L_mv (vi r) rfl (L_pu (P_cmp r 0 (decide (r < 0)) rfl rfl rfl) (L_nil ?_)))))))
 refine W_cond (decide (r < 0)) rfl (fun ah => ?_) (fun ah => ?_)
 ·have H := ite_t H ah
  refine W_seq (W_reg (L_pu (P_build (.agg #[vb false, vs ([] : Str)]) (fun _ => by kernel_rfl)) ?_))
  have az := (al.k0 ac)
  refine L_stb ag 0 [vb false, vs ([] : Str)] [vb false, vs ([] : Str)] [vb false, vs ([] : Str)] rfl az rfl sz128 rfl rfl rfl fun bh a0 a1 => ?_
  have an := ad.wr 0 rfl a0
  refine L_nil (W_ret ?_)
  have a2 := an.bgv a1 0 rfl
  have a3 := an.drop 0 rfl
  exact ⟨[.agg #[vb false, vs ([] : Str)]], ⟨_, _, rfl, a2.1.res rfl ag128 sz128, rfl⟩, (⟨false, ([] : Str)⟩ : value), rfl, H, a3.gr.g0, (by decide)⟩
 have H := ite_f H ah
 refine W_skip (W_seq (W_reg (L_pu (P_fa fa61_2 ⟨ab, 0, none⟩ ⟨ab, 3, none⟩ rfl rfl) ?_)))
 have a4 := aa.stn ac
 have a5 := (am.st a4)
 refine L_pu (P_ld ag59 cL ⟨ab, 3, none⟩ (.slice A7 n8 c9) rfl (a5.cell rfl)) (L_mv (vi r) rfl ?_)
 obtain ⟨ao, H⟩ := H
 obtain ⟨ae, bi, a6, bj, a7, a8⟩ := (af.st ad.st).get default (by decide) r ao
 obtain ⟨rfl, bl, a9⟩ := kTag.op a7
 refine L_pu (P_ia Tryz.underlying59 se59 A7 ae n8 c9 (af.st ad.st).len r rfl a6 rfl ao) (L_pu (P_fa fa106_1 (ae.add (r.toNat * 2)) ((ae.add (r.toNat * 2)).add 1) rfl rfl) (L_pu (P_ld ag9 cL ((ae.add (r.toNat * 2)).add 1) (vs ((nth f.Tags r).Val)) rfl (a8 1 _ rfl)) (L_pu (P_build (.agg #[vb true, vs ((nth f.Tags r).Val)]) (fun _ => by kernel_rfl)) ?_)))
 have ba := (al.k0 ac)
 refine L_stb ag 0 [vb false, vs ([] : Str)] [vb true, vs ((nth f.Tags r).Val)] [vb true, vs ((nth f.Tags r).Val)] rfl ba rfl sz128 rfl rfl rfl fun bm bb bc => ?_
 have ap := ad.wr 0 rfl bb
 refine L_nil (W_ret ?_)
 have bd := ap.bgv bc 0 rfl
 have be := ap.drop 0 rfl
 exact ⟨[.agg #[vb true, vs ((nth f.Tags r).Val)]], ⟨_, _, rfl, bd.1.res rfl ag128 sz128, rfl⟩, (⟨true, (nth f.Tags r).Val⟩ : value), rfl, H, be.gr.g0, a9⟩
end
section
open Go.RowKit
def F10.E (base_ : value) (a : value) (b : value) (same : value → value → Bool) (same_ok : value → value → Prop) (Q : value → Bool → Prop) : Prop :=
 (same_ok a base_) ∧ (if (same a base_) then Q b true else (same_ok b base_) ∧ (if (same b base_) then Q a true else (same_ok a b) ∧ (if (same a b) then Q a true else Q a false)))
theorem F10.calls {O : Ob} (w0 : World) (hO : Ok w0 O) (base_ : value) (hs1 : Lim base_.val) (a : value) (hs2 : Lim a.val) (b : value) (hs3 : Lim b.val) (fg4 : FuncId) (fc5 : List Value) (same : value → value → Bool) (same_ok : value → value → Prop) (hgo6 : Goes Tryz.prog fg4) (hf7 : ∀ (w : World) (L : Ob), Ct [] w0 w L O → ∀ (x0_ : value) (hs8 : Lim x0_.val) (x1_ : value) (hs9 : Lim x1_.val), same_ok x0_ x1_ → Ret Tryz.prog fg4 ([.agg #[vb x0_.has, vs x0_.val], .agg #[vb x1_.has, vs x1_.val]] ++ fc5) w (fun v w' => v = vb (same x0_ x1_) ∧ Gr w w' none)) (Q : value → Bool → Prop) (h : F10.E base_ a b same same_ok Q) :
  Ret Tryz.prog 86 [.agg #[vb base_.has, vs base_.val], .agg #[vb a.has, vs a.val], .agg #[vb b.has, vs b.val], .func (.func fg4) #[] fc5.toArray] w0 (fun v w' => ∃ (r0 : value) (r1 : Bool), v = .tuple #[.agg #[vb r0.has, vs r0.val], vb r1] ∧ Q r0 r1 ∧ Gr w0 w' none ∧ Lim r0.val) := by
 unfold F10.E at h
 have H := h
 clear h
 have hc0 := Ct.init hO
 refine Ret_enter Tryz.func86 rfl 27 rfl [.cell 8 128, .tmp 9] rfl rfl ?_
 refine W_seq (W_reg (L_box [vb base_.has, vs base_.val] rfl fun w8 b9 ba hu12 bb bc => ?_))
 have bd := Fb.mk hc0.ok ba bc
 have am := hc0.k0 bb
 refine L_box [vb a.has, vs a.val] rfl fun cn ad be hu21 av bf => ?_
 have bg := Fb.mk am.ok be bf
 have an := am.k0 av
 refine L_box [vb b.has, vs b.val] rfl fun co ao bh hu30 aw bi => ?_
 have ax := Fb.mk an.ok bh bi
 have ay := an.k0 aw
 refine L_alloc [vb false, vs []] ze128 fun bj aa az hu39 a0 ah => ?_
 have ai := ay.own a0 (some aa) (oglt az hu39)
 refine L_as (vb false) rfl (L_nil (W_seq (W_block (W_seq (W_reg (L_mv (.func (.func fg4) #[] fc5.toArray) rfl ?_))))))
 have a1 := an.stn aw
 have aj := ay.stown _ a0 (oge az)
 have ap := ((bg.st a1).st aj)
 refine L_pu (P_lda ag128 sz128 cL ⟨ad, 0, none⟩ [vb a.has, vs a.val] rfl rfl (ap.cells (off := 0) rfl)) ?_
 have bl := am.stn av
 have a2 := (((bd.st bl).st a1).st aj)
 refine L_pu (P_lda ag128 sz128 cL ⟨b9, 0, none⟩ [vb base_.has, vs base_.val] rfl rfl (a2.cells (off := 0) rfl)) ?_
 obtain ⟨bm, H⟩ := H
 refine L_callv hgo6 fc5 rfl [.agg #[vb a.has, vs a.val], .agg #[vb base_.has, vs base_.val]] rfl ((hf7 bj [some aa] ai a hs2 base_ hs1 bm).mono ?_)
 rintro _ bn ⟨rfl, ab⟩
 have ae := ai.k0 ab
 refine L_as (vb (same a base_)) rfl (L_nil ?_)
 refine W_cond (same a base_) rfl (fun aq => ?_) (fun aq => ?_)
 ·have H := ite_t H aq
  refine W_seq (W_reg ?_)
  have bo := ai.stn ab
  have bp := ((ax.st aj).st bo)
  refine L_pu (P_lda ag128 sz128 cL ⟨ao, 0, none⟩ [vb b.has, vs b.val] rfl rfl (bp.cells (off := 0) rfl)) ?_
  have bq := (ah.k0 ab)
  refine L_stb aa 0 [vb false, vs ([] : Str)] [vb b.has, vs b.val] [vb b.has, vs b.val] rfl bq rfl sz128 rfl rfl rfl fun cp br bs => ?_
  have a3 := ae.wr 0 rfl br
  refine L_as (vb true) rfl (L_nil (W_ret ?_))
  have bt := a3.bgv bs 0 rfl
  have bu := a3.drop 0 rfl
  exact ⟨[.agg #[vb b.has, vs b.val], vb true], ⟨_, _, rfl, bt.1.res rfl ag128 sz128, ⟨_, rfl, rfl⟩⟩, b, true, rfl, H, bu.gr.g0, hs3⟩
 have H := ite_f H aq
 refine W_seq (W_seq (W_reg (L_mv (.func (.func fg4) #[] fc5.toArray) rfl ?_)))
 have ak := ai.stn ab
 have a4 := ((ax.st aj).st ak)
 refine L_pu (P_lda ag128 sz128 cL ⟨ao, 0, none⟩ [vb b.has, vs b.val] rfl rfl (a4.cells (off := 0) rfl)) ?_
 have bv := (a2.st ak)
 refine L_pu (P_lda ag128 sz128 cL ⟨b9, 0, none⟩ [vb base_.has, vs base_.val] rfl rfl (bv.cells (off := 0) rfl)) ?_
 obtain ⟨bw, H⟩ := H
 refine L_callv hgo6 fc5 rfl [.agg #[vb b.has, vs b.val], .agg #[vb base_.has, vs base_.val]] rfl ((hf7 bn [some aa] ae b hs3 base_ hs1 bw).mono ?_)
 rintro _ bx ⟨rfl, ac⟩
 have af := ae.k0 ac
 refine L_as (vb (same b base_)) rfl (L_nil ?_)
 refine W_cond (same b base_) rfl (fun al => ?_) (fun al => ?_)
 ·have H := ite_t H al
  refine W_skip (W_ct (b := (same b base_)) rfl al ?_)
  refine W_seq (W_reg ?_)
  have bz := ae.stn ac
  have b0 := ((ap.st ak).st bz)
  refine L_pu (P_lda ag128 sz128 cL ⟨ad, 0, none⟩ [vb a.has, vs a.val] rfl rfl (b0.cells (off := 0) rfl)) ?_
  have b1 := ((ah.k0 ab).k0 ac)
  refine L_stb aa 0 [vb false, vs ([] : Str)] [vb a.has, vs a.val] [vb a.has, vs a.val] rfl b1 rfl sz128 rfl rfl rfl fun cq b2 b3 => ?_
  have a5 := af.wr 0 rfl b2
  refine L_as (vb true) rfl (L_nil (W_ret ?_))
  have b4 := a5.bgv b3 0 rfl
  have b5 := a5.drop 0 rfl
  exact ⟨[.agg #[vb a.has, vs a.val], vb true], ⟨_, _, rfl, b4.1.res rfl ag128 sz128, ⟨_, rfl, rfl⟩⟩, a, true, rfl, H, b5.gr.g0, hs2⟩
 have H := ite_f H al
 refine W_reg (L_mv (.func (.func fg4) #[] fc5.toArray) rfl ?_)
 have a6 := ae.stn ac
 have ar := ((ap.st ak).st a6)
 refine L_pu (P_lda ag128 sz128 cL ⟨ad, 0, none⟩ [vb a.has, vs a.val] rfl rfl (ar.cells (off := 0) rfl)) ?_
 have b6 := (a4.st a6)
 refine L_pu (P_lda ag128 sz128 cL ⟨ao, 0, none⟩ [vb b.has, vs b.val] rfl rfl (b6.cells (off := 0) rfl)) ?_
 obtain ⟨b7, H⟩ := H
 refine L_callv hgo6 fc5 rfl [.agg #[vb a.has, vs a.val], .agg #[vb b.has, vs b.val]] rfl ((hf7 bx [some aa] af a hs2 b hs3 b7).mono ?_)
 rintro _ cr ⟨rfl, ag⟩
 have a7 := af.k0 ag
 refine L_as (vb (same a b)) rfl (L_nil ?_)
 refine W_cond (same a b) rfl (fun au => ?_) (fun au => ?_)
 ·have H := ite_t H au
  refine W_seq (W_reg ?_)
  have b8 := af.stn ag
  have ca := (ar.st b8)
  refine L_pu (P_lda ag128 sz128 cL ⟨ad, 0, none⟩ [vb a.has, vs a.val] rfl rfl (ca.cells (off := 0) rfl)) ?_
  have cb := (((ah.k0 ab).k0 ac).k0 ag)
  refine L_stb aa 0 [vb false, vs ([] : Str)] [vb a.has, vs a.val] [vb a.has, vs a.val] rfl cb rfl sz128 rfl rfl rfl fun cs cc cd => ?_
  have a8 := a7.wr 0 rfl cc
  refine L_as (vb true) rfl (L_nil (W_ret ?_))
  have ce := a8.bgv cd 0 rfl
  have cf := a8.drop 0 rfl
  exact ⟨[.agg #[vb a.has, vs a.val], vb true], ⟨_, _, rfl, ce.1.res rfl ag128 sz128, ⟨_, rfl, rfl⟩⟩, a, true, rfl, H, cf.gr.g0, hs2⟩
 have H := ite_f H au
 refine W_skip (W_seq (W_reg ?_))
 have cg := af.stn ag
 have ch := (ar.st cg)
 refine L_pu (P_lda ag128 sz128 cL ⟨ad, 0, none⟩ [vb a.has, vs a.val] rfl rfl (ch.cells (off := 0) rfl)) ?_
 have ci := (((ah.k0 ab).k0 ac).k0 ag)
 refine L_stb aa 0 [vb false, vs ([] : Str)] [vb a.has, vs a.val] [vb a.has, vs a.val] rfl ci rfl sz128 rfl rfl rfl fun ct cj ck => ?_
 have a9 := a7.wr 0 rfl cj
 refine L_as (vb false) rfl (L_nil (W_ret ?_))
 have cl := a9.bgv ck 0 rfl
 have cm := a9.drop 0 rfl
 exact ⟨[.agg #[vb a.has, vs a.val], vb false], ⟨_, _, rfl, cl.1.res rfl ag128 sz128, ⟨_, rfl, rfl⟩⟩, a, false, rfl, H, cm.gr.g0, hs2⟩
end
section
open Go.RowKit
def F20.E (p : value) (q : value) (Q : Bool → Prop) : Prop :=
 Q (eqvalue p q)
theorem F20.calls {O : Ob} (w0 : World) (hO : Ok w0 O) (p : value) (hs1 : Lim p.val) (q : value) (hs2 : Lim q.val) (Q : Bool → Prop) (h : F20.E p q Q) :
  Ret Tryz.prog 87 [.agg #[vb p.has, vs p.val], .agg #[vb q.has, vs q.val]] w0 (fun v w' => ∃ (r0 : Bool), v = vb r0 ∧ Q r0 ∧ Gr w0 w' none) := by
 unfold F20.E at h
 have H := h
 clear h
 have hc0 := Ct.init hO
 refine Ret_enter Tryz.func87 rfl 8 rfl [.tmp 4] rfl rfl ?_
 refine W_seq (W_reg (L_box [vb p.has, vs p.val] rfl fun w3 b4 hl6 hu7 g5 hx8 => ?_))
 have ac := Fb.mk hc0.ok hl6 hx8
 have aa := hc0.k0 g5
 refine L_box [vb q.has, vs q.val] rfl fun ak ad ae hu16 ab af => ?_
 have ag := Fb.mk aa.ok ae af
 have ah := aa.k0 ab
 refine L_as (vb false) rfl (L_nil (W_seq (W_reg ?_)))
 have ai := aa.stn ab
 have aj := (ac.st ai)
 exact L_pu (P_lda ag128 sz128 cL ⟨b4, 0, none⟩ [vb p.has, vs p.val] rfl rfl (aj.cells (off := 0) rfl)) (L_pu (P_lda ag128 sz128 cL ⟨ad, 0, none⟩ [vb q.has, vs q.val] rfl rfl (ag.cells (off := 0) rfl)) (L_pu (P_eq _ _ (eqvalue p q) (qt128 p q) rfl rfl) (L_as (vb (eqvalue p q)) rfl (L_nil (W_ret ⟨[vb (eqvalue p q)], ⟨_, rfl, rfl⟩, eqvalue p q, rfl, H, ah.gr.g0⟩)))))
end
section
open Go.RowKit
section
variable {P : Program} {n : Nat} {N R : Ps} {X : Nat → Ps} {t : Tm} {w : World} {ops : Array Oper} {C : World → Prop} {listed : Array Bool} {m : Nat}
theorem M_any3 (i j l : Nat) {o o' o'' : Oper} (hr : Region.ready .any ops listed = [i, j, l]) (hi : ops[i]? = some o) (hj : ops[j]? = some o') (hl : ops[l]? = some o'')
    (k : L P n ops (fun t' w' => C w' ∧ M P n ops C N R X m (listed.setIfInBounds i true) t' w') R X [o] t w)
    (k' : L P n ops (fun t' w' => C w' ∧ M P n ops C N R X m (listed.setIfInBounds j true) t' w') R X [o'] t w)
    (k'' : L P n ops (fun t' w' => C w' ∧ M P n ops C N R X m (listed.setIfInBounds l true) t' w') R X [o''] t w) : M P n ops C N R X (m + 1) listed t w := by
  unfold M
  refine ⟨fun h => (by rw [hr] at h; cases h), fun q hq => ?_⟩
  rw [hr] at hq
  rcases (by simpa using hq : q = i ∨ q = j ∨ q = l) with rfl | rfl | rfl
  · exact wpOp_mono (fun a' w' ⟨t', e, h⟩ => by rw [e]; unfold M at h; exact h) (M_op hi k)
  · exact wpOp_mono (fun a' w' ⟨t', e, h⟩ => by rw [e]; unfold M at h; exact h) (M_op hj k')
  · exact wpOp_mono (fun a' w' ⟨t', e, h⟩ => by rw [e]; unfold M at h; exact h) (M_op hl k'')
end
end
section
open Go.RowKit
def F48.E (base_ : Feat) (a : Feat) (b : Feat) (Q : Feat → List Str → Prop) : Prop :=
 F88.E base_ (fun r => (if !r then Q (⟨([] : Str), (⟨0, ([] : List Pt)⟩ : Shape), ([] : List Tag)⟩ : Feat) ([] : List Str) else F88.E a (fun r2 => (if !r2 then Q (⟨([] : Str), (⟨0, ([] : List Pt)⟩ : Shape), ([] : List Tag)⟩ : Feat) ([] : List Str) else F88.E b (fun r3 => (if !r3 then Q (⟨([] : Str), (⟨0, ([] : List Pt)⟩ : Shape), ([] : List Tag)⟩ : Feat) ([] : List Str) else (if base_.Id != a.Id then Q (⟨([] : Str), (⟨0, ([] : List Pt)⟩ : Shape), ([] : List Tag)⟩ : Feat) ([] : List Str) else (if base_.Id != b.Id then Q (⟨([] : Str), (⟨0, ([] : List Pt)⟩ : Shape), ([] : List Tag)⟩ : Feat) ([] : List Str) else (∃ (f : Shape → Shape → Bool) (f_ok : Shape → Shape → Prop), (∀ x0_ x1_, f_ok x0_ x1_ → F26.E x0_ x1_  (fun r => r = f x0_ x1_)) ∧ F9.E base_.Shape a.Shape b.Shape f f_ok (fun r4 r5 => (∃ (J297 : (List Str) → Int → (List Pt) → Prop), ((if !r5 then (if base_.Shape.Kind == a.Shape.Kind then (if base_.Shape.Kind == b.Shape.Kind then F46.E base_.Shape.Pts a.Shape.Pts b.Shape.Pts (fun r6 r7 => (if r7 then F56.E (⟨a.Shape.Kind, r6⟩ : Shape) (fun r8 => (if r8 then (if !true then (([] : List Str).length + ([([115, 104, 97, 112, 101] : Str)] : List Str).length ≤ 268435456) ∧ J297 (([] : List Str) ++ ([([115, 104, 97, 112, 101] : Str)] : List Str)) a.Shape.Kind r6 else J297 ([] : List Str) a.Shape.Kind r6) else (if !false then (([] : List Str).length + ([([115, 104, 97, 112, 101] : Str)] : List Str).length ≤ 268435456) ∧ J297 (([] : List Str) ++ ([([115, 104, 97, 112, 101] : Str)] : List Str)) r4.Kind r4.Pts else J297 ([] : List Str) r4.Kind r4.Pts))) else (if !false then (([] : List Str).length + ([([115, 104, 97, 112, 101] : Str)] : List Str).length ≤ 268435456) ∧ J297 (([] : List Str) ++ ([([115, 104, 97, 112, 101] : Str)] : List Str)) r4.Kind r4.Pts else J297 ([] : List Str) r4.Kind r4.Pts))) else (if !false then (([] : List Str).length + ([([115, 104, 97, 112, 101] : Str)] : List Str).length ≤ 268435456) ∧ J297 (([] : List Str) ++ ([([115, 104, 97, 112, 101] : Str)] : List Str)) r4.Kind r4.Pts else J297 ([] : List Str) r4.Kind r4.Pts)) else (if !false then (([] : List Str).length + ([([115, 104, 97, 112, 101] : Str)] : List Str).length ≤ 268435456) ∧ J297 (([] : List Str) ++ ([([115, 104, 97, 112, 101] : Str)] : List Str)) r4.Kind r4.Pts else J297 ([] : List Str) r4.Kind r4.Pts)) else J297 ([] : List Str) r4.Kind r4.Pts)) ∧ ∀ (xs : List Str) (z : Int) (z2 : List Pt), J297 xs z z2 → F16.E (⟨z, z2⟩ : Shape) (fun r9 => F11.E ([base_.Tags, a.Tags, b.Tags] : List (List Tag)) (fun r10 => (∃ (I762 : (List Str) → Int → Prop) (mu763 : (List Str) → Int → Nat), I762 ([] : List Str) 0 ∧ ∀ (xs3 : List Str) (v2 : Int), I762 xs3 v2 → (if decide (v2 < (r10.length : Int)) then ((0 : Int) ≤ v2 ∧ v2 < (r10.length : Int)) ∧ (xs3.length + ([(nth r10 v2).Key] : List Str).length ≤ 268435456) ∧ (I64 (v2 + 1)) ∧ I762 (xs3 ++ ([(nth r10 v2).Key] : List Str)) (v2 + 1) ∧ mu763 (xs3 ++ ([(nth r10 v2).Key] : List Str)) (v2 + 1) < mu763 xs3 v2 else F7.E xs3 (fun m => F5.E m (fun r11 => (∃ (I963 : (List Str) → Int → (List Tag) → Prop) (mu964 : (List Str) → Int → (List Tag) → Nat), I963 xs 0 ([] : List Tag) ∧ ∀ (xs6 : List Str) (v4 : Int) (xs7 : List Tag), I963 xs6 v4 xs7 → (if decide (v4 < (r11.length : Int)) then ((0 : Int) ≤ v4 ∧ v4 < (r11.length : Int)) ∧ F67.E a (nth r11 v4) (fun r12 => F67.E b (nth r11 v4) (fun r13 => F67.E base_ (nth r11 v4) (fun r14 => (∃ (f2 : value → value → Bool) (f2_ok : value → value → Prop), (∀ x0_ x1_, f2_ok x0_ x1_ → F20.E x0_ x1_  (fun r => r = f2 x0_ x1_)) ∧ F10.E r14 r12 r13 f2 f2_ok (fun r15 r16 => (∃ (J5053 : (List Str) → Bool → Str → Prop), ((if !r16 then (([116, 97, 103, 32] : Str).length + (nth r11 v4).length ≤ 9223372036854775807) ∧ (xs6.length + ([(([116, 97, 103, 32] : Str) ++ (nth r11 v4))] : List Str).length ≤ 268435456) ∧ (if !r12.has then J5053 (xs6 ++ ([(([116, 97, 103, 32] : Str) ++ (nth r11 v4))] : List Str)) r13.has r13.val else J5053 (xs6 ++ ([(([116, 97, 103, 32] : Str) ++ (nth r11 v4))] : List Str)) r12.has r12.val) else J5053 xs6 r15.has r15.val)) ∧ ∀ (xs8 : List Str) (z3 : Bool) (z4 : Str), J5053 xs8 z3 z4 → (∃ (J5189 : (List Tag) → Prop), ((if z3 then (xs7.length + ([(⟨(nth r11 v4), z4⟩ : Tag)] : List Tag).length ≤ 268435456) ∧ J5189 (xs7 ++ ([(⟨(nth r11 v4), z4⟩ : Tag)] : List Tag)) else J5189 xs7)) ∧ ∀ (xs9 : List Tag), J5189 xs9 → (I64 (v4 + 1)) ∧ I963 xs8 (v4 + 1) xs9 ∧ mu964 xs8 (v4 + 1) xs9 < mu964 xs6 v4 xs7))))))) else F88.E (⟨a.Id, r9, xs7⟩ : Feat) (fun r17 => (if !r17 then F27.E a (fun r18 => Q r18 ([([109, 117, 99, 104] : Str)] : List Str)) else Q (⟨a.Id, r9, xs7⟩ : Feat) xs6)))))))))))))))))))))
theorem F48.calls {O : Ob} (w0 : World) (hO : Ok w0 O) (base_ : Feat) (A2 : Option Addr) (n3 c4 : Nat) (A7 : Option Addr) (n8 c9 : Nat) (hs1 : Lim base_.Id) (hp5 : Sl kPt w0 (Fr O) (.slice A2 n3 c4) base_.Shape.Pts) (dw : Sl kTag w0 (Fr O) (.slice A7 n8 c9) base_.Tags) (a : Feat) (a2 : Option Addr) (a3 a4 : Nat) (bd : Option Addr) (be bf : Nat) (ew : Lim a.Id) (c7 : Sl kPt w0 (Fr O) (.slice a2 a3 a4) a.Shape.Pts) (dx : Sl kTag w0 (Fr O) (.slice bd be bf) a.Tags) (b : Feat) (al : Option Addr) (am an : Nat) (ao : Option Addr) (ap aq : Nat) (dy : Lim b.Id) (c8 : Sl kPt w0 (Fr O) (.slice al am an) b.Shape.Pts) (dz : Sl kTag w0 (Fr O) (.slice ao ap aq) b.Tags) (Q : Feat → List Str → Prop) (h : F48.E base_ a b Q) :
  Ret Tryz.prog 53 [.agg #[vs base_.Id, vi base_.Shape.Kind, .slice A2 n3 c4, .slice A7 n8 c9], .agg #[vs a.Id, vi a.Shape.Kind, .slice a2 a3 a4, .slice bd be bf], .agg #[vs b.Id, vi b.Shape.Kind, .slice al am an, .slice ao ap aq]] w0 (fun v w' => ∃ (r0 : Feat) (r1 : List Str) (A0 : Option Addr) (n0 c0 : Nat) (A2 : Option Addr) (n2 c2 : Nat) (A4 : Option Addr) (n4 c4 : Nat), v = .tuple #[.agg #[vs r0.Id, vi r0.Shape.Kind, .slice A0 n0 c0, .slice A2 n2 c2], .slice A4 n4 c4] ∧ Q r0 r1 ∧ Gr w0 w' none ∧ Ok w' ([bk A0, bk A2, bk A4] ++ O) ∧ (∀ b, some b ∈ [bk A0, bk A2, bk A4] → w0.heap.size ≤ b) ∧ Lim r0.Id ∧ Ow kPt 114 w' ([bk A0, bk A2, bk A4] ++ O) (.slice A0 n0 c0) r0.Shape.Pts ∧ Ow kTag 106 w' ([bk A0, bk A2, bk A4] ++ O) (.slice A2 n2 c2) r0.Tags ∧ Ow Kd.str 9 w' ([bk A0, bk A2, bk A4] ++ O) (.slice A4 n4 c4) r1) := by
 unfold F48.E at h
 have H := h
 clear h
 have hc0 := Ct.init hO
 refine Ret_enter Tryz.func53 rfl 195 rfl [.cell 6 61, .tmp 7] rfl rfl ?_
 refine W_seq (W_reg (L_box [vs base_.Id, vi base_.Shape.Kind, .slice A2 n3 c4, .slice A7 n8 c9] rfl fun w34 au we hu38 wf wg => ?_))
 have wh := Fb.mk hc0.ok we wg
 have n6 := hc0.k0 wf
 refine L_box [vs a.Id, vi a.Shape.Kind, .slice a2 a3 a4, .slice bd be bf] rfl fun w43 ar wi hu47 se wj => ?_
 have wk := Fb.mk n6.ok wi wj
 have n7 := n6.k0 se
 refine L_box [vs b.Id, vi b.Shape.Kind, .slice al am an, .slice ao ap aq] rfl fun w52 bg wl hu56 sf wm => ?_
 have wn := Fb.mk n7.ok wl wm
 have sg := n7.k0 sf
 refine L_alloc [vs [], .int .i64 0, .slice none 0 0, .slice none 0 0] ze61 fun w61 aa sh hu65 si co => ?_
 have sj := sg.own si (some aa) (oglt sh hu65)
 refine L_as (.slice none 0 0) rfl (L_nil (W_seq (W_reg (L_lit (kd := Kd.str) ei81 sj ([] : List Str) (cells := []) rfl (fun _ => by kernel_rfl) fun wo ag a0 a1 ce hr74 jr cp => ?_))))
 refine L_as (.slice ag a0 a1) rfl (L_nil (W_seq (W_seq (W_reg ?_))))
 have wp := n6.stn se
 have sk := n7.stn sf
 have n9 := sg.stown _ si (oge sh)
 have oa := sj.stown _ ce hr74
 have sq := ((((wh.st wp).st sk).st n9).st oa)
 refine L_pu (P_lda ag61 sz61 cL ⟨au, 0, none⟩ [vs base_.Id, vi base_.Shape.Kind, .slice A2 n3 c4, .slice A7 n8 c9] rfl rfl (sq.cells (off := 0) rfl)) ?_
 refine L_call go64 [.agg #[vs base_.Id, vi base_.Shape.Kind, .slice A2 n3 c4, .slice A7 n8 c9]] rfl ((F88.calls wo jr.ok base_ A2 n3 c4 A7 n8 c9 hs1 (hp5.st jr.st) (dw.st jr.st) _ H).mono ?_)
 rintro _ wq ⟨r, rfl, H, ba⟩
 have g1 := jr.k0 ba
 refine L_pu (P_not r rfl) (L_mv (vb (!r)) rfl ?_)
 rcases bool_or (!r) with d4 | d4
 ·have H := ite_t H d4
  refine L_pb d4 rfl (L_pb d4 rfl (L_pb d4 rfl (L_pu (P_pick true (vb true) (by exact congrArg Value.bool d4) rfl) (L_mv (vb true) rfl (L_pass (dj := 34) rfl rfl (.inl rfl) (L_pass (dj := 34) rfl rfl (.inl rfl) (L_pass (dj := 34) rfl rfl (.inl rfl) (L_pu (P_pick true (vb true) (by exact congrArg Value.bool rfl) rfl) ?_))))))))
  refine L_mv (vb true) rfl (L_pass (dj := 39) rfl rfl (.inl rfl) (L_pass (dj := 39) rfl rfl (.inl rfl) (L_pass (dj := 39) rfl rfl (.inl rfl) (L_pass (dj := 39) rfl rfl (.inl rfl) (L_pass (dj := 39) rfl rfl (.inl rfl) (L_pu (P_pick true (vb true) (by exact congrArg Value.bool rfl) rfl) (L_mv (vb true) rfl (L_pass (dj := 46) rfl rfl (.inl rfl) ?_))))))))
  refine L_pass (dj := 46) rfl rfl (.inl rfl) (L_pass (dj := 46) rfl rfl (.inl rfl) (L_pass (dj := 46) rfl rfl (.inl rfl) (L_pass (dj := 46) rfl rfl (.inl rfl) (L_pu (P_pick true (vb true) (by exact congrArg Value.bool rfl) rfl) (L_nil (W_ct (b := true) rfl rfl ?_))))))
  refine W_seq (W_reg (L_pu (P_build (.agg #[vs ([] : Str), vi 0, .slice none 0 0, .slice none 0 0]) (fun _ => by kernel_rfl)) (L_mv (.slice ag a0 a1) rfl ?_)))
  have ws := ((co.k0 ce).k0 ba)
  refine L_stb aa 0 [vs ([] : Str), vi 0, .slice none 0 0, .slice none 0 0] [vs ([] : Str), vi 0, .slice none 0 0, .slice none 0 0] [vs ([] : Str), vi 0, .slice none 0 0, .slice none 0 0] rfl ws rfl sz61 rfl rfl rfl fun sr ss wt => ?_
  have wu := g1.wr 1 rfl ss
  refine L_as (.slice ag a0 a1) rfl (L_nil (W_ret ?_))
  have wv := wu.own (Gr.refl _ none) none (by simp)
  have ww : Ow kPt 114 sr ([bk none, bk ag, some aa] ++ O) (.slice none 0 0) [] := Ow.nil _ _ _ _
  have js := wv.own (Gr.refl _ none) none (by simp)
  have wx : Ow kTag 106 sr ([bk none, bk none, bk ag, some aa] ++ O) (.slice none 0 0) [] := Ow.nil _ _ _ _
  have wy := wt
  have wz := js.bgv wy 3 rfl
  have jt := js.drop 3 rfl
  have ob := jt.perm (.swap _ _ _)
  have w1 := jt.stp (.swap _ _ _)
  have w3 := (wz.st w1)
  have w4 := (jt.sp (js.sd (ww.so none (Gr.refl _ none) (by simp)) 1 3 rfl rfl rfl) (.swap _ _ _))
  have w5 := (jt.sp (js.sd wx 0 3 rfl rfl rfl) (.swap _ _ _))
  have w6 := (jt.sp (js.sd (((g1.sw (cp.sn ba) 0 1 rfl rfl rfl ss).so none (Gr.refl _ none) (by simp)).so none (Gr.refl _ none) (by simp)) 2 3 rfl rfl rfl) (.swap _ _ _))
  exact ⟨[.agg #[vs ([] : Str), vi 0, .slice none 0 0, .slice none 0 0], .slice ag a0 a1], ⟨_, _, rfl, w3.1.res rfl ag61 sz61, ⟨_, rfl, rfl⟩⟩, (⟨([] : Str), (⟨0, ([] : List Pt)⟩ : Shape), ([] : List Tag)⟩ : Feat), ([] : List Str), none, 0, 0, none, 0, 0, ag, a0, a1, rfl, H, ob.gr.g0, ob.ok, ob.ge, (by decide), w4, w5, w6⟩
 have H := ite_f H d4
 refine L_rb d4 rfl ?_
 have oc := jr.stn ba
 have su := ((((wk.st sk).st n9).st oa).st oc)
 refine L_pu (P_lda ag61 sz61 cL ⟨ar, 0, none⟩ [vs a.Id, vi a.Shape.Kind, .slice a2 a3 a4, .slice bd be bf] rfl rfl (su.cells (off := 0) rfl)) (L_rb d4 rfl ?_)
 refine L_call go64 [.agg #[vs a.Id, vi a.Shape.Kind, .slice a2 a3 a4, .slice bd be bf]] rfl ((F88.calls wq g1.ok a a2 a3 a4 bd be bf ew (c7.st g1.st) (dx.st g1.st) _ H).mono ?_)
 rintro _ w7 ⟨r2, rfl, H, bh⟩
 have g3 := g1.k0 bh
 refine L_rb d4 rfl (L_pu (P_not r2 rfl) (L_pu (P_pick false (vb (!r2)) (by exact congrArg Value.bool d4) rfl) (L_mv (vb (!r2)) rfl ?_)))
 rcases bool_or (!r2) with d5 | d5
 ·have H := ite_t H d5
  refine L_pb d5 rfl (L_pb d5 rfl (L_pb d5 rfl (L_pu (P_pick true (vb true) (by exact congrArg Value.bool d5) rfl) (L_mv (vb true) rfl (L_pass (dj := 39) rfl rfl (.inl rfl) (L_pass (dj := 39) rfl rfl (.inl rfl) (L_pass (dj := 39) rfl rfl (.inl rfl) (L_pass (dj := 39) rfl rfl (.inl rfl) ?_))))))))
  refine L_pass (dj := 39) rfl rfl (.inl rfl) (L_pu (P_pick true (vb true) (by exact congrArg Value.bool rfl) rfl) (L_mv (vb true) rfl (L_pass (dj := 46) rfl rfl (.inl rfl) (L_pass (dj := 46) rfl rfl (.inl rfl) (L_pass (dj := 46) rfl rfl (.inl rfl) (L_pass (dj := 46) rfl rfl (.inl rfl) (L_pass (dj := 46) rfl rfl (.inl rfl) (L_pu (P_pick true (vb true) (by exact congrArg Value.bool rfl) rfl) ?_))))))))
  refine L_nil (W_ct (b := true) rfl rfl ?_)
  refine W_seq (W_reg (L_pu (P_build (.agg #[vs ([] : Str), vi 0, .slice none 0 0, .slice none 0 0]) (fun _ => by kernel_rfl)) (L_mv (.slice ag a0 a1) rfl ?_)))
  have w8 := (((co.k0 ce).k0 ba).k0 bh)
  refine L_stb aa 0 [vs ([] : Str), vi 0, .slice none 0 0, .slice none 0 0] [vs ([] : Str), vi 0, .slice none 0 0, .slice none 0 0] [vs ([] : Str), vi 0, .slice none 0 0, .slice none 0 0] rfl w8 rfl sz61 rfl rfl rfl fun sv sy w9 => ?_
  have xa := g3.wr 1 rfl sy
  refine L_as (.slice ag a0 a1) rfl (L_nil (W_ret ?_))
  have xb := xa.own (Gr.refl _ none) none (by simp)
  have xc : Ow kPt 114 sv ([bk none, bk ag, some aa] ++ O) (.slice none 0 0) [] := Ow.nil _ _ _ _
  have ju := xb.own (Gr.refl _ none) none (by simp)
  have xd : Ow kTag 106 sv ([bk none, bk none, bk ag, some aa] ++ O) (.slice none 0 0) [] := Ow.nil _ _ _ _
  have xe := w9
  have xf := ju.bgv xe 3 rfl
  have jv := ju.drop 3 rfl
  have od := jv.perm (.swap _ _ _)
  have xg := jv.stp (.swap _ _ _)
  have xh := (xf.st xg)
  have xi := (jv.sp (ju.sd (xc.so none (Gr.refl _ none) (by simp)) 1 3 rfl rfl rfl) (.swap _ _ _))
  have xj := (jv.sp (ju.sd xd 0 3 rfl rfl rfl) (.swap _ _ _))
  have xk := (jv.sp (ju.sd (((g3.sw ((cp.sn ba).sn bh) 0 1 rfl rfl rfl sy).so none (Gr.refl _ none) (by simp)).so none (Gr.refl _ none) (by simp)) 2 3 rfl rfl rfl) (.swap _ _ _))
  exact ⟨[.agg #[vs ([] : Str), vi 0, .slice none 0 0, .slice none 0 0], .slice ag a0 a1], ⟨_, _, rfl, xh.1.res rfl ag61 sz61, ⟨_, rfl, rfl⟩⟩, (⟨([] : Str), (⟨0, ([] : List Pt)⟩ : Shape), ([] : List Tag)⟩ : Feat), ([] : List Str), none, 0, 0, none, 0, 0, ag, a0, a1, rfl, H, od.gr.g0, od.ok, od.ge, (by decide), xi, xj, xk⟩
 have H := ite_f H d5
 refine L_rb d5 rfl ?_
 have oe := g1.stn bh
 have sz := ((((wn.st n9).st oa).st oc).st oe)
 refine L_pu (P_lda ag61 sz61 cL ⟨bg, 0, none⟩ [vs b.Id, vi b.Shape.Kind, .slice al am an, .slice ao ap aq] rfl rfl (sz.cells (off := 0) rfl)) (L_rb d5 rfl ?_)
 refine L_call go64 [.agg #[vs b.Id, vi b.Shape.Kind, .slice al am an, .slice ao ap aq]] rfl ((F88.calls w7 g3.ok b al am an ao ap aq dy (c8.st g3.st) (dz.st g3.st) _ H).mono ?_)
 rintro _ alu ⟨r3, rfl, H, bl⟩
 have gk := g3.k0 bl
 refine L_rb d5 rfl (L_pu (P_not r3 rfl) (L_pu (P_pick false (vb (!r3)) (by exact congrArg Value.bool d5) rfl) (L_mv (vb (!r3)) rfl ?_)))
 rcases bool_or (!r3) with cv | cv
 ·have H := ite_t H cv
  refine L_pb cv rfl (L_pb cv rfl (L_pb cv rfl (L_pb cv rfl (L_pb cv rfl (L_pu (P_pick true (vb true) (by exact congrArg Value.bool cv) rfl) (L_mv (vb true) rfl (L_pass (dj := 46) rfl rfl (.inl rfl) (L_pass (dj := 46) rfl rfl (.inl rfl) ?_))))))))
  refine L_pass (dj := 46) rfl rfl (.inl rfl) (L_pass (dj := 46) rfl rfl (.inl rfl) (L_pass (dj := 46) rfl rfl (.inl rfl) (L_pu (P_pick true (vb true) (by exact congrArg Value.bool rfl) rfl) (L_nil (W_ct (b := true) rfl rfl ?_)))))
  refine W_seq (W_reg (L_pu (P_build (.agg #[vs ([] : Str), vi 0, .slice none 0 0, .slice none 0 0]) (fun _ => by kernel_rfl)) (L_mv (.slice ag a0 a1) rfl ?_)))
  have xl := ((((co.k0 ce).k0 ba).k0 bh).k0 bl)
  refine L_stb aa 0 [vs ([] : Str), vi 0, .slice none 0 0, .slice none 0 0] [vs ([] : Str), vi 0, .slice none 0 0, .slice none 0 0] [vs ([] : Str), vi 0, .slice none 0 0, .slice none 0 0] rfl xl rfl sz61 rfl rfl rfl fun s0 s1 xm => ?_
  have xn := gk.wr 1 rfl s1
  refine L_as (.slice ag a0 a1) rfl (L_nil (W_ret ?_))
  have xo := xn.own (Gr.refl _ none) none (by simp)
  have xp : Ow kPt 114 s0 ([bk none, bk ag, some aa] ++ O) (.slice none 0 0) [] := Ow.nil _ _ _ _
  have jw := xo.own (Gr.refl _ none) none (by simp)
  have xq : Ow kTag 106 s0 ([bk none, bk none, bk ag, some aa] ++ O) (.slice none 0 0) [] := Ow.nil _ _ _ _
  have xr := xm
  have xt := jw.bgv xr 3 rfl
  have jx := jw.drop 3 rfl
  have og := jx.perm (.swap _ _ _)
  have xu := jx.stp (.swap _ _ _)
  have xv := (xt.st xu)
  have xw := (jx.sp (jw.sd (xp.so none (Gr.refl _ none) (by simp)) 1 3 rfl rfl rfl) (.swap _ _ _))
  have xx := (jx.sp (jw.sd xq 0 3 rfl rfl rfl) (.swap _ _ _))
  have xy := (jx.sp (jw.sd (((gk.sw (((cp.sn ba).sn bh).sn bl) 0 1 rfl rfl rfl s1).so none (Gr.refl _ none) (by simp)).so none (Gr.refl _ none) (by simp)) 2 3 rfl rfl rfl) (.swap _ _ _))
  exact ⟨[.agg #[vs ([] : Str), vi 0, .slice none 0 0, .slice none 0 0], .slice ag a0 a1], ⟨_, _, rfl, xv.1.res rfl ag61 sz61, ⟨_, rfl, rfl⟩⟩, (⟨([] : Str), (⟨0, ([] : List Pt)⟩ : Shape), ([] : List Tag)⟩ : Feat), ([] : List Str), none, 0, 0, none, 0, 0, ag, a0, a1, rfl, H, og.gr.g0, og.ok, og.ge, (by decide), xw, xx, xy⟩
 have H := ite_f H cv
 refine L_rb cv rfl (L_pu (P_fa fa61_0 ⟨au, 0, none⟩ ⟨au, 0, none⟩ rfl rfl) (L_rb cv rfl ?_))
 have oh := g3.stn bl
 have oi := (((sq.st oc).st oe).st oh)
 refine L_pu (P_ld ag9 cL ⟨au, 0, none⟩ (vs base_.Id) rfl (oi.cell rfl)) (L_rb cv rfl (L_pu (P_fa fa61_0 ⟨ar, 0, none⟩ ⟨ar, 0, none⟩ rfl rfl) (L_rb cv rfl ?_)))
 have oj := ((su.st oe).st oh)
 refine L_pu (P_ld ag9 cL ⟨ar, 0, none⟩ (vs a.Id) rfl (oj.cell rfl)) (L_rb cv rfl (L_pu (P_scmp base_.Id a.Id (base_.Id != a.Id) rfl rfl rfl) (L_pu (P_pick false (vb (base_.Id != a.Id)) (by exact congrArg Value.bool cv) rfl) (L_mv (vb (base_.Id != a.Id)) rfl ?_))))
 rcases bool_or (base_.Id != a.Id) with cw | cw
 ·have H := ite_t H cw
  refine L_pb cw rfl (L_pb cw rfl (L_pb cw rfl (L_pb cw rfl (L_pb cw rfl (L_pu (P_pick true (vb true) (by exact congrArg Value.bool cw) rfl) (L_nil (W_ct (b := true) rfl rfl ?_)))))))
  refine W_seq (W_reg (L_pu (P_build (.agg #[vs ([] : Str), vi 0, .slice none 0 0, .slice none 0 0]) (fun _ => by kernel_rfl)) (L_mv (.slice ag a0 a1) rfl ?_)))
  have xz := ((((co.k0 ce).k0 ba).k0 bh).k0 bl)
  refine L_stb aa 0 [vs ([] : Str), vi 0, .slice none 0 0, .slice none 0 0] [vs ([] : Str), vi 0, .slice none 0 0, .slice none 0 0] [vs ([] : Str), vi 0, .slice none 0 0, .slice none 0 0] rfl xz rfl sz61 rfl rfl rfl fun s2 s3 x0 => ?_
  have x1 := gk.wr 1 rfl s3
  refine L_as (.slice ag a0 a1) rfl (L_nil (W_ret ?_))
  have x2 := x1.own (Gr.refl _ none) none (by simp)
  have x3 : Ow kPt 114 s2 ([bk none, bk ag, some aa] ++ O) (.slice none 0 0) [] := Ow.nil _ _ _ _
  have jy := x2.own (Gr.refl _ none) none (by simp)
  have x4 : Ow kTag 106 s2 ([bk none, bk none, bk ag, some aa] ++ O) (.slice none 0 0) [] := Ow.nil _ _ _ _
  have x5 := x0
  have x6 := jy.bgv x5 3 rfl
  have jz := jy.drop 3 rfl
  have ol := jz.perm (.swap _ _ _)
  have x7 := jz.stp (.swap _ _ _)
  have x8 := (x6.st x7)
  have x9 := (jz.sp (jy.sd (x3.so none (Gr.refl _ none) (by simp)) 1 3 rfl rfl rfl) (.swap _ _ _))
  have ya := (jz.sp (jy.sd x4 0 3 rfl rfl rfl) (.swap _ _ _))
  have yb := (jz.sp (jy.sd (((gk.sw (((cp.sn ba).sn bh).sn bl) 0 1 rfl rfl rfl s3).so none (Gr.refl _ none) (by simp)).so none (Gr.refl _ none) (by simp)) 2 3 rfl rfl rfl) (.swap _ _ _))
  exact ⟨[.agg #[vs ([] : Str), vi 0, .slice none 0 0, .slice none 0 0], .slice ag a0 a1], ⟨_, _, rfl, x8.1.res rfl ag61 sz61, ⟨_, rfl, rfl⟩⟩, (⟨([] : Str), (⟨0, ([] : List Pt)⟩ : Shape), ([] : List Tag)⟩ : Feat), ([] : List Str), none, 0, 0, none, 0, 0, ag, a0, a1, rfl, H, ol.gr.g0, ol.ok, ol.ge, (by decide), x9, ya, yb⟩
 have H := ite_f H cw
 refine L_rb cw rfl (L_pu (P_fa fa61_0 ⟨au, 0, none⟩ ⟨au, 0, none⟩ rfl rfl) (L_rb cw rfl (L_pu (P_ld ag9 cL ⟨au, 0, none⟩ (vs base_.Id) rfl (oi.cell rfl)) (L_rb cw rfl (L_pu (P_fa fa61_0 ⟨bg, 0, none⟩ ⟨bg, 0, none⟩ rfl rfl) (L_rb cw rfl ?_))))))
 have s4 := (sz.st oh)
 refine L_pu (P_ld ag9 cL ⟨bg, 0, none⟩ (vs b.Id) rfl (s4.cell rfl)) (L_rb cw rfl (L_pu (P_scmp base_.Id b.Id (base_.Id != b.Id) rfl rfl rfl) (L_pu (P_pick false (vb (base_.Id != b.Id)) (by exact congrArg Value.bool cw) rfl) (L_nil ?_))))
 refine W_cond (base_.Id != b.Id) rfl (fun om => ?_) (fun om => ?_)
 ·have H := ite_t H om
  refine W_seq (W_reg (L_pu (P_build (.agg #[vs ([] : Str), vi 0, .slice none 0 0, .slice none 0 0]) (fun _ => by kernel_rfl)) (L_mv (.slice ag a0 a1) rfl ?_)))
  have yc := ((((co.k0 ce).k0 ba).k0 bh).k0 bl)
  refine L_stb aa 0 [vs ([] : Str), vi 0, .slice none 0 0, .slice none 0 0] [vs ([] : Str), vi 0, .slice none 0 0, .slice none 0 0] [vs ([] : Str), vi 0, .slice none 0 0, .slice none 0 0] rfl yc rfl sz61 rfl rfl rfl fun s5 s6 yd => ?_
  have ye := gk.wr 1 rfl s6
  refine L_as (.slice ag a0 a1) rfl (L_nil (W_ret ?_))
  have yf := ye.own (Gr.refl _ none) none (by simp)
  have yg : Ow kPt 114 s5 ([bk none, bk ag, some aa] ++ O) (.slice none 0 0) [] := Ow.nil _ _ _ _
  have j0 := yf.own (Gr.refl _ none) none (by simp)
  have yh : Ow kTag 106 s5 ([bk none, bk none, bk ag, some aa] ++ O) (.slice none 0 0) [] := Ow.nil _ _ _ _
  have yi := yd
  have yj := j0.bgv yi 3 rfl
  have j1 := j0.drop 3 rfl
  have on := j1.perm (.swap _ _ _)
  have yk := j1.stp (.swap _ _ _)
  have yl := (yj.st yk)
  have ym := (j1.sp (j0.sd (yg.so none (Gr.refl _ none) (by simp)) 1 3 rfl rfl rfl) (.swap _ _ _))
  have yn := (j1.sp (j0.sd yh 0 3 rfl rfl rfl) (.swap _ _ _))
  have yo := (j1.sp (j0.sd (((gk.sw (((cp.sn ba).sn bh).sn bl) 0 1 rfl rfl rfl s6).so none (Gr.refl _ none) (by simp)).so none (Gr.refl _ none) (by simp)) 2 3 rfl rfl rfl) (.swap _ _ _))
  exact ⟨[.agg #[vs ([] : Str), vi 0, .slice none 0 0, .slice none 0 0], .slice ag a0 a1], ⟨_, _, rfl, yl.1.res rfl ag61 sz61, ⟨_, rfl, rfl⟩⟩, (⟨([] : Str), (⟨0, ([] : List Pt)⟩ : Shape), ([] : List Tag)⟩ : Feat), ([] : List Str), none, 0, 0, none, 0, 0, ag, a0, a1, rfl, H, on.gr.g0, on.ok, on.ge, (by decide), ym, yn, yo⟩
 have H := ite_f H om
 refine W_skip (W_seq (W_reg (L_pu (P_fa fa61_0 ⟨ar, 0, none⟩ ⟨ar, 0, none⟩ rfl rfl) (L_pu (P_ld ag9 cL ⟨ar, 0, none⟩ (vs a.Id) rfl (oj.cell rfl)) (L_lit (kd := kTag) ei59 gk ([] : List Tag) (cells := []) rfl (fun _ => by kernel_rfl) fun alv af eo ep bs hr219 s7 d6 => ?_)))))
 refine L_pu (P_build (.agg #[vs a.Id, vi 0, .slice none 0 0, .slice af eo ep]) (fun _ => by kernel_rfl)) (L_alloc [vs [], .int .i64 0, .slice none 0 0, .slice none 0 0] ze61 fun alw ab bq hu227 a5 yp => ?_)
 have a6 := s7.own a5 (some ab) (oglt bq hu227)
 refine L_stb ab 0 [vs ([] : Str), vi 0, .slice none 0 0, .slice none 0 0] [vs a.Id, vi 0, .slice none 0 0, .slice af eo ep] [vs a.Id, vi 0, .slice none 0 0, .slice af eo ep] rfl yp rfl sz61 rfl rfl rfl fun s8 a7 d7 => ?_
 have g4 := a6.wr 0 rfl a7
 refine L_nil (W_seq (W_reg (L_pu (P_fa fa61_1 ⟨au, 0, none⟩ ⟨au, 1, none⟩ rfl rfl) ?_)))
 have oo := gk.stown _ bs hr219
 have oq := s7.stown _ a5 (oge bq)
 have os := a6.stw 0 rfl a7
 have ot := (((oi.st oo).st oq).st os)
 refine L_pu (P_lda ag58 sz58 cL ⟨au, 1, none⟩ [vi base_.Shape.Kind, .slice A2 n3 c4] rfl rfl (ot.cells (off := 1) rfl)) (L_pu (P_fa fa61_1 ⟨ar, 0, none⟩ ⟨ar, 1, none⟩ rfl rfl) ?_)
 have ou := (((oj.st oo).st oq).st os)
 refine L_pu (P_lda ag58 sz58 cL ⟨ar, 1, none⟩ [vi a.Shape.Kind, .slice a2 a3 a4] rfl rfl (ou.cells (off := 1) rfl)) (L_pu (P_fa fa61_1 ⟨bg, 0, none⟩ ⟨bg, 1, none⟩ rfl rfl) ?_)
 have j2 := (((s4.st oo).st oq).st os)
 refine L_pu (P_lda ag58 sz58 cL ⟨bg, 1, none⟩ [vi b.Shape.Kind, .slice al am an] rfl rfl (j2.cells (off := 1) rfl)) ?_
 obtain ⟨f, f_ok, yq, H⟩ := H
 have yr : ∀ (w : World) (L : Ob), Ct [] s8 w L ([some ab, bk af, bk ag, some aa] ++ O) → ∀ (x0_ : Shape) (l9 : Option Addr) (ma mb : Nat) (s9 : Sl kPt w (Fr (L ++ ([some ab, bk af, bk ag, some aa] ++ O))) (.slice l9 ma mb) x0_.Pts) (x1_ : Shape) (mc : Option Addr) (md me : Nat) (ta : Sl kPt w (Fr (L ++ ([some ab, bk af, bk ag, some aa] ++ O))) (.slice mc md me) x1_.Pts), f_ok x0_ x1_ → Ret Tryz.prog 68 ([.agg #[vi x0_.Kind, .slice l9 ma mb], .agg #[vi x1_.Kind, .slice mc md me]] ++ []) w (fun v w' => v = vb (f x0_ x1_) ∧ Gr w w' none) := by
  intro w L c x0_ l9 ma mb s9 x1_ mc md me ta hok
  refine (F26.calls w c.ok x0_ l9 ma mb s9 x1_ mc md me ta  _ (yq x0_ x1_ hok)).mono ?_
  rintro _ w2 ⟨r, rfl, rfl, g2⟩
  exact ⟨rfl, g2⟩
 refine L_call go81 [.agg #[vi base_.Shape.Kind, .slice A2 n3 c4], .agg #[vi a.Shape.Kind, .slice a2 a3 a4], .agg #[vi b.Shape.Kind, .slice al am an], .func (.func 68) #[] #[]] rfl ((F9.calls s8 g4.ok base_.Shape A2 n3 c4 (hp5.st g4.st) a.Shape a2 a3 a4 (c7.st g4.st) b.Shape al am an (c8.st g4.st) 68 [] f f_ok go68 yr _ H).mono ?_)
 rintro _ alx ⟨r4, r5, cq, cr, cs, rfl, H, ah, ex⟩
 have ov := g4.k0 ah
 refine L_mv (.tuple #[.agg #[vi r4.Kind, .slice cq cr cs], vb r5]) rfl (L_pu (P_ext [.agg #[vi r4.Kind, .slice cq cr cs], vb r5] 0 (.agg #[vi r4.Kind, .slice cq cr cs]) rfl rfl) (L_pu (P_ext [.agg #[vi r4.Kind, .slice cq cr cs], vb r5] 1 (vb r5) rfl rfl) (L_alloc [.int .i64 0, .slice none 0 0] ze58 fun aly bn bp hu258 ai ys => ?_)))
 have aj := ov.own ai (some bn) (oglt bp hu258)
 refine L_stb bn 0 [vi 0, .slice none 0 0] [vi r4.Kind, .slice cq cr cs] [vi r4.Kind, .slice cq cr cs] rfl ys rfl sz58 rfl rfl rfl fun yt ak eq => ?_
 have bi := aj.wr 0 rfl ak
 refine L_as (vb r5) rfl (L_nil (W_seq (W_seq (W_reg (L_mv (vb r5) rfl (L_pu (P_not r5 rfl) (L_nil ?_)))))))
 obtain ⟨yu, H, yv⟩ := H
 refine W_join (J := (fun t cb => ∃ (xs : List Str) (av : Option Addr) (i0 : Nat) (i1 : Nat) (z : Int) (z2 : List Pt) (i2 : Option Addr) (i3 : Nat) (i4 : Nat), yu xs z z2 ∧ Has t [(3, .pointer (some ⟨au, 0, none⟩)), (4, .pointer (some ⟨ar, 0, none⟩)), (5, .pointer (some ⟨bg, 0, none⟩)), (6, .pointer (some ⟨aa, 0, none⟩)), (8, .slice av i0 i1), (9, .pointer (some ⟨ab, 0, none⟩)), (10, .pointer (some ⟨bn, 0, none⟩))] ∧ Ct [] w0 cb [some bn, some ab, bk af, bk av, some aa] O ∧ Sl kPt cb (Fr ([some bn, some ab, bk af, bk av, some aa] ++ O)) (.slice a2 a3 a4) a.Shape.Pts ∧ Sl kTag cb (Fr ([some bn, some ab, bk af, bk av, some aa] ++ O)) (.slice bd be bf) a.Tags ∧ Sl kPt cb (Fr ([some bn, some ab, bk af, bk av, some aa] ++ O)) (.slice al am an) b.Shape.Pts ∧ Sl kTag cb (Fr ([some bn, some ab, bk af, bk av, some aa] ++ O)) (.slice ao ap aq) b.Tags ∧ Sl kPt cb (Fr ([some bn, some ab, bk af, bk av, some aa] ++ O)) (.slice A2 n3 c4) base_.Shape.Pts ∧ Sl kTag cb (Fr ([some bn, some ab, bk af, bk av, some aa] ++ O)) (.slice A7 n8 c9) base_.Tags ∧ Sl kPt cb (Fr ([some bn, some ab, bk af, bk av, some aa] ++ O)) (.slice i2 i3 i4) z2 ∧ Ow Kd.str 9 cb ([some bn, some ab, bk af, bk av, some aa] ++ O) (.slice av i0 i1) xs ∧ Ow kTag 106 cb ([some bn, some ab, bk af, bk av, some aa] ++ O) (.slice af eo ep) ([] : List Tag) ∧ Fb cb ([some bn, some ab, bk af, bk av, some aa] ++ O) au [vs base_.Id, vi base_.Shape.Kind, .slice A2 n3 c4, .slice A7 n8 c9] ∧ Fb cb ([some bn, some ab, bk af, bk av, some aa] ++ O) ar [vs a.Id, vi a.Shape.Kind, .slice a2 a3 a4, .slice bd be bf] ∧ Fb cb ([some bn, some ab, bk af, bk av, some aa] ++ O) bg [vs b.Id, vi b.Shape.Kind, .slice al am an, .slice ao ap aq] ∧ Bx cb aa [vs ([] : Str), vi 0, .slice none 0 0, .slice none 0 0] ∧ Bx cb ab [vs a.Id, vi 0, .slice none 0 0, .slice af eo ep] ∧ Bx cb bn [vi z, .slice i2 i3 i4])) ?_ ?_
 ·refine W_cond (!r5) rfl (fun ow => ?_) (fun ow => ?_)
  ·have H := ite_t H ow
   refine W_seq (W_reg (L_as (vb false) rfl (L_nil (W_seq (W_seq (W_reg (L_pu (P_fa fa61_1 ⟨au, 0, none⟩ ⟨au, 1, none⟩ rfl rfl) (L_pu (P_fa fa58_0 ⟨au, 1, none⟩ ⟨au, 1, none⟩ rfl rfl) ?_))))))))
   have j3 := g4.stn ah
   have dh := ov.stown _ ai (oge bp)
   have di := aj.stw 0 rfl ak
   have dk := (((ot.st j3).st dh).st di)
   refine L_pu (P_ld ag3 cL ⟨au, 1, none⟩ (vi base_.Shape.Kind) rfl (dk.cell rfl)) (L_pu (P_fa fa61_1 ⟨ar, 0, none⟩ ⟨ar, 1, none⟩ rfl rfl) (L_pu (P_fa fa58_0 ⟨ar, 1, none⟩ ⟨ar, 1, none⟩ rfl rfl) ?_))
   have g5 := (((ou.st j3).st dh).st di)
   refine L_pu (P_ld ag3 cL ⟨ar, 1, none⟩ (vi a.Shape.Kind) rfl (g5.cell rfl)) (L_pu (P_cmp base_.Shape.Kind a.Shape.Kind (base_.Shape.Kind == a.Shape.Kind) rfl rfl rfl) (L_mv (vb (base_.Shape.Kind == a.Shape.Kind)) rfl ?_))
   rcases bool_or (base_.Shape.Kind == a.Shape.Kind) with b4 | b4
   ·have H := ite_t H b4
    refine L_rb b4 rfl (L_pu (P_fa fa61_1 ⟨au, 0, none⟩ ⟨au, 1, none⟩ rfl rfl) (L_rb b4 rfl (L_pu (P_fa fa58_0 ⟨au, 1, none⟩ ⟨au, 1, none⟩ rfl rfl) (L_rb b4 rfl (L_pu (P_ld ag3 cL ⟨au, 1, none⟩ (vi base_.Shape.Kind) rfl (dk.cell rfl)) (L_rb b4 rfl (L_pu (P_fa fa61_1 ⟨bg, 0, none⟩ ⟨bg, 1, none⟩ rfl rfl) (L_rb b4 rfl ?_))))))))
    refine L_pu (P_fa fa58_0 ⟨bg, 1, none⟩ ⟨bg, 1, none⟩ rfl rfl) (L_rb b4 rfl ?_)
    have er := (((j2.st j3).st dh).st di)
    refine L_pu (P_ld ag3 cL ⟨bg, 1, none⟩ (vi b.Shape.Kind) rfl (er.cell rfl)) (L_rb b4 rfl (L_pu (P_cmp base_.Shape.Kind b.Shape.Kind (base_.Shape.Kind == b.Shape.Kind) rfl rfl rfl) (L_pu (P_pick true (vb (base_.Shape.Kind == b.Shape.Kind)) (by exact congrArg Value.bool b4) rfl) (L_nil ?_))))
    refine W_cond (base_.Shape.Kind == b.Shape.Kind) rfl (fun ox => ?_) (fun ox => ?_)
    ·have H := ite_t H ox
     refine W_seq (W_reg (L_pu (P_fa fa61_1 ⟨au, 0, none⟩ ⟨au, 1, none⟩ rfl rfl) (L_pu (P_fa fa58_1 ⟨au, 1, none⟩ ⟨au, 2, none⟩ rfl rfl) (L_pu (P_ld ag56 cL ⟨au, 2, none⟩ (.slice A2 n3 c4) rfl (dk.cell rfl)) (L_pu (P_fa fa61_1 ⟨ar, 0, none⟩ ⟨ar, 1, none⟩ rfl rfl) (L_pu (P_fa fa58_1 ⟨ar, 1, none⟩ ⟨ar, 2, none⟩ rfl rfl) (L_pu (P_ld ag56 cL ⟨ar, 2, none⟩ (.slice a2 a3 a4) rfl (g5.cell rfl)) (L_pu (P_fa fa61_1 ⟨bg, 0, none⟩ ⟨bg, 1, none⟩ rfl rfl) ?_))))))))
     refine L_pu (P_fa fa58_1 ⟨bg, 1, none⟩ ⟨bg, 2, none⟩ rfl rfl) (L_pu (P_ld ag56 cL ⟨bg, 2, none⟩ (.slice al am an) rfl (er.cell rfl)) ?_)
     refine L_call go82 [.slice A2 n3 c4, .slice a2 a3 a4, .slice al am an] rfl ((F46.calls yt bi.ok base_.Shape.Pts A2 n3 c4 (hp5.st bi.st) a.Shape.Pts a2 a3 a4 (c7.st bi.st) b.Shape.Pts al am an (c8.st bi.st) _ H).mono ?_)
     rintro _ alz ⟨r6, r7, bv, cf, cg, rfl, H, bj, yw, da, oy⟩
     have g6 := bi.owns bj yw da
     refine L_mv (.tuple #[.slice bv cf cg, vb r7]) rfl (L_pu (P_ext [.slice bv cf cg, vb r7] 0 (.slice bv cf cg) rfl rfl) (L_pu (P_ext [.slice bv cf cg, vb r7] 1 (vb r7) rfl rfl) (L_as (.slice bv cf cg) rfl (L_as (vb r7) rfl (L_nil (W_seq (W_reg (L_pu (P_fa fa61_1 ⟨ar, 0, none⟩ ⟨ar, 1, none⟩ rfl rfl) ?_))))))))
     refine L_pu (P_fa fa58_0 ⟨ar, 1, none⟩ ⟨ar, 1, none⟩ rfl rfl) ?_
     have ch := bi.stos bj da
     have g7 := (g5.st ch)
     refine L_pu (P_ld ag3 cL ⟨ar, 1, none⟩ (vi a.Shape.Kind) rfl (g7.cell rfl)) (L_mv (.slice bv cf cg) rfl (L_pu (P_build (.agg #[vi a.Shape.Kind, .slice bv cf cg]) (fun _ => by kernel_rfl)) (L_alloc [.int .i64 0, .slice none 0 0] ze58 fun al0 gl bt hu326 aw yx => ?_)))
     have ax := g6.own aw (some gl) (oglt bt hu326)
     refine L_stb gl 0 [vi 0, .slice none 0 0] [vi a.Shape.Kind, .slice bv cf cg] [vi a.Shape.Kind, .slice bv cf cg] rfl yx rfl sz58 rfl rfl rfl fun yy ay tb => ?_
     have dl := ax.wr 0 rfl ay
     refine L_nil (W_seq (W_reg (L_mv (vb r7) rfl (L_mv (vb r7) rfl ?_))))
     rcases bool_or r7 with ey | ey
     ·have H := ite_t H ey
      refine L_rb ey rfl (L_pu (P_lda ag58 sz58 cL ⟨gl, 0, none⟩ [vi a.Shape.Kind, .slice bv cf cg] rfl rfl (tb.cells (off := 0) rfl)) (L_rb ey rfl ?_))
      have yz := (ax.sw (oy.so _ aw (oge bt)) 1 0 rfl rfl rfl ay)
      have y0 := dl.gv yz 1 rfl
      have y1 := dl.drop 1 rfl
      refine L_call go83 [.agg #[vi a.Shape.Kind, .slice bv cf cg]] rfl ((F56.calls yy y1.ok (⟨a.Shape.Kind, r6⟩ : Shape) bv cf cg y0 _ H).mono ?_)
      rintro _ al1 ⟨r8, rfl, H, bo⟩
      have b5 := dl.k0 bo
      refine L_pu (P_pick true (vb r8) (by exact congrArg Value.bool ey) rfl) (L_nil ?_)
      refine W_cond r8 rfl (fun oz => ?_) (fun oz => ?_)
      ·have H := ite_t H oz
       refine W_reg ?_
       have y2 := (tb.k0 bo)
       refine L_pu (P_lda ag58 sz58 cL ⟨gl, 0, none⟩ [vi a.Shape.Kind, .slice bv cf cg] rfl rfl (y2.cells (off := 0) rfl)) ?_
       have y3 := ((ax.bm ((eq.k0 bj).k0 aw) 2 0 rfl rfl rfl ay).k0 bo)
       refine L_stb bn 0 [vi r4.Kind, .slice cq cr cs] [vi a.Shape.Kind, .slice bv cf cg] [vi a.Shape.Kind, .slice bv cf cg] rfl y3 rfl sz58 rfl rfl rfl fun al2 dm tc => ?_
       have g8 := b5.wr 2 rfl dm
       refine L_as (vb true) rfl (L_nil (W_seq (W_reg (L_mv (vb true) rfl (L_pu (P_not true rfl) (L_nil ?_))))))
       refine W_cond (!true) rfl (fun o0 => ?_) (fun o0 => ?_)
       ·have H := ite_t H o0
        refine W_reg (L_mv (.slice ag a0 a1) rfl (L_lit (kd := Kd.str) ei81 g8 ([([115, 104, 97, 112, 101] : Str)] : List Str) (cells := [vs ([115, 104, 97, 112, 101] : Str)]) ⟨[vs ([115, 104, 97, 112, 101] : Str)], _, rfl, ⟨rfl, (by decide : Lim ([115, 104, 97, 112, 101] : Str))⟩, rfl⟩ (fun _ => by kernel_rfl) fun al3 y4 y5 y6 g9 hr358 i5 y7 => ?_))
        obtain ⟨y8, H⟩ := H
        have y9 := ((b5.sw ((ax.sw (((aj.sw (((a6.sw (((((cp.sn ba).sn bh).sn bl).so _ bs hr219).so _ a5 (oge bq)) 2 0 rfl rfl rfl a7).sn ah).so _ ai (oge bp)) 3 0 rfl rfl rfl ak).sos bj da).so _ aw (oge bt)) 5 0 rfl rfl rfl ay).sn bo) 5 2 rfl rfl rfl dm).so _ g9 hr358)
        refine L_app ei81 i5 (.slice ag a0 a1) ([] : List Str) ([([115, 104, 97, 112, 101] : Str)] : List Str) rfl y9 (.slice y4 y5 y6) rfl y7.sx 6 rfl y8 fun za o1 td te j4 j5 j6 zb => ?_
        refine L_as (.slice o1 td te) rfl (L_nil ?_)
        have j7 := j6.drop 0 rfl
        have j8 := j7.drop 0 rfl
        have zc := (j7.sd (j6.sd (i5.sm ((b5.sw ((ax.sw (oy.so _ aw (oge bt)) 1 0 rfl rfl rfl ay).sn bo) 1 2 rfl rfl rfl dm).so _ g9 hr358) 2 6 rfl rfl rfl j4 j5) 2 0 rfl rfl rfl) 1 0 rfl rfl rfl)
        have zd := j8.gv zc 0 rfl
        have ha : Ct [] w0 za [some bn, some ab, bk af, bk o1, some aa] O := j8.drop 0 rfl
        have ze := (j8.sd (j7.sd (j6.sd zb 6 0 rfl rfl rfl) 5 0 rfl rfl rfl) 4 0 rfl rfl rfl)
        have zf := (j8.sd (j7.sd (j6.sd (i5.sm ((b5.sw ((ax.sw (((aj.sw (((a6.sw (d6.so _ a5 (oge bq)) 1 0 rfl rfl rfl a7).sn ah).so _ ai (oge bp)) 2 0 rfl rfl rfl ak).sos bj da).so _ aw (oge bt)) 4 0 rfl rfl rfl ay).sn bo) 4 2 rfl rfl rfl dm).so _ g9 hr358) 5 6 rfl rfl rfl j4 j5) 5 0 rfl rfl rfl) 4 0 rfl rfl rfl) 3 0 rfl rfl rfl)
        have o2 := g6.stown _ aw (oge bt)
        have o3 := ax.stw 0 rfl ay
        have o4 := dl.stn bo
        have o5 := b5.stw 2 rfl dm
        have o6 := g8.stown _ g9 hr358
        have o7 := j6.std 0 rfl
        have o8 := j7.std 0 rfl
        have o9 := j8.std 0 rfl
        have zg := ((((((((((dk.st ch).st o2).st o3).st o4).st o5).st o6).st j5).st o7).st o8).st o9)
        have zh := (((((((((g7.st o2).st o3).st o4).st o5).st o6).st j5).st o7).st o8).st o9)
        have zi := ((((((((((er.st ch).st o2).st o3).st o4).st o5).st o6).st j5).st o7).st o8).st o9)
        have zj := (i5.bm ((b5.bm ((ax.bm (((aj.bm (((a6.bm ((((((co.k0 ce).k0 ba).k0 bh).k0 bl).k0 bs).k0 a5) 3 0 rfl rfl rfl a7).k0 ah).k0 ai) 4 0 rfl rfl rfl ak).k0 bj).k0 aw) 6 0 rfl rfl rfl ay).k0 bo) 6 2 rfl rfl rfl dm).k0 g9) 7 6 rfl rfl rfl j4)
        have zk := (i5.bm ((b5.bm ((ax.bm (((aj.bm ((d7.k0 ah).k0 ai) 1 0 rfl rfl rfl ak).k0 bj).k0 aw) 3 0 rfl rfl rfl ay).k0 bo) 3 2 rfl rfl rfl dm).k0 g9) 4 6 rfl rfl rfl j4)
        have zl := (i5.bm (tc.k0 g9) 3 6 rfl rfl rfl j4)
        exact ⟨(([] : List Str) ++ ([([115, 104, 97, 112, 101] : Str)] : List Str)), o1, td, te, a.Shape.Kind, r6, bv, cf, cg, H, (hasI rfl), ha, (c7.st ha.st), (dx.st ha.st), (c8.st ha.st), (dz.st ha.st), (hp5.st ha.st), (dw.st ha.st), zd, ze, zf, zg, zh, zi, zj, zk, zl⟩
       have H := ite_f H o0
       refine W_skip ?_
       have j9 := g8.drop 0 rfl
       have zm := (g8.sd (b5.sw ((ax.sw (oy.so _ aw (oge bt)) 1 0 rfl rfl rfl ay).sn bo) 1 2 rfl rfl rfl dm) 1 0 rfl rfl rfl)
       have zn := j9.gv zm 0 rfl
       have hb := j9.drop 0 rfl
       have zo := (j9.sd (g8.sd (b5.sw ((ax.sw (((aj.sw (((a6.sw (((((cp.sn ba).sn bh).sn bl).so _ bs hr219).so _ a5 (oge bq)) 2 0 rfl rfl rfl a7).sn ah).so _ ai (oge bp)) 3 0 rfl rfl rfl ak).sos bj da).so _ aw (oge bt)) 5 0 rfl rfl rfl ay).sn bo) 5 2 rfl rfl rfl dm) 5 0 rfl rfl rfl) 4 0 rfl rfl rfl)
       have zp := (j9.sd (g8.sd (b5.sw ((ax.sw (((aj.sw (((a6.sw (d6.so _ a5 (oge bq)) 1 0 rfl rfl rfl a7).sn ah).so _ ai (oge bp)) 2 0 rfl rfl rfl ak).sos bj da).so _ aw (oge bt)) 4 0 rfl rfl rfl ay).sn bo) 4 2 rfl rfl rfl dm) 4 0 rfl rfl rfl) 3 0 rfl rfl rfl)
       have pa := g6.stown _ aw (oge bt)
       have pb := ax.stw 0 rfl ay
       have pd := dl.stn bo
       have pe := b5.stw 2 rfl dm
       have pf := g8.std 0 rfl
       have pg := j9.std 0 rfl
       have zq := (((((((dk.st ch).st pa).st pb).st pd).st pe).st pf).st pg)
       have zr := ((((((g7.st pa).st pb).st pd).st pe).st pf).st pg)
       have zs := (((((((er.st ch).st pa).st pb).st pd).st pe).st pf).st pg)
       have zt := (b5.bm ((ax.bm (((aj.bm (((a6.bm ((((((co.k0 ce).k0 ba).k0 bh).k0 bl).k0 bs).k0 a5) 3 0 rfl rfl rfl a7).k0 ah).k0 ai) 4 0 rfl rfl rfl ak).k0 bj).k0 aw) 6 0 rfl rfl rfl ay).k0 bo) 6 2 rfl rfl rfl dm)
       have zu := (b5.bm ((ax.bm (((aj.bm ((d7.k0 ah).k0 ai) 1 0 rfl rfl rfl ak).k0 bj).k0 aw) 3 0 rfl rfl rfl ay).k0 bo) 3 2 rfl rfl rfl dm)
       have zv := tc
       exact ⟨([] : List Str), ag, a0, a1, a.Shape.Kind, r6, bv, cf, cg, H, (hasI rfl), hb, (c7.st hb.st), (dx.st hb.st), (c8.st hb.st), (dz.st hb.st), (hp5.st hb.st), (dw.st hb.st), zn, zo, zp, zq, zr, zs, zt, zu, zv⟩
      have H := ite_f H oz
      refine W_skip (W_seq (W_reg (L_mv (vb false) rfl (L_pu (P_not false rfl) (L_nil ?_)))))
      refine W_cond (!false) rfl (fun ph => ?_) (fun ph => ?_)
      ·have H := ite_t H ph
       refine W_reg (L_mv (.slice ag a0 a1) rfl (L_lit (kd := Kd.str) ei81 b5 ([([115, 104, 97, 112, 101] : Str)] : List Str) (cells := [vs ([115, 104, 97, 112, 101] : Str)]) ⟨[vs ([115, 104, 97, 112, 101] : Str)], _, rfl, ⟨rfl, (by decide : Lim ([115, 104, 97, 112, 101] : Str))⟩, rfl⟩ (fun _ => by kernel_rfl) fun al4 pi zw zx i6 hr420 ka zy => ?_))
       obtain ⟨zz, H⟩ := H
       have z0 := (((ax.sw (((aj.sw (((a6.sw (((((cp.sn ba).sn bh).sn bl).so _ bs hr219).so _ a5 (oge bq)) 2 0 rfl rfl rfl a7).sn ah).so _ ai (oge bp)) 3 0 rfl rfl rfl ak).sos bj da).so _ aw (oge bt)) 5 0 rfl rfl rfl ay).sn bo).so _ i6 hr420)
       refine L_app ei81 ka (.slice ag a0 a1) ([] : List Str) ([([115, 104, 97, 112, 101] : Str)] : List Str) rfl z0 (.slice pi zw zx) rfl zy.sx 6 rfl zz fun al5 mf tf tg mg kb pj z1 => ?_
       refine L_as (.slice mf tf tg) rfl (L_nil ?_)
       have hc : ([bk pi, some gl, bk bv, some bn, some ab, bk af, bk mf, some aa] : Ob).Perm ((bk pi :: some gl :: bk bv :: []) ++ [some bn, some ab, bk af, bk mf, some aa]) := (pc fun a => by (try simp only [pca, pcc, pcn, Nat.add_zero, Nat.zero_add]); first | done | ac_rfl)
       have hd := pj.drops hc
       have mh := g6.stown _ aw (oge bt)
       have mi := ax.stw 0 rfl ay
       have mj := dl.stn bo
       have ml := b5.stown _ i6 hr420
       have z5 := (((((((((ex.st dh).st di).st ch).st mh).st mi).st mj).st ml).st kb).st (St.drops _ O hc))
       have z6 := (pj.odr z1 hc 3 rfl)
       have z7 := (pj.odr (ka.sm (((ax.sw (((aj.sw (((a6.sw (d6.so _ a5 (oge bq)) 1 0 rfl rfl rfl a7).sn ah).so _ ai (oge bp)) 2 0 rfl rfl rfl ak).sos bj da).so _ aw (oge bt)) 4 0 rfl rfl rfl ay).sn bo).so _ i6 hr420) 5 6 rfl rfl rfl mg kb) hc 2 rfl)
       have z8 := (((((((dk.st ch).st mh).st mi).st mj).st ml).st kb).st (St.drops _ O hc))
       have z9 := ((((((g7.st mh).st mi).st mj).st ml).st kb).st (St.drops _ O hc))
       have aaa := (((((((er.st ch).st mh).st mi).st mj).st ml).st kb).st (St.drops _ O hc))
       have aab := (ka.bm (((ax.bm (((aj.bm (((a6.bm ((((((co.k0 ce).k0 ba).k0 bh).k0 bl).k0 bs).k0 a5) 3 0 rfl rfl rfl a7).k0 ah).k0 ai) 4 0 rfl rfl rfl ak).k0 bj).k0 aw) 6 0 rfl rfl rfl ay).k0 bo).k0 i6) 7 6 rfl rfl rfl mg)
       have aac := (ka.bm (((ax.bm (((aj.bm ((d7.k0 ah).k0 ai) 1 0 rfl rfl rfl ak).k0 bj).k0 aw) 3 0 rfl rfl rfl ay).k0 bo).k0 i6) 4 6 rfl rfl rfl mg)
       have aad := (ka.bm (((ax.bm ((eq.k0 bj).k0 aw) 2 0 rfl rfl rfl ay).k0 bo).k0 i6) 3 6 rfl rfl rfl mg)
       exact ⟨(([] : List Str) ++ ([([115, 104, 97, 112, 101] : Str)] : List Str)), mf, tf, tg, r4.Kind, r4.Pts, cq, cr, cs, H, (hasI rfl), hd, (c7.st hd.st), (dx.st hd.st), (c8.st hd.st), (dz.st hd.st), (hp5.st hd.st), (dw.st hd.st), z5, z6, z7, z8, z9, aaa, aab, aac, aad⟩
      have H := ite_f H ph
      refine W_skip ?_
      have mm := b5.drop 0 rfl
      have he := mm.drop 0 rfl
      have mn := g6.stown _ aw (oge bt)
      have mo := ax.stw 0 rfl ay
      have mp := dl.stn bo
      have mq := b5.std 0 rfl
      have mr := mm.std 0 rfl
      have aae := ((((((((ex.st dh).st di).st ch).st mn).st mo).st mp).st mq).st mr)
      have aaf := (mm.sd (b5.sd ((ax.sw (((aj.sw (((a6.sw (((((cp.sn ba).sn bh).sn bl).so _ bs hr219).so _ a5 (oge bq)) 2 0 rfl rfl rfl a7).sn ah).so _ ai (oge bp)) 3 0 rfl rfl rfl ak).sos bj da).so _ aw (oge bt)) 5 0 rfl rfl rfl ay).sn bo) 5 0 rfl rfl rfl) 4 0 rfl rfl rfl)
      have aag := (mm.sd (b5.sd ((ax.sw (((aj.sw (((a6.sw (d6.so _ a5 (oge bq)) 1 0 rfl rfl rfl a7).sn ah).so _ ai (oge bp)) 2 0 rfl rfl rfl ak).sos bj da).so _ aw (oge bt)) 4 0 rfl rfl rfl ay).sn bo) 4 0 rfl rfl rfl) 3 0 rfl rfl rfl)
      have aah := ((((((dk.st ch).st mn).st mo).st mp).st mq).st mr)
      have aai := (((((g7.st mn).st mo).st mp).st mq).st mr)
      have aaj := ((((((er.st ch).st mn).st mo).st mp).st mq).st mr)
      have aak := ((ax.bm (((aj.bm (((a6.bm ((((((co.k0 ce).k0 ba).k0 bh).k0 bl).k0 bs).k0 a5) 3 0 rfl rfl rfl a7).k0 ah).k0 ai) 4 0 rfl rfl rfl ak).k0 bj).k0 aw) 6 0 rfl rfl rfl ay).k0 bo)
      have aal := ((ax.bm (((aj.bm ((d7.k0 ah).k0 ai) 1 0 rfl rfl rfl ak).k0 bj).k0 aw) 3 0 rfl rfl rfl ay).k0 bo)
      have aam := ((ax.bm ((eq.k0 bj).k0 aw) 2 0 rfl rfl rfl ay).k0 bo)
      exact ⟨([] : List Str), ag, a0, a1, r4.Kind, r4.Pts, cq, cr, cs, H, (hasI rfl), he, (c7.st he.st), (dx.st he.st), (c8.st he.st), (dz.st he.st), (hp5.st he.st), (dw.st he.st), aae, aaf, aag, aah, aai, aaj, aak, aal, aam⟩
     have H := ite_f H ey
     refine L_pb ey rfl (L_pb ey rfl (L_pu (P_pick false (vb false) (by exact congrArg Value.bool ey) rfl) (L_nil (W_cf (b := false) rfl rfl ?_))))
     refine W_skip (W_seq (W_reg (L_mv (vb false) rfl (L_pu (P_not false rfl) (L_nil ?_)))))
     refine W_cond (!false) rfl (fun pk => ?_) (fun pk => ?_)
     ·have H := ite_t H pk
      refine W_reg (L_mv (.slice ag a0 a1) rfl (L_lit (kd := Kd.str) ei81 dl ([([115, 104, 97, 112, 101] : Str)] : List Str) (cells := [vs ([115, 104, 97, 112, 101] : Str)]) ⟨[vs ([115, 104, 97, 112, 101] : Str)], _, rfl, ⟨rfl, (by decide : Lim ([115, 104, 97, 112, 101] : Str))⟩, rfl⟩ (fun _ => by kernel_rfl) fun al6 pl aan aao i7 hr472 kc aap => ?_))
      obtain ⟨aaq, H⟩ := H
      have aar := ((ax.sw (((aj.sw (((a6.sw (((((cp.sn ba).sn bh).sn bl).so _ bs hr219).so _ a5 (oge bq)) 2 0 rfl rfl rfl a7).sn ah).so _ ai (oge bp)) 3 0 rfl rfl rfl ak).sos bj da).so _ aw (oge bt)) 5 0 rfl rfl rfl ay).so _ i7 hr472)
      refine L_app ei81 kc (.slice ag a0 a1) ([] : List Str) ([([115, 104, 97, 112, 101] : Str)] : List Str) rfl aar (.slice pl aan aao) rfl aap.sx 6 rfl aaq fun al7 ms th ti mt ke pm aas => ?_
      refine L_as (.slice ms th ti) rfl (L_nil ?_)
      have hf : ([bk pl, some gl, bk bv, some bn, some ab, bk af, bk ms, some aa] : Ob).Perm ((bk pl :: some gl :: bk bv :: []) ++ [some bn, some ab, bk af, bk ms, some aa]) := (pc fun a => by (try simp only [pca, pcc, pcn, Nat.add_zero, Nat.zero_add]); first | done | ac_rfl)
      have hg := pm.drops hf
      have mu := g6.stown _ aw (oge bt)
      have mv := ax.stw 0 rfl ay
      have mw := dl.stown _ i7 hr472
      have aat := ((((((((ex.st dh).st di).st ch).st mu).st mv).st mw).st ke).st (St.drops _ O hf))
      have aau := (pm.odr aas hf 3 rfl)
      have aav := (pm.odr (kc.sm ((ax.sw (((aj.sw (((a6.sw (d6.so _ a5 (oge bq)) 1 0 rfl rfl rfl a7).sn ah).so _ ai (oge bp)) 2 0 rfl rfl rfl ak).sos bj da).so _ aw (oge bt)) 4 0 rfl rfl rfl ay).so _ i7 hr472) 5 6 rfl rfl rfl mt ke) hf 2 rfl)
      have aaw := ((((((dk.st ch).st mu).st mv).st mw).st ke).st (St.drops _ O hf))
      have aax := (((((g7.st mu).st mv).st mw).st ke).st (St.drops _ O hf))
      have aay := ((((((er.st ch).st mu).st mv).st mw).st ke).st (St.drops _ O hf))
      have aaz := (kc.bm ((ax.bm (((aj.bm (((a6.bm ((((((co.k0 ce).k0 ba).k0 bh).k0 bl).k0 bs).k0 a5) 3 0 rfl rfl rfl a7).k0 ah).k0 ai) 4 0 rfl rfl rfl ak).k0 bj).k0 aw) 6 0 rfl rfl rfl ay).k0 i7) 7 6 rfl rfl rfl mt)
      have aa0 := (kc.bm ((ax.bm (((aj.bm ((d7.k0 ah).k0 ai) 1 0 rfl rfl rfl ak).k0 bj).k0 aw) 3 0 rfl rfl rfl ay).k0 i7) 4 6 rfl rfl rfl mt)
      have aa1 := (kc.bm ((ax.bm ((eq.k0 bj).k0 aw) 2 0 rfl rfl rfl ay).k0 i7) 3 6 rfl rfl rfl mt)
      exact ⟨(([] : List Str) ++ ([([115, 104, 97, 112, 101] : Str)] : List Str)), ms, th, ti, r4.Kind, r4.Pts, cq, cr, cs, H, (hasI rfl), hg, (c7.st hg.st), (dx.st hg.st), (c8.st hg.st), (dz.st hg.st), (hp5.st hg.st), (dw.st hg.st), aat, aau, aav, aaw, aax, aay, aaz, aa0, aa1⟩
     have H := ite_f H pk
     refine W_skip ?_
     have mx := dl.drop 0 rfl
     have hh := mx.drop 0 rfl
     have my := g6.stown _ aw (oge bt)
     have mz := ax.stw 0 rfl ay
     have m0 := dl.std 0 rfl
     have m1 := mx.std 0 rfl
     have aa2 := (((((((ex.st dh).st di).st ch).st my).st mz).st m0).st m1)
     have aa3 := (mx.sd (dl.sd (ax.sw (((aj.sw (((a6.sw (((((cp.sn ba).sn bh).sn bl).so _ bs hr219).so _ a5 (oge bq)) 2 0 rfl rfl rfl a7).sn ah).so _ ai (oge bp)) 3 0 rfl rfl rfl ak).sos bj da).so _ aw (oge bt)) 5 0 rfl rfl rfl ay) 5 0 rfl rfl rfl) 4 0 rfl rfl rfl)
     have aa4 := (mx.sd (dl.sd (ax.sw (((aj.sw (((a6.sw (d6.so _ a5 (oge bq)) 1 0 rfl rfl rfl a7).sn ah).so _ ai (oge bp)) 2 0 rfl rfl rfl ak).sos bj da).so _ aw (oge bt)) 4 0 rfl rfl rfl ay) 4 0 rfl rfl rfl) 3 0 rfl rfl rfl)
     have aa5 := (((((dk.st ch).st my).st mz).st m0).st m1)
     have aa6 := ((((g7.st my).st mz).st m0).st m1)
     have aa7 := (((((er.st ch).st my).st mz).st m0).st m1)
     have aa8 := (ax.bm (((aj.bm (((a6.bm ((((((co.k0 ce).k0 ba).k0 bh).k0 bl).k0 bs).k0 a5) 3 0 rfl rfl rfl a7).k0 ah).k0 ai) 4 0 rfl rfl rfl ak).k0 bj).k0 aw) 6 0 rfl rfl rfl ay)
     have aa9 := (ax.bm (((aj.bm ((d7.k0 ah).k0 ai) 1 0 rfl rfl rfl ak).k0 bj).k0 aw) 3 0 rfl rfl rfl ay)
     have aba := (ax.bm ((eq.k0 bj).k0 aw) 2 0 rfl rfl rfl ay)
     exact ⟨([] : List Str), ag, a0, a1, r4.Kind, r4.Pts, cq, cr, cs, H, (hasI rfl), hh, (c7.st hh.st), (dx.st hh.st), (c8.st hh.st), (dz.st hh.st), (hp5.st hh.st), (dw.st hh.st), aa2, aa3, aa4, aa5, aa6, aa7, aa8, aa9, aba⟩
    have H := ite_f H ox
    refine W_skip (W_seq (W_reg (L_mv (vb false) rfl (L_pu (P_not false rfl) (L_nil ?_)))))
    refine W_cond (!false) rfl (fun pn => ?_) (fun pn => ?_)
    ·have H := ite_t H pn
     refine W_reg (L_mv (.slice ag a0 a1) rfl (L_lit (kd := Kd.str) ei81 bi ([([115, 104, 97, 112, 101] : Str)] : List Str) (cells := [vs ([115, 104, 97, 112, 101] : Str)]) ⟨[vs ([115, 104, 97, 112, 101] : Str)], _, rfl, ⟨rfl, (by decide : Lim ([115, 104, 97, 112, 101] : Str))⟩, rfl⟩ (fun _ => by kernel_rfl) fun al8 abb abc abd i8 hr522 kf abe => ?_))
     obtain ⟨abf, H⟩ := H
     have abg := ((aj.sw (((a6.sw (((((cp.sn ba).sn bh).sn bl).so _ bs hr219).so _ a5 (oge bq)) 2 0 rfl rfl rfl a7).sn ah).so _ ai (oge bp)) 3 0 rfl rfl rfl ak).so _ i8 hr522)
     refine L_app ei81 kf (.slice ag a0 a1) ([] : List Str) ([([115, 104, 97, 112, 101] : Str)] : List Str) rfl abg (.slice abb abc abd) rfl abe.sx 4 rfl abf fun al9 tj tk tl m2 kg m3 abh => ?_
     refine L_as (.slice tj tk tl) rfl (L_nil ?_)
     have hi := m3.drop 0 rfl
     have m4 := bi.stown _ i8 hr522
     have m5 := m3.std 0 rfl
     have abi := (((((ex.st dh).st di).st m4).st kg).st m5)
     have abj := (m3.sd abh 4 0 rfl rfl rfl)
     have abk := (m3.sd (kf.sm ((aj.sw (((a6.sw (d6.so _ a5 (oge bq)) 1 0 rfl rfl rfl a7).sn ah).so _ ai (oge bp)) 2 0 rfl rfl rfl ak).so _ i8 hr522) 3 4 rfl rfl rfl m2 kg) 3 0 rfl rfl rfl)
     have abl := (((dk.st m4).st kg).st m5)
     have abm := (((g5.st m4).st kg).st m5)
     have abn := (((er.st m4).st kg).st m5)
     have abo := (kf.bm ((aj.bm (((a6.bm ((((((co.k0 ce).k0 ba).k0 bh).k0 bl).k0 bs).k0 a5) 3 0 rfl rfl rfl a7).k0 ah).k0 ai) 4 0 rfl rfl rfl ak).k0 i8) 5 4 rfl rfl rfl m2)
     have abp := (kf.bm ((aj.bm ((d7.k0 ah).k0 ai) 1 0 rfl rfl rfl ak).k0 i8) 2 4 rfl rfl rfl m2)
     have abq := (kf.bm (eq.k0 i8) 1 4 rfl rfl rfl m2)
     exact ⟨(([] : List Str) ++ ([([115, 104, 97, 112, 101] : Str)] : List Str)), tj, tk, tl, r4.Kind, r4.Pts, cq, cr, cs, H, (hasI rfl), hi, (c7.st hi.st), (dx.st hi.st), (c8.st hi.st), (dz.st hi.st), (hp5.st hi.st), (dw.st hi.st), abi, abj, abk, abl, abm, abn, abo, abp, abq⟩
    have H := ite_f H pn
    refine W_skip ?_
    have abr := ((ex.st dh).st di)
    have abs := (aj.sw (((a6.sw (((((cp.sn ba).sn bh).sn bl).so _ bs hr219).so _ a5 (oge bq)) 2 0 rfl rfl rfl a7).sn ah).so _ ai (oge bp)) 3 0 rfl rfl rfl ak)
    have abt := (aj.sw (((a6.sw (d6.so _ a5 (oge bq)) 1 0 rfl rfl rfl a7).sn ah).so _ ai (oge bp)) 2 0 rfl rfl rfl ak)
    have abu := (aj.bm (((a6.bm ((((((co.k0 ce).k0 ba).k0 bh).k0 bl).k0 bs).k0 a5) 3 0 rfl rfl rfl a7).k0 ah).k0 ai) 4 0 rfl rfl rfl ak)
    have abv := (aj.bm ((d7.k0 ah).k0 ai) 1 0 rfl rfl rfl ak)
    exact ⟨([] : List Str), ag, a0, a1, r4.Kind, r4.Pts, cq, cr, cs, H, (hasI rfl), bi, (c7.st bi.st), (dx.st bi.st), (c8.st bi.st), (dz.st bi.st), (hp5.st bi.st), (dw.st bi.st), abr, abs, abt, dk, g5, er, abu, abv, eq⟩
   have H := ite_f H b4
   refine L_pb b4 rfl (L_pb b4 rfl (L_pb b4 rfl (L_pb b4 rfl (L_pb b4 rfl (L_pb b4 rfl (L_pb b4 rfl (L_pu (P_pick false (vb false) (by exact congrArg Value.bool b4) rfl) (L_nil ?_))))))))
   refine W_cf (b := false) rfl rfl ?_
   refine W_skip (W_seq (W_reg (L_mv (vb false) rfl (L_pu (P_not false rfl) (L_nil ?_)))))
   refine W_cond (!false) rfl (fun po => ?_) (fun po => ?_)
   ·have H := ite_t H po
    refine W_reg (L_mv (.slice ag a0 a1) rfl (L_lit (kd := Kd.str) ei81 bi ([([115, 104, 97, 112, 101] : Str)] : List Str) (cells := [vs ([115, 104, 97, 112, 101] : Str)]) ⟨[vs ([115, 104, 97, 112, 101] : Str)], _, rfl, ⟨rfl, (by decide : Lim ([115, 104, 97, 112, 101] : Str))⟩, rfl⟩ (fun _ => by kernel_rfl) fun ama abw abx aby i9 hr560 kh abz => ?_))
    obtain ⟨ab0, H⟩ := H
    have ab1 := ((aj.sw (((a6.sw (((((cp.sn ba).sn bh).sn bl).so _ bs hr219).so _ a5 (oge bq)) 2 0 rfl rfl rfl a7).sn ah).so _ ai (oge bp)) 3 0 rfl rfl rfl ak).so _ i9 hr560)
    refine L_app ei81 kh (.slice ag a0 a1) ([] : List Str) ([([115, 104, 97, 112, 101] : Str)] : List Str) rfl ab1 (.slice abw abx aby) rfl abz.sx 4 rfl ab0 fun amb tn tp tr m6 ki m7 ab2 => ?_
    refine L_as (.slice tn tp tr) rfl (L_nil ?_)
    have hj := m7.drop 0 rfl
    have m8 := bi.stown _ i9 hr560
    have m9 := m7.std 0 rfl
    have ab3 := (((((ex.st dh).st di).st m8).st ki).st m9)
    have ab4 := (m7.sd ab2 4 0 rfl rfl rfl)
    have ab5 := (m7.sd (kh.sm ((aj.sw (((a6.sw (d6.so _ a5 (oge bq)) 1 0 rfl rfl rfl a7).sn ah).so _ ai (oge bp)) 2 0 rfl rfl rfl ak).so _ i9 hr560) 3 4 rfl rfl rfl m6 ki) 3 0 rfl rfl rfl)
    have ab6 := (((dk.st m8).st ki).st m9)
    have ab7 := (((g5.st m8).st ki).st m9)
    have ab8 := ((((((j2.st j3).st dh).st di).st m8).st ki).st m9)
    have ab9 := (kh.bm ((aj.bm (((a6.bm ((((((co.k0 ce).k0 ba).k0 bh).k0 bl).k0 bs).k0 a5) 3 0 rfl rfl rfl a7).k0 ah).k0 ai) 4 0 rfl rfl rfl ak).k0 i9) 5 4 rfl rfl rfl m6)
    have aca := (kh.bm ((aj.bm ((d7.k0 ah).k0 ai) 1 0 rfl rfl rfl ak).k0 i9) 2 4 rfl rfl rfl m6)
    have acb := (kh.bm (eq.k0 i9) 1 4 rfl rfl rfl m6)
    exact ⟨(([] : List Str) ++ ([([115, 104, 97, 112, 101] : Str)] : List Str)), tn, tp, tr, r4.Kind, r4.Pts, cq, cr, cs, H, (hasI rfl), hj, (c7.st hj.st), (dx.st hj.st), (c8.st hj.st), (dz.st hj.st), (hp5.st hj.st), (dw.st hj.st), ab3, ab4, ab5, ab6, ab7, ab8, ab9, aca, acb⟩
   have H := ite_f H po
   refine W_skip ?_
   have acc := ((ex.st dh).st di)
   have acd := (aj.sw (((a6.sw (((((cp.sn ba).sn bh).sn bl).so _ bs hr219).so _ a5 (oge bq)) 2 0 rfl rfl rfl a7).sn ah).so _ ai (oge bp)) 3 0 rfl rfl rfl ak)
   have ace := (aj.sw (((a6.sw (d6.so _ a5 (oge bq)) 1 0 rfl rfl rfl a7).sn ah).so _ ai (oge bp)) 2 0 rfl rfl rfl ak)
   have acf := (((j2.st j3).st dh).st di)
   have acg := (aj.bm (((a6.bm ((((((co.k0 ce).k0 ba).k0 bh).k0 bl).k0 bs).k0 a5) 3 0 rfl rfl rfl a7).k0 ah).k0 ai) 4 0 rfl rfl rfl ak)
   have ach := (aj.bm ((d7.k0 ah).k0 ai) 1 0 rfl rfl rfl ak)
   exact ⟨([] : List Str), ag, a0, a1, r4.Kind, r4.Pts, cq, cr, cs, H, (hasI rfl), bi, (c7.st bi.st), (dx.st bi.st), (c8.st bi.st), (dz.st bi.st), (hp5.st bi.st), (dw.st bi.st), acc, acd, ace, dk, g5, acf, acg, ach, eq⟩
  have H := ite_f H ow
  refine W_skip ?_
  have na := ov.stown _ ai (oge bp)
  have nb := aj.stw 0 rfl ak
  have aci := ((ex.st na).st nb)
  have acj := (aj.sw (((a6.sw (((((cp.sn ba).sn bh).sn bl).so _ bs hr219).so _ a5 (oge bq)) 2 0 rfl rfl rfl a7).sn ah).so _ ai (oge bp)) 3 0 rfl rfl rfl ak)
  have ack := (aj.sw (((a6.sw (d6.so _ a5 (oge bq)) 1 0 rfl rfl rfl a7).sn ah).so _ ai (oge bp)) 2 0 rfl rfl rfl ak)
  have pp := g4.stn ah
  have acl := (((ot.st pp).st na).st nb)
  have acm := (((ou.st pp).st na).st nb)
  have acn := (((j2.st pp).st na).st nb)
  have aco := (aj.bm (((a6.bm ((((((co.k0 ce).k0 ba).k0 bh).k0 bl).k0 bs).k0 a5) 3 0 rfl rfl rfl a7).k0 ah).k0 ai) 4 0 rfl rfl rfl ak)
  have acp := (aj.bm ((d7.k0 ah).k0 ai) 1 0 rfl rfl rfl ak)
  exact ⟨([] : List Str), ag, a0, a1, r4.Kind, r4.Pts, cq, cr, cs, H, (hasI rfl), bi, (c7.st bi.st), (dx.st bi.st), (c8.st bi.st), (dz.st bi.st), (hp5.st bi.st), (dw.st bi.st), aci, acj, ack, acl, acm, acn, aco, acp, eq⟩
 rintro amc cb ⟨xs, av, i0, i1, z, z2, i2, i3, i4, acq, acr, pq, acs, act, acu, acv, acw, acx, acy, acz, ac0, ac1, ac2, ac3, ac4, ac5, ac6⟩
 obtain ⟨amd, rfl⟩ := Has.ins acr
 have H := yv xs z z2 acq
 refine W_seq (W_reg (L_pu (P_lda ag58 sz58 cL ⟨bn, 0, none⟩ [vi z, .slice i2 i3 i4] rfl rfl (ac6.cells (off := 0) rfl)) ?_))
 refine L_call go72 [.agg #[vi z, .slice i2 i3 i4]] rfl ((F16.calls cb pq.ok (⟨z, z2⟩ : Shape) i2 i3 i4 acy _ H).mono ?_)
 rintro _ ame ⟨r9, ac, bz, b0, rfl, H, ja, ac7, nc, ac8⟩
 have jb := pq.owns ja ac7 nc
 refine L_pu (P_fa fa61_1 ⟨ab, 0, none⟩ ⟨ab, 1, none⟩ rfl rfl) ?_
 have ac9 := (ac5.k0 ja)
 refine L_stb ab 1 [vs a.Id, vi 0, .slice none 0 0, .slice af eo ep] [vi r9.Kind, .slice ac bz b0] [vs a.Id, vi r9.Kind, .slice ac bz b0, .slice af eo ep] rfl ac9 rfl sz58 rfl rfl rfl fun amf jc ada => ?_
 have ts := jb.wr 2 rfl jc
 refine L_nil (W_seq (W_reg (L_lit (kd := Kd.str) ei81 ts ([] : List Str) (cells := []) rfl (fun _ => by kernel_rfl) fun amg jd tt tu je hr628 tv adb => ?_)))
 refine L_as (.slice jd tt tu) rfl (L_nil (W_seq (W_seq (W_reg (L_pu (P_fa fa61_2 ⟨au, 0, none⟩ ⟨au, 3, none⟩ rfl rfl) ?_)))))
 have ez := pq.stos ja nc
 have e0 := jb.stw 2 rfl jc
 have e1 := ts.stown _ je hr628
 have tw := (((ac1.st ez).st e0).st e1)
 refine L_pu (P_ld ag59 cL ⟨au, 3, none⟩ (.slice A7 n8 c9) rfl (tw.cell rfl)) (L_pu (P_fa fa61_2 ⟨ar, 0, none⟩ ⟨ar, 3, none⟩ rfl rfl) ?_)
 have tx := (((ac2.st ez).st e0).st e1)
 refine L_pu (P_ld ag59 cL ⟨ar, 3, none⟩ (.slice bd be bf) rfl (tx.cell rfl)) (L_pu (P_fa fa61_2 ⟨bg, 0, none⟩ ⟨bg, 3, none⟩ rfl rfl) ?_)
 have ty := (((ac3.st ez).st e0).st e1)
 refine L_pu (P_ld ag59 cL ⟨bg, 3, none⟩ (.slice ao ap aq) rfl (ty.cell rfl)) ?_
 have tz := (((acv.st ez).st e0).st e1)
 have t1 := (((act.st ez).st e0).st e1)
 have t2 := (((acx.st ez).st e0).st e1)
 refine L_lit (kd := (Kd.sl kTag)) ei160 tv ([base_.Tags, a.Tags, b.Tags] : List (List Tag)) (cells := [.slice A7 n8 c9, .slice bd be bf, .slice ao ap aq]) ⟨[.slice A7 n8 c9], _, rfl, ⟨_, rfl, t2⟩, ⟨[.slice bd be bf], _, rfl, ⟨_, rfl, t1⟩, ⟨[.slice ao ap aq], _, rfl, ⟨_, rfl, tz⟩, rfl⟩⟩⟩ (fun _ => by kernel_rfl) fun adc nd t3 t4 hk hr643 kj ade => ?_
 have adf := kj.gv ade 0 rfl
 have adg := kj.drop 0 rfl
 refine L_call go84 [.slice nd t3 t4] rfl ((F11.calls adc adg.ok ([base_.Tags, a.Tags, b.Tags] : List (List Tag)) nd t3 t4 adf _ H).mono ?_)
 rintro _ amh ⟨r10, b1, ne, nf, rfl, H, e2, adh, hl, adi⟩
 have adj := Ok.unl (L := [bk nd, bk jd, bk ac, some bn, some ab, bk af, bk av, some aa]) (L' := [bk jd, bk ac, some bn, some ab, bk af, bk av, some aa]) (O := O) kj e2 adh hl
 have pr := Ow.unl (L := [bk nd, bk jd, bk ac, some bn, some ab, bk af, bk av, some aa]) (L' := [bk jd, bk ac, some bn, some ab, bk af, bk av, some aa]) (O := O) (fun _ _ _ _ _ _ h => h) (.cons _ (.cons_cons _ (.cons_cons _ (.cons_cons _ (.cons_cons _ (.cons_cons _ (.cons_cons _ (.cons_cons _ (.slnil))))))))) adi
 have hm := kj.owns e2 adj hl
 have ami := pr.le
 refine L_pu (P_len Tryz.underlying59 b1 ne nf pr.len rfl) (L_mv (vi 0) rfl (L_nil (W_block ?_)))
 have hn := hm.drop 1 rfl
 have adk := hn.drop 3 rfl
 obtain ⟨adl, adm, ps, H⟩ := H
 have e3 := tv.stown _ hk hr643
 have e4 := kj.stos e2 hl
 have e5 := hm.std 1 rfl
 have e6 := hn.std 3 rfl
 have adn := (((((((acs.st ez).st e0).st e1).st e3).st e4).st e5).st e6)
 have ado := ((((t1.st e3).st e4).st e5).st e6)
 have adp := (((((((acu.st ez).st e0).st e1).st e3).st e4).st e5).st e6)
 have adq := ((((tz.st e3).st e4).st e5).st e6)
 have adr := (((((((acw.st ez).st e0).st e1).st e3).st e4).st e5).st e6)
 have ads := ((((t2.st e3).st e4).st e5).st e6)
 have adt := (hn.sd (hm.sd ((((jb.sw (acz.sos ja nc) 4 2 rfl rfl rfl jc).so _ je hr628).so _ hk hr643).sos e2 hl) 7 1 rfl rfl rfl) 6 3 rfl rfl rfl)
 have adu := (hn.sd (hm.sd ((adb.so _ hk hr643).sos e2 hl) 2 1 rfl rfl rfl) 1 3 rfl rfl rfl)
 have adv := (hn.sd (hm.sd pr 0 1 rfl rfl rfl) 0 3 rfl rfl rfl)
 have adw := (hn.sd (hm.sd ((((jb.sw ac8 0 2 rfl rfl rfl jc).so _ je hr628).so _ hk hr643).sos e2 hl) 3 1 rfl rfl rfl) 2 3 rfl rfl rfl)
 have adx := (hn.sd (hm.sd ((((jb.sw (ac0.sos ja nc) 3 2 rfl rfl rfl jc).so _ je hr628).so _ hk hr643).sos e2 hl) 6 1 rfl rfl rfl) 5 3 rfl rfl rfl)
 have ady := ((((tw.st e3).st e4).st e5).st e6)
 have adz := ((((tx.st e3).st e4).st e5).st e6)
 have ad0 := ((((ty.st e3).st e4).st e5).st e6)
 have ad1 := ((((jb.bm (ac4.k0 ja) 5 2 rfl rfl rfl jc).k0 je).k0 hk).k0 e2)
 have ad2 := (((ada.k0 je).k0 hk).k0 e2)
 refine W_loop (α := (List Str) × (Option Addr) × Nat × Nat × Int) (fun (sv__ : (List Str) × (Option Addr) × Nat × Nat × Int) t b6 => match sv__ with | (xs3, ad, d8, bw, v2) => adl xs3 v2 ∧ Has t [(3, .pointer (some ⟨au, 0, none⟩)), (4, .pointer (some ⟨ar, 0, none⟩)), (5, .pointer (some ⟨bg, 0, none⟩)), (6, .pointer (some ⟨aa, 0, none⟩)), (8, .slice av i0 i1), (9, .pointer (some ⟨ab, 0, none⟩)), (16, .slice ad d8 bw), (127, .slice b1 ne nf), (128, vi (r10.length : Int)), (129, vi v2)] ∧ Ct [] w0 b6 [bk b1, bk ad, bk ac, some ab, bk af, bk av, some aa] O ∧ Sl kPt b6 (Fr ([bk b1, bk ad, bk ac, some ab, bk af, bk av, some aa] ++ O)) (.slice a2 a3 a4) a.Shape.Pts ∧ Sl kTag b6 (Fr ([bk b1, bk ad, bk ac, some ab, bk af, bk av, some aa] ++ O)) (.slice bd be bf) a.Tags ∧ Sl kPt b6 (Fr ([bk b1, bk ad, bk ac, some ab, bk af, bk av, some aa] ++ O)) (.slice al am an) b.Shape.Pts ∧ Sl kTag b6 (Fr ([bk b1, bk ad, bk ac, some ab, bk af, bk av, some aa] ++ O)) (.slice ao ap aq) b.Tags ∧ Sl kPt b6 (Fr ([bk b1, bk ad, bk ac, some ab, bk af, bk av, some aa] ++ O)) (.slice A2 n3 c4) base_.Shape.Pts ∧ Sl kTag b6 (Fr ([bk b1, bk ad, bk ac, some ab, bk af, bk av, some aa] ++ O)) (.slice A7 n8 c9) base_.Tags ∧ Ow Kd.str 9 b6 ([bk b1, bk ad, bk ac, some ab, bk af, bk av, some aa] ++ O) (.slice av i0 i1) xs ∧ Ow Kd.str 9 b6 ([bk b1, bk ad, bk ac, some ab, bk af, bk av, some aa] ++ O) (.slice ad d8 bw) xs3 ∧ Ow kTag 106 b6 ([bk b1, bk ad, bk ac, some ab, bk af, bk av, some aa] ++ O) (.slice b1 ne nf) r10 ∧ Ow kPt 114 b6 ([bk b1, bk ad, bk ac, some ab, bk af, bk av, some aa] ++ O) (.slice ac bz b0) r9.Pts ∧ Ow kTag 106 b6 ([bk b1, bk ad, bk ac, some ab, bk af, bk av, some aa] ++ O) (.slice af eo ep) ([] : List Tag) ∧ Fb b6 ([bk b1, bk ad, bk ac, some ab, bk af, bk av, some aa] ++ O) au [vs base_.Id, vi base_.Shape.Kind, .slice A2 n3 c4, .slice A7 n8 c9] ∧ Fb b6 ([bk b1, bk ad, bk ac, some ab, bk af, bk av, some aa] ++ O) ar [vs a.Id, vi a.Shape.Kind, .slice a2 a3 a4, .slice bd be bf] ∧ Fb b6 ([bk b1, bk ad, bk ac, some ab, bk af, bk av, some aa] ++ O) bg [vs b.Id, vi b.Shape.Kind, .slice al am an, .slice ao ap aq] ∧ Bx b6 aa [vs ([] : Str), vi 0, .slice none 0 0, .slice none 0 0] ∧ Bx b6 ab [vs a.Id, vi r9.Kind, .slice ac bz b0, .slice af eo ep]) (fun (sv__ : (List Str) × (Option Addr) × Nat × Nat × Int) => match sv__ with | (xs3, _, _, _, v2) => adm xs3 v2) (([] : List Str), jd, tt, tu, 0) ⟨ps, (hasI rfl), adk, adn, ado, adp, adq, adr, ads, adt, adu, adv, adw, adx, ady, adz, ad0, ad1, ad2⟩ ?_
 rintro ⟨xs3, ad, d8, bw, v2⟩ _ b6 ⟨ps, ad3, es, t5, t6, t7, t8, t9, ua, ub, uc, pt, ud, ue, uf, ug, uh, ui, uj⟩
 obtain ⟨amj, rfl⟩ := Has.ins ad3
 have H := H xs3 v2 ps
 refine W_seq (W_reg (L_pu (P_cmp v2 (r10.length : Int) (decide (v2 < (r10.length : Int))) rfl rfl rfl) (L_nil (W_seq ?_))))
 refine W_cond (decide (v2 < (r10.length : Int))) rfl (fun pu => ?_) (fun pu => ?_)
 ·have H := ite_t H pu
  refine W_skip (W_seq (W_block (W_seq (W_reg ?_))))
  obtain ⟨uk, H⟩ := H
  obtain ⟨ul, amk, ad4, ad5, ad6⟩ := pt.get default (by decide) v2 uk
  obtain ⟨rfl, ad7, aml⟩ := kTag.op ad5
  refine L_pu (P_ia Tryz.underlying59 se59 b1 ul ne nf pt.len v2 rfl ad4 rfl uk) (L_pu (P_lda ag106 sz106 cL (ul.add (v2.toNat * 2)) [vs ((nth r10 v2).Key), vs ((nth r10 v2).Val)] rfl rfl ad6) (L_alloc [vs [], vs []] ze106 fun amm jf ho hu802 e7 ad8 => ?_))
  have e8 := es.own e7 (some jf) (oglt ho hu802)
  refine L_stb jf 0 [vs ([] : Str), vs ([] : Str)] [vs ((nth r10 v2).Key), vs ((nth r10 v2).Val)] [vs ((nth r10 v2).Key), vs ((nth r10 v2).Val)] rfl ad8 rfl sz106 rfl rfl rfl fun amn e9 ad9 => ?_
  have um := e8.wr 0 rfl e9
  refine L_nil (W_reg (L_mv (.slice ad d8 bw) rfl (L_pu (P_fa fa106_0 ⟨jf, 0, none⟩ ⟨jf, 0, none⟩ rfl rfl) (L_pu (P_ld ag9 cL ⟨jf, 0, none⟩ (vs ((nth r10 v2).Key)) rfl (ad9.cell rfl)) (L_lit (kd := Kd.str) ei81 um ([(nth r10 v2).Key] : List Str) (cells := [vs ((nth r10 v2).Key)]) ⟨[vs ((nth r10 v2).Key)], _, rfl, ⟨rfl, ad7⟩, rfl⟩ (fun _ => by kernel_rfl) fun amo aea aeb aec gm hr815 hp aed => ?_)))))
  obtain ⟨aee, H⟩ := H
  have aef := ((e8.sw (uc.so _ e7 (oge ho)) 2 0 rfl rfl rfl e9).so _ gm hr815)
  refine L_app ei81 hp (.slice ad d8 bw) xs3 ([(nth r10 v2).Key] : List Str) rfl aef (.slice aea aeb aec) rfl aed.sx 3 rfl aee fun aeg pv un uo jg dn hq aeh => ?_
  refine L_as (.slice pv un uo) rfl (L_nil (W_reg ?_))
  obtain ⟨aei, H⟩ := H
  refine L_pu (P_add v2 1 rfl rfl aei) (L_mv (vi (v2 + 1)) rfl (L_nil ?_))
  have hr : Ct [] w0 aeg [some jf, bk b1, bk pv, bk ac, some ab, bk af, bk av, some aa] O := hq.drop 0 rfl
  have aej := hr.drop 0 rfl
  obtain ⟨aek, ael⟩ := H
  have fa := es.stown _ e7 (oge ho)
  have fb := e8.stw 0 rfl e9
  have fc := um.stown _ gm hr815
  have fd := hq.std 0 rfl
  have fe := hr.std 0 rfl
  have aem := ((((((t5.st fa).st fb).st fc).st dn).st fd).st fe)
  have aen := ((((((t6.st fa).st fb).st fc).st dn).st fd).st fe)
  have aeo := ((((((t7.st fa).st fb).st fc).st dn).st fd).st fe)
  have aep := ((((((t8.st fa).st fb).st fc).st dn).st fd).st fe)
  have aeq := ((((((t9.st fa).st fb).st fc).st dn).st fd).st fe)
  have aer := ((((((ua.st fa).st fb).st fc).st dn).st fd).st fe)
  have aes := (hr.sd (hq.sd (hp.sm ((e8.sw (ub.so _ e7 (oge ho)) 6 0 rfl rfl rfl e9).so _ gm hr815) 7 3 rfl rfl rfl jg dn) 7 0 rfl rfl rfl) 6 0 rfl rfl rfl)
  have aet := (hr.sd (hq.sd aeh 3 0 rfl rfl rfl) 2 0 rfl rfl rfl)
  have aeu := (hr.sd (hq.sd (hp.sm ((e8.sw (pt.so _ e7 (oge ho)) 1 0 rfl rfl rfl e9).so _ gm hr815) 2 3 rfl rfl rfl jg dn) 2 0 rfl rfl rfl) 1 0 rfl rfl rfl)
  have aev := (hr.sd (hq.sd (hp.sm ((e8.sw (ud.so _ e7 (oge ho)) 3 0 rfl rfl rfl e9).so _ gm hr815) 4 3 rfl rfl rfl jg dn) 4 0 rfl rfl rfl) 3 0 rfl rfl rfl)
  have aew := (hr.sd (hq.sd (hp.sm ((e8.sw (ue.so _ e7 (oge ho)) 5 0 rfl rfl rfl e9).so _ gm hr815) 6 3 rfl rfl rfl jg dn) 6 0 rfl rfl rfl) 5 0 rfl rfl rfl)
  have aex := ((((((uf.st fa).st fb).st fc).st dn).st fd).st fe)
  have aey := ((((((ug.st fa).st fb).st fc).st dn).st fd).st fe)
  have aez := ((((((uh.st fa).st fb).st fc).st dn).st fd).st fe)
  have ae0 := (hp.bm ((e8.bm (ui.k0 e7) 7 0 rfl rfl rfl e9).k0 gm) 8 3 rfl rfl rfl jg)
  have ae1 := (hp.bm ((e8.bm (uj.k0 e7) 4 0 rfl rfl rfl e9).k0 gm) 5 3 rfl rfl rfl jg)
  exact ⟨((xs3 ++ ([(nth r10 v2).Key] : List Str)), pv, un, uo, v2 + 1), ael, aek, (hasI rfl), aej, aem, aen, aeo, aep, aeq, aer, aes, aet, aeu, aev, aew, aex, aey, aez, ae0, ae1⟩
 have H := ite_f H pu
 refine W_exit (xin_hit ?_)
 refine W_seq (W_reg (L_mv (.slice ad d8 bw) rfl ?_))
 refine L_call go79 [.slice ad d8 bw] rfl ((F7.calls b6 es.ok ad d8 bw xs3 uc _ H).mono ?_)
 rintro _ ae2 ⟨m, rfl, H, hs, ae3⟩
 have gn := es.wr 1 rfl hs
 refine L_nil (W_seq (W_seq (W_reg (L_mv (.slice ad d8 bw) rfl ?_))))
 refine L_call go80 [.slice ad d8 bw] rfl ((F5.calls ae2 gn.ok ad d8 bw m ae3 _ H).mono ?_)
 rintro _ ae4 ⟨r11, et, rfl, H, ht, pw⟩
 have jh := gn.wr 1 rfl ht
 have amp := pw.le
 refine L_pu (P_len Tryz.underlying81 ad et bw pw.len rfl) (L_mv (vi 0) rfl (L_nil (W_block ?_)))
 have ae5 : Ct [] w0 ae4 [bk ad, bk ac, some ab, bk af, bk av, some aa] O := jh.drop 0 rfl
 obtain ⟨px, kk, py, H⟩ := H
 have ff := es.stw 1 rfl hs
 have fg := gn.stw 1 rfl ht
 have fh := jh.std 0 rfl
 have ae6 := (((t5.st ff).st fg).st fh)
 have ae7 := (((t6.st ff).st fg).st fh)
 have ae8 := (((t7.st ff).st fg).st fh)
 have ae9 := (((t8.st ff).st fg).st fh)
 have afa := (((t9.st ff).st fg).st fh)
 have afb := (((ua.st ff).st fg).st fh)
 have afc := (jh.sd (gn.sw (es.sw ub 5 1 rfl rfl rfl hs) 5 1 rfl rfl rfl ht) 5 0 rfl rfl rfl)
 have afd := (jh.sd pw 1 0 rfl rfl rfl)
 have afe := (jh.sd (gn.sw (es.sw ud 2 1 rfl rfl rfl hs) 2 1 rfl rfl rfl ht) 2 0 rfl rfl rfl)
 have aff := (jh.sd (gn.sw (es.sw ue 4 1 rfl rfl rfl hs) 4 1 rfl rfl rfl ht) 4 0 rfl rfl rfl)
 have afg := (((uf.st ff).st fg).st fh)
 have afh := (((ug.st ff).st fg).st fh)
 have afi := (((uh.st ff).st fg).st fh)
 have afj := (gn.bm (es.bm ui 6 1 rfl rfl rfl hs) 6 1 rfl rfl rfl ht)
 have afk := (gn.bm (es.bm uj 3 1 rfl rfl rfl hs) 3 1 rfl rfl rfl ht)
 refine W_loop (α := (List Str) × (Option Addr) × Nat × Nat × Int × (List Tag) × (Option Addr) × Nat × Nat) (fun (sv__ : (List Str) × (Option Addr) × Nat × Nat × Int × (List Tag) × (Option Addr) × Nat × Nat) t b2 => match sv__ with | (xs6, a8, d0, d1, v4, xs7, ae, ci, cj) => px xs6 v4 xs7 ∧ Has t [(3, .pointer (some ⟨au, 0, none⟩)), (4, .pointer (some ⟨ar, 0, none⟩)), (5, .pointer (some ⟨bg, 0, none⟩)), (6, .pointer (some ⟨aa, 0, none⟩)), (8, .slice a8 d0 d1), (9, .pointer (some ⟨ab, 0, none⟩)), (142, .slice ad et bw), (143, vi (r11.length : Int)), (144, vi v4)] ∧ Ct [] w0 b2 [bk ad, bk ac, some ab, bk ae, bk a8, some aa] O ∧ Sl kPt b2 (Fr ([bk ad, bk ac, some ab, bk ae, bk a8, some aa] ++ O)) (.slice a2 a3 a4) a.Shape.Pts ∧ Sl kTag b2 (Fr ([bk ad, bk ac, some ab, bk ae, bk a8, some aa] ++ O)) (.slice bd be bf) a.Tags ∧ Sl kPt b2 (Fr ([bk ad, bk ac, some ab, bk ae, bk a8, some aa] ++ O)) (.slice al am an) b.Shape.Pts ∧ Sl kTag b2 (Fr ([bk ad, bk ac, some ab, bk ae, bk a8, some aa] ++ O)) (.slice ao ap aq) b.Tags ∧ Sl kPt b2 (Fr ([bk ad, bk ac, some ab, bk ae, bk a8, some aa] ++ O)) (.slice A2 n3 c4) base_.Shape.Pts ∧ Sl kTag b2 (Fr ([bk ad, bk ac, some ab, bk ae, bk a8, some aa] ++ O)) (.slice A7 n8 c9) base_.Tags ∧ Ow Kd.str 9 b2 ([bk ad, bk ac, some ab, bk ae, bk a8, some aa] ++ O) (.slice a8 d0 d1) xs6 ∧ Ow Kd.str 9 b2 ([bk ad, bk ac, some ab, bk ae, bk a8, some aa] ++ O) (.slice ad et bw) r11 ∧ Ow kPt 114 b2 ([bk ad, bk ac, some ab, bk ae, bk a8, some aa] ++ O) (.slice ac bz b0) r9.Pts ∧ Ow kTag 106 b2 ([bk ad, bk ac, some ab, bk ae, bk a8, some aa] ++ O) (.slice ae ci cj) xs7 ∧ Fb b2 ([bk ad, bk ac, some ab, bk ae, bk a8, some aa] ++ O) au [vs base_.Id, vi base_.Shape.Kind, .slice A2 n3 c4, .slice A7 n8 c9] ∧ Fb b2 ([bk ad, bk ac, some ab, bk ae, bk a8, some aa] ++ O) ar [vs a.Id, vi a.Shape.Kind, .slice a2 a3 a4, .slice bd be bf] ∧ Fb b2 ([bk ad, bk ac, some ab, bk ae, bk a8, some aa] ++ O) bg [vs b.Id, vi b.Shape.Kind, .slice al am an, .slice ao ap aq] ∧ Bx b2 aa [vs ([] : Str), vi 0, .slice none 0 0, .slice none 0 0] ∧ Bx b2 ab [vs a.Id, vi r9.Kind, .slice ac bz b0, .slice ae ci cj]) (fun (sv__ : (List Str) × (Option Addr) × Nat × Nat × Int × (List Tag) × (Option Addr) × Nat × Nat) => match sv__ with | (xs6, _, _, _, v4, xs7, _, _, _) => kk xs6 v4 xs7) (xs, av, i0, i1, 0, ([] : List Tag), af, eo, ep) ⟨py, (hasI rfl), ae5, ae6, ae7, ae8, ae9, afa, afb, afc, afd, afe, aff, afg, afh, afi, afj, afk⟩ ?_
 rintro ⟨xs6, a8, d0, d1, v4, xs7, ae, ci, cj⟩ _ b2 ⟨py, afl, d9, fi, fj, db, dc, kl, km, pz, kn, ko, kp, ng, kq, nh, kr, ks⟩
 obtain ⟨amq, rfl⟩ := Has.ins afl
 have H := H xs6 v4 xs7 py
 refine W_seq (W_reg (L_pu (P_cmp v4 (r11.length : Int) (decide (v4 < (r11.length : Int))) rfl rfl rfl) (L_nil (W_seq ?_))))
 refine W_cond (decide (v4 < (r11.length : Int))) rfl (fun p0 => ?_) (fun p0 => ?_)
 ·have H := ite_t H p0
  refine W_skip (W_seq (W_block (W_seq (W_reg ?_))))
  obtain ⟨up, H⟩ := H
  obtain ⟨uq, amr, afm, afn, afo⟩ := kn.get default (by decide) v4 up
  obtain ⟨rfl, b7⟩ := Kd.str.op afn
  refine L_pu (P_ia Tryz.underlying81 se81 ad uq et bw kn.len v4 rfl afm rfl up) (L_pu (P_ld ag9 cL (uq.add (v4.toNat * 1)) (vs (nth r11 v4)) rfl (afo 0 _ rfl)) (L_as (vs (nth r11 v4)) rfl (L_nil (W_seq ?_))))
  refine W_join (J := (fun t hu => ∃ (r12 : value) (r13 : value) (b3 : Nat) (ct : Nat), Has t [(3, .pointer (some ⟨au, 0, none⟩)), (4, .pointer (some ⟨ar, 0, none⟩)), (5, .pointer (some ⟨bg, 0, none⟩)), (6, .pointer (some ⟨aa, 0, none⟩)), (8, .slice a8 d0 d1), (9, .pointer (some ⟨ab, 0, none⟩)), (20, vs (nth r11 v4)), (21, .pointer (some ⟨b3, 0, none⟩)), (22, .pointer (some ⟨ct, 0, none⟩)), (142, .slice ad et bw), (143, vi (r11.length : Int)), (144, vi v4)] ∧ Gr b2 hu none ∧ Ct [] w0 hu [some ct, some b3, bk ad, bk ac, some ab, bk ae, bk a8, some aa] O ∧ (∀ b, some b ∈ ([some ct, some b3] : Ob) → b2.heap.size ≤ b) ∧ Lim r12.val ∧ Bx hu b3 [vb r12.has, vs r12.val] ∧ Lim r13.val ∧ Bx hu ct [vb r13.has, vs r13.val] ∧ F67.E base_ (nth r11 v4) (fun r14 => (∃ (f2 : value → value → Bool) (f2_ok : value → value → Prop), (∀ x0_ x1_, f2_ok x0_ x1_ → F20.E x0_ x1_  (fun r => r = f2 x0_ x1_)) ∧ F10.E r14 r12 r13 f2 f2_ok (fun r15 r16 => (∃ (ea : (List Str) → Bool → Str → Prop), ((if !r16 then (([116, 97, 103, 32] : Str).length + (nth r11 v4).length ≤ 9223372036854775807) ∧ (xs6.length + ([(([116, 97, 103, 32] : Str) ++ (nth r11 v4))] : List Str).length ≤ 268435456) ∧ (if !r12.has then ea (xs6 ++ ([(([116, 97, 103, 32] : Str) ++ (nth r11 v4))] : List Str)) r13.has r13.val else ea (xs6 ++ ([(([116, 97, 103, 32] : Str) ++ (nth r11 v4))] : List Str)) r12.has r12.val) else ea xs6 r15.has r15.val)) ∧ ∀ (xs8 : List Str) (z3 : Bool) (z4 : Str), ea xs8 z3 z4 → (∃ (fk : (List Tag) → Prop), ((if z3 then (xs7.length + ([(⟨(nth r11 v4), z4⟩ : Tag)] : List Tag).length ≤ 268435456) ∧ fk (xs7 ++ ([(⟨(nth r11 v4), z4⟩ : Tag)] : List Tag)) else fk xs7)) ∧ ∀ (xs9 : List Tag), fk xs9 → (I64 (v4 + 1)) ∧ px xs8 (v4 + 1) xs9 ∧ kk xs8 (v4 + 1) xs9 < kk xs6 v4 xs7))))))) ?_ ?_
  ·refine W_mixr 10 [] (by kernel_rfl) rfl fun afp az b8 => ?_
   have dp := d9.k0 az
   have bb := d9.stn az
   have afq := (kq.st bb)
   refine M_pu 0 rfl (by kernel_rfl) b8 (P_ldar ag61 sz61 cR ⟨ar, 0, none⟩ [vs a.Id, vi a.Shape.Kind, .slice a2 a3 a4, .slice bd be bf] rfl rfl (afq.cells (off := 0) rfl) nm_nil) ?_
   refine M_pu 1 rfl (by kernel_rfl) b8 (P_move (vs (nth r11 v4)) rfl) ?_
   have afr := (nh.st bb)
   refine M_pu 3 rfl (by kernel_rfl) b8 (P_ldar ag61 sz61 cR ⟨bg, 0, none⟩ [vs b.Id, vi b.Shape.Kind, .slice al am an, .slice ao ap aq] rfl rfl (afr.cells (off := 0) rfl) nm_nil) ?_
   refine M_pu 4 rfl (by kernel_rfl) b8 (P_move (vs (nth r11 v4)) rfl) ?_
   refine M_any3 2 6 7 (by kernel_rfl) rfl rfl rfl ?_ ?_ ?_
   ·refine L_call go85 [.agg #[vs a.Id, vi a.Shape.Kind, .slice a2 a3 a4, .slice bd be bf], vs (nth r11 v4)] rfl ((F67.calls afp dp.ok a a2 a3 a4 bd be bf ew (fi.st bb) (fj.st bb) (nth r11 v4) b7 _ H).mono ?_)
    rintro _ kt ⟨r12, rfl, H, hv, ji⟩
    have gp := dp.k0 hv
    have d2 := Gm.tm b8 hv
    refine L_nil ⟨d2, ?_⟩
    refine M_any3 5 6 7 (by kernel_rfl) rfl rfl rfl ?_ ?_ ?_
    ·have ur := dp.stn hv
     have afs := ((db.st bb).st ur)
     have ku := ((dc.st bb).st ur)
     refine L_call go85 [.agg #[vs b.Id, vi b.Shape.Kind, .slice al am an, .slice ao ap aq], vs (nth r11 v4)] rfl ((F67.calls kt gp.ok b al am an ao ap aq dy afs ku (nth r11 v4) b7 _ H).mono ?_)
     rintro _ ams ⟨r13, rfl, H, us, ut⟩
     have uu := gp.k0 us
     have hw := Gm.tm d2 us
     refine L_nil ⟨hw, ?_⟩
     refine M_any2 6 7 (by kernel_rfl) rfl rfl ?_ ?_
     ·refine L_alloc [vb false, vs []] ze128 fun aft hx hy hu1026 kv p1 => ?_
      have p2 := uu.own kv (some hx) (oglt hy hu1026)
      have fl := Gm.tm hw kv
      refine L_nil ⟨fl, ?_⟩
      refine M_any1 7 (by kernel_rfl) rfl ?_
      refine L_alloc [vb false, vs []] ze128 fun afu hz h0 hu1035 h1 p3 => ?_
      have kx := p2.own h1 (some hz) (oglt h0 hu1035)
      have ky := Gm.tm fl h1
      refine L_nil ⟨ky, ?_⟩
      refine M_any1 8 (by kernel_rfl) rfl ?_
      have afv := (p1.k0 h1)
      refine L_stb hx 0 [vb false, vs ([] : Str)] [vb r12.has, vs r12.val] [vb r12.has, vs r12.val] rfl afv rfl sz128 rfl rfl rfl fun afw h2 p4 => ?_
      have kz := kx.wr 1 rfl h2
      have k1 := Gm.tq ky h2 (hv_new hw (oge hy))
      refine L_nil ⟨k1, ?_⟩
      refine M_any1 9 (by kernel_rfl) rfl ?_
      have p5 := (kx.bm p3 0 1 rfl rfl rfl h2)
      refine L_stb hz 0 [vb false, vs ([] : Str)] [vb r13.has, vs r13.val] [vb r13.has, vs r13.val] rfl p5 rfl sz128 rfl rfl rfl fun afx h3 p6 => ?_
      have p7 := kz.wr 0 rfl h3
      have k2 := Gm.tq k1 h3 (hv_new fl (oge h0))
      refine L_nil ⟨k2, ?_⟩
      refine M_nil (by kernel_rfl) ?_
      have k3 := (kz.bm p4 1 0 rfl rfl rfl h3)
      exact ⟨r12, r13, hx, hz, (hasI rfl), (Gr.t0 az k2.g0), p7, (jg_cons az.size (hv_new fl (oge h0)) (jg_cons az.size (hv_new hw (oge hy)) jg_nil)), ji, k3, ut, p6, H⟩
     refine L_alloc [vb false, vs []] ze128 fun aft hx hy hu1026 kv p1 => ?_
     have p2 := uu.own kv (some hx) (oglt hy hu1026)
     have fl := Gm.tm hw kv
     refine L_nil ⟨fl, ?_⟩
     refine M_any1 6 (by kernel_rfl) rfl ?_
     refine L_alloc [vb false, vs []] ze128 fun afu hz h0 hu1035 h1 p3 => ?_
     have kx := p2.own h1 (some hz) (oglt h0 hu1035)
     have ky := Gm.tm fl h1
     refine L_nil ⟨ky, ?_⟩
     refine M_any1 8 (by kernel_rfl) rfl ?_
     refine L_stb hz 0 [vb false, vs ([] : Str)] [vb r12.has, vs r12.val] [vb r12.has, vs r12.val] rfl p3 rfl sz128 rfl rfl rfl fun afw h2 p4 => ?_
     have uv := kx.wr 0 rfl h2
     have uw := Gm.tq ky h2 (hv_new fl (oge h0))
     refine L_nil ⟨uw, ?_⟩
     refine M_any1 9 (by kernel_rfl) rfl ?_
     have afy := (kx.bm (p1.k0 h1) 1 0 rfl rfl rfl h2)
     refine L_stb hx 0 [vb false, vs ([] : Str)] [vb r13.has, vs r13.val] [vb r13.has, vs r13.val] rfl afy rfl sz128 rfl rfl rfl fun amt p8 afz => ?_
     have af0 := uv.wr 1 rfl p8
     have ux := Gm.tq uw p8 (hv_new hw (oge hy))
     refine L_nil ⟨ux, ?_⟩
     refine M_nil (by kernel_rfl) ?_
     have p9 := af0.perm (.swap _ _ _)
     have k3 := (uv.bm p4 0 1 rfl rfl rfl p8)
     have dq := afz
     exact ⟨r12, r13, hz, hx, (hasI rfl), (Gr.t0 az ux.g0), p9, (jg_cons az.size (hv_new hw (oge hy)) (jg_cons az.size (hv_new fl (oge h0)) jg_nil)), ji, k3, ut, dq, H⟩
    ·refine L_alloc [vb false, vs []] ze128 fun qa eb cx hu1015 fm k4 => ?_
     have fn := gp.own fm (some eb) (oglt cx hu1015)
     have ec := Gm.tm d2 fm
     refine L_nil ⟨ec, ?_⟩
     refine M_any2 5 7 (by kernel_rfl) rfl rfl ?_ ?_
     ·have k5 := dp.stn hv
      have cy := gp.stown _ fm (oge cx)
      have qb := (((db.st bb).st k5).st cy)
      have h4 := (((dc.st bb).st k5).st cy)
      refine L_call go85 [.agg #[vs b.Id, vi b.Shape.Kind, .slice al am an, .slice ao ap aq], vs (nth r11 v4)] rfl ((F67.calls qa fn.ok b al am an ao ap aq dy qb h4 (nth r11 v4) b7 _ H).mono ?_)
      rintro _ af1 ⟨r13, rfl, H, ck, qc⟩
      have fo := fn.k0 ck
      have cz := Gm.tm ec ck
      refine L_nil ⟨cz, ?_⟩
      refine M_any1 7 (by kernel_rfl) rfl ?_
      refine L_alloc [vb false, vs []] ze128 fun af2 h5 h6 hu1036 h7 qd => ?_
      have k6 := fo.own h7 (some h5) (oglt h6 hu1036)
      have k7 := Gm.tm cz h7
      refine L_nil ⟨k7, ?_⟩
      refine M_any1 8 (by kernel_rfl) rfl ?_
      have af3 := ((k4.k0 ck).k0 h7)
      refine L_stb eb 0 [vb false, vs ([] : Str)] [vb r12.has, vs r12.val] [vb r12.has, vs r12.val] rfl af3 rfl sz128 rfl rfl rfl fun af4 h8 qe => ?_
      have uy := k6.wr 1 rfl h8
      have uz := Gm.tq k7 h8 (hv_new d2 (oge cx))
      refine L_nil ⟨uz, ?_⟩
      refine M_any1 9 (by kernel_rfl) rfl ?_
      have af5 := (k6.bm qd 0 1 rfl rfl rfl h8)
      refine L_stb h5 0 [vb false, vs ([] : Str)] [vb r13.has, vs r13.val] [vb r13.has, vs r13.val] rfl af5 rfl sz128 rfl rfl rfl fun amu qf af6 => ?_
      have p9 := uy.wr 0 rfl qf
      have u0 := Gm.tq uz qf (hv_new cz (oge h6))
      refine L_nil ⟨u0, ?_⟩
      refine M_nil (by kernel_rfl) ?_
      have dq := (uy.bm qe 1 0 rfl rfl rfl qf)
      exact ⟨r12, r13, eb, h5, (hasI rfl), (Gr.t0 az u0.g0), p9, (jg_cons az.size (hv_new cz (oge h6)) (jg_cons az.size (hv_new d2 (oge cx)) jg_nil)), ji, dq, qc, af6, H⟩
     refine L_alloc [vb false, vs []] ze128 fun qg h9 fp hu1024 fq qh => ?_
     have k8 := fn.own fq (some h9) (oglt fp hu1024)
     have k9 := Gm.tm ec fq
     refine L_nil ⟨k9, ?_⟩
     refine M_any1 5 (by kernel_rfl) rfl ?_
     have la := dp.stn hv
     have lb := gp.stown _ fm (oge cx)
     have lc := fn.stown _ fq (oge fp)
     have qi := ((((db.st bb).st la).st lb).st lc)
     have qj := ((((dc.st bb).st la).st lb).st lc)
     refine L_call go85 [.agg #[vs b.Id, vi b.Shape.Kind, .slice al am an, .slice ao ap aq], vs (nth r11 v4)] rfl ((F67.calls qg k8.ok b al am an ao ap aq dy qi qj (nth r11 v4) b7 _ H).mono ?_)
     rintro _ qk ⟨r13, rfl, H, fr, ql⟩
     have ld := k8.k0 fr
     have lf := Gm.tm k9 fr
     refine L_nil ⟨lf, ?_⟩
     refine M_any1 8 (by kernel_rfl) rfl ?_
     have qm := ((k4.k0 fq).k0 fr)
     refine L_stb eb 0 [vb false, vs ([] : Str)] [vb r12.has, vs r12.val] [vb r12.has, vs r12.val] rfl qm rfl sz128 rfl rfl rfl fun af7 ia qn => ?_
     have gq := ld.wr 1 rfl ia
     have gs := Gm.tq lf ia (hv_new d2 (oge cx))
     refine L_nil ⟨gs, ?_⟩
     refine M_any1 9 (by kernel_rfl) rfl ?_
     have lg := (ld.bm (qh.k0 fr) 0 1 rfl rfl rfl ia)
     refine L_stb h9 0 [vb false, vs ([] : Str)] [vb r13.has, vs r13.val] [vb r13.has, vs r13.val] rfl lg rfl sz128 rfl rfl rfl fun u1 ed lh => ?_
     have ib := gq.wr 0 rfl ed
     have gt := Gm.tq gs ed (hv_new ec (oge fp))
     refine L_nil ⟨gt, ?_⟩
     refine M_nil (by kernel_rfl) ?_
     have qo := (gq.bm qn 1 0 rfl rfl rfl ed)
     exact ⟨r12, r13, eb, h9, (hasI rfl), (Gr.t0 az gt.g0), ib, (jg_cons az.size (hv_new ec (oge fp)) (jg_cons az.size (hv_new d2 (oge cx)) jg_nil)), ji, qo, ql, lh, H⟩
    refine L_alloc [vb false, vs []] ze128 fun qa eb cx hu1015 fm k4 => ?_
    have fn := gp.own fm (some eb) (oglt cx hu1015)
    have ec := Gm.tm d2 fm
    refine L_nil ⟨ec, ?_⟩
    refine M_any2 5 6 (by kernel_rfl) rfl rfl ?_ ?_
    ·have k5 := dp.stn hv
     have cy := gp.stown _ fm (oge cx)
     have qb := (((db.st bb).st k5).st cy)
     have h4 := (((dc.st bb).st k5).st cy)
     refine L_call go85 [.agg #[vs b.Id, vi b.Shape.Kind, .slice al am an, .slice ao ap aq], vs (nth r11 v4)] rfl ((F67.calls qa fn.ok b al am an ao ap aq dy qb h4 (nth r11 v4) b7 _ H).mono ?_)
     rintro _ af1 ⟨r13, rfl, H, ck, qc⟩
     have fo := fn.k0 ck
     have cz := Gm.tm ec ck
     refine L_nil ⟨cz, ?_⟩
     refine M_any1 6 (by kernel_rfl) rfl ?_
     refine L_alloc [vb false, vs []] ze128 fun af2 h5 h6 hu1036 h7 qd => ?_
     have k6 := fo.own h7 (some h5) (oglt h6 hu1036)
     have k7 := Gm.tm cz h7
     refine L_nil ⟨k7, ?_⟩
     refine M_any1 8 (by kernel_rfl) rfl ?_
     refine L_stb h5 0 [vb false, vs ([] : Str)] [vb r12.has, vs r12.val] [vb r12.has, vs r12.val] rfl qd rfl sz128 rfl rfl rfl fun af4 h8 qe => ?_
     have kz := k6.wr 0 rfl h8
     have k1 := Gm.tq k7 h8 (hv_new cz (oge h6))
     refine L_nil ⟨k1, ?_⟩
     refine M_any1 9 (by kernel_rfl) rfl ?_
     have p5 := (k6.bm ((k4.k0 ck).k0 h7) 1 0 rfl rfl rfl h8)
     refine L_stb eb 0 [vb false, vs ([] : Str)] [vb r13.has, vs r13.val] [vb r13.has, vs r13.val] rfl p5 rfl sz128 rfl rfl rfl fun afx h3 p6 => ?_
     have p7 := kz.wr 1 rfl h3
     have k2 := Gm.tq k1 h3 (hv_new d2 (oge cx))
     refine L_nil ⟨k2, ?_⟩
     refine M_nil (by kernel_rfl) ?_
     have ib := p7.perm (.swap _ _ _)
     have dq := (kz.bm qe 0 1 rfl rfl rfl h3)
     have qo := p6
     exact ⟨r12, r13, h5, eb, (hasI rfl), (Gr.t0 az k2.g0), ib, (jg_cons az.size (hv_new d2 (oge cx)) (jg_cons az.size (hv_new cz (oge h6)) jg_nil)), ji, dq, qc, qo, H⟩
    refine L_alloc [vb false, vs []] ze128 fun qg h9 fp hu1024 fq qh => ?_
    have k8 := fn.own fq (some h9) (oglt fp hu1024)
    have k9 := Gm.tm ec fq
    refine L_nil ⟨k9, ?_⟩
    refine M_any1 5 (by kernel_rfl) rfl ?_
    have la := dp.stn hv
    have lb := gp.stown _ fm (oge cx)
    have lc := fn.stown _ fq (oge fp)
    have qi := ((((db.st bb).st la).st lb).st lc)
    have qj := ((((dc.st bb).st la).st lb).st lc)
    refine L_call go85 [.agg #[vs b.Id, vi b.Shape.Kind, .slice al am an, .slice ao ap aq], vs (nth r11 v4)] rfl ((F67.calls qg k8.ok b al am an ao ap aq dy qi qj (nth r11 v4) b7 _ H).mono ?_)
    rintro _ qk ⟨r13, rfl, H, fr, ql⟩
    have ld := k8.k0 fr
    have lf := Gm.tm k9 fr
    refine L_nil ⟨lf, ?_⟩
    refine M_any1 8 (by kernel_rfl) rfl ?_
    have qm := (qh.k0 fr)
    refine L_stb h9 0 [vb false, vs ([] : Str)] [vb r12.has, vs r12.val] [vb r12.has, vs r12.val] rfl qm rfl sz128 rfl rfl rfl fun af7 ia qn => ?_
    have gq := ld.wr 0 rfl ia
    have gs := Gm.tq lf ia (hv_new ec (oge fp))
    refine L_nil ⟨gs, ?_⟩
    refine M_any1 9 (by kernel_rfl) rfl ?_
    have lg := (ld.bm ((k4.k0 fq).k0 fr) 1 0 rfl rfl rfl ia)
    refine L_stb eb 0 [vb false, vs ([] : Str)] [vb r13.has, vs r13.val] [vb r13.has, vs r13.val] rfl lg rfl sz128 rfl rfl rfl fun u1 ed lh => ?_
    have ib := gq.wr 1 rfl ed
    have gt := Gm.tq gs ed (hv_new d2 (oge cx))
    refine L_nil ⟨gt, ?_⟩
    refine M_nil (by kernel_rfl) ?_
    have ee := ib.perm (.swap _ _ _)
    have li := (gq.bm qn 0 1 rfl rfl rfl ed)
    have ic := lh
    exact ⟨r12, r13, h9, eb, (hasI rfl), (Gr.t0 az gt.g0), ee, (jg_cons az.size (hv_new d2 (oge cx)) (jg_cons az.size (hv_new ec (oge fp)) jg_nil)), ji, li, ql, ic, H⟩
   ·refine L_alloc [vb false, vs []] ze128 fun kt c1 b9 hu1007 fs id => ?_
    have dr := dp.own fs (some c1) (oglt b9 hu1007)
    have ef := Gm.tm b8 fs
    refine L_nil ⟨ef, ?_⟩
    refine M_any2 2 7 (by kernel_rfl) rfl rfl ?_ ?_
    ·have ds := dp.stown _ fs (oge b9)
     have ku := ((fi.st bb).st ds)
     have qp := ((fj.st bb).st ds)
     refine L_call go85 [.agg #[vs a.Id, vi a.Shape.Kind, .slice a2 a3 a4, .slice bd be bf], vs (nth r11 v4)] rfl ((F67.calls kt dr.ok a a2 a3 a4 bd be bf ew ku qp (nth r11 v4) b7 _ H).mono ?_)
     rintro _ qq ⟨r12, rfl, H, dt, lj⟩
     have ft := dr.k0 dt
     have eg := Gm.tm ef dt
     refine L_nil ⟨eg, ?_⟩
     refine M_any2 5 7 (by kernel_rfl) rfl rfl ?_ ?_
     ·have lk := dr.stn dt
      have ie := (((db.st bb).st ds).st lk)
      have qr := (((dc.st bb).st ds).st lk)
      refine L_call go85 [.agg #[vs b.Id, vi b.Shape.Kind, .slice al am an, .slice ao ap aq], vs (nth r11 v4)] rfl ((F67.calls qq ft.ok b al am an ao ap aq dy ie qr (nth r11 v4) b7 _ H).mono ?_)
      rintro _ af8 ⟨r13, rfl, H, ig, qs⟩
      have qt := ft.k0 ig
      have fu := Gm.tm eg ig
      refine L_nil ⟨fu, ?_⟩
      refine M_any1 7 (by kernel_rfl) rfl ?_
      refine L_alloc [vb false, vs []] ze128 fun qk ih ii hu1038 ij qu => ?_
      have ll := qt.own ij (some ih) (oglt ii hu1038)
      have lm := Gm.tm fu ij
      refine L_nil ⟨lm, ?_⟩
      refine M_any1 8 (by kernel_rfl) rfl ?_
      have af9 := (((id.k0 dt).k0 ig).k0 ij)
      refine L_stb c1 0 [vb false, vs ([] : Str)] [vb r12.has, vs r12.val] [vb r12.has, vs r12.val] rfl af9 rfl sz128 rfl rfl rfl fun aga ik qv => ?_
      have u2 := ll.wr 1 rfl ik
      have u3 := Gm.tq lm ik (hv_new b8 (oge b9))
      refine L_nil ⟨u3, ?_⟩
      refine M_any1 9 (by kernel_rfl) rfl ?_
      have k3 := (ll.bm qu 0 1 rfl rfl rfl ik)
      refine L_stb ih 0 [vb false, vs ([] : Str)] [vb r13.has, vs r13.val] [vb r13.has, vs r13.val] rfl k3 rfl sz128 rfl rfl rfl fun amv qw agb => ?_
      have agc := u2.wr 0 rfl qw
      have u4 := Gm.tq u3 qw (hv_new fu (oge ii))
      refine L_nil ⟨u4, ?_⟩
      refine M_nil (by kernel_rfl) ?_
      have li := (u2.bm qv 1 0 rfl rfl rfl qw)
      exact ⟨r12, r13, c1, ih, (hasI rfl), (Gr.t0 az u4.g0), agc, (jg_cons az.size (hv_new fu (oge ii)) (jg_cons az.size (hv_new b8 (oge b9)) jg_nil)), lj, li, qs, agb, H⟩
     refine L_alloc [vb false, vs []] ze128 fun qx il fv hu1027 ck qy => ?_
     have fo := ft.own ck (some il) (oglt fv hu1027)
     have cz := Gm.tm eg ck
     refine L_nil ⟨cz, ?_⟩
     refine M_any1 5 (by kernel_rfl) rfl ?_
     have ln := dr.stn dt
     have eh := ft.stown _ ck (oge fv)
     have im := ((((db.st bb).st ds).st ln).st eh)
     have io := ((((dc.st bb).st ds).st ln).st eh)
     refine L_call go85 [.agg #[vs b.Id, vi b.Shape.Kind, .slice al am an, .slice ao ap aq], vs (nth r11 v4)] rfl ((F67.calls qx fo.ok b al am an ao ap aq dy im io (nth r11 v4) b7 _ H).mono ?_)
     rintro _ qz ⟨r13, rfl, H, ca, ip⟩
     have ei := fo.k0 ca
     have ej := Gm.tm cz ca
     refine L_nil ⟨ej, ?_⟩
     refine M_any1 8 (by kernel_rfl) rfl ?_
     have iq := (((id.k0 dt).k0 ck).k0 ca)
     refine L_stb c1 0 [vb false, vs ([] : Str)] [vb r12.has, vs r12.val] [vb r12.has, vs r12.val] rfl iq rfl sz128 rfl rfl rfl fun q0 c3 ir => ?_
     have ek := ei.wr 1 rfl c3
     have el := Gm.tq ej c3 (hv_new b8 (oge b9))
     refine L_nil ⟨el, ?_⟩
     refine M_any1 9 (by kernel_rfl) rfl ?_
     have dq := (ei.bm (qy.k0 ca) 0 1 rfl rfl rfl c3)
     refine L_stb il 0 [vb false, vs ([] : Str)] [vb r13.has, vs r13.val] [vb r13.has, vs r13.val] rfl dq rfl sz128 rfl rfl rfl fun q1 c5 it => ?_
     have ee := ek.wr 0 rfl c5
     have em := Gm.tq el c5 (hv_new eg (oge fv))
     refine L_nil ⟨em, ?_⟩
     refine M_nil (by kernel_rfl) ?_
     have ic := (ek.bm ir 1 0 rfl rfl rfl c5)
     exact ⟨r12, r13, c1, il, (hasI rfl), (Gr.t0 az em.g0), ee, (jg_cons az.size (hv_new eg (oge fv)) (jg_cons az.size (hv_new b8 (oge b9)) jg_nil)), lj, ic, ip, it, H⟩
    refine L_alloc [vb false, vs []] ze128 fun q2 iu fw hu1016 fx q3 => ?_
    have iv := dr.own fx (some iu) (oglt fw hu1016)
    have lo := Gm.tm ef fx
    refine L_nil ⟨lo, ?_⟩
    refine M_any1 2 (by kernel_rfl) rfl ?_
    have cy := dp.stown _ fs (oge b9)
    have fy := dr.stown _ fx (oge fw)
    have h4 := (((fi.st bb).st cy).st fy)
    have ie := (((fj.st bb).st cy).st fy)
    refine L_call go85 [.agg #[vs a.Id, vi a.Shape.Kind, .slice a2 a3 a4, .slice bd be bf], vs (nth r11 v4)] rfl ((F67.calls q2 iv.ok a a2 a3 a4 bd be bf ew h4 ie (nth r11 v4) b7 _ H).mono ?_)
    rintro _ q4 ⟨r12, rfl, H, en, q5⟩
    have lp := iv.k0 en
    have lq := Gm.tm lo en
    refine L_nil ⟨lq, ?_⟩
    refine M_any1 5 (by kernel_rfl) rfl ?_
    have eh := iv.stn en
    have im := ((((db.st bb).st cy).st fy).st eh)
    have io := ((((dc.st bb).st cy).st fy).st eh)
    refine L_call go85 [.agg #[vs b.Id, vi b.Shape.Kind, .slice al am an, .slice ao ap aq], vs (nth r11 v4)] rfl ((F67.calls q4 lp.ok b al am an ao ap aq dy im io (nth r11 v4) b7 _ H).mono ?_)
    rintro _ qz ⟨r13, rfl, H, ca, ip⟩
    have ei := lp.k0 ca
    have ej := Gm.tm lq ca
    refine L_nil ⟨ej, ?_⟩
    refine M_any1 8 (by kernel_rfl) rfl ?_
    have iq := (((id.k0 fx).k0 en).k0 ca)
    refine L_stb c1 0 [vb false, vs ([] : Str)] [vb r12.has, vs r12.val] [vb r12.has, vs r12.val] rfl iq rfl sz128 rfl rfl rfl fun q0 c3 ir => ?_
    have ek := ei.wr 1 rfl c3
    have el := Gm.tq ej c3 (hv_new b8 (oge b9))
    refine L_nil ⟨el, ?_⟩
    refine M_any1 9 (by kernel_rfl) rfl ?_
    have dq := (ei.bm ((q3.k0 en).k0 ca) 0 1 rfl rfl rfl c3)
    refine L_stb iu 0 [vb false, vs ([] : Str)] [vb r13.has, vs r13.val] [vb r13.has, vs r13.val] rfl dq rfl sz128 rfl rfl rfl fun q1 c5 it => ?_
    have ee := ek.wr 0 rfl c5
    have em := Gm.tq el c5 (hv_new ef (oge fw))
    refine L_nil ⟨em, ?_⟩
    refine M_nil (by kernel_rfl) ?_
    have ic := (ek.bm ir 1 0 rfl rfl rfl c5)
    exact ⟨r12, r13, c1, iu, (hasI rfl), (Gr.t0 az em.g0), ee, (jg_cons az.size (hv_new ef (oge fw)) (jg_cons az.size (hv_new b8 (oge b9)) jg_nil)), q5, ic, ip, it, H⟩
   refine L_alloc [vb false, vs []] ze128 fun kt c1 b9 hu1007 fs id => ?_
   have dr := dp.own fs (some c1) (oglt b9 hu1007)
   have ef := Gm.tm b8 fs
   refine L_nil ⟨ef, ?_⟩
   refine M_any2 2 6 (by kernel_rfl) rfl rfl ?_ ?_
   ·have ds := dp.stown _ fs (oge b9)
    have ku := ((fi.st bb).st ds)
    have qp := ((fj.st bb).st ds)
    refine L_call go85 [.agg #[vs a.Id, vi a.Shape.Kind, .slice a2 a3 a4, .slice bd be bf], vs (nth r11 v4)] rfl ((F67.calls kt dr.ok a a2 a3 a4 bd be bf ew ku qp (nth r11 v4) b7 _ H).mono ?_)
    rintro _ qq ⟨r12, rfl, H, dt, lj⟩
    have ft := dr.k0 dt
    have eg := Gm.tm ef dt
    refine L_nil ⟨eg, ?_⟩
    refine M_any2 5 6 (by kernel_rfl) rfl rfl ?_ ?_
    ·have lk := dr.stn dt
     have ie := (((db.st bb).st ds).st lk)
     have qr := (((dc.st bb).st ds).st lk)
     refine L_call go85 [.agg #[vs b.Id, vi b.Shape.Kind, .slice al am an, .slice ao ap aq], vs (nth r11 v4)] rfl ((F67.calls qq ft.ok b al am an ao ap aq dy ie qr (nth r11 v4) b7 _ H).mono ?_)
     rintro _ af8 ⟨r13, rfl, H, ig, qs⟩
     have qt := ft.k0 ig
     have fu := Gm.tm eg ig
     refine L_nil ⟨fu, ?_⟩
     refine M_any1 6 (by kernel_rfl) rfl ?_
     refine L_alloc [vb false, vs []] ze128 fun qk ih ii hu1038 ij qu => ?_
     have ll := qt.own ij (some ih) (oglt ii hu1038)
     have lm := Gm.tm fu ij
     refine L_nil ⟨lm, ?_⟩
     refine M_any1 8 (by kernel_rfl) rfl ?_
     refine L_stb ih 0 [vb false, vs ([] : Str)] [vb r12.has, vs r12.val] [vb r12.has, vs r12.val] rfl qu rfl sz128 rfl rfl rfl fun aga ik qv => ?_
     have gq := ll.wr 0 rfl ik
     have gs := Gm.tq lm ik (hv_new fu (oge ii))
     refine L_nil ⟨gs, ?_⟩
     refine M_any1 9 (by kernel_rfl) rfl ?_
     have lg := (ll.bm (((id.k0 dt).k0 ig).k0 ij) 1 0 rfl rfl rfl ik)
     refine L_stb c1 0 [vb false, vs ([] : Str)] [vb r13.has, vs r13.val] [vb r13.has, vs r13.val] rfl lg rfl sz128 rfl rfl rfl fun u1 ed lh => ?_
     have ib := gq.wr 1 rfl ed
     have gt := Gm.tq gs ed (hv_new b8 (oge b9))
     refine L_nil ⟨gt, ?_⟩
     refine M_nil (by kernel_rfl) ?_
     have ee := ib.perm (.swap _ _ _)
     have li := (gq.bm qv 0 1 rfl rfl rfl ed)
     have ic := lh
     exact ⟨r12, r13, ih, c1, (hasI rfl), (Gr.t0 az gt.g0), ee, (jg_cons az.size (hv_new b8 (oge b9)) (jg_cons az.size (hv_new fu (oge ii)) jg_nil)), lj, li, qs, ic, H⟩
    refine L_alloc [vb false, vs []] ze128 fun qx il fv hu1027 ck qy => ?_
    have fo := ft.own ck (some il) (oglt fv hu1027)
    have cz := Gm.tm eg ck
    refine L_nil ⟨cz, ?_⟩
    refine M_any1 5 (by kernel_rfl) rfl ?_
    have ln := dr.stn dt
    have eh := ft.stown _ ck (oge fv)
    have im := ((((db.st bb).st ds).st ln).st eh)
    have io := ((((dc.st bb).st ds).st ln).st eh)
    refine L_call go85 [.agg #[vs b.Id, vi b.Shape.Kind, .slice al am an, .slice ao ap aq], vs (nth r11 v4)] rfl ((F67.calls qx fo.ok b al am an ao ap aq dy im io (nth r11 v4) b7 _ H).mono ?_)
    rintro _ qz ⟨r13, rfl, H, ca, ip⟩
    have ei := fo.k0 ca
    have ej := Gm.tm cz ca
    refine L_nil ⟨ej, ?_⟩
    refine M_any1 8 (by kernel_rfl) rfl ?_
    have iq := (qy.k0 ca)
    refine L_stb il 0 [vb false, vs ([] : Str)] [vb r12.has, vs r12.val] [vb r12.has, vs r12.val] rfl iq rfl sz128 rfl rfl rfl fun q0 c3 ir => ?_
    have ek := ei.wr 0 rfl c3
    have el := Gm.tq ej c3 (hv_new eg (oge fv))
    refine L_nil ⟨el, ?_⟩
    refine M_any1 9 (by kernel_rfl) rfl ?_
    have dq := (ei.bm (((id.k0 dt).k0 ck).k0 ca) 1 0 rfl rfl rfl c3)
    refine L_stb c1 0 [vb false, vs ([] : Str)] [vb r13.has, vs r13.val] [vb r13.has, vs r13.val] rfl dq rfl sz128 rfl rfl rfl fun q1 c5 it => ?_
    have ee := ek.wr 1 rfl c5
    have em := Gm.tq el c5 (hv_new b8 (oge b9))
    refine L_nil ⟨em, ?_⟩
    refine M_nil (by kernel_rfl) ?_
    have q6 := ee.perm (.swap _ _ _)
    have q7 := (ek.bm ir 0 1 rfl rfl rfl c5)
    have q8 := it
    exact ⟨r12, r13, il, c1, (hasI rfl), (Gr.t0 az em.g0), q6, (jg_cons az.size (hv_new b8 (oge b9)) (jg_cons az.size (hv_new eg (oge fv)) jg_nil)), lj, q7, ip, q8, H⟩
   refine L_alloc [vb false, vs []] ze128 fun q2 iu fw hu1016 fx q3 => ?_
   have iv := dr.own fx (some iu) (oglt fw hu1016)
   have lo := Gm.tm ef fx
   refine L_nil ⟨lo, ?_⟩
   refine M_any1 2 (by kernel_rfl) rfl ?_
   have cy := dp.stown _ fs (oge b9)
   have fy := dr.stown _ fx (oge fw)
   have h4 := (((fi.st bb).st cy).st fy)
   have ie := (((fj.st bb).st cy).st fy)
   refine L_call go85 [.agg #[vs a.Id, vi a.Shape.Kind, .slice a2 a3 a4, .slice bd be bf], vs (nth r11 v4)] rfl ((F67.calls q2 iv.ok a a2 a3 a4 bd be bf ew h4 ie (nth r11 v4) b7 _ H).mono ?_)
   rintro _ q4 ⟨r12, rfl, H, en, q5⟩
   have lp := iv.k0 en
   have lq := Gm.tm lo en
   refine L_nil ⟨lq, ?_⟩
   refine M_any1 5 (by kernel_rfl) rfl ?_
   have eh := iv.stn en
   have im := ((((db.st bb).st cy).st fy).st eh)
   have io := ((((dc.st bb).st cy).st fy).st eh)
   refine L_call go85 [.agg #[vs b.Id, vi b.Shape.Kind, .slice al am an, .slice ao ap aq], vs (nth r11 v4)] rfl ((F67.calls q4 lp.ok b al am an ao ap aq dy im io (nth r11 v4) b7 _ H).mono ?_)
   rintro _ qz ⟨r13, rfl, H, ca, ip⟩
   have ei := lp.k0 ca
   have ej := Gm.tm lq ca
   refine L_nil ⟨ej, ?_⟩
   refine M_any1 8 (by kernel_rfl) rfl ?_
   have iq := ((q3.k0 en).k0 ca)
   refine L_stb iu 0 [vb false, vs ([] : Str)] [vb r12.has, vs r12.val] [vb r12.has, vs r12.val] rfl iq rfl sz128 rfl rfl rfl fun q0 c3 ir => ?_
   have ek := ei.wr 0 rfl c3
   have el := Gm.tq ej c3 (hv_new ef (oge fw))
   refine L_nil ⟨el, ?_⟩
   refine M_any1 9 (by kernel_rfl) rfl ?_
   have dq := (ei.bm (((id.k0 fx).k0 en).k0 ca) 1 0 rfl rfl rfl c3)
   refine L_stb c1 0 [vb false, vs ([] : Str)] [vb r13.has, vs r13.val] [vb r13.has, vs r13.val] rfl dq rfl sz128 rfl rfl rfl fun q1 c5 it => ?_
   have ee := ek.wr 1 rfl c5
   have em := Gm.tq el c5 (hv_new b8 (oge b9))
   refine L_nil ⟨em, ?_⟩
   refine M_nil (by kernel_rfl) ?_
   have q6 := ee.perm (.swap _ _ _)
   have q7 := (ek.bm ir 0 1 rfl rfl rfl c5)
   have q8 := it
   exact ⟨r12, r13, iu, c1, (hasI rfl), (Gr.t0 az em.g0), q6, (jg_cons az.size (hv_new b8 (oge b9)) (jg_cons az.size (hv_new ef (oge fw)) jg_nil)), q5, q7, ip, q8, H⟩
  rintro amw hu ⟨r12, r13, b3, ct, agd, bx, lr, c6, ni, u5, nj, u6, H⟩
  obtain ⟨amx, rfl⟩ := Has.ins agd
  refine W_seq ?_
  refine W_join (J := (fun t ls => ∃ (r15 : value) (r16 : Bool) (bc : Nat), Has t [(3, .pointer (some ⟨au, 0, none⟩)), (4, .pointer (some ⟨ar, 0, none⟩)), (5, .pointer (some ⟨bg, 0, none⟩)), (6, .pointer (some ⟨aa, 0, none⟩)), (8, .slice a8 d0 d1), (9, .pointer (some ⟨ab, 0, none⟩)), (20, vs (nth r11 v4)), (21, .pointer (some ⟨b3, 0, none⟩)), (22, .pointer (some ⟨ct, 0, none⟩)), (23, .pointer (some ⟨bc, 0, none⟩)), (24, vb r16), (142, .slice ad et bw), (143, vi (r11.length : Int)), (144, vi v4)] ∧ Gr hu ls none ∧ Ct [] w0 ls [some bc, some ct, some b3, bk ad, bk ac, some ab, bk ae, bk a8, some aa] O ∧ (∀ b, some b ∈ ([some bc] : Ob) → hu.heap.size ≤ b) ∧ Lim r15.val ∧ Bx ls bc [vb r15.has, vs r15.val] ∧ (∃ (ea : (List Str) → Bool → Str → Prop), ((if !r16 then (([116, 97, 103, 32] : Str).length + (nth r11 v4).length ≤ 9223372036854775807) ∧ (xs6.length + ([(([116, 97, 103, 32] : Str) ++ (nth r11 v4))] : List Str).length ≤ 268435456) ∧ (if !r12.has then ea (xs6 ++ ([(([116, 97, 103, 32] : Str) ++ (nth r11 v4))] : List Str)) r13.has r13.val else ea (xs6 ++ ([(([116, 97, 103, 32] : Str) ++ (nth r11 v4))] : List Str)) r12.has r12.val) else ea xs6 r15.has r15.val)) ∧ ∀ (xs8 : List Str) (z3 : Bool) (z4 : Str), ea xs8 z3 z4 → (∃ (fk : (List Tag) → Prop), ((if z3 then (xs7.length + ([(⟨(nth r11 v4), z4⟩ : Tag)] : List Tag).length ≤ 268435456) ∧ fk (xs7 ++ ([(⟨(nth r11 v4), z4⟩ : Tag)] : List Tag)) else fk xs7)) ∧ ∀ (xs9 : List Tag), fk xs9 → (I64 (v4 + 1)) ∧ px xs8 (v4 + 1) xs9 ∧ kk xs8 (v4 + 1) xs9 < kk xs6 v4 xs7)))) ?_ ?_
  ·refine W_mixr 12 [] (by kernel_rfl) rfl fun age eu gu => ?_
   have nk := lr.k0 eu
   have lt := d9.stos bx c6
   have lu := lr.stn eu
   have agf := ((ng.st lt).st lu)
   refine M_pu 0 rfl (by kernel_rfl) gu (P_ldar ag61 sz61 cR ⟨au, 0, none⟩ [vs base_.Id, vi base_.Shape.Kind, .slice A2 n3 c4, .slice A7 n8 c9] rfl rfl (agf.cells (off := 0) rfl) nm_nil) ?_
   refine M_pu 1 rfl (by kernel_rfl) gu (P_move (vs (nth r11 v4)) rfl) ?_
   have agh := (u5.k0 eu)
   refine M_pu 3 rfl (by kernel_rfl) gu (P_ldar ag128 sz128 cR ⟨b3, 0, none⟩ [vb r12.has, vs r12.val] rfl rfl (agh.cells (off := 0) rfl) nm_nil) ?_
   have agi := (u6.k0 eu)
   refine M_pu 4 rfl (by kernel_rfl) gu (P_ldar ag128 sz128 cR ⟨ct, 0, none⟩ [vb r13.has, vs r13.val] rfl rfl (agi.cells (off := 0) rfl) nm_nil) ?_
   refine M_any2 2 9 (by kernel_rfl) rfl rfl ?_ ?_
   ·have agj := ((kl.st lt).st lu)
    have agk := ((km.st lt).st lu)
    refine L_call go85 [.agg #[vs base_.Id, vi base_.Shape.Kind, .slice A2 n3 c4, .slice A7 n8 c9], vs (nth r11 v4)] rfl ((F67.calls age nk.ok base_ A2 n3 c4 A7 n8 c9 hs1 agj agk (nth r11 v4) b7 _ H).mono ?_)
    rintro _ u7 ⟨r14, rfl, H, u8, u9⟩
    have q9 := nk.k0 u8
    have lv := Gm.tm gu u8
    refine L_nil ⟨lv, ?_⟩
    refine M_any2 5 9 (by kernel_rfl) rfl rfl ?_ ?_
    ·obtain ⟨f2, f2_ok, agl, H⟩ := H
     have agm : ∀ (w : World) (L : Ob), Ct [] u7 w L ([some ct, some b3, bk ad, bk ac, some ab, bk ae, bk a8, some aa] ++ O) → ∀ (x0_ : value) (va : Lim x0_.val) (x1_ : value) (vc : Lim x1_.val), f2_ok x0_ x1_ → Ret Tryz.prog 87 ([.agg #[vb x0_.has, vs x0_.val], .agg #[vb x1_.has, vs x1_.val]] ++ []) w (fun v w' => v = vb (f2 x0_ x1_) ∧ Gr w w' none) := by
      intro w L c x0_ va x1_ vc hok
      refine (F20.calls w c.ok x0_ va x1_ vc  _ (agl x0_ x1_ hok)).mono ?_
      rintro _ w2 ⟨r, rfl, rfl, g2⟩
      exact ⟨rfl, g2⟩
     refine L_call go86 [.agg #[vb r14.has, vs r14.val], .agg #[vb r12.has, vs r12.val], .agg #[vb r13.has, vs r13.val], .func (.func 87) #[] #[]] rfl ((F10.calls u7 q9.ok r14 u9 r12 ni r13 nj 87 [] f2 f2_ok go87 agm _ H).mono ?_)
     rintro _ ra ⟨r15, r16, rfl, H, jj, rb⟩
     have nl := q9.k0 jj
     have ev := Gm.tm lv jj
     refine L_nil ⟨ev, ?_⟩
     refine M_pu 6 rfl (by kernel_rfl) ev (P_move (.tuple #[.agg #[vb r15.has, vs r15.val], vb r16]) rfl) ?_
     refine M_pu 7 rfl (by kernel_rfl) ev (P_ext [.agg #[vb r15.has, vs r15.val], vb r16] 0 (.agg #[vb r15.has, vs r15.val]) rfl rfl) ?_
     refine M_pu 8 rfl (by kernel_rfl) ev (P_ext [.agg #[vb r15.has, vs r15.val], vb r16] 1 (vb r16) rfl rfl) ?_
     refine M_any1 9 (by kernel_rfl) rfl ?_
     refine L_alloc [vb false, vs []] ze128 fun amy rc rd hu3044 jk agn => ?_
     have re := nl.own jk (some rc) (oglt rd hu3044)
     have gw := Gm.tm ev jk
     refine L_nil ⟨gw, ?_⟩
     refine M_any1 10 (by kernel_rfl) rfl ?_
     refine L_stb rc 0 [vb false, vs ([] : Str)] [vb r15.has, vs r15.val] [vb r15.has, vs r15.val] rfl agn rfl sz128 rfl rfl rfl fun ago lw rf => ?_
     have agp := re.wr 0 rfl lw
     have rg := Gm.tq gw lw (hv_new ev (oge rd))
     refine L_nil ⟨rg, ?_⟩
     refine M_pu 11 rfl (by kernel_rfl) rg (P_assign (vb r16) rfl) ?_
     refine M_nil (by kernel_rfl) ?_
     exact ⟨r15, r16, rc, (hasI rfl), (Gr.t0 eu rg.g0), agp, (jg_cons eu.size (hv_new ev (oge rd)) jg_nil), rb, rf, H⟩
    refine L_alloc [vb false, vs []] ze128 fun vd nm rh hu3034 ve agq => ?_
    have vf := q9.own ve (some nm) (oglt rh hu3034)
    have vg := Gm.tm lv ve
    refine L_nil ⟨vg, ?_⟩
    refine M_any1 5 (by kernel_rfl) rfl ?_
    obtain ⟨f2, f2_ok, agr, H⟩ := H
    have ags : ∀ (w : World) (L : Ob), Ct [] vd w L ([some nm, some ct, some b3, bk ad, bk ac, some ab, bk ae, bk a8, some aa] ++ O) → ∀ (x0_ : value) (vh : Lim x0_.val) (x1_ : value) (lx : Lim x1_.val), f2_ok x0_ x1_ → Ret Tryz.prog 87 ([.agg #[vb x0_.has, vs x0_.val], .agg #[vb x1_.has, vs x1_.val]] ++ []) w (fun v w' => v = vb (f2 x0_ x1_) ∧ Gr w w' none) := by
     intro w L c x0_ vh x1_ lx hok
     refine (F20.calls w c.ok x0_ vh x1_ lx  _ (agr x0_ x1_ hok)).mono ?_
     rintro _ w2 ⟨r, rfl, rfl, g2⟩
     exact ⟨rfl, g2⟩
    refine L_call go86 [.agg #[vb r14.has, vs r14.val], .agg #[vb r12.has, vs r12.val], .agg #[vb r13.has, vs r13.val], .func (.func 87) #[] #[]] rfl ((F10.calls vd vf.ok r14 u9 r12 ni r13 nj 87 [] f2 f2_ok go87 ags _ H).mono ?_)
    rintro _ amz ⟨r15, r16, rfl, H, jk, agt⟩
    have re := vf.k0 jk
    have gw := Gm.tm vg jk
    refine L_nil ⟨gw, ?_⟩
    refine M_pu 6 rfl (by kernel_rfl) gw (P_move (.tuple #[.agg #[vb r15.has, vs r15.val], vb r16]) rfl) ?_
    refine M_pu 7 rfl (by kernel_rfl) gw (P_ext [.agg #[vb r15.has, vs r15.val], vb r16] 0 (.agg #[vb r15.has, vs r15.val]) rfl rfl) ?_
    refine M_pu 8 rfl (by kernel_rfl) gw (P_ext [.agg #[vb r15.has, vs r15.val], vb r16] 1 (vb r16) rfl rfl) ?_
    refine M_any1 10 (by kernel_rfl) rfl ?_
    have agu := (agq.k0 jk)
    refine L_stb nm 0 [vb false, vs ([] : Str)] [vb r15.has, vs r15.val] [vb r15.has, vs r15.val] rfl agu rfl sz128 rfl rfl rfl fun ago lw rf => ?_
    have agv := re.wr 0 rfl lw
    have ri := Gm.tq gw lw (hv_new lv (oge rh))
    refine L_nil ⟨ri, ?_⟩
    refine M_pu 11 rfl (by kernel_rfl) ri (P_assign (vb r16) rfl) ?_
    refine M_nil (by kernel_rfl) ?_
    exact ⟨r15, r16, nm, (hasI rfl), (Gr.t0 eu ri.g0), agv, (jg_cons eu.size (hv_new lv (oge rh)) jg_nil), agt, rf, H⟩
   refine L_alloc [vb false, vs []] ze128 fun agw nn no hu3024 rj agx => ?_
   have vj := nk.own rj (some nn) (oglt no hu3024)
   have vk := Gm.tm gu rj
   refine L_nil ⟨vk, ?_⟩
   refine M_any1 2 (by kernel_rfl) rfl ?_
   have vl := nk.stown _ rj (oge no)
   have agy := (((kl.st lt).st lu).st vl)
   have agz := (((km.st lt).st lu).st vl)
   refine L_call go85 [.agg #[vs base_.Id, vi base_.Shape.Kind, .slice A2 n3 c4, .slice A7 n8 c9], vs (nth r11 v4)] rfl ((F67.calls agw vj.ok base_ A2 n3 c4 A7 n8 c9 hs1 agy agz (nth r11 v4) b7 _ H).mono ?_)
   rintro _ ra ⟨r14, rfl, H, jj, rb⟩
   have nl := vj.k0 jj
   have ev := Gm.tm vk jj
   refine L_nil ⟨ev, ?_⟩
   refine M_any1 5 (by kernel_rfl) rfl ?_
   obtain ⟨f2, f2_ok, ag0, H⟩ := H
   have ag1 : ∀ (w : World) (L : Ob), Ct [] ra w L ([some nn, some ct, some b3, bk ad, bk ac, some ab, bk ae, bk a8, some aa] ++ O) → ∀ (x0_ : value) (lx : Lim x0_.val) (x1_ : value) (vm : Lim x1_.val), f2_ok x0_ x1_ → Ret Tryz.prog 87 ([.agg #[vb x0_.has, vs x0_.val], .agg #[vb x1_.has, vs x1_.val]] ++ []) w (fun v w' => v = vb (f2 x0_ x1_) ∧ Gr w w' none) := by
    intro w L c x0_ lx x1_ vm hok
    refine (F20.calls w c.ok x0_ lx x1_ vm  _ (ag0 x0_ x1_ hok)).mono ?_
    rintro _ w2 ⟨r, rfl, rfl, g2⟩
    exact ⟨rfl, g2⟩
   refine L_call go86 [.agg #[vb r14.has, vs r14.val], .agg #[vb r12.has, vs r12.val], .agg #[vb r13.has, vs r13.val], .func (.func 87) #[] #[]] rfl ((F10.calls ra nl.ok r14 rb r12 ni r13 nj 87 [] f2 f2_ok go87 ag1 _ H).mono ?_)
   rintro _ am0 ⟨r15, r16, rfl, H, rk, ag2⟩
   have ag5 := nl.k0 rk
   have ly := Gm.tm ev rk
   refine L_nil ⟨ly, ?_⟩
   refine M_pu 6 rfl (by kernel_rfl) ly (P_move (.tuple #[.agg #[vb r15.has, vs r15.val], vb r16]) rfl) ?_
   refine M_pu 7 rfl (by kernel_rfl) ly (P_ext [.agg #[vb r15.has, vs r15.val], vb r16] 0 (.agg #[vb r15.has, vs r15.val]) rfl rfl) ?_
   refine M_pu 8 rfl (by kernel_rfl) ly (P_ext [.agg #[vb r15.has, vs r15.val], vb r16] 1 (vb r16) rfl rfl) ?_
   refine M_any1 10 (by kernel_rfl) rfl ?_
   have ag6 := ((agx.k0 jj).k0 rk)
   refine L_stb nn 0 [vb false, vs ([] : Str)] [vb r15.has, vs r15.val] [vb r15.has, vs r15.val] rfl ag6 rfl sz128 rfl rfl rfl fun am1 vn ag7 => ?_
   have ag8 := ag5.wr 0 rfl vn
   have rl := Gm.tq ly vn (hv_new gu (oge no))
   refine L_nil ⟨rl, ?_⟩
   refine M_pu 11 rfl (by kernel_rfl) rl (P_assign (vb r16) rfl) ?_
   refine M_nil (by kernel_rfl) ?_
   exact ⟨r15, r16, nn, (hasI rfl), (Gr.t0 eu rl.g0), ag8, (jg_cons eu.size (hv_new gu (oge no)) jg_nil), ag2, ag7, H⟩
  rintro am2 ls ⟨r15, r16, bc, aha, bu, fz, dd, ahb, vo, H⟩
  obtain ⟨am3, rfl⟩ := Has.ins aha
  refine W_seq (W_seq (W_reg (L_mv (vb r16) rfl (L_pu (P_not r16 rfl) (L_nil ?_)))))
  obtain ⟨ea, H, ahc⟩ := H
  refine W_join (J := (fun t cc => ∃ (xs8 : List Str) (a9 : Option Addr) (jl : Nat) (jm : Nat) (z3 : Bool) (z4 : Str), ea xs8 z3 z4 ∧ Has t [(3, .pointer (some ⟨au, 0, none⟩)), (4, .pointer (some ⟨ar, 0, none⟩)), (5, .pointer (some ⟨bg, 0, none⟩)), (6, .pointer (some ⟨aa, 0, none⟩)), (8, .slice a9 jl jm), (9, .pointer (some ⟨ab, 0, none⟩)), (20, vs (nth r11 v4)), (23, .pointer (some ⟨bc, 0, none⟩)), (142, .slice ad et bw), (143, vi (r11.length : Int)), (144, vi v4)] ∧ Ct [] w0 cc [some bc, bk ad, bk ac, some ab, bk ae, bk a9, some aa] O ∧ Lim z4 ∧ Sl kPt cc (Fr ([some bc, bk ad, bk ac, some ab, bk ae, bk a9, some aa] ++ O)) (.slice a2 a3 a4) a.Shape.Pts ∧ Sl kTag cc (Fr ([some bc, bk ad, bk ac, some ab, bk ae, bk a9, some aa] ++ O)) (.slice bd be bf) a.Tags ∧ Sl kPt cc (Fr ([some bc, bk ad, bk ac, some ab, bk ae, bk a9, some aa] ++ O)) (.slice al am an) b.Shape.Pts ∧ Sl kTag cc (Fr ([some bc, bk ad, bk ac, some ab, bk ae, bk a9, some aa] ++ O)) (.slice ao ap aq) b.Tags ∧ Sl kPt cc (Fr ([some bc, bk ad, bk ac, some ab, bk ae, bk a9, some aa] ++ O)) (.slice A2 n3 c4) base_.Shape.Pts ∧ Sl kTag cc (Fr ([some bc, bk ad, bk ac, some ab, bk ae, bk a9, some aa] ++ O)) (.slice A7 n8 c9) base_.Tags ∧ Ow Kd.str 9 cc ([some bc, bk ad, bk ac, some ab, bk ae, bk a9, some aa] ++ O) (.slice a9 jl jm) xs8 ∧ Ow Kd.str 9 cc ([some bc, bk ad, bk ac, some ab, bk ae, bk a9, some aa] ++ O) (.slice ad et bw) r11 ∧ Ow kPt 114 cc ([some bc, bk ad, bk ac, some ab, bk ae, bk a9, some aa] ++ O) (.slice ac bz b0) r9.Pts ∧ Ow kTag 106 cc ([some bc, bk ad, bk ac, some ab, bk ae, bk a9, some aa] ++ O) (.slice ae ci cj) xs7 ∧ Fb cc ([some bc, bk ad, bk ac, some ab, bk ae, bk a9, some aa] ++ O) au [vs base_.Id, vi base_.Shape.Kind, .slice A2 n3 c4, .slice A7 n8 c9] ∧ Fb cc ([some bc, bk ad, bk ac, some ab, bk ae, bk a9, some aa] ++ O) ar [vs a.Id, vi a.Shape.Kind, .slice a2 a3 a4, .slice bd be bf] ∧ Fb cc ([some bc, bk ad, bk ac, some ab, bk ae, bk a9, some aa] ++ O) bg [vs b.Id, vi b.Shape.Kind, .slice al am an, .slice ao ap aq] ∧ Bx cc aa [vs ([] : Str), vi 0, .slice none 0 0, .slice none 0 0] ∧ Bx cc ab [vs a.Id, vi r9.Kind, .slice ac bz b0, .slice ae ci cj] ∧ Bx cc bc [vb z3, vs z4])) ?_ ?_
  ·refine W_cond (!r16) rfl (fun rm => ?_) (fun rm => ?_)
   ·have H := ite_t H rm
    refine W_seq (W_reg (L_mv (.slice a8 d0 d1) rfl (L_mv (vs (nth r11 v4)) rfl ?_)))
    obtain ⟨vp, H⟩ := H
    refine L_pu (P_cat ([116, 97, 103, 32] : Str) (nth r11 v4) rfl rfl vp) (L_lit (kd := Kd.str) ei81 fz ([(([116, 97, 103, 32] : Str) ++ (nth r11 v4))] : List Str) (cells := [vs (([116, 97, 103, 32] : Str) ++ (nth r11 v4))]) ⟨[vs (([116, 97, 103, 32] : Str) ++ (nth r11 v4))], _, rfl, ⟨rfl, (lim_cat vp)⟩, rfl⟩ (fun _ => by kernel_rfl) fun am4 lz ahd ahe cu hr5063 de ahf => ?_)
    obtain ⟨ahg, H⟩ := H
    have ahh := (((pz.sos bx c6).sos bu dd).so _ cu hr5063)
    refine L_app ei81 de (.slice a8 d0 d1) xs6 ([(([116, 97, 103, 32] : Str) ++ (nth r11 v4))] : List Str) rfl ahh (.slice lz ahd ahe) rfl ahf.sx 8 rfl ahg fun am5 iw rn ro du br cl vq => ?_
    refine L_as (.slice iw rn ro) rfl (L_nil (W_seq (W_reg ?_)))
    have vr := (de.bm ((u5.k0 bu).k0 cu) 3 8 rfl rfl rfl du)
    refine L_pu (P_lda ag128 sz128 cL ⟨b3, 0, none⟩ [vb r12.has, vs r12.val] rfl rfl (vr.cells (off := 0) rfl)) ?_
    have ahi := (de.bm (vo.k0 cu) 1 8 rfl rfl rfl du)
    refine L_stb bc 0 [vb r15.has, vs r15.val] [vb r12.has, vs r12.val] [vb r12.has, vs r12.val] rfl ahi rfl sz128 rfl rfl rfl fun am6 cm vt => ?_
    have dv := cl.wr 1 rfl cm
    refine L_nil (W_seq (W_reg (L_pu (P_fa fa128_0 ⟨b3, 0, none⟩ ⟨b3, 0, none⟩ rfl rfl) ?_)))
    have ahj := (cl.bm vr 3 1 rfl rfl rfl cm)
    refine L_pu (P_ld ag4 cL ⟨b3, 0, none⟩ (vb r12.has) rfl (ahj.cell rfl)) (L_pu (P_not r12.has rfl) (L_nil ?_))
    refine W_cond (!r12.has) rfl (fun rp => ?_) (fun rp => ?_)
    ·have H := ite_t H rp
     refine W_reg ?_
     have ahk := (cl.bm (de.bm ((u6.k0 bu).k0 cu) 2 8 rfl rfl rfl du) 2 1 rfl rfl rfl cm)
     refine L_pu (P_lda ag128 sz128 cL ⟨ct, 0, none⟩ [vb r13.has, vs r13.val] rfl rfl (ahk.cells (off := 0) rfl)) (L_stb bc 0 [vb r12.has, vs r12.val] [vb r13.has, vs r13.val] [vb r13.has, vs r13.val] rfl vt rfl sz128 rfl rfl rfl fun am7 gx ahl => ?_)
     have l0 := dv.wr 1 rfl gx
     refine L_nil ?_
     have df : ([bk lz, some bc, some ct, some b3, bk ad, bk ac, some ab, bk ae, bk iw, some aa] : Ob).Perm ((bk lz :: some ct :: some b3 :: []) ++ [some bc, bk ad, bk ac, some ab, bk ae, bk iw, some aa]) := (pc fun a => by (try simp only [pca, pcc, pcn, Nat.add_zero, Nat.zero_add]); first | done | ac_rfl)
     have ahm := l0.drops df
     have f0 := d9.stos bx c6
     have f1 := lr.stos bu dd
     have f3 := fz.stown _ cu hr5063
     have f4 := cl.stw 1 rfl cm
     have f5 := dv.stw 1 rfl gx
     have ahn := (((((((fi.st f0).st f1).st f3).st br).st f4).st f5).st (St.drops _ O df))
     have aho := (((((((fj.st f0).st f1).st f3).st br).st f4).st f5).st (St.drops _ O df))
     have ahp := (((((((db.st f0).st f1).st f3).st br).st f4).st f5).st (St.drops _ O df))
     have ahq := (((((((dc.st f0).st f1).st f3).st br).st f4).st f5).st (St.drops _ O df))
     have ahr := (((((((kl.st f0).st f1).st f3).st br).st f4).st f5).st (St.drops _ O df))
     have ahs := (((((((km.st f0).st f1).st f3).st br).st f4).st f5).st (St.drops _ O df))
     have aht := (l0.odr (dv.sw (cl.sw vq 8 1 rfl rfl rfl cm) 8 1 rfl rfl rfl gx) df 5 rfl)
     have ahu := (l0.odr (dv.sw (cl.sw (de.sm (((kn.sos bx c6).sos bu dd).so _ cu hr5063) 4 8 rfl rfl rfl du br) 4 1 rfl rfl rfl cm) 4 1 rfl rfl rfl gx) df 1 rfl)
     have ahv := (l0.odr (dv.sw (cl.sw (de.sm (((ko.sos bx c6).sos bu dd).so _ cu hr5063) 5 8 rfl rfl rfl du br) 5 1 rfl rfl rfl cm) 5 1 rfl rfl rfl gx) df 2 rfl)
     have ahw := (l0.odr (dv.sw (cl.sw (de.sm (((kp.sos bx c6).sos bu dd).so _ cu hr5063) 7 8 rfl rfl rfl du br) 7 1 rfl rfl rfl cm) 7 1 rfl rfl rfl gx) df 4 rfl)
     have ahx := (((((((ng.st f0).st f1).st f3).st br).st f4).st f5).st (St.drops _ O df))
     have ahy := (((((((kq.st f0).st f1).st f3).st br).st f4).st f5).st (St.drops _ O df))
     have ahz := (((((((nh.st f0).st f1).st f3).st br).st f4).st f5).st (St.drops _ O df))
     have ah0 := (dv.bm (cl.bm (de.bm (((kr.k0 bx).k0 bu).k0 cu) 9 8 rfl rfl rfl du) 9 1 rfl rfl rfl cm) 9 1 rfl rfl rfl gx)
     have ah1 := (dv.bm (cl.bm (de.bm (((ks.k0 bx).k0 bu).k0 cu) 6 8 rfl rfl rfl du) 6 1 rfl rfl rfl cm) 6 1 rfl rfl rfl gx)
     have ah2 := ahl
     exact ⟨(xs6 ++ ([(([116, 97, 103, 32] : Str) ++ (nth r11 v4))] : List Str)), iw, rn, ro, r13.has, r13.val, H, (hasI rfl), ahm, nj, ahn, aho, ahp, ahq, ahr, ahs, aht, ahu, ahv, ahw, ahx, ahy, ahz, ah0, ah1, ah2⟩
    have H := ite_f H rp
    refine W_skip ?_
    have dg : ([bk lz, some bc, some ct, some b3, bk ad, bk ac, some ab, bk ae, bk iw, some aa] : Ob).Perm ((bk lz :: some ct :: some b3 :: []) ++ [some bc, bk ad, bk ac, some ab, bk ae, bk iw, some aa]) := (pc fun a => by (try simp only [pca, pcc, pcn, Nat.add_zero, Nat.zero_add]); first | done | ac_rfl)
    have ah3 := dv.drops dg
    have f6 := d9.stos bx c6
    have f7 := lr.stos bu dd
    have f8 := fz.stown _ cu hr5063
    have f9 := cl.stw 1 rfl cm
    have ah4 := ((((((fi.st f6).st f7).st f8).st br).st f9).st (St.drops _ O dg))
    have ah5 := ((((((fj.st f6).st f7).st f8).st br).st f9).st (St.drops _ O dg))
    have ah6 := ((((((db.st f6).st f7).st f8).st br).st f9).st (St.drops _ O dg))
    have ah7 := ((((((dc.st f6).st f7).st f8).st br).st f9).st (St.drops _ O dg))
    have ah8 := ((((((kl.st f6).st f7).st f8).st br).st f9).st (St.drops _ O dg))
    have ah9 := ((((((km.st f6).st f7).st f8).st br).st f9).st (St.drops _ O dg))
    have aia := (dv.odr (cl.sw vq 8 1 rfl rfl rfl cm) dg 5 rfl)
    have aib := (dv.odr (cl.sw (de.sm (((kn.sos bx c6).sos bu dd).so _ cu hr5063) 4 8 rfl rfl rfl du br) 4 1 rfl rfl rfl cm) dg 1 rfl)
    have aic := (dv.odr (cl.sw (de.sm (((ko.sos bx c6).sos bu dd).so _ cu hr5063) 5 8 rfl rfl rfl du br) 5 1 rfl rfl rfl cm) dg 2 rfl)
    have aid := (dv.odr (cl.sw (de.sm (((kp.sos bx c6).sos bu dd).so _ cu hr5063) 7 8 rfl rfl rfl du br) 7 1 rfl rfl rfl cm) dg 4 rfl)
    have aie := ((((((ng.st f6).st f7).st f8).st br).st f9).st (St.drops _ O dg))
    have aif := ((((((kq.st f6).st f7).st f8).st br).st f9).st (St.drops _ O dg))
    have aig := ((((((nh.st f6).st f7).st f8).st br).st f9).st (St.drops _ O dg))
    have aih := (cl.bm (de.bm (((kr.k0 bx).k0 bu).k0 cu) 9 8 rfl rfl rfl du) 9 1 rfl rfl rfl cm)
    have aii := (cl.bm (de.bm (((ks.k0 bx).k0 bu).k0 cu) 6 8 rfl rfl rfl du) 6 1 rfl rfl rfl cm)
    have aij := vt
    exact ⟨(xs6 ++ ([(([116, 97, 103, 32] : Str) ++ (nth r11 v4))] : List Str)), iw, rn, ro, r12.has, r12.val, H, (hasI rfl), ah3, ni, ah4, ah5, ah6, ah7, ah8, ah9, aia, aib, aic, aid, aie, aif, aig, aih, aii, aij⟩
   have H := ite_f H rm
   refine W_skip ?_
   have jn : Ct [] w0 ls [some bc, some b3, bk ad, bk ac, some ab, bk ae, bk a8, some aa] O := fz.drop 1 rfl
   have aik := jn.drop 1 rfl
   have ga := d9.stos bx c6
   have gb := lr.stos bu dd
   have gc := fz.std 1 rfl
   have gd := jn.std 1 rfl
   have ail := ((((fi.st ga).st gb).st gc).st gd)
   have aim := ((((fj.st ga).st gb).st gc).st gd)
   have ain := ((((db.st ga).st gb).st gc).st gd)
   have aio := ((((dc.st ga).st gb).st gc).st gd)
   have aip := ((((kl.st ga).st gb).st gc).st gd)
   have aiq := ((((km.st ga).st gb).st gc).st gd)
   have air := (jn.sd (fz.sd ((pz.sos bx c6).sos bu dd) 7 1 rfl rfl rfl) 6 1 rfl rfl rfl)
   have ais := (jn.sd (fz.sd ((kn.sos bx c6).sos bu dd) 3 1 rfl rfl rfl) 2 1 rfl rfl rfl)
   have ait := (jn.sd (fz.sd ((ko.sos bx c6).sos bu dd) 4 1 rfl rfl rfl) 3 1 rfl rfl rfl)
   have aiu := (jn.sd (fz.sd ((kp.sos bx c6).sos bu dd) 6 1 rfl rfl rfl) 5 1 rfl rfl rfl)
   have aiv := ((((ng.st ga).st gb).st gc).st gd)
   have aiw := ((((kq.st ga).st gb).st gc).st gd)
   have aix := ((((nh.st ga).st gb).st gc).st gd)
   have aiy := ((kr.k0 bx).k0 bu)
   have aiz := ((ks.k0 bx).k0 bu)
   have ai0 := vo
   exact ⟨xs6, a8, d0, d1, r15.has, r15.val, H, (hasI rfl), aik, ahb, ail, aim, ain, aio, aip, aiq, air, ais, ait, aiu, aiv, aiw, aix, aiy, aiz, ai0⟩
  rintro am8 cc ⟨xs8, a9, jl, jm, z3, z4, ai1, ai2, gy, ai3, vu, vv, vw, vx, vy, vz, v0, v1, v3, v5, v6, v7, v9, wa, rq, wb⟩
  obtain ⟨am9, rfl⟩ := Has.ins ai2
  have H := ahc xs8 z3 z4 ai1
  refine W_seq (W_reg (L_pu (P_fa fa128_0 ⟨bc, 0, none⟩ ⟨bc, 0, none⟩ rfl rfl) (L_pu (P_ld ag4 cL ⟨bc, 0, none⟩ (vb z3) rfl (wb.cell rfl)) (L_nil ?_))))
  obtain ⟨fk, H, ai4⟩ := H
  refine W_join (J := (fun t cn => ∃ (xs9 : List Tag) (cd : Option Addr) (np : Nat) (nq : Nat), fk xs9 ∧ Has t [(3, .pointer (some ⟨au, 0, none⟩)), (4, .pointer (some ⟨ar, 0, none⟩)), (5, .pointer (some ⟨bg, 0, none⟩)), (6, .pointer (some ⟨aa, 0, none⟩)), (8, .slice a9 jl jm), (9, .pointer (some ⟨ab, 0, none⟩)), (142, .slice ad et bw), (143, vi (r11.length : Int)), (144, vi v4)] ∧ Ct [] w0 cn [bk ad, bk ac, some ab, bk cd, bk a9, some aa] O ∧ Sl kPt cn (Fr ([bk ad, bk ac, some ab, bk cd, bk a9, some aa] ++ O)) (.slice a2 a3 a4) a.Shape.Pts ∧ Sl kTag cn (Fr ([bk ad, bk ac, some ab, bk cd, bk a9, some aa] ++ O)) (.slice bd be bf) a.Tags ∧ Sl kPt cn (Fr ([bk ad, bk ac, some ab, bk cd, bk a9, some aa] ++ O)) (.slice al am an) b.Shape.Pts ∧ Sl kTag cn (Fr ([bk ad, bk ac, some ab, bk cd, bk a9, some aa] ++ O)) (.slice ao ap aq) b.Tags ∧ Sl kPt cn (Fr ([bk ad, bk ac, some ab, bk cd, bk a9, some aa] ++ O)) (.slice A2 n3 c4) base_.Shape.Pts ∧ Sl kTag cn (Fr ([bk ad, bk ac, some ab, bk cd, bk a9, some aa] ++ O)) (.slice A7 n8 c9) base_.Tags ∧ Ow Kd.str 9 cn ([bk ad, bk ac, some ab, bk cd, bk a9, some aa] ++ O) (.slice a9 jl jm) xs8 ∧ Ow Kd.str 9 cn ([bk ad, bk ac, some ab, bk cd, bk a9, some aa] ++ O) (.slice ad et bw) r11 ∧ Ow kPt 114 cn ([bk ad, bk ac, some ab, bk cd, bk a9, some aa] ++ O) (.slice ac bz b0) r9.Pts ∧ Ow kTag 106 cn ([bk ad, bk ac, some ab, bk cd, bk a9, some aa] ++ O) (.slice cd np nq) xs9 ∧ Fb cn ([bk ad, bk ac, some ab, bk cd, bk a9, some aa] ++ O) au [vs base_.Id, vi base_.Shape.Kind, .slice A2 n3 c4, .slice A7 n8 c9] ∧ Fb cn ([bk ad, bk ac, some ab, bk cd, bk a9, some aa] ++ O) ar [vs a.Id, vi a.Shape.Kind, .slice a2 a3 a4, .slice bd be bf] ∧ Fb cn ([bk ad, bk ac, some ab, bk cd, bk a9, some aa] ++ O) bg [vs b.Id, vi b.Shape.Kind, .slice al am an, .slice ao ap aq] ∧ Bx cn aa [vs ([] : Str), vi 0, .slice none 0 0, .slice none 0 0] ∧ Bx cn ab [vs a.Id, vi r9.Kind, .slice ac bz b0, .slice cd np nq])) ?_ ?_
  ·refine W_cond z3 rfl (fun rr => ?_) (fun rr => ?_)
   ·have H := ite_t H rr
    refine W_reg (L_pu (P_fa fa61_2 ⟨ab, 0, none⟩ ⟨ab, 3, none⟩ rfl rfl) (L_pu (P_ld ag59 cL ⟨ab, 3, none⟩ (.slice ae ci cj) rfl (rq.cell rfl)) (L_mv (vs (nth r11 v4)) rfl (L_pu (P_fa fa128_1 ⟨bc, 0, none⟩ ⟨bc, 1, none⟩ rfl rfl) (L_pu (P_ld ag9 cL ⟨bc, 1, none⟩ (vs z4) rfl (wb.cell rfl)) (L_pu (P_build (.agg #[vs (nth r11 v4), vs z4]) (fun _ => by kernel_rfl)) (L_lit (kd := kTag) ei59 gy ([(⟨(nth r11 v4), z4⟩ : Tag)] : List Tag) (cells := [vs (nth r11 v4), vs z4]) ⟨[vs (nth r11 v4), vs z4], _, rfl, (kTag.mk _ _ (⟨(nth r11 v4), z4⟩ : Tag) b7 ai3), rfl⟩ (fun _ => by kernel_rfl) fun ana ai5 ai6 ai7 ix hr5198 jo ai8 => ?_)))))))
    obtain ⟨ai9, H⟩ := H
    have aja := (v5.so _ ix hr5198)
    refine L_app ei59 jo (.slice ae ci cj) xs7 ([(⟨(nth r11 v4), z4⟩ : Tag)] : List Tag) rfl aja (.slice ai5 ai6 ai7) rfl ai8.sx 5 rfl ai9 fun anb nr rs rt l1 d3 iy ajb => ?_
    refine L_pu (P_fa fa61_2 ⟨ab, 0, none⟩ ⟨ab, 3, none⟩ rfl rfl) ?_
    have ajc := (jo.bm (rq.k0 ix) 4 5 rfl rfl rfl l1)
    refine L_stb ab 3 [vs a.Id, vi r9.Kind, .slice ac bz b0, .slice ae ci cj] [.slice nr rs rt] [vs a.Id, vi r9.Kind, .slice ac bz b0, .slice nr rs rt] rfl ajc rfl sz59 rfl rfl rfl fun ajd iz aje => ?_
    have jp := iy.wr 4 rfl iz
    refine L_nil ?_
    have jq := jp.drop 0 rfl
    have ajf : Ct [] w0 ajd [bk ad, bk ac, some ab, bk nr, bk a9, some aa] O := jq.drop 0 rfl
    have gf := gy.stown _ ix hr5198
    have gg := iy.stw 4 rfl iz
    have gh := jp.std 0 rfl
    have gi := jq.std 0 rfl
    have ajg := (((((vu.st gf).st d3).st gg).st gh).st gi)
    have ajh := (((((vv.st gf).st d3).st gg).st gh).st gi)
    have aji := (((((vw.st gf).st d3).st gg).st gh).st gi)
    have ajj := (((((vx.st gf).st d3).st gg).st gh).st gi)
    have ajk := (((((vy.st gf).st d3).st gg).st gh).st gi)
    have ajl := (((((vz.st gf).st d3).st gg).st gh).st gi)
    have ajm := (jq.sd (jp.sd (iy.sw (jo.sm (v0.so _ ix hr5198) 6 5 rfl rfl rfl l1 d3) 6 4 rfl rfl rfl iz) 6 0 rfl rfl rfl) 5 0 rfl rfl rfl)
    have ajn := (jq.sd (jp.sd (iy.sw (jo.sm (v1.so _ ix hr5198) 2 5 rfl rfl rfl l1 d3) 2 4 rfl rfl rfl iz) 2 0 rfl rfl rfl) 1 0 rfl rfl rfl)
    have ajo := (jq.sd (jp.sd (iy.sw (jo.sm (v3.so _ ix hr5198) 3 5 rfl rfl rfl l1 d3) 3 4 rfl rfl rfl iz) 3 0 rfl rfl rfl) 2 0 rfl rfl rfl)
    have ajp := (jq.sd (jp.sd (iy.sw ajb 5 4 rfl rfl rfl iz) 5 0 rfl rfl rfl) 4 0 rfl rfl rfl)
    have ajq := (((((v6.st gf).st d3).st gg).st gh).st gi)
    have ajr := (((((v7.st gf).st d3).st gg).st gh).st gi)
    have ajs := (((((v9.st gf).st d3).st gg).st gh).st gi)
    have ajt := (iy.bm (jo.bm (wa.k0 ix) 7 5 rfl rfl rfl l1) 7 4 rfl rfl rfl iz)
    have aju := aje
    exact ⟨(xs7 ++ ([(⟨(nth r11 v4), z4⟩ : Tag)] : List Tag)), nr, rs, rt, H, (hasI rfl), ajf, ajg, ajh, aji, ajj, ajk, ajl, ajm, ajn, ajo, ajp, ajq, ajr, ajs, ajt, aju⟩
   have H := ite_f H rr
   refine W_skip ?_
   have ajv := gy.drop 0 rfl
   have gj := gy.std 0 rfl
   have ajw := (gy.sd v0 5 0 rfl rfl rfl)
   have ajx := (gy.sd v1 1 0 rfl rfl rfl)
   have ajy := (gy.sd v3 2 0 rfl rfl rfl)
   have ajz := (gy.sd v5 4 0 rfl rfl rfl)
   have aj0 := (v6.st gj)
   have aj1 := (v7.st gj)
   have aj2 := (v9.st gj)
   have aj3 := wa
   have aj4 := rq
   exact ⟨xs7, ae, ci, cj, H, (hasI rfl), ajv, (vu.st gj), (vv.st gj), (vw.st gj), (vx.st gj), (vy.st gj), (vz.st gj), ajw, ajx, ajy, ajz, aj0, aj1, aj2, aj3, aj4⟩
  rintro anc cn ⟨xs9, cd, np, nq, aj5, aj6, aj7, aj8, aj9, aka, akb, akc, akd, ake, akf, akg, akh, aki, akj, akk, akl, akm⟩
  obtain ⟨and, rfl⟩ := Has.ins aj6
  have H := ai4 xs9 aj5
  refine W_reg ?_
  obtain ⟨akn, H⟩ := H
  refine L_pu (P_add v4 1 rfl rfl akn) (L_mv (vi (v4 + 1)) rfl (L_nil ?_))
  obtain ⟨ako, akp⟩ := H
  exact ⟨(xs8, a9, jl, jm, v4 + 1, xs9, cd, np, nq), akp, ako, (hasI rfl), aj7, aj8, aj9, aka, akb, akc, akd, ake, akf, akg, akh, aki, akj, akk, akl, akm⟩
 have H := ite_f H p0
 refine W_exit (xin_hit ?_)
 refine W_seq (W_seq (W_reg (L_pu (P_lda ag61 sz61 cL ⟨ab, 0, none⟩ [vs a.Id, vi r9.Kind, .slice ac bz b0, .slice ae ci cj] rfl rfl (ks.cells (off := 0) rfl)) ?_)))
 have akq := d9.gv ko 1 rfl
 have ru := d9.drop 1 rfl
 have akr := (d9.sd kp 3 1 rfl rfl rfl)
 have aks := ru.gv akr 2 rfl
 have akt := ru.drop 2 rfl
 have aku := ru.std 2 rfl
 refine L_call go64 [.agg #[vs a.Id, vi r9.Kind, .slice ac bz b0, .slice ae ci cj]] rfl ((F88.calls b2 akt.ok (⟨a.Id, r9, xs7⟩ : Feat) ac bz b0 ae ci cj ew (akq.st aku) aks _ H).mono ?_)
 rintro _ akv ⟨r17, rfl, H, gz⟩
 have l2 := d9.k0 gz
 refine L_pu (P_not r17 rfl) (L_nil ?_)
 refine W_cond (!r17) rfl (fun rv => ?_) (fun rv => ?_)
 ·have H := ite_t H rv
  refine W_seq ?_
  have ns : ([bk ad, bk ac, some ab, bk ae, bk a8, some aa] : Ob).Perm ((bk ad :: bk ac :: some ab :: bk ae :: bk a8 :: []) ++ [some aa]) := (pc fun a => by (try simp only [pca, pcc, pcn, Nat.add_zero, Nat.zero_add]); first | done | ac_rfl)
  have wc := l2.drops ns
  refine W_reg ?_
  have rw := d9.stn gz
  have akw := ((kq.st rw).st (St.drops _ O ns))
  refine L_pu (P_lda ag61 sz61 cL ⟨ar, 0, none⟩ [vs a.Id, vi a.Shape.Kind, .slice a2 a3 a4, .slice bd be bf] rfl rfl (akw.cells (off := 0) rfl)) ?_
  have akx := ((fi.st rw).st (St.drops _ O ns))
  have aky := ((fj.st rw).st (St.drops _ O ns))
  refine L_call go38 [.agg #[vs a.Id, vi a.Shape.Kind, .slice a2 a3 a4, .slice bd be bf]] rfl ((F27.calls akv wc.ok a a2 a3 a4 bd be bf ew akx aky _ H).mono ?_)
  rintro _ ane ⟨r18, nt, nu, nv, nw, nx, ny, rfl, H, wd, akz, ak0, ak1, ak2, ak3⟩
  have ak4 := wc.owns wd akz ak0
  refine L_lit (kd := Kd.str) ei81 ak4 ([([109, 117, 99, 104] : Str)] : List Str) (cells := [vs ([109, 117, 99, 104] : Str)]) ⟨[vs ([109, 117, 99, 104] : Str)], _, rfl, ⟨rfl, (by decide : Lim ([109, 117, 99, 104] : Str))⟩, rfl⟩ (fun _ => by kernel_rfl) fun anf rx ry rz sa hr5305 nz ak5 => ?_
  have ak6 := (((kr.k0 gz).k0 wd).k0 sa)
  refine L_stb aa 0 [vs ([] : Str), vi 0, .slice none 0 0, .slice none 0 0] [vs r18.Id, vi r18.Shape.Kind, .slice nt nu nv, .slice nw nx ny] [vs r18.Id, vi r18.Shape.Kind, .slice nt nu nv, .slice nw nx ny] rfl ak6 rfl sz61 rfl rfl rfl fun ang n1 ak7 => ?_
  have l3 := nz.wr 3 rfl n1
  refine L_as (.slice rx ry rz) rfl (L_nil (W_ret ?_))
  have ak8 := l3.bgv ak7 3 rfl
  have l4 := l3.drop 3 rfl
  have l5 := l4.perm (.swap _ _ _)
  have sb := l5.perm (.cons _ (.swap _ _ _))
  have ak9 := l4.stp (.swap _ _ _)
  have ala := l5.stp (.cons _ (.swap _ _ _))
  have alb := ((ak8.st ak9).st ala)
  have alc := (l5.sp (l4.sp (l3.sd (nz.sw (ak2.so _ sa hr5305) 1 3 rfl rfl rfl n1) 1 3 rfl rfl rfl) (.swap _ _ _)) (.cons _ (.swap _ _ _)))
  have ald := (l5.sp (l4.sp (l3.sd (nz.sw (ak3.so _ sa hr5305) 2 3 rfl rfl rfl n1) 2 3 rfl rfl rfl) (.swap _ _ _)) (.cons _ (.swap _ _ _)))
  have ale := (l5.sp (l4.sp (l3.sd (nz.sw ak5 0 3 rfl rfl rfl n1) 0 3 rfl rfl rfl) (.swap _ _ _)) (.cons _ (.swap _ _ _)))
  exact ⟨[.agg #[vs r18.Id, vi r18.Shape.Kind, .slice nt nu nv, .slice nw nx ny], .slice rx ry rz], ⟨_, _, rfl, alb.1.res rfl ag61 sz61, ⟨_, rfl, rfl⟩⟩, r18, ([([109, 117, 99, 104] : Str)] : List Str), nt, nu, nv, nw, nx, ny, rx, ry, rz, rfl, H, sb.gr.g0, sb.ok, sb.ge, ak1, alc, ald, ale⟩
 have H := ite_f H rv
 refine W_skip (W_seq (W_reg ?_))
 have alf := (ks.k0 gz)
 refine L_pu (P_lda ag61 sz61 cL ⟨ab, 0, none⟩ [vs a.Id, vi r9.Kind, .slice ac bz b0, .slice ae ci cj] rfl rfl (alf.cells (off := 0) rfl)) (L_mv (.slice a8 d0 d1) rfl ?_)
 have alg := (kr.k0 gz)
 refine L_stb aa 0 [vs ([] : Str), vi 0, .slice none 0 0, .slice none 0 0] [vs a.Id, vi r9.Kind, .slice ac bz b0, .slice ae ci cj] [vs a.Id, vi r9.Kind, .slice ac bz b0, .slice ae ci cj] rfl alg rfl sz61 rfl rfl rfl fun alh n5 ali => ?_
 have l6 := l2.wr 5 rfl n5
 refine L_as (.slice a8 d0 d1) rfl (L_nil (W_ret ?_))
 have alj := l6.bgv ali 5 rfl
 have l7 := l6.drop 5 rfl
 have l8 := l7.drop 0 rfl
 have sc : Ct [] w0 alh [bk ac, bk ae, bk a8] O := l8.drop 1 rfl
 have alk := l7.std 0 rfl
 have all := l8.std 1 rfl
 have alm := ((alj.st alk).st all)
 have aln := (l8.sd (l7.sd (l6.sd (l2.sw (ko.sn gz) 1 5 rfl rfl rfl n5) 1 5 rfl rfl rfl) 1 0 rfl rfl rfl) 0 1 rfl rfl rfl)
 have alo := (l8.sd (l7.sd (l6.sd (l2.sw (kp.sn gz) 3 5 rfl rfl rfl n5) 3 5 rfl rfl rfl) 3 0 rfl rfl rfl) 2 1 rfl rfl rfl)
 have alp := (l8.sd (l7.sd (l6.sd (l2.sw (pz.sn gz) 4 5 rfl rfl rfl n5) 4 5 rfl rfl rfl) 4 0 rfl rfl rfl) 3 1 rfl rfl rfl)
 exact ⟨[.agg #[vs a.Id, vi r9.Kind, .slice ac bz b0, .slice ae ci cj], .slice a8 d0 d1], ⟨_, _, rfl, alm.1.res rfl ag61 sz61, ⟨_, rfl, rfl⟩⟩, (⟨a.Id, r9, xs7⟩ : Feat), xs6, ac, bz, b0, ae, ci, cj, a8, d0, d1, rfl, H, sc.gr.g0, sc.ok, sc.ge, ew, aln, alo, alp⟩
end
end Go.Proofs.YtndjggncgpjolaaGreat