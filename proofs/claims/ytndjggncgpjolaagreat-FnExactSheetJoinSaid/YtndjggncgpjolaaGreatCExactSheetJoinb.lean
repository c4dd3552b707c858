/- It is proved here that the law FnExactSheetJoin of the given program holds whatever it is handed: the walks through the code, the plain laws and the row, in this order.
   Conditions: none. -/
import Derived.Below
import Derived.ChangeArms
import Derived.ChangeOld
import Derived.ChangeSlices
import Derived.DataReads
import Derived.Deep.Quiet
import Derived.KernelRfl
import Derived.Laws.Build
import Derived.Laws.IdiomStrings
import Derived.Laws.OwnMore
import Derived.Laws.Slices
import Derived.Laws.StructEq
import Derived.OpenShut
import Derived.ProofKit
import Derived.Shelf.Slices.Cells
import Derived.Shelf.Slices.CompactS
import Derived.Shelf.Slices.In.SortNone
import Derived.Shelf.Small.Bits
import Derived.Shelf.Sort.Plain
import Derived.Shelf.Strconv.Itoa0
import Derived.ShutString
import Derived.SizedLaws
import Derived.StillTail
import Derived.Test.YtndjggncgpjolaaGreatProg
import Derived.Test.YtndjggncgpjolaaGreatRows
import Derived.WalkKit
import Derived.Test.YtndjggncgpjolaaGreatCExactSheetJoina
namespace Go.Proofs.YtndjggncgpjolaaGreat
set_option linter.unusedVariables false
set_option linter.unusedSimpArgs false
set_option linter.unusedSectionVars false
set_option maxHeartbeats 8000000
set_option maxRecDepth 100000
section
open Go.RowKit
def F53.E (a : List Feat) (Q : List Feat → Prop) : Prop :=
 ((0 : Int) ≤ (a.length : Int) ∧ (a.length : Int) ≤ (268435456 : Int)) ∧ (∃ (I62 : (List Feat) → Int → Prop) (mu63 : (List Feat) → Int → Nat), I62 (List.replicate (a.length : Int).toNat ((⟨([] : Str), (⟨0, []⟩ : Shape), []⟩ : Feat) : Feat)) 0 ∧ ∀ (xs2 : List Feat) (i2 : Int), I62 xs2 i2 → (if decide (i2 < (a.length : Int)) then ((0 : Int) ≤ i2 ∧ i2 < (a.length : Int)) ∧ F72.E (nth a i2) (fun r => ((0 : Int) ≤ i2 ∧ i2 < (xs2.length : Int)) ∧ (-9223372036854775808 ≤ i2) ∧ I62 (xs2.set i2.toNat r) (i2 + 1) ∧ mu63 (xs2.set i2.toNat r) (i2 + 1) < mu63 xs2 i2) else Q xs2))
theorem F53.calls {O : Ob} (w0 : World) (hO : Ok w0 O) (a : List Feat) (A1 : Option Addr) (n2 c3 : Nat) (hp4 : Sl kFeat w0 (Fr O) (.slice A1 n2 c3) a) (Q : List Feat → Prop) (h : F53.E a Q) :
  Ret Tryz.prog 8 [.slice A1 n2 c3] w0 (fun v w' => ∃ (r0 : List Feat) (A0 : Option Addr) (n0 c0 : Nat) (q0 : Ob) (ra0 : List (List Value)), v = .slice A0 n0 c0 ∧ Q r0 ∧ Gr w0 w' none ∧ Ok w' ((bk A0 :: (q0 ++ [])) ++ O) ∧ (∀ b, some b ∈ (bk A0 :: (q0 ++ [])) → w0.heap.size ≤ b) ∧ Ow (Kd.cells 4) 61 w' ((bk A0 :: (q0 ++ [])) ++ O) (.slice A0 n0 c0) ra0 ∧ DArr dFeat_61 w' q0 r0 ra0) := by
 unfold F53.E at h
 have H := h
 clear h
 have hc0 := Ct.init hO
 refine Ret_enter Tryz.func8 rfl 23 rfl [.tmp 2] rfl rfl ?_
 refine W_seq (W_reg (L_as (.slice none 0 0) rfl (L_nil (W_seq (W_reg (L_mv (.slice A1 n2 c3) rfl ?_))))))
 have hl6 := hp4.le
 refine L_pu (P_len Tryz.underlying22 A1 n2 c3 hp4.len rfl) ?_
 obtain ⟨hb7, H⟩ := H
 have bb : (dFeat_61).D w0 ([] ++ (([] ++ [none]) ++ [none])) (⟨([] : Str), (⟨0, []⟩ : Shape), []⟩ : Feat) [vs ([] : Str), vi 0, .slice none 0 0, .slice none 0 0] := (dFeat_61.mk _ (⟨([] : Str), (⟨0, []⟩ : Shape), []⟩ : Feat) (by decide) Ds.nil Ds.nil)
 have bq := DArr.rep bb (a.length : Int).toNat
 have ay := none_rep (qs := ([] ++ (([] ++ [none]) ++ [none]))) (by simp) (a.length : Int).toNat
 refine L_make (kd := Kd.cells 4) ei26 hc0 [vs ([] : Str), vi 0, .slice none 0 0, .slice none 0 0] (Dd.raw _ bb) (a.length : Int) rfl rfl hb7 fun br aa ad ae bs hr21 bt bu => ?_
 have az : ((List.replicate (a.length : Int).toNat ([] ++ (([] ++ [none]) ++ [none]))).flatten ++ ([bk aa] : Ob)).Perm (bk aa :: ((List.replicate (a.length : Int).toNat ([] ++ (([] ++ [none]) ++ [none]))).flatten ++ [])) := (pc fun a => by (try simp only [pca, pcc, pcn, Nat.add_zero, Nat.zero_add]); first | done | ac_rfl)
 have bc := bt.noned ay az
 have cx := St.noned br O ay az
 refine L_as (.slice aa ad ae) rfl (L_nil (W_seq (W_seq (W_reg (L_as (vi 0) rfl (L_nil (W_block ?_)))))))
 obtain ⟨bv, bw, a0, H⟩ := H
 have bx := (Ow.noned bu ay az)
 have bz := (bq.k0 bs)
 refine W_loop (α := (List Feat) × (List (List Value)) × Ob × Int) (fun (sv__ : (List Feat) × (List (List Value)) × Ob × Int) t ah => match sv__ with | (xs2, ag, af, i2) => bv xs2 i2 ∧ Has t [(0, .slice A1 n2 c3), (3, .slice aa ad ae), (4, vi i2)] ∧ Ct [] w0 ah (bk aa :: (af ++ [])) O ∧ Sl kFeat ah (Fr ((bk aa :: (af ++ [])) ++ O)) (.slice A1 n2 c3) a ∧ Ow (Kd.cells 4) 61 ah ((bk aa :: (af ++ [])) ++ O) (.slice aa ad ae) ag ∧ DArr dFeat_61 ah af xs2 ag) (fun (sv__ : (List Feat) × (List (List Value)) × Ob × Int) => match sv__ with | (xs2, _, _, i2) => bw xs2 i2) ((List.replicate (a.length : Int).toNat ((⟨([] : Str), (⟨0, []⟩ : Shape), []⟩ : Feat) : Feat)), (List.replicate (a.length : Int).toNat [vs ([] : Str), vi 0, .slice none 0 0, .slice none 0 0]), (List.replicate (a.length : Int).toNat ([] ++ (([] ++ [none]) ++ [none]))).flatten, 0) ⟨a0, (hasI rfl), bc, (hp4.st bc.st), bx, bz⟩ ?_
 rintro ⟨xs2, ag, af, i2⟩ _ ah ⟨a0, b0, ai, an, bd, be⟩
 obtain ⟨cy, rfl⟩ := Has.ins b0
 have H := H xs2 i2 a0
 refine W_seq (W_seq (W_reg (L_mv (vi i2) rfl (L_mv (.slice A1 n2 c3) rfl ?_))))
 have b1 := an.le
 refine L_pu (P_len Tryz.underlying22 A1 n2 c3 an.len rfl) (L_pu (P_cmp i2 (a.length : Int) (decide (i2 < (a.length : Int))) rfl rfl rfl) (L_nil ?_))
 refine W_cond (decide (i2 < (a.length : Int))) rfl (fun aq => ?_) (fun aq => ?_)
 ·have H := ite_t H aq
  refine W_skip (W_seq (W_block (W_reg (L_mv (.slice aa ad ae) rfl (L_mv (vi i2) rfl (L_mv (.slice A1 n2 c3) rfl (L_mv (vi i2) rfl ?_)))))))
  obtain ⟨bf, H⟩ := H
  obtain ⟨bg, cz, b2, c1, b3, b4⟩ := an.get default (by decide) i2 bf
  obtain ⟨a1, a2, a3, a4, a5, a6, rfl, b5, b6, b7⟩ := kFeat.op b3
  refine L_pu (P_ia Tryz.underlying22 se22 A1 bg n2 c3 an.len i2 rfl b2 rfl bf) (L_pu (P_lda ag49 sz49 cL (bg.add (i2.toNat * 4)) [vs ((nth a i2).Id), vi ((nth a i2).Shape.Kind), .slice a1 a2 a3, .slice a4 a5 a6] rfl rfl b4) ?_)
  refine L_call go29 [.agg #[vs ((nth a i2).Id), vi ((nth a i2).Shape.Kind), .slice a1 a2 a3, .slice a4 a5 a6]] rfl ((F72.calls ah ai.ok (nth a i2) a1 a2 a3 a4 a5 a6 b5 b6 b7 _ H).mono ?_)
  rintro _ b8 ⟨r, ab, aj, ak, ac, al, am, rfl, H, ar, b9, a7, bh, bi, bj⟩
  have ao := ai.owns ar b9 a7
  obtain ⟨au, H⟩ := H
  have av := (bd.sos ar a7)
  have aw := (be.k0 ar)
  have ca : (0 : Int) ≤ i2 ∧ i2 < (ag.length : Int) := by rw [aw.len]; exact au
  obtain ⟨bl, c2, a8, cb, c4⟩ := av.get default (by decide) i2 ca
  obtain rfl := Kd.cells.op cb
  refine L_pu (P_ia Tryz.underlying26 se26 aa bl ad ae (Dp.len av aw) i2 rfl a8 rfl au) ?_
  have cc : (dFeat_61).D b8 ([] ++ (([] ++ [bk ab]) ++ [bk ac])) r [vs r.Id, vi r.Shape.Kind, .slice ab aj ak, .slice ac al am] := (dFeat_61.mk _ r bh (Ds.ofOw kPt_flat bi) (Ds.ofOw kTag_flat bj))
  have bm : (0 : Int) ≤ i2 ∧ i2 < (ag.length : Int) := by rw [aw.len]; exact au
  obtain ⟨c5, bn, cd, ce, cf⟩ := av.get default (by decide) i2 bm
  obtain rfl := Option.some.inj (a8.symm.trans cd)
  have bo : bn.length = 4 := (Kd.cells 4).len ce
  refine L_ste0 (kd := Kd.cells 4) aa ad ae ag av i2 bm bl a8 0 rfl [vs r.Id, vi r.Shape.Kind, .slice ab aj ak, .slice ac al am] rfl sz61 rfl [vs r.Id, vi r.Shape.Kind, .slice ab aj ak, .slice ac al am] bn [vs r.Id, vi r.Shape.Kind, .slice ab aj ak, .slice ac al am] cf bo (whole_put bo) (Dd.raw _ cc) fun cg ap ch => ?_
  have bp := ao.wr 2 rfl ap
  have ci := (ao.sw bi 0 2 rfl rfl rfl ap)
  have cj := (ao.sw bj 1 2 rfl rfl rfl ap)
  have ck : (dFeat_61).D cg ([] ++ (([] ++ [bk ab]) ++ [bk ac])) r [vs r.Id, vi r.Shape.Kind, .slice ab aj ak, .slice ac al am] := (dFeat_61.mk _ r bh (Ds.ofOw kPt_flat ci) (Ds.ofOw kTag_flat cj))
  have cl := (DArr.sm (L := (bk ab :: bk ac :: bk aa :: (af ++ []))) (O := O) (i := 2) aw ao rfl (fun b hb => (List.mem_append_left _ hb)) ap)
  obtain ⟨ax, a9, cm, cn⟩ := DArr.put ck (Int.toNat i2) cl (by have := au; omega)
  have ba : ((bk ab :: bk ac :: bk aa :: (af ++ [])) : Ob).Perm (a9 ++ (bk aa :: (ax ++ []))) := (show ((bk ab :: bk ac :: bk aa :: (af ++ [])) : Ob).Perm ((af ++ ([] ++ (([] ++ [bk ab]) ++ [bk ac]))) ++ (bk aa :: [])) from (pc fun a => by (try simp only [pca, pcc, pcn, Nat.add_zero, Nat.zero_add]); first | done | ac_rfl)).trans ((cm.append_right (bk aa :: [])).trans (show ((a9 ++ ax) ++ (bk aa :: []) : Ob).Perm (a9 ++ (bk aa :: (ax ++ []))) from (pc fun a => by (try simp only [pca, pcc, pcn, Nat.add_zero, Nat.zero_add]); first | done | ac_rfl)))
  have co := bp.drops ba
  refine L_nil (W_reg (L_mv (vi i2) rfl ?_))
  obtain ⟨cp, H⟩ := H
  have cq : I64 (i2 + 1) := i64_succ (of_decide_eq_true aq) b1 cp
  refine L_pu (P_add i2 1 rfl rfl cq) (L_as (vi (i2 + 1)) rfl (L_nil ?_))
  obtain ⟨cr, cs⟩ := H
  have ct := ai.stos ar a7
  have cu := ao.stw 2 rfl ap
  have cv := (((an.st ct).st cu).st (St.drops _ O ba))
  have cw := (bp.odr ch ba 0 rfl)
  exact ⟨((xs2.set i2.toNat r), (ag.set i2.toNat [vs r.Id, vi r.Shape.Kind, .slice ab aj ak, .slice ac al am]), ax, i2 + 1), cs, cr, (hasI rfl), co, cv, cw, cn⟩
 have H := ite_f H aq
 refine W_exit (xin_hit ?_)
 exact W_seq (W_reg (L_mv (.slice aa ad ae) rfl (L_as (.slice aa ad ae) rfl (L_nil (W_ret ⟨[.slice aa ad ae], ⟨_, rfl, rfl⟩, xs2, aa, ad, ae, af, ag, rfl, H, ai.gr.g0, ai.ok, ai.ge, bd, be⟩)))))
end
section
open Go.RowKit
def F73.E (s : Str) (Q : Bool → Prop) : Prop :=
 (∃ (I8 : Int → Prop) (mu9 : Int → Nat), I8 0 ∧ ∀ (i2 : Int), I8 i2 → (if decide (i2 < (s.length : Int)) then ((0 : Int) ≤ i2 ∧ i2 < (s.length : Int)) ∧ (if decide (((nth s i2).toNat : Int) < 97) then Q false else ((0 : Int) ≤ i2 ∧ i2 < (s.length : Int)) ∧ (if decide (((nth s i2).toNat : Int) > 122) then Q false else (-9223372036854775808 ≤ i2) ∧ I8 (i2 + 1) ∧ mu9 (i2 + 1) < mu9 i2)) else (if decide ((s.length : Int) ≥ 1) then Q (decide ((s.length : Int) ≤ 6)) else Q false)))
theorem F73.calls {O : Ob} (w0 : World) (hO : Ok w0 O) (s : Str) (hs1 : Lim s) (Q : Bool → Prop) (h : F73.E s Q) :
  Ret Tryz.prog 90 [vs s] w0 (fun v w' => ∃ (r0 : Bool), v = vb r0 ∧ Q r0 ∧ Gr w0 w' none) := by
 unfold F73.E at h
 have H := h
 clear h
 have hc0 := Ct.init hO
 refine Ret_enter Tryz.func90 rfl 28 rfl [.tmp 2] rfl rfl ?_
 refine W_seq (W_reg (L_as (vb false) rfl (L_nil (W_seq (W_seq (W_reg (L_as (vi 0) rfl (L_nil ?_))))))))
 refine W_block ?_
 obtain ⟨I8, mu9, ad, H⟩ := H
 refine W_loop (α := Int) (fun (sv__ : Int) t w6 => match sv__ with | i2 => I8 i2 ∧ Has t [(0, vs s), (3, vi i2)] ∧ Ct [] w0 w6 [] O) (fun (sv__ : Int) => match sv__ with | i2 => mu9 i2) 0 ⟨ad, (hasI rfl), hc0⟩ ?_
 rintro i2 _ w6 ⟨ad, af, hc7⟩
 obtain ⟨an, rfl⟩ := Has.ins af
 have H := H i2 ad
 refine W_seq (W_seq (W_reg (L_mv (vi i2) rfl (L_mv (vs s) rfl ?_))))
 have ag := hs1
 refine L_pu (P_lens Tryz.underlying9 s rfl) (L_pu (P_cmp i2 (s.length : Int) (decide (i2 < (s.length : Int))) rfl rfl rfl) (L_nil ?_))
 refine W_cond (decide (i2 < (s.length : Int))) rfl (fun ac => ?_) (fun ac => ?_)
 ·have H := ite_t H ac
  refine W_skip (W_seq (W_block (W_seq (W_reg (L_mv (vs s) rfl (L_mv (vi i2) rfl ?_))))))
  obtain ⟨ah, H⟩ := H
  refine L_pu (P_index Tryz.underlying9 s i2 rfl rfl ah) (L_pu (P_cmp ((nth s i2).toNat : Int) 97 (decide (((nth s i2).toNat : Int) < 97)) rfl rfl rfl) (L_mv (vb (decide (((nth s i2).toNat : Int) < 97))) rfl ?_))
  rcases bool_or (decide (((nth s i2).toNat : Int) < 97)) with aa | aa
  ·have H := ite_t H aa
   refine L_pb aa rfl (L_pb aa rfl (L_pb aa rfl (L_pb aa rfl (L_pu (P_pick true (vb true) (by exact congrArg Value.bool aa) rfl) (L_nil (W_ct (b := true) rfl rfl ?_))))))
   exact W_seq (W_reg (L_as (vb false) rfl (L_nil (W_ret ⟨[vb false], ⟨_, rfl, rfl⟩, false, rfl, H, hc7.gr.g0⟩))))
  have H := ite_f H aa
  refine L_rb aa rfl (L_mv (vs s) rfl (L_rb aa rfl (L_mv (vi i2) rfl (L_rb aa rfl ?_))))
  obtain ⟨ai, H⟩ := H
  refine L_pu (P_index Tryz.underlying9 s i2 rfl rfl ai) (L_rb aa rfl (L_pu (P_cmp ((nth s i2).toNat : Int) 122 (decide (((nth s i2).toNat : Int) > 122)) rfl rfl rfl) (L_pu (P_pick false (vb (decide (((nth s i2).toNat : Int) > 122))) (by exact congrArg Value.bool aa) rfl) (L_nil ?_))))
  refine W_cond (decide (((nth s i2).toNat : Int) > 122)) rfl (fun ae => ?_) (fun ae => ?_)
  ·have H := ite_t H ae
   exact W_seq (W_reg (L_as (vb false) rfl (L_nil (W_ret ⟨[vb false], ⟨_, rfl, rfl⟩, false, rfl, H, hc7.gr.g0⟩))))
  have H := ite_f H ae
  refine W_skip (W_reg (L_mv (vi i2) rfl ?_))
  obtain ⟨aj, H⟩ := H
  have ak : I64 (i2 + 1) := i64_succ (of_decide_eq_true ac) ag aj
  refine L_pu (P_add i2 1 rfl rfl ak) (L_as (vi (i2 + 1)) rfl (L_nil ?_))
  obtain ⟨al, am⟩ := H
  exact ⟨i2 + 1, am, al, (hasI rfl), hc7⟩
 have H := ite_f H ac
 refine W_exit (xin_hit ?_)
 refine W_seq (W_reg (L_mv (vs s) rfl (L_pu (P_lens Tryz.underlying9 s rfl) (L_pu (P_cmp (s.length : Int) 1 (decide ((s.length : Int) ≥ 1)) rfl rfl rfl) (L_mv (vb (decide ((s.length : Int) ≥ 1))) rfl ?_)))))
 rcases bool_or (decide ((s.length : Int) ≥ 1)) with ab | ab
 ·have H := ite_t H ab
  refine L_rb ab rfl (L_mv (vs s) rfl (L_rb ab rfl (L_pu (P_lens Tryz.underlying9 s rfl) (L_rb ab rfl (L_pu (P_cmp (s.length : Int) 6 (decide ((s.length : Int) ≤ 6)) rfl rfl rfl) (L_pu (P_pick true (vb (decide ((s.length : Int) ≤ 6))) (by exact congrArg Value.bool ab) rfl) (L_as (vb (decide ((s.length : Int) ≤ 6))) rfl (L_nil ?_))))))))
  exact W_ret ⟨[vb (decide ((s.length : Int) ≤ 6))], ⟨_, rfl, rfl⟩, decide ((s.length : Int) ≤ 6), rfl, H, hc7.gr.g0⟩
 have H := ite_f H ab
 exact L_pb ab rfl (L_pb ab rfl (L_pb ab rfl (L_pu (P_pick false (vb false) (by exact congrArg Value.bool ab) rfl) (L_as (vb false) rfl (L_nil (W_ret ⟨[vb false], ⟨_, rfl, rfl⟩, false, rfl, H, hc7.gr.g0⟩))))))
end
section
open Go.RowKit
def F104.E (n : Int) (Q : Bool → Prop) : Prop :=
 (if decide (n ≥ (-1000)) then Q (decide (n ≤ 1000)) else Q false)
theorem F104.calls {O : Ob} (w0 : World) (hO : Ok w0 O) (n : Int) (Q : Bool → Prop) (h : F104.E n Q) :
  Ret Tryz.prog 146 [vi n] w0 (fun v w' => ∃ (r0 : Bool), v = vb r0 ∧ Q r0 ∧ Gr w0 w' none ∧ w' = w0) := by
 unfold F104.E at h
 have H := h
 clear h
 have hc0 := Ct.init hO
 refine Ret_enter Tryz.func146 rfl 9 rfl [.tmp 2] rfl rfl ?_
 refine W_seq (W_reg (L_as (vb false) rfl (L_nil (W_seq (W_reg (L_mv (vi n) rfl (L_pu (P_cmp n (-1000) (decide (n ≥ (-1000))) rfl rfl rfl) (L_mv (vb (decide (n ≥ (-1000)))) rfl ?_))))))))
 rcases bool_or (decide (n ≥ (-1000))) with hq1 | hq1
 ·have H := ite_t H hq1
  exact L_rb hq1 rfl (L_mv (vi n) rfl (L_rb hq1 rfl (L_pu (P_cmp n 1000 (decide (n ≤ 1000)) rfl rfl rfl) (L_pu (P_pick true (vb (decide (n ≤ 1000))) (by exact congrArg Value.bool hq1) rfl) (L_as (vb (decide (n ≤ 1000))) rfl (L_nil (W_ret ⟨[vb (decide (n ≤ 1000))], ⟨_, rfl, rfl⟩, decide (n ≤ 1000), rfl, H, hc0.gr.g0, rfl⟩)))))))
 have H := ite_f H hq1
 exact L_pb hq1 rfl (L_pb hq1 rfl (L_pu (P_pick false (vb false) (by exact congrArg Value.bool hq1) rfl) (L_as (vb false) rfl (L_nil (W_ret ⟨[vb false], ⟨_, rfl, rfl⟩, false, rfl, H, hc0.gr.g0, rfl⟩)))))
def F104.m (n : Int) : Bool := (if decide (n ≥ (-1000)) then (decide (n ≤ 1000)) else false)
theorem F104.fn (n : Int) : F104.E n (fun r => r = F104.m n) := by
 unfold F104.E F104.m
 (repeat' split) <;> simp_all
end
section
open Go.RowKit
def F105.E (p : List Pt) (Q : Bool → Prop) : Prop :=
 (∃ (I18 : Int → Prop) (mu19 : Int → Nat), I18 0 ∧ ∀ (i2 : Int), I18 i2 → (if decide (i2 < (p.length : Int)) then ((0 : Int) ≤ i2 ∧ i2 < (p.length : Int)) ∧ (if !(F104.m ((nth p i2).X)) then Q false else ((0 : Int) ≤ i2 ∧ i2 < (p.length : Int)) ∧ (if !(F104.m ((nth p i2).Y)) then Q false else (if decide (i2 > 0) then ((0 : Int) ≤ i2 ∧ i2 < (p.length : Int)) ∧ ((p.length : Int) ≤ 9223372036854775807 → I64 (i2 - 1)) ∧ ((0 : Int) ≤ i2 - 1 ∧ i2 - 1 < (p.length : Int)) ∧ (if eqPt (nth p i2) (nth p (i2 - 1)) then Q false else (-9223372036854775808 ≤ i2) ∧ I18 (i2 + 1) ∧ mu19 (i2 + 1) < mu19 i2) else (-9223372036854775808 ≤ i2) ∧ I18 (i2 + 1) ∧ mu19 (i2 + 1) < mu19 i2))) else Q (decide ((p.length : Int) ≤ 6))))
theorem F105.calls {O : Ob} (w0 : World) (hO : Ok w0 O) (p : List Pt) (A1 : Option Addr) (n2 c3 : Nat) (hp4 : Sl kPt w0 (Fr O) (.slice A1 n2 c3) p) (Q : Bool → Prop) (h : F105.E p Q) :
  Ret Tryz.prog 122 [.slice A1 n2 c3] w0 (fun v w' => ∃ (r0 : Bool), v = vb r0 ∧ Q r0 ∧ Gr w0 w' none) := by
 unfold F105.E at h
 have H := h
 clear h
 have hc0 := Ct.init hO
 refine Ret_enter Tryz.func122 rfl 45 rfl [.tmp 2] rfl rfl ?_
 refine W_seq (W_reg (L_as (vb false) rfl (L_nil (W_seq (W_seq (W_reg (L_as (vi 0) rfl (L_nil ?_))))))))
 refine W_block ?_
 obtain ⟨ax, ay, aj, H⟩ := H
 refine W_loop (α := Int) (fun (sv__ : Int) t ag => match sv__ with | i2 => ax i2 ∧ Has t [(0, .slice A1 n2 c3), (3, vi i2)] ∧ Ct [] w0 ag [] O ∧ Sl kPt ag (Fr ([] ++ O)) (.slice A1 n2 c3) p) (fun (sv__ : Int) => match sv__ with | i2 => ay i2) 0 ⟨aj, (hasI rfl), hc0, hp4⟩ ?_
 rintro i2 _ ag ⟨aj, az, ae, ad⟩
 obtain ⟨bu, rfl⟩ := Has.ins az
 have H := H i2 aj
 refine W_seq (W_seq (W_reg (L_mv (vi i2) rfl (L_mv (.slice A1 n2 c3) rfl ?_))))
 have ak := ad.le
 refine L_pu (P_len Tryz.underlying56 A1 n2 c3 ad.len rfl) (L_pu (P_cmp i2 (p.length : Int) (decide (i2 < (p.length : Int))) rfl rfl rfl) (L_nil ?_))
 refine W_cond (decide (i2 < (p.length : Int))) rfl (fun af => ?_) (fun af => ?_)
 ·have H := ite_t H af
  refine W_skip (W_seq (W_block (W_seq (W_draw (fun x => Gr ag x none) (by kernel_rfl) (by kernel_rfl) (Gr.drew _) ?_))))
  refine Q_mv (.slice A1 n2 c3) rfl (Q_mv (vi i2) rfl ?_)
  obtain ⟨am, H⟩ := H
  obtain ⟨ah, bv, a0, bw, a1, a2⟩ := ad.get default (by decide) i2 am
  obtain rfl := kPt.op a1
  refine Q_pu (P_ia Tryz.underlying56 se56 A1 ah n2 c3 ad.len i2 rfl a0 rfl am) (Q_pu (P_fa fa114_0 (ah.add (i2.toNat * 2)) ((ah.add (i2.toNat * 2)).add 0) rfl rfl) (Q_pu (P_ld ag3 cQ ((ah.add (i2.toNat * 2)).add 0) (vi ((nth p i2).X)) rfl (a2 0 _ rfl)) ?_))
  refine Q_call go146 [vi ((nth p i2).X)] rfl (vb (F104.m ((nth p i2).X))) (fun w g => (F104.calls w (ae.k0 g).ok ((nth p i2).X) _ (F104.fn ((nth p i2).X))).mono ?_) ?_
  ·rintro _ w ⟨r, rfl, rfl, g2, _⟩
   exact ⟨rfl, Gr.t0 g g2⟩
  refine Q_pu (P_not (F104.m ((nth p i2).X)) rfl) (Q_mv (vb (!(F104.m ((nth p i2).X)))) rfl ?_)
  rcases bool_or (!(F104.m ((nth p i2).X))) with ab | ab
  ·have H := ite_t H ab
   refine Q_pb ab rfl (Q_pb ab rfl (Q_pb ab rfl (Q_pb ab rfl (Q_pb ab rfl (Q_pb ab rfl (Q_pb ab rfl (Q_pu (P_pick true (vb true) (by exact congrArg Value.bool ab) rfl) (Q_mv (vb true) rfl ?_))))))))
   refine Q_pass (dj := 26) rfl rfl (.inl rfl) (Q_pass (dj := 26) rfl rfl (.inl rfl) (Q_pass (dj := 26) rfl rfl (.inl rfl) (Q_pn rfl (Q_pn rfl (Q_pn rfl (Q_pn rfl (Q_pn rfl (Q_pn rfl ?_))))))))
   refine Q_pn rfl (Q_pn rfl (Q_pn rfl (Q_pn rfl (Q_pass (dj := 26) rfl rfl (.inl rfl) (Q_pu (P_pick true (vb true) (by exact congrArg Value.bool rfl) rfl) (Q_nil fun bx a3 => ?_))))))
   have a4 := ae.k0 a3
   refine W_ct (b := true) rfl rfl ?_
   exact W_seq (W_reg (L_as (vb false) rfl (L_nil (W_ret ⟨[vb false], ⟨_, rfl, rfl⟩, false, rfl, H, a4.gr.g0⟩))))
  have H := ite_f H ab
  refine Q_rb ab rfl (Q_mv (.slice A1 n2 c3) rfl (Q_rb ab rfl (Q_mv (vi i2) rfl (Q_rb ab rfl ?_))))
  obtain ⟨an, H⟩ := H
  obtain ⟨ai, bz, a5, b0, a6, a7⟩ := ad.get default (by decide) i2 an
  obtain rfl := kPt.op a6
  refine Q_pu (P_ia Tryz.underlying56 se56 A1 ai n2 c3 ad.len i2 rfl a5 rfl an) (Q_rb ab rfl (Q_pu (P_fa fa114_1 (ai.add (i2.toNat * 2)) ((ai.add (i2.toNat * 2)).add 1) rfl rfl) (Q_rb ab rfl (Q_pu (P_ld ag3 cQ ((ai.add (i2.toNat * 2)).add 1) (vi ((nth p i2).Y)) rfl (a7 1 _ rfl)) (Q_rb ab rfl ?_)))))
  refine Q_call go146 [vi ((nth p i2).Y)] rfl (vb (F104.m ((nth p i2).Y))) (fun w g => (F104.calls w (ae.k0 g).ok ((nth p i2).Y) _ (F104.fn ((nth p i2).Y))).mono ?_) ?_
  ·rintro _ w ⟨r, rfl, rfl, g2, _⟩
   exact ⟨rfl, Gr.t0 g g2⟩
  refine Q_rb ab rfl (Q_pu (P_not (F104.m ((nth p i2).Y)) rfl) (Q_pu (P_pick false (vb (!(F104.m ((nth p i2).Y)))) (by exact congrArg Value.bool ab) rfl) (Q_mv (vb (!(F104.m ((nth p i2).Y)))) rfl ?_)))
  rcases bool_or (!(F104.m ((nth p i2).Y))) with ac | ac
  ·have H := ite_t H ac
   refine Q_pb ac rfl (Q_pb ac rfl (Q_pb ac rfl (Q_pn rfl (Q_pn rfl (Q_pn rfl (Q_pn rfl (Q_pn rfl (Q_pn rfl ?_))))))))
   refine Q_pn rfl (Q_pn rfl (Q_pn rfl (Q_pn rfl (Q_pb ac rfl (Q_pu (P_pick true (vb true) (by exact congrArg Value.bool ac) rfl) (Q_nil fun b1 a8 => ?_))))))
   have a9 := ae.k0 a8
   refine W_ct (b := true) rfl rfl ?_
   exact W_seq (W_reg (L_as (vb false) rfl (L_nil (W_ret ⟨[vb false], ⟨_, rfl, rfl⟩, false, rfl, H, a9.gr.g0⟩))))
  have H := ite_f H ac
  refine Q_rb ac rfl (Q_mv (vi i2) rfl (Q_rb ac rfl (Q_pu (P_cmp i2 0 (decide (i2 > 0)) rfl rfl rfl) (Q_rb ac rfl (Q_mv (vb (decide (i2 > 0))) rfl ?_)))))
  rcases bool_or (decide (i2 > 0)) with aa | aa
  ·have H := ite_t H aa
   refine Q_rb aa rfl (Q_mv (.slice A1 n2 c3) rfl (Q_rb aa rfl (Q_mv (vi i2) rfl (Q_rb aa rfl ?_))))
   obtain ⟨ao, H⟩ := H
   obtain ⟨ap, b2, ba, b3, bb, bc⟩ := ad.get default (by decide) i2 ao
   obtain rfl := kPt.op bb
   refine Q_pu (P_ia Tryz.underlying56 se56 A1 ap n2 c3 ad.len i2 rfl ba rfl ao) (Q_rb aa rfl (Q_pu (P_lda ag114 sz114 cQ (ap.add (i2.toNat * 2)) [vi ((nth p i2).X), vi ((nth p i2).Y)] rfl rfl bc) (Q_rb aa rfl (Q_mv (.slice A1 n2 c3) rfl (Q_rb aa rfl (Q_mv (vi i2) rfl (Q_rb aa rfl ?_)))))))
   obtain ⟨bd, H⟩ := H
   have be := bd (len_le ak)
   refine Q_pu (P_sub i2 1 rfl rfl be) (Q_rb aa rfl ?_)
   obtain ⟨aq, H⟩ := H
   obtain ⟨ar, b4, bf, b5, bg, bh⟩ := ad.get default (by decide) (i2 - 1) aq
   obtain rfl := kPt.op bg
   refine Q_pu (P_ia Tryz.underlying56 se56 A1 ar n2 c3 ad.len (i2 - 1) rfl bf rfl aq) (Q_rb aa rfl (Q_pu (P_lda ag114 sz114 cQ (ar.add ((i2 - 1).toNat * 2)) [vi ((nth p (i2 - 1)).X), vi ((nth p (i2 - 1)).Y)] rfl rfl bh) (Q_rb aa rfl (Q_pu (P_eq _ _ (eqPt (nth p i2) (nth p (i2 - 1))) (qt114 (nth p i2) (nth p (i2 - 1))) rfl rfl) (Q_rb ac rfl (Q_pu (P_pick true (vb (eqPt (nth p i2) (nth p (i2 - 1)))) (by exact congrArg Value.bool aa) rfl) (Q_pu (P_pick false (vb (eqPt (nth p i2) (nth p (i2 - 1)))) (by exact congrArg Value.bool ac) rfl) (Q_nil fun b6 au => ?_))))))))
   have av := ae.k0 au
   refine W_cond (eqPt (nth p i2) (nth p (i2 - 1))) rfl (fun al => ?_) (fun al => ?_)
   ·have H := ite_t H al
    exact W_seq (W_reg (L_as (vb false) rfl (L_nil (W_ret ⟨[vb false], ⟨_, rfl, rfl⟩, false, rfl, H, av.gr.g0⟩))))
   have H := ite_f H al
   refine W_skip (W_reg (L_mv (vi i2) rfl ?_))
   obtain ⟨bi, H⟩ := H
   have bj : I64 (i2 + 1) := i64_succ (of_decide_eq_true af) ak bi
   refine L_pu (P_add i2 1 rfl rfl bj) (L_as (vi (i2 + 1)) rfl (L_nil ?_))
   obtain ⟨bl, bm⟩ := H
   have bn := ae.stn au
   exact ⟨i2 + 1, bm, bl, (hasI rfl), av, (ad.st bn)⟩
  have H := ite_f H aa
  refine Q_pb aa rfl (Q_pb aa rfl (Q_pb aa rfl (Q_pb aa rfl (Q_pb aa rfl (Q_pb aa rfl (Q_pb aa rfl (Q_pb aa rfl (Q_pb aa rfl ?_))))))))
  refine Q_pb aa rfl (Q_rb ac rfl (Q_pu (P_pick false (vb false) (by exact congrArg Value.bool aa) rfl) (Q_pu (P_pick false (vb false) (by exact congrArg Value.bool ac) rfl) (Q_nil fun b7 aw => ?_))))
  have bo := ae.k0 aw
  refine W_cf (b := false) rfl rfl ?_
  refine W_skip (W_reg (L_mv (vi i2) rfl ?_))
  obtain ⟨bp, H⟩ := H
  have bq : I64 (i2 + 1) := i64_succ (of_decide_eq_true af) ak bp
  refine L_pu (P_add i2 1 rfl rfl bq) (L_as (vi (i2 + 1)) rfl (L_nil ?_))
  obtain ⟨br, bs⟩ := H
  have bt := ae.stn aw
  exact ⟨i2 + 1, bs, br, (hasI rfl), bo, (ad.st bt)⟩
 have H := ite_f H af
 refine W_exit (xin_hit ?_)
 exact W_seq (W_reg (L_mv (.slice A1 n2 c3) rfl (L_pu (P_len Tryz.underlying56 A1 n2 c3 ad.len rfl) (L_pu (P_cmp (p.length : Int) 6 (decide ((p.length : Int) ≤ 6)) rfl rfl rfl) (L_as (vb (decide ((p.length : Int) ≤ 6))) rfl (L_nil (W_ret ⟨[vb (decide ((p.length : Int) ≤ 6))], ⟨_, rfl, rfl⟩, decide ((p.length : Int) ≤ 6), rfl, H, ae.gr.g0⟩)))))))
end
section
open Go.RowKit
def F54.E (s : Shape) (Q : Bool → Prop) : Prop :=
 F105.E s.Pts (fun r => (if !r then Q false else (if s.Kind == 1 then Q ((s.Pts.length : Int) == 1) else (if s.Kind == 2 then Q (decide ((s.Pts.length : Int) ≥ 2)) else (if s.Kind == 3 then (if decide ((s.Pts.length : Int) ≥ 3) then ((0 : Int) ≤ 0 ∧ 0 < (s.Pts.length : Int)) ∧ ((s.Pts.length : Int) ≤ 9223372036854775807 → I64 ((s.Pts.length : Int) - 1)) ∧ ((0 : Int) ≤ (s.Pts.length : Int) - 1 ∧ (s.Pts.length : Int) - 1 < (s.Pts.length : Int)) ∧ Q (!(eqPt (nth s.Pts 0) (nth s.Pts ((s.Pts.length : Int) - 1)))) else Q false) else Q false)))))
theorem F54.calls {O : Ob} (w0 : World) (hO : Ok w0 O) (s : Shape) (A1 : Option Addr) (n2 c3 : Nat) (hp4 : Sl kPt w0 (Fr O) (.slice A1 n2 c3) s.Pts) (Q : Bool → Prop) (h : F54.E s Q) :
  Ret Tryz.prog 91 [.agg #[vi s.Kind, .slice A1 n2 c3]] w0 (fun v w' => ∃ (r0 : Bool), v = vb r0 ∧ Q r0 ∧ Gr w0 w' none) := by
 unfold F54.E at h
 have H := h
 clear h
 have hc0 := Ct.init hO
 refine Ret_enter Tryz.func91 rfl 38 rfl [.tmp 2] rfl rfl ?_
 refine W_seq (W_reg (L_box [vi s.Kind, .slice A1 n2 c3] rfl fun w6 b7 hl9 hu10 g8 ao => ?_))
 have ad := Fb.mk hc0.ok hl9 ao
 have ac := hc0.k0 g8
 refine L_as (vb false) rfl (L_nil (W_seq (W_reg (L_pu (P_fa fa58_1 ⟨b7, 0, none⟩ ⟨b7, 1, none⟩ rfl rfl) (L_pu (P_ld ag56 cL ⟨b7, 1, none⟩ (.slice A1 n2 c3) rfl (ad.cell rfl)) ?_)))))
 have ap := (hp4.st ac.st).le
 refine L_pu (P_len Tryz.underlying56 A1 n2 c3 (hp4.st ac.st).len rfl) (L_as (vi (s.Pts.length : Int)) rfl (L_nil (W_seq (W_seq (W_reg (L_pu (P_fa fa58_1 ⟨b7, 0, none⟩ ⟨b7, 1, none⟩ rfl rfl) (L_pu (P_ld ag56 cL ⟨b7, 1, none⟩ (.slice A1 n2 c3) rfl (ad.cell rfl)) ?_)))))))
 refine L_call go122 [.slice A1 n2 c3] rfl ((F105.calls w6 ac.ok s.Pts A1 n2 c3 (hp4.st ac.st) _ H).mono ?_)
 rintro _ aq ⟨r, rfl, H, aj⟩
 have ab := ac.k0 aj
 refine L_pu (P_not r rfl) (L_nil ?_)
 refine W_cond (!r) rfl (fun ae => ?_) (fun ae => ?_)
 ·have H := ite_t H ae
  exact W_seq (W_reg (L_as (vb false) rfl (L_nil (W_ret ⟨[vb false], ⟨_, rfl, rfl⟩, false, rfl, H, ab.gr.g0⟩))))
 have H := ite_f H ae
 refine W_skip (W_seq (W_seq (W_reg (L_pu (P_fa fa58_0 ⟨b7, 0, none⟩ ⟨b7, 0, none⟩ rfl rfl) ?_))))
 have ar := ac.stn aj
 have af := (ad.st ar)
 refine L_pu (P_ld ag3 cL ⟨b7, 0, none⟩ (vi s.Kind) rfl (af.cell rfl)) (L_nil (W_block (W_seq (W_reg (L_pu (P_cmp s.Kind 1 (s.Kind == 1) rfl rfl rfl) (L_as (vb (s.Kind == 1)) rfl (L_nil ?_)))))))
 refine W_cond (s.Kind == 1) rfl (fun ag => ?_) (fun ag => ?_)
 ·have H := ite_t H ag
  exact W_seq (W_reg (L_mv (vi (s.Pts.length : Int)) rfl (L_pu (P_cmp (s.Pts.length : Int) 1 ((s.Pts.length : Int) == 1) rfl rfl rfl) (L_as (vb ((s.Pts.length : Int) == 1)) rfl (L_nil (W_ret ⟨[vb ((s.Pts.length : Int) == 1)], ⟨_, rfl, rfl⟩, (s.Pts.length : Int) == 1, rfl, H, ab.gr.g0⟩))))))
 have H := ite_f H ag
 refine W_seq (W_reg (L_pu (P_cmp s.Kind 2 (s.Kind == 2) rfl rfl rfl) (L_as (vb (s.Kind == 2)) rfl (L_nil ?_))))
 refine W_cond (s.Kind == 2) rfl (fun ah => ?_) (fun ah => ?_)
 ·have H := ite_t H ah
  exact W_seq (W_reg (L_mv (vi (s.Pts.length : Int)) rfl (L_pu (P_cmp (s.Pts.length : Int) 2 (decide ((s.Pts.length : Int) ≥ 2)) rfl rfl rfl) (L_as (vb (decide ((s.Pts.length : Int) ≥ 2))) rfl (L_nil (W_ret ⟨[vb (decide ((s.Pts.length : Int) ≥ 2))], ⟨_, rfl, rfl⟩, decide ((s.Pts.length : Int) ≥ 2), rfl, H, ab.gr.g0⟩))))))
 have H := ite_f H ah
 refine W_seq (W_reg (L_pu (P_cmp s.Kind 3 (s.Kind == 3) rfl rfl rfl) (L_as (vb (s.Kind == 3)) rfl (L_nil ?_))))
 refine W_cond (s.Kind == 3) rfl (fun ai => ?_) (fun ai => ?_)
 ·have H := ite_t H ai
  refine W_seq (W_draw (fun x => Gr aq x none) (by kernel_rfl) (by kernel_rfl) (Gr.drew _) ?_)
  refine Q_mv (vi (s.Pts.length : Int)) rfl (Q_pu (P_cmp (s.Pts.length : Int) 3 (decide ((s.Pts.length : Int) ≥ 3)) rfl rfl rfl) (Q_mv (vb (decide ((s.Pts.length : Int) ≥ 3))) rfl ?_))
  rcases bool_or (decide ((s.Pts.length : Int) ≥ 3)) with aa | aa
  ·have H := ite_t H aa
   refine Q_rb aa rfl (Q_pu (P_fa fa58_1 ⟨b7, 0, none⟩ ⟨b7, 1, none⟩ rfl rfl) (Q_rb aa rfl (Q_pu (P_ld ag56 cQ ⟨b7, 1, none⟩ (.slice A1 n2 c3) rfl (af.cell rfl)) (Q_rb aa rfl ?_))))
   obtain ⟨ak, H⟩ := H
   obtain ⟨al, a6, au, a7, av, aw⟩ := (hp4.st ab.st).get default (by decide) 0 ak
   obtain rfl := kPt.op av
   refine Q_pu (P_ia Tryz.underlying56 se56 A1 al n2 c3 (hp4.st ab.st).len 0 rfl au rfl ak) (Q_rb aa rfl (Q_pu (P_lda ag114 sz114 cQ (al.add ((0 : Int).toNat * 2)) [vi ((nth s.Pts 0).X), vi ((nth s.Pts 0).Y)] rfl rfl aw) (Q_rb aa rfl (Q_pu (P_fa fa58_1 ⟨b7, 0, none⟩ ⟨b7, 1, none⟩ rfl rfl) (Q_rb aa rfl (Q_pu (P_ld ag56 cQ ⟨b7, 1, none⟩ (.slice A1 n2 c3) rfl (af.cell rfl)) (Q_rb aa rfl (Q_mv (vi (s.Pts.length : Int)) rfl ?_))))))))
   refine Q_rb aa rfl ?_
   obtain ⟨ax, H⟩ := H
   have ay := ax (len_le ap)
   refine Q_pu (P_sub (s.Pts.length : Int) 1 rfl rfl ay) (Q_rb aa rfl ?_)
   obtain ⟨am, H⟩ := H
   obtain ⟨an, a8, az, a9, a0, a1⟩ := (hp4.st ab.st).get default (by decide) ((s.Pts.length : Int) - 1) am
   obtain rfl := kPt.op a0
   refine Q_pu (P_ia Tryz.underlying56 se56 A1 an n2 c3 (hp4.st ab.st).len ((s.Pts.length : Int) - 1) rfl az rfl am) (Q_rb aa rfl (Q_pu (P_lda ag114 sz114 cQ (an.add (((s.Pts.length : Int) - 1).toNat * 2)) [vi ((nth s.Pts ((s.Pts.length : Int) - 1)).X), vi ((nth s.Pts ((s.Pts.length : Int) - 1)).Y)] rfl rfl a1) (Q_rb aa rfl (Q_pu (P_ne _ _ (eqPt (nth s.Pts 0) (nth s.Pts ((s.Pts.length : Int) - 1))) (qt114 (nth s.Pts 0) (nth s.Pts ((s.Pts.length : Int) - 1))) rfl rfl) (Q_pu (P_pick true (vb (!(eqPt (nth s.Pts 0) (nth s.Pts ((s.Pts.length : Int) - 1))))) (by exact congrArg Value.bool aa) rfl) (Q_as (vb (!(eqPt (nth s.Pts 0) (nth s.Pts ((s.Pts.length : Int) - 1))))) rfl (Q_nil fun ba a2 => ?_)))))))
   have a3 := ab.k0 a2
   exact W_ret ⟨[vb (!(eqPt (nth s.Pts 0) (nth s.Pts ((s.Pts.length : Int) - 1))))], ⟨_, rfl, rfl⟩, !(eqPt (nth s.Pts 0) (nth s.Pts ((s.Pts.length : Int) - 1))), rfl, H, a3.gr.g0⟩
  have H := ite_f H aa
  refine Q_pb aa rfl (Q_pb aa rfl (Q_pb aa rfl (Q_pb aa rfl (Q_pb aa rfl (Q_pb aa rfl (Q_pb aa rfl (Q_pb aa rfl (Q_pb aa rfl ?_))))))))
  refine Q_pb aa rfl (Q_pb aa rfl (Q_pu (P_pick false (vb false) (by exact congrArg Value.bool aa) rfl) (Q_as (vb false) rfl (Q_nil fun bb a4 => ?_))))
  have a5 := ab.k0 a4
  exact W_ret ⟨[vb false], ⟨_, rfl, rfl⟩, false, rfl, H, a5.gr.g0⟩
 have H := ite_f H ai
 exact W_skip (W_seq (W_reg (L_as (vb false) rfl (L_nil (W_ret ⟨[vb false], ⟨_, rfl, rfl⟩, false, rfl, H, ab.gr.g0⟩)))))
end
section
open Go.RowKit
def F74.E (t_ : List Tag) (Q : Bool → Prop) : Prop :=
 (∃ (I18 : Int → Prop) (mu19 : Int → Nat), I18 0 ∧ ∀ (i2 : Int), I18 i2 → (if decide (i2 < (t_.length : Int)) then ((0 : Int) ≤ i2 ∧ i2 < (t_.length : Int)) ∧ (∃ q : Bool, F73.E ((nth t_ i2).Key) (fun x => x = q) ∧ (if !q then Q false else ((0 : Int) ≤ i2 ∧ i2 < (t_.length : Int)) ∧ (∃ q2 : Bool, F73.E ((nth t_ i2).Val) (fun x => x = q2) ∧ (if !q2 then Q false else (if decide (i2 > 0) then ((0 : Int) ≤ i2 ∧ i2 < (t_.length : Int)) ∧ ((t_.length : Int) ≤ 9223372036854775807 → I64 (i2 - 1)) ∧ ((0 : Int) ≤ i2 - 1 ∧ i2 - 1 < (t_.length : Int)) ∧ (if Op.bytesLess ((nth t_ i2).Key) ((nth t_ (i2 - 1)).Key) || ((nth t_ i2).Key) == ((nth t_ (i2 - 1)).Key) then Q false else (-9223372036854775808 ≤ i2) ∧ I18 (i2 + 1) ∧ mu19 (i2 + 1) < mu19 i2) else (-9223372036854775808 ≤ i2) ∧ I18 (i2 + 1) ∧ mu19 (i2 + 1) < mu19 i2))))) else Q (decide ((t_.length : Int) ≤ 4))))
theorem F74.calls {O : Ob} (w0 : World) (hO : Ok w0 O) (t_ : List Tag) (A1 : Option Addr) (n2 c3 : Nat) (hp4 : Sl kTag w0 (Fr O) (.slice A1 n2 c3) t_) (Q : Bool → Prop) (h : F74.E t_ Q) :
  Ret Tryz.prog 92 [.slice A1 n2 c3] w0 (fun v w' => ∃ (r0 : Bool), v = vb r0 ∧ Q r0 ∧ Gr w0 w' none) := by
 unfold F74.E at h
 have H := h
 clear h
 have hc0 := Ct.init hO
 refine Ret_enter Tryz.func92 rfl 47 rfl [.tmp 2] rfl rfl ?_
 refine W_seq (W_reg (L_as (vb false) rfl (L_nil (W_seq (W_seq (W_reg (L_as (vi 0) rfl (L_nil ?_))))))))
 refine W_block ?_
 obtain ⟨ax, ay, al, H⟩ := H
 refine W_loop (α := Int) (fun (sv__ : Int) t ag => match sv__ with | i2 => ax i2 ∧ Has t [(0, .slice A1 n2 c3), (3, vi i2)] ∧ Ct [] w0 ag [] O ∧ Sl kTag ag (Fr ([] ++ O)) (.slice A1 n2 c3) t_) (fun (sv__ : Int) => match sv__ with | i2 => ay i2) 0 ⟨al, (hasI rfl), hc0, hp4⟩ ?_
 rintro i2 _ ag ⟨al, az, ae, ad⟩
 obtain ⟨bz, rfl⟩ := Has.ins az
 have H := H i2 al
 refine W_seq (W_seq (W_reg (L_mv (vi i2) rfl (L_mv (.slice A1 n2 c3) rfl ?_))))
 have am := ad.le
 refine L_pu (P_len Tryz.underlying59 A1 n2 c3 ad.len rfl) (L_pu (P_cmp i2 (t_.length : Int) (decide (i2 < (t_.length : Int))) rfl rfl rfl) (L_nil ?_))
 refine W_cond (decide (i2 < (t_.length : Int))) rfl (fun af => ?_) (fun af => ?_)
 ·have H := ite_t H af
  refine W_skip (W_seq (W_block (W_seq (W_draw (fun x => Gr ag x none) (by kernel_rfl) (by kernel_rfl) (Gr.drew _) ?_))))
  refine Q_mv (.slice A1 n2 c3) rfl (Q_mv (vi i2) rfl ?_)
  obtain ⟨ao, H⟩ := H
  obtain ⟨ah, b0, a0, b1, a1, a2⟩ := ad.get default (by decide) i2 ao
  obtain ⟨rfl, a3, b2⟩ := kTag.op a1
  refine Q_pu (P_ia Tryz.underlying59 se59 A1 ah n2 c3 ad.len i2 rfl a0 rfl ao) (Q_pu (P_fa fa106_0 (ah.add (i2.toNat * 2)) ((ah.add (i2.toNat * 2)).add 0) rfl rfl) (Q_pu (P_ld ag9 cQ ((ah.add (i2.toNat * 2)).add 0) (vs ((nth t_ i2).Key)) rfl (a2 0 _ rfl)) ?_))
  obtain ⟨q, a4, H⟩ := H
  refine Q_call go90 [vs ((nth t_ i2).Key)] rfl (vb q) (fun w g => (F73.calls w (ae.k0 g).ok ((nth t_ i2).Key) a3 _ a4).mono ?_) ?_
  ·rintro _ w ⟨r, rfl, rfl, g2⟩
   exact ⟨rfl, Gr.t0 g g2⟩
  refine Q_pu (P_not q rfl) (Q_mv (vb (!q)) rfl ?_)
  rcases bool_or (!q) with ab | ab
  ·have H := ite_t H ab
   refine Q_pb ab rfl (Q_pb ab rfl (Q_pb ab rfl (Q_pb ab rfl (Q_pb ab rfl (Q_pb ab rfl (Q_pb ab rfl (Q_pu (P_pick true (vb true) (by exact congrArg Value.bool ab) rfl) (Q_mv (vb true) rfl ?_))))))))
   refine Q_pass (dj := 26) rfl rfl (.inl rfl) (Q_pass (dj := 26) rfl rfl (.inl rfl) (Q_pass (dj := 26) rfl rfl (.inl rfl) (Q_pn rfl (Q_pn rfl (Q_pn rfl (Q_pn rfl (Q_pn rfl (Q_pn rfl ?_))))))))
   refine Q_pn rfl (Q_pn rfl (Q_pn rfl (Q_pn rfl (Q_pn rfl (Q_pn rfl (Q_pass (dj := 26) rfl rfl (.inl rfl) (Q_pu (P_pick true (vb true) (by exact congrArg Value.bool rfl) rfl) (Q_nil fun b3 a5 => ?_))))))))
   have a6 := ae.k0 a5
   refine W_ct (b := true) rfl rfl ?_
   exact W_seq (W_reg (L_as (vb false) rfl (L_nil (W_ret ⟨[vb false], ⟨_, rfl, rfl⟩, false, rfl, H, a6.gr.g0⟩))))
  have H := ite_f H ab
  refine Q_rb ab rfl (Q_mv (.slice A1 n2 c3) rfl (Q_rb ab rfl (Q_mv (vi i2) rfl (Q_rb ab rfl ?_))))
  obtain ⟨ap, H⟩ := H
  obtain ⟨ai, b4, a7, b5, a8, a9⟩ := ad.get default (by decide) i2 ap
  obtain ⟨rfl, b6, ba⟩ := kTag.op a8
  refine Q_pu (P_ia Tryz.underlying59 se59 A1 ai n2 c3 ad.len i2 rfl a7 rfl ap) (Q_rb ab rfl (Q_pu (P_fa fa106_1 (ai.add (i2.toNat * 2)) ((ai.add (i2.toNat * 2)).add 1) rfl rfl) (Q_rb ab rfl (Q_pu (P_ld ag9 cQ ((ai.add (i2.toNat * 2)).add 1) (vs ((nth t_ i2).Val)) rfl (a9 1 _ rfl)) (Q_rb ab rfl ?_)))))
  obtain ⟨q2, bb, H⟩ := H
  refine Q_call go90 [vs ((nth t_ i2).Val)] rfl (vb q2) (fun w g => (F73.calls w (ae.k0 g).ok ((nth t_ i2).Val) ba _ bb).mono ?_) ?_
  ·rintro _ w ⟨r, rfl, rfl, g2⟩
   exact ⟨rfl, Gr.t0 g g2⟩
  refine Q_rb ab rfl (Q_pu (P_not q2 rfl) (Q_pu (P_pick false (vb (!q2)) (by exact congrArg Value.bool ab) rfl) (Q_mv (vb (!q2)) rfl ?_)))
  rcases bool_or (!q2) with ac | ac
  ·have H := ite_t H ac
   refine Q_pb ac rfl (Q_pb ac rfl (Q_pb ac rfl (Q_pn rfl (Q_pn rfl (Q_pn rfl (Q_pn rfl (Q_pn rfl (Q_pn rfl ?_))))))))
   refine Q_pn rfl (Q_pn rfl (Q_pn rfl (Q_pn rfl (Q_pn rfl (Q_pn rfl (Q_pb ac rfl (Q_pu (P_pick true (vb true) (by exact congrArg Value.bool ac) rfl) (Q_nil fun b7 bc => ?_))))))))
   have bd := ae.k0 bc
   refine W_ct (b := true) rfl rfl ?_
   exact W_seq (W_reg (L_as (vb false) rfl (L_nil (W_ret ⟨[vb false], ⟨_, rfl, rfl⟩, false, rfl, H, bd.gr.g0⟩))))
  have H := ite_f H ac
  refine Q_rb ac rfl (Q_mv (vi i2) rfl (Q_rb ac rfl (Q_pu (P_cmp i2 0 (decide (i2 > 0)) rfl rfl rfl) (Q_rb ac rfl (Q_mv (vb (decide (i2 > 0))) rfl ?_)))))
  rcases bool_or (decide (i2 > 0)) with aa | aa
  ·have H := ite_t H aa
   refine Q_rb aa rfl (Q_mv (.slice A1 n2 c3) rfl (Q_rb aa rfl (Q_mv (vi i2) rfl (Q_rb aa rfl ?_))))
   obtain ⟨aq, H⟩ := H
   obtain ⟨aj, b8, be, b9, bf, bg⟩ := ad.get default (by decide) i2 aq
   obtain ⟨rfl, ca, cb⟩ := kTag.op bf
   refine Q_pu (P_ia Tryz.underlying59 se59 A1 aj n2 c3 ad.len i2 rfl be rfl aq) (Q_rb aa rfl (Q_pu (P_fa fa106_0 (aj.add (i2.toNat * 2)) ((aj.add (i2.toNat * 2)).add 0) rfl rfl) (Q_rb aa rfl (Q_pu (P_ld ag9 cQ ((aj.add (i2.toNat * 2)).add 0) (vs ((nth t_ i2).Key)) rfl (bg 0 _ rfl)) (Q_rb aa rfl (Q_mv (.slice A1 n2 c3) rfl (Q_rb aa rfl (Q_mv (vi i2) rfl ?_))))))))
   refine Q_rb aa rfl ?_
   obtain ⟨bh, H⟩ := H
   have bi := bh (len_le am)
   refine Q_pu (P_sub i2 1 rfl rfl bi) (Q_rb aa rfl ?_)
   obtain ⟨ar, H⟩ := H
   obtain ⟨ak, cc, bj, cd, bl, bm⟩ := ad.get default (by decide) (i2 - 1) ar
   obtain ⟨rfl, ce, cf⟩ := kTag.op bl
   refine Q_pu (P_ia Tryz.underlying59 se59 A1 ak n2 c3 ad.len (i2 - 1) rfl bj rfl ar) (Q_rb aa rfl (Q_pu (P_fa fa106_0 (ak.add ((i2 - 1).toNat * 2)) ((ak.add ((i2 - 1).toNat * 2)).add 0) rfl rfl) (Q_rb aa rfl (Q_pu (P_ld ag9 cQ ((ak.add ((i2 - 1).toNat * 2)).add 0) (vs ((nth t_ (i2 - 1)).Key)) rfl (bm 0 _ rfl)) (Q_rb aa rfl (Q_pu (P_scmp ((nth t_ i2).Key) ((nth t_ (i2 - 1)).Key) (Op.bytesLess ((nth t_ i2).Key) ((nth t_ (i2 - 1)).Key) || ((nth t_ i2).Key) == ((nth t_ (i2 - 1)).Key)) rfl rfl rfl) (Q_rb ac rfl (Q_pu (P_pick true (vb (Op.bytesLess ((nth t_ i2).Key) ((nth t_ (i2 - 1)).Key) || ((nth t_ i2).Key) == ((nth t_ (i2 - 1)).Key))) (by exact congrArg Value.bool aa) rfl) ?_))))))))
   refine Q_pu (P_pick false (vb (Op.bytesLess ((nth t_ i2).Key) ((nth t_ (i2 - 1)).Key) || ((nth t_ i2).Key) == ((nth t_ (i2 - 1)).Key))) (by exact congrArg Value.bool ac) rfl) (Q_nil fun cg au => ?_)
   have av := ae.k0 au
   refine W_cond (Op.bytesLess ((nth t_ i2).Key) ((nth t_ (i2 - 1)).Key) || ((nth t_ i2).Key) == ((nth t_ (i2 - 1)).Key)) rfl (fun an => ?_) (fun an => ?_)
   ·have H := ite_t H an
    exact W_seq (W_reg (L_as (vb false) rfl (L_nil (W_ret ⟨[vb false], ⟨_, rfl, rfl⟩, false, rfl, H, av.gr.g0⟩))))
   have H := ite_f H an
   refine W_skip (W_reg (L_mv (vi i2) rfl ?_))
   obtain ⟨bn, H⟩ := H
   have bo : I64 (i2 + 1) := i64_succ (of_decide_eq_true af) am bn
   refine L_pu (P_add i2 1 rfl rfl bo) (L_as (vi (i2 + 1)) rfl (L_nil ?_))
   obtain ⟨bp, bq⟩ := H
   have br := ae.stn au
   exact ⟨i2 + 1, bq, bp, (hasI rfl), av, (ad.st br)⟩
  have H := ite_f H aa
  refine Q_pb aa rfl (Q_pb aa rfl (Q_pb aa rfl (Q_pb aa rfl (Q_pb aa rfl (Q_pb aa rfl (Q_pb aa rfl (Q_pb aa rfl (Q_pb aa rfl ?_))))))))
  refine Q_pb aa rfl (Q_pb aa rfl (Q_pb aa rfl (Q_rb ac rfl (Q_pu (P_pick false (vb false) (by exact congrArg Value.bool aa) rfl) (Q_pu (P_pick false (vb false) (by exact congrArg Value.bool ac) rfl) (Q_nil fun ch aw => ?_))))))
  have bs := ae.k0 aw
  refine W_cf (b := false) rfl rfl ?_
  refine W_skip (W_reg (L_mv (vi i2) rfl ?_))
  obtain ⟨bt, H⟩ := H
  have bu : I64 (i2 + 1) := i64_succ (of_decide_eq_true af) am bt
  refine L_pu (P_add i2 1 rfl rfl bu) (L_as (vi (i2 + 1)) rfl (L_nil ?_))
  obtain ⟨bv, bw⟩ := H
  have bx := ae.stn aw
  exact ⟨i2 + 1, bw, bv, (hasI rfl), bs, (ad.st bx)⟩
 have H := ite_f H af
 refine W_exit (xin_hit ?_)
 exact W_seq (W_reg (L_mv (.slice A1 n2 c3) rfl (L_pu (P_len Tryz.underlying59 A1 n2 c3 ad.len rfl) (L_pu (P_cmp (t_.length : Int) 4 (decide ((t_.length : Int) ≤ 4)) rfl rfl rfl) (L_as (vb (decide ((t_.length : Int) ≤ 4))) rfl (L_nil (W_ret ⟨[vb (decide ((t_.length : Int) ≤ 4))], ⟨_, rfl, rfl⟩, decide ((t_.length : Int) ≤ 4), rfl, H, ae.gr.g0⟩)))))))
end
section
open Go.RowKit
def F75.E (f : Feat) (Q : Bool → Prop) : Prop :=
 F73.E f.Id (fun r => (if r then F54.E f.Shape (fun r2 => (if r2 then F74.E f.Tags (fun r3 => Q r3) else Q false)) else Q false))
theorem F75.calls {O : Ob} (w0 : World) (hO : Ok w0 O) (f : Feat) (A2 : Option Addr) (n3 c4 : Nat) (A7 : Option Addr) (n8 c9 : Nat) (hs1 : Lim f.Id) (hp5 : Sl kPt w0 (Fr O) (.slice A2 n3 c4) f.Shape.Pts) (ak : Sl kTag w0 (Fr O) (.slice A7 n8 c9) f.Tags) (Q : Bool → Prop) (h : F75.E f Q) :
  Ret Tryz.prog 57 [.agg #[vs f.Id, vi f.Shape.Kind, .slice A2 n3 c4, .slice A7 n8 c9]] w0 (fun v w' => ∃ (r0 : Bool), v = vb r0 ∧ Q r0 ∧ Gr w0 w' none) := by
 unfold F75.E at h
 have H := h
 clear h
 have hc0 := Ct.init hO
 refine Ret_enter Tryz.func57 rfl 16 rfl [.tmp 2] rfl rfl ?_
 refine W_seq (W_reg (L_box [vs f.Id, vi f.Shape.Kind, .slice A2 n3 c4, .slice A7 n8 c9] rfl fun al ac am hu16 an ao => ?_))
 have ag := Fb.mk hc0.ok am ao
 have af := hc0.k0 an
 refine L_as (vb false) rfl (L_nil (W_seq (W_reg (L_pu (P_fa fa61_0 ⟨ac, 0, none⟩ ⟨ac, 0, none⟩ rfl rfl) (L_pu (P_ld ag9 cL ⟨ac, 0, none⟩ (vs f.Id) rfl (ag.cell rfl)) ?_)))))
 refine L_call go90 [vs f.Id] rfl ((F73.calls al af.ok f.Id hs1 _ H).mono ?_)
 rintro _ ap ⟨r, rfl, H, ah⟩
 have ad := af.k0 ah
 refine L_mv (vb r) rfl ?_
 rcases bool_or r with aa | aa
 ·have H := ite_t H aa
  refine L_rb aa rfl (L_pu (P_fa fa61_1 ⟨ac, 0, none⟩ ⟨ac, 1, none⟩ rfl rfl) (L_rb aa rfl ?_))
  have aq := af.stn ah
  have ai := (ag.st aq)
  refine L_pu (P_lda ag58 sz58 cL ⟨ac, 1, none⟩ [vi f.Shape.Kind, .slice A2 n3 c4] rfl rfl (ai.cells (off := 1) rfl)) (L_rb aa rfl ?_)
  refine L_call go91 [.agg #[vi f.Shape.Kind, .slice A2 n3 c4]] rfl ((F54.calls ap ad.ok f.Shape A2 n3 c4 (hp5.st ad.st) _ H).mono ?_)
  rintro _ ar ⟨r2, rfl, H, aj⟩
  have ae := ad.k0 aj
  refine L_pu (P_pick true (vb r2) (by exact congrArg Value.bool aa) rfl) (L_mv (vb r2) rfl ?_)
  rcases bool_or r2 with ab | ab
  ·have H := ite_t H ab
   refine L_rb ab rfl (L_pu (P_fa fa61_2 ⟨ac, 0, none⟩ ⟨ac, 3, none⟩ rfl rfl) (L_rb ab rfl ?_))
   have au := ad.stn aj
   have av := (ai.st au)
   refine L_pu (P_ld ag59 cL ⟨ac, 3, none⟩ (.slice A7 n8 c9) rfl (av.cell rfl)) (L_rb ab rfl ?_)
   refine L_call go92 [.slice A7 n8 c9] rfl ((F74.calls ar ae.ok f.Tags A7 n8 c9 (ak.st ae.st) _ H).mono ?_)
   rintro _ ay ⟨r3, rfl, H, aw⟩
   have ax := ae.k0 aw
   exact L_pu (P_pick true (vb r3) (by exact congrArg Value.bool ab) rfl) (L_as (vb r3) rfl (L_nil (W_ret ⟨[vb r3], ⟨_, rfl, rfl⟩, r3, rfl, H, ax.gr.g0⟩)))
  have H := ite_f H ab
  exact L_pb ab rfl (L_pb ab rfl (L_pb ab rfl (L_pu (P_pick false (vb false) (by exact congrArg Value.bool ab) rfl) (L_as (vb false) rfl (L_nil (W_ret ⟨[vb false], ⟨_, rfl, rfl⟩, false, rfl, H, ae.gr.g0⟩))))))
 have H := ite_f H aa
 refine L_pb aa rfl (L_pb aa rfl (L_pb aa rfl (L_pu (P_pick false (vb false) (by exact congrArg Value.bool aa) rfl) (L_mv (vb false) rfl (L_pass (dj := 11) rfl rfl (.inl rfl) (L_pass (dj := 11) rfl rfl (.inl rfl) (L_pass (dj := 11) rfl rfl (.inl rfl) (L_pu (P_pick false (vb false) (by exact congrArg Value.bool rfl) rfl) ?_))))))))
 exact L_as (vb false) rfl (L_nil (W_ret ⟨[vb false], ⟨_, rfl, rfl⟩, false, rfl, H, ad.gr.g0⟩))
end
section
open Go.RowKit
def F55.E (s : List Feat) (Q : Bool → Prop) : Prop :=
 (∃ (I18 : Int → Prop) (mu19 : Int → Nat), I18 0 ∧ ∀ (i2 : Int), I18 i2 → (if decide (i2 < (s.length : Int)) then ((0 : Int) ≤ i2 ∧ i2 < (s.length : Int)) ∧ (∃ q : Bool, F75.E (nth s i2) (fun x => x = q) ∧ (if !q then Q false else (if decide (i2 > 0) then ((0 : Int) ≤ i2 ∧ i2 < (s.length : Int)) ∧ ((s.length : Int) ≤ 9223372036854775807 → I64 (i2 - 1)) ∧ ((0 : Int) ≤ i2 - 1 ∧ i2 - 1 < (s.length : Int)) ∧ (if Op.bytesLess ((nth s i2).Id) ((nth s (i2 - 1)).Id) || ((nth s i2).Id) == ((nth s (i2 - 1)).Id) then Q false else (-9223372036854775808 ≤ i2) ∧ I18 (i2 + 1) ∧ mu19 (i2 + 1) < mu19 i2) else (-9223372036854775808 ≤ i2) ∧ I18 (i2 + 1) ∧ mu19 (i2 + 1) < mu19 i2))) else Q (decide ((s.length : Int) ≤ 8))))
theorem F55.calls {O : Ob} (w0 : World) (hO : Ok w0 O) (s : List Feat) (A1 : Option Addr) (n2 c3 : Nat) (hp4 : Sl kFeat w0 (Fr O) (.slice A1 n2 c3) s) (Q : Bool → Prop) (h : F55.E s Q) :
  Ret Tryz.prog 23 [.slice A1 n2 c3] w0 (fun v w' => ∃ (r0 : Bool), v = vb r0 ∧ Q r0 ∧ Gr w0 w' none) := by
 unfold F55.E at h
 have H := h
 clear h
 have hc0 := Ct.init hO
 refine Ret_enter Tryz.func23 rfl 37 rfl [.tmp 2] rfl rfl ?_
 refine W_seq (W_reg (L_as (vb false) rfl (L_nil (W_seq (W_seq (W_reg (L_as (vi 0) rfl (L_nil ?_))))))))
 refine W_block ?_
 obtain ⟨a0, a1, ai, H⟩ := H
 refine W_loop (α := Int) (fun (sv__ : Int) t af => match sv__ with | i2 => a0 i2 ∧ Has t [(0, .slice A1 n2 c3), (3, vi i2)] ∧ Ct [] w0 af [] O ∧ Sl kFeat af (Fr ([] ++ O)) (.slice A1 n2 c3) s) (fun (sv__ : Int) => match sv__ with | i2 => a1 i2) 0 ⟨ai, (hasI rfl), hc0, hp4⟩ ?_
 rintro i2 _ af ⟨ai, a2, ad, ac⟩
 obtain ⟨bw, rfl⟩ := Has.ins a2
 have H := H i2 ai
 refine W_seq (W_seq (W_reg (L_mv (vi i2) rfl (L_mv (.slice A1 n2 c3) rfl ?_))))
 have aj := ac.le
 refine L_pu (P_len Tryz.underlying26 A1 n2 c3 ac.len rfl) (L_pu (P_cmp i2 (s.length : Int) (decide (i2 < (s.length : Int))) rfl rfl rfl) (L_nil ?_))
 refine W_cond (decide (i2 < (s.length : Int))) rfl (fun ae => ?_) (fun ae => ?_)
 ·have H := ite_t H ae
  refine W_skip (W_seq (W_block (W_seq (W_draw (fun x => Gr af x none) (by kernel_rfl) (by kernel_rfl) (Gr.drew _) ?_))))
  refine Q_mv (.slice A1 n2 c3) rfl (Q_mv (vi i2) rfl ?_)
  obtain ⟨ar, H⟩ := H
  obtain ⟨au, bx, a3, bz, a4, a5⟩ := ac.get default (by decide) i2 ar
  obtain ⟨ak, al, am, an, ao, ap, rfl, a6, a7, a8⟩ := kFeat.op a4
  refine Q_pu (P_ia Tryz.underlying26 se26 A1 au n2 c3 ac.len i2 rfl a3 rfl ar) (Q_pu (P_lda ag61 sz61 cQ (au.add (i2.toNat * 4)) [vs ((nth s i2).Id), vi ((nth s i2).Shape.Kind), .slice ak al am, .slice an ao ap] rfl rfl a5) ?_)
  obtain ⟨q, a9, H⟩ := H
  refine Q_call go57 [.agg #[vs ((nth s i2).Id), vi ((nth s i2).Shape.Kind), .slice ak al am, .slice an ao ap]] rfl (vb q) (fun w g => (F75.calls w (ad.k0 g).ok (nth s i2) ak al am an ao ap a6 (a7.st (.new _ g)) (a8.st (.new _ g)) _ a9).mono ?_) ?_
  ·rintro _ w ⟨r, rfl, rfl, g2⟩
   exact ⟨rfl, Gr.t0 g g2⟩
  refine Q_pu (P_not q rfl) (Q_mv (vb (!q)) rfl ?_)
  rcases bool_or (!q) with ab | ab
  ·have H := ite_t H ab
   refine Q_pb ab rfl (Q_pb ab rfl (Q_pb ab rfl (Q_pn rfl (Q_pn rfl (Q_pn rfl (Q_pn rfl (Q_pn rfl (Q_pn rfl ?_))))))))
   refine Q_pn rfl (Q_pn rfl (Q_pn rfl (Q_pn rfl (Q_pn rfl (Q_pn rfl (Q_pb ab rfl (Q_pu (P_pick true (vb true) (by exact congrArg Value.bool ab) rfl) (Q_nil fun b0 ba => ?_))))))))
   have bb := ad.k0 ba
   refine W_ct (b := true) rfl rfl ?_
   exact W_seq (W_reg (L_as (vb false) rfl (L_nil (W_ret ⟨[vb false], ⟨_, rfl, rfl⟩, false, rfl, H, bb.gr.g0⟩))))
  have H := ite_f H ab
  refine Q_rb ab rfl (Q_mv (vi i2) rfl (Q_rb ab rfl (Q_pu (P_cmp i2 0 (decide (i2 > 0)) rfl rfl rfl) (Q_rb ab rfl (Q_mv (vb (decide (i2 > 0))) rfl ?_)))))
  rcases bool_or (decide (i2 > 0)) with aa | aa
  ·have H := ite_t H aa
   refine Q_rb aa rfl (Q_mv (.slice A1 n2 c3) rfl (Q_rb aa rfl (Q_mv (vi i2) rfl (Q_rb aa rfl ?_))))
   obtain ⟨av, H⟩ := H
   obtain ⟨ag, b1, bc, b2, bd, be⟩ := ac.get default (by decide) i2 av
   obtain ⟨b3, b4, b5, b6, b7, b8, rfl, b9, ca, cb⟩ := kFeat.op bd
   refine Q_pu (P_ia Tryz.underlying26 se26 A1 ag n2 c3 ac.len i2 rfl bc rfl av) (Q_rb aa rfl (Q_pu (P_fa fa61_0 (ag.add (i2.toNat * 4)) ((ag.add (i2.toNat * 4)).add 0) rfl rfl) (Q_rb aa rfl (Q_pu (P_ld ag9 cQ ((ag.add (i2.toNat * 4)).add 0) (vs ((nth s i2).Id)) rfl (be 0 _ rfl)) (Q_rb aa rfl (Q_mv (.slice A1 n2 c3) rfl (Q_rb aa rfl (Q_mv (vi i2) rfl ?_))))))))
   refine Q_rb aa rfl ?_
   obtain ⟨bf, H⟩ := H
   have bg := bf (len_le aj)
   refine Q_pu (P_sub i2 1 rfl rfl bg) (Q_rb aa rfl ?_)
   obtain ⟨aw, H⟩ := H
   obtain ⟨ah, cc, bh, cd, bi, bj⟩ := ac.get default (by decide) (i2 - 1) aw
   obtain ⟨ce, cf, cg, ch, ci, cj, rfl, ck, cl, cm⟩ := kFeat.op bi
   refine Q_pu (P_ia Tryz.underlying26 se26 A1 ah n2 c3 ac.len (i2 - 1) rfl bh rfl aw) (Q_rb aa rfl (Q_pu (P_fa fa61_0 (ah.add ((i2 - 1).toNat * 4)) ((ah.add ((i2 - 1).toNat * 4)).add 0) rfl rfl) (Q_rb aa rfl (Q_pu (P_ld ag9 cQ ((ah.add ((i2 - 1).toNat * 4)).add 0) (vs ((nth s (i2 - 1)).Id)) rfl (bj 0 _ rfl)) (Q_rb aa rfl (Q_pu (P_scmp ((nth s i2).Id) ((nth s (i2 - 1)).Id) (Op.bytesLess ((nth s i2).Id) ((nth s (i2 - 1)).Id) || ((nth s i2).Id) == ((nth s (i2 - 1)).Id)) rfl rfl rfl) (Q_rb ab rfl (Q_pu (P_pick true (vb (Op.bytesLess ((nth s i2).Id) ((nth s (i2 - 1)).Id) || ((nth s i2).Id) == ((nth s (i2 - 1)).Id))) (by exact congrArg Value.bool aa) rfl) ?_))))))))
   refine Q_pu (P_pick false (vb (Op.bytesLess ((nth s i2).Id) ((nth s (i2 - 1)).Id) || ((nth s i2).Id) == ((nth s (i2 - 1)).Id))) (by exact congrArg Value.bool ab) rfl) (Q_nil fun cn ax => ?_)
   have ay := ad.k0 ax
   refine W_cond (Op.bytesLess ((nth s i2).Id) ((nth s (i2 - 1)).Id) || ((nth s i2).Id) == ((nth s (i2 - 1)).Id)) rfl (fun aq => ?_) (fun aq => ?_)
   ·have H := ite_t H aq
    exact W_seq (W_reg (L_as (vb false) rfl (L_nil (W_ret ⟨[vb false], ⟨_, rfl, rfl⟩, false, rfl, H, ay.gr.g0⟩))))
   have H := ite_f H aq
   refine W_skip (W_reg (L_mv (vi i2) rfl ?_))
   obtain ⟨bl, H⟩ := H
   have bm : I64 (i2 + 1) := i64_succ (of_decide_eq_true ae) aj bl
   refine L_pu (P_add i2 1 rfl rfl bm) (L_as (vi (i2 + 1)) rfl (L_nil ?_))
   obtain ⟨bn, bo⟩ := H
   have bp := ad.stn ax
   exact ⟨i2 + 1, bo, bn, (hasI rfl), ay, (ac.st bp)⟩
  have H := ite_f H aa
  refine Q_pb aa rfl (Q_pb aa rfl (Q_pb aa rfl (Q_pb aa rfl (Q_pb aa rfl (Q_pb aa rfl (Q_pb aa rfl (Q_pb aa rfl (Q_pb aa rfl ?_))))))))
  refine Q_pb aa rfl (Q_pb aa rfl (Q_pb aa rfl (Q_rb ab rfl (Q_pu (P_pick false (vb false) (by exact congrArg Value.bool aa) rfl) (Q_pu (P_pick false (vb false) (by exact congrArg Value.bool ab) rfl) (Q_nil fun co az => ?_))))))
  have bq := ad.k0 az
  refine W_cf (b := false) rfl rfl ?_
  refine W_skip (W_reg (L_mv (vi i2) rfl ?_))
  obtain ⟨br, H⟩ := H
  have bs : I64 (i2 + 1) := i64_succ (of_decide_eq_true ae) aj br
  refine L_pu (P_add i2 1 rfl rfl bs) (L_as (vi (i2 + 1)) rfl (L_nil ?_))
  obtain ⟨bt, bu⟩ := H
  have bv := ad.stn az
  exact ⟨i2 + 1, bu, bt, (hasI rfl), bq, (ac.st bv)⟩
 have H := ite_f H ae
 refine W_exit (xin_hit ?_)
 exact W_seq (W_reg (L_mv (.slice A1 n2 c3) rfl (L_pu (P_len Tryz.underlying26 A1 n2 c3 ac.len rfl) (L_pu (P_cmp (s.length : Int) 8 (decide ((s.length : Int) ≤ 8)) rfl rfl rfl) (L_as (vb (decide ((s.length : Int) ≤ 8))) rfl (L_nil (W_ret ⟨[vb (decide ((s.length : Int) ≤ 8))], ⟨_, rfl, rfl⟩, decide ((s.length : Int) ≤ 8), rfl, H, ad.gr.g0⟩)))))))
end
section
open Go.RowKit
def F107.E (s : List Feat) (f : Feat) (Q : List Feat → Prop) : Prop :=
 (∃ (I74 : (List Feat) → Bool → Int → Prop) (mu75 : (List Feat) → Bool → Int → Nat), I74 ([] : List Feat) false 0 ∧ ∀ (xs2 : List Feat) (done2 : Bool) (i2 : Int), I74 xs2 done2 i2 → (if decide (i2 < (s.length : Int)) then (if !done2 then ((0 : Int) ≤ i2 ∧ i2 < (s.length : Int)) ∧ (if !(Op.bytesLess ((nth s i2).Id) f.Id) then (xs2.length + ([f] : List Feat).length ≤ 268435456) ∧ ((0 : Int) ≤ i2 ∧ i2 < (s.length : Int)) ∧ (if ((nth s i2).Id) != f.Id then ((0 : Int) ≤ i2 ∧ i2 < (s.length : Int)) ∧ ((xs2 ++ ([f] : List Feat)).length + ([(nth s i2)] : List Feat).length ≤ 268435456) ∧ (-9223372036854775808 ≤ i2) ∧ I74 ((xs2 ++ ([f] : List Feat)) ++ ([(nth s i2)] : List Feat)) true (i2 + 1) ∧ mu75 ((xs2 ++ ([f] : List Feat)) ++ ([(nth s i2)] : List Feat)) true (i2 + 1) < mu75 xs2 done2 i2 else (-9223372036854775808 ≤ i2) ∧ I74 (xs2 ++ ([f] : List Feat)) true (i2 + 1) ∧ mu75 (xs2 ++ ([f] : List Feat)) true (i2 + 1) < mu75 xs2 done2 i2) else ((0 : Int) ≤ i2 ∧ i2 < (s.length : Int)) ∧ (if ((nth s i2).Id) != f.Id then ((0 : Int) ≤ i2 ∧ i2 < (s.length : Int)) ∧ (xs2.length + ([(nth s i2)] : List Feat).length ≤ 268435456) ∧ (-9223372036854775808 ≤ i2) ∧ I74 (xs2 ++ ([(nth s i2)] : List Feat)) done2 (i2 + 1) ∧ mu75 (xs2 ++ ([(nth s i2)] : List Feat)) done2 (i2 + 1) < mu75 xs2 done2 i2 else (-9223372036854775808 ≤ i2) ∧ I74 xs2 done2 (i2 + 1) ∧ mu75 xs2 done2 (i2 + 1) < mu75 xs2 done2 i2)) else ((0 : Int) ≤ i2 ∧ i2 < (s.length : Int)) ∧ (if ((nth s i2).Id) != f.Id then ((0 : Int) ≤ i2 ∧ i2 < (s.length : Int)) ∧ (xs2.length + ([(nth s i2)] : List Feat).length ≤ 268435456) ∧ (-9223372036854775808 ≤ i2) ∧ I74 (xs2 ++ ([(nth s i2)] : List Feat)) done2 (i2 + 1) ∧ mu75 (xs2 ++ ([(nth s i2)] : List Feat)) done2 (i2 + 1) < mu75 xs2 done2 i2 else (-9223372036854775808 ≤ i2) ∧ I74 xs2 done2 (i2 + 1) ∧ mu75 xs2 done2 (i2 + 1) < mu75 xs2 done2 i2)) else (if !done2 then (xs2.length + ([f] : List Feat).length ≤ 268435456) ∧ Q (xs2 ++ ([f] : List Feat)) else Q xs2)))
theorem F107.calls {O : Ob} (w0 : World) (hO : Ok w0 O) (s : List Feat) (A1 : Option Addr) (n2 c3 : Nat) (hp4 : Sl kFeat w0 (Fr O) (.slice A1 n2 c3) s) (f : Feat) (A7 : Option Addr) (n8 c9 : Nat) (ag : Option Addr) (ah ai : Nat) (hs6 : Lim f.Id) (d0 : Sl kPt w0 (Fr O) (.slice A7 n8 c9) f.Shape.Pts) (d1 : Sl kTag w0 (Fr O) (.slice ag ah ai) f.Tags) (Q : List Feat → Prop) (h : F107.E s f Q) :
  Ret Tryz.prog 26 [.slice A1 n2 c3, .agg #[vs f.Id, vi f.Shape.Kind, .slice A7 n8 c9, .slice ag ah ai]] w0 (fun v w' => ∃ (r0 : List Feat) (A0 : Option Addr) (n0 c0 : Nat), v = .slice A0 n0 c0 ∧ Q r0 ∧ Gr w0 w' none ∧ Ok w' ([bk A0] ++ O) ∧ (∀ b, some b ∈ [bk A0] → w0.heap.size ≤ b) ∧ Ow kFeat 61 w' ([bk A0] ++ O) (.slice A0 n0 c0) r0) := by
 unfold F107.E at h
 have H := h
 clear h
 have hc0 := Ct.init hO
 refine Ret_enter Tryz.func26 rfl 53 rfl [.tmp 4] rfl rfl ?_
 refine W_seq (W_reg (L_box [vs f.Id, vi f.Shape.Kind, .slice A7 n8 c9, .slice ag ah ai] rfl fun h5 ae d2 hu21 d3 d4 => ?_))
 have d5 := Fb.mk hc0.ok d2 d4
 have c4 := hc0.k0 d3
 refine L_as (.slice none 0 0) rfl (L_nil (W_seq (W_reg (L_lit (kd := kFeat) ei26 c4 ([] : List Feat) (cells := []) rfl (fun _ => by kernel_rfl) fun h6 c5 c6 c7 d6 hr31 a9 d7 => ?_))))
 refine L_as (.slice c5 c6 c7) rfl (L_nil (W_seq (W_reg (L_as (vb false) rfl (L_nil (W_seq (W_seq (W_reg ?_))))))))
 refine L_as (vi 0) rfl (L_nil (W_block ?_))
 obtain ⟨d8, d9, b0, H⟩ := H
 have ea := c4.stown _ d6 hr31
 have eb := (d5.st ea)
 refine W_loop (α := (List Feat) × (Option Addr) × Nat × Nat × Bool × Int) (fun (sv__ : (List Feat) × (Option Addr) × Nat × Nat × Bool × Int) t an => match sv__ with | (xs2, aa, ac, ad, done2, i2) => d8 xs2 done2 i2 ∧ Has t [(0, .slice A1 n2 c3), (3, .pointer (some ⟨ae, 0, none⟩)), (5, .slice aa ac ad), (6, vb done2), (7, vi i2)] ∧ Ct [] w0 an [bk aa] O ∧ Sl kFeat an (Fr ([bk aa] ++ O)) (.slice A1 n2 c3) s ∧ Sl kPt an (Fr ([bk aa] ++ O)) (.slice A7 n8 c9) f.Shape.Pts ∧ Sl kTag an (Fr ([bk aa] ++ O)) (.slice ag ah ai) f.Tags ∧ Ow kFeat 61 an ([bk aa] ++ O) (.slice aa ac ad) xs2 ∧ Fb an ([bk aa] ++ O) ae [vs f.Id, vi f.Shape.Kind, .slice A7 n8 c9, .slice ag ah ai]) (fun (sv__ : (List Feat) × (Option Addr) × Nat × Nat × Bool × Int) => match sv__ with | (xs2, _, _, _, done2, i2) => d9 xs2 done2 i2) (([] : List Feat), c5, c6, c7, false, 0) ⟨b0, (hasI rfl), a9, (hp4.st a9.st), (d0.st a9.st), (d1.st a9.st), d7, eb⟩ ?_
 rintro ⟨xs2, aa, ac, ad, done2, i2⟩ _ an ⟨b0, ec, aj, af, ao, ap, ar, a0⟩
 obtain ⟨h7, rfl⟩ := Has.ins ec
 have H := H xs2 done2 i2 b0
 refine W_seq (W_seq (W_reg (L_mv (vi i2) rfl (L_mv (.slice A1 n2 c3) rfl ?_))))
 have au := af.le
 refine L_pu (P_len Tryz.underlying26 A1 n2 c3 af.len rfl) (L_pu (P_cmp i2 (s.length : Int) (decide (i2 < (s.length : Int))) rfl rfl rfl) (L_nil ?_))
 refine W_cond (decide (i2 < (s.length : Int))) rfl (fun ak => ?_) (fun ak => ?_)
 ·have H := ite_t H ak
  refine W_skip (W_seq (W_block (W_seq (W_seq (W_draw (fun x => Gr an x none) (by kernel_rfl) (by kernel_rfl) (Gr.drew _) ?_)))))
  refine Q_mv (vb done2) rfl (Q_pu (P_not done2 rfl) (Q_mv (vb (!done2)) rfl ?_))
  rcases bool_or (!done2) with ab | ab
  ·have H := ite_t H ab
   refine Q_rb ab rfl (Q_mv (.slice A1 n2 c3) rfl (Q_rb ab rfl (Q_mv (vi i2) rfl (Q_rb ab rfl ?_))))
   obtain ⟨c8, H⟩ := H
   obtain ⟨ba, h8, ed, h9, ee, ef⟩ := af.get default (by decide) i2 c8
   obtain ⟨ia, ib, ic, id, ie, ig, rfl, ih, ii, ij⟩ := kFeat.op ee
   refine Q_pu (P_ia Tryz.underlying26 se26 A1 ba n2 c3 af.len i2 rfl ed rfl c8) (Q_rb ab rfl (Q_pu (P_fa fa61_0 (ba.add (i2.toNat * 4)) ((ba.add (i2.toNat * 4)).add 0) rfl rfl) (Q_rb ab rfl (Q_pu (P_ld ag9 cQ ((ba.add (i2.toNat * 4)).add 0) (vs ((nth s i2).Id)) rfl (ef 0 _ rfl)) (Q_rb ab rfl (Q_pu (P_fa fa61_0 ⟨ae, 0, none⟩ ⟨ae, 0, none⟩ rfl rfl) (Q_rb ab rfl (Q_pu (P_ld ag9 cQ ⟨ae, 0, none⟩ (vs f.Id) rfl (a0.cell rfl)) ?_))))))))
   refine Q_rb ab rfl (Q_pu (P_scmp ((nth s i2).Id) f.Id (!(Op.bytesLess ((nth s i2).Id) f.Id)) rfl rfl rfl) (Q_pu (P_pick true (vb (!(Op.bytesLess ((nth s i2).Id) f.Id))) (by exact congrArg Value.bool ab) rfl) (Q_nil fun eg av => ?_)))
   have a1 := aj.k0 av
   refine W_cond (!(Op.bytesLess ((nth s i2).Id) f.Id)) rfl (fun b1 => ?_) (fun b1 => ?_)
   ·have H := ite_t H b1
    refine W_seq (W_reg (L_mv (.slice aa ac ad) rfl ?_))
    have aq := aj.stn av
    have da := (a0.st aq)
    refine L_pu (P_lda ag61 sz61 cL ⟨ae, 0, none⟩ [vs f.Id, vi f.Shape.Kind, .slice A7 n8 c9, .slice ag ah ai] rfl rfl (da.cells (off := 0) rfl)) (L_lit (kd := kFeat) ei26 a1 ([f] : List Feat) (cells := [vs f.Id, vi f.Shape.Kind, .slice A7 n8 c9, .slice ag ah ai]) ⟨[vs f.Id, vi f.Shape.Kind, .slice A7 n8 c9, .slice ag ah ai], _, rfl, (kFeat.mk _ _ f hs6 (ao.st aq) (ap.st aq)), rfl⟩ (fun _ => by kernel_rfl) fun ik eh ei ej db hr115 ek el => ?_)
    obtain ⟨em, H⟩ := H
    have en := ((ar.sn av).so _ db hr115)
    refine L_app ei26 ek (.slice aa ac ad) xs2 ([f] : List Feat) rfl en (.slice eh ei ej) rfl el.sx 1 rfl em fun eo bb bc bd il aw b2 dc => ?_
    refine L_as (.slice bb bc bd) rfl (L_nil (W_reg (L_as (vb true) rfl (L_nil (W_seq (W_draw (fun x => Gr eo x none) (by kernel_rfl) (by kernel_rfl) (Gr.drew _) ?_))))))
    refine Q_mv (.slice A1 n2 c3) rfl (Q_mv (vi i2) rfl ?_)
    obtain ⟨dd, H⟩ := H
    have ax := a1.stown _ db hr115
    have ay := (((af.st aq).st ax).st aw)
    obtain ⟨be, im, ep, io, eq, er⟩ := ay.get default (by decide) i2 dd
    obtain ⟨ip, iq, ir, it, iu, iv, rfl, iw, ix, iy⟩ := kFeat.op eq
    refine Q_pu (P_ia Tryz.underlying26 se26 A1 be n2 c3 ay.len i2 rfl ep rfl dd) (Q_pu (P_fa fa61_0 (be.add (i2.toNat * 4)) ((be.add (i2.toNat * 4)).add 0) rfl rfl) (Q_pu (P_ld ag9 cQ ((be.add (i2.toNat * 4)).add 0) (vs ((nth s i2).Id)) rfl (er 0 _ rfl)) (Q_pu (P_fa fa61_0 ⟨ae, 0, none⟩ ⟨ae, 0, none⟩ rfl rfl) ?_)))
    have b3 := ((da.st ax).st aw)
    refine Q_pu (P_ld ag9 cQ ⟨ae, 0, none⟩ (vs f.Id) rfl (b3.cell rfl)) (Q_pu (P_scmp ((nth s i2).Id) f.Id (((nth s i2).Id) != f.Id) rfl rfl rfl) (Q_nil fun iz a2 => ?_))
    have a3 := b2.k0 a2
    refine W_cond (((nth s i2).Id) != f.Id) rfl (fun b4 => ?_) (fun b4 => ?_)
    ·have H := ite_t H b4
     refine W_reg (L_mv (.slice bb bc bd) rfl (L_mv (.slice A1 n2 c3) rfl (L_mv (vi i2) rfl ?_)))
     obtain ⟨de, H⟩ := H
     have az := b2.stn a2
     obtain ⟨df, i0, es, i1, et, eu⟩ := (ay.st az).get default (by decide) i2 de
     obtain ⟨b5, b6, b7, b8, b9, ca, rfl, ev, ew, ex⟩ := kFeat.op et
     refine L_pu (P_ia Tryz.underlying26 se26 A1 df n2 c3 (ay.st az).len i2 rfl es rfl de) (L_pu (P_lda ag61 sz61 cL (df.add (i2.toNat * 4)) [vs ((nth s i2).Id), vi ((nth s i2).Shape.Kind), .slice b5 b6 b7, .slice b8 b9 ca] rfl rfl eu) (L_lit (kd := kFeat) ei26 a3 ([(nth s i2)] : List Feat) (cells := [vs ((nth s i2).Id), vi ((nth s i2).Shape.Kind), .slice b5 b6 b7, .slice b8 b9 ca]) ⟨[vs ((nth s i2).Id), vi ((nth s i2).Shape.Kind), .slice b5 b6 b7, .slice b8 b9 ca], _, rfl, (kFeat.mk _ _ (nth s i2) ev ew ex), rfl⟩ (fun _ => by kernel_rfl) fun i3 ey ez e0 dg hr180 e1 e2 => ?_))
     obtain ⟨e3, H⟩ := H
     have e4 := ((dc.sn a2).so _ dg hr180)
     refine L_app ei26 e1 (.slice bb bc bd) (xs2 ++ ([f] : List Feat)) ([(nth s i2)] : List Feat) rfl e4 (.slice ey ez e0) rfl e2.sx 2 rfl e3 fun i4 dh di dj i5 bf cb e5 => ?_
     refine L_as (.slice dh di dj) rfl (L_nil (W_reg (L_mv (vi i2) rfl ?_)))
     obtain ⟨e6, H⟩ := H
     have e7 : I64 (i2 + 1) := i64_succ (of_decide_eq_true ak) au e6
     refine L_pu (P_add i2 1 rfl rfl e7) (L_as (vi (i2 + 1)) rfl (L_nil ?_))
     have cc := cb.drop 0 rfl
     have e8 := cc.drop 0 rfl
     obtain ⟨e9, fa⟩ := H
     have bg := a3.stown _ dg hr180
     have bh := cb.std 0 rfl
     have bi := cc.std 0 rfl
     have fb := (((((ay.st az).st bg).st bf).st bh).st bi)
     have fc := ((((((((ao.st aq).st ax).st aw).st az).st bg).st bf).st bh).st bi)
     have fd := ((((((((ap.st aq).st ax).st aw).st az).st bg).st bf).st bh).st bi)
     have fe := (cc.sd (cb.sd e5 2 0 rfl rfl rfl) 1 0 rfl rfl rfl)
     have ff := (((((b3.st az).st bg).st bf).st bh).st bi)
     exact ⟨(((xs2 ++ ([f] : List Feat)) ++ ([(nth s i2)] : List Feat)), dh, di, dj, true, i2 + 1), fa, e9, (hasI rfl), e8, fb, fc, fd, fe, ff⟩
    have H := ite_f H b4
    refine W_skip (W_reg (L_mv (vi i2) rfl ?_))
    obtain ⟨fg, H⟩ := H
    have fh : I64 (i2 + 1) := i64_succ (of_decide_eq_true ak) au fg
    refine L_pu (P_add i2 1 rfl rfl fh) (L_as (vi (i2 + 1)) rfl (L_nil ?_))
    have fi := a3.drop 0 rfl
    obtain ⟨fj, fk⟩ := H
    have bj := b2.stn a2
    have bl := a3.std 0 rfl
    have fl := ((ay.st bj).st bl)
    have fm := (((((ao.st aq).st ax).st aw).st bj).st bl)
    have fn := (((((ap.st aq).st ax).st aw).st bj).st bl)
    have fo := (a3.sd (dc.sn a2) 1 0 rfl rfl rfl)
    have fp := ((b3.st bj).st bl)
    exact ⟨((xs2 ++ ([f] : List Feat)), bb, bc, bd, true, i2 + 1), fk, fj, (hasI rfl), fi, fl, fm, fn, fo, fp⟩
   have H := ite_f H b1
   refine W_skip (W_seq (W_draw (fun x => Gr eg x none) (by kernel_rfl) (by kernel_rfl) (Gr.drew _) ?_))
   refine Q_mv (.slice A1 n2 c3) rfl (Q_mv (vi i2) rfl ?_)
   obtain ⟨dk, H⟩ := H
   have al := aj.stn av
   obtain ⟨bm, i6, fq, i7, fr, fs⟩ := (af.st al).get default (by decide) i2 dk
   obtain ⟨i8, i9, ja, jb, jc, jd, rfl, je, jf, jg⟩ := kFeat.op fr
   refine Q_pu (P_ia Tryz.underlying26 se26 A1 bm n2 c3 (af.st al).len i2 rfl fq rfl dk) (Q_pu (P_fa fa61_0 (bm.add (i2.toNat * 4)) ((bm.add (i2.toNat * 4)).add 0) rfl rfl) (Q_pu (P_ld ag9 cQ ((bm.add (i2.toNat * 4)).add 0) (vs ((nth s i2).Id)) rfl (fs 0 _ rfl)) (Q_pu (P_fa fa61_0 ⟨ae, 0, none⟩ ⟨ae, 0, none⟩ rfl rfl) ?_)))
   have cd := (a0.st al)
   refine Q_pu (P_ld ag9 cQ ⟨ae, 0, none⟩ (vs f.Id) rfl (cd.cell rfl)) (Q_pu (P_scmp ((nth s i2).Id) f.Id (((nth s i2).Id) != f.Id) rfl rfl rfl) (Q_nil fun jh a4 => ?_))
   have ce := a1.k0 a4
   refine W_cond (((nth s i2).Id) != f.Id) rfl (fun cf => ?_) (fun cf => ?_)
   ·have H := ite_t H cf
    refine W_reg (L_mv (.slice aa ac ad) rfl (L_mv (.slice A1 n2 c3) rfl (L_mv (vi i2) rfl ?_)))
    obtain ⟨dl, H⟩ := H
    have bn := a1.stn a4
    have cg := ((af.st al).st bn)
    obtain ⟨dm, ji, ft, jj, fu, fv⟩ := cg.get default (by decide) i2 dl
    obtain ⟨ch, ci, cj, ck, cl, cm, rfl, fw, fx, fy⟩ := kFeat.op fu
    refine L_pu (P_ia Tryz.underlying26 se26 A1 dm n2 c3 cg.len i2 rfl ft rfl dl) (L_pu (P_lda ag61 sz61 cL (dm.add (i2.toNat * 4)) [vs ((nth s i2).Id), vi ((nth s i2).Shape.Kind), .slice ch ci cj, .slice ck cl cm] rfl rfl fv) (L_lit (kd := kFeat) ei26 ce ([(nth s i2)] : List Feat) (cells := [vs ((nth s i2).Id), vi ((nth s i2).Shape.Kind), .slice ch ci cj, .slice ck cl cm]) ⟨[vs ((nth s i2).Id), vi ((nth s i2).Shape.Kind), .slice ch ci cj, .slice ck cl cm], _, rfl, (kFeat.mk _ _ (nth s i2) fw fx fy), rfl⟩ (fun _ => by kernel_rfl) fun jk fz f0 f1 dn hr271 f2 f3 => ?_))
    obtain ⟨f4, H⟩ := H
    have f5 := (((ar.sn av).sn a4).so _ dn hr271)
    refine L_app ei26 f2 (.slice aa ac ad) xs2 ([(nth s i2)] : List Feat) rfl f5 (.slice fz f0 f1) rfl f3.sx 1 rfl f4 fun jl dp dq dr jm bo cn f6 => ?_
    refine L_as (.slice dp dq dr) rfl (L_nil (W_reg (L_mv (vi i2) rfl ?_)))
    obtain ⟨f7, H⟩ := H
    have f8 : I64 (i2 + 1) := i64_succ (of_decide_eq_true ak) au f7
    refine L_pu (P_add i2 1 rfl rfl f8) (L_as (vi (i2 + 1)) rfl (L_nil ?_))
    have f9 := cn.drop 0 rfl
    obtain ⟨ga, gb⟩ := H
    have bp := ce.stown _ dn hr271
    have bq := cn.std 0 rfl
    have gc := (((cg.st bp).st bo).st bq)
    have gd := (((((ao.st al).st bn).st bp).st bo).st bq)
    have gf := (((((ap.st al).st bn).st bp).st bo).st bq)
    have gg := (cn.sd f6 1 0 rfl rfl rfl)
    have gh := ((((cd.st bn).st bp).st bo).st bq)
    exact ⟨((xs2 ++ ([(nth s i2)] : List Feat)), dp, dq, dr, done2, i2 + 1), gb, ga, (hasI rfl), f9, gc, gd, gf, gg, gh⟩
   have H := ite_f H cf
   refine W_skip (W_reg (L_mv (vi i2) rfl ?_))
   obtain ⟨gi, H⟩ := H
   have gj : I64 (i2 + 1) := i64_succ (of_decide_eq_true ak) au gi
   refine L_pu (P_add i2 1 rfl rfl gj) (L_as (vi (i2 + 1)) rfl (L_nil ?_))
   obtain ⟨gk, gl⟩ := H
   have br := a1.stn a4
   have gm := ((af.st al).st br)
   have gn := ((ao.st al).st br)
   have gp := ((ap.st al).st br)
   have gq := ((ar.sn av).sn a4)
   have gs := (cd.st br)
   exact ⟨(xs2, aa, ac, ad, done2, i2 + 1), gl, gk, (hasI rfl), ce, gm, gn, gp, gq, gs⟩
  have H := ite_f H ab
  refine Q_pb ab rfl (Q_pb ab rfl (Q_pb ab rfl (Q_pb ab rfl (Q_pb ab rfl (Q_pb ab rfl (Q_pb ab rfl (Q_pb ab rfl (Q_pu (P_pick false (vb false) (by exact congrArg Value.bool ab) rfl) ?_))))))))
  refine Q_nil fun gt bs => ?_
  have co := aj.k0 bs
  refine W_cf (b := false) rfl rfl ?_
  refine W_skip (W_seq (W_draw (fun x => Gr gt x none) (by kernel_rfl) (by kernel_rfl) (Gr.drew _) ?_))
  refine Q_mv (.slice A1 n2 c3) rfl (Q_mv (vi i2) rfl ?_)
  obtain ⟨ds, H⟩ := H
  have am := aj.stn bs
  obtain ⟨bt, jn, gu, jo, gv, gw⟩ := (af.st am).get default (by decide) i2 ds
  obtain ⟨jp, jq, jr, js, jt, ju, rfl, jv, jw, jx⟩ := kFeat.op gv
  refine Q_pu (P_ia Tryz.underlying26 se26 A1 bt n2 c3 (af.st am).len i2 rfl gu rfl ds) (Q_pu (P_fa fa61_0 (bt.add (i2.toNat * 4)) ((bt.add (i2.toNat * 4)).add 0) rfl rfl) (Q_pu (P_ld ag9 cQ ((bt.add (i2.toNat * 4)).add 0) (vs ((nth s i2).Id)) rfl (gw 0 _ rfl)) (Q_pu (P_fa fa61_0 ⟨ae, 0, none⟩ ⟨ae, 0, none⟩ rfl rfl) ?_)))
  have cp := (a0.st am)
  refine Q_pu (P_ld ag9 cQ ⟨ae, 0, none⟩ (vs f.Id) rfl (cp.cell rfl)) (Q_pu (P_scmp ((nth s i2).Id) f.Id (((nth s i2).Id) != f.Id) rfl rfl rfl) (Q_nil fun jy a5 => ?_))
  have cq := co.k0 a5
  refine W_cond (((nth s i2).Id) != f.Id) rfl (fun cr => ?_) (fun cr => ?_)
  ·have H := ite_t H cr
   refine W_reg (L_mv (.slice aa ac ad) rfl (L_mv (.slice A1 n2 c3) rfl (L_mv (vi i2) rfl ?_)))
   obtain ⟨dt, H⟩ := H
   have bu := co.stn a5
   have cs := ((af.st am).st bu)
   obtain ⟨du, jz, gx, j0, gy, gz⟩ := cs.get default (by decide) i2 dt
   obtain ⟨ct, cu, cv, cw, cx, cy, rfl, g1, g2, g3⟩ := kFeat.op gy
   refine L_pu (P_ia Tryz.underlying26 se26 A1 du n2 c3 cs.len i2 rfl gx rfl dt) (L_pu (P_lda ag61 sz61 cL (du.add (i2.toNat * 4)) [vs ((nth s i2).Id), vi ((nth s i2).Shape.Kind), .slice ct cu cv, .slice cw cx cy] rfl rfl gz) (L_lit (kd := kFeat) ei26 cq ([(nth s i2)] : List Feat) (cells := [vs ((nth s i2).Id), vi ((nth s i2).Shape.Kind), .slice ct cu cv, .slice cw cx cy]) ⟨[vs ((nth s i2).Id), vi ((nth s i2).Shape.Kind), .slice ct cu cv, .slice cw cx cy], _, rfl, (kFeat.mk _ _ (nth s i2) g1 g2 g3), rfl⟩ (fun _ => by kernel_rfl) fun j1 g4 g5 g6 dv hr362 g7 g8 => ?_))
   obtain ⟨g9, H⟩ := H
   have ha := (((ar.sn bs).sn a5).so _ dv hr362)
   refine L_app ei26 g7 (.slice aa ac ad) xs2 ([(nth s i2)] : List Feat) rfl ha (.slice g4 g5 g6) rfl g8.sx 1 rfl g9 fun j2 dw dx dy j3 bv cz hb => ?_
   refine L_as (.slice dw dx dy) rfl (L_nil (W_reg (L_mv (vi i2) rfl ?_)))
   obtain ⟨hc, H⟩ := H
   have hd : I64 (i2 + 1) := i64_succ (of_decide_eq_true ak) au hc
   refine L_pu (P_add i2 1 rfl rfl hd) (L_as (vi (i2 + 1)) rfl (L_nil ?_))
   have he := cz.drop 0 rfl
   obtain ⟨hf, hg⟩ := H
   have bw := cq.stown _ dv hr362
   have bx := cz.std 0 rfl
   have hh := (((cs.st bw).st bv).st bx)
   have hi := (((((ao.st am).st bu).st bw).st bv).st bx)
   have hj := (((((ap.st am).st bu).st bw).st bv).st bx)
   have hk := (cz.sd hb 1 0 rfl rfl rfl)
   have hl := ((((cp.st bu).st bw).st bv).st bx)
   exact ⟨((xs2 ++ ([(nth s i2)] : List Feat)), dw, dx, dy, done2, i2 + 1), hg, hf, (hasI rfl), he, hh, hi, hj, hk, hl⟩
  have H := ite_f H cr
  refine W_skip (W_reg (L_mv (vi i2) rfl ?_))
  obtain ⟨hm, H⟩ := H
  have hn : I64 (i2 + 1) := i64_succ (of_decide_eq_true ak) au hm
  refine L_pu (P_add i2 1 rfl rfl hn) (L_as (vi (i2 + 1)) rfl (L_nil ?_))
  obtain ⟨ho, hp⟩ := H
  have bz := co.stn a5
  have hq := ((af.st am).st bz)
  have hr := ((ao.st am).st bz)
  have hs := ((ap.st am).st bz)
  have ht := ((ar.sn bs).sn a5)
  have hu := (cp.st bz)
  exact ⟨(xs2, aa, ac, ad, done2, i2 + 1), hp, ho, (hasI rfl), cq, hq, hr, hs, ht, hu⟩
 have H := ite_f H ak
 refine W_exit (xin_hit ?_)
 refine W_seq (W_seq (W_reg (L_mv (vb done2) rfl (L_pu (P_not done2 rfl) (L_nil ?_)))))
 refine W_cond (!done2) rfl (fun c1 => ?_) (fun c1 => ?_)
 ·have H := ite_t H c1
  refine W_reg (L_mv (.slice aa ac ad) rfl (L_pu (P_lda ag61 sz61 cL ⟨ae, 0, none⟩ [vs f.Id, vi f.Shape.Kind, .slice A7 n8 c9, .slice ag ah ai] rfl rfl (a0.cells (off := 0) rfl)) (L_lit (kd := kFeat) ei26 aj ([f] : List Feat) (cells := [vs f.Id, vi f.Shape.Kind, .slice A7 n8 c9, .slice ag ah ai]) ⟨[vs f.Id, vi f.Shape.Kind, .slice A7 n8 c9, .slice ag ah ai], _, rfl, (kFeat.mk _ _ f hs6 ao ap), rfl⟩ (fun _ => by kernel_rfl) fun j4 hv hw hx hy hr405 hz h0 => ?_)))
  obtain ⟨h1, H⟩ := H
  have h2 := (ar.so _ hy hr405)
  refine L_app ei26 hz (.slice aa ac ad) xs2 ([f] : List Feat) rfl h2 (.slice hv hw hx) rfl h0.sx 1 rfl h1 fun j5 a6 a7 a8 j6 j7 dz h3 => ?_
  refine L_as (.slice a6 a7 a8) rfl (L_nil (W_seq (W_reg (L_mv (.slice a6 a7 a8) rfl (L_as (.slice a6 a7 a8) rfl (L_nil (W_ret ?_)))))))
  have c2 := dz.drop 0 rfl
  have h4 := (dz.sd h3 1 0 rfl rfl rfl)
  exact ⟨[.slice a6 a7 a8], ⟨_, rfl, rfl⟩, (xs2 ++ ([f] : List Feat)), a6, a7, a8, rfl, H, c2.gr.g0, c2.ok, c2.ge, h4⟩
 have H := ite_f H c1
 exact W_skip (W_seq (W_reg (L_mv (.slice aa ac ad) rfl (L_as (.slice aa ac ad) rfl (L_nil (W_ret ⟨[.slice aa ac ad], ⟨_, rfl, rfl⟩, xs2, aa, ac, ad, rfl, H, aj.gr.g0, aj.ok, aj.ge, ar⟩))))))
end
section
open Go.RowKit
def F111.E (a : List Feat) (b : List Feat) (Q : List Str → Prop) : Prop :=
 (∃ (I35 : (List Feat) → Int → Prop) (mu36 : (List Feat) → Int → Nat), I35 a 0 ∧ ∀ (s2 : List Feat) (i2 : Int), I35 s2 i2 → (if decide (i2 < (b.length : Int)) then ((0 : Int) ≤ i2 ∧ i2 < (b.length : Int)) ∧ F107.E s2 (nth b i2) (fun r => (-9223372036854775808 ≤ i2) ∧ I35 r (i2 + 1) ∧ mu36 r (i2 + 1) < mu36 s2 i2) else (∃ (I115 : (List Str) → Int → Prop) (mu116 : (List Str) → Int → Nat), I115 ([] : List Str) 0 ∧ ∀ (xs2 : List Str) (i4 : Int), I115 xs2 i4 → (if decide (i4 < (s2.length : Int)) then ((0 : Int) ≤ i4 ∧ i4 < (s2.length : Int)) ∧ (xs2.length + ([(nth s2 i4).Id] : List Str).length ≤ 268435456) ∧ (-9223372036854775808 ≤ i4) ∧ I115 (xs2 ++ ([(nth s2 i4).Id] : List Str)) (i4 + 1) ∧ mu116 (xs2 ++ ([(nth s2 i4).Id] : List Str)) (i4 + 1) < mu116 xs2 i4 else Q xs2))))
theorem F111.calls {O : Ob} (w0 : World) (hO : Ok w0 O) (a : List Feat) (A1 : Option Addr) (n2 c3 : Nat) (hp4 : Sl kFeat w0 (Fr O) (.slice A1 n2 c3) a) (b : List Feat) (A6 : Option Addr) (n7 c8 : Nat) (hp9 : Sl kFeat w0 (Fr O) (.slice A6 n7 c8) b) (Q : List Str → Prop) (h : F111.E a b Q) :
  Ret Tryz.prog 114 [.slice A1 n2 c3, .slice A6 n7 c8] w0 (fun v w' => ∃ (r0 : List Str) (A0 : Option Addr) (n0 c0 : Nat), v = .slice A0 n0 c0 ∧ Q r0 ∧ Gr w0 w' none ∧ Ok w' ([bk A0] ++ O) ∧ (∀ b, some b ∈ [bk A0] → w0.heap.size ≤ b) ∧ Ow Kd.str 9 w' ([bk A0] ++ O) (.slice A0 n0 c0) r0) := by
 unfold F111.E at h
 have H := h
 clear h
 have hc0 := Ct.init hO
 refine Ret_enter Tryz.func114 rfl 38 rfl [.tmp 4] rfl rfl ?_
 refine W_seq (W_reg (L_as (.slice none 0 0) rfl (L_nil (W_seq (W_reg (L_mv (.slice A1 n2 c3) rfl (L_as (.slice A1 n2 c3) rfl (L_nil ?_))))))))
 refine W_seq (W_seq (W_reg (L_as (vi 0) rfl (L_nil (W_block ?_)))))
 obtain ⟨bi, bj, ap, H⟩ := H
 refine W_loop (α := (List Feat) × (Option Addr) × Nat × Nat × Int) (fun (sv__ : (List Feat) × (Option Addr) × Nat × Nat × Int) t ag => match sv__ with | (s2, aa, ab, ac, i2) => bi s2 i2 ∧ Has t [(1, .slice A6 n7 c8), (5, .slice aa ab ac), (6, vi i2)] ∧ Ct [] w0 ag [] O ∧ Sl kFeat ag (Fr ([] ++ O)) (.slice A6 n7 c8) b ∧ Sl kFeat ag (Fr ([] ++ O)) (.slice aa ab ac) s2) (fun (sv__ : (List Feat) × (Option Addr) × Nat × Nat × Int) => match sv__ with | (s2, _, _, _, i2) => bj s2 i2) (a, A1, n2, c3, 0) ⟨ap, (hasI rfl), hc0, hp9, hp4⟩ ?_
 rintro ⟨s2, aa, ab, ac, i2⟩ _ ag ⟨ap, bl, ah, ai, a1⟩
 obtain ⟨cz, rfl⟩ := Has.ins bl
 have H := H s2 i2 ap
 refine W_seq (W_seq (W_reg (L_mv (vi i2) rfl (L_mv (.slice A6 n7 c8) rfl ?_))))
 have bm := ai.le
 refine L_pu (P_len Tryz.underlying26 A6 n7 c8 ai.len rfl) (L_pu (P_cmp i2 (b.length : Int) (decide (i2 < (b.length : Int))) rfl rfl rfl) (L_nil ?_))
 refine W_cond (decide (i2 < (b.length : Int))) rfl (fun al => ?_) (fun al => ?_)
 ·have H := ite_t H al
  refine W_skip (W_seq (W_block (W_reg (L_mv (.slice aa ab ac) rfl (L_mv (.slice A6 n7 c8) rfl (L_mv (vi i2) rfl ?_))))))
  obtain ⟨a2, H⟩ := H
  obtain ⟨a3, c1, bn, c2, bo, bp⟩ := ai.get default (by decide) i2 a2
  obtain ⟨aq, ar, au, av, aw, ax, rfl, bq, br, bs⟩ := kFeat.op bo
  refine L_pu (P_ia Tryz.underlying26 se26 A6 a3 n7 c8 ai.len i2 rfl bn rfl a2) (L_pu (P_lda ag61 sz61 cL (a3.add (i2.toNat * 4)) [vs ((nth b i2).Id), vi ((nth b i2).Shape.Kind), .slice aq ar au, .slice av aw ax] rfl rfl bp) ?_)
  refine L_call go26 [.slice aa ab ac, .agg #[vs ((nth b i2).Id), vi ((nth b i2).Shape.Kind), .slice aq ar au, .slice av aw ax]] rfl ((F107.calls ag ah.ok s2 aa ab ac a1 (nth b i2) aq ar au av aw ax bq br bs _ H).mono ?_)
  rintro _ c4 ⟨r, a4, a5, a6, rfl, H, a7, bt, a8, bu⟩
  have ay := ah.owns a7 bt a8
  refine L_as (.slice a4 a5 a6) rfl (L_nil (W_reg (L_mv (vi i2) rfl ?_)))
  obtain ⟨bv, H⟩ := H
  have bw : I64 (i2 + 1) := i64_succ (of_decide_eq_true al) bm bv
  refine L_pu (P_add i2 1 rfl rfl bw) (L_as (vi (i2 + 1)) rfl (L_nil ?_))
  have bx := ay.gv bu 0 rfl
  have bz := ay.drop 0 rfl
  obtain ⟨b0, b1⟩ := H
  have b2 := ah.stos a7 a8
  have b3 := ay.std 0 rfl
  have b4 := ((ai.st b2).st b3)
  exact ⟨(r, a4, a5, a6, i2 + 1), b1, b0, (hasI rfl), bz, b4, bx⟩
 have H := ite_f H al
 refine W_exit (xin_hit ?_)
 refine W_seq (W_reg (L_lit (kd := Kd.str) ei81 ah ([] : List Str) (cells := []) rfl (fun _ => by kernel_rfl) fun c5 a9 ba bb b5 hr87 b6 b7 => ?_))
 refine L_as (.slice a9 ba bb) rfl (L_nil (W_seq (W_seq (W_reg (L_as (vi 0) rfl (L_nil (W_block ?_)))))))
 obtain ⟨b8, b9, az, H⟩ := H
 have ca := ah.stown _ b5 hr87
 refine W_loop (α := (List Str) × (Option Addr) × Nat × Nat × Int) (fun (sv__ : (List Str) × (Option Addr) × Nat × Nat × Int) t am => match sv__ with | (xs2, ad, ae, af, i4) => b8 xs2 i4 ∧ Has t [(5, .slice aa ab ac), (7, .slice ad ae af), (8, vi i4)] ∧ Ct [] w0 am [bk ad] O ∧ Sl kFeat am (Fr ([bk ad] ++ O)) (.slice aa ab ac) s2 ∧ Ow Kd.str 9 am ([bk ad] ++ O) (.slice ad ae af) xs2) (fun (sv__ : (List Str) × (Option Addr) × Nat × Nat × Int) => match sv__ with | (xs2, _, _, _, i4) => b9 xs2 i4) (([] : List Str), a9, ba, bb, 0) ⟨az, (hasI rfl), b6, (a1.st ca), b7⟩ ?_
 rintro ⟨xs2, ad, ae, af, i4⟩ _ am ⟨az, cb, aj, ak, bc⟩
 obtain ⟨c6, rfl⟩ := Has.ins cb
 have H := H xs2 i4 az
 refine W_seq (W_seq (W_reg (L_mv (vi i4) rfl (L_mv (.slice aa ab ac) rfl ?_))))
 have cc := ak.le
 refine L_pu (P_len Tryz.underlying26 aa ab ac ak.len rfl) (L_pu (P_cmp i4 (s2.length : Int) (decide (i4 < (s2.length : Int))) rfl rfl rfl) (L_nil ?_))
 refine W_cond (decide (i4 < (s2.length : Int))) rfl (fun an => ?_) (fun an => ?_)
 ·have H := ite_t H an
  refine W_skip (W_seq (W_block (W_reg (L_mv (.slice ad ae af) rfl (L_mv (.slice aa ab ac) rfl (L_mv (vi i4) rfl ?_))))))
  obtain ⟨bd, H⟩ := H
  obtain ⟨ao, c7, cd, c9, ce, cf⟩ := ak.get default (by decide) i4 bd
  obtain ⟨da, db, dc, dd, de, df, rfl, cg, dg, dh⟩ := kFeat.op ce
  refine L_pu (P_ia Tryz.underlying26 se26 aa ao ab ac ak.len i4 rfl cd rfl bd) (L_pu (P_fa fa61_0 (ao.add (i4.toNat * 4)) ((ao.add (i4.toNat * 4)).add 0) rfl rfl) (L_pu (P_ld ag9 cL ((ao.add (i4.toNat * 4)).add 0) (vs ((nth s2 i4).Id)) rfl (cf 0 _ rfl)) (L_lit (kd := Kd.str) ei81 aj ([(nth s2 i4).Id] : List Str) (cells := [vs ((nth s2 i4).Id)]) ⟨[vs ((nth s2 i4).Id)], _, rfl, ⟨rfl, cg⟩, rfl⟩ (fun _ => by kernel_rfl) fun di ch ci cj be hr147 ck cl => ?_)))
  obtain ⟨cm, H⟩ := H
  have cn := (bc.so _ be hr147)
  refine L_app ei81 ck (.slice ad ae af) xs2 ([(nth s2 i4).Id] : List Str) rfl cn (.slice ch ci cj) rfl cl.sx 1 rfl cm fun dj bf bg bh dk co a0 cp => ?_
  refine L_as (.slice bf bg bh) rfl (L_nil (W_reg (L_mv (vi i4) rfl ?_)))
  obtain ⟨cq, H⟩ := H
  have cr : I64 (i4 + 1) := i64_succ (of_decide_eq_true an) cc cq
  refine L_pu (P_add i4 1 rfl rfl cr) (L_as (vi (i4 + 1)) rfl (L_nil ?_))
  have cs := a0.drop 0 rfl
  obtain ⟨ct, cu⟩ := H
  have cv := aj.stown _ be hr147
  have cw := a0.std 0 rfl
  have cx := (((ak.st cv).st co).st cw)
  have cy := (a0.sd cp 1 0 rfl rfl rfl)
  exact ⟨((xs2 ++ ([(nth s2 i4).Id] : List Str)), bf, bg, bh, i4 + 1), cu, ct, (hasI rfl), cs, cx, cy⟩
 have H := ite_f H an
 refine W_exit (xin_hit ?_)
 exact W_seq (W_reg (L_mv (.slice ad ae af) rfl (L_as (.slice ad ae af) rfl (L_nil (W_ret ⟨[.slice ad ae af], ⟨_, rfl, rfl⟩, xs2, ad, ae, af, rfl, H, aj.gr.g0, aj.ok, aj.ge, bc⟩)))))
end
section
open Go.RowKit
def F112.E (o : List Feat) (a : List Feat) (b : List Feat) (Q : List Str → Prop) : Prop :=
 (∃ (I46 : (List Feat) → Int → Prop) (mu47 : (List Feat) → Int → Nat), I46 o 0 ∧ ∀ (s2 : List Feat) (i2 : Int), I46 s2 i2 → (if decide (i2 < (a.length : Int)) then ((0 : Int) ≤ i2 ∧ i2 < (a.length : Int)) ∧ F107.E s2 (nth a i2) (fun r => (-9223372036854775808 ≤ i2) ∧ I46 r (i2 + 1) ∧ mu47 r (i2 + 1) < mu47 s2 i2) else F111.E s2 b (fun r2 => Q r2)))
theorem F112.calls {O : Ob} (w0 : World) (hO : Ok w0 O) (o : List Feat) (A1 : Option Addr) (n2 c3 : Nat) (hp4 : Sl kFeat w0 (Fr O) (.slice A1 n2 c3) o) (a : List Feat) (A6 : Option Addr) (n7 c8 : Nat) (hp9 : Sl kFeat w0 (Fr O) (.slice A6 n7 c8) a) (b : List Feat) (ad : Option Addr) (ae af : Nat) (a9 : Sl kFeat w0 (Fr O) (.slice ad ae af) b) (Q : List Str → Prop) (h : F112.E o a b Q) :
  Ret Tryz.prog 77 [.slice A1 n2 c3, .slice A6 n7 c8, .slice ad ae af] w0 (fun v w' => ∃ (r0 : List Str) (A0 : Option Addr) (n0 c0 : Nat), v = .slice A0 n0 c0 ∧ Q r0 ∧ Gr w0 w' none ∧ Ok w' ([bk A0] ++ O) ∧ (∀ b, some b ∈ [bk A0] → w0.heap.size ≤ b) ∧ Ow Kd.str 9 w' ([bk A0] ++ O) (.slice A0 n0 c0) r0) := by
 unfold F112.E at h
 have H := h
 clear h
 have hc0 := Ct.init hO
 refine Ret_enter Tryz.func77 rfl 25 rfl [.tmp 6] rfl rfl ?_
 refine W_seq (W_reg (L_as (.slice none 0 0) rfl (L_nil (W_seq (W_reg (L_mv (.slice A1 n2 c3) rfl (L_as (.slice A1 n2 c3) rfl (L_nil ?_))))))))
 refine W_seq (W_seq (W_reg (L_as (vi 0) rfl (L_nil (W_block ?_)))))
 obtain ⟨ba, bb, ak, H⟩ := H
 refine W_loop (α := (List Feat) × (Option Addr) × Nat × Nat × Int) (fun (sv__ : (List Feat) × (Option Addr) × Nat × Nat × Int) t ag => match sv__ with | (s2, aa, ab, ac, i2) => ba s2 i2 ∧ Has t [(1, .slice A6 n7 c8), (2, .slice ad ae af), (7, .slice aa ab ac), (8, vi i2)] ∧ Ct [] w0 ag [] O ∧ Sl kFeat ag (Fr ([] ++ O)) (.slice A6 n7 c8) a ∧ Sl kFeat ag (Fr ([] ++ O)) (.slice ad ae af) b ∧ Sl kFeat ag (Fr ([] ++ O)) (.slice aa ab ac) s2) (fun (sv__ : (List Feat) × (Option Addr) × Nat × Nat × Int) => match sv__ with | (s2, _, _, _, i2) => bb s2 i2) (o, A1, n2, c3, 0) ⟨ak, (hasI rfl), hc0, hp9, a9, hp4⟩ ?_
 rintro ⟨s2, aa, ab, ac, i2⟩ _ ag ⟨ak, bc, ah, ai, ay, az⟩
 obtain ⟨b0, rfl⟩ := Has.ins bc
 have H := H s2 i2 ak
 refine W_seq (W_seq (W_reg (L_mv (vi i2) rfl (L_mv (.slice A6 n7 c8) rfl ?_))))
 have bd := ai.le
 refine L_pu (P_len Tryz.underlying26 A6 n7 c8 ai.len rfl) (L_pu (P_cmp i2 (a.length : Int) (decide (i2 < (a.length : Int))) rfl rfl rfl) (L_nil ?_))
 refine W_cond (decide (i2 < (a.length : Int))) rfl (fun aj => ?_) (fun aj => ?_)
 ·have H := ite_t H aj
  refine W_skip (W_seq (W_block (W_reg (L_mv (.slice aa ab ac) rfl (L_mv (.slice A6 n7 c8) rfl (L_mv (vi i2) rfl ?_))))))
  obtain ⟨a0, H⟩ := H
  obtain ⟨a1, b1, be, b2, bf, bg⟩ := ai.get default (by decide) i2 a0
  obtain ⟨al, am, an, ao, ap, aq, rfl, bh, bi, bj⟩ := kFeat.op bf
  refine L_pu (P_ia Tryz.underlying26 se26 A6 a1 n7 c8 ai.len i2 rfl be rfl a0) (L_pu (P_lda ag61 sz61 cL (a1.add (i2.toNat * 4)) [vs ((nth a i2).Id), vi ((nth a i2).Shape.Kind), .slice al am an, .slice ao ap aq] rfl rfl bg) ?_)
  refine L_call go26 [.slice aa ab ac, .agg #[vs ((nth a i2).Id), vi ((nth a i2).Shape.Kind), .slice al am an, .slice ao ap aq]] rfl ((F107.calls ag ah.ok s2 aa ab ac az (nth a i2) al am an ao ap aq bh bi bj _ H).mono ?_)
  rintro _ b3 ⟨r, a2, a3, a4, rfl, H, a5, bl, a6, bm⟩
  have ar := ah.owns a5 bl a6
  refine L_as (.slice a2 a3 a4) rfl (L_nil (W_reg (L_mv (vi i2) rfl ?_)))
  obtain ⟨bn, H⟩ := H
  have bo : I64 (i2 + 1) := i64_succ (of_decide_eq_true aj) bd bn
  refine L_pu (P_add i2 1 rfl rfl bo) (L_as (vi (i2 + 1)) rfl (L_nil ?_))
  have bp := ar.gv bm 0 rfl
  have bq := ar.drop 0 rfl
  obtain ⟨br, bs⟩ := H
  have a7 := ah.stos a5 a6
  have a8 := ar.std 0 rfl
  have bt := ((ai.st a7).st a8)
  have bu := ((ay.st a7).st a8)
  exact ⟨(r, a2, a3, a4, i2 + 1), bs, br, (hasI rfl), bq, bt, bu, bp⟩
 have H := ite_f H aj
 refine W_exit (xin_hit ?_)
 refine W_seq (W_reg (L_mv (.slice aa ab ac) rfl (L_mv (.slice ad ae af) rfl ?_)))
 refine L_call go114 [.slice aa ab ac, .slice ad ae af] rfl ((F111.calls ag ah.ok s2 aa ab ac az b ad ae af ay _ H).mono ?_)
 rintro _ b4 ⟨r2, au, av, aw, rfl, H, bv, bw, bx, bz⟩
 have ax := ah.owns bv bw bx
 exact L_as (.slice au av aw) rfl (L_nil (W_ret ⟨[.slice au av aw], ⟨_, rfl, rfl⟩, r2, au, av, aw, rfl, H, ax.gr.g0, ax.ok, ax.ge, bz⟩))
end
section
open Go.RowKit
def F79.E (s : List Feat) (id : Str) (Q : Int → Prop) : Prop :=
 (∃ (I19 : Int → Prop) (mu20 : Int → Nat), I19 0 ∧ ∀ (i2 : Int), I19 i2 → (if decide (i2 < (s.length : Int)) then ((0 : Int) ≤ i2 ∧ i2 < (s.length : Int)) ∧ (if ((nth s i2).Id) == id then Q i2 else (-9223372036854775808 ≤ i2) ∧ I19 (i2 + 1) ∧ mu20 (i2 + 1) < mu20 i2) else Q (-1)))
theorem F79.calls {O : Ob} (w0 : World) (hO : Ok w0 O) (s : List Feat) (A1 : Option Addr) (n2 c3 : Nat) (hp4 : Sl kFeat w0 (Fr O) (.slice A1 n2 c3) s) (id : Str) (hs6 : Lim id) (Q : Int → Prop) (h : F79.E s id Q) :
  Ret Tryz.prog 93 [.slice A1 n2 c3, vs id] w0 (fun v w' => ∃ (r0 : Int), v = vi r0 ∧ Q r0 ∧ Gr w0 w' none) := by
 unfold F79.E at h
 have H := h
 clear h
 have hc0 := Ct.init hO
 refine Ret_enter Tryz.func93 rfl 20 rfl [.tmp 4] rfl rfl ?_
 refine W_seq (W_reg (L_as (vi 0) rfl (L_nil (W_seq (W_seq (W_reg (L_as (vi 0) rfl (L_nil ?_))))))))
 refine W_block ?_
 obtain ⟨ai, aj, ad, H⟩ := H
 refine W_loop (α := Int) (fun (sv__ : Int) t ae => match sv__ with | i2 => ai i2 ∧ Has t [(0, .slice A1 n2 c3), (1, vs id), (5, vi i2)] ∧ Ct [] w0 ae [] O ∧ Sl kFeat ae (Fr ([] ++ O)) (.slice A1 n2 c3) s) (fun (sv__ : Int) => match sv__ with | i2 => aj i2) 0 ⟨ad, (hasI rfl), hc0, hp4⟩ ?_
 rintro i2 _ ae ⟨ad, ak, af, aa⟩
 obtain ⟨av, rfl⟩ := Has.ins ak
 have H := H i2 ad
 refine W_seq (W_seq (W_reg (L_mv (vi i2) rfl (L_mv (.slice A1 n2 c3) rfl ?_))))
 have al := aa.le
 refine L_pu (P_len Tryz.underlying26 A1 n2 c3 aa.len rfl) (L_pu (P_cmp i2 (s.length : Int) (decide (i2 < (s.length : Int))) rfl rfl rfl) (L_nil ?_))
 refine W_cond (decide (i2 < (s.length : Int))) rfl (fun ab => ?_) (fun ab => ?_)
 ·have H := ite_t H ab
  refine W_skip (W_seq (W_block (W_seq (W_reg (L_mv (.slice A1 n2 c3) rfl (L_mv (vi i2) rfl ?_))))))
  obtain ⟨ah, H⟩ := H
  obtain ⟨ac, aw, am, ax, an, ao⟩ := aa.get default (by decide) i2 ah
  obtain ⟨ay, az, a0, a1, a2, a3, rfl, a4, a5, a6⟩ := kFeat.op an
  refine L_pu (P_ia Tryz.underlying26 se26 A1 ac n2 c3 aa.len i2 rfl am rfl ah) (L_pu (P_fa fa61_0 (ac.add (i2.toNat * 4)) ((ac.add (i2.toNat * 4)).add 0) rfl rfl) (L_pu (P_ld ag9 cL ((ac.add (i2.toNat * 4)).add 0) (vs ((nth s i2).Id)) rfl (ao 0 _ rfl)) (L_mv (vs id) rfl (L_pu (P_scmp ((nth s i2).Id) id (((nth s i2).Id) == id) rfl rfl rfl) (L_nil ?_)))))
  refine W_cond (((nth s i2).Id) == id) rfl (fun ag => ?_) (fun ag => ?_)
  ·have H := ite_t H ag
   exact W_seq (W_reg (L_mv (vi i2) rfl (L_as (vi i2) rfl (L_nil (W_ret ⟨[vi i2], ⟨_, rfl, rfl⟩, i2, rfl, H, af.gr.g0⟩)))))
  have H := ite_f H ag
  refine W_skip (W_reg (L_mv (vi i2) rfl ?_))
  obtain ⟨ap, H⟩ := H
  have aq : I64 (i2 + 1) := i64_succ (of_decide_eq_true ab) al ap
  refine L_pu (P_add i2 1 rfl rfl aq) (L_as (vi (i2 + 1)) rfl (L_nil ?_))
  obtain ⟨ar, au⟩ := H
  exact ⟨i2 + 1, au, ar, (hasI rfl), af, aa⟩
 have H := ite_f H ab
 refine W_exit (xin_hit ?_)
 exact W_seq (W_reg (L_as (vi (-1)) rfl (L_nil (W_ret ⟨[vi (-1)], ⟨_, rfl, rfl⟩, (-1), rfl, H, af.gr.g0⟩))))
end
section
open Go.RowKit
def F80.E (s : Shape) (Q : Shape → Prop) : Prop :=
 (([] : List Pt).length + s.Pts.length ≤ 268435456) ∧ Q (⟨s.Kind, (([] : List Pt) ++ s.Pts)⟩ : Shape)
theorem F80.calls {O : Ob} (w0 : World) (hO : Ok w0 O) (s : Shape) (A1 : Option Addr) (n2 c3 : Nat) (hp4 : Sl kPt w0 (Fr O) (.slice A1 n2 c3) s.Pts) (Q : Shape → Prop) (h : F80.E s Q) :
  Ret Tryz.prog 96 [.agg #[vi s.Kind, .slice A1 n2 c3]] w0 (fun v w' => ∃ (r0 : Shape) (A0 : Option Addr) (n0 c0 : Nat), v = .agg #[vi r0.Kind, .slice A0 n0 c0] ∧ Q r0 ∧ Gr w0 w' none ∧ Ok w' ([bk A0] ++ O) ∧ (∀ b, some b ∈ [bk A0] → w0.heap.size ≤ b) ∧ Ow kPt 114 w' ([bk A0] ++ O) (.slice A0 n0 c0) r0.Pts) := by
 unfold F80.E at h
 have H := h
 clear h
 have hc0 := Ct.init hO
 refine Ret_enter Tryz.func96 rfl 10 rfl [.cell 2 58] rfl rfl ?_
 refine W_seq (W_reg (L_box [vi s.Kind, .slice A1 n2 c3] rfl fun w6 b7 hl9 hu10 g8 ay => ?_))
 have az := Fb.mk hc0.ok hl9 ay
 have ap := hc0.k0 g8
 refine L_alloc [.int .i64 0, .slice none 0 0] ze58 fun be ae aq hu19 ar a0 => ?_
 have au := ap.own ar (some ae) (oglt aq hu19)
 refine L_nil (W_seq (W_mixr 8 [some ae] (by kernel_rfl) rfl fun bf ag aa => ?_))
 have ah := au.k0 ag
 refine M_pu 0 rfl (by kernel_rfl) aa (P_fa fa58_0 ⟨b7, 0, none⟩ ⟨b7, 0, none⟩ rfl rfl) ?_
 have a1 := ap.stown _ ar (oge aq)
 have a2 := au.stn ag
 have af := ((az.st a1).st a2)
 refine M_pu 1 rfl (by kernel_rfl) aa (P_ldr ag3 cR ⟨b7, 0, none⟩ (vi s.Kind) rfl (af.cell rfl) (nm_cons (ah.fne 0 af.2 rfl) nm_nil)) ?_
 refine M_pu 3 rfl (by kernel_rfl) aa (P_fa fa58_1 ⟨b7, 0, none⟩ ⟨b7, 1, none⟩ rfl rfl) ?_
 refine M_pu 4 rfl (by kernel_rfl) aa (P_ldr ag56 cR ⟨b7, 1, none⟩ (.slice A1 n2 c3) rfl (af.cell rfl) (nm_cons (ah.fne 0 af.2 rfl) nm_nil)) ?_
 refine M_any1 2 (by kernel_rfl) rfl ?_
 refine L_lit (kd := kPt) ei56 ah ([] : List Pt) (cells := []) rfl (fun _ => by kernel_rfl) fun bg av a3 a4 aw hr35 ai a5 => ?_
 have aj := Gm.tm aa aw
 refine L_nil ⟨aj, ?_⟩
 refine M_any1 5 (by kernel_rfl) rfl ?_
 obtain ⟨a6, H⟩ := H
 refine L_app ei56 ai (.slice av a3 a4) ([] : List Pt) s.Pts rfl a5 (.slice A1 n2 c3) rfl (hp4.st ai.st).sx 0 rfl a6 fun bh ab ac ad ax a7 ak a8 => ?_
 have al := Gm.tq aj ax (hv_new aa hr35)
 have bi := hv_app (L := [bk av, some ae]) (O := O) (i := 0) aj rfl (hv_new aa hr35) a7 ak
 refine L_nil ⟨al, ?_⟩
 refine M_pu 6 rfl (by kernel_rfl) al (P_build (.agg #[vi s.Kind, .slice ab ac ad]) (fun _ => by kernel_rfl)) ?_
 refine M_any1 7 (by kernel_rfl) rfl ?_
 have a9 := (ai.bm ((a0.k0 ag).k0 aw) 1 0 rfl rfl rfl ax)
 refine L_stb ae 0 [vi 0, .slice none 0 0] [vi s.Kind, .slice ab ac ad] [vi s.Kind, .slice ab ac ad] rfl a9 rfl sz58 rfl rfl rfl fun bj am ba => ?_
 have an := ak.wr 1 rfl am
 have bb := Gm.tq al am (hv_mem 0 rfl)
 refine L_nil ⟨bb, ?_⟩
 refine M_nil (by kernel_rfl) ?_
 refine W_ret ?_
 have bc := an.bgv ba 1 rfl
 have ao := an.drop 1 rfl
 have bd := (an.sd (ak.sw a8 0 1 rfl rfl rfl am) 0 1 rfl rfl rfl)
 exact ⟨[.agg #[vi s.Kind, .slice ab ac ad]], ⟨_, _, rfl, bc.1.res rfl ag58 sz58, rfl⟩, (⟨s.Kind, (([] : List Pt) ++ s.Pts)⟩ : Shape), ab, ac, ad, rfl, H, ao.gr.g0, ao.ok, ao.ge, bd⟩
end
section
open Go.RowKit
def F81.E (f : Feat) (Q : Feat → Prop) : Prop :=
 (([] : List Tag).length + f.Tags.length ≤ 268435456) ∧ F80.E f.Shape (fun r => Q (⟨f.Id, r, (([] : List Tag) ++ f.Tags)⟩ : Feat))
theorem F81.calls {O : Ob} (w0 : World) (hO : Ok w0 O) (f : Feat) (A2 : Option Addr) (n3 c4 : Nat) (A7 : Option Addr) (n8 c9 : Nat) (hs1 : Lim f.Id) (hp5 : Sl kPt w0 (Fr O) (.slice A2 n3 c4) f.Shape.Pts) (bn : Sl kTag w0 (Fr O) (.slice A7 n8 c9) f.Tags) (Q : Feat → Prop) (h : F81.E f Q) :
  Ret Tryz.prog 61 [.agg #[vs f.Id, vi f.Shape.Kind, .slice A2 n3 c4, .slice A7 n8 c9]] w0 (fun v w' => ∃ (r0 : Feat) (A0 : Option Addr) (n0 c0 : Nat) (A2 : Option Addr) (n2 c2 : Nat), v = .agg #[vs r0.Id, vi r0.Shape.Kind, .slice A0 n0 c0, .slice A2 n2 c2] ∧ Q r0 ∧ Gr w0 w' none ∧ Ok w' ([bk A0, bk A2] ++ O) ∧ (∀ b, some b ∈ [bk A0, bk A2] → w0.heap.size ≤ b) ∧ Lim r0.Id ∧ Ow kPt 114 w' ([bk A0, bk A2] ++ O) (.slice A0 n0 c0) r0.Shape.Pts ∧ Ow kTag 106 w' ([bk A0, bk A2] ++ O) (.slice A2 n2 c2) r0.Tags) := by
 unfold F81.E at h
 have H := h
 clear h
 have hc0 := Ct.init hO
 refine Ret_enter Tryz.func61 rfl 13 rfl [.cell 2 61] rfl rfl ?_
 refine W_seq (W_reg (L_box [vs f.Id, vi f.Shape.Kind, .slice A2 n3 c4, .slice A7 n8 c9] rfl fun df ac b3 hu16 b4 b5 => ?_))
 have b6 := Fb.mk hc0.ok b3 b5
 have bo := hc0.k0 b4
 refine L_alloc [vs [], .int .i64 0, .slice none 0 0, .slice none 0 0] ze61 fun dg aa bp hu25 bq br => ?_
 have bs := bo.own bq (some aa) (oglt bp hu25)
 refine L_nil (W_seq ?_)
 obtain ⟨bt, H⟩ := H
 refine W_join (J := (fun t ai => ∃ (r : Shape) (ad : Option Addr) (aj : Nat) (ak : Nat) (ae : Option Addr) (al : Nat) (am : Nat), Has t [(2, .pointer (some ⟨aa, 0, none⟩))] ∧ Ct [] w0 ai [bk ae, bk ad, some aa] O ∧ Ow kPt 114 ai ([bk ae, bk ad, some aa] ++ O) (.slice ad aj ak) r.Pts ∧ Ow kTag 106 ai ([bk ae, bk ad, some aa] ++ O) (.slice ae al am) (([] : List Tag) ++ f.Tags) ∧ Bx ai aa [vs f.Id, vi r.Kind, .slice ad aj ak, .slice ae al am] ∧ Q (⟨f.Id, r, (([] : List Tag) ++ f.Tags)⟩ : Feat))) ?_ ?_
 ·refine W_mixr 11 [some aa] (by kernel_rfl) rfl fun b7 ap ab => ?_
  have af := bs.k0 ap
  refine M_pu 0 rfl (by kernel_rfl) ab (P_fa fa61_0 ⟨ac, 0, none⟩ ⟨ac, 0, none⟩ rfl rfl) ?_
  have b8 := bo.stown _ bq (oge bp)
  have b9 := bs.stn ap
  have ah := ((b6.st b8).st b9)
  refine M_pu 1 rfl (by kernel_rfl) ab (P_ldr ag9 cR ⟨ac, 0, none⟩ (vs f.Id) rfl (ah.cell rfl) (nm_cons (af.fne 0 ah.2 rfl) nm_nil)) ?_
  refine M_pu 2 rfl (by kernel_rfl) ab (P_fa fa61_1 ⟨ac, 0, none⟩ ⟨ac, 1, none⟩ rfl rfl) ?_
  refine M_pu 3 rfl (by kernel_rfl) ab (P_ldar ag58 sz58 cR ⟨ac, 1, none⟩ [vi f.Shape.Kind, .slice A2 n3 c4] rfl rfl (ah.cells (off := 1) rfl) (nm_cons (af.fne 0 ah.2 rfl) nm_nil)) ?_
  refine M_pu 6 rfl (by kernel_rfl) ab (P_fa fa61_2 ⟨ac, 0, none⟩ ⟨ac, 3, none⟩ rfl rfl) ?_
  refine M_pu 7 rfl (by kernel_rfl) ab (P_ldr ag59 cR ⟨ac, 3, none⟩ (.slice A7 n8 c9) rfl (ah.cell rfl) (nm_cons (af.fne 0 ah.2 rfl) nm_nil)) ?_
  refine M_any2 4 5 (by kernel_rfl) rfl rfl ?_ ?_
  ·refine L_call go96 [.agg #[vi f.Shape.Kind, .slice A2 n3 c4]] rfl ((F80.calls b7 af.ok f.Shape A2 n3 c4 (hp5.st af.st) _ H).mono ?_)
   rintro _ bu ⟨r, an, aq, ar, rfl, H, bc, ca, cb, cc⟩
   have cd := af.owns bc ca cb
   have au := Gm.tm ab bc
   refine L_nil ⟨au, ?_⟩
   refine M_any1 5 (by kernel_rfl) rfl ?_
   refine L_lit (kd := kTag) ei59 cd ([] : List Tag) (cells := []) rfl (fun _ => by kernel_rfl) fun dh bv ce cf bd hr54 av cg => ?_
   have ag := Gm.tm au bd
   refine L_nil ⟨ag, ?_⟩
   refine M_any1 8 (by kernel_rfl) rfl ?_
   refine L_app ei59 av (.slice bv ce cf) ([] : List Tag) f.Tags rfl cg (.slice A7 n8 c9) rfl (bn.st av.st).sx 0 rfl bt fun di aw ax ay be bw az ch => ?_
   have bf := Gm.tq ag be (hv_new au hr54)
   have dj := hv_app (L := [bk bv, bk an, some aa]) (O := O) (i := 0) ag rfl (hv_new au hr54) bw az
   refine L_nil ⟨bf, ?_⟩
   refine M_pu 9 rfl (by kernel_rfl) bf (P_build (.agg #[vs f.Id, vi r.Kind, .slice an aq ar, .slice aw ax ay]) (fun _ => by kernel_rfl)) ?_
   refine M_any1 10 (by kernel_rfl) rfl ?_
   have ci := (av.bm (((br.k0 ap).k0 bc).k0 bd) 2 0 rfl rfl rfl be)
   refine L_stb aa 0 [vs ([] : Str), vi 0, .slice none 0 0, .slice none 0 0] [vs f.Id, vi r.Kind, .slice an aq ar, .slice aw ax ay] [vs f.Id, vi r.Kind, .slice an aq ar, .slice aw ax ay] rfl ci rfl sz61 rfl rfl rfl fun dk a0 cj => ?_
   have ck := az.wr 2 rfl a0
   have cl := Gm.tq bf a0 (hv_mem 0 rfl)
   refine L_nil ⟨cl, ?_⟩
   refine M_nil (by kernel_rfl) ?_
   have cm := (az.sw (av.sm (cc.so _ bd hr54) 1 0 rfl rfl rfl be bw) 1 2 rfl rfl rfl a0)
   have cn := (az.sw ch 0 2 rfl rfl rfl a0)
   exact ⟨r, an, aq, ar, aw, ax, ay, (hasI rfl), ck, cm, cn, cj, H⟩
  refine L_lit (kd := kTag) ei59 af ([] : List Tag) (cells := []) rfl (fun _ => by kernel_rfl) fun bu bx co cp bz hr42 bg cq => ?_
  have b0 := Gm.tm ab bz
  refine L_nil ⟨b0, ?_⟩
  refine M_any1 4 (by kernel_rfl) rfl ?_
  refine L_call go96 [.agg #[vi f.Shape.Kind, .slice A2 n3 c4]] rfl ((F80.calls bu bg.ok f.Shape A2 n3 c4 (hp5.st bg.st) _ H).mono ?_)
  rintro _ dl ⟨r, ao, a1, a2, rfl, H, a3, cr, b1, cs⟩
  have a4 := bg.owns a3 cr b1
  have ag := Gm.tm b0 a3
  refine L_nil ⟨ag, ?_⟩
  refine M_any1 8 (by kernel_rfl) rfl ?_
  have ct := (cq.sos a3 b1)
  refine L_app ei59 a4 (.slice bx co cp) ([] : List Tag) f.Tags rfl ct (.slice A7 n8 c9) rfl (bn.st a4.st).sx 1 rfl bt fun dm a5 a6 a7 bh b2 a8 cu => ?_
  have bi := Gm.tq ag bh (hv_new ab hr42)
  have dn := hv_app (L := [bk ao, bk bx, some aa]) (O := O) (i := 1) ag rfl (hv_new ab hr42) b2 a8
  refine L_nil ⟨bi, ?_⟩
  refine M_pu 9 rfl (by kernel_rfl) bi (P_build (.agg #[vs f.Id, vi r.Kind, .slice ao a1 a2, .slice a5 a6 a7]) (fun _ => by kernel_rfl)) ?_
  refine M_any1 10 (by kernel_rfl) rfl ?_
  have cv := (a4.bm (((br.k0 ap).k0 bz).k0 a3) 2 1 rfl rfl rfl bh)
  refine L_stb aa 0 [vs ([] : Str), vi 0, .slice none 0 0, .slice none 0 0] [vs f.Id, vi r.Kind, .slice ao a1 a2, .slice a5 a6 a7] [vs f.Id, vi r.Kind, .slice ao a1 a2, .slice a5 a6 a7] rfl cv rfl sz61 rfl rfl rfl fun dp a9 cw => ?_
  have bj := a8.wr 2 rfl a9
  have cx := Gm.tq bi a9 (hv_mem 0 rfl)
  refine L_nil ⟨cx, ?_⟩
  refine M_nil (by kernel_rfl) ?_
  have cy := bj.perm (.swap _ _ _)
  have cz := (bj.sp (a8.sw (a4.sm cs 0 1 rfl rfl rfl bh b2) 0 2 rfl rfl rfl a9) (.swap _ _ _))
  have c1 := (bj.sp (a8.sw cu 1 2 rfl rfl rfl a9) (.swap _ _ _))
  have c3 := cw
  exact ⟨r, ao, a1, a2, a5, a6, a7, (hasI rfl), cy, cz, c1, c3, H⟩
 rintro dq ai ⟨r, ad, aj, ak, ae, al, am, c5, ba, c6, c7, c8, H⟩
 obtain ⟨dr, rfl⟩ := Has.ins c5
 refine W_ret ?_
 have da := ba.bgv c8 2 rfl
 have bb := ba.drop 2 rfl
 have bl := bb.perm (.swap _ _ _)
 have db := bb.stp (.swap _ _ _)
 have dc := (da.st db)
 have dd := (bb.sp (ba.sd c6 1 2 rfl rfl rfl) (.swap _ _ _))
 have de := (bb.sp (ba.sd c7 0 2 rfl rfl rfl) (.swap _ _ _))
 exact ⟨[.agg #[vs f.Id, vi r.Kind, .slice ad aj ak, .slice ae al am]], ⟨_, _, rfl, dc.1.res rfl ag61 sz61, rfl⟩, (⟨f.Id, r, (([] : List Tag) ++ f.Tags)⟩ : Feat), ad, aj, ak, ae, al, am, rfl, H, bl.gr.g0, bl.ok, bl.ge, hs1, dd, de⟩
end
section
open Go.RowKit
def F82.E (s : List Feat) (id : Str) (Q : Feat → Bool → Prop) : Prop :=
 F79.E s id (fun r => (if decide (r < 0) then Q (⟨([] : Str), (⟨0, ([] : List Pt)⟩ : Shape), ([] : List Tag)⟩ : Feat) false else ((0 : Int) ≤ r ∧ r < (s.length : Int)) ∧ F81.E (nth s r) (fun r2 => Q r2 true)))
theorem F82.calls {O : Ob} (w0 : World) (hO : Ok w0 O) (s : List Feat) (A1 : Option Addr) (n2 c3 : Nat) (hp4 : Sl kFeat w0 (Fr O) (.slice A1 n2 c3) s) (id : Str) (hs6 : Lim id) (Q : Feat → Bool → Prop) (h : F82.E s id Q) :
  Ret Tryz.prog 59 [.slice A1 n2 c3, vs id] w0 (fun v w' => ∃ (r0 : Feat) (r1 : Bool) (A0 : Option Addr) (n0 c0 : Nat) (A2 : Option Addr) (n2 c2 : Nat), v = .tuple #[.agg #[vs r0.Id, vi r0.Shape.Kind, .slice A0 n0 c0, .slice A2 n2 c2], vb r1] ∧ Q r0 r1 ∧ Gr w0 w' none ∧ Ok w' ([bk A0, bk A2] ++ O) ∧ (∀ b, some b ∈ [bk A0, bk A2] → w0.heap.size ≤ b) ∧ Lim r0.Id ∧ Ow kPt 114 w' ([bk A0, bk A2] ++ O) (.slice A0 n0 c0) r0.Shape.Pts ∧ Ow kTag 106 w' ([bk A0, bk A2] ++ O) (.slice A2 n2 c2) r0.Tags) := by
 unfold F82.E at h
 have H := h
 clear h
 have hc0 := Ct.init hO
 refine Ret_enter Tryz.func59 rfl 18 rfl [.cell 4 61, .tmp 5] rfl rfl ?_
 refine W_seq (W_reg (L_alloc [vs [], .int .i64 0, .slice none 0 0, .slice none 0 0] ze61 fun w7 b8 a4 hu11 g9 az => ?_))
 have ak := hc0.own g9 (some b8) (oglt a4 hu11)
 refine L_as (vb false) rfl (L_nil (W_seq (W_reg (L_mv (.slice A1 n2 c3) rfl (L_mv (vs id) rfl ?_)))))
 refine L_call go93 [.slice A1 n2 c3, vs id] rfl ((F79.calls w7 ak.ok s A1 n2 c3 (hp4.st ak.st) id hs6 _ H).mono ?_)
 rintro _ a5 ⟨r, rfl, H, al⟩
 have aa := ak.k0 al
 refine L_as (vi r) rfl (L_nil (W_seq (W_seq (W_reg (L_mv (vi r) rfl (L_pu (P_cmp r 0 (decide (r < 0)) rfl rfl rfl) (L_nil ?_)))))))
 refine W_cond (decide (r < 0)) rfl (fun am => ?_) (fun am => ?_)
 ·have H := ite_t H am
  refine W_seq (W_reg (L_pu (P_build (.agg #[vs ([] : Str), vi 0, .slice none 0 0, .slice none 0 0]) (fun _ => by kernel_rfl)) ?_))
  have a6 := (az.k0 al)
  refine L_stb b8 0 [vs ([] : Str), vi 0, .slice none 0 0, .slice none 0 0] [vs ([] : Str), vi 0, .slice none 0 0, .slice none 0 0] [vs ([] : Str), vi 0, .slice none 0 0, .slice none 0 0] rfl a6 rfl sz61 rfl rfl rfl fun a0 a7 a8 => ?_
  have a9 := aa.wr 0 rfl a7
  refine L_as (vb false) rfl (L_nil (W_ret ?_))
  have ba := a9.own (Gr.refl _ none) none (by simp)
  have bb : Ow kPt 114 a0 ([bk none, some b8] ++ O) (.slice none 0 0) [] := Ow.nil _ _ _ _
  have ab := ba.own (Gr.refl _ none) none (by simp)
  have bc : Ow kTag 106 a0 ([bk none, bk none, some b8] ++ O) (.slice none 0 0) [] := Ow.nil _ _ _ _
  have bd := a8
  have be := ab.bgv bd 2 rfl
  have ac := ab.drop 2 rfl
  have an := ac.perm (.swap _ _ _)
  have bf := ac.stp (.swap _ _ _)
  have bg := (be.st bf)
  have bh := (ac.sp (ab.sd (bb.so none (Gr.refl _ none) (by simp)) 1 2 rfl rfl rfl) (.swap _ _ _))
  have bi := (ac.sp (ab.sd bc 0 2 rfl rfl rfl) (.swap _ _ _))
  exact ⟨[.agg #[vs ([] : Str), vi 0, .slice none 0 0, .slice none 0 0], vb false], ⟨_, _, rfl, bg.1.res rfl ag61 sz61, ⟨_, rfl, rfl⟩⟩, (⟨([] : Str), (⟨0, ([] : List Pt)⟩ : Shape), ([] : List Tag)⟩ : Feat), false, none, 0, 0, none, 0, 0, rfl, H, an.gr.g0, an.ok, an.ge, (by decide), bh, bi⟩
 have H := ite_f H am
 refine W_skip (W_seq (W_reg (L_mv (.slice A1 n2 c3) rfl (L_mv (vi r) rfl ?_))))
 obtain ⟨a1, H⟩ := H
 obtain ⟨a2, b1, bj, b2, bl, bm⟩ := (hp4.st aa.st).get default (by decide) r a1
 obtain ⟨ao, ap, aq, ar, au, av, rfl, bn, bo, bp⟩ := kFeat.op bl
 refine L_pu (P_ia Tryz.underlying26 se26 A1 a2 n2 c3 (hp4.st aa.st).len r rfl bj rfl a1) (L_pu (P_lda ag61 sz61 cL (a2.add (r.toNat * 4)) [vs ((nth s r).Id), vi ((nth s r).Shape.Kind), .slice ao ap aq, .slice ar au av] rfl rfl bm) ?_)
 refine L_call go61 [.agg #[vs ((nth s r).Id), vi ((nth s r).Shape.Kind), .slice ao ap aq, .slice ar au av]] rfl ((F81.calls a5 aa.ok (nth s r) ao ap aq ar au av bn bo bp _ H).mono ?_)
 rintro _ b3 ⟨r2, ad, ae, af, ag, ah, ai, rfl, H, a3, bq, br, bs, bt, bu⟩
 have aw := aa.owns a3 bq br
 have bv := ((az.k0 al).k0 a3)
 refine L_stb b8 0 [vs ([] : Str), vi 0, .slice none 0 0, .slice none 0 0] [vs r2.Id, vi r2.Shape.Kind, .slice ad ae af, .slice ag ah ai] [vs r2.Id, vi r2.Shape.Kind, .slice ad ae af, .slice ag ah ai] rfl bv rfl sz61 rfl rfl rfl fun b4 ax bw => ?_
 have aj := aw.wr 2 rfl ax
 refine L_as (vb true) rfl (L_nil (W_ret ?_))
 have bx := aj.bgv bw 2 rfl
 have ay := aj.drop 2 rfl
 have bz := (aj.sd (aw.sw bt 0 2 rfl rfl rfl ax) 0 2 rfl rfl rfl)
 have b0 := (aj.sd (aw.sw bu 1 2 rfl rfl rfl ax) 1 2 rfl rfl rfl)
 exact ⟨[.agg #[vs r2.Id, vi r2.Shape.Kind, .slice ad ae af, .slice ag ah ai], vb true], ⟨_, _, rfl, bx.1.res rfl ag61 sz61, ⟨_, rfl, rfl⟩⟩, r2, true, ad, ae, af, ag, ah, ai, rfl, H, ay.gr.g0, ay.ok, ay.ge, bs, bz, b0⟩
end
section
open Go.RowKit
def F76.E (a : List Pt) (b : List Pt) (Q : Bool → Prop) : Prop :=
 (if (a.length : Int) != (b.length : Int) then Q false else (∃ (I32 : Int → Prop) (mu33 : Int → Nat), I32 0 ∧ ∀ (i2 : Int), I32 i2 → (if decide (i2 < (a.length : Int)) then ((0 : Int) ≤ i2 ∧ i2 < (a.length : Int)) ∧ ((0 : Int) ≤ i2 ∧ i2 < (b.length : Int)) ∧ (if !(eqPt (nth a i2) (nth b i2)) then Q false else (-9223372036854775808 ≤ i2) ∧ I32 (i2 + 1) ∧ mu33 (i2 + 1) < mu33 i2) else Q true)))
theorem F76.calls {O : Ob} (w0 : World) (hO : Ok w0 O) (a : List Pt) (A1 : Option Addr) (n2 c3 : Nat) (hp4 : Sl kPt w0 (Fr O) (.slice A1 n2 c3) a) (b : List Pt) (A6 : Option Addr) (n7 c8 : Nat) (hp9 : Sl kPt w0 (Fr O) (.slice A6 n7 c8) b) (Q : Bool → Prop) (h : F76.E a b Q) :
  Ret Tryz.prog 123 [.slice A1 n2 c3, .slice A6 n7 c8] w0 (fun v w' => ∃ (r0 : Bool), v = vb r0 ∧ Q r0 ∧ Gr w0 w' none) := by
 unfold F76.E at h
 have H := h
 clear h
 have hc0 := Ct.init hO
 refine Ret_enter Tryz.func123 rfl 26 rfl [.tmp 4] rfl rfl ?_
 refine W_seq (W_reg (L_as (vb false) rfl (L_nil (W_seq (W_seq (W_reg (L_mv (.slice A1 n2 c3) rfl ?_)))))))
 have a5 := hp4.le
 refine L_pu (P_len Tryz.underlying56 A1 n2 c3 hp4.len rfl) (L_mv (.slice A6 n7 c8) rfl ?_)
 have a6 := hp9.le
 refine L_pu (P_len Tryz.underlying56 A6 n7 c8 hp9.len rfl) (L_pu (P_cmp (a.length : Int) (b.length : Int) ((a.length : Int) != (b.length : Int)) rfl rfl rfl) (L_nil ?_))
 refine W_cond ((a.length : Int) != (b.length : Int)) rfl (fun ad => ?_) (fun ad => ?_)
 ·have H := ite_t H ad
  exact W_seq (W_reg (L_as (vb false) rfl (L_nil (W_ret ⟨[vb false], ⟨_, rfl, rfl⟩, false, rfl, H, hc0.gr.g0⟩))))
 have H := ite_f H ad
 refine W_skip (W_seq (W_seq (W_reg (L_as (vi 0) rfl (L_nil (W_block ?_))))))
 obtain ⟨ap, aq, ae, H⟩ := H
 refine W_loop (α := Int) (fun (sv__ : Int) t aa => match sv__ with | i2 => ap i2 ∧ Has t [(0, .slice A1 n2 c3), (1, .slice A6 n7 c8), (5, vi i2)] ∧ Ct [] w0 aa [] O ∧ Sl kPt aa (Fr ([] ++ O)) (.slice A1 n2 c3) a ∧ Sl kPt aa (Fr ([] ++ O)) (.slice A6 n7 c8) b) (fun (sv__ : Int) => match sv__ with | i2 => aq i2) 0 ⟨ae, (hasI rfl), hc0, hp4, hp9⟩ ?_
 rintro i2 _ aa ⟨ae, ar, af, ab, ag⟩
 obtain ⟨a7, rfl⟩ := Has.ins ar
 have H := H i2 ae
 refine W_seq (W_seq (W_reg (L_mv (vi i2) rfl (L_mv (.slice A1 n2 c3) rfl ?_))))
 have au := ab.le
 refine L_pu (P_len Tryz.underlying56 A1 n2 c3 ab.len rfl) (L_pu (P_cmp i2 (a.length : Int) (decide (i2 < (a.length : Int))) rfl rfl rfl) (L_nil ?_))
 refine W_cond (decide (i2 < (a.length : Int))) rfl (fun ac => ?_) (fun ac => ?_)
 ·have H := ite_t H ac
  refine W_skip (W_seq (W_block (W_seq (W_draw (fun x => Gr aa x none) (by kernel_rfl) (by kernel_rfl) (Gr.drew _) ?_))))
  refine Q_mv (.slice A1 n2 c3) rfl (Q_mv (vi i2) rfl ?_)
  obtain ⟨ai, H⟩ := H
  obtain ⟨aj, a8, av, a9, aw, ax⟩ := ab.get default (by decide) i2 ai
  obtain rfl := kPt.op aw
  refine Q_pu (P_ia Tryz.underlying56 se56 A1 aj n2 c3 ab.len i2 rfl av rfl ai) (Q_pu (P_lda ag114 sz114 cQ (aj.add (i2.toNat * 2)) [vi ((nth a i2).X), vi ((nth a i2).Y)] rfl rfl ax) (Q_mv (.slice A6 n7 c8) rfl (Q_mv (vi i2) rfl ?_)))
  obtain ⟨ak, H⟩ := H
  obtain ⟨al, ba, ay, bb, az, a0⟩ := ag.get default (by decide) i2 ak
  obtain rfl := kPt.op az
  refine Q_pu (P_ia Tryz.underlying56 se56 A6 al n7 c8 ag.len i2 rfl ay rfl ak) (Q_pu (P_lda ag114 sz114 cQ (al.add (i2.toNat * 2)) [vi ((nth b i2).X), vi ((nth b i2).Y)] rfl rfl a0) (Q_pu (P_ne _ _ (eqPt (nth a i2) (nth b i2)) (qt114 (nth a i2) (nth b i2)) rfl rfl) (Q_nil fun bc am => ?_)))
  have an := af.k0 am
  refine W_cond (!(eqPt (nth a i2) (nth b i2))) rfl (fun ah => ?_) (fun ah => ?_)
  ·have H := ite_t H ah
   exact W_seq (W_reg (L_as (vb false) rfl (L_nil (W_ret ⟨[vb false], ⟨_, rfl, rfl⟩, false, rfl, H, an.gr.g0⟩))))
  have H := ite_f H ah
  refine W_skip (W_reg (L_mv (vi i2) rfl ?_))
  obtain ⟨a1, H⟩ := H
  have a2 : I64 (i2 + 1) := i64_succ (of_decide_eq_true ac) au a1
  refine L_pu (P_add i2 1 rfl rfl a2) (L_as (vi (i2 + 1)) rfl (L_nil ?_))
  obtain ⟨a3, a4⟩ := H
  have ao := af.stn am
  exact ⟨i2 + 1, a4, a3, (hasI rfl), an, (ab.st ao), (ag.st ao)⟩
 have H := ite_f H ac
 refine W_exit (xin_hit ?_)
 exact W_seq (W_reg (L_as (vb true) rfl (L_nil (W_ret ⟨[vb true], ⟨_, rfl, rfl⟩, true, rfl, H, af.gr.g0⟩))))
end
section
open Go.RowKit
def F25.E (a : Shape) (b : Shape) (Q : Bool → Prop) : Prop :=
 (if a.Kind == b.Kind then F76.E a.Pts b.Pts (fun r => Q r) else Q false)
theorem F25.calls {O : Ob} (w0 : World) (hO : Ok w0 O) (a : Shape) (A1 : Option Addr) (n2 c3 : Nat) (hp4 : Sl kPt w0 (Fr O) (.slice A1 n2 c3) a.Pts) (b : Shape) (A6 : Option Addr) (n7 c8 : Nat) (hp9 : Sl kPt w0 (Fr O) (.slice A6 n7 c8) b.Pts) (Q : Bool → Prop) (h : F25.E a b Q) :
  Ret Tryz.prog 94 [.agg #[vi a.Kind, .slice A1 n2 c3], .agg #[vi b.Kind, .slice A6 n7 c8]] w0 (fun v w' => ∃ (r0 : Bool), v = vb r0 ∧ Q r0 ∧ Gr w0 w' none) := by
 unfold F25.E at h
 have H := h
 clear h
 have hc0 := Ct.init hO
 refine Ret_enter Tryz.func94 rfl 17 rfl [.tmp 4] rfl rfl ?_
 refine W_seq (W_reg (L_box [vi a.Kind, .slice A1 n2 c3] rfl fun au ab ai hu15 aj ak => ?_))
 have al := Fb.mk hc0.ok ai ak
 have ae := hc0.k0 aj
 refine L_box [vi b.Kind, .slice A6 n7 c8] rfl fun am ac an hu24 af ao => ?_
 have ag := Fb.mk ae.ok an ao
 have ad := ae.k0 af
 refine L_as (vb false) rfl (L_nil (W_seq (W_reg (L_pu (P_fa fa58_0 ⟨ab, 0, none⟩ ⟨ab, 0, none⟩ rfl rfl) ?_))))
 have ap := ae.stn af
 have ah := (al.st ap)
 refine L_pu (P_ld ag3 cL ⟨ab, 0, none⟩ (vi a.Kind) rfl (ah.cell rfl)) (L_pu (P_fa fa58_0 ⟨ac, 0, none⟩ ⟨ac, 0, none⟩ rfl rfl) (L_pu (P_ld ag3 cL ⟨ac, 0, none⟩ (vi b.Kind) rfl (ag.cell rfl)) (L_pu (P_cmp a.Kind b.Kind (a.Kind == b.Kind) rfl rfl rfl) (L_mv (vb (a.Kind == b.Kind)) rfl ?_))))
 rcases bool_or (a.Kind == b.Kind) with aa | aa
 ·have H := ite_t H aa
  refine L_rb aa rfl (L_pu (P_fa fa58_1 ⟨ab, 0, none⟩ ⟨ab, 1, none⟩ rfl rfl) (L_rb aa rfl (L_pu (P_ld ag56 cL ⟨ab, 1, none⟩ (.slice A1 n2 c3) rfl (ah.cell rfl)) (L_rb aa rfl (L_pu (P_fa fa58_1 ⟨ac, 0, none⟩ ⟨ac, 1, none⟩ rfl rfl) (L_rb aa rfl (L_pu (P_ld ag56 cL ⟨ac, 1, none⟩ (.slice A6 n7 c8) rfl (ag.cell rfl)) (L_rb aa rfl ?_))))))))
  refine L_call go123 [.slice A1 n2 c3, .slice A6 n7 c8] rfl ((F76.calls am ad.ok a.Pts A1 n2 c3 (hp4.st ad.st) b.Pts A6 n7 c8 (hp9.st ad.st) _ H).mono ?_)
  rintro _ av ⟨r, rfl, H, aq⟩
  have ar := ad.k0 aq
  exact L_pu (P_pick true (vb r) (by exact congrArg Value.bool aa) rfl) (L_as (vb r) rfl (L_nil (W_ret ⟨[vb r], ⟨_, rfl, rfl⟩, r, rfl, H, ar.gr.g0⟩)))
 have H := ite_f H aa
 refine L_pb aa rfl (L_pb aa rfl (L_pb aa rfl (L_pb aa rfl (L_pb aa rfl (L_pu (P_pick false (vb false) (by exact congrArg Value.bool aa) rfl) (L_as (vb false) rfl (L_nil (W_ret ?_))))))))
 exact ⟨[vb false], ⟨_, rfl, rfl⟩, false, rfl, H, ad.gr.g0⟩
end
section
open Go.RowKit
def F77.E (a : List Tag) (b : List Tag) (Q : Bool → Prop) : Prop :=
 (if (a.length : Int) != (b.length : Int) then Q false else (∃ (I32 : Int → Prop) (mu33 : Int → Nat), I32 0 ∧ ∀ (i2 : Int), I32 i2 → (if decide (i2 < (a.length : Int)) then ((0 : Int) ≤ i2 ∧ i2 < (a.length : Int)) ∧ ((0 : Int) ≤ i2 ∧ i2 < (b.length : Int)) ∧ (if !(eqTag (nth a i2) (nth b i2)) then Q false else (-9223372036854775808 ≤ i2) ∧ I32 (i2 + 1) ∧ mu33 (i2 + 1) < mu33 i2) else Q true)))
theorem F77.calls {O : Ob} (w0 : World) (hO : Ok w0 O) (a : List Tag) (A1 : Option Addr) (n2 c3 : Nat) (hp4 : Sl kTag w0 (Fr O) (.slice A1 n2 c3) a) (b : List Tag) (A6 : Option Addr) (n7 c8 : Nat) (hp9 : Sl kTag w0 (Fr O) (.slice A6 n7 c8) b) (Q : Bool → Prop) (h : F77.E a b Q) :
  Ret Tryz.prog 95 [.slice A1 n2 c3, .slice A6 n7 c8] w0 (fun v w' => ∃ (r0 : Bool), v = vb r0 ∧ Q r0 ∧ Gr w0 w' none) := by
 unfold F77.E at h
 have H := h
 clear h
 have hc0 := Ct.init hO
 refine Ret_enter Tryz.func95 rfl 26 rfl [.tmp 4] rfl rfl ?_
 refine W_seq (W_reg (L_as (vb false) rfl (L_nil (W_seq (W_seq (W_reg (L_mv (.slice A1 n2 c3) rfl ?_)))))))
 have a5 := hp4.le
 refine L_pu (P_len Tryz.underlying59 A1 n2 c3 hp4.len rfl) (L_mv (.slice A6 n7 c8) rfl ?_)
 have a6 := hp9.le
 refine L_pu (P_len Tryz.underlying59 A6 n7 c8 hp9.len rfl) (L_pu (P_cmp (a.length : Int) (b.length : Int) ((a.length : Int) != (b.length : Int)) rfl rfl rfl) (L_nil ?_))
 refine W_cond ((a.length : Int) != (b.length : Int)) rfl (fun ad => ?_) (fun ad => ?_)
 ·have H := ite_t H ad
  exact W_seq (W_reg (L_as (vb false) rfl (L_nil (W_ret ⟨[vb false], ⟨_, rfl, rfl⟩, false, rfl, H, hc0.gr.g0⟩))))
 have H := ite_f H ad
 refine W_skip (W_seq (W_seq (W_reg (L_as (vi 0) rfl (L_nil (W_block ?_))))))
 obtain ⟨ap, aq, ae, H⟩ := H
 refine W_loop (α := Int) (fun (sv__ : Int) t aa => match sv__ with | i2 => ap i2 ∧ Has t [(0, .slice A1 n2 c3), (1, .slice A6 n7 c8), (5, vi i2)] ∧ Ct [] w0 aa [] O ∧ Sl kTag aa (Fr ([] ++ O)) (.slice A1 n2 c3) a ∧ Sl kTag aa (Fr ([] ++ O)) (.slice A6 n7 c8) b) (fun (sv__ : Int) => match sv__ with | i2 => aq i2) 0 ⟨ae, (hasI rfl), hc0, hp4, hp9⟩ ?_
 rintro i2 _ aa ⟨ae, ar, af, ab, ag⟩
 obtain ⟨a7, rfl⟩ := Has.ins ar
 have H := H i2 ae
 refine W_seq (W_seq (W_reg (L_mv (vi i2) rfl (L_mv (.slice A1 n2 c3) rfl ?_))))
 have au := ab.le
 refine L_pu (P_len Tryz.underlying59 A1 n2 c3 ab.len rfl) (L_pu (P_cmp i2 (a.length : Int) (decide (i2 < (a.length : Int))) rfl rfl rfl) (L_nil ?_))
 refine W_cond (decide (i2 < (a.length : Int))) rfl (fun ac => ?_) (fun ac => ?_)
 ·have H := ite_t H ac
  refine W_skip (W_seq (W_block (W_seq (W_draw (fun x => Gr aa x none) (by kernel_rfl) (by kernel_rfl) (Gr.drew _) ?_))))
  refine Q_mv (.slice A1 n2 c3) rfl (Q_mv (vi i2) rfl ?_)
  obtain ⟨ai, H⟩ := H
  obtain ⟨aj, a8, av, a9, aw, ax⟩ := ab.get default (by decide) i2 ai
  obtain ⟨rfl, ba, bb⟩ := kTag.op aw
  refine Q_pu (P_ia Tryz.underlying59 se59 A1 aj n2 c3 ab.len i2 rfl av rfl ai) (Q_pu (P_lda ag106 sz106 cQ (aj.add (i2.toNat * 2)) [vs ((nth a i2).Key), vs ((nth a i2).Val)] rfl rfl ax) (Q_mv (.slice A6 n7 c8) rfl (Q_mv (vi i2) rfl ?_)))
  obtain ⟨ak, H⟩ := H
  obtain ⟨al, bc, ay, bd, az, a0⟩ := ag.get default (by decide) i2 ak
  obtain ⟨rfl, be, bf⟩ := kTag.op az
  refine Q_pu (P_ia Tryz.underlying59 se59 A6 al n7 c8 ag.len i2 rfl ay rfl ak) (Q_pu (P_lda ag106 sz106 cQ (al.add (i2.toNat * 2)) [vs ((nth b i2).Key), vs ((nth b i2).Val)] rfl rfl a0) (Q_pu (P_ne _ _ (eqTag (nth a i2) (nth b i2)) (qt106 (nth a i2) (nth b i2)) rfl rfl) (Q_nil fun bg am => ?_)))
  have an := af.k0 am
  refine W_cond (!(eqTag (nth a i2) (nth b i2))) rfl (fun ah => ?_) (fun ah => ?_)
  ·have H := ite_t H ah
   exact W_seq (W_reg (L_as (vb false) rfl (L_nil (W_ret ⟨[vb false], ⟨_, rfl, rfl⟩, false, rfl, H, an.gr.g0⟩))))
  have H := ite_f H ah
  refine W_skip (W_reg (L_mv (vi i2) rfl ?_))
  obtain ⟨a1, H⟩ := H
  have a2 : I64 (i2 + 1) := i64_succ (of_decide_eq_true ac) au a1
  refine L_pu (P_add i2 1 rfl rfl a2) (L_as (vi (i2 + 1)) rfl (L_nil ?_))
  obtain ⟨a3, a4⟩ := H
  have ao := af.stn am
  exact ⟨i2 + 1, a4, a3, (hasI rfl), an, (ab.st ao), (ag.st ao)⟩
 have H := ite_f H ac
 refine W_exit (xin_hit ?_)
 exact W_seq (W_reg (L_as (vb true) rfl (L_nil (W_ret ⟨[vb true], ⟨_, rfl, rfl⟩, true, rfl, H, af.gr.g0⟩))))
end
section
open Go.RowKit
def F36.E (a : Feat) (b : Feat) (Q : Bool → Prop) : Prop :=
 (if a.Id == b.Id then F25.E a.Shape b.Shape (fun r => (if r then F77.E a.Tags b.Tags (fun r2 => Q r2) else Q false)) else Q false)
theorem F36.calls {O : Ob} (w0 : World) (hO : Ok w0 O) (a : Feat) (A2 : Option Addr) (n3 c4 : Nat) (A7 : Option Addr) (n8 c9 : Nat) (hs1 : Lim a.Id) (hp5 : Sl kPt w0 (Fr O) (.slice A2 n3 c4) a.Shape.Pts) (au : Sl kTag w0 (Fr O) (.slice A7 n8 c9) a.Tags) (b : Feat) (ae : Option Addr) (af ag : Nat) (ah : Option Addr) (ai aj : Nat) (ba : Lim b.Id) (av : Sl kPt w0 (Fr O) (.slice ae af ag) b.Shape.Pts) (aw : Sl kTag w0 (Fr O) (.slice ah ai aj) b.Tags) (Q : Bool → Prop) (h : F36.E a b Q) :
  Ret Tryz.prog 60 [.agg #[vs a.Id, vi a.Shape.Kind, .slice A2 n3 c4, .slice A7 n8 c9], .agg #[vs b.Id, vi b.Shape.Kind, .slice ae af ag, .slice ah ai aj]] w0 (fun v w' => ∃ (r0 : Bool), v = vb r0 ∧ Q r0 ∧ Gr w0 w' none) := by
 unfold F36.E at h
 have H := h
 clear h
 have hc0 := Ct.init hO
 refine Ret_enter Tryz.func60 rfl 24 rfl [.tmp 4] rfl rfl ?_
 refine W_seq (W_reg (L_box [vs a.Id, vi a.Shape.Kind, .slice A2 n3 c4, .slice A7 n8 c9] rfl fun bb ac ax hu27 ay az => ?_))
 have a0 := Fb.mk hc0.ok ax az
 have am := hc0.k0 ay
 refine L_box [vs b.Id, vi b.Shape.Kind, .slice ae af ag, .slice ah ai aj] rfl fun a1 ad a2 hu36 ap a3 => ?_
 have an := Fb.mk am.ok a2 a3
 have ak := am.k0 ap
 refine L_as (vb false) rfl (L_nil (W_seq (W_reg (L_pu (P_fa fa61_0 ⟨ac, 0, none⟩ ⟨ac, 0, none⟩ rfl rfl) ?_))))
 have a4 := am.stn ap
 have ao := (a0.st a4)
 refine L_pu (P_ld ag9 cL ⟨ac, 0, none⟩ (vs a.Id) rfl (ao.cell rfl)) (L_pu (P_fa fa61_0 ⟨ad, 0, none⟩ ⟨ad, 0, none⟩ rfl rfl) (L_pu (P_ld ag9 cL ⟨ad, 0, none⟩ (vs b.Id) rfl (an.cell rfl)) (L_pu (P_scmp a.Id b.Id (a.Id == b.Id) rfl rfl rfl) (L_mv (vb (a.Id == b.Id)) rfl ?_))))
 rcases bool_or (a.Id == b.Id) with aa | aa
 ·have H := ite_t H aa
  refine L_rb aa rfl (L_pu (P_fa fa61_1 ⟨ac, 0, none⟩ ⟨ac, 1, none⟩ rfl rfl) (L_rb aa rfl (L_pu (P_lda ag58 sz58 cL ⟨ac, 1, none⟩ [vi a.Shape.Kind, .slice A2 n3 c4] rfl rfl (ao.cells (off := 1) rfl)) (L_rb aa rfl (L_pu (P_fa fa61_1 ⟨ad, 0, none⟩ ⟨ad, 1, none⟩ rfl rfl) (L_rb aa rfl (L_pu (P_lda ag58 sz58 cL ⟨ad, 1, none⟩ [vi b.Shape.Kind, .slice ae af ag] rfl rfl (an.cells (off := 1) rfl)) (L_rb aa rfl ?_))))))))
  refine L_call go94 [.agg #[vi a.Shape.Kind, .slice A2 n3 c4], .agg #[vi b.Shape.Kind, .slice ae af ag]] rfl ((F25.calls a1 ak.ok a.Shape A2 n3 c4 (hp5.st ak.st) b.Shape ae af ag (av.st ak.st) _ H).mono ?_)
  rintro _ a5 ⟨r, rfl, H, aq⟩
  have al := ak.k0 aq
  refine L_pu (P_pick true (vb r) (by exact congrArg Value.bool aa) rfl) (L_mv (vb r) rfl ?_)
  rcases bool_or r with ab | ab
  ·have H := ite_t H ab
   refine L_rb ab rfl (L_pu (P_fa fa61_2 ⟨ac, 0, none⟩ ⟨ac, 3, none⟩ rfl rfl) (L_rb ab rfl ?_))
   have ar := ak.stn aq
   have a6 := (ao.st ar)
   refine L_pu (P_ld ag59 cL ⟨ac, 3, none⟩ (.slice A7 n8 c9) rfl (a6.cell rfl)) (L_rb ab rfl (L_pu (P_fa fa61_2 ⟨ad, 0, none⟩ ⟨ad, 3, none⟩ rfl rfl) (L_rb ab rfl ?_)))
   have a7 := (an.st ar)
   refine L_pu (P_ld ag59 cL ⟨ad, 3, none⟩ (.slice ah ai aj) rfl (a7.cell rfl)) (L_rb ab rfl ?_)
   refine L_call go95 [.slice A7 n8 c9, .slice ah ai aj] rfl ((F77.calls a5 al.ok a.Tags A7 n8 c9 (au.st al.st) b.Tags ah ai aj (aw.st al.st) _ H).mono ?_)
   rintro _ bc ⟨r2, rfl, H, a8⟩
   have a9 := al.k0 a8
   exact L_pu (P_pick true (vb r2) (by exact congrArg Value.bool ab) rfl) (L_as (vb r2) rfl (L_nil (W_ret ⟨[vb r2], ⟨_, rfl, rfl⟩, r2, rfl, H, a9.gr.g0⟩)))
  have H := ite_f H ab
  refine L_pb ab rfl (L_pb ab rfl (L_pb ab rfl (L_pb ab rfl (L_pb ab rfl (L_pu (P_pick false (vb false) (by exact congrArg Value.bool ab) rfl) (L_as (vb false) rfl (L_nil (W_ret ?_))))))))
  exact ⟨[vb false], ⟨_, rfl, rfl⟩, false, rfl, H, al.gr.g0⟩
 have H := ite_f H aa
 refine L_pb aa rfl (L_pb aa rfl (L_pb aa rfl (L_pb aa rfl (L_pb aa rfl (L_pu (P_pick false (vb false) (by exact congrArg Value.bool aa) rfl) (L_mv (vb false) rfl (L_pass (dj := 17) rfl rfl (.inl rfl) (L_pass (dj := 17) rfl rfl (.inl rfl) ?_))))))))
 exact L_pass (dj := 17) rfl rfl (.inl rfl) (L_pass (dj := 17) rfl rfl (.inl rfl) (L_pass (dj := 17) rfl rfl (.inl rfl) (L_pu (P_pick false (vb false) (by exact congrArg Value.bool rfl) rfl) (L_as (vb false) rfl (L_nil (W_ret ⟨[vb false], ⟨_, rfl, rfl⟩, false, rfl, H, ak.gr.g0⟩))))))
end
section
open Go.RowKit
def F113.E (a : List Pt) (b : List Pt) (Q : Bool → Prop) : Prop :=
 (if decide ((a.length : Int) ≤ 12) then Q (decide ((b.length : Int) ≤ 12)) else Q false)
theorem F113.calls {O : Ob} (w0 : World) (hO : Ok w0 O) (a : List Pt) (A1 : Option Addr) (n2 c3 : Nat) (hp4 : Sl kPt w0 (Fr O) (.slice A1 n2 c3) a) (b : List Pt) (A6 : Option Addr) (n7 c8 : Nat) (hp9 : Sl kPt w0 (Fr O) (.slice A6 n7 c8) b) (Q : Bool → Prop) (h : F113.E a b Q) :
  Ret Tryz.prog 159 [.slice A1 n2 c3, .slice A6 n7 c8] w0 (fun v w' => ∃ (r0 : Bool), v = vb r0 ∧ Q r0 ∧ Gr w0 w' none ∧ w' = w0) := by
 unfold F113.E at h
 have H := h
 clear h
 have hc0 := Ct.init hO
 refine Ret_enter Tryz.func159 rfl 13 rfl [.tmp 4] rfl rfl ?_
 refine W_seq (W_reg (L_as (vb false) rfl (L_nil (W_seq (W_reg (L_mv (.slice A1 n2 c3) rfl ?_))))))
 have ab := hp4.le
 refine L_pu (P_len Tryz.underlying56 A1 n2 c3 hp4.len rfl) (L_pu (P_cmp (a.length : Int) 12 (decide ((a.length : Int) ≤ 12)) rfl rfl rfl) (L_mv (vb (decide ((a.length : Int) ≤ 12))) rfl ?_))
 rcases bool_or (decide ((a.length : Int) ≤ 12)) with aa | aa
 ·have H := ite_t H aa
  refine L_rb aa rfl (L_mv (.slice A6 n7 c8) rfl (L_rb aa rfl ?_))
  have ac := hp9.le
  exact L_pu (P_len Tryz.underlying56 A6 n7 c8 hp9.len rfl) (L_rb aa rfl (L_pu (P_cmp (b.length : Int) 12 (decide ((b.length : Int) ≤ 12)) rfl rfl rfl) (L_pu (P_pick true (vb (decide ((b.length : Int) ≤ 12))) (by exact congrArg Value.bool aa) rfl) (L_as (vb (decide ((b.length : Int) ≤ 12))) rfl (L_nil (W_ret ⟨[vb (decide ((b.length : Int) ≤ 12))], ⟨_, rfl, rfl⟩, decide ((b.length : Int) ≤ 12), rfl, H, hc0.gr.g0, rfl⟩))))))
 have H := ite_f H aa
 exact L_pb aa rfl (L_pb aa rfl (L_pb aa rfl (L_pu (P_pick false (vb false) (by exact congrArg Value.bool aa) rfl) (L_as (vb false) rfl (L_nil (W_ret ⟨[vb false], ⟨_, rfl, rfl⟩, false, rfl, H, hc0.gr.g0, rfl⟩))))))
end
section
open Go.RowKit
def F114.E (a : Int) (b : Int) (Q : Int → Prop) : Prop :=
 (if decide (a > b) then Q a else Q b)
theorem F114.calls {O : Ob} (w0 : World) (hO : Ok w0 O) (a : Int) (b : Int) (Q : Int → Prop) (h : F114.E a b Q) :
  Ret Tryz.prog 161 [vi a, vi b] w0 (fun v w' => ∃ (r0 : Int), v = vi r0 ∧ Q r0 ∧ Gr w0 w' none ∧ w' = w0) := by
 unfold F114.E at h
 have H := h
 clear h
 have hc0 := Ct.init hO
 refine Ret_enter Tryz.func161 rfl 10 rfl [.tmp 4] rfl rfl ?_
 refine W_seq (W_reg (L_as (vi 0) rfl (L_nil (W_seq (W_seq (W_reg (L_mv (vi a) rfl (L_mv (vi b) rfl ?_))))))))
 refine L_pu (P_cmp a b (decide (a > b)) rfl rfl rfl) (L_nil ?_)
 refine W_cond (decide (a > b)) rfl (fun hq1 => ?_) (fun hq1 => ?_)
 ·have H := ite_t H hq1
  exact W_seq (W_reg (L_mv (vi a) rfl (L_as (vi a) rfl (L_nil (W_ret ⟨[vi a], ⟨_, rfl, rfl⟩, a, rfl, H, hc0.gr.g0, rfl⟩)))))
 have H := ite_f H hq1
 exact W_skip (W_seq (W_reg (L_mv (vi b) rfl (L_as (vi b) rfl (L_nil (W_ret ⟨[vi b], ⟨_, rfl, rfl⟩, b, rfl, H, hc0.gr.g0, rfl⟩))))))
def F114.m (a : Int) (b : Int) : Int := (if decide (a > b) then a else b)
theorem F114.fn (a : Int) (b : Int) : F114.E a b (fun r => r = F114.m a b) := by
 unfold F114.E F114.m
 (repeat' split) <;> simp_all
end
section
open Go.RowKit
def F95.E (a : List Pt) (b : List Pt) (Q : Int → Prop) : Prop :=
 ((b.length : Int) ≤ 9223372036854775807 → I64 ((b.length : Int) + 1)) ∧ ((0 : Int) ≤ (b.length : Int) + 1 ∧ (b.length : Int) + 1 ≤ (268435456 : Int)) ∧ ((b.length : Int) ≤ 9223372036854775807 → (a.length : Int) ≤ 9223372036854775807 → I64 ((a.length : Int) - 1)) ∧ (∃ (I57 : (List Int) → Int → Prop) (mu58 : (List Int) → Int → Nat), I57 (List.replicate ((b.length : Int) + 1).toNat (0 : Int)) ((a.length : Int) - 1) ∧ ∀ (xs2 : List Int) (i2 : Int), I57 xs2 i2 → (if decide (i2 ≥ 0) then ((b.length : Int) ≤ 9223372036854775807 → I64 ((b.length : Int) + 1)) ∧ ((0 : Int) ≤ (b.length : Int) + 1 ∧ (b.length : Int) + 1 ≤ (268435456 : Int)) ∧ ((b.length : Int) ≤ 9223372036854775807 → I64 ((b.length : Int) - 1)) ∧ (∃ (I116 : (List Int) → Int → Prop) (mu117 : (List Int) → Int → Nat), I116 (List.replicate ((b.length : Int) + 1).toNat (0 : Int)) ((b.length : Int) - 1) ∧ ∀ (xs4 : List Int) (k2 : Int), I116 xs4 k2 → (if decide (k2 ≥ 0) then ((0 : Int) ≤ i2 ∧ i2 < (a.length : Int)) ∧ ((0 : Int) ≤ k2 ∧ k2 < (b.length : Int)) ∧ (if eqPt (nth a i2) (nth b k2) then (I64 (k2 + 1)) ∧ ((0 : Int) ≤ k2 + 1 ∧ k2 + 1 < (xs2.length : Int)) ∧ (I64 ((nth xs2 (k2 + 1)) + 1)) ∧ ((0 : Int) ≤ k2 ∧ k2 < (xs4.length : Int)) ∧ (I64 (k2 - 1)) ∧ I116 (xs4.set k2.toNat ((nth xs2 (k2 + 1)) + 1)) (k2 - 1) ∧ mu117 (xs4.set k2.toNat ((nth xs2 (k2 + 1)) + 1)) (k2 - 1) < mu117 xs4 k2 else ((0 : Int) ≤ k2 ∧ k2 < (xs2.length : Int)) ∧ (I64 (k2 + 1)) ∧ ((0 : Int) ≤ k2 + 1 ∧ k2 + 1 < (xs4.length : Int)) ∧ ((0 : Int) ≤ k2 ∧ k2 < (xs4.length : Int)) ∧ (I64 (k2 - 1)) ∧ I116 (xs4.set k2.toNat (F114.m (nth xs2 k2) (nth xs4 (k2 + 1)))) (k2 - 1) ∧ mu117 (xs4.set k2.toNat (F114.m (nth xs2 k2) (nth xs4 (k2 + 1)))) (k2 - 1) < mu117 xs4 k2) else (I64 (i2 - 1)) ∧ I57 xs4 (i2 - 1) ∧ mu58 xs4 (i2 - 1) < mu58 xs2 i2)) else ((0 : Int) ≤ 0 ∧ 0 < (xs2.length : Int)) ∧ Q (nth xs2 0)))
theorem F95.calls {O : Ob} (w0 : World) (hO : Ok w0 O) (a : List Pt) (A1 : Option Addr) (n2 c3 : Nat) (hp4 : Sl kPt w0 (Fr O) (.slice A1 n2 c3) a) (b : List Pt) (A6 : Option Addr) (n7 c8 : Nat) (hp9 : Sl kPt w0 (Fr O) (.slice A6 n7 c8) b) (Q : Int → Prop) (h : F95.E a b Q) :
  Ret Tryz.prog 160 [.slice A1 n2 c3, .slice A6 n7 c8] w0 (fun v w' => ∃ (r0 : Int), v = vi r0 ∧ Q r0 ∧ Gr w0 w' none) := by
 unfold F95.E at h
 have H := h
 clear h
 have hc0 := Ct.init hO
 refine Ret_enter Tryz.func160 rfl 66 rfl [.tmp 4] rfl rfl ?_
 refine W_seq (W_reg (L_as (vi 0) rfl (L_nil (W_seq (W_reg (L_mv (.slice A6 n7 c8) rfl ?_))))))
 have ba := hp9.le
 refine L_pu (P_len Tryz.underlying56 A6 n7 c8 hp9.len rfl) ?_
 obtain ⟨b5, H⟩ := H
 have b6 := b5 (len_le ba)
 refine L_pu (P_add (b.length : Int) 1 rfl rfl b6) ?_
 obtain ⟨b7, H⟩ := H
 refine L_make (kd := (Kd.int .i64)) ei187 hc0 (0 : Int) (rfl) ((b.length : Int) + 1) rfl rfl b7 fun d6 bb bc bd d7 hr20 aj b8 => ?_
 refine L_as (.slice bb bc bd) rfl (L_nil (W_seq (W_seq (W_reg (L_mv (.slice A1 n2 c3) rfl ?_)))))
 have b9 := (hp4.st aj.st).le
 refine L_pu (P_len Tryz.underlying56 A1 n2 c3 (hp4.st aj.st).len rfl) ?_
 obtain ⟨ca, H⟩ := H
 have cb := ca (len_le ba) (len_le b9)
 refine L_pu (P_sub (a.length : Int) 1 rfl rfl cb) (L_as (vi ((a.length : Int) - 1)) rfl (L_nil (W_block ?_)))
 obtain ⟨cc, cd, au, H⟩ := H
 refine W_loop (α := (List Int) × (Option Addr) × Nat × Nat × Int) (fun (sv__ : (List Int) × (Option Addr) × Nat × Nat × Int) t ak => match sv__ with | (xs2, aa, ae, af, i2) => cc xs2 i2 ∧ Has t [(0, .slice A1 n2 c3), (1, .slice A6 n7 c8), (5, .slice aa ae af), (6, vi i2)] ∧ Ct [] w0 ak [bk aa] O ∧ Sl kPt ak (Fr ([bk aa] ++ O)) (.slice A1 n2 c3) a ∧ Sl kPt ak (Fr ([bk aa] ++ O)) (.slice A6 n7 c8) b ∧ Ow (Kd.int .i64) 3 ak ([bk aa] ++ O) (.slice aa ae af) xs2) (fun (sv__ : (List Int) × (Option Addr) × Nat × Nat × Int) => match sv__ with | (xs2, _, _, _, i2) => cd xs2 i2) ((List.replicate ((b.length : Int) + 1).toNat (0 : Int)), bb, bc, bd, (a.length : Int) - 1) ⟨au, (hasI rfl), aj, (hp4.st aj.st), (hp9.st aj.st), b8⟩ ?_
 rintro ⟨xs2, aa, ae, af, i2⟩ _ ak ⟨au, ce, av, cf, ap, aw⟩
 obtain ⟨d8, rfl⟩ := Has.ins ce
 have H := H xs2 i2 au
 refine W_seq (W_seq (W_reg (L_mv (vi i2) rfl (L_pu (P_cmp i2 0 (decide (i2 ≥ 0)) rfl rfl rfl) (L_nil ?_)))))
 refine W_cond (decide (i2 ≥ 0)) rfl (fun ax => ?_) (fun ax => ?_)
 ·have H := ite_t H ax
  refine W_skip (W_seq (W_block (W_seq (W_reg (L_mv (.slice A6 n7 c8) rfl ?_)))))
  have be := ap.le
  refine L_pu (P_len Tryz.underlying56 A6 n7 c8 ap.len rfl) ?_
  obtain ⟨cg, H⟩ := H
  have ch := cg (len_le be)
  refine L_pu (P_add (b.length : Int) 1 rfl rfl ch) ?_
  obtain ⟨ci, H⟩ := H
  refine L_make (kd := (Kd.int .i64)) ei187 av (0 : Int) (rfl) ((b.length : Int) + 1) rfl rfl ci fun d9 ab ac ad bf hr73 cj ck => ?_
  refine L_as (.slice ab ac ad) rfl (L_nil (W_seq (W_seq (W_reg (L_mv (.slice A6 n7 c8) rfl ?_)))))
  have ay := av.stown _ bf hr73
  refine L_pu (P_len Tryz.underlying56 A6 n7 c8 (ap.st ay).len rfl) ?_
  obtain ⟨cl, H⟩ := H
  have cm := cl (len_le be)
  refine L_pu (P_sub (b.length : Int) 1 rfl rfl cm) (L_as (vi ((b.length : Int) - 1)) rfl (L_nil (W_block ?_)))
  obtain ⟨cn, co, az, H⟩ := H
  have cp := (aw.so _ bf hr73)
  refine W_loop (α := (List Int) × Int) (fun (sv__ : (List Int) × Int) t ag => match sv__ with | (xs4, k2) => cn xs4 k2 ∧ Has t [(0, .slice A1 n2 c3), (1, .slice A6 n7 c8), (5, .slice aa ae af), (6, vi i2), (7, .slice ab ac ad), (8, vi k2)] ∧ Ct [] w0 ag [bk ab, bk aa] O ∧ Sl kPt ag (Fr ([bk ab, bk aa] ++ O)) (.slice A1 n2 c3) a ∧ Sl kPt ag (Fr ([bk ab, bk aa] ++ O)) (.slice A6 n7 c8) b ∧ Ow (Kd.int .i64) 3 ag ([bk ab, bk aa] ++ O) (.slice aa ae af) xs2 ∧ Ow (Kd.int .i64) 3 ag ([bk ab, bk aa] ++ O) (.slice ab ac ad) xs4) (fun (sv__ : (List Int) × Int) => match sv__ with | (xs4, k2) => co xs4 k2) ((List.replicate ((b.length : Int) + 1).toNat (0 : Int)), (b.length : Int) - 1) ⟨az, (hasI rfl), cj, (cf.st ay), (ap.st ay), cp, ck⟩ ?_
  rintro ⟨xs4, k2⟩ _ ag ⟨az, cq, ai, al, am, bg, a0⟩
  obtain ⟨ea, rfl⟩ := Has.ins cq
  have H := H xs4 k2 az
  refine W_seq (W_seq (W_reg (L_mv (vi k2) rfl (L_pu (P_cmp k2 0 (decide (k2 ≥ 0)) rfl rfl rfl) (L_nil ?_)))))
  refine W_cond (decide (k2 ≥ 0)) rfl (fun a1 => ?_) (fun a1 => ?_)
  ·have H := ite_t H a1
   refine W_skip (W_seq (W_block (W_seq (W_draw (fun x => Gr ag x none) (by kernel_rfl) (by kernel_rfl) (Gr.drew _) ?_))))
   refine Q_mv (.slice A1 n2 c3) rfl (Q_mv (vi i2) rfl ?_)
   obtain ⟨bh, H⟩ := H
   obtain ⟨bi, eb, cr, ec, cs, ct⟩ := al.get default (by decide) i2 bh
   obtain rfl := kPt.op cs
   refine Q_pu (P_ia Tryz.underlying56 se56 A1 bi n2 c3 al.len i2 rfl cr rfl bh) (Q_pu (P_lda ag114 sz114 cQ (bi.add (i2.toNat * 2)) [vi ((nth a i2).X), vi ((nth a i2).Y)] rfl rfl ct) (Q_mv (.slice A6 n7 c8) rfl (Q_mv (vi k2) rfl ?_)))
   obtain ⟨bj, H⟩ := H
   obtain ⟨bl, ed, cu, ee, cv, cw⟩ := am.get default (by decide) k2 bj
   obtain rfl := kPt.op cv
   refine Q_pu (P_ia Tryz.underlying56 se56 A6 bl n7 c8 am.len k2 rfl cu rfl bj) (Q_pu (P_lda ag114 sz114 cQ (bl.add (k2.toNat * 2)) [vi ((nth b k2).X), vi ((nth b k2).Y)] rfl rfl cw) (Q_pu (P_eq _ _ (eqPt (nth a i2) (nth b k2)) (qt114 (nth a i2) (nth b k2)) rfl rfl) (Q_nil fun ef ah => ?_)))
   have an := ai.k0 ah
   refine W_cond (eqPt (nth a i2) (nth b k2)) rfl (fun a2 => ?_) (fun a2 => ?_)
   ·have H := ite_t H a2
    refine W_reg (L_mv (.slice ab ac ad) rfl (L_mv (vi k2) rfl (L_mv (.slice aa ae af) rfl (L_mv (vi k2) rfl ?_))))
    obtain ⟨cx, H⟩ := H
    refine L_pu (P_add k2 1 rfl rfl cx) ?_
    obtain ⟨bm, H⟩ := H
    have a3 := (bg.sn ah)
    obtain ⟨bn, eg, cy, cz, c0⟩ := a3.get default (by decide) (k2 + 1) bm
    obtain rfl := Kd.int.op cz
    refine L_pu (P_ia Tryz.underlying187 se187 aa bn ae af a3.len (k2 + 1) rfl cy rfl bm) (L_pu (P_ld ag3 cL (bn.add ((k2 + 1).toNat * 1)) (vi (nth xs2 (k2 + 1))) rfl (c0 0 _ rfl)) ?_)
    obtain ⟨c1, H⟩ := H
    refine L_pu (P_add (nth xs2 (k2 + 1)) 1 rfl rfl c1) ?_
    obtain ⟨a4, H⟩ := H
    have a5 := (a0.sn ah)
    obtain ⟨bo, eh, bp, c2, c4⟩ := a5.get default (by decide) k2 a4
    obtain rfl := Kd.int.op c2
    refine L_pu (P_ia Tryz.underlying187 se187 ab bo ac ad a5.len k2 rfl bp rfl a4) (L_ste0 ab ac ad xs4 a5 k2 a4 bo bp 0 rfl [vi ((nth xs2 (k2 + 1)) + 1)] rfl sz3 rfl ((nth xs2 (k2 + 1)) + 1) [vi (nth xs4 k2)] [vi ((nth xs2 (k2 + 1)) + 1)] c4 rfl rfl rfl fun ei a6 c5 => ?_)
    have c6 := an.wr 0 rfl a6
    refine L_nil (W_reg (L_mv (vi k2) rfl ?_))
    obtain ⟨c7, H⟩ := H
    refine L_pu (P_sub k2 1 rfl rfl c7) (L_as (vi (k2 - 1)) rfl (L_nil ?_))
    obtain ⟨c9, da⟩ := H
    have bq := ai.stn ah
    have br := an.stw 0 rfl a6
    have db := ((al.st bq).st br)
    have dc := ((am.st bq).st br)
    have dd := (an.sw a3 1 0 rfl rfl rfl a6)
    exact ⟨((xs4.set k2.toNat ((nth xs2 (k2 + 1)) + 1)), k2 - 1), da, c9, (hasI rfl), c6, db, dc, dd, c5⟩
   have H := ite_f H a2
   refine W_tail 13 (by kernel_rfl) (by kernel_rfl) fun de aq => ?_
   have ar := an.k0 aq
   refine S_pu (P_move (.slice ab ac ad) rfl) ?_
   refine S_pu (P_move (vi k2) rfl) ?_
   refine S_pu (P_move (.slice aa ae af) rfl) ?_
   refine S_pu (P_move (vi k2) rfl) ?_
   obtain ⟨bs, H⟩ := H
   have a7 := ((bg.sn ah).sn aq)
   obtain ⟨bt, ej, df, dg, dh⟩ := a7.get default (by decide) k2 bs
   obtain rfl := Kd.int.op dg
   refine S_pu (P_ia Tryz.underlying187 se187 aa bt ae af a7.len k2 rfl df rfl bs) ?_
   refine S_pu (P_ld ag3 cL (bt.add (k2.toNat * 1)) (vi (nth xs2 k2)) rfl (dh 0 _ rfl)) ?_
   refine S_pu (P_move (.slice ab ac ad) rfl) ?_
   refine S_pu (P_move (vi k2) rfl) ?_
   obtain ⟨di, H⟩ := H
   refine S_pu (P_add k2 1 rfl rfl di) ?_
   obtain ⟨bu, H⟩ := H
   have ao := ((a0.sn ah).sn aq)
   obtain ⟨bv, ek, dj, dk, dl⟩ := ao.get default (by decide) (k2 + 1) bu
   obtain rfl := Kd.int.op dk
   refine S_pu (P_ia Tryz.underlying187 se187 ab bv ac ad ao.len (k2 + 1) rfl dj rfl bu) ?_
   refine S_pu (P_ld ag3 cL (bv.add ((k2 + 1).toNat * 1)) (vi (nth xs4 (k2 + 1))) rfl (dl 0 _ rfl)) ?_
   refine S_call go161 [vi (nth xs2 k2), vi (nth xs4 (k2 + 1))] rfl (vi (F114.m (nth xs2 k2) (nth xs4 (k2 + 1)))) ((F114.calls de ar.ok (nth xs2 k2) (nth xs4 (k2 + 1)) _ (F114.fn (nth xs2 k2) (nth xs4 (k2 + 1)))).mono ?_) ?_
   ·rintro _ w ⟨r, rfl, rfl, _, rfl⟩
    exact ⟨rfl, rfl⟩
   obtain ⟨a8, H⟩ := H
   obtain ⟨bw, el, bx, dm, dn⟩ := ao.get default (by decide) k2 a8
   obtain rfl := Kd.int.op dm
   refine S_pu (P_ia Tryz.underlying187 se187 ab bw ac ad ao.len k2 rfl bx rfl a8) ?_
   refine S_nil ?_
   refine L_ste0 ab ac ad xs4 ao k2 a8 bw bx 0 rfl [vi (F114.m (nth xs2 k2) (nth xs4 (k2 + 1)))] rfl sz3 rfl (F114.m (nth xs2 k2) (nth xs4 (k2 + 1))) [vi (nth xs4 k2)] [vi (F114.m (nth xs2 k2) (nth xs4 (k2 + 1)))] dn rfl rfl rfl fun em a9 dp => ?_
   have dq := ar.wr 0 rfl a9
   refine L_nil (W_reg (L_mv (vi k2) rfl ?_))
   obtain ⟨dr, H⟩ := H
   refine L_pu (P_sub k2 1 rfl rfl dr) (L_as (vi (k2 - 1)) rfl (L_nil ?_))
   obtain ⟨ds, dt⟩ := H
   have bz := ai.stn ah
   have b0 := an.stn aq
   have b1 := ar.stw 0 rfl a9
   have du := (((al.st bz).st b0).st b1)
   have dv := (((am.st bz).st b0).st b1)
   have dw := (ar.sw a7 1 0 rfl rfl rfl a9)
   exact ⟨((xs4.set k2.toNat (F114.m (nth xs2 k2) (nth xs4 (k2 + 1)))), k2 - 1), dt, ds, (hasI rfl), dq, du, dv, dw, dp⟩
  have H := ite_f H a1
  refine W_exit (xin_hit ?_)
  refine W_reg (L_mv (.slice ab ac ad) rfl (L_as (.slice ab ac ad) rfl (L_nil (W_reg (L_mv (vi i2) rfl ?_)))))
  obtain ⟨dx, H⟩ := H
  refine L_pu (P_sub i2 1 rfl rfl dx) (L_as (vi (i2 - 1)) rfl (L_nil ?_))
  have dy := ai.drop 1 rfl
  obtain ⟨dz, d0⟩ := H
  have b2 := ai.std 1 rfl
  have d1 := (ai.sd a0 0 1 rfl rfl rfl)
  exact ⟨(xs4, ab, ac, ad, i2 - 1), d0, dz, (hasI rfl), dy, (al.st b2), (am.st b2), d1⟩
 have H := ite_f H ax
 refine W_exit (xin_hit ?_)
 refine W_seq (W_reg (L_mv (.slice aa ae af) rfl ?_))
 obtain ⟨b3, H⟩ := H
 obtain ⟨b4, en, d2, d3, d4⟩ := aw.get default (by decide) 0 b3
 obtain rfl := Kd.int.op d3
 refine L_pu (P_ia Tryz.underlying187 se187 aa b4 ae af aw.len 0 rfl d2 rfl b3) (L_pu (P_ld ag3 cL (b4.add ((0 : Int).toNat * 1)) (vi (nth xs2 0)) rfl (d4 0 _ rfl)) (L_as (vi (nth xs2 0)) rfl (L_nil (W_ret ?_))))
 have d5 := av.drop 0 rfl
 exact ⟨[vi (nth xs2 0)], ⟨_, rfl, rfl⟩, (nth xs2 0), rfl, H, d5.gr.g0⟩
end
section
open Go.RowKit
def F44.E (a : List Pt) (b : List Pt) (Q : List Pair → Prop) : Prop :=
 (∃ (I50 : (List Pair) → Int → Int → Prop) (mu51 : (List Pair) → Int → Int → Nat), I50 ([] : List Pair) 0 0 ∧ ∀ (xs2 : List Pair) (i2 : Int) (k2 : Int), I50 xs2 i2 k2 → (if decide (i2 < (a.length : Int)) then (if decide (k2 < (b.length : Int)) then F113.E a b (fun r => (if r then ((0 : Int) ≤ i2 ∧ i2 < (a.length : Int)) ∧ ((0 : Int) ≤ k2 ∧ k2 < (b.length : Int)) ∧ (if eqPt (nth a i2) (nth b k2) then (xs2.length + ([(⟨i2, k2⟩ : Pair)] : List Pair).length ≤ 268435456) ∧ (-9223372036854775808 ≤ i2) ∧ (-9223372036854775808 ≤ k2) ∧ I50 (xs2 ++ ([(⟨i2, k2⟩ : Pair)] : List Pair)) (i2 + 1) (k2 + 1) ∧ mu51 (xs2 ++ ([(⟨i2, k2⟩ : Pair)] : List Pair)) (i2 + 1) (k2 + 1) < mu51 xs2 i2 k2 else (-9223372036854775808 ≤ i2) ∧ ((0 : Int) ≤ i2 + 1 ∧ (i2 + 1 : Int) ≤ (a.length : Int) ∧ (a.length : Int) ≤ (a.length : Int)) ∧ ((0 : Int) ≤ k2 ∧ (k2 : Int) ≤ (b.length : Int) ∧ (b.length : Int) ≤ (b.length : Int)) ∧ (∃ q : Int, F95.E ((a.drop (i2 + 1).toNat).take ((a.length : Int).toNat - (i2 + 1).toNat)) ((b.drop k2.toNat).take ((b.length : Int).toNat - k2.toNat)) (fun x => x = q) ∧ ((0 : Int) ≤ i2 ∧ (i2 : Int) ≤ (a.length : Int) ∧ (a.length : Int) ≤ (a.length : Int)) ∧ (-9223372036854775808 ≤ k2) ∧ ((0 : Int) ≤ k2 + 1 ∧ (k2 + 1 : Int) ≤ (b.length : Int) ∧ (b.length : Int) ≤ (b.length : Int)) ∧ (∃ q2 : Int, F95.E ((a.drop i2.toNat).take ((a.length : Int).toNat - i2.toNat)) ((b.drop (k2 + 1).toNat).take ((b.length : Int).toNat - (k2 + 1).toNat)) (fun x => x = q2) ∧ (if decide (q ≥ q2) then (-9223372036854775808 ≤ i2) ∧ I50 xs2 (i2 + 1) k2 ∧ mu51 xs2 (i2 + 1) k2 < mu51 xs2 i2 k2 else (-9223372036854775808 ≤ k2) ∧ I50 xs2 i2 (k2 + 1) ∧ mu51 xs2 i2 (k2 + 1) < mu51 xs2 i2 k2)))) else Q xs2)) else Q xs2) else Q xs2))
theorem F44.calls {O : Ob} (w0 : World) (hO : Ok w0 O) (a : List Pt) (A1 : Option Addr) (n2 c3 : Nat) (hp4 : Sl kPt w0 (Fr O) (.slice A1 n2 c3) a) (b : List Pt) (A6 : Option Addr) (n7 c8 : Nat) (hp9 : Sl kPt w0 (Fr O) (.slice A6 n7 c8) b) (Q : List Pair → Prop) (h : F44.E a b Q) :
  Ret Tryz.prog 155 [.slice A1 n2 c3, .slice A6 n7 c8] w0 (fun v w' => ∃ (r0 : List Pair) (A0 : Option Addr) (n0 c0 : Nat), v = .slice A0 n0 c0 ∧ Q r0 ∧ Gr w0 w' none ∧ Ok w' ([bk A0] ++ O) ∧ (∀ b, some b ∈ [bk A0] → w0.heap.size ≤ b) ∧ Ow kPair 186 w' ([bk A0] ++ O) (.slice A0 n0 c0) r0) := by
 unfold F44.E at h
 have H := h
 clear h
 have hc0 := Ct.init hO
 refine Ret_enter Tryz.func155 rfl 67 rfl [.tmp 4] rfl rfl ?_
 refine W_seq (W_reg (L_as (.slice none 0 0) rfl (L_nil (W_seq (W_reg (L_lit (kd := kPair) ei156 hc0 ([] : List Pair) (cells := []) rfl (fun _ => by kernel_rfl) fun dm a2 a3 a4 dn hr16 au bz => ?_))))))
 refine L_as (.slice a2 a3 a4) rfl (L_nil (W_seq (W_reg (L_as (vi 0) rfl (L_nil (W_seq (W_reg (L_as (vi 0) rfl ?_))))))))
 refine L_nil (W_seq (W_block ?_))
 obtain ⟨b0, b1, av, H⟩ := H
 refine W_loop (α := (List Pair) × (Option Addr) × Nat × Nat × Int × Int) (fun (sv__ : (List Pair) × (Option Addr) × Nat × Nat × Int × Int) t ak => match sv__ with | (xs2, aa, ab, ac, i2, k2) => b0 xs2 i2 k2 ∧ Has t [(0, .slice A1 n2 c3), (1, .slice A6 n7 c8), (5, .slice aa ab ac), (6, vi i2), (7, vi k2)] ∧ Ct [] w0 ak [bk aa] O ∧ Sl kPt ak (Fr ([bk aa] ++ O)) (.slice A1 n2 c3) a ∧ Sl kPt ak (Fr ([bk aa] ++ O)) (.slice A6 n7 c8) b ∧ Ow kPair 186 ak ([bk aa] ++ O) (.slice aa ab ac) xs2) (fun (sv__ : (List Pair) × (Option Addr) × Nat × Nat × Int × Int) => match sv__ with | (xs2, _, _, _, i2, k2) => b1 xs2 i2 k2) (([] : List Pair), a2, a3, a4, 0, 0) ⟨av, (hasI rfl), au, (hp4.st au.st), (hp9.st au.st), bz⟩ ?_
 rintro ⟨xs2, aa, ab, ac, i2, k2⟩ _ ak ⟨av, b2, af, ah, ai, al⟩
 obtain ⟨dp, rfl⟩ := Has.ins b2
 have H := H xs2 i2 k2 av
 refine W_seq (W_seq (W_reg (L_mv (vi i2) rfl (L_mv (.slice A1 n2 c3) rfl ?_))))
 have aw := ah.le
 refine L_pu (P_len Tryz.underlying56 A1 n2 c3 ah.len rfl) (L_pu (P_cmp i2 (a.length : Int) (decide (i2 < (a.length : Int))) rfl rfl rfl) (L_mv (vb (decide (i2 < (a.length : Int)))) rfl ?_))
 rcases bool_or (decide (i2 < (a.length : Int))) with ad | ad
 ·have H := ite_t H ad
  refine L_rb ad rfl (L_mv (vi k2) rfl (L_rb ad rfl (L_mv (.slice A6 n7 c8) rfl (L_rb ad rfl ?_))))
  have ax := ai.le
  refine L_pu (P_len Tryz.underlying56 A6 n7 c8 ai.len rfl) (L_rb ad rfl (L_pu (P_cmp k2 (b.length : Int) (decide (k2 < (b.length : Int))) rfl rfl rfl) (L_pu (P_pick true (vb (decide (k2 < (b.length : Int)))) (by exact congrArg Value.bool ad) rfl) (L_mv (vb (decide (k2 < (b.length : Int)))) rfl ?_))))
  rcases bool_or (decide (k2 < (b.length : Int))) with ae | ae
  ·have H := ite_t H ae
   refine L_rb ae rfl (L_mv (.slice A1 n2 c3) rfl (L_rb ae rfl (L_mv (.slice A6 n7 c8) rfl (L_rb ae rfl ?_))))
   refine L_call go159 [.slice A1 n2 c3, .slice A6 n7 c8] rfl ((F113.calls ak af.ok a A1 n2 c3 ah b A6 n7 c8 ai _ H).mono ?_)
   rintro _ b3 ⟨r, rfl, H, am, _⟩
   have an := af.k0 am
   refine L_pu (P_pick true (vb r) (by exact congrArg Value.bool ae) rfl) (L_nil ?_)
   refine W_cond r rfl (fun ay => ?_) (fun ay => ?_)
   ·have H := ite_t H ay
    refine W_skip (W_block (W_block (W_seq (W_draw (fun x => Gr b3 x none) (by kernel_rfl) (by kernel_rfl) (Gr.drew _) ?_))))
    refine Q_mv (.slice A1 n2 c3) rfl (Q_mv (vi i2) rfl ?_)
    obtain ⟨a5, H⟩ := H
    have ag := af.stn am
    obtain ⟨a6, dq, b4, dr, b5, b6⟩ := (ah.st ag).get default (by decide) i2 a5
    obtain rfl := kPt.op b5
    refine Q_pu (P_ia Tryz.underlying56 se56 A1 a6 n2 c3 (ah.st ag).len i2 rfl b4 rfl a5) (Q_pu (P_lda ag114 sz114 cQ (a6.add (i2.toNat * 2)) [vi ((nth a i2).X), vi ((nth a i2).Y)] rfl rfl b6) (Q_mv (.slice A6 n7 c8) rfl (Q_mv (vi k2) rfl ?_)))
    obtain ⟨a7, H⟩ := H
    obtain ⟨a8, ds, b7, dt, b8, b9⟩ := (ai.st ag).get default (by decide) k2 a7
    obtain rfl := kPt.op b8
    refine Q_pu (P_ia Tryz.underlying56 se56 A6 a8 n7 c8 (ai.st ag).len k2 rfl b7 rfl a7) (Q_pu (P_lda ag114 sz114 cQ (a8.add (k2.toNat * 2)) [vi ((nth b k2).X), vi ((nth b k2).Y)] rfl rfl b9) (Q_pu (P_eq _ _ (eqPt (nth a i2) (nth b k2)) (qt114 (nth a i2) (nth b k2)) rfl rfl) (Q_as (vb (eqPt (nth a i2) (nth b k2))) rfl (Q_nil fun ca ao => ?_))))
    have aj := an.k0 ao
    refine W_cond (eqPt (nth a i2) (nth b k2)) rfl (fun az => ?_) (fun az => ?_)
    ·have H := ite_t H az
     refine W_seq (W_reg (L_mv (.slice aa ab ac) rfl (L_mv (vi i2) rfl (L_mv (vi k2) rfl (L_pu (P_build (.agg #[vi i2, vi k2]) (fun _ => by kernel_rfl)) (L_lit (kd := kPair) ei156 aj ([(⟨i2, k2⟩ : Pair)] : List Pair) (cells := [vi i2, vi k2]) ⟨[vi i2, vi k2], _, rfl, (kPair.mk _ _ (⟨i2, k2⟩ : Pair)), rfl⟩ (fun _ => by kernel_rfl) fun du cb cc cd a9 hr92 ce cf => ?_))))))
     obtain ⟨cg, H⟩ := H
     have ch := (((al.sn am).sn ao).so _ a9 hr92)
     refine L_app ei156 ce (.slice aa ab ac) xs2 ([(⟨i2, k2⟩ : Pair)] : List Pair) rfl ch (.slice cb cc cd) rfl cf.sx 1 rfl cg fun dv ba bb bc dw bd a0 ci => ?_
     refine L_as (.slice ba bb bc) rfl (L_nil (W_seq (W_reg (L_mv (vi i2) rfl ?_))))
     obtain ⟨cj, H⟩ := H
     have ck : I64 (i2 + 1) := i64_succ (of_decide_eq_true ad) aw cj
     refine L_pu (P_add i2 1 rfl rfl ck) (L_as (vi (i2 + 1)) rfl (L_nil (W_reg (L_mv (vi k2) rfl ?_))))
     obtain ⟨cl, H⟩ := H
     have cm : I64 (k2 + 1) := i64_succ (of_decide_eq_true ae) ax cl
     refine L_pu (P_add k2 1 rfl rfl cm) (L_as (vi (k2 + 1)) rfl (L_nil ?_))
     have cn := a0.drop 0 rfl
     obtain ⟨co, cp⟩ := H
     have be := an.stn ao
     have bf := aj.stown _ a9 hr92
     have bg := a0.std 0 rfl
     have cq := (((((ah.st ag).st be).st bf).st bd).st bg)
     have cr := (((((ai.st ag).st be).st bf).st bd).st bg)
     have cs := (a0.sd ci 1 0 rfl rfl rfl)
     exact ⟨((xs2 ++ ([(⟨i2, k2⟩ : Pair)] : List Pair)), ba, bb, bc, i2 + 1, k2 + 1), cp, co, (hasI rfl), cn, cq, cr, cs⟩
    have H := ite_f H az
    refine W_seq (W_draw (fun x => Gr ca x none) (by kernel_rfl) (by kernel_rfl) (Gr.drew _) ?_)
    refine Q_mv (.slice A1 n2 c3) rfl (Q_mv (vi i2) rfl ?_)
    obtain ⟨ct, H⟩ := H
    have cu : I64 (i2 + 1) := i64_succ (of_decide_eq_true ad) aw ct
    refine Q_pu (P_add i2 1 rfl rfl cu) ?_
    obtain ⟨cv, H⟩ := H
    have bh := an.stn ao
    have ap := ((ah.st ag).st bh)
    refine Q_cuts Tryz.underlying56 se56 A1 n2 c3 a rfl ap (i2 + 1) (a.length : Int) rfl (bd_none ap.len) cv fun bi bj bl cw => ?_
    refine Q_mv (.slice A6 n7 c8) rfl (Q_mv (vi k2) rfl ?_)
    obtain ⟨cx, H⟩ := H
    have aq := ((ai.st ag).st bh)
    refine Q_cuts Tryz.underlying56 se56 A6 n7 c8 b rfl aq k2 (b.length : Int) rfl (bd_none aq.len) cx fun bm bn bo cy => ?_
    obtain ⟨q, cz, H⟩ := H
    refine Q_call go160 [.slice bi bj bl, .slice bm bn bo] rfl (vi q) (fun w g => (F95.calls w (aj.k0 g).ok ((a.drop (i2 + 1).toNat).take ((a.length : Int).toNat - (i2 + 1).toNat)) bi bj bl (cw.st (.new _ g)) ((b.drop k2.toNat).take ((b.length : Int).toNat - k2.toNat)) bm bn bo (cy.st (.new _ g)) _ cz).mono ?_) ?_
    ·rintro _ w ⟨r, rfl, rfl, g2⟩
     exact ⟨rfl, Gr.t0 g g2⟩
    refine Q_mv (.slice A1 n2 c3) rfl (Q_mv (vi i2) rfl ?_)
    obtain ⟨c1, H⟩ := H
    refine Q_cuts Tryz.underlying56 se56 A1 n2 c3 a rfl ap i2 (a.length : Int) rfl (bd_none ap.len) c1 fun bp bq br c2 => ?_
    refine Q_mv (.slice A6 n7 c8) rfl (Q_mv (vi k2) rfl ?_)
    obtain ⟨c4, H⟩ := H
    have c5 : I64 (k2 + 1) := i64_succ (of_decide_eq_true ae) ax c4
    refine Q_pu (P_add k2 1 rfl rfl c5) ?_
    obtain ⟨c6, H⟩ := H
    refine Q_cuts Tryz.underlying56 se56 A6 n7 c8 b rfl aq (k2 + 1) (b.length : Int) rfl (bd_none aq.len) c6 fun bs bt bu c7 => ?_
    obtain ⟨q2, c9, H⟩ := H
    refine Q_call go160 [.slice bp bq br, .slice bs bt bu] rfl (vi q2) (fun w g => (F95.calls w (aj.k0 g).ok ((a.drop i2.toNat).take ((a.length : Int).toNat - i2.toNat)) bp bq br (c2.st (.new _ g)) ((b.drop (k2 + 1).toNat).take ((b.length : Int).toNat - (k2 + 1).toNat)) bs bt bu (c7.st (.new _ g)) _ c9).mono ?_) ?_
    ·rintro _ w ⟨r, rfl, rfl, g2⟩
     exact ⟨rfl, Gr.t0 g g2⟩
    refine Q_pu (P_cmp q q2 (decide (q ≥ q2)) rfl rfl rfl) (Q_as (vb (decide (q ≥ q2))) rfl (Q_nil fun dx ar => ?_))
    have bv := aj.k0 ar
    refine W_cond (decide (q ≥ q2)) rfl (fun a1 => ?_) (fun a1 => ?_)
    ·have H := ite_t H a1
     refine W_reg (L_mv (vi i2) rfl ?_)
     obtain ⟨da, H⟩ := H
     have db : I64 (i2 + 1) := i64_succ (of_decide_eq_true ad) aw da
     refine L_pu (P_add i2 1 rfl rfl db) (L_as (vi (i2 + 1)) rfl (L_nil ?_))
     obtain ⟨dc, dd⟩ := H
     have bw := aj.stn ar
     have de := (((al.sn am).sn ao).sn ar)
     exact ⟨(xs2, aa, ab, ac, i2 + 1, k2), dd, dc, (hasI rfl), bv, (ap.st bw), (aq.st bw), de⟩
    have H := ite_f H a1
    refine W_reg (L_mv (vi k2) rfl ?_)
    obtain ⟨df, H⟩ := H
    have dg : I64 (k2 + 1) := i64_succ (of_decide_eq_true ae) ax df
    refine L_pu (P_add k2 1 rfl rfl dg) (L_as (vi (k2 + 1)) rfl (L_nil ?_))
    obtain ⟨dh, di⟩ := H
    have bx := aj.stn ar
    have dk := (((al.sn am).sn ao).sn ar)
    exact ⟨(xs2, aa, ab, ac, i2, k2 + 1), di, dh, (hasI rfl), bv, (ap.st bx), (aq.st bx), dk⟩
   have H := ite_f H ay
   refine W_exit (xin_hit ?_)
   refine W_seq (W_reg (L_mv (.slice aa ab ac) rfl (L_as (.slice aa ab ac) rfl (L_nil (W_ret ?_)))))
   have dl := (al.sn am)
   exact ⟨[.slice aa ab ac], ⟨_, rfl, rfl⟩, xs2, aa, ab, ac, rfl, H, an.gr.g0, an.ok, an.ge, dl⟩
  have H := ite_f H ae
  refine L_pb ae rfl (L_pb ae rfl (L_pb ae rfl (L_pu (P_pick false (vb false) (by exact congrArg Value.bool ae) rfl) (L_nil (W_cf (b := false) rfl rfl ?_)))))
  refine W_exit (xin_hit ?_)
  exact W_seq (W_reg (L_mv (.slice aa ab ac) rfl (L_as (.slice aa ab ac) rfl (L_nil (W_ret ⟨[.slice aa ab ac], ⟨_, rfl, rfl⟩, xs2, aa, ab, ac, rfl, H, af.gr.g0, af.ok, af.ge, al⟩)))))
 have H := ite_f H ad
 refine L_pb ad rfl (L_pb ad rfl (L_pb ad rfl (L_pb ad rfl (L_pu (P_pick false (vb false) (by exact congrArg Value.bool ad) rfl) (L_mv (vb false) rfl (L_pass (dj := 19) rfl rfl (.inl rfl) (L_pass (dj := 19) rfl rfl (.inl rfl) (L_pass (dj := 19) rfl rfl (.inl rfl) ?_))))))))
 refine L_pu (P_pick false (vb false) (by exact congrArg Value.bool rfl) rfl) (L_nil (W_cf (b := false) rfl rfl ?_))
 refine W_exit (xin_hit ?_)
 exact W_seq (W_reg (L_mv (.slice aa ab ac) rfl (L_as (.slice aa ab ac) rfl (L_nil (W_ret ⟨[.slice aa ab ac], ⟨_, rfl, rfl⟩, xs2, aa, ab, ac, rfl, H, af.gr.g0, af.ok, af.ge, al⟩)))))
end
section
open Go.RowKit
def F124.E (p : List Pair) (a : Int) (Q : Int → Prop) : Prop :=
 (∃ (I18 : Int → Prop) (mu19 : Int → Nat), I18 0 ∧ ∀ (i2 : Int), I18 i2 → (if decide (i2 < (p.length : Int)) then ((0 : Int) ≤ i2 ∧ i2 < (p.length : Int)) ∧ (if ((nth p i2).A) == a then ((0 : Int) ≤ i2 ∧ i2 < (p.length : Int)) ∧ Q ((nth p i2).B) else (-9223372036854775808 ≤ i2) ∧ I18 (i2 + 1) ∧ mu19 (i2 + 1) < mu19 i2) else Q (-1)))
theorem F124.calls {O : Ob} (w0 : World) (hO : Ok w0 O) (p : List Pair) (A1 : Option Addr) (n2 c3 : Nat) (hp4 : Sl kPair w0 (Fr O) (.slice A1 n2 c3) p) (a : Int) (Q : Int → Prop) (h : F124.E p a Q) :
  Ret Tryz.prog 156 [.slice A1 n2 c3, vi a] w0 (fun v w' => ∃ (r0 : Int), v = vi r0 ∧ Q r0 ∧ Gr w0 w' none) := by
 unfold F124.E at h
 have H := h
 clear h
 have hc0 := Ct.init hO
 refine Ret_enter Tryz.func156 rfl 24 rfl [.tmp 4] rfl rfl ?_
 refine W_seq (W_reg (L_as (vi 0) rfl (L_nil (W_seq (W_seq (W_reg (L_as (vi 0) rfl (L_nil ?_))))))))
 refine W_block ?_
 obtain ⟨ak, al, ae, H⟩ := H
 refine W_loop (α := Int) (fun (sv__ : Int) t af => match sv__ with | i2 => ak i2 ∧ Has t [(0, .slice A1 n2 c3), (1, vi a), (5, vi i2)] ∧ Ct [] w0 af [] O ∧ Sl kPair af (Fr ([] ++ O)) (.slice A1 n2 c3) p) (fun (sv__ : Int) => match sv__ with | i2 => al i2) 0 ⟨ae, (hasI rfl), hc0, hp4⟩ ?_
 rintro i2 _ af ⟨ae, am, ag, aa⟩
 obtain ⟨a0, rfl⟩ := Has.ins am
 have H := H i2 ae
 refine W_seq (W_seq (W_reg (L_mv (vi i2) rfl (L_mv (.slice A1 n2 c3) rfl ?_))))
 have an := aa.le
 refine L_pu (P_len Tryz.underlying156 A1 n2 c3 aa.len rfl) (L_pu (P_cmp i2 (p.length : Int) (decide (i2 < (p.length : Int))) rfl rfl rfl) (L_nil ?_))
 refine W_cond (decide (i2 < (p.length : Int))) rfl (fun ab => ?_) (fun ab => ?_)
 ·have H := ite_t H ab
  refine W_skip (W_seq (W_block (W_seq (W_reg (L_mv (.slice A1 n2 c3) rfl (L_mv (vi i2) rfl ?_))))))
  obtain ⟨ai, H⟩ := H
  obtain ⟨ac, a1, ao, a2, ap, aq⟩ := aa.get default (by decide) i2 ai
  obtain rfl := kPair.op ap
  refine L_pu (P_ia Tryz.underlying156 se156 A1 ac n2 c3 aa.len i2 rfl ao rfl ai) (L_pu (P_fa fa186_0 (ac.add (i2.toNat * 2)) ((ac.add (i2.toNat * 2)).add 0) rfl rfl) (L_pu (P_ld ag3 cL ((ac.add (i2.toNat * 2)).add 0) (vi ((nth p i2).A)) rfl (aq 0 _ rfl)) (L_mv (vi a) rfl (L_pu (P_cmp ((nth p i2).A) a (((nth p i2).A) == a) rfl rfl rfl) (L_nil ?_)))))
  refine W_cond (((nth p i2).A) == a) rfl (fun ah => ?_) (fun ah => ?_)
  ·have H := ite_t H ah
   refine W_seq (W_reg (L_mv (.slice A1 n2 c3) rfl (L_mv (vi i2) rfl ?_)))
   obtain ⟨aj, H⟩ := H
   obtain ⟨ad, a3, ar, a4, au, av⟩ := aa.get default (by decide) i2 aj
   obtain rfl := kPair.op au
   exact L_pu (P_ia Tryz.underlying156 se156 A1 ad n2 c3 aa.len i2 rfl ar rfl aj) (L_pu (P_fa fa186_1 (ad.add (i2.toNat * 2)) ((ad.add (i2.toNat * 2)).add 1) rfl rfl) (L_pu (P_ld ag3 cL ((ad.add (i2.toNat * 2)).add 1) (vi ((nth p i2).B)) rfl (av 1 _ rfl)) (L_as (vi ((nth p i2).B)) rfl (L_nil (W_ret ⟨[vi ((nth p i2).B)], ⟨_, rfl, rfl⟩, (nth p i2).B, rfl, H, ag.gr.g0⟩)))))
  have H := ite_f H ah
  refine W_skip (W_reg (L_mv (vi i2) rfl ?_))
  obtain ⟨aw, H⟩ := H
  have ax : I64 (i2 + 1) := i64_succ (of_decide_eq_true ab) an aw
  refine L_pu (P_add i2 1 rfl rfl ax) (L_as (vi (i2 + 1)) rfl (L_nil ?_))
  obtain ⟨ay, az⟩ := H
  exact ⟨i2 + 1, az, ay, (hasI rfl), ag, aa⟩
 have H := ite_f H ab
 refine W_exit (xin_hit ?_)
 exact W_seq (W_reg (L_as (vi (-1)) rfl (L_nil (W_ret ⟨[vi (-1)], ⟨_, rfl, rfl⟩, (-1), rfl, H, ag.gr.g0⟩))))
end
section
open Go.RowKit
def F96.E (o : List Pt) (a : List Pt) (b : List Pt) (Q : List Pt → Bool → Prop) : Prop :=
 F76.E a o (fun r => (if r then Q b true else F76.E b o (fun r2 => (if r2 then Q a true else F76.E a b (fun r3 => (if r3 then Q a true else Q [] false))))))
theorem F96.calls {O : Ob} (w0 : World) (hO : Ok w0 O) (o : List Pt) (A1 : Option Addr) (n2 c3 : Nat) (hp4 : Sl kPt w0 (Fr O) (.slice A1 n2 c3) o) (a : List Pt) (A6 : Option Addr) (n7 c8 : Nat) (hp9 : Sl kPt w0 (Fr O) (.slice A6 n7 c8) a) (b : List Pt) (aa : Option Addr) (ab ac : Nat) (af : Sl kPt w0 (Fr O) (.slice aa ab ac) b) (Q : List Pt → Bool → Prop) (h : F96.E o a b Q) :
  Ret Tryz.prog 157 [.slice A1 n2 c3, .slice A6 n7 c8, .slice aa ab ac] w0 (fun v w' => ∃ (r0 : List Pt) (r1 : Bool) (A0 : Option Addr) (n0 c0 : Nat), v = .tuple #[.slice A0 n0 c0, vb r1] ∧ Q r0 r1 ∧ Gr w0 w' none ∧ Sl kPt w' (Fr O) (.slice A0 n0 c0) r0) := by
 unfold F96.E at h
 have H := h
 clear h
 have hc0 := Ct.init hO
 refine Ret_enter Tryz.func157 rfl 23 rfl [.tmp 6, .tmp 7] rfl rfl ?_
 refine W_seq (W_reg (L_as (.slice none 0 0) rfl (L_as (vb false) rfl (L_nil (W_seq (W_block (W_seq (W_reg ?_))))))))
 refine L_mv (.slice A6 n7 c8) rfl (L_mv (.slice A1 n2 c3) rfl ?_)
 refine L_call go123 [.slice A6 n7 c8, .slice A1 n2 c3] rfl ((F76.calls w0 hc0.ok a A6 n7 c8 hp9 o A1 n2 c3 hp4 _ H).mono ?_)
 rintro _ ak ⟨r, rfl, H, al⟩
 have ad := hc0.k0 al
 refine L_as (vb r) rfl (L_nil ?_)
 refine W_cond r rfl (fun ag => ?_) (fun ag => ?_)
 ·have H := ite_t H ag
  exact W_seq (W_reg (L_mv (.slice aa ab ac) rfl (L_as (.slice aa ab ac) rfl (L_as (vb true) rfl (L_nil (W_ret ⟨[.slice aa ab ac, vb true], ⟨_, rfl, ⟨_, rfl, rfl⟩⟩, b, true, aa, ab, ac, rfl, H, ad.gr.g0, (af.st ad.st)⟩))))))
 have H := ite_f H ag
 refine W_seq (W_reg (L_mv (.slice aa ab ac) rfl (L_mv (.slice A1 n2 c3) rfl ?_)))
 refine L_call go123 [.slice aa ab ac, .slice A1 n2 c3] rfl ((F76.calls ak ad.ok b aa ab ac (af.st ad.st) o A1 n2 c3 (hp4.st ad.st) _ H).mono ?_)
 rintro _ am ⟨r2, rfl, H, an⟩
 have ae := ad.k0 an
 refine L_as (vb r2) rfl (L_nil ?_)
 refine W_cond r2 rfl (fun ah => ?_) (fun ah => ?_)
 ·have H := ite_t H ah
  exact W_seq (W_reg (L_mv (.slice A6 n7 c8) rfl (L_as (.slice A6 n7 c8) rfl (L_as (vb true) rfl (L_nil (W_ret ⟨[.slice A6 n7 c8, vb true], ⟨_, rfl, ⟨_, rfl, rfl⟩⟩, a, true, A6, n7, c8, rfl, H, ae.gr.g0, (hp9.st ae.st)⟩))))))
 have H := ite_f H ah
 refine W_seq (W_reg (L_mv (.slice A6 n7 c8) rfl (L_mv (.slice aa ab ac) rfl ?_)))
 refine L_call go123 [.slice A6 n7 c8, .slice aa ab ac] rfl ((F76.calls am ae.ok a A6 n7 c8 (hp9.st ae.st) b aa ab ac (af.st ae.st) _ H).mono ?_)
 rintro _ ap ⟨r3, rfl, H, ao⟩
 have ai := ae.k0 ao
 refine L_as (vb r3) rfl (L_nil ?_)
 refine W_cond r3 rfl (fun aj => ?_) (fun aj => ?_)
 ·have H := ite_t H aj
  exact W_seq (W_reg (L_mv (.slice A6 n7 c8) rfl (L_as (.slice A6 n7 c8) rfl (L_as (vb true) rfl (L_nil (W_ret ⟨[.slice A6 n7 c8, vb true], ⟨_, rfl, ⟨_, rfl, rfl⟩⟩, a, true, A6, n7, c8, rfl, H, ai.gr.g0, (hp9.st ai.st)⟩))))))
 have H := ite_f H aj
 exact W_skip (W_seq (W_reg (L_as (.slice none 0 0) rfl (L_as (vb false) rfl (L_nil (W_ret ⟨[.slice none 0 0, vb false], ⟨_, rfl, ⟨_, rfl, rfl⟩⟩, [], false, none, 0, 0, rfl, H, ai.gr.g0, (Sl.nil _ _ _ none 0 (by decide))⟩))))))
end
section
open Go.RowKit
def F62.E (base_ : List Pt) (a : List Pt) (b : List Pt) (Q : List Pt → Bool → Prop) : Prop :=
 F44.E base_ a (fun r => F44.E base_ b (fun r2 => (∃ (I95 : (List Pt) → Int → Int → Int → Int → Prop) (mu96 : (List Pt) → Int → Int → Int → Int → Nat), I95 ([] : List Pt) 0 0 0 0 ∧ ∀ (xs2 : List Pt) (o2 : Int) (x2 : Int) (y2 : Int) (i2 : Int), I95 xs2 o2 x2 y2 i2 → (if decide (i2 ≤ (base_.length : Int)) then (if decide (i2 < (base_.length : Int)) then F124.E r i2 (fun r3 => F124.E r2 i2 (fun r4 => (if decide (r3 < 0) then (-9223372036854775808 ≤ i2) ∧ I95 xs2 o2 x2 y2 (i2 + 1) ∧ mu96 xs2 o2 x2 y2 (i2 + 1) < mu96 xs2 o2 x2 y2 i2 else (if decide (r4 < 0) then (-9223372036854775808 ≤ i2) ∧ I95 xs2 o2 x2 y2 (i2 + 1) ∧ mu96 xs2 o2 x2 y2 (i2 + 1) < mu96 xs2 o2 x2 y2 i2 else ((0 : Int) ≤ o2 ∧ (o2 : Int) ≤ i2 ∧ i2 ≤ (base_.length : Int)) ∧ ((0 : Int) ≤ x2 ∧ (x2 : Int) ≤ r3 ∧ r3 ≤ (a.length : Int)) ∧ ((0 : Int) ≤ y2 ∧ (y2 : Int) ≤ r4 ∧ r4 ≤ (b.length : Int)) ∧ F96.E ((base_.drop o2.toNat).take (i2.toNat - o2.toNat)) ((a.drop x2.toNat).take (r3.toNat - x2.toNat)) ((b.drop y2.toNat).take (r4.toNat - y2.toNat)) (fun r5 r6 => (if !r6 then Q ([] : List Pt) false else (xs2.length + r5.length ≤ 268435456) ∧ ((0 : Int) ≤ i2 ∧ i2 < (base_.length : Int)) ∧ ((xs2 ++ r5).length + ([(nth base_ i2)] : List Pt).length ≤ 268435456) ∧ (-9223372036854775808 ≤ i2) ∧ ((base_.length : Int) ≤ 9223372036854775807 → (a.length : Int) ≤ 9223372036854775807 → (b.length : Int) ≤ 9223372036854775807 → I64 (r3 + 1)) ∧ ((base_.length : Int) ≤ 9223372036854775807 → (a.length : Int) ≤ 9223372036854775807 → (b.length : Int) ≤ 9223372036854775807 → I64 (r4 + 1)) ∧ (-9223372036854775808 ≤ i2) ∧ I95 ((xs2 ++ r5) ++ ([(nth base_ i2)] : List Pt)) (i2 + 1) (r3 + 1) (r4 + 1) (i2 + 1) ∧ mu96 ((xs2 ++ r5) ++ ([(nth base_ i2)] : List Pt)) (i2 + 1) (r3 + 1) (r4 + 1) (i2 + 1) < mu96 xs2 o2 x2 y2 i2)))))) else ((0 : Int) ≤ o2 ∧ (o2 : Int) ≤ i2 ∧ i2 ≤ (base_.length : Int)) ∧ ((0 : Int) ≤ x2 ∧ (x2 : Int) ≤ (a.length : Int) ∧ (a.length : Int) ≤ (a.length : Int)) ∧ ((0 : Int) ≤ y2 ∧ (y2 : Int) ≤ (b.length : Int) ∧ (b.length : Int) ≤ (b.length : Int)) ∧ F96.E ((base_.drop o2.toNat).take (i2.toNat - o2.toNat)) ((a.drop x2.toNat).take ((a.length : Int).toNat - x2.toNat)) ((b.drop y2.toNat).take ((b.length : Int).toNat - y2.toNat)) (fun r7 r8 => (if !r8 then Q ([] : List Pt) false else (xs2.length + r7.length ≤ 268435456) ∧ ((base_.length : Int) ≤ 9223372036854775807 → (a.length : Int) ≤ 9223372036854775807 → (b.length : Int) ≤ 9223372036854775807 → I64 (i2 + 1)) ∧ ((base_.length : Int) ≤ 9223372036854775807 → (a.length : Int) ≤ 9223372036854775807 → (b.length : Int) ≤ 9223372036854775807 → I64 ((a.length : Int) + 1)) ∧ ((base_.length : Int) ≤ 9223372036854775807 → (a.length : Int) ≤ 9223372036854775807 → (b.length : Int) ≤ 9223372036854775807 → I64 ((b.length : Int) + 1)) ∧ ((base_.length : Int) ≤ 9223372036854775807 → (a.length : Int) ≤ 9223372036854775807 → (b.length : Int) ≤ 9223372036854775807 → I64 (i2 + 1)) ∧ I95 (xs2 ++ r7) (i2 + 1) ((a.length : Int) + 1) ((b.length : Int) + 1) (i2 + 1) ∧ mu96 (xs2 ++ r7) (i2 + 1) ((a.length : Int) + 1) ((b.length : Int) + 1) (i2 + 1) < mu96 xs2 o2 x2 y2 i2))) else Q xs2 true))))
theorem F62.calls {O : Ob} (w0 : World) (hO : Ok w0 O) (base_ : List Pt) (A1 : Option Addr) (n2 c3 : Nat) (hp4 : Sl kPt w0 (Fr O) (.slice A1 n2 c3) base_) (a : List Pt) (A6 : Option Addr) (n7 c8 : Nat) (hp9 : Sl kPt w0 (Fr O) (.slice A6 n7 c8) a) (b : List Pt) (ae : Option Addr) (af ag : Nat) (cl : Sl kPt w0 (Fr O) (.slice ae af ag) b) (Q : List Pt → Bool → Prop) (h : F62.E base_ a b Q) :
  Ret Tryz.prog 148 [.slice A1 n2 c3, .slice A6 n7 c8, .slice ae af ag] w0 (fun v w' => ∃ (r0 : List Pt) (r1 : Bool) (A0 : Option Addr) (n0 c0 : Nat), v = .tuple #[.slice A0 n0 c0, vb r1] ∧ Q r0 r1 ∧ Gr w0 w' none ∧ Ok w' ([bk A0] ++ O) ∧ (∀ b, some b ∈ [bk A0] → w0.heap.size ≤ b) ∧ Ow kPt 114 w' ([bk A0] ++ O) (.slice A0 n0 c0) r0) := by
 unfold F62.E at h
 have H := h
 clear h
 have hc0 := Ct.init hO
 refine Ret_enter Tryz.func148 rfl 91 rfl [.tmp 6, .tmp 7] rfl rfl ?_
 refine W_seq (W_reg (L_as (.slice none 0 0) rfl (L_as (vb false) rfl (L_nil (W_seq (W_reg (L_mv (.slice A1 n2 c3) rfl (L_mv (.slice A6 n7 c8) rfl ?_))))))))
 refine L_call go155 [.slice A1 n2 c3, .slice A6 n7 c8] rfl ((F44.calls w0 hc0.ok base_ A1 n2 c3 hp4 a A6 n7 c8 hp9 _ H).mono ?_)
 rintro _ dv ⟨r, ab, a2, a3, rfl, H, dw, dx, dy, dz⟩
 have bo := hc0.owns dw dx dy
 refine L_as (.slice ab a2 a3) rfl (L_nil (W_seq (W_reg (L_mv (.slice A1 n2 c3) rfl (L_mv (.slice ae af ag) rfl ?_)))))
 refine L_call go155 [.slice A1 n2 c3, .slice ae af ag] rfl ((F44.calls dv bo.ok base_ A1 n2 c3 (hp4.st bo.st) b ae af ag (cl.st bo.st) _ H).mono ?_)
 rintro _ g5 ⟨r2, ac, a4, a5, rfl, H, cm, d0, cn, d1⟩
 have d2 := bo.owns cm d0 cn
 refine L_as (.slice ac a4 a5) rfl (L_nil (W_seq (W_reg (L_lit (kd := kPt) ei56 d2 ([] : List Pt) (cells := []) rfl (fun _ => by kernel_rfl) fun g6 co cp cq cr hr43 bp d3 => ?_))))
 refine L_as (.slice co cp cq) rfl (L_nil (W_seq (W_reg (L_as (vi 0) rfl (L_nil (W_seq (W_reg (L_as (vi 0) rfl ?_))))))))
 refine L_nil (W_seq (W_reg (L_as (vi 0) rfl (L_nil (W_seq (W_seq (W_reg (L_as (vi 0) rfl ?_))))))))
 refine L_nil (W_block ?_)
 obtain ⟨d4, d5, bv, H⟩ := H
 have d6 := ((dz.sos cm cn).so _ cr hr43)
 have d7 := (d1.so _ cr hr43)
 refine W_loop (α := (List Pt) × (Option Addr) × Nat × Nat × Int × Int × Int × Int) (fun (sv__ : (List Pt) × (Option Addr) × Nat × Nat × Int × Int × Int × Int) t ao => match sv__ with | (xs2, aa, ah, ai, o2, x2, y2, i2) => d4 xs2 o2 x2 y2 i2 ∧ Has t [(0, .slice A1 n2 c3), (1, .slice A6 n7 c8), (2, .slice ae af ag), (8, .slice ab a2 a3), (9, .slice ac a4 a5), (10, .slice aa ah ai), (11, vi o2), (12, vi x2), (13, vi y2), (14, vi i2)] ∧ Ct [] w0 ao [bk aa, bk ac, bk ab] O ∧ Sl kPt ao (Fr ([bk aa, bk ac, bk ab] ++ O)) (.slice A1 n2 c3) base_ ∧ Sl kPt ao (Fr ([bk aa, bk ac, bk ab] ++ O)) (.slice A6 n7 c8) a ∧ Sl kPt ao (Fr ([bk aa, bk ac, bk ab] ++ O)) (.slice ae af ag) b ∧ Ow kPair 186 ao ([bk aa, bk ac, bk ab] ++ O) (.slice ab a2 a3) r ∧ Ow kPair 186 ao ([bk aa, bk ac, bk ab] ++ O) (.slice ac a4 a5) r2 ∧ Ow kPt 114 ao ([bk aa, bk ac, bk ab] ++ O) (.slice aa ah ai) xs2) (fun (sv__ : (List Pt) × (Option Addr) × Nat × Nat × Int × Int × Int × Int) => match sv__ with | (xs2, _, _, _, o2, x2, y2, i2) => d5 xs2 o2 x2 y2 i2) (([] : List Pt), co, cp, cq, 0, 0, 0, 0) ⟨bv, (hasI rfl), bp, (hp4.st bp.st), (hp9.st bp.st), (cl.st bp.st), d6, d7, d3⟩ ?_
 rintro ⟨xs2, aa, ah, ai, o2, x2, y2, i2⟩ _ ao ⟨bv, d8, am, ar, au, av, be, bf, bg⟩
 obtain ⟨g7, rfl⟩ := Has.ins d8
 have H := H xs2 o2 x2 y2 i2 bv
 refine W_seq (W_seq (W_reg (L_mv (vi i2) rfl (L_mv (.slice A1 n2 c3) rfl ?_))))
 have an := ar.le
 refine L_pu (P_len Tryz.underlying56 A1 n2 c3 ar.len rfl) (L_pu (P_cmp i2 (base_.length : Int) (decide (i2 ≤ (base_.length : Int))) rfl rfl rfl) (L_nil ?_))
 refine W_cond (decide (i2 ≤ (base_.length : Int))) rfl (fun bw => ?_) (fun bw => ?_)
 ·have H := ite_t H bw
  refine W_skip (W_seq (W_block (W_seq (W_reg (L_mv (.slice A6 n7 c8) rfl ?_)))))
  have a6 := au.le
  refine L_pu (P_len Tryz.underlying56 A6 n7 c8 au.len rfl) (L_as (vi (a.length : Int)) rfl (L_nil (W_seq (W_reg (L_mv (.slice ae af ag) rfl ?_)))))
  have a7 := av.le
  refine L_pu (P_len Tryz.underlying56 ae af ag av.len rfl) (L_as (vi (b.length : Int)) rfl (L_nil (W_seq (W_seq (W_reg (L_mv (vi i2) rfl (L_mv (.slice A1 n2 c3) rfl (L_pu (P_len Tryz.underlying56 A1 n2 c3 ar.len rfl) ?_))))))))
  refine L_pu (P_cmp i2 (base_.length : Int) (decide (i2 < (base_.length : Int))) rfl rfl rfl) (L_nil ?_)
  refine W_cond (decide (i2 < (base_.length : Int))) rfl (fun ap => ?_) (fun ap => ?_)
  ·have H := ite_t H ap
   refine W_seq (W_reg (L_mv (.slice ab a2 a3) rfl (L_mv (vi i2) rfl ?_)))
   have d9 := am.gv be 2 rfl
   have ea := am.drop 2 rfl
   refine L_call go156 [.slice ab a2 a3, vi i2] rfl ((F124.calls ao ea.ok r ab a2 a3 d9 i2 _ H).mono ?_)
   rintro _ eb ⟨r3, rfl, H, ad⟩
   have a8 := am.k0 ad
   refine L_as (vi r3) rfl (L_nil (W_seq (W_reg (L_mv (.slice ac a4 a5) rfl (L_mv (vi i2) rfl ?_)))))
   have ec := (bf.sn ad)
   have ed := a8.gv ec 1 rfl
   have ee := a8.drop 1 rfl
   refine L_call go156 [.slice ac a4 a5, vi i2] rfl ((F124.calls eb ee.ok r2 ac a4 a5 ed i2 _ H).mono ?_)
   rintro _ g8 ⟨r4, rfl, H, aj⟩
   have bq := a8.k0 aj
   refine L_as (vi r4) rfl (L_nil (W_seq (W_reg (L_mv (vi r3) rfl (L_pu (P_cmp r3 0 (decide (r3 < 0)) rfl rfl rfl) (L_mv (vb (decide (r3 < 0))) rfl ?_))))))
   rcases bool_or (decide (r3 < 0)) with aq | aq
   ·have H := ite_t H aq
    refine L_pb aq rfl (L_pb aq rfl (L_pu (P_pick true (vb true) (by exact congrArg Value.bool aq) rfl) (L_nil (W_ct (b := true) rfl rfl ?_))))
    refine W_exit (xin_hit ?_)
    refine W_reg (L_mv (vi i2) rfl ?_)
    obtain ⟨ef, H⟩ := H
    have eg : I64 (i2 + 1) := i64_succ (of_decide_eq_true ap) an ef
    refine L_pu (P_add i2 1 rfl rfl eg) (L_as (vi (i2 + 1)) rfl (L_nil ?_))
    obtain ⟨eh, ei⟩ := H
    have bx := am.stn ad
    have bz := a8.stn aj
    have ej := ((ar.st bx).st bz)
    have ek := ((au.st bx).st bz)
    have el := ((av.st bx).st bz)
    have em := ((be.sn ad).sn aj)
    have en := ((bf.sn ad).sn aj)
    have eo := ((bg.sn ad).sn aj)
    exact ⟨(xs2, aa, ah, ai, o2, x2, y2, i2 + 1), ei, eh, (hasI rfl), bq, ej, ek, el, em, en, eo⟩
   have H := ite_f H aq
   refine L_rb aq rfl (L_mv (vi r4) rfl (L_rb aq rfl (L_pu (P_cmp r4 0 (decide (r4 < 0)) rfl rfl rfl) (L_pu (P_pick false (vb (decide (r4 < 0))) (by exact congrArg Value.bool aq) rfl) (L_nil ?_)))))
   refine W_cond (decide (r4 < 0)) rfl (fun b0 => ?_) (fun b0 => ?_)
   ·have H := ite_t H b0
    refine W_exit (xin_hit ?_)
    refine W_reg (L_mv (vi i2) rfl ?_)
    obtain ⟨ep, H⟩ := H
    have eq : I64 (i2 + 1) := i64_succ (of_decide_eq_true ap) an ep
    refine L_pu (P_add i2 1 rfl rfl eq) (L_as (vi (i2 + 1)) rfl (L_nil ?_))
    obtain ⟨er, es⟩ := H
    have b1 := am.stn ad
    have b2 := a8.stn aj
    have et := ((ar.st b1).st b2)
    have eu := ((au.st b1).st b2)
    have ev := ((av.st b1).st b2)
    have ew := ((be.sn ad).sn aj)
    have ex := ((bf.sn ad).sn aj)
    have ey := ((bg.sn ad).sn aj)
    exact ⟨(xs2, aa, ah, ai, o2, x2, y2, i2 + 1), es, er, (hasI rfl), bq, et, eu, ev, ew, ex, ey⟩
   have H := ite_f H b0
   refine W_skip (W_seq (W_mixr 18 [] (by kernel_rfl) rfl fun ez bh ak => ?_))
   have b3 := bq.k0 bh
   refine M_pu 0 rfl (by kernel_rfl) ak (P_move (.slice A1 n2 c3) rfl) ?_
   refine M_pu 1 rfl (by kernel_rfl) ak (P_move (vi o2) rfl) ?_
   refine M_pu 2 rfl (by kernel_rfl) ak (P_move (vi i2) rfl) ?_
   obtain ⟨e0, H⟩ := H
   have b4 := am.stn ad
   have b5 := a8.stn aj
   have b6 := bq.stn bh
   have cs := (((ar.st b4).st b5).st b6)
   refine M_cuts 3 rfl (by kernel_rfl) ak Tryz.underlying56 se56 A1 n2 c3 base_ rfl cs o2 i2 rfl rfl e0 fun ct cu cv e1 => ?_
   refine M_pu 4 rfl (by kernel_rfl) ak (P_move (.slice A6 n7 c8) rfl) ?_
   refine M_pu 5 rfl (by kernel_rfl) ak (P_move (vi x2) rfl) ?_
   refine M_pu 6 rfl (by kernel_rfl) ak (P_move (vi r3) rfl) ?_
   obtain ⟨e2, H⟩ := H
   have cw := (((au.st b4).st b5).st b6)
   refine M_cuts 7 rfl (by kernel_rfl) ak Tryz.underlying56 se56 A6 n7 c8 a rfl cw x2 r3 rfl rfl e2 fun cx cy cz e3 => ?_
   refine M_pu 8 rfl (by kernel_rfl) ak (P_move (.slice ae af ag) rfl) ?_
   refine M_pu 9 rfl (by kernel_rfl) ak (P_move (vi y2) rfl) ?_
   refine M_pu 10 rfl (by kernel_rfl) ak (P_move (vi r4) rfl) ?_
   obtain ⟨e4, H⟩ := H
   have c1 := (((av.st b4).st b5).st b6)
   refine M_cuts 11 rfl (by kernel_rfl) ak Tryz.underlying56 se56 ae af ag b rfl c1 y2 r4 rfl rfl e4 fun c2 c4 c5 e5 => ?_
   refine M_any1 12 (by kernel_rfl) rfl ?_
   refine L_call go157 [.slice ct cu cv, .slice cx cy cz, .slice c2 c4 c5] rfl ((F96.calls ez b3.ok ((base_.drop o2.toNat).take (i2.toNat - o2.toNat)) ct cu cv e1 ((a.drop x2.toNat).take (r3.toNat - x2.toNat)) cx cy cz e3 ((b.drop y2.toNat).take (r4.toNat - y2.toNat)) c2 c4 c5 e5 _ H).mono ?_)
   rintro _ e6 ⟨r5, r6, aw, ax, ay, rfl, H, a9, e7⟩
   have br := b3.k0 a9
   have ba := Gm.tm ak a9
   refine L_nil ⟨ba, ?_⟩
   refine M_pu 13 rfl (by kernel_rfl) ba (P_move (.tuple #[.slice aw ax ay, vb r6]) rfl) ?_
   refine M_pu 14 rfl (by kernel_rfl) ba (P_ext [.slice aw ax ay, vb r6] 0 (.slice aw ax ay) rfl rfl) ?_
   refine M_pu 15 rfl (by kernel_rfl) ba (P_ext [.slice aw ax ay, vb r6] 1 (vb r6) rfl rfl) ?_
   refine M_pu 16 rfl (by kernel_rfl) ba (P_assign (.slice aw ax ay) rfl) ?_
   refine M_pu 17 rfl (by kernel_rfl) ba (P_assign (vb r6) rfl) ?_
   refine M_nil (by kernel_rfl) ?_
   refine W_seq (W_seq (W_reg (L_mv (vb r6) rfl (L_pu (P_not r6 rfl) (L_nil ?_)))))
   refine W_cond (!r6) rfl (fun b7 => ?_) (fun b7 => ?_)
   ·have H := ite_t H b7
    refine W_seq ?_
    have e8 : ([bk aa, bk ac, bk ab] : Ob).Perm ((bk aa :: bk ac :: bk ab :: []) ++ []) := (pc fun a => by (try simp only [pca, pcc, pcn, Nat.add_zero, Nat.zero_add]); first | done | ac_rfl)
    have e9 := br.drops e8
    refine W_reg (L_as (.slice none 0 0) rfl (L_as (vb false) rfl (L_nil (W_ret ?_))))
    have b8 := e9.own (Gr.refl _ none) none (by simp)
    have fa : Ow kPt 114 e6 ([bk none] ++ O) (.slice none 0 0) [] := Ow.nil _ _ _ _
    exact ⟨[.slice none 0 0, vb false], ⟨_, rfl, ⟨_, rfl, rfl⟩⟩, ([] : List Pt), false, none, 0, 0, rfl, H, b8.gr.g0, b8.ok, b8.ge, fa⟩
   have H := ite_f H b7
   refine W_skip (W_seq (W_reg (L_mv (.slice aa ah ai) rfl (L_mv (.slice aw ax ay) rfl ?_))))
   obtain ⟨fb, H⟩ := H
   have fc := ((((bg.sn ad).sn aj).sn bh).sn a9)
   refine L_app ei56 br (.slice aa ah ai) xs2 r5 rfl fc (.slice aw ax ay) rfl e7.sx 0 rfl fb fun g9 b9 ca cb c6 bi c7 fd => ?_
   refine L_as (.slice b9 ca cb) rfl (L_nil (W_seq (W_seq (W_reg (L_mv (vi i2) rfl (L_mv (.slice A1 n2 c3) rfl ?_))))))
   have cc := b3.stn a9
   have bs := ((cs.st cc).st bi)
   refine L_pu (P_len Tryz.underlying56 A1 n2 c3 bs.len rfl) (L_pu (P_cmp i2 (base_.length : Int) (decide (i2 < (base_.length : Int))) rfl rfl rfl) (L_nil (W_ct (b := decide (i2 < (base_.length : Int))) rfl ap ?_)))
   refine W_reg (L_mv (.slice b9 ca cb) rfl (L_mv (.slice A1 n2 c3) rfl (L_mv (vi i2) rfl ?_)))
   obtain ⟨c9, H⟩ := H
   obtain ⟨da, ha, fe, hb, ff, fg⟩ := bs.get default (by decide) i2 c9
   obtain rfl := kPt.op ff
   refine L_pu (P_ia Tryz.underlying56 se56 A1 da n2 c3 bs.len i2 rfl fe rfl c9) (L_pu (P_lda ag114 sz114 cL (da.add (i2.toNat * 2)) [vi ((nth base_ i2).X), vi ((nth base_ i2).Y)] rfl rfl fg) (L_lit (kd := kPt) ei56 c7 ([(nth base_ i2)] : List Pt) (cells := [vi ((nth base_ i2).X), vi ((nth base_ i2).Y)]) ⟨[vi ((nth base_ i2).X), vi ((nth base_ i2).Y)], _, rfl, (kPt.mk _ _ (nth base_ i2)), rfl⟩ (fun _ => by kernel_rfl) fun hc fh fi fj bt hr224 cd fk => ?_))
   obtain ⟨fl, H⟩ := H
   have fm := (fd.so _ bt hr224)
   refine L_app ei56 cd (.slice b9 ca cb) (xs2 ++ r5) ([(nth base_ i2)] : List Pt) rfl fm (.slice fh fi fj) rfl fk.sx 1 rfl fl fun hd db dc dd de bj bl fn => ?_
   refine L_as (.slice db dc dd) rfl (L_nil (W_seq (W_reg (L_mv (vi i2) rfl ?_))))
   obtain ⟨fo, H⟩ := H
   have fp : I64 (i2 + 1) := i64_succ (of_decide_eq_true ap) an fo
   refine L_pu (P_add i2 1 rfl rfl fp) (L_as (vi (i2 + 1)) rfl (L_nil (W_seq (W_reg (L_mv (vi r3) rfl ?_)))))
   obtain ⟨fq, H⟩ := H
   have fr := fq (len_le an) (len_le a6) (len_le a7)
   refine L_pu (P_add r3 1 rfl rfl fr) (L_as (vi (r3 + 1)) rfl (L_nil (W_reg (L_mv (vi r4) rfl ?_))))
   obtain ⟨fs, H⟩ := H
   have ft := fs (len_le an) (len_le a6) (len_le a7)
   refine L_pu (P_add r4 1 rfl rfl ft) (L_as (vi (r4 + 1)) rfl (L_nil (W_reg (L_mv (vi i2) rfl ?_))))
   obtain ⟨fu, H⟩ := H
   have fv : I64 (i2 + 1) := i64_succ (of_decide_eq_true ap) an fu
   refine L_pu (P_add i2 1 rfl rfl fv) (L_as (vi (i2 + 1)) rfl (L_nil ?_))
   have fw := bl.drop 0 rfl
   obtain ⟨fx, fy⟩ := H
   have ce := c7.stown _ bt hr224
   have cf := bl.std 0 rfl
   have fz := (((bs.st ce).st bj).st cf)
   have f0 := (((((cw.st cc).st bi).st ce).st bj).st cf)
   have f1 := (((((c1.st cc).st bi).st ce).st bj).st cf)
   have f2 := (bl.sd (cd.sm ((br.sm ((((be.sn ad).sn aj).sn bh).sn a9) 2 0 rfl rfl rfl c6 bi).so _ bt hr224) 3 1 rfl rfl rfl de bj) 3 0 rfl rfl rfl)
   have f3 := (bl.sd (cd.sm ((br.sm ((((bf.sn ad).sn aj).sn bh).sn a9) 1 0 rfl rfl rfl c6 bi).so _ bt hr224) 2 1 rfl rfl rfl de bj) 2 0 rfl rfl rfl)
   have f4 := (bl.sd fn 1 0 rfl rfl rfl)
   exact ⟨(((xs2 ++ r5) ++ ([(nth base_ i2)] : List Pt)), db, dc, dd, i2 + 1, r3 + 1, r4 + 1, i2 + 1), fy, fx, (hasI rfl), fw, fz, f0, f1, f2, f3, f4⟩
  have H := ite_f H ap
  refine W_skip (W_seq (W_mixr 18 [] (by kernel_rfl) rfl fun f5 bm al => ?_))
  have cg := am.k0 bm
  refine M_pu 0 rfl (by kernel_rfl) al (P_move (.slice A1 n2 c3) rfl) ?_
  refine M_pu 1 rfl (by kernel_rfl) al (P_move (vi o2) rfl) ?_
  refine M_pu 2 rfl (by kernel_rfl) al (P_move (vi i2) rfl) ?_
  obtain ⟨f6, H⟩ := H
  have bb := am.stn bm
  refine M_cuts 3 rfl (by kernel_rfl) al Tryz.underlying56 se56 A1 n2 c3 base_ rfl (ar.st bb) o2 i2 rfl rfl f6 fun df dg dh f7 => ?_
  refine M_pu 4 rfl (by kernel_rfl) al (P_move (.slice A6 n7 c8) rfl) ?_
  refine M_pu 5 rfl (by kernel_rfl) al (P_move (vi x2) rfl) ?_
  refine M_pu 6 rfl (by kernel_rfl) al (P_move (vi (a.length : Int)) rfl) ?_
  obtain ⟨f8, H⟩ := H
  refine M_cuts 7 rfl (by kernel_rfl) al Tryz.underlying56 se56 A6 n7 c8 a rfl (au.st bb) x2 (a.length : Int) rfl rfl f8 fun di dj dk f9 => ?_
  refine M_pu 8 rfl (by kernel_rfl) al (P_move (.slice ae af ag) rfl) ?_
  refine M_pu 9 rfl (by kernel_rfl) al (P_move (vi y2) rfl) ?_
  refine M_pu 10 rfl (by kernel_rfl) al (P_move (vi (b.length : Int)) rfl) ?_
  obtain ⟨ga, H⟩ := H
  refine M_cuts 11 rfl (by kernel_rfl) al Tryz.underlying56 se56 ae af ag b rfl (av.st bb) y2 (b.length : Int) rfl rfl ga fun dl dm dn gb => ?_
  refine M_any1 12 (by kernel_rfl) rfl ?_
  refine L_call go157 [.slice df dg dh, .slice di dj dk, .slice dl dm dn] rfl ((F96.calls f5 cg.ok ((base_.drop o2.toNat).take (i2.toNat - o2.toNat)) df dg dh f7 ((a.drop x2.toNat).take ((a.length : Int).toNat - x2.toNat)) di dj dk f9 ((b.drop y2.toNat).take ((b.length : Int).toNat - y2.toNat)) dl dm dn gb _ H).mono ?_)
  rintro _ gc ⟨r7, r8, az, a0, a1, rfl, H, bc, gd⟩
  have bu := cg.k0 bc
  have bd := Gm.tm al bc
  refine L_nil ⟨bd, ?_⟩
  refine M_pu 13 rfl (by kernel_rfl) bd (P_move (.tuple #[.slice az a0 a1, vb r8]) rfl) ?_
  refine M_pu 14 rfl (by kernel_rfl) bd (P_ext [.slice az a0 a1, vb r8] 0 (.slice az a0 a1) rfl rfl) ?_
  refine M_pu 15 rfl (by kernel_rfl) bd (P_ext [.slice az a0 a1, vb r8] 1 (vb r8) rfl rfl) ?_
  refine M_pu 16 rfl (by kernel_rfl) bd (P_assign (.slice az a0 a1) rfl) ?_
  refine M_pu 17 rfl (by kernel_rfl) bd (P_assign (vb r8) rfl) ?_
  refine M_nil (by kernel_rfl) ?_
  refine W_seq (W_seq (W_reg (L_mv (vb r8) rfl (L_pu (P_not r8 rfl) (L_nil ?_)))))
  refine W_cond (!r8) rfl (fun ch => ?_) (fun ch => ?_)
  ·have H := ite_t H ch
   refine W_seq ?_
   have gf : ([bk aa, bk ac, bk ab] : Ob).Perm ((bk aa :: bk ac :: bk ab :: []) ++ []) := (pc fun a => by (try simp only [pca, pcc, pcn, Nat.add_zero, Nat.zero_add]); first | done | ac_rfl)
   have gg := bu.drops gf
   refine W_reg (L_as (.slice none 0 0) rfl (L_as (vb false) rfl (L_nil (W_ret ?_))))
   have ci := gg.own (Gr.refl _ none) none (by simp)
   have gh : Ow kPt 114 gc ([bk none] ++ O) (.slice none 0 0) [] := Ow.nil _ _ _ _
   exact ⟨[.slice none 0 0, vb false], ⟨_, rfl, ⟨_, rfl, rfl⟩⟩, ([] : List Pt), false, none, 0, 0, rfl, H, ci.gr.g0, ci.ok, ci.ge, gh⟩
  have H := ite_f H ch
  refine W_skip (W_seq (W_reg (L_mv (.slice aa ah ai) rfl (L_mv (.slice az a0 a1) rfl ?_))))
  obtain ⟨gi, H⟩ := H
  have gj := ((bg.sn bm).sn bc)
  refine L_app ei56 bu (.slice aa ah ai) xs2 r7 rfl gj (.slice az a0 a1) rfl gd.sx 0 rfl gi fun he dp dq dr ds bn gk gl => ?_
  refine L_as (.slice dp dq dr) rfl (L_nil (W_seq (W_seq (W_reg (L_mv (vi i2) rfl (L_mv (.slice A1 n2 c3) rfl ?_))))))
  have cj := cg.stn bc
  have dt := (((ar.st bb).st cj).st bn)
  refine L_pu (P_len Tryz.underlying56 A1 n2 c3 dt.len rfl) (L_pu (P_cmp i2 (base_.length : Int) (decide (i2 < (base_.length : Int))) rfl rfl rfl) (L_nil (W_cf (b := decide (i2 < (base_.length : Int))) rfl ap ?_)))
  refine W_skip (W_seq (W_reg (L_mv (vi i2) rfl ?_)))
  obtain ⟨gm, H⟩ := H
  have gn := gm (len_le an) (len_le a6) (len_le a7)
  refine L_pu (P_add i2 1 rfl rfl gn) (L_as (vi (i2 + 1)) rfl (L_nil (W_seq (W_reg (L_mv (vi (a.length : Int)) rfl ?_)))))
  obtain ⟨gp, H⟩ := H
  have gq := gp (len_le an) (len_le a6) (len_le a7)
  refine L_pu (P_add (a.length : Int) 1 rfl rfl gq) (L_as (vi ((a.length : Int) + 1)) rfl (L_nil (W_reg (L_mv (vi (b.length : Int)) rfl ?_))))
  obtain ⟨gs, H⟩ := H
  have gt := gs (len_le an) (len_le a6) (len_le a7)
  refine L_pu (P_add (b.length : Int) 1 rfl rfl gt) (L_as (vi ((b.length : Int) + 1)) rfl (L_nil (W_reg (L_mv (vi i2) rfl ?_))))
  obtain ⟨gu, H⟩ := H
  have gw := gu (len_le an) (len_le a6) (len_le a7)
  refine L_pu (P_add i2 1 rfl rfl gw) (L_as (vi (i2 + 1)) rfl (L_nil ?_))
  obtain ⟨gx, gy⟩ := H
  have gz := (((au.st bb).st cj).st bn)
  have g1 := (((av.st bb).st cj).st bn)
  have g2 := (bu.sm ((be.sn bm).sn bc) 2 0 rfl rfl rfl ds bn)
  have g3 := (bu.sm ((bf.sn bm).sn bc) 1 0 rfl rfl rfl ds bn)
  exact ⟨((xs2 ++ r7), dp, dq, dr, i2 + 1, (a.length : Int) + 1, (b.length : Int) + 1, i2 + 1), gy, gx, (hasI rfl), gk, dt, gz, g1, g2, g3, gl⟩
 have H := ite_f H bw
 refine W_exit (xin_hit ?_)
 refine W_seq (W_reg (L_mv (.slice aa ah ai) rfl (L_as (.slice aa ah ai) rfl (L_as (vb true) rfl (L_nil (W_ret ?_))))))
 have du := am.drop 1 rfl
 have ck := du.drop 1 rfl
 have g4 := (du.sd (am.sd bg 0 1 rfl rfl rfl) 0 1 rfl rfl rfl)
 exact ⟨[.slice aa ah ai, vb true], ⟨_, rfl, ⟨_, rfl, rfl⟩⟩, xs2, true, aa, ah, ai, rfl, H, ck.gr.g0, ck.ok, ck.ge, g4⟩
end
section
open Go.RowKit
def F63.E (o : Shape) (a : Shape) (b : Shape) (Q : Shape → Bool → Prop) : Prop :=
 F25.E a o (fun r => (if r then Q b true else F25.E b o (fun r2 => (if r2 then Q a true else F25.E a b (fun r3 => (if r3 then Q a true else (if a.Kind != b.Kind then Q a false else (if a.Kind != o.Kind then Q a false else F62.E o.Pts a.Pts b.Pts (fun r4 r5 => (if !r5 then Q a false else F54.E (⟨a.Kind, r4⟩ : Shape) (fun r6 => (if !r6 then Q a false else Q (⟨a.Kind, r4⟩ : Shape) true))))))))))))
theorem F63.calls {O : Ob} (w0 : World) (hO : Ok w0 O) (o : Shape) (A1 : Option Addr) (n2 c3 : Nat) (hp4 : Sl kPt w0 (Fr O) (.slice A1 n2 c3) o.Pts) (a : Shape) (A6 : Option Addr) (n7 c8 : Nat) (hp9 : Sl kPt w0 (Fr O) (.slice A6 n7 c8) a.Pts) (b : Shape) (ab : Option Addr) (ac ad : Nat) (a5 : Sl kPt w0 (Fr O) (.slice ab ac ad) b.Pts) (Q : Shape → Bool → Prop) (h : F63.E o a b Q) :
  Ret Tryz.prog 131 [.agg #[vi o.Kind, .slice A1 n2 c3], .agg #[vi a.Kind, .slice A6 n7 c8], .agg #[vi b.Kind, .slice ab ac ad]] w0 (fun v w' => ∃ (r0 : Shape) (r1 : Bool) (A0 : Option Addr) (n0 c0 : Nat), v = .tuple #[.agg #[vi r0.Kind, .slice A0 n0 c0], vb r1] ∧ Q r0 r1 ∧ Gr w0 w' none ∧ Sl kPt w' (Fr O) (.slice A0 n0 c0) r0.Pts) := by
 unfold F63.E at h
 have H := h
 clear h
 have hc0 := Ct.init hO
 refine Ret_enter Tryz.func131 rfl 63 rfl [.cell 6 58, .tmp 7] rfl rfl ?_
 refine W_seq (W_reg (L_box [vi o.Kind, .slice A1 n2 c3] rfl fun ew aq co hu20 cp cq => ?_))
 have cr := Fb.mk hc0.ok co cq
 have a9 := hc0.k0 cp
 refine L_box [vi a.Kind, .slice A6 n7 c8] rfl fun ex aa cs hu29 bq ct => ?_
 have cu := Fb.mk a9.ok cs ct
 have ba := a9.k0 bq
 refine L_box [vi b.Kind, .slice ab ac ad] rfl fun ey am cv hu38 br cw => ?_
 have bs := Fb.mk ba.ok cv cw
 have bt := ba.k0 br
 refine L_alloc [.int .i64 0, .slice none 0 0] ze58 fun cx an bu hu47 bv ar => ?_
 have az := bt.own bv (some an) (oglt bu hu47)
 refine L_as (vb false) rfl (L_nil (W_seq (W_block (W_seq (W_reg ?_)))))
 have bw := ba.stn br
 have a6 := bt.stown _ bv (oge bu)
 have bb := ((cu.st bw).st a6)
 refine L_pu (P_lda ag58 sz58 cL ⟨aa, 0, none⟩ [vi a.Kind, .slice A6 n7 c8] rfl rfl (bb.cells (off := 0) rfl)) ?_
 have cy := a9.stn bq
 have bx := (((cr.st cy).st bw).st a6)
 refine L_pu (P_lda ag58 sz58 cL ⟨aq, 0, none⟩ [vi o.Kind, .slice A1 n2 c3] rfl rfl (bx.cells (off := 0) rfl)) ?_
 refine L_call go94 [.agg #[vi a.Kind, .slice A6 n7 c8], .agg #[vi o.Kind, .slice A1 n2 c3]] rfl ((F25.calls cx az.ok a A6 n7 c8 (hp9.st az.st) o A1 n2 c3 (hp4.st az.st) _ H).mono ?_)
 rintro _ cz ⟨r, rfl, H, ai⟩
 have ax := az.k0 ai
 refine L_as (vb r) rfl (L_nil ?_)
 refine W_cond r rfl (fun bc => ?_) (fun bc => ?_)
 ·have H := ite_t H bc
  refine W_seq (W_reg ?_)
  have c1 := az.stn ai
  have c2 := ((bs.st a6).st c1)
  refine L_pu (P_lda ag58 sz58 cL ⟨am, 0, none⟩ [vi b.Kind, .slice ab ac ad] rfl rfl (c2.cells (off := 0) rfl)) ?_
  have c4 := (ar.k0 ai)
  refine L_stb an 0 [vi 0, .slice none 0 0] [vi b.Kind, .slice ab ac ad] [vi b.Kind, .slice ab ac ad] rfl c4 rfl sz58 rfl rfl rfl fun ez c5 c6 => ?_
  have bz := ax.wr 0 rfl c5
  refine L_as (vb true) rfl (L_nil (W_ret ?_))
  have c7 := bz.bgv c6 0 rfl
  have b0 := bz.drop 0 rfl
  exact ⟨[.agg #[vi b.Kind, .slice ab ac ad], vb true], ⟨_, _, rfl, c7.1.res rfl ag58 sz58, ⟨_, rfl, rfl⟩⟩, b, true, ab, ac, ad, rfl, H, b0.gr.g0, (a5.st b0.st)⟩
 have H := ite_f H bc
 refine W_seq (W_reg ?_)
 have a7 := az.stn ai
 have b1 := ((bs.st a6).st a7)
 refine L_pu (P_lda ag58 sz58 cL ⟨am, 0, none⟩ [vi b.Kind, .slice ab ac ad] rfl rfl (b1.cells (off := 0) rfl)) ?_
 have b2 := (bx.st a7)
 refine L_pu (P_lda ag58 sz58 cL ⟨aq, 0, none⟩ [vi o.Kind, .slice A1 n2 c3] rfl rfl (b2.cells (off := 0) rfl)) ?_
 refine L_call go94 [.agg #[vi b.Kind, .slice ab ac ad], .agg #[vi o.Kind, .slice A1 n2 c3]] rfl ((F25.calls cz ax.ok b ab ac ad (a5.st ax.st) o A1 n2 c3 (hp4.st ax.st) _ H).mono ?_)
 rintro _ c9 ⟨r2, rfl, H, al⟩
 have ay := ax.k0 al
 refine L_mv (vb r2) rfl ?_
 rcases bool_or r2 with aj | aj
 ·have H := ite_t H aj
  refine L_pb aj rfl (L_pb aj rfl (L_pb aj rfl (L_pu (P_pick true (vb true) (by exact congrArg Value.bool aj) rfl) (L_as (vb true) rfl (L_nil (W_ct (b := true) rfl rfl ?_))))))
  refine W_seq (W_reg ?_)
  have da := ax.stn al
  have db := ((bb.st a7).st da)
  refine L_pu (P_lda ag58 sz58 cL ⟨aa, 0, none⟩ [vi a.Kind, .slice A6 n7 c8] rfl rfl (db.cells (off := 0) rfl)) ?_
  have dc := ((ar.k0 ai).k0 al)
  refine L_stb an 0 [vi 0, .slice none 0 0] [vi a.Kind, .slice A6 n7 c8] [vi a.Kind, .slice A6 n7 c8] rfl dc rfl sz58 rfl rfl rfl fun e0 dd de => ?_
  have b3 := ay.wr 0 rfl dd
  refine L_as (vb true) rfl (L_nil (W_ret ?_))
  have df := b3.bgv de 0 rfl
  have b4 := b3.drop 0 rfl
  exact ⟨[.agg #[vi a.Kind, .slice A6 n7 c8], vb true], ⟨_, _, rfl, df.1.res rfl ag58 sz58, ⟨_, rfl, rfl⟩⟩, a, true, A6, n7, c8, rfl, H, b4.gr.g0, (hp9.st b4.st)⟩
 have H := ite_f H aj
 refine L_rb aj rfl ?_
 have bd := ax.stn al
 have be := ((bb.st a7).st bd)
 refine L_pu (P_lda ag58 sz58 cL ⟨aa, 0, none⟩ [vi a.Kind, .slice A6 n7 c8] rfl rfl (be.cells (off := 0) rfl)) (L_rb aj rfl ?_)
 have b5 := (b1.st bd)
 refine L_pu (P_lda ag58 sz58 cL ⟨am, 0, none⟩ [vi b.Kind, .slice ab ac ad] rfl rfl (b5.cells (off := 0) rfl)) (L_rb aj rfl ?_)
 refine L_call go94 [.agg #[vi a.Kind, .slice A6 n7 c8], .agg #[vi b.Kind, .slice ab ac ad]] rfl ((F25.calls c9 ay.ok a A6 n7 c8 (hp9.st ay.st) b ab ac ad (a5.st ay.st) _ H).mono ?_)
 rintro _ dg ⟨r3, rfl, H, ao⟩
 have ap := ay.k0 ao
 refine L_pu (P_pick false (vb r3) (by exact congrArg Value.bool aj) rfl) (L_as (vb r3) rfl (L_nil ?_))
 refine W_cond r3 rfl (fun bf => ?_) (fun bf => ?_)
 ·have H := ite_t H bf
  refine W_seq (W_reg ?_)
  have dh := ay.stn ao
  have di := (be.st dh)
  refine L_pu (P_lda ag58 sz58 cL ⟨aa, 0, none⟩ [vi a.Kind, .slice A6 n7 c8] rfl rfl (di.cells (off := 0) rfl)) ?_
  have dj := (((ar.k0 ai).k0 al).k0 ao)
  refine L_stb an 0 [vi 0, .slice none 0 0] [vi a.Kind, .slice A6 n7 c8] [vi a.Kind, .slice A6 n7 c8] rfl dj rfl sz58 rfl rfl rfl fun e1 dk dl => ?_
  have b6 := ap.wr 0 rfl dk
  refine L_as (vb true) rfl (L_nil (W_ret ?_))
  have dm := b6.bgv dl 0 rfl
  have b7 := b6.drop 0 rfl
  exact ⟨[.agg #[vi a.Kind, .slice A6 n7 c8], vb true], ⟨_, _, rfl, dm.1.res rfl ag58 sz58, ⟨_, rfl, rfl⟩⟩, a, true, A6, n7, c8, rfl, H, b7.gr.g0, (hp9.st b7.st)⟩
 have H := ite_f H bf
 refine W_seq (W_reg (L_pu (P_fa fa58_0 ⟨aa, 0, none⟩ ⟨aa, 0, none⟩ rfl rfl) ?_))
 have bg := ay.stn ao
 have a0 := (be.st bg)
 refine L_pu (P_ld ag3 cL ⟨aa, 0, none⟩ (vi a.Kind) rfl (a0.cell rfl)) (L_pu (P_fa fa58_0 ⟨am, 0, none⟩ ⟨am, 0, none⟩ rfl rfl) ?_)
 have b8 := (b5.st bg)
 refine L_pu (P_ld ag3 cL ⟨am, 0, none⟩ (vi b.Kind) rfl (b8.cell rfl)) (L_pu (P_cmp a.Kind b.Kind (a.Kind != b.Kind) rfl rfl rfl) (L_mv (vb (a.Kind != b.Kind)) rfl ?_))
 rcases bool_or (a.Kind != b.Kind) with ah | ah
 ·have H := ite_t H ah
  refine L_pb ah rfl (L_pb ah rfl (L_pb ah rfl (L_pb ah rfl (L_pb ah rfl (L_pu (P_pick true (vb true) (by exact congrArg Value.bool ah) rfl) (L_as (vb true) rfl (L_nil (W_ct (b := true) rfl rfl ?_))))))))
  refine W_seq (W_reg (L_pu (P_lda ag58 sz58 cL ⟨aa, 0, none⟩ [vi a.Kind, .slice A6 n7 c8] rfl rfl (a0.cells (off := 0) rfl)) ?_))
  have dn := (((ar.k0 ai).k0 al).k0 ao)
  refine L_stb an 0 [vi 0, .slice none 0 0] [vi a.Kind, .slice A6 n7 c8] [vi a.Kind, .slice A6 n7 c8] rfl dn rfl sz58 rfl rfl rfl fun e2 dp dq => ?_
  have b9 := ap.wr 0 rfl dp
  refine L_as (vb false) rfl (L_nil (W_ret ?_))
  have dr := b9.bgv dq 0 rfl
  have ca := b9.drop 0 rfl
  exact ⟨[.agg #[vi a.Kind, .slice A6 n7 c8], vb false], ⟨_, _, rfl, dr.1.res rfl ag58 sz58, ⟨_, rfl, rfl⟩⟩, a, false, A6, n7, c8, rfl, H, ca.gr.g0, (hp9.st ca.st)⟩
 have H := ite_f H ah
 refine L_rb ah rfl (L_pu (P_fa fa58_0 ⟨aa, 0, none⟩ ⟨aa, 0, none⟩ rfl rfl) (L_rb ah rfl (L_pu (P_ld ag3 cL ⟨aa, 0, none⟩ (vi a.Kind) rfl (a0.cell rfl)) (L_rb ah rfl (L_pu (P_fa fa58_0 ⟨aq, 0, none⟩ ⟨aq, 0, none⟩ rfl rfl) (L_rb ah rfl ?_))))))
 have cb := ((b2.st bd).st bg)
 refine L_pu (P_ld ag3 cL ⟨aq, 0, none⟩ (vi o.Kind) rfl (cb.cell rfl)) (L_rb ah rfl (L_pu (P_cmp a.Kind o.Kind (a.Kind != o.Kind) rfl rfl rfl) (L_pu (P_pick false (vb (a.Kind != o.Kind)) (by exact congrArg Value.bool ah) rfl) (L_as (vb (a.Kind != o.Kind)) rfl (L_nil ?_)))))
 refine W_cond (a.Kind != o.Kind) rfl (fun bh => ?_) (fun bh => ?_)
 ·have H := ite_t H bh
  refine W_seq (W_reg (L_pu (P_lda ag58 sz58 cL ⟨aa, 0, none⟩ [vi a.Kind, .slice A6 n7 c8] rfl rfl (a0.cells (off := 0) rfl)) ?_))
  have ds := (((ar.k0 ai).k0 al).k0 ao)
  refine L_stb an 0 [vi 0, .slice none 0 0] [vi a.Kind, .slice A6 n7 c8] [vi a.Kind, .slice A6 n7 c8] rfl ds rfl sz58 rfl rfl rfl fun e3 dt du => ?_
  have cc := ap.wr 0 rfl dt
  refine L_as (vb false) rfl (L_nil (W_ret ?_))
  have dv := cc.bgv du 0 rfl
  have cd := cc.drop 0 rfl
  exact ⟨[.agg #[vi a.Kind, .slice A6 n7 c8], vb false], ⟨_, _, rfl, dv.1.res rfl ag58 sz58, ⟨_, rfl, rfl⟩⟩, a, false, A6, n7, c8, rfl, H, cd.gr.g0, (hp9.st cd.st)⟩
 have H := ite_f H bh
 refine W_skip (W_seq (W_reg (L_pu (P_fa fa58_1 ⟨aq, 0, none⟩ ⟨aq, 1, none⟩ rfl rfl) (L_pu (P_ld ag56 cL ⟨aq, 1, none⟩ (.slice A1 n2 c3) rfl (cb.cell rfl)) (L_pu (P_fa fa58_1 ⟨aa, 0, none⟩ ⟨aa, 1, none⟩ rfl rfl) (L_pu (P_ld ag56 cL ⟨aa, 1, none⟩ (.slice A6 n7 c8) rfl (a0.cell rfl)) (L_pu (P_fa fa58_1 ⟨am, 0, none⟩ ⟨am, 1, none⟩ rfl rfl) (L_pu (P_ld ag56 cL ⟨am, 1, none⟩ (.slice ab ac ad) rfl (b8.cell rfl)) ?_))))))))
 refine L_call go148 [.slice A1 n2 c3, .slice A6 n7 c8, .slice ab ac ad] rfl ((F62.calls dg ap.ok o.Pts A1 n2 c3 (hp4.st ap.st) a.Pts A6 n7 c8 (hp9.st ap.st) b.Pts ab ac ad (a5.st ap.st) _ H).mono ?_)
 rintro _ e4 ⟨r4, r5, ae, af, ag, rfl, H, a2, dw, ce, cf⟩
 have bi := ap.owns a2 dw ce
 refine L_mv (.tuple #[.slice ae af ag, vb r5]) rfl (L_pu (P_ext [.slice ae af ag, vb r5] 0 (.slice ae af ag) rfl rfl) (L_pu (P_ext [.slice ae af ag, vb r5] 1 (vb r5) rfl rfl) (L_as (.slice ae af ag) rfl (L_as (vb r5) rfl (L_nil (W_seq (W_reg (L_pu (P_fa fa58_0 ⟨aa, 0, none⟩ ⟨aa, 0, none⟩ rfl rfl) ?_))))))))
 have dx := ap.stos a2 ce
 have bj := (a0.st dx)
 refine L_pu (P_ld ag3 cL ⟨aa, 0, none⟩ (vi a.Kind) rfl (bj.cell rfl)) (L_mv (.slice ae af ag) rfl (L_pu (P_build (.agg #[vi a.Kind, .slice ae af ag]) (fun _ => by kernel_rfl)) (L_alloc [.int .i64 0, .slice none 0 0] ze58 fun e5 a8 a3 hu147 au dy => ?_)))
 have av := bi.own au (some a8) (oglt a3 hu147)
 refine L_stb a8 0 [vi 0, .slice none 0 0] [vi a.Kind, .slice ae af ag] [vi a.Kind, .slice ae af ag] rfl dy rfl sz58 rfl rfl rfl fun dz aw cg => ?_
 have a4 := av.wr 0 rfl aw
 refine L_nil (W_seq (W_seq (W_reg (L_mv (vb r5) rfl (L_pu (P_not r5 rfl) (L_mv (vb (!r5)) rfl ?_))))))
 rcases bool_or (!r5) with ak | ak
 ·have H := ite_t H ak
  refine L_pb ak rfl (L_pb ak rfl (L_pb ak rfl (L_pu (P_pick true (vb true) (by exact congrArg Value.bool ak) rfl) (L_nil (W_ct (b := true) rfl rfl ?_)))))
  refine W_seq (W_reg ?_)
  have d0 := bi.stown _ au (oge a3)
  have d1 := av.stw 0 rfl aw
  have d2 := ((bj.st d0).st d1)
  refine L_pu (P_lda ag58 sz58 cL ⟨aa, 0, none⟩ [vi a.Kind, .slice A6 n7 c8] rfl rfl (d2.cells (off := 0) rfl)) ?_
  have d3 := (av.bm (((((ar.k0 ai).k0 al).k0 ao).k0 a2).k0 au) 2 0 rfl rfl rfl aw)
  refine L_stb an 0 [vi 0, .slice none 0 0] [vi a.Kind, .slice A6 n7 c8] [vi a.Kind, .slice A6 n7 c8] rfl d3 rfl sz58 rfl rfl rfl fun e6 d4 d5 => ?_
  have ch := a4.wr 2 rfl d4
  refine L_as (vb false) rfl (L_nil (W_ret ?_))
  have d6 := ch.bgv d5 2 rfl
  have d7 := ch.drop 2 rfl
  have ci := d7.clear
  have d8 := (d6.st St.clear)
  exact ⟨[.agg #[vi a.Kind, .slice A6 n7 c8], vb false], ⟨_, _, rfl, d8.1.res rfl ag58 sz58, ⟨_, rfl, rfl⟩⟩, a, false, A6, n7, c8, rfl, H, ci.gr.g0, (hp9.st ci.st)⟩
 have H := ite_f H ak
 refine L_rb ak rfl (L_pu (P_lda ag58 sz58 cL ⟨a8, 0, none⟩ [vi a.Kind, .slice ae af ag] rfl rfl (cg.cells (off := 0) rfl)) (L_rb ak rfl ?_))
 have d9 := (av.sw (cf.so _ au (oge a3)) 1 0 rfl rfl rfl aw)
 have ea := a4.gv d9 1 rfl
 have eb := a4.drop 1 rfl
 refine L_call go91 [.agg #[vi a.Kind, .slice ae af ag]] rfl ((F54.calls dz eb.ok (⟨a.Kind, r4⟩ : Shape) ae af ag ea _ H).mono ?_)
 rintro _ e7 ⟨r6, rfl, H, a1⟩
 have bl := a4.k0 a1
 refine L_rb ak rfl (L_pu (P_not r6 rfl) (L_pu (P_pick false (vb (!r6)) (by exact congrArg Value.bool ak) rfl) (L_nil ?_)))
 refine W_cond (!r6) rfl (fun bn => ?_) (fun bn => ?_)
 ·have H := ite_t H bn
  refine W_seq (W_reg ?_)
  have ec := bi.stown _ au (oge a3)
  have ed := av.stw 0 rfl aw
  have ee := a4.stn a1
  have ef := (((bj.st ec).st ed).st ee)
  refine L_pu (P_lda ag58 sz58 cL ⟨aa, 0, none⟩ [vi a.Kind, .slice A6 n7 c8] rfl rfl (ef.cells (off := 0) rfl)) ?_
  have eg := ((av.bm (((((ar.k0 ai).k0 al).k0 ao).k0 a2).k0 au) 2 0 rfl rfl rfl aw).k0 a1)
  refine L_stb an 0 [vi 0, .slice none 0 0] [vi a.Kind, .slice A6 n7 c8] [vi a.Kind, .slice A6 n7 c8] rfl eg rfl sz58 rfl rfl rfl fun e8 eh ei => ?_
  have cj := bl.wr 2 rfl eh
  refine L_as (vb false) rfl (L_nil (W_ret ?_))
  have ej := cj.bgv ei 2 rfl
  have ek := cj.drop 2 rfl
  have ck := ek.clear
  have el := (ej.st St.clear)
  exact ⟨[.agg #[vi a.Kind, .slice A6 n7 c8], vb false], ⟨_, _, rfl, el.1.res rfl ag58 sz58, ⟨_, rfl, rfl⟩⟩, a, false, A6, n7, c8, rfl, H, ck.gr.g0, (hp9.st ck.st)⟩
 have H := ite_f H bn
 refine W_skip (W_seq (W_reg ?_))
 have em := (cg.k0 a1)
 refine L_pu (P_lda ag58 sz58 cL ⟨a8, 0, none⟩ [vi a.Kind, .slice ae af ag] rfl rfl (em.cells (off := 0) rfl)) ?_
 have en := ((av.bm (((((ar.k0 ai).k0 al).k0 ao).k0 a2).k0 au) 2 0 rfl rfl rfl aw).k0 a1)
 refine L_stb an 0 [vi 0, .slice none 0 0] [vi a.Kind, .slice ae af ag] [vi a.Kind, .slice ae af ag] rfl en rfl sz58 rfl rfl rfl fun eo cl ep => ?_
 have bo := bl.wr 2 rfl cl
 refine L_as (vb true) rfl (L_nil (W_ret ?_))
 have eq := bo.bgv ep 2 rfl
 have bp := bo.drop 2 rfl
 have er := (bo.sd (bl.sw ((av.sw (cf.so _ au (oge a3)) 1 0 rfl rfl rfl aw).sn a1) 1 2 rfl rfl rfl cl) 1 2 rfl rfl rfl)
 have es := bp.gv er 1 rfl
 have cm := bp.drop 1 rfl
 have et : Ct [] w0 eo [] O := cm.drop 0 rfl
 have eu := bp.std 1 rfl
 have cn := cm.std 0 rfl
 have ev := ((eq.st eu).st cn)
 exact ⟨[.agg #[vi a.Kind, .slice ae af ag], vb true], ⟨_, _, rfl, ev.1.res rfl ag58 sz58, ⟨_, rfl, rfl⟩⟩, (⟨a.Kind, r4⟩ : Shape), true, ae, af, ag, rfl, H, et.gr.g0, (es.st cn)⟩
end
section
open Go.RowKit
def F115.E (t_ : List Tag) (key : Str) (val : Str) (Q : List Tag → Prop) : Prop :=
 (∃ (I41 : (List Tag) → Bool → Int → Prop) (mu42 : (List Tag) → Bool → Int → Nat), I41 ([] : List Tag) false 0 ∧ ∀ (xs2 : List Tag) (done2 : Bool) (i2 : Int), I41 xs2 done2 i2 → (if decide (i2 < (t_.length : Int)) then (if !done2 then ((0 : Int) ≤ i2 ∧ i2 < (t_.length : Int)) ∧ (if !(Op.bytesLess ((nth t_ i2).Key) key) then (xs2.length + ([(⟨key, val⟩ : Tag)] : List Tag).length ≤ 268435456) ∧ ((0 : Int) ≤ i2 ∧ i2 < (t_.length : Int)) ∧ (if ((nth t_ i2).Key) != key then ((0 : Int) ≤ i2 ∧ i2 < (t_.length : Int)) ∧ ((xs2 ++ ([(⟨key, val⟩ : Tag)] : List Tag)).length + ([(nth t_ i2)] : List Tag).length ≤ 268435456) ∧ (-9223372036854775808 ≤ i2) ∧ I41 ((xs2 ++ ([(⟨key, val⟩ : Tag)] : List Tag)) ++ ([(nth t_ i2)] : List Tag)) true (i2 + 1) ∧ mu42 ((xs2 ++ ([(⟨key, val⟩ : Tag)] : List Tag)) ++ ([(nth t_ i2)] : List Tag)) true (i2 + 1) < mu42 xs2 done2 i2 else (-9223372036854775808 ≤ i2) ∧ I41 (xs2 ++ ([(⟨key, val⟩ : Tag)] : List Tag)) true (i2 + 1) ∧ mu42 (xs2 ++ ([(⟨key, val⟩ : Tag)] : List Tag)) true (i2 + 1) < mu42 xs2 done2 i2) else ((0 : Int) ≤ i2 ∧ i2 < (t_.length : Int)) ∧ (if ((nth t_ i2).Key) != key then ((0 : Int) ≤ i2 ∧ i2 < (t_.length : Int)) ∧ (xs2.length + ([(nth t_ i2)] : List Tag).length ≤ 268435456) ∧ (-9223372036854775808 ≤ i2) ∧ I41 (xs2 ++ ([(nth t_ i2)] : List Tag)) done2 (i2 + 1) ∧ mu42 (xs2 ++ ([(nth t_ i2)] : List Tag)) done2 (i2 + 1) < mu42 xs2 done2 i2 else (-9223372036854775808 ≤ i2) ∧ I41 xs2 done2 (i2 + 1) ∧ mu42 xs2 done2 (i2 + 1) < mu42 xs2 done2 i2)) else ((0 : Int) ≤ i2 ∧ i2 < (t_.length : Int)) ∧ (if ((nth t_ i2).Key) != key then ((0 : Int) ≤ i2 ∧ i2 < (t_.length : Int)) ∧ (xs2.length + ([(nth t_ i2)] : List Tag).length ≤ 268435456) ∧ (-9223372036854775808 ≤ i2) ∧ I41 (xs2 ++ ([(nth t_ i2)] : List Tag)) done2 (i2 + 1) ∧ mu42 (xs2 ++ ([(nth t_ i2)] : List Tag)) done2 (i2 + 1) < mu42 xs2 done2 i2 else (-9223372036854775808 ≤ i2) ∧ I41 xs2 done2 (i2 + 1) ∧ mu42 xs2 done2 (i2 + 1) < mu42 xs2 done2 i2)) else (if !done2 then (xs2.length + ([(⟨key, val⟩ : Tag)] : List Tag).length ≤ 268435456) ∧ Q (xs2 ++ ([(⟨key, val⟩ : Tag)] : List Tag)) else Q xs2)))
theorem F115.calls {O : Ob} (w0 : World) (hO : Ok w0 O) (t_ : List Tag) (A1 : Option Addr) (n2 c3 : Nat) (hp4 : Sl kTag w0 (Fr O) (.slice A1 n2 c3) t_) (key : Str) (hs6 : Lim key) (val : Str) (hs7 : Lim val) (Q : List Tag → Prop) (h : F115.E t_ key val Q) :
  Ret Tryz.prog 149 [.slice A1 n2 c3, vs key, vs val] w0 (fun v w' => ∃ (r0 : List Tag) (A0 : Option Addr) (n0 c0 : Nat), v = .slice A0 n0 c0 ∧ Q r0 ∧ Gr w0 w' none ∧ Ok w' ([bk A0] ++ O) ∧ (∀ b, some b ∈ [bk A0] → w0.heap.size ≤ b) ∧ Ow kTag 106 w' ([bk A0] ++ O) (.slice A0 n0 c0) r0) := by
 unfold F115.E at h
 have H := h
 clear h
 have hc0 := Ct.init hO
 refine Ret_enter Tryz.func149 rfl 57 rfl [.tmp 6] rfl rfl ?_
 refine W_seq (W_reg (L_as (.slice none 0 0) rfl (L_nil (W_seq (W_reg (L_lit (kd := kTag) ei59 hc0 ([] : List Tag) (cells := []) rfl (fun _ => by kernel_rfl) fun w8 A9 a9 ba fi hr13 bb b3 => ?_))))))
 refine L_as (.slice A9 a9 ba) rfl (L_nil (W_seq (W_reg (L_as (vb false) rfl (L_nil (W_seq (W_seq (W_reg ?_))))))))
 refine L_as (vi 0) rfl (L_nil (W_block ?_))
 obtain ⟨b4, b5, ay, H⟩ := H
 refine W_loop (α := (List Tag) × (Option Addr) × Nat × Nat × Bool × Int) (fun (sv__ : (List Tag) × (Option Addr) × Nat × Nat × Bool × Int) t ao => match sv__ with | (xs2, aa, ac, ad, done2, i2) => b4 xs2 done2 i2 ∧ Has t [(0, .slice A1 n2 c3), (1, vs key), (2, vs val), (7, .slice aa ac ad), (8, vb done2), (9, vi i2)] ∧ Ct [] w0 ao [bk aa] O ∧ Sl kTag ao (Fr ([bk aa] ++ O)) (.slice A1 n2 c3) t_ ∧ Ow kTag 106 ao ([bk aa] ++ O) (.slice aa ac ad) xs2) (fun (sv__ : (List Tag) × (Option Addr) × Nat × Nat × Bool × Int) => match sv__ with | (xs2, _, _, _, done2, i2) => b5 xs2 done2 i2) (([] : List Tag), A9, a9, ba, false, 0) ⟨ay, (hasI rfl), bb, (hp4.st bb.st), b3⟩ ?_
 rintro ⟨xs2, aa, ac, ad, done2, i2⟩ _ ao ⟨ay, b6, af, ae, ah⟩
 obtain ⟨fj, rfl⟩ := Has.ins b6
 have H := H xs2 done2 i2 ay
 refine W_seq (W_seq (W_reg (L_mv (vi i2) rfl (L_mv (.slice A1 n2 c3) rfl ?_))))
 have ai := ae.le
 refine L_pu (P_len Tryz.underlying59 A1 n2 c3 ae.len rfl) (L_pu (P_cmp i2 (t_.length : Int) (decide (i2 < (t_.length : Int))) rfl rfl rfl) (L_nil ?_))
 refine W_cond (decide (i2 < (t_.length : Int))) rfl (fun ag => ?_) (fun ag => ?_)
 ·have H := ite_t H ag
  refine W_skip (W_seq (W_block (W_seq (W_seq (W_reg (L_mv (vb done2) rfl (L_pu (P_not done2 rfl) (L_mv (vb (!done2)) rfl ?_))))))))
  rcases bool_or (!done2) with ab | ab
  ·have H := ite_t H ab
   refine L_rb ab rfl (L_mv (.slice A1 n2 c3) rfl (L_rb ab rfl (L_mv (vi i2) rfl (L_rb ab rfl ?_))))
   obtain ⟨bc, H⟩ := H
   obtain ⟨ap, fk, b7, fl, b8, b9⟩ := ae.get default (by decide) i2 bc
   obtain ⟨rfl, fm, fn⟩ := kTag.op b8
   refine L_pu (P_ia Tryz.underlying59 se59 A1 ap n2 c3 ae.len i2 rfl b7 rfl bc) (L_rb ab rfl (L_pu (P_fa fa106_0 (ap.add (i2.toNat * 2)) ((ap.add (i2.toNat * 2)).add 0) rfl rfl) (L_rb ab rfl (L_pu (P_ld ag9 cL ((ap.add (i2.toNat * 2)).add 0) (vs ((nth t_ i2).Key)) rfl (b9 0 _ rfl)) (L_rb ab rfl (L_mv (vs key) rfl (L_rb ab rfl (L_pu (P_scmp ((nth t_ i2).Key) key (!(Op.bytesLess ((nth t_ i2).Key) key)) rfl rfl rfl) ?_))))))))
   refine L_pu (P_pick true (vb (!(Op.bytesLess ((nth t_ i2).Key) key))) (by exact congrArg Value.bool ab) rfl) (L_nil ?_)
   refine W_cond (!(Op.bytesLess ((nth t_ i2).Key) key)) rfl (fun az => ?_) (fun az => ?_)
   ·have H := ite_t H az
    refine W_seq (W_reg (L_mv (.slice aa ac ad) rfl (L_mv (vs key) rfl (L_mv (vs val) rfl (L_pu (P_build (.agg #[vs key, vs val]) (fun _ => by kernel_rfl)) (L_lit (kd := kTag) ei59 af ([(⟨key, val⟩ : Tag)] : List Tag) (cells := [vs key, vs val]) ⟨[vs key, vs val], _, rfl, (kTag.mk _ _ (⟨key, val⟩ : Tag) hs6 hs7), rfl⟩ (fun _ => by kernel_rfl) fun fo ca cb cc bd hr65 cd ce => ?_))))))
    obtain ⟨cf, H⟩ := H
    have cg := (ah.so _ bd hr65)
    refine L_app ei59 cd (.slice aa ac ad) xs2 ([(⟨key, val⟩ : Tag)] : List Tag) rfl cg (.slice ca cb cc) rfl ce.sx 1 rfl cf fun fp aq ar au fq ch ak be => ?_
    refine L_as (.slice aq ar au) rfl (L_nil (W_reg (L_as (vb true) rfl (L_nil (W_seq (W_reg (L_mv (.slice A1 n2 c3) rfl (L_mv (vi i2) rfl ?_))))))))
    obtain ⟨bf, H⟩ := H
    have ci := af.stown _ bd hr65
    have aj := ((ae.st ci).st ch)
    obtain ⟨av, fr, cj, fs, ck, cl⟩ := aj.get default (by decide) i2 bf
    obtain ⟨rfl, ft, fu⟩ := kTag.op ck
    refine L_pu (P_ia Tryz.underlying59 se59 A1 av n2 c3 aj.len i2 rfl cj rfl bf) (L_pu (P_fa fa106_0 (av.add (i2.toNat * 2)) ((av.add (i2.toNat * 2)).add 0) rfl rfl) (L_pu (P_ld ag9 cL ((av.add (i2.toNat * 2)).add 0) (vs ((nth t_ i2).Key)) rfl (cl 0 _ rfl)) (L_mv (vs key) rfl (L_pu (P_scmp ((nth t_ i2).Key) key (((nth t_ i2).Key) != key) rfl rfl rfl) (L_nil ?_)))))
    refine W_cond (((nth t_ i2).Key) != key) rfl (fun a0 => ?_) (fun a0 => ?_)
    ·have H := ite_t H a0
     refine W_reg (L_mv (.slice aq ar au) rfl (L_mv (.slice A1 n2 c3) rfl (L_mv (vi i2) rfl ?_)))
     obtain ⟨bg, H⟩ := H
     obtain ⟨bh, fv, cm, fw, cn, co⟩ := aj.get default (by decide) i2 bg
     obtain ⟨rfl, cp, cq⟩ := kTag.op cn
     refine L_pu (P_ia Tryz.underlying59 se59 A1 bh n2 c3 aj.len i2 rfl cm rfl bg) (L_pu (P_lda ag106 sz106 cL (bh.add (i2.toNat * 2)) [vs ((nth t_ i2).Key), vs ((nth t_ i2).Val)] rfl rfl co) (L_lit (kd := kTag) ei59 ak ([(nth t_ i2)] : List Tag) (cells := [vs ((nth t_ i2).Key), vs ((nth t_ i2).Val)]) ⟨[vs ((nth t_ i2).Key), vs ((nth t_ i2).Val)], _, rfl, (kTag.mk _ _ (nth t_ i2) cp cq), rfl⟩ (fun _ => by kernel_rfl) fun fx cr cs ct bi hr106 cu cv => ?_))
     obtain ⟨cw, H⟩ := H
     have cx := (be.so _ bi hr106)
     refine L_app ei59 cu (.slice aq ar au) (xs2 ++ ([(⟨key, val⟩ : Tag)] : List Tag)) ([(nth t_ i2)] : List Tag) rfl cx (.slice cr cs ct) rfl cv.sx 2 rfl cw fun fy bj bl bm fz cy a1 cz => ?_
     refine L_as (.slice bj bl bm) rfl (L_nil (W_reg (L_mv (vi i2) rfl ?_)))
     obtain ⟨c1, H⟩ := H
     have c2 : I64 (i2 + 1) := i64_succ (of_decide_eq_true ag) ai c1
     refine L_pu (P_add i2 1 rfl rfl c2) (L_as (vi (i2 + 1)) rfl (L_nil ?_))
     have a2 := a1.drop 0 rfl
     have c4 := a2.drop 0 rfl
     obtain ⟨c5, c6⟩ := H
     have c7 := ak.stown _ bi hr106
     have c8 := a1.std 0 rfl
     have c9 := a2.std 0 rfl
     have da := ((((aj.st c7).st cy).st c8).st c9)
     have db := (a2.sd (a1.sd cz 2 0 rfl rfl rfl) 1 0 rfl rfl rfl)
     exact ⟨(((xs2 ++ ([(⟨key, val⟩ : Tag)] : List Tag)) ++ ([(nth t_ i2)] : List Tag)), bj, bl, bm, true, i2 + 1), c6, c5, (hasI rfl), c4, da, db⟩
    have H := ite_f H a0
    refine W_skip (W_reg (L_mv (vi i2) rfl ?_))
    obtain ⟨dc, H⟩ := H
    have dd : I64 (i2 + 1) := i64_succ (of_decide_eq_true ag) ai dc
    refine L_pu (P_add i2 1 rfl rfl dd) (L_as (vi (i2 + 1)) rfl (L_nil ?_))
    have de := ak.drop 0 rfl
    obtain ⟨df, dg⟩ := H
    have dh := ak.std 0 rfl
    have di := (ak.sd be 1 0 rfl rfl rfl)
    exact ⟨((xs2 ++ ([(⟨key, val⟩ : Tag)] : List Tag)), aq, ar, au, true, i2 + 1), dg, df, (hasI rfl), de, (aj.st dh), di⟩
   have H := ite_f H az
   refine W_skip (W_seq (W_reg (L_mv (.slice A1 n2 c3) rfl (L_mv (vi i2) rfl ?_))))
   obtain ⟨bn, H⟩ := H
   obtain ⟨aw, f0, dj, f1, dk, dl⟩ := ae.get default (by decide) i2 bn
   obtain ⟨rfl, f2, f3⟩ := kTag.op dk
   refine L_pu (P_ia Tryz.underlying59 se59 A1 aw n2 c3 ae.len i2 rfl dj rfl bn) (L_pu (P_fa fa106_0 (aw.add (i2.toNat * 2)) ((aw.add (i2.toNat * 2)).add 0) rfl rfl) (L_pu (P_ld ag9 cL ((aw.add (i2.toNat * 2)).add 0) (vs ((nth t_ i2).Key)) rfl (dl 0 _ rfl)) (L_mv (vs key) rfl (L_pu (P_scmp ((nth t_ i2).Key) key (((nth t_ i2).Key) != key) rfl rfl rfl) (L_nil ?_)))))
   refine W_cond (((nth t_ i2).Key) != key) rfl (fun a3 => ?_) (fun a3 => ?_)
   ·have H := ite_t H a3
    refine W_reg (L_mv (.slice aa ac ad) rfl (L_mv (.slice A1 n2 c3) rfl (L_mv (vi i2) rfl ?_)))
    obtain ⟨bo, H⟩ := H
    obtain ⟨bp, f4, dm, f5, dn, dp⟩ := ae.get default (by decide) i2 bo
    obtain ⟨rfl, dq, dr⟩ := kTag.op dn
    refine L_pu (P_ia Tryz.underlying59 se59 A1 bp n2 c3 ae.len i2 rfl dm rfl bo) (L_pu (P_lda ag106 sz106 cL (bp.add (i2.toNat * 2)) [vs ((nth t_ i2).Key), vs ((nth t_ i2).Val)] rfl rfl dp) (L_lit (kd := kTag) ei59 af ([(nth t_ i2)] : List Tag) (cells := [vs ((nth t_ i2).Key), vs ((nth t_ i2).Val)]) ⟨[vs ((nth t_ i2).Key), vs ((nth t_ i2).Val)], _, rfl, (kTag.mk _ _ (nth t_ i2) dq dr), rfl⟩ (fun _ => by kernel_rfl) fun f6 ds dt du bq hr163 dv dw => ?_))
    obtain ⟨dx, H⟩ := H
    have dy := (ah.so _ bq hr163)
    refine L_app ei59 dv (.slice aa ac ad) xs2 ([(nth t_ i2)] : List Tag) rfl dy (.slice ds dt du) rfl dw.sx 1 rfl dx fun f7 br bs bt f8 dz a4 d0 => ?_
    refine L_as (.slice br bs bt) rfl (L_nil (W_reg (L_mv (vi i2) rfl ?_)))
    obtain ⟨d1, H⟩ := H
    have d2 : I64 (i2 + 1) := i64_succ (of_decide_eq_true ag) ai d1
    refine L_pu (P_add i2 1 rfl rfl d2) (L_as (vi (i2 + 1)) rfl (L_nil ?_))
    have d3 := a4.drop 0 rfl
    obtain ⟨d4, d5⟩ := H
    have d6 := af.stown _ bq hr163
    have d7 := a4.std 0 rfl
    have d8 := (((ae.st d6).st dz).st d7)
    have d9 := (a4.sd d0 1 0 rfl rfl rfl)
    exact ⟨((xs2 ++ ([(nth t_ i2)] : List Tag)), br, bs, bt, done2, i2 + 1), d5, d4, (hasI rfl), d3, d8, d9⟩
   have H := ite_f H a3
   refine W_skip (W_reg (L_mv (vi i2) rfl ?_))
   obtain ⟨ea, H⟩ := H
   have eb : I64 (i2 + 1) := i64_succ (of_decide_eq_true ag) ai ea
   refine L_pu (P_add i2 1 rfl rfl eb) (L_as (vi (i2 + 1)) rfl (L_nil ?_))
   obtain ⟨ec, ed⟩ := H
   exact ⟨(xs2, aa, ac, ad, done2, i2 + 1), ed, ec, (hasI rfl), af, ae, ah⟩
  have H := ite_f H ab
  refine L_pb ab rfl (L_pb ab rfl (L_pb ab rfl (L_pb ab rfl (L_pb ab rfl (L_pb ab rfl (L_pb ab rfl (L_pu (P_pick false (vb false) (by exact congrArg Value.bool ab) rfl) (L_nil ?_))))))))
  refine W_cf (b := false) rfl rfl ?_
  refine W_skip (W_seq (W_reg (L_mv (.slice A1 n2 c3) rfl (L_mv (vi i2) rfl ?_))))
  obtain ⟨bu, H⟩ := H
  obtain ⟨ax, f9, ee, ga, ef, eg⟩ := ae.get default (by decide) i2 bu
  obtain ⟨rfl, gb, gc⟩ := kTag.op ef
  refine L_pu (P_ia Tryz.underlying59 se59 A1 ax n2 c3 ae.len i2 rfl ee rfl bu) (L_pu (P_fa fa106_0 (ax.add (i2.toNat * 2)) ((ax.add (i2.toNat * 2)).add 0) rfl rfl) (L_pu (P_ld ag9 cL ((ax.add (i2.toNat * 2)).add 0) (vs ((nth t_ i2).Key)) rfl (eg 0 _ rfl)) (L_mv (vs key) rfl (L_pu (P_scmp ((nth t_ i2).Key) key (((nth t_ i2).Key) != key) rfl rfl rfl) (L_nil ?_)))))
  refine W_cond (((nth t_ i2).Key) != key) rfl (fun a5 => ?_) (fun a5 => ?_)
  ·have H := ite_t H a5
   refine W_reg (L_mv (.slice aa ac ad) rfl (L_mv (.slice A1 n2 c3) rfl (L_mv (vi i2) rfl ?_)))
   obtain ⟨bv, H⟩ := H
   obtain ⟨bw, gd, eh, gf, ei, ej⟩ := ae.get default (by decide) i2 bv
   obtain ⟨rfl, ek, el⟩ := kTag.op ei
   refine L_pu (P_ia Tryz.underlying59 se59 A1 bw n2 c3 ae.len i2 rfl eh rfl bv) (L_pu (P_lda ag106 sz106 cL (bw.add (i2.toNat * 2)) [vs ((nth t_ i2).Key), vs ((nth t_ i2).Val)] rfl rfl ej) (L_lit (kd := kTag) ei59 af ([(nth t_ i2)] : List Tag) (cells := [vs ((nth t_ i2).Key), vs ((nth t_ i2).Val)]) ⟨[vs ((nth t_ i2).Key), vs ((nth t_ i2).Val)], _, rfl, (kTag.mk _ _ (nth t_ i2) ek el), rfl⟩ (fun _ => by kernel_rfl) fun gg em en eo bx hr215 ep eq => ?_))
   obtain ⟨er, H⟩ := H
   have es := (ah.so _ bx hr215)
   refine L_app ei59 ep (.slice aa ac ad) xs2 ([(nth t_ i2)] : List Tag) rfl es (.slice em en eo) rfl eq.sx 1 rfl er fun gh bz b0 b1 gi et a6 eu => ?_
   refine L_as (.slice bz b0 b1) rfl (L_nil (W_reg (L_mv (vi i2) rfl ?_)))
   obtain ⟨ev, H⟩ := H
   have ew : I64 (i2 + 1) := i64_succ (of_decide_eq_true ag) ai ev
   refine L_pu (P_add i2 1 rfl rfl ew) (L_as (vi (i2 + 1)) rfl (L_nil ?_))
   have ex := a6.drop 0 rfl
   obtain ⟨ey, ez⟩ := H
   have e0 := af.stown _ bx hr215
   have e1 := a6.std 0 rfl
   have e2 := (((ae.st e0).st et).st e1)
   have e3 := (a6.sd eu 1 0 rfl rfl rfl)
   exact ⟨((xs2 ++ ([(nth t_ i2)] : List Tag)), bz, b0, b1, done2, i2 + 1), ez, ey, (hasI rfl), ex, e2, e3⟩
  have H := ite_f H a5
  refine W_skip (W_reg (L_mv (vi i2) rfl ?_))
  obtain ⟨e4, H⟩ := H
  have e5 : I64 (i2 + 1) := i64_succ (of_decide_eq_true ag) ai e4
  refine L_pu (P_add i2 1 rfl rfl e5) (L_as (vi (i2 + 1)) rfl (L_nil ?_))
  obtain ⟨e6, e7⟩ := H
  exact ⟨(xs2, aa, ac, ad, done2, i2 + 1), e7, e6, (hasI rfl), af, ae, ah⟩
 have H := ite_f H ag
 refine W_exit (xin_hit ?_)
 refine W_seq (W_seq (W_reg (L_mv (vb done2) rfl (L_pu (P_not done2 rfl) (L_nil ?_)))))
 refine W_cond (!done2) rfl (fun a7 => ?_) (fun a7 => ?_)
 ·have H := ite_t H a7
  refine W_reg (L_mv (.slice aa ac ad) rfl (L_mv (vs key) rfl (L_mv (vs val) rfl (L_pu (P_build (.agg #[vs key, vs val]) (fun _ => by kernel_rfl)) (L_lit (kd := kTag) ei59 af ([(⟨key, val⟩ : Tag)] : List Tag) (cells := [vs key, vs val]) ⟨[vs key, vs val], _, rfl, (kTag.mk _ _ (⟨key, val⟩ : Tag) hs6 hs7), rfl⟩ (fun _ => by kernel_rfl) fun gj e8 e9 fa fb hr249 fc fd => ?_)))))
  obtain ⟨fe, H⟩ := H
  have ff := (ah.so _ fb hr249)
  refine L_app ei59 fc (.slice aa ac ad) xs2 ([(⟨key, val⟩ : Tag)] : List Tag) rfl ff (.slice e8 e9 fa) rfl fd.sx 1 rfl fe fun gk al am an gl gm b2 fg => ?_
  refine L_as (.slice al am an) rfl (L_nil (W_seq (W_reg (L_mv (.slice al am an) rfl (L_as (.slice al am an) rfl (L_nil (W_ret ?_)))))))
  have a8 := b2.drop 0 rfl
  have fh := (b2.sd fg 1 0 rfl rfl rfl)
  exact ⟨[.slice al am an], ⟨_, rfl, rfl⟩, (xs2 ++ ([(⟨key, val⟩ : Tag)] : List Tag)), al, am, an, rfl, H, a8.gr.g0, a8.ok, a8.ge, fh⟩
 have H := ite_f H a7
 exact W_skip (W_seq (W_reg (L_mv (.slice aa ac ad) rfl (L_as (.slice aa ac ad) rfl (L_nil (W_ret ⟨[.slice aa ac ad], ⟨_, rfl, rfl⟩, xs2, aa, ac, ad, rfl, H, af.gr.g0, af.ok, af.ge, ah⟩))))))
end
section
open Go.RowKit
def F97.E (o : List Tag) (a : List Tag) (b : List Tag) (Q : List Str → Prop) : Prop :=
 (([] : List Tag).length + o.length ≤ 268435456) ∧ ((([] : List Tag) ++ o).length + a.length ≤ 268435456) ∧ (((([] : List Tag) ++ o) ++ a).length + b.length ≤ 268435456) ∧ (∃ (I88 : (List Tag) → Int → Prop) (mu89 : (List Tag) → Int → Nat), I88 ([] : List Tag) 0 ∧ ∀ (xs2 : List Tag) (i2 : Int), I88 xs2 i2 → (if decide (i2 < ((((([] : List Tag) ++ o) ++ a) ++ b).length : Int)) then ((0 : Int) ≤ i2 ∧ i2 < ((((([] : List Tag) ++ o) ++ a) ++ b).length : Int)) ∧ F115.E xs2 ((nth (((([] : List Tag) ++ o) ++ a) ++ b) i2).Key) ([97] : Str) (fun r => (-9223372036854775808 ≤ i2) ∧ I88 r (i2 + 1) ∧ mu89 r (i2 + 1) < mu89 xs2 i2) else (∃ (I163 : (List Str) → Int → Prop) (mu164 : (List Str) → Int → Nat), I163 ([] : List Str) 0 ∧ ∀ (xs4 : List Str) (i4 : Int), I163 xs4 i4 → (if decide (i4 < (xs2.length : Int)) then ((0 : Int) ≤ i4 ∧ i4 < (xs2.length : Int)) ∧ (xs4.length + ([(nth xs2 i4).Key] : List Str).length ≤ 268435456) ∧ (-9223372036854775808 ≤ i4) ∧ I163 (xs4 ++ ([(nth xs2 i4).Key] : List Str)) (i4 + 1) ∧ mu164 (xs4 ++ ([(nth xs2 i4).Key] : List Str)) (i4 + 1) < mu164 xs4 i4 else Q xs4))))
theorem F97.calls {O : Ob} (w0 : World) (hO : Ok w0 O) (o : List Tag) (A1 : Option Addr) (n2 c3 : Nat) (hp4 : Sl kTag w0 (Fr O) (.slice A1 n2 c3) o) (a : List Tag) (A6 : Option Addr) (n7 c8 : Nat) (hp9 : Sl kTag w0 (Fr O) (.slice A6 n7 c8) a) (b : List Tag) (an : Option Addr) (ao ap : Nat) (bs : Sl kTag w0 (Fr O) (.slice an ao ap) b) (Q : List Str → Prop) (h : F97.E o a b Q) :
  Ret Tryz.prog 132 [.slice A1 n2 c3, .slice A6 n7 c8, .slice an ao ap] w0 (fun v w' => ∃ (r0 : List Str) (A0 : Option Addr) (n0 c0 : Nat), v = .slice A0 n0 c0 ∧ Q r0 ∧ Gr w0 w' none ∧ Ok w' ([bk A0] ++ O) ∧ (∀ b, some b ∈ [bk A0] → w0.heap.size ≤ b) ∧ Ow Kd.str 9 w' ([bk A0] ++ O) (.slice A0 n0 c0) r0) := by
 unfold F97.E at h
 have H := h
 clear h
 have hc0 := Ct.init hO
 refine Ret_enter Tryz.func132 rfl 49 rfl [.tmp 6] rfl rfl ?_
 refine W_seq (W_reg (L_as (.slice none 0 0) rfl (L_nil (W_seq (W_reg (L_lit (kd := kTag) ei59 hc0 ([] : List Tag) (cells := []) rfl (fun _ => by kernel_rfl) fun dy bt bu bv dz hr21 a6 bw => ?_))))))
 refine L_mv (.slice A1 n2 c3) rfl ?_
 obtain ⟨bx, H⟩ := H
 refine L_app ei59 a6 (.slice bt bu bv) ([] : List Tag) o rfl bw (.slice A1 n2 c3) rfl (hp4.st a6.st).sx 0 rfl bx fun d0 bz b0 b1 d1 d2 a7 b2 => ?_
 refine L_mv (.slice A6 n7 c8) rfl ?_
 obtain ⟨b3, H⟩ := H
 refine L_app ei59 a7 (.slice bz b0 b1) (([] : List Tag) ++ o) a rfl b2 (.slice A6 n7 c8) rfl (hp9.st a7.st).sx 0 rfl b3 fun d3 b4 b5 b6 d4 d5 a8 b7 => ?_
 refine L_mv (.slice an ao ap) rfl ?_
 obtain ⟨b8, H⟩ := H
 refine L_app ei59 a8 (.slice b4 b5 b6) ((([] : List Tag) ++ o) ++ a) b rfl b7 (.slice an ao ap) rfl (bs.st a8.st).sx 0 rfl b8 fun d6 ab ah ai d7 d8 b9 ca => ?_
 refine L_as (.slice ab ah ai) rfl (L_nil (W_seq (W_reg (L_lit (kd := kTag) ei59 b9 ([] : List Tag) (cells := []) rfl (fun _ => by kernel_rfl) fun d9 a9 ba bb cb hr60 cc cd => ?_))))
 refine L_as (.slice a9 ba bb) rfl (L_nil (W_seq (W_seq (W_reg (L_as (vi 0) rfl (L_nil (W_block ?_)))))))
 obtain ⟨ce, cf, ax, H⟩ := H
 have cg := (ca.so _ cb hr60)
 refine W_loop (α := (List Tag) × (Option Addr) × Nat × Nat × Int) (fun (sv__ : (List Tag) × (Option Addr) × Nat × Nat × Int) t aj => match sv__ with | (xs2, aa, ac, ad, i2) => ce xs2 i2 ∧ Has t [(7, .slice ab ah ai), (8, .slice aa ac ad), (9, vi i2)] ∧ Ct [] w0 aj [bk aa, bk ab] O ∧ Ow kTag 106 aj ([bk aa, bk ab] ++ O) (.slice ab ah ai) (((([] : List Tag) ++ o) ++ a) ++ b) ∧ Ow kTag 106 aj ([bk aa, bk ab] ++ O) (.slice aa ac ad) xs2) (fun (sv__ : (List Tag) × (Option Addr) × Nat × Nat × Int) => match sv__ with | (xs2, _, _, _, i2) => cf xs2 i2) (([] : List Tag), a9, ba, bb, 0) ⟨ax, (hasI rfl), cc, cg, cd⟩ ?_
 rintro ⟨xs2, aa, ac, ad, i2⟩ _ aj ⟨ax, ch, ak, al, bc⟩
 obtain ⟨ea, rfl⟩ := Has.ins ch
 have H := H xs2 i2 ax
 refine W_seq (W_seq (W_reg (L_mv (vi i2) rfl (L_mv (.slice ab ah ai) rfl ?_))))
 have ci := al.le
 refine L_pu (P_len Tryz.underlying59 ab ah ai al.len rfl) (L_pu (P_cmp i2 ((((([] : List Tag) ++ o) ++ a) ++ b).length : Int) (decide (i2 < ((((([] : List Tag) ++ o) ++ a) ++ b).length : Int))) rfl rfl rfl) (L_nil ?_))
 refine W_cond (decide (i2 < ((((([] : List Tag) ++ o) ++ a) ++ b).length : Int))) rfl (fun aq => ?_) (fun aq => ?_)
 ·have H := ite_t H aq
  refine W_skip (W_seq (W_block (W_reg (L_mv (.slice aa ac ad) rfl (L_mv (.slice ab ah ai) rfl (L_mv (vi i2) rfl ?_))))))
  obtain ⟨bd, H⟩ := H
  obtain ⟨ar, eb, cj, ck, cl⟩ := al.get default (by decide) i2 bd
  obtain ⟨rfl, cm, ec⟩ := kTag.op ck
  refine L_pu (P_ia Tryz.underlying59 se59 ab ar ah ai al.len i2 rfl cj rfl bd) (L_pu (P_fa fa106_0 (ar.add (i2.toNat * 2)) ((ar.add (i2.toNat * 2)).add 0) rfl rfl) (L_pu (P_ld ag9 cL ((ar.add (i2.toNat * 2)).add 0) (vs ((nth (((([] : List Tag) ++ o) ++ a) ++ b) i2).Key)) rfl (cl 0 _ rfl)) ?_))
  have cn := ak.gv bc 0 rfl
  have co := ak.drop 0 rfl
  refine L_call go149 [.slice aa ac ad, vs ((nth (((([] : List Tag) ++ o) ++ a) ++ b) i2).Key), vs ([97] : Str)] rfl ((F115.calls aj co.ok xs2 aa ac ad cn ((nth (((([] : List Tag) ++ o) ++ a) ++ b) i2).Key) cm ([97] : Str) (by decide : Lim ([97] : Str)) _ H).mono ?_)
  rintro _ ed ⟨r, be, bf, bg, rfl, H, ay, cp, az, cq⟩
  have cr := Ok.unl (L := [bk aa, bk ab]) (L' := [bk ab]) (O := O) ak ay cp az
  have cs := Ow.unl (L := [bk aa, bk ab]) (L' := [bk ab]) (O := O) (fun _ _ _ _ _ _ h => h) (.cons _ (.cons_cons _ (.slnil))) cq
  have a0 := ak.owns ay cr az
  refine L_as (.slice be bf bg) rfl (L_nil (W_reg (L_mv (vi i2) rfl ?_)))
  obtain ⟨ct, H⟩ := H
  have cu : I64 (i2 + 1) := i64_succ (of_decide_eq_true aq) ci ct
  refine L_pu (P_add i2 1 rfl rfl cu) (L_as (vi (i2 + 1)) rfl (L_nil ?_))
  have cv := a0.drop 1 rfl
  obtain ⟨cw, cx⟩ := H
  have cy := (a0.sd (al.sos ay az) 2 1 rfl rfl rfl)
  have cz := (a0.sd cs 0 1 rfl rfl rfl)
  exact ⟨(r, be, bf, bg, i2 + 1), cx, cw, (hasI rfl), cv, cy, cz⟩
 have H := ite_f H aq
 refine W_exit (xin_hit ?_)
 refine W_seq (W_reg (L_lit (kd := Kd.str) ei81 ak ([] : List Str) (cells := []) rfl (fun _ => by kernel_rfl) fun ee bh bi bj c1 hr134 a1 c2 => ?_))
 refine L_as (.slice bh bi bj) rfl (L_nil (W_seq (W_seq (W_reg (L_as (vi 0) rfl (L_nil (W_block ?_)))))))
 have c4 := a1.drop 2 rfl
 obtain ⟨c5, c6, a2, H⟩ := H
 have c7 := (a1.sd (bc.so _ c1 hr134) 1 2 rfl rfl rfl)
 have c9 := (a1.sd c2 0 2 rfl rfl rfl)
 refine W_loop (α := (List Str) × (Option Addr) × Nat × Nat × Int) (fun (sv__ : (List Str) × (Option Addr) × Nat × Nat × Int) t au => match sv__ with | (xs4, ae, af, ag, i4) => c5 xs4 i4 ∧ Has t [(8, .slice aa ac ad), (10, .slice ae af ag), (11, vi i4)] ∧ Ct [] w0 au [bk ae, bk aa] O ∧ Ow kTag 106 au ([bk ae, bk aa] ++ O) (.slice aa ac ad) xs2 ∧ Ow Kd.str 9 au ([bk ae, bk aa] ++ O) (.slice ae af ag) xs4) (fun (sv__ : (List Str) × (Option Addr) × Nat × Nat × Int) => match sv__ with | (xs4, _, _, _, i4) => c6 xs4 i4) (([] : List Str), bh, bi, bj, 0) ⟨a2, (hasI rfl), c4, c7, c9⟩ ?_
 rintro ⟨xs4, ae, af, ag, i4⟩ _ au ⟨a2, da, a3, am, bl⟩
 obtain ⟨ef, rfl⟩ := Has.ins da
 have H := H xs4 i4 a2
 refine W_seq (W_seq (W_reg (L_mv (vi i4) rfl (L_mv (.slice aa ac ad) rfl ?_))))
 have db := am.le
 refine L_pu (P_len Tryz.underlying59 aa ac ad am.len rfl) (L_pu (P_cmp i4 (xs2.length : Int) (decide (i4 < (xs2.length : Int))) rfl rfl rfl) (L_nil ?_))
 refine W_cond (decide (i4 < (xs2.length : Int))) rfl (fun av => ?_) (fun av => ?_)
 ·have H := ite_t H av
  refine W_skip (W_seq (W_block (W_reg (L_mv (.slice ae af ag) rfl (L_mv (.slice aa ac ad) rfl (L_mv (vi i4) rfl ?_))))))
  obtain ⟨bm, H⟩ := H
  obtain ⟨aw, eg, dc, dd, de⟩ := am.get default (by decide) i4 bm
  obtain ⟨rfl, df, eh⟩ := kTag.op dd
  refine L_pu (P_ia Tryz.underlying59 se59 aa aw ac ad am.len i4 rfl dc rfl bm) (L_pu (P_fa fa106_0 (aw.add (i4.toNat * 2)) ((aw.add (i4.toNat * 2)).add 0) rfl rfl) (L_pu (P_ld ag9 cL ((aw.add (i4.toNat * 2)).add 0) (vs ((nth xs2 i4).Key)) rfl (de 0 _ rfl)) (L_lit (kd := Kd.str) ei81 a3 ([(nth xs2 i4).Key] : List Str) (cells := [vs ((nth xs2 i4).Key)]) ⟨[vs ((nth xs2 i4).Key)], _, rfl, ⟨rfl, df⟩, rfl⟩ (fun _ => by kernel_rfl) fun ei dg dh di bn hr187 bo dj => ?_)))
  obtain ⟨dk, H⟩ := H
  have dl := (bl.so _ bn hr187)
  refine L_app ei81 bo (.slice ae af ag) xs4 ([(nth xs2 i4).Key] : List Str) rfl dl (.slice dg dh di) rfl dj.sx 1 rfl dk fun ej bp bq br dm dn a4 dp => ?_
  refine L_as (.slice bp bq br) rfl (L_nil (W_reg (L_mv (vi i4) rfl ?_)))
  obtain ⟨dq, H⟩ := H
  have dr : I64 (i4 + 1) := i64_succ (of_decide_eq_true av) db dq
  refine L_pu (P_add i4 1 rfl rfl dr) (L_as (vi (i4 + 1)) rfl (L_nil ?_))
  have ds := a4.drop 0 rfl
  obtain ⟨dt, du⟩ := H
  have dv := (a4.sd (bo.sm (am.so _ bn hr187) 2 1 rfl rfl rfl dm dn) 2 0 rfl rfl rfl)
  have dw := (a4.sd dp 1 0 rfl rfl rfl)
  exact ⟨((xs4 ++ ([(nth xs2 i4).Key] : List Str)), bp, bq, br, i4 + 1), du, dt, (hasI rfl), ds, dv, dw⟩
 have H := ite_f H av
 refine W_exit (xin_hit ?_)
 refine W_seq (W_reg (L_mv (.slice ae af ag) rfl (L_as (.slice ae af ag) rfl (L_nil (W_ret ?_)))))
 have a5 := a3.drop 1 rfl
 have dx := (a3.sd bl 0 1 rfl rfl rfl)
 exact ⟨[.slice ae af ag], ⟨_, rfl, rfl⟩, xs4, ae, af, ag, rfl, H, a5.gr.g0, a5.ok, a5.ge, dx⟩
end
section
open Go.RowKit
def F116.E (t_ : List Tag) (key : Str) (Q : Str → Bool → Prop) : Prop :=
 (∃ (I19 : Int → Prop) (mu20 : Int → Nat), I19 0 ∧ ∀ (i2 : Int), I19 i2 → (if decide (i2 < (t_.length : Int)) then ((0 : Int) ≤ i2 ∧ i2 < (t_.length : Int)) ∧ (if ((nth t_ i2).Key) == key then ((0 : Int) ≤ i2 ∧ i2 < (t_.length : Int)) ∧ Q ((nth t_ i2).Val) true else (-9223372036854775808 ≤ i2) ∧ I19 (i2 + 1) ∧ mu20 (i2 + 1) < mu20 i2) else Q ([] : Str) false))
theorem F116.calls {O : Ob} (w0 : World) (hO : Ok w0 O) (t_ : List Tag) (A1 : Option Addr) (n2 c3 : Nat) (hp4 : Sl kTag w0 (Fr O) (.slice A1 n2 c3) t_) (key : Str) (hs6 : Lim key) (Q : Str → Bool → Prop) (h : F116.E t_ key Q) :
  Ret Tryz.prog 150 [.slice A1 n2 c3, vs key] w0 (fun v w' => ∃ (r0 : Str) (r1 : Bool), v = .tuple #[vs r0, vb r1] ∧ Q r0 r1 ∧ Gr w0 w' none ∧ Lim r0) := by
 unfold F116.E at h
 have H := h
 clear h
 have hc0 := Ct.init hO
 refine Ret_enter Tryz.func150 rfl 25 rfl [.tmp 4, .tmp 5] rfl rfl ?_
 refine W_seq (W_reg (L_as (vs ([] : Str)) rfl (L_as (vb false) rfl (L_nil (W_seq (W_seq (W_reg (L_as (vi 0) rfl ?_))))))))
 refine L_nil (W_block ?_)
 obtain ⟨ak, al, ae, H⟩ := H
 refine W_loop (α := Int) (fun (sv__ : Int) t af => match sv__ with | i2 => ak i2 ∧ Has t [(0, .slice A1 n2 c3), (1, vs key), (6, vi i2)] ∧ Ct [] w0 af [] O ∧ Sl kTag af (Fr ([] ++ O)) (.slice A1 n2 c3) t_) (fun (sv__ : Int) => match sv__ with | i2 => al i2) 0 ⟨ae, (hasI rfl), hc0, hp4⟩ ?_
 rintro i2 _ af ⟨ae, am, ag, aa⟩
 obtain ⟨a1, rfl⟩ := Has.ins am
 have H := H i2 ae
 refine W_seq (W_seq (W_reg (L_mv (vi i2) rfl (L_mv (.slice A1 n2 c3) rfl ?_))))
 have an := aa.le
 refine L_pu (P_len Tryz.underlying59 A1 n2 c3 aa.len rfl) (L_pu (P_cmp i2 (t_.length : Int) (decide (i2 < (t_.length : Int))) rfl rfl rfl) (L_nil ?_))
 refine W_cond (decide (i2 < (t_.length : Int))) rfl (fun ab => ?_) (fun ab => ?_)
 ·have H := ite_t H ab
  refine W_skip (W_seq (W_block (W_seq (W_reg (L_mv (.slice A1 n2 c3) rfl (L_mv (vi i2) rfl ?_))))))
  obtain ⟨ai, H⟩ := H
  obtain ⟨ac, a2, ao, a3, ap, aq⟩ := aa.get default (by decide) i2 ai
  obtain ⟨rfl, a4, a5⟩ := kTag.op ap
  refine L_pu (P_ia Tryz.underlying59 se59 A1 ac n2 c3 aa.len i2 rfl ao rfl ai) (L_pu (P_fa fa106_0 (ac.add (i2.toNat * 2)) ((ac.add (i2.toNat * 2)).add 0) rfl rfl) (L_pu (P_ld ag9 cL ((ac.add (i2.toNat * 2)).add 0) (vs ((nth t_ i2).Key)) rfl (aq 0 _ rfl)) (L_mv (vs key) rfl (L_pu (P_scmp ((nth t_ i2).Key) key (((nth t_ i2).Key) == key) rfl rfl rfl) (L_nil ?_)))))
  refine W_cond (((nth t_ i2).Key) == key) rfl (fun ah => ?_) (fun ah => ?_)
  ·have H := ite_t H ah
   refine W_seq (W_reg (L_mv (.slice A1 n2 c3) rfl (L_mv (vi i2) rfl ?_)))
   obtain ⟨aj, H⟩ := H
   obtain ⟨ad, a6, ar, a7, au, av⟩ := aa.get default (by decide) i2 aj
   obtain ⟨rfl, a8, aw⟩ := kTag.op au
   exact L_pu (P_ia Tryz.underlying59 se59 A1 ad n2 c3 aa.len i2 rfl ar rfl aj) (L_pu (P_fa fa106_1 (ad.add (i2.toNat * 2)) ((ad.add (i2.toNat * 2)).add 1) rfl rfl) (L_pu (P_ld ag9 cL ((ad.add (i2.toNat * 2)).add 1) (vs ((nth t_ i2).Val)) rfl (av 1 _ rfl)) (L_as (vs ((nth t_ i2).Val)) rfl (L_as (vb true) rfl (L_nil (W_ret ⟨[vs ((nth t_ i2).Val), vb true], ⟨_, rfl, ⟨_, rfl, rfl⟩⟩, (nth t_ i2).Val, true, rfl, H, ag.gr.g0, aw⟩))))))
  have H := ite_f H ah
  refine W_skip (W_reg (L_mv (vi i2) rfl ?_))
  obtain ⟨ax, H⟩ := H
  have ay : I64 (i2 + 1) := i64_succ (of_decide_eq_true ab) an ax
  refine L_pu (P_add i2 1 rfl rfl ay) (L_as (vi (i2 + 1)) rfl (L_nil ?_))
  obtain ⟨az, a0⟩ := H
  exact ⟨i2 + 1, a0, az, (hasI rfl), ag, aa⟩
 have H := ite_f H ab
 refine W_exit (xin_hit ?_)
 exact W_seq (W_reg (L_as (vs ([] : Str)) rfl (L_as (vb false) rfl (L_nil (W_ret ⟨[vs ([] : Str), vb false], ⟨_, rfl, ⟨_, rfl, rfl⟩⟩, ([] : Str), false, rfl, H, ag.gr.g0, (by decide : Lim ([] : Str))⟩)))))
end
section
open Go.RowKit
def F117.E (o : List Tag) (a : List Tag) (b : List Tag) (key : Str) (Q : Str → Bool → Bool → Prop) : Prop :=
 F116.E o key (fun r r2 => F116.E a key (fun r3 r4 => F116.E b key (fun r5 r6 => (if r3 == r then (if r4 == r2 then Q r5 r6 true else (if r5 == r then (if r6 == r2 then Q r3 r4 true else (if r3 == r5 then (if r4 == r6 then Q r3 r4 true else (if r4 then Q r3 true false else Q r5 true false)) else (if r4 then Q r3 true false else Q r5 true false))) else (if r3 == r5 then (if r4 == r6 then Q r3 r4 true else (if r4 then Q r3 true false else Q r5 true false)) else (if r4 then Q r3 true false else Q r5 true false)))) else (if r5 == r then (if r6 == r2 then Q r3 r4 true else (if r3 == r5 then (if r4 == r6 then Q r3 r4 true else (if r4 then Q r3 true false else Q r5 true false)) else (if r4 then Q r3 true false else Q r5 true false))) else (if r3 == r5 then (if r4 == r6 then Q r3 r4 true else (if r4 then Q r3 true false else Q r5 true false)) else (if r4 then Q r3 true false else Q r5 true false)))))))
theorem F117.calls {O : Ob} (w0 : World) (hO : Ok w0 O) (o : List Tag) (A1 : Option Addr) (n2 c3 : Nat) (hp4 : Sl kTag w0 (Fr O) (.slice A1 n2 c3) o) (a : List Tag) (A6 : Option Addr) (n7 c8 : Nat) (hp9 : Sl kTag w0 (Fr O) (.slice A6 n7 c8) a) (b : List Tag) (am : Option Addr) (an ao : Nat) (a7 : Sl kTag w0 (Fr O) (.slice am an ao) b) (key : Str) (ap : Lim key) (Q : Str → Bool → Bool → Prop) (h : F117.E o a b key Q) :
  Ret Tryz.prog 133 [.slice A1 n2 c3, .slice A6 n7 c8, .slice am an ao, vs key] w0 (fun v w' => ∃ (r0 : Str) (r1 : Bool) (r2 : Bool), v = .tuple #[vs r0, vb r1, vb r2] ∧ Q r0 r1 r2 ∧ Gr w0 w' none ∧ Lim r0) := by
 unfold F117.E at h
 have H := h
 clear h
 have hc0 := Ct.init hO
 refine Ret_enter Tryz.func133 rfl 71 rfl [.tmp 8, .tmp 9, .tmp 10] rfl rfl ?_
 refine W_seq (W_reg (L_as (vs ([] : Str)) rfl (L_as (vb false) rfl (L_as (vb false) rfl (L_nil (W_seq (W_reg (L_mv (.slice A1 n2 c3) rfl ?_))))))))
 refine L_mv (vs key) rfl ?_
 refine L_call go150 [.slice A1 n2 c3, vs key] rfl ((F116.calls w0 hc0.ok o A1 n2 c3 hp4 key ap _ H).mono ?_)
 rintro _ a8 ⟨r, r2, rfl, H, a9, bd⟩
 have aq := hc0.k0 a9
 refine L_mv (.tuple #[vs r, vb r2]) rfl (L_pu (P_ext [vs r, vb r2] 0 (vs r) rfl rfl) (L_pu (P_ext [vs r, vb r2] 1 (vb r2) rfl rfl) (L_as (vs r) rfl (L_as (vb r2) rfl (L_nil (W_seq (W_reg (L_mv (.slice A6 n7 c8) rfl ?_))))))))
 refine L_mv (vs key) rfl ?_
 refine L_call go150 [.slice A6 n7 c8, vs key] rfl ((F116.calls a8 aq.ok a A6 n7 c8 (hp9.st aq.st) key ap _ H).mono ?_)
 rintro _ ba ⟨r3, r4, rfl, H, bb, ad⟩
 have ar := aq.k0 bb
 refine L_mv (.tuple #[vs r3, vb r4]) rfl (L_pu (P_ext [vs r3, vb r4] 0 (vs r3) rfl rfl) (L_pu (P_ext [vs r3, vb r4] 1 (vb r4) rfl rfl) (L_as (vs r3) rfl (L_as (vb r4) rfl (L_nil (W_seq (W_reg (L_mv (.slice am an ao) rfl ?_))))))))
 refine L_mv (vs key) rfl ?_
 refine L_call go150 [.slice am an ao, vs key] rfl ((F116.calls ba ar.ok b am an ao (a7.st ar.st) key ap _ H).mono ?_)
 rintro _ be ⟨r5, r6, rfl, H, bc, al⟩
 have aa := ar.k0 bc
 refine L_mv (.tuple #[vs r5, vb r6]) rfl (L_pu (P_ext [vs r5, vb r6] 0 (vs r5) rfl rfl) (L_pu (P_ext [vs r5, vb r6] 1 (vb r6) rfl rfl) (L_as (vs r5) rfl (L_as (vb r6) rfl (L_nil (W_seq (W_block (W_seq ?_))))))))
 refine W_reg (L_mv (vs r3) rfl (L_mv (vs r) rfl (L_pu (P_scmp r3 r (r3 == r) rfl rfl rfl) (L_mv (vb (r3 == r)) rfl ?_))))
 rcases bool_or (r3 == r) with ae | ae
 ·have H := ite_t H ae
  refine L_rb ae rfl (L_mv (vb r4) rfl (L_rb ae rfl (L_mv (vb r2) rfl (L_rb ae rfl (L_pu (P_bcmp Tryz.underlying4 r4 r2 (r4 == r2) rfl rfl rfl) (L_pu (P_pick true (vb (r4 == r2)) (by exact congrArg Value.bool ae) rfl) (L_as (vb (r4 == r2)) rfl (L_nil ?_))))))))
  refine W_cond (r4 == r2) rfl (fun au => ?_) (fun au => ?_)
  ·have H := ite_t H au
   refine W_seq (W_reg (L_mv (vs r5) rfl (L_mv (vb r6) rfl (L_as (vs r5) rfl (L_as (vb r6) rfl (L_as (vb true) rfl (L_nil (W_ret ?_))))))))
   exact ⟨[vs r5, vb r6, vb true], ⟨_, rfl, ⟨_, rfl, ⟨_, rfl, rfl⟩⟩⟩, r5, r6, true, rfl, H, aa.gr.g0, al⟩
  have H := ite_f H au
  refine W_seq (W_reg (L_mv (vs r5) rfl (L_mv (vs r) rfl (L_pu (P_scmp r5 r (r5 == r) rfl rfl rfl) (L_mv (vb (r5 == r)) rfl ?_)))))
  rcases bool_or (r5 == r) with af | af
  ·have H := ite_t H af
   refine L_rb af rfl (L_mv (vb r6) rfl (L_rb af rfl (L_mv (vb r2) rfl (L_rb af rfl (L_pu (P_bcmp Tryz.underlying4 r6 r2 (r6 == r2) rfl rfl rfl) (L_pu (P_pick true (vb (r6 == r2)) (by exact congrArg Value.bool af) rfl) (L_mv (vb (r6 == r2)) rfl ?_)))))))
   rcases bool_or (r6 == r2) with ab | ab
   ·have H := ite_t H ab
    refine L_pb ab rfl (L_pb ab rfl (L_pb ab rfl (L_pb ab rfl (L_pn rfl (L_pn rfl (L_pn rfl (L_pb ab rfl (L_pu (P_pick true (vb true) (by exact congrArg Value.bool ab) rfl) ?_))))))))
    refine L_as (vb true) rfl (L_nil (W_ct (b := true) rfl rfl ?_))
    refine W_seq (W_reg (L_mv (vs r3) rfl (L_mv (vb r4) rfl (L_as (vs r3) rfl (L_as (vb r4) rfl (L_as (vb true) rfl (L_nil (W_ret ?_))))))))
    exact ⟨[vs r3, vb r4, vb true], ⟨_, rfl, ⟨_, rfl, ⟨_, rfl, rfl⟩⟩⟩, r3, r4, true, rfl, H, aa.gr.g0, ad⟩
   have H := ite_f H ab
   refine L_rb ab rfl (L_mv (vs r3) rfl (L_rb ab rfl (L_mv (vs r5) rfl (L_rb ab rfl (L_pu (P_scmp r3 r5 (r3 == r5) rfl rfl rfl) (L_rb ab rfl (L_mv (vb (r3 == r5)) rfl ?_)))))))
   rcases bool_or (r3 == r5) with ag | ag
   ·have H := ite_t H ag
    refine L_rb ag rfl (L_mv (vb r4) rfl (L_rb ag rfl (L_mv (vb r6) rfl (L_rb ag rfl (L_pu (P_bcmp Tryz.underlying4 r4 r6 (r4 == r6) rfl rfl rfl) (L_rb ab rfl (L_pu (P_pick true (vb (r4 == r6)) (by exact congrArg Value.bool ag) rfl) (L_pu (P_pick false (vb (r4 == r6)) (by exact congrArg Value.bool ab) rfl) ?_))))))))
    refine L_as (vb (r4 == r6)) rfl (L_nil ?_)
    refine W_cond (r4 == r6) rfl (fun av => ?_) (fun av => ?_)
    ·have H := ite_t H av
     refine W_seq (W_reg (L_mv (vs r3) rfl (L_mv (vb r4) rfl (L_as (vs r3) rfl (L_as (vb r4) rfl (L_as (vb true) rfl (L_nil (W_ret ?_))))))))
     exact ⟨[vs r3, vb r4, vb true], ⟨_, rfl, ⟨_, rfl, ⟨_, rfl, rfl⟩⟩⟩, r3, r4, true, rfl, H, aa.gr.g0, ad⟩
    have H := ite_f H av
    refine W_seq (W_reg (L_mv (vb r4) rfl (L_as (vb r4) rfl (L_nil ?_))))
    refine W_cond r4 rfl (fun aw => ?_) (fun aw => ?_)
    ·have H := ite_t H aw
     exact W_seq (W_reg (L_mv (vs r3) rfl (L_as (vs r3) rfl (L_as (vb true) rfl (L_as (vb false) rfl (L_nil (W_ret ⟨[vs r3, vb true, vb false], ⟨_, rfl, ⟨_, rfl, ⟨_, rfl, rfl⟩⟩⟩, r3, true, false, rfl, H, aa.gr.g0, ad⟩)))))))
    have H := ite_f H aw
    refine W_skip (W_seq (W_reg (L_mv (vs r5) rfl (L_as (vs r5) rfl (L_as (vb true) rfl (L_as (vb false) rfl (L_nil (W_ret ?_))))))))
    exact ⟨[vs r5, vb true, vb false], ⟨_, rfl, ⟨_, rfl, ⟨_, rfl, rfl⟩⟩⟩, r5, true, false, rfl, H, aa.gr.g0, al⟩
   have H := ite_f H ag
   refine L_pb ag rfl (L_pb ag rfl (L_pb ag rfl (L_rb ab rfl (L_pu (P_pick false (vb false) (by exact congrArg Value.bool ag) rfl) (L_pu (P_pick false (vb false) (by exact congrArg Value.bool ab) rfl) (L_as (vb false) rfl (L_nil (W_cf (b := false) rfl rfl ?_))))))))
   refine W_seq (W_reg (L_mv (vb r4) rfl (L_as (vb r4) rfl (L_nil ?_))))
   refine W_cond r4 rfl (fun ax => ?_) (fun ax => ?_)
   ·have H := ite_t H ax
    exact W_seq (W_reg (L_mv (vs r3) rfl (L_as (vs r3) rfl (L_as (vb true) rfl (L_as (vb false) rfl (L_nil (W_ret ⟨[vs r3, vb true, vb false], ⟨_, rfl, ⟨_, rfl, ⟨_, rfl, rfl⟩⟩⟩, r3, true, false, rfl, H, aa.gr.g0, ad⟩)))))))
   have H := ite_f H ax
   refine W_skip (W_seq (W_reg (L_mv (vs r5) rfl (L_as (vs r5) rfl (L_as (vb true) rfl (L_as (vb false) rfl (L_nil (W_ret ?_))))))))
   exact ⟨[vs r5, vb true, vb false], ⟨_, rfl, ⟨_, rfl, ⟨_, rfl, rfl⟩⟩⟩, r5, true, false, rfl, H, aa.gr.g0, al⟩
  have H := ite_f H af
  refine L_pb af rfl (L_pb af rfl (L_pb af rfl (L_pu (P_pick false (vb false) (by exact congrArg Value.bool af) rfl) (L_mv (vb false) rfl (L_run (dj := 55) rfl rfl rfl (L_mv (vs r3) rfl (L_run (dj := 55) rfl rfl rfl (L_mv (vs r5) rfl ?_))))))))
  refine L_run (dj := 55) rfl rfl rfl (L_pu (P_scmp r3 r5 (r3 == r5) rfl rfl rfl) (L_run (dj := 55) rfl rfl rfl (L_mv (vb (r3 == r5)) rfl ?_)))
  rcases bool_or (r3 == r5) with ah | ah
  ·have H := ite_t H ah
   refine L_rb ah rfl (L_mv (vb r4) rfl (L_rb ah rfl (L_mv (vb r6) rfl (L_rb ah rfl (L_pu (P_bcmp Tryz.underlying4 r4 r6 (r4 == r6) rfl rfl rfl) (L_run (dj := 55) rfl rfl rfl (L_pu (P_pick true (vb (r4 == r6)) (by exact congrArg Value.bool ah) rfl) (L_pu (P_pick false (vb (r4 == r6)) (by exact congrArg Value.bool rfl) rfl) ?_))))))))
   refine L_as (vb (r4 == r6)) rfl (L_nil ?_)
   refine W_cond (r4 == r6) rfl (fun ay => ?_) (fun ay => ?_)
   ·have H := ite_t H ay
    refine W_seq (W_reg (L_mv (vs r3) rfl (L_mv (vb r4) rfl (L_as (vs r3) rfl (L_as (vb r4) rfl (L_as (vb true) rfl (L_nil (W_ret ?_))))))))
    exact ⟨[vs r3, vb r4, vb true], ⟨_, rfl, ⟨_, rfl, ⟨_, rfl, rfl⟩⟩⟩, r3, r4, true, rfl, H, aa.gr.g0, ad⟩
   have H := ite_f H ay
   refine W_seq (W_reg (L_mv (vb r4) rfl (L_as (vb r4) rfl (L_nil ?_))))
   refine W_cond r4 rfl (fun az => ?_) (fun az => ?_)
   ·have H := ite_t H az
    exact W_seq (W_reg (L_mv (vs r3) rfl (L_as (vs r3) rfl (L_as (vb true) rfl (L_as (vb false) rfl (L_nil (W_ret ⟨[vs r3, vb true, vb false], ⟨_, rfl, ⟨_, rfl, ⟨_, rfl, rfl⟩⟩⟩, r3, true, false, rfl, H, aa.gr.g0, ad⟩)))))))
   have H := ite_f H az
   refine W_skip (W_seq (W_reg (L_mv (vs r5) rfl (L_as (vs r5) rfl (L_as (vb true) rfl (L_as (vb false) rfl (L_nil (W_ret ?_))))))))
   exact ⟨[vs r5, vb true, vb false], ⟨_, rfl, ⟨_, rfl, ⟨_, rfl, rfl⟩⟩⟩, r5, true, false, rfl, H, aa.gr.g0, al⟩
  have H := ite_f H ah
  refine L_pb ah rfl (L_pb ah rfl (L_pb ah rfl (L_run (dj := 55) rfl rfl rfl (L_pu (P_pick false (vb false) (by exact congrArg Value.bool ah) rfl) (L_pu (P_pick false (vb false) (by exact congrArg Value.bool rfl) rfl) (L_as (vb false) rfl (L_nil (W_cf (b := false) rfl rfl ?_))))))))
  refine W_seq (W_reg (L_mv (vb r4) rfl (L_as (vb r4) rfl (L_nil ?_))))
  refine W_cond r4 rfl (fun a0 => ?_) (fun a0 => ?_)
  ·have H := ite_t H a0
   exact W_seq (W_reg (L_mv (vs r3) rfl (L_as (vs r3) rfl (L_as (vb true) rfl (L_as (vb false) rfl (L_nil (W_ret ⟨[vs r3, vb true, vb false], ⟨_, rfl, ⟨_, rfl, ⟨_, rfl, rfl⟩⟩⟩, r3, true, false, rfl, H, aa.gr.g0, ad⟩)))))))
  have H := ite_f H a0
  refine W_skip (W_seq (W_reg (L_mv (vs r5) rfl (L_as (vs r5) rfl (L_as (vb true) rfl (L_as (vb false) rfl (L_nil (W_ret ?_))))))))
  exact ⟨[vs r5, vb true, vb false], ⟨_, rfl, ⟨_, rfl, ⟨_, rfl, rfl⟩⟩⟩, r5, true, false, rfl, H, aa.gr.g0, al⟩
 have H := ite_f H ae
 refine L_pb ae rfl (L_pb ae rfl (L_pb ae rfl (L_pu (P_pick false (vb false) (by exact congrArg Value.bool ae) rfl) (L_as (vb false) rfl (L_nil (W_cf (b := false) rfl rfl ?_))))))
 refine W_seq (W_reg (L_mv (vs r5) rfl (L_mv (vs r) rfl (L_pu (P_scmp r5 r (r5 == r) rfl rfl rfl) (L_mv (vb (r5 == r)) rfl ?_)))))
 rcases bool_or (r5 == r) with ai | ai
 ·have H := ite_t H ai
  refine L_rb ai rfl (L_mv (vb r6) rfl (L_rb ai rfl (L_mv (vb r2) rfl (L_rb ai rfl (L_pu (P_bcmp Tryz.underlying4 r6 r2 (r6 == r2) rfl rfl rfl) (L_pu (P_pick true (vb (r6 == r2)) (by exact congrArg Value.bool ai) rfl) (L_mv (vb (r6 == r2)) rfl ?_)))))))
  rcases bool_or (r6 == r2) with ac | ac
  ·have H := ite_t H ac
   refine L_pb ac rfl (L_pb ac rfl (L_pb ac rfl (L_pb ac rfl (L_pn rfl (L_pn rfl (L_pn rfl (L_pb ac rfl (L_pu (P_pick true (vb true) (by exact congrArg Value.bool ac) rfl) ?_))))))))
   refine L_as (vb true) rfl (L_nil (W_ct (b := true) rfl rfl ?_))
   refine W_seq (W_reg (L_mv (vs r3) rfl (L_mv (vb r4) rfl (L_as (vs r3) rfl (L_as (vb r4) rfl (L_as (vb true) rfl (L_nil (W_ret ?_))))))))
   exact ⟨[vs r3, vb r4, vb true], ⟨_, rfl, ⟨_, rfl, ⟨_, rfl, rfl⟩⟩⟩, r3, r4, true, rfl, H, aa.gr.g0, ad⟩
  have H := ite_f H ac
  refine L_rb ac rfl (L_mv (vs r3) rfl (L_rb ac rfl (L_mv (vs r5) rfl (L_rb ac rfl (L_pu (P_scmp r3 r5 (r3 == r5) rfl rfl rfl) (L_rb ac rfl (L_mv (vb (r3 == r5)) rfl ?_)))))))
  rcases bool_or (r3 == r5) with aj | aj
  ·have H := ite_t H aj
   refine L_rb aj rfl (L_mv (vb r4) rfl (L_rb aj rfl (L_mv (vb r6) rfl (L_rb aj rfl (L_pu (P_bcmp Tryz.underlying4 r4 r6 (r4 == r6) rfl rfl rfl) (L_rb ac rfl (L_pu (P_pick true (vb (r4 == r6)) (by exact congrArg Value.bool aj) rfl) (L_pu (P_pick false (vb (r4 == r6)) (by exact congrArg Value.bool ac) rfl) ?_))))))))
   refine L_as (vb (r4 == r6)) rfl (L_nil ?_)
   refine W_cond (r4 == r6) rfl (fun a1 => ?_) (fun a1 => ?_)
   ·have H := ite_t H a1
    refine W_seq (W_reg (L_mv (vs r3) rfl (L_mv (vb r4) rfl (L_as (vs r3) rfl (L_as (vb r4) rfl (L_as (vb true) rfl (L_nil (W_ret ?_))))))))
    exact ⟨[vs r3, vb r4, vb true], ⟨_, rfl, ⟨_, rfl, ⟨_, rfl, rfl⟩⟩⟩, r3, r4, true, rfl, H, aa.gr.g0, ad⟩
   have H := ite_f H a1
   refine W_seq (W_reg (L_mv (vb r4) rfl (L_as (vb r4) rfl (L_nil ?_))))
   refine W_cond r4 rfl (fun a2 => ?_) (fun a2 => ?_)
   ·have H := ite_t H a2
    exact W_seq (W_reg (L_mv (vs r3) rfl (L_as (vs r3) rfl (L_as (vb true) rfl (L_as (vb false) rfl (L_nil (W_ret ⟨[vs r3, vb true, vb false], ⟨_, rfl, ⟨_, rfl, ⟨_, rfl, rfl⟩⟩⟩, r3, true, false, rfl, H, aa.gr.g0, ad⟩)))))))
   have H := ite_f H a2
   refine W_skip (W_seq (W_reg (L_mv (vs r5) rfl (L_as (vs r5) rfl (L_as (vb true) rfl (L_as (vb false) rfl (L_nil (W_ret ?_))))))))
   exact ⟨[vs r5, vb true, vb false], ⟨_, rfl, ⟨_, rfl, ⟨_, rfl, rfl⟩⟩⟩, r5, true, false, rfl, H, aa.gr.g0, al⟩
  have H := ite_f H aj
  refine L_pb aj rfl (L_pb aj rfl (L_pb aj rfl (L_rb ac rfl (L_pu (P_pick false (vb false) (by exact congrArg Value.bool aj) rfl) (L_pu (P_pick false (vb false) (by exact congrArg Value.bool ac) rfl) (L_as (vb false) rfl (L_nil (W_cf (b := false) rfl rfl ?_))))))))
  refine W_seq (W_reg (L_mv (vb r4) rfl (L_as (vb r4) rfl (L_nil ?_))))
  refine W_cond r4 rfl (fun a3 => ?_) (fun a3 => ?_)
  ·have H := ite_t H a3
   exact W_seq (W_reg (L_mv (vs r3) rfl (L_as (vs r3) rfl (L_as (vb true) rfl (L_as (vb false) rfl (L_nil (W_ret ⟨[vs r3, vb true, vb false], ⟨_, rfl, ⟨_, rfl, ⟨_, rfl, rfl⟩⟩⟩, r3, true, false, rfl, H, aa.gr.g0, ad⟩)))))))
  have H := ite_f H a3
  refine W_skip (W_seq (W_reg (L_mv (vs r5) rfl (L_as (vs r5) rfl (L_as (vb true) rfl (L_as (vb false) rfl (L_nil (W_ret ?_))))))))
  exact ⟨[vs r5, vb true, vb false], ⟨_, rfl, ⟨_, rfl, ⟨_, rfl, rfl⟩⟩⟩, r5, true, false, rfl, H, aa.gr.g0, al⟩
 have H := ite_f H ai
 refine L_pb ai rfl (L_pb ai rfl (L_pb ai rfl (L_pu (P_pick false (vb false) (by exact congrArg Value.bool ai) rfl) (L_mv (vb false) rfl (L_run (dj := 55) rfl rfl rfl (L_mv (vs r3) rfl (L_run (dj := 55) rfl rfl rfl (L_mv (vs r5) rfl ?_))))))))
 refine L_run (dj := 55) rfl rfl rfl (L_pu (P_scmp r3 r5 (r3 == r5) rfl rfl rfl) (L_run (dj := 55) rfl rfl rfl (L_mv (vb (r3 == r5)) rfl ?_)))
 rcases bool_or (r3 == r5) with ak | ak
 ·have H := ite_t H ak
  refine L_rb ak rfl (L_mv (vb r4) rfl (L_rb ak rfl (L_mv (vb r6) rfl (L_rb ak rfl (L_pu (P_bcmp Tryz.underlying4 r4 r6 (r4 == r6) rfl rfl rfl) (L_run (dj := 55) rfl rfl rfl (L_pu (P_pick true (vb (r4 == r6)) (by exact congrArg Value.bool ak) rfl) (L_pu (P_pick false (vb (r4 == r6)) (by exact congrArg Value.bool rfl) rfl) ?_))))))))
  refine L_as (vb (r4 == r6)) rfl (L_nil ?_)
  refine W_cond (r4 == r6) rfl (fun a4 => ?_) (fun a4 => ?_)
  ·have H := ite_t H a4
   refine W_seq (W_reg (L_mv (vs r3) rfl (L_mv (vb r4) rfl (L_as (vs r3) rfl (L_as (vb r4) rfl (L_as (vb true) rfl (L_nil (W_ret ?_))))))))
   exact ⟨[vs r3, vb r4, vb true], ⟨_, rfl, ⟨_, rfl, ⟨_, rfl, rfl⟩⟩⟩, r3, r4, true, rfl, H, aa.gr.g0, ad⟩
  have H := ite_f H a4
  refine W_seq (W_reg (L_mv (vb r4) rfl (L_as (vb r4) rfl (L_nil ?_))))
  refine W_cond r4 rfl (fun a5 => ?_) (fun a5 => ?_)
  ·have H := ite_t H a5
   exact W_seq (W_reg (L_mv (vs r3) rfl (L_as (vs r3) rfl (L_as (vb true) rfl (L_as (vb false) rfl (L_nil (W_ret ⟨[vs r3, vb true, vb false], ⟨_, rfl, ⟨_, rfl, ⟨_, rfl, rfl⟩⟩⟩, r3, true, false, rfl, H, aa.gr.g0, ad⟩)))))))
  have H := ite_f H a5
  refine W_skip (W_seq (W_reg (L_mv (vs r5) rfl (L_as (vs r5) rfl (L_as (vb true) rfl (L_as (vb false) rfl (L_nil (W_ret ?_))))))))
  exact ⟨[vs r5, vb true, vb false], ⟨_, rfl, ⟨_, rfl, ⟨_, rfl, rfl⟩⟩⟩, r5, true, false, rfl, H, aa.gr.g0, al⟩
 have H := ite_f H ak
 refine L_pb ak rfl (L_pb ak rfl (L_pb ak rfl (L_run (dj := 55) rfl rfl rfl (L_pu (P_pick false (vb false) (by exact congrArg Value.bool ak) rfl) (L_pu (P_pick false (vb false) (by exact congrArg Value.bool rfl) rfl) (L_as (vb false) rfl (L_nil (W_cf (b := false) rfl rfl ?_))))))))
 refine W_seq (W_reg (L_mv (vb r4) rfl (L_as (vb r4) rfl (L_nil ?_))))
 refine W_cond r4 rfl (fun a6 => ?_) (fun a6 => ?_)
 ·have H := ite_t H a6
  exact W_seq (W_reg (L_mv (vs r3) rfl (L_as (vs r3) rfl (L_as (vb true) rfl (L_as (vb false) rfl (L_nil (W_ret ⟨[vs r3, vb true, vb false], ⟨_, rfl, ⟨_, rfl, ⟨_, rfl, rfl⟩⟩⟩, r3, true, false, rfl, H, aa.gr.g0, ad⟩)))))))
 have H := ite_f H a6
 refine W_skip (W_seq (W_reg (L_mv (vs r5) rfl (L_as (vs r5) rfl (L_as (vb true) rfl (L_as (vb false) rfl (L_nil (W_ret ?_))))))))
 exact ⟨[vs r5, vb true, vb false], ⟨_, rfl, ⟨_, rfl, ⟨_, rfl, rfl⟩⟩⟩, r5, true, false, rfl, H, aa.gr.g0, al⟩
end
end Go.Proofs.YtndjggncgpjolaaGreat