/- It is proved here that the law FnFeatJoin of the given program holds whatever it is handed: the walks through the code, the plain laws and the row, in this order.
   Conditions: none. -/
import Derived.Below
import Derived.ChangeArms
import Derived.ChangeOld
import Derived.ChangeSlices
import Derived.DataReads
import Derived.Deep.Quiet
import Derived.KernelRfl
import Derived.Laws.Build
import Derived.Laws.IdiomStrings
import Derived.Laws.OwnMore
import Derived.Laws.Slices
import Derived.Laws.StructEq
import Derived.OpenShut
import Derived.ProofKit
import Derived.Shelf.Slices.Cells
import Derived.Shelf.Slices.CompactS
import Derived.Shelf.Slices.In.SortNone
import Derived.Shelf.Small.Bits
import Derived.Shelf.Sort.Plain
import Derived.Shelf.Strconv.Itoa0
import Derived.ShutString
import Derived.SizedLaws
import Derived.StillTail
import Derived.Test.YtpdmnmpcjljeaaaProg
import Derived.Test.YtpdmnmpcjljeaaaRows
import Derived.WalkKit
import Derived.Test.YtpdmnmpcjljeaaaCFeatJoina
namespace Go.Proofs.Ytpdmnmpcjljeaaa
set_option linter.unusedVariables false
set_option linter.unusedSimpArgs false
set_option linter.unusedSectionVars false
set_option maxHeartbeats 8000000
set_option maxRecDepth 100000
section
open Go.RowKit
def F46.E (r_b : List UInt8) (r_p : Int) (Q : Shape → Int → Prop) : Prop :=
 F24.E r_b r_p ([1, 2, 2, 3, 3] : List Int) (fun r2 m => F15.E r_b m 4 (fun r3 m2 => (I64 (r2 + r3)) ∧ (∃ (J69 : Int → Prop), ((if r2 == 1 then J69 1 else J69 (r2 + r3))) ∧ ∀ (want : Int), J69 want → (∃ (I123 : Int → (List Pt) → Int → Prop) (mu124 : Int → (List Pt) → Int → Nat), I123 0 ([] : List Pt) m2 ∧ ∀ (i2 : Int) (xs2 : List Pt) (z2 : Int), I123 i2 xs2 z2 → (if decide (i2 < 12) then (if decide ((xs2.length : Int) < (F91.m want 6)) then F105.E r_b z2 (fun r5 m3 => (∃ (J180 : Bool → Prop), ((if (xs2.length : Int) == 0 then J180 true else ((xs2.length : Int) ≤ 9223372036854775807 → I64 ((xs2.length : Int) - 1)) ∧ ((0 : Int) ≤ (xs2.length : Int) - 1 ∧ (xs2.length : Int) - 1 < (xs2.length : Int)) ∧ (if !(eqPt (nth xs2 ((xs2.length : Int) - 1)) r5) then (if r2 != 3 then J180 true else ((0 : Int) ≤ 0 ∧ 0 < (xs2.length : Int)) ∧ J180 (!(eqPt (nth xs2 0) r5))) else J180 false))) ∧ ∀ (v : Bool), J180 v → (∃ (J279 : (List Pt) → Prop), ((if v then (xs2.length + ([r5] : List Pt).length ≤ 268435456) ∧ J279 (xs2 ++ ([r5] : List Pt)) else J279 xs2)) ∧ ∀ (xs3 : List Pt), J279 xs3 → (I64 (i2 + 1)) ∧ I123 (i2 + 1) xs3 m3 ∧ mu124 (i2 + 1) xs3 m3 < mu124 i2 xs2 z2))) else F45.E (⟨r2, xs2⟩ : Shape) (fun r6 => (if !r6 then F105.E r_b z2 (fun r7 m4 => Q (⟨1, ([r7] : List Pt)⟩ : Shape) m4) else Q (⟨r2, xs2⟩ : Shape) z2))) else F45.E (⟨r2, xs2⟩ : Shape) (fun r8 => (if !r8 then F105.E r_b z2 (fun r9 m5 => Q (⟨1, ([r9] : List Pt)⟩ : Shape) m5) else Q (⟨r2, xs2⟩ : Shape) z2)))))))
theorem F46.calls {O : Ob} (w0 : World) (hO : Ok w0 O) (b : Nat) (r_b : List UInt8) (A2 : Option Addr) (n3 c4 : Nat) (r_p : Int) (hp5 : Sl Kd.byte w0 (Fr O) (.slice A2 n3 c4) r_b) (hp0 : Bx w0 b [.slice A2 n3 c4, vi r_p]) (hm : some b ∈ O) (Q : Shape → Int → Prop) (h : F46.E r_b r_p Q) :
  Ret Try.prog 73 [.pointer (some ⟨b, 0, none⟩)] w0 (fun v w' => ∃ (r0 : Shape) (m0 : Int) (Aw0 : Option Addr) (nw0 cw0 : Nat), v = .agg #[vi r0.Kind, .slice Aw0 nw0 cw0] ∧ Q r0 m0 ∧ Gr w0 w' (some b) ∧ Bx w' b [.slice A2 n3 c4, vi m0] ∧ Ok w' ([bk Aw0] ++ O) ∧ (∀ b, some b ∈ [bk Aw0] → w0.heap.size ≤ b) ∧ Ow kPt 83 w' ([bk Aw0] ++ O) (.slice Aw0 nw0 cw0) r0.Pts) := by
 unfold F46.E at h
 have H := h
 clear h
 have hc0 := Ct.initm1 (r := some b) hO (by intro b e; cases e; exact hm)
 refine Ret_enter Try.func73 rfl 76 rfl [.cell 2 25] rfl rfl ?_
 refine W_seq (W_reg (L_alloc [.int .i64 0, .slice none 0 0] ze25 fun w7 b8 d8 hu11 g9 dh => ?_))
 have d9 := hc0.own g9 (some b8) (oglt d8 hu11)
 refine L_nil (W_seq (W_reg (L_mv (.pointer (some ⟨b, 0, none⟩)) rfl (L_lit (kd := (Kd.int .i64)) ei86 d9 ([1, 2, 2, 3, 3] : List Int) (cells := [vi 1, vi 2, vi 2, vi 3, vi 3]) ⟨[vi 1], _, rfl, rfl, ⟨[vi 2], _, rfl, rfl, ⟨[vi 2], _, rfl, rfl, ⟨[vi 3], _, rfl, rfl, ⟨[vi 3], _, rfl, rfl, rfl⟩⟩⟩⟩⟩ (fun _ => by kernel_rfl) fun ea di dj dk cf hr20 bn eb => ?_))))
 have ec := bn.gv eb 0 rfl
 have dl := bn.drop 0 rfl
 have ed := ((hp0.k0 g9).k0 cf)
 refine L_call go48 [.pointer (some ⟨b, 0, none⟩), .slice di dj dk] rfl ((F24.calls ea dl.ok b r_b A2 n3 c4 r_p (hp5.st dl.st) ed (List.mem_append_right _ hm) ([1, 2, 2, 3, 3] : List Int) di dj dk ec _ H).mono ?_)
 rintro _ kf ⟨r2, m, rfl, H, cg, ee⟩
 have ef := bn.wm cg
 refine L_pu (P_build (.agg #[vi r2, .slice none 0 0]) (fun _ => by kernel_rfl)) (L_alloc [.int .i64 0, .slice none 0 0] ze25 fun kg aa eg hu38 bz eh => ?_)
 have b0 := ef.own bz (some aa) (oglt eg hu38)
 refine L_stb aa 0 [vi 0, .slice none 0 0] [vi r2, .slice none 0 0] [vi r2, .slice none 0 0] rfl eh rfl sz25 rfl rfl rfl fun kh b1 ei => ?_
 have ej := b0.wr 0 rfl b1
 refine L_nil (W_seq ?_)
 have ek := ej.drop 1 rfl
 refine W_mixr 6 [some b] (by kernel_rfl) rfl fun el bo b2 => ?_
 have a8 := ek.k0 bo
 refine M_pu 0 rfl (by kernel_rfl) b2 (P_fa fa25_0 ⟨aa, 0, none⟩ ⟨aa, 0, none⟩ rfl rfl) ?_
 have dm := (ei.k0 bo)
 refine M_pu 1 rfl (by kernel_rfl) b2 (P_ldr ag3 cR ⟨aa, 0, none⟩ (vi r2) rfl (dm.cell rfl) (nm_cons (bx_nem a8 (j := 0) rfl) nm_nil)) ?_
 refine M_pu 2 rfl (by kernel_rfl) b2 (P_move (.pointer (some ⟨b, 0, none⟩)) rfl) ?_
 refine M_any1 3 (by kernel_rfl) rfl ?_
 have em := ((b0.bmo (ee.k0 bz) 0 rfl b1).k0 bo)
 refine L_call go25 [.pointer (some ⟨b, 0, none⟩), vi 4] rfl ((F15.calls el a8.ok b r_b A2 n3 c4 m (hp5.st a8.st) em (List.mem_append_right _ hm) 4 _ H).mono ?_)
 rintro _ ki ⟨r3, m2, rfl, H, bp, dn⟩
 have b3 := a8.wm bp
 have ch := Gm.tq b2 bp (hv_mem 0 rfl)
 refine L_nil ⟨ch, ?_⟩
 obtain ⟨en, H⟩ := H
 refine M_pu 4 rfl (by kernel_rfl) ch (P_add r2 r3 rfl rfl en) ?_
 refine M_pu 5 rfl (by kernel_rfl) ch (P_assign (vi (r2 + r3)) rfl) ?_
 refine M_nil (by kernel_rfl) ?_
 refine W_seq (W_seq (W_reg (L_pu (P_fa fa25_0 ⟨aa, 0, none⟩ ⟨aa, 0, none⟩ rfl rfl) ?_)))
 have ci := (a8.bwm dm 0 rfl bp)
 refine L_pu (P_ld ag3 cL ⟨aa, 0, none⟩ (vi r2) rfl (ci.cell rfl)) (L_pu (P_cmp r2 1 (r2 == 1) rfl rfl rfl) (L_nil ?_))
 obtain ⟨eo, H, ep⟩ := H
 refine W_join (J := (fun t aw => ∃ (want : Int), eo want ∧ Has t [(0, .pointer (some ⟨b, 0, none⟩)), (2, .pointer (some ⟨b8, 0, none⟩)), (3, .pointer (some ⟨aa, 0, none⟩)), (4, vi want)] ∧ Ct [some b] w0 aw [some aa, some b8] O ∧ Sl Kd.byte aw (Fr ([some aa, some b8] ++ O)) (.slice A2 n3 c4) r_b ∧ Bx aw b [.slice A2 n3 c4, vi m2] ∧ Bx aw b8 [vi 0, .slice none 0 0] ∧ Bx aw aa [vi r2, .slice none 0 0])) ?_ ?_
 ·refine W_cond (r2 == 1) rfl (fun cj => ?_) (fun cj => ?_)
  ·have H := ite_t H cj
   refine W_reg (L_as (vi 1) rfl (L_nil ?_))
   have eq := (a8.bwm ((b0.bm ((bn.bwm (dh.k0 cf) 1 rfl cg).k0 bz) 2 0 rfl rfl rfl b1).k0 bo) 1 rfl bp)
   exact ⟨1, H, (hasI rfl), b3, (hp5.st b3.st), dn, eq, ci⟩
  have H := ite_f H cj
  refine W_skip ?_
  have er := (a8.bwm ((b0.bm ((bn.bwm (dh.k0 cf) 1 rfl cg).k0 bz) 2 0 rfl rfl rfl b1).k0 bo) 1 rfl bp)
  exact ⟨r2 + r3, H, (hasI rfl), b3, (hp5.st b3.st), dn, er, ci⟩
 rintro kj aw ⟨want, es, et, dp, eu, ev, ew, ex⟩
 obtain ⟨kk, rfl⟩ := Has.ins et
 have H := ep want es
 refine W_seq (W_seq (W_reg (L_as (vi 0) rfl (L_nil (W_block ?_)))))
 have dq := dp.own (Gr.refl _ none) none (by simp)
 have ey : Ow kPt 83 aw ([bk none, some aa, some b8] ++ O) (.slice none 0 0) [] := Ow.nil _ _ _ _
 have ez := dq.own (Gr.refl _ none) none (by simp)
 have e0 : Ow kPt 83 aw ([bk none, bk none, some aa, some b8] ++ O) (.slice none 0 0) [] := Ow.nil _ _ _ _
 obtain ⟨e1, e2, ck, H⟩ := H
 have e3 := dp.st0n
 have e4 := dq.st0n
 have e5 := ((eu.st e3).st e4)
 have e6 := (ey.so none (Gr.refl _ none) (by simp))
 have e7 := ev
 have e8 := ew
 have e9 := ex
 refine W_loop (α := Int × (List Pt) × (Option Addr) × Nat × Nat × Int) (fun (sv__ : Int × (List Pt) × (Option Addr) × Nat × Nat × Int) t aq => match sv__ with | (i2, xs2, ab, ac, ad, z2) => e1 i2 xs2 z2 ∧ Has t [(0, .pointer (some ⟨b, 0, none⟩)), (2, .pointer (some ⟨b8, 0, none⟩)), (3, .pointer (some ⟨aa, 0, none⟩)), (4, vi want), (5, vi i2)] ∧ Ct [some b] w0 aq [bk ab, bk none, some aa, some b8] O ∧ Sl Kd.byte aq (Fr ([bk ab, bk none, some aa, some b8] ++ O)) (.slice A2 n3 c4) r_b ∧ Ow kPt 83 aq ([bk ab, bk none, some aa, some b8] ++ O) (.slice none 0 0) ([] : List Pt) ∧ Ow kPt 83 aq ([bk ab, bk none, some aa, some b8] ++ O) (.slice ab ac ad) xs2 ∧ Bx aq b [.slice A2 n3 c4, vi z2] ∧ Bx aq b8 [vi 0, .slice none 0 0] ∧ Bx aq aa [vi r2, .slice ab ac ad]) (fun (sv__ : Int × (List Pt) × (Option Addr) × Nat × Nat × Int) => match sv__ with | (i2, xs2, _, _, _, z2) => e2 i2 xs2 z2) (0, ([] : List Pt), none, 0, 0, m2) ⟨ck, (hasI rfl), ez, e5, e6, e0, e7, e8, e9⟩ ?_
 rintro ⟨i2, xs2, ab, ac, ad, z2⟩ _ aq ⟨ck, fa, bb, a9, b4, ba, bq, ax, b5⟩
 obtain ⟨kl, rfl⟩ := Has.ins fa
 have H := H i2 xs2 z2 ck
 refine W_seq (W_seq (W_draw (fun x => Gr aq x none) (by kernel_rfl) (by kernel_rfl) (Gr.drew _) ?_))
 refine Q_mv (vi i2) rfl (Q_pu (P_cmp i2 12 (decide (i2 < 12)) rfl rfl rfl) (Q_mv (vb (decide (i2 < 12))) rfl ?_))
 rcases bool_or (decide (i2 < 12)) with ak | ak
 ·have H := ite_t H ak
  refine Q_rb ak rfl (Q_pu (P_fa fa25_1 ⟨aa, 0, none⟩ ⟨aa, 1, none⟩ rfl rfl) (Q_rb ak rfl (Q_pu (P_ld ag23 cQ ⟨aa, 1, none⟩ (.slice ab ac ad) rfl (b5.cell rfl)) (Q_rb ak rfl ?_))))
  have fb := ba.le
  refine Q_pu (P_len Try.underlying23 ab ac ad ba.len rfl) (Q_rb ak rfl (Q_mv (vi want) rfl (Q_rb ak rfl ?_)))
  refine Q_call go105 [vi want, vi 6] rfl (vi (F91.m want 6)) (fun w g => (F91.calls w (bb.k0 g).ok want 6 _ (F91.fn want 6)).mono ?_) ?_
  ·rintro _ w ⟨r, rfl, rfl, g2, _⟩
   exact ⟨rfl, Gr.t0 g g2⟩
  refine Q_rb ak rfl (Q_pu (P_cmp (xs2.length : Int) (F91.m want 6) (decide ((xs2.length : Int) < (F91.m want 6))) rfl rfl rfl) (Q_pu (P_pick true (vb (decide ((xs2.length : Int) < (F91.m want 6)))) (by exact congrArg Value.bool ak) rfl) (Q_nil fun dr af => ?_)))
  have ag := bb.k0 af
  refine W_cond (decide ((xs2.length : Int) < (F91.m want 6))) rfl (fun cl => ?_) (fun cl => ?_)
  ·have H := ite_t H cl
   refine W_skip (W_seq (W_block (W_seq (W_reg (L_mv (.pointer (some ⟨b, 0, none⟩)) rfl ?_)))))
   have br := bb.stn af
   have fc := (bq.k0 af)
   refine L_call go106 [.pointer (some ⟨b, 0, none⟩)] rfl ((F105.calls dr ag.ok b r_b A2 n3 c4 z2 (a9.st br) fc (List.mem_append_right _ hm) _ H).mono ?_)
   rintro _ km ⟨r5, m3, rfl, H, an, b6⟩
   have bs := ag.wm an
   refine L_alloc [.int .i64 0, .int .i64 0] ze83 fun kn ao ap hu160 ah fd => ?_
   have ai := bs.own ah (some ao) (oglt ap hu160)
   refine L_stb ao 0 [vi 0, vi 0] [vi r5.X, vi r5.Y] [vi r5.X, vi r5.Y] rfl fd rfl sz83 rfl rfl rfl fun fe aj bc => ?_
   have ay := ai.wr 0 rfl aj
   refine L_nil (W_seq (W_reg (L_pu (P_fa fa25_1 ⟨aa, 0, none⟩ ⟨aa, 1, none⟩ rfl rfl) ?_)))
   have az := (ai.bm ((ag.bwm (b5.k0 af) 2 rfl an).k0 ah) 3 0 rfl rfl rfl aj)
   refine L_pu (P_ld ag23 cL ⟨aa, 1, none⟩ (.slice ab ac ad) rfl (az.cell rfl)) ?_
   have ar := (ai.sw ((ag.swm (ba.sn af) 0 rfl an).so _ ah (oge ap)) 1 0 rfl rfl rfl aj)
   refine L_pu (P_len Try.underlying23 ab ac ad ar.len rfl) (L_as (vi (xs2.length : Int)) rfl (L_nil (W_seq ?_)))
   obtain ⟨ff, H, fg⟩ := H
   refine W_join (J := (fun t au => ∃ (v : Bool), ff v ∧ Has t [(0, .pointer (some ⟨b, 0, none⟩)), (2, .pointer (some ⟨b8, 0, none⟩)), (3, .pointer (some ⟨aa, 0, none⟩)), (4, vi want), (5, vi i2), (6, .pointer (some ⟨ao, 0, none⟩)), (61, vb v)] ∧ Ct [some b] w0 au [some ao, bk ab, bk none, some aa, some b8] O ∧ Sl Kd.byte au (Fr ([some ao, bk ab, bk none, some aa, some b8] ++ O)) (.slice A2 n3 c4) r_b ∧ Ow kPt 83 au ([some ao, bk ab, bk none, some aa, some b8] ++ O) (.slice none 0 0) ([] : List Pt) ∧ Ow kPt 83 au ([some ao, bk ab, bk none, some aa, some b8] ++ O) (.slice ab ac ad) xs2 ∧ Bx au b [.slice A2 n3 c4, vi m3] ∧ Bx au b8 [vi 0, .slice none 0 0] ∧ Bx au aa [vi r2, .slice ab ac ad] ∧ Bx au ao [vi r5.X, vi r5.Y])) ?_ ?_
   ·refine W_draw (fun x => Gr fe x none) (by kernel_rfl) (by kernel_rfl) (Gr.drew _) ?_
    refine Q_mv (vi (xs2.length : Int)) rfl (Q_pu (P_cmp (xs2.length : Int) 0 ((xs2.length : Int) == 0) rfl rfl rfl) (Q_mv (vb ((xs2.length : Int) == 0)) rfl ?_))
    rcases bool_or ((xs2.length : Int) == 0) with ae | ae
    ·have H := ite_t H ae
     refine Q_pb ae rfl (Q_pb ae rfl (Q_pb ae rfl (Q_pb ae rfl (Q_pb ae rfl (Q_pb ae rfl (Q_pb ae rfl (Q_pb ae rfl (Q_pb ae rfl ?_))))))))
     refine Q_pn rfl (Q_pn rfl (Q_pn rfl (Q_pn rfl (Q_pn rfl (Q_pn rfl (Q_pn rfl (Q_pn rfl (Q_pn rfl ?_))))))))
     refine Q_pn rfl (Q_pn rfl (Q_pb ae rfl (Q_pu (P_pick true (vb true) (by exact congrArg Value.bool ae) rfl) (Q_nil fun ko a0 => ?_))))
     have fh := ay.k0 a0
     have fi := ag.stm an
     have fj := bs.stown _ ah (oge ap)
     have fk := ai.stw 0 rfl aj
     have fl := ay.stn a0
     have fm := (((((a9.st br).st fi).st fj).st fk).st fl)
     have fo := ((ai.sw ((ag.swm (b4.sn af) 1 rfl an).so _ ah (oge ap)) 2 0 rfl rfl rfl aj).sn a0)
     have fp := (ar.sn a0)
     have fq := ((ai.bmo (b6.k0 ah) 0 rfl aj).k0 a0)
     have fr := ((ai.bm ((ag.bwm (ax.k0 af) 3 rfl an).k0 ah) 4 0 rfl rfl rfl aj).k0 a0)
     have fs := (az.k0 a0)
     have ft := (bc.k0 a0)
     exact ⟨true, H, (hasI rfl), fh, fm, fo, fp, fq, fr, fs, ft⟩
    have H := ite_f H ae
    refine Q_rb ae rfl (Q_pu (P_fa fa25_1 ⟨aa, 0, none⟩ ⟨aa, 1, none⟩ rfl rfl) (Q_rb ae rfl (Q_pu (P_ld ag23 cQ ⟨aa, 1, none⟩ (.slice ab ac ad) rfl (az.cell rfl)) (Q_rb ae rfl (Q_mv (vi (xs2.length : Int)) rfl (Q_rb ae rfl ?_))))))
    obtain ⟨fu, H⟩ := H
    have fv := fu (len_le fb)
    refine Q_pu (P_sub (xs2.length : Int) 1 rfl rfl fv) (Q_rb ae rfl ?_)
    obtain ⟨ds, H⟩ := H
    obtain ⟨dt, kp, fw, fx, fy⟩ := ar.get default (by decide) ((xs2.length : Int) - 1) ds
    obtain rfl := kPt.op fx
    refine Q_pu (P_ia Try.underlying23 se23 ab dt ac ad ar.len ((xs2.length : Int) - 1) rfl fw rfl ds) (Q_rb ae rfl (Q_pu (P_lda ag83 sz83 cQ (dt.add (((xs2.length : Int) - 1).toNat * 2)) [vi ((nth xs2 ((xs2.length : Int) - 1)).X), vi ((nth xs2 ((xs2.length : Int) - 1)).Y)] rfl rfl fy) (Q_rb ae rfl (Q_pu (P_lda ag83 sz83 cQ ⟨ao, 0, none⟩ [vi r5.X, vi r5.Y] rfl rfl (bc.cells (off := 0) rfl)) (Q_rb ae rfl (Q_pu (P_ne _ _ (eqPt (nth xs2 ((xs2.length : Int) - 1)) r5) (qt83 (nth xs2 ((xs2.length : Int) - 1)) r5) rfl rfl) (Q_rb ae rfl (Q_mv (vb (!(eqPt (nth xs2 ((xs2.length : Int) - 1)) r5))) rfl ?_))))))))
    rcases bool_or (!(eqPt (nth xs2 ((xs2.length : Int) - 1)) r5)) with al | al
    ·have H := ite_t H al
     refine Q_rb al rfl (Q_pu (P_fa fa25_0 ⟨aa, 0, none⟩ ⟨aa, 0, none⟩ rfl rfl) (Q_rb al rfl (Q_pu (P_ld ag3 cQ ⟨aa, 0, none⟩ (vi r2) rfl (az.cell rfl)) (Q_rb al rfl (Q_pu (P_cmp r2 3 (r2 != 3) rfl rfl rfl) (Q_rb al rfl (Q_mv (vb (r2 != 3)) rfl ?_)))))))
     rcases bool_or (r2 != 3) with am | am
     ·have H := ite_t H am
      refine Q_pb am rfl (Q_pb am rfl (Q_pb am rfl (Q_pb am rfl (Q_pb am rfl (Q_pb am rfl (Q_rb al rfl (Q_pu (P_pick true (vb true) (by exact congrArg Value.bool am) rfl) (Q_rb ae rfl ?_))))))))
      refine Q_pu (P_pick true (vb true) (by exact congrArg Value.bool al) rfl) (Q_pu (P_pick false (vb true) (by exact congrArg Value.bool ae) rfl) (Q_nil fun kq a1 => ?_))
      have fz := ay.k0 a1
      have f0 := ag.stm an
      have f1 := bs.stown _ ah (oge ap)
      have f2 := ai.stw 0 rfl aj
      have f3 := ay.stn a1
      have f4 := (((((a9.st br).st f0).st f1).st f2).st f3)
      have f5 := ((ai.sw ((ag.swm (b4.sn af) 1 rfl an).so _ ah (oge ap)) 2 0 rfl rfl rfl aj).sn a1)
      have f6 := (ar.sn a1)
      have f7 := ((ai.bmo (b6.k0 ah) 0 rfl aj).k0 a1)
      have f8 := ((ai.bm ((ag.bwm (ax.k0 af) 3 rfl an).k0 ah) 4 0 rfl rfl rfl aj).k0 a1)
      have f9 := (az.k0 a1)
      have ga := (bc.k0 a1)
      exact ⟨true, H, (hasI rfl), fz, f4, f5, f6, f7, f8, f9, ga⟩
     have H := ite_f H am
     refine Q_rb am rfl (Q_pu (P_fa fa25_1 ⟨aa, 0, none⟩ ⟨aa, 1, none⟩ rfl rfl) (Q_rb am rfl (Q_pu (P_ld ag23 cQ ⟨aa, 1, none⟩ (.slice ab ac ad) rfl (az.cell rfl)) (Q_rb am rfl ?_))))
     obtain ⟨du, H⟩ := H
     obtain ⟨dv, kr, gb, gc, gd⟩ := ar.get default (by decide) 0 du
     obtain rfl := kPt.op gc
     refine Q_pu (P_ia Try.underlying23 se23 ab dv ac ad ar.len 0 rfl gb rfl du) (Q_rb am rfl (Q_pu (P_lda ag83 sz83 cQ (dv.add ((0 : Int).toNat * 2)) [vi ((nth xs2 0).X), vi ((nth xs2 0).Y)] rfl rfl gd) (Q_rb am rfl (Q_pu (P_lda ag83 sz83 cQ ⟨ao, 0, none⟩ [vi r5.X, vi r5.Y] rfl rfl (bc.cells (off := 0) rfl)) (Q_rb am rfl (Q_pu (P_ne _ _ (eqPt (nth xs2 0) r5) (qt83 (nth xs2 0) r5) rfl rfl) (Q_rb al rfl (Q_pu (P_pick false (vb (!(eqPt (nth xs2 0) r5))) (by exact congrArg Value.bool am) rfl) ?_))))))))
     refine Q_rb ae rfl (Q_pu (P_pick true (vb (!(eqPt (nth xs2 0) r5))) (by exact congrArg Value.bool al) rfl) (Q_pu (P_pick false (vb (!(eqPt (nth xs2 0) r5))) (by exact congrArg Value.bool ae) rfl) (Q_nil fun ks a2 => ?_)))
     have gf := ay.k0 a2
     have gg := ag.stm an
     have gh := bs.stown _ ah (oge ap)
     have gi := ai.stw 0 rfl aj
     have gj := ay.stn a2
     have gk := (((((a9.st br).st gg).st gh).st gi).st gj)
     have gl := ((ai.sw ((ag.swm (b4.sn af) 1 rfl an).so _ ah (oge ap)) 2 0 rfl rfl rfl aj).sn a2)
     have gm := (ar.sn a2)
     have gn := ((ai.bmo (b6.k0 ah) 0 rfl aj).k0 a2)
     have gp := ((ai.bm ((ag.bwm (ax.k0 af) 3 rfl an).k0 ah) 4 0 rfl rfl rfl aj).k0 a2)
     have gq := (az.k0 a2)
     have gs := (bc.k0 a2)
     exact ⟨!(eqPt (nth xs2 0) r5), H, (hasI rfl), gf, gk, gl, gm, gn, gp, gq, gs⟩
    have H := ite_f H al
    refine Q_pb al rfl (Q_pb al rfl (Q_pb al rfl (Q_pb al rfl (Q_pn rfl (Q_pn rfl (Q_pn rfl (Q_pn rfl (Q_pn rfl ?_))))))))
    refine Q_pn rfl (Q_pb al rfl (Q_rb ae rfl (Q_pu (P_pick false (vb false) (by exact congrArg Value.bool al) rfl) (Q_pu (P_pick false (vb false) (by exact congrArg Value.bool ae) rfl) (Q_nil fun kt a3 => ?_)))))
    have gt := ay.k0 a3
    have gu := ag.stm an
    have gw := bs.stown _ ah (oge ap)
    have gx := ai.stw 0 rfl aj
    have gy := ay.stn a3
    have gz := (((((a9.st br).st gu).st gw).st gx).st gy)
    have g0 := ((ai.sw ((ag.swm (b4.sn af) 1 rfl an).so _ ah (oge ap)) 2 0 rfl rfl rfl aj).sn a3)
    have g3 := (ar.sn a3)
    have g4 := ((ai.bmo (b6.k0 ah) 0 rfl aj).k0 a3)
    have g5 := ((ai.bm ((ag.bwm (ax.k0 af) 3 rfl an).k0 ah) 4 0 rfl rfl rfl aj).k0 a3)
    have g6 := (az.k0 a3)
    have g7 := (bc.k0 a3)
    exact ⟨false, H, (hasI rfl), gt, gz, g0, g3, g4, g5, g6, g7⟩
   rintro ku au ⟨v, g8, ha, bd, dw, dx, dy, dz, d0, cm, hb⟩
   obtain ⟨kv, rfl⟩ := Has.ins ha
   have H := fg v g8
   obtain ⟨hc, H, hd⟩ := H
   refine W_join (J := (fun t a4 => ∃ (xs3 : List Pt) (a5 : Option Addr) (b7 : Nat) (b9 : Nat), hc xs3 ∧ Has t [(0, .pointer (some ⟨b, 0, none⟩)), (2, .pointer (some ⟨b8, 0, none⟩)), (3, .pointer (some ⟨aa, 0, none⟩)), (4, vi want), (5, vi i2)] ∧ Ct [some b] w0 a4 [bk a5, bk none, some aa, some b8] O ∧ Sl Kd.byte a4 (Fr ([bk a5, bk none, some aa, some b8] ++ O)) (.slice A2 n3 c4) r_b ∧ Ow kPt 83 a4 ([bk a5, bk none, some aa, some b8] ++ O) (.slice none 0 0) ([] : List Pt) ∧ Ow kPt 83 a4 ([bk a5, bk none, some aa, some b8] ++ O) (.slice a5 b7 b9) xs3 ∧ Bx a4 b [.slice A2 n3 c4, vi m3] ∧ Bx a4 b8 [vi 0, .slice none 0 0] ∧ Bx a4 aa [vi r2, .slice a5 b7 b9])) ?_ ?_
   ·refine W_cond v rfl (fun cn => ?_) (fun cn => ?_)
    ·have H := ite_t H cn
     refine W_reg (L_pu (P_fa fa25_1 ⟨aa, 0, none⟩ ⟨aa, 1, none⟩ rfl rfl) (L_pu (P_ld ag23 cL ⟨aa, 1, none⟩ (.slice ab ac ad) rfl (cm.cell rfl)) (L_pu (P_lda ag83 sz83 cL ⟨ao, 0, none⟩ [vi r5.X, vi r5.Y] rfl rfl (hb.cells (off := 0) rfl)) (L_lit (kd := kPt) ei23 bd ([r5] : List Pt) (cells := [vi r5.X, vi r5.Y]) ⟨[vi r5.X, vi r5.Y], _, rfl, (kPt.mk _ _ r5), rfl⟩ (fun _ => by kernel_rfl) fun kx he hf hg be hr288 bt hh => ?_))))
     obtain ⟨hi, H⟩ := H
     have hj := (dy.so _ be hr288)
     refine L_app ei23 bt (.slice ab ac ad) xs2 ([r5] : List Pt) rfl hj (.slice he hf hg) rfl hh.sx 2 rfl hi fun ky ca co cp cb d1 bf hk => ?_
     refine L_pu (P_fa fa25_1 ⟨aa, 0, none⟩ ⟨aa, 1, none⟩ rfl rfl) ?_
     have hl := (bt.bm (cm.k0 be) 4 2 rfl rfl rfl cb)
     refine L_stb aa 1 [vi r2, .slice ab ac ad] [.slice ca co cp] [vi r2, .slice ca co cp] rfl hl rfl sz23 rfl rfl rfl fun hn bg ho => ?_
     have cc := bf.wr 4 rfl bg
     refine L_nil ?_
     have cd := cc.drop 0 rfl
     have hp : Ct [some b] w0 hn [bk ca, bk none, some aa, some b8] O := cd.drop 0 rfl
     have hq := bd.stown _ be hr288
     have hr := bf.stw 4 rfl bg
     have hs := cc.std 0 rfl
     have ht := cd.std 0 rfl
     have hu := (((((dw.st hq).st d1).st hr).st hs).st ht)
     have hv := (cd.sd (cc.sd (bf.sw (bt.sm (dx.so _ be hr288) 3 2 rfl rfl rfl cb d1) 3 4 rfl rfl rfl bg) 3 0 rfl rfl rfl) 2 0 rfl rfl rfl)
     have hw := (cd.sd (cc.sd (bf.sw hk 2 4 rfl rfl rfl bg) 2 0 rfl rfl rfl) 1 0 rfl rfl rfl)
     have hx := (bf.bmo (bt.bmo (dz.k0 be) 2 rfl cb) 4 rfl bg)
     have hy := (bf.bm (bt.bm (d0.k0 be) 5 2 rfl rfl rfl cb) 5 4 rfl rfl rfl bg)
     have hz := ho
     exact ⟨(xs2 ++ ([r5] : List Pt)), ca, co, cp, H, (hasI rfl), hp, hu, hv, hw, hx, hy, hz⟩
    have H := ite_f H cn
    refine W_skip ?_
    have h0 := bd.drop 0 rfl
    have h1 := bd.std 0 rfl
    have h2 := (bd.sd dx 2 0 rfl rfl rfl)
    have h3 := (bd.sd dy 1 0 rfl rfl rfl)
    have h4 := dz
    have h5 := d0
    have h6 := cm
    exact ⟨xs2, ab, ac, ad, H, (hasI rfl), h0, (dw.st h1), h2, h3, h4, h5, h6⟩
   rintro kz a4 ⟨xs3, a5, b7, b9, h7, h8, h9, ia, ib, ic, id, ie, ig⟩
   obtain ⟨k1, rfl⟩ := Has.ins h8
   have H := hd xs3 h7
   refine W_reg (L_mv (vi i2) rfl ?_)
   obtain ⟨ih, H⟩ := H
   refine L_pu (P_add i2 1 rfl rfl ih) (L_as (vi (i2 + 1)) rfl (L_nil ?_))
   obtain ⟨ii, ij⟩ := H
   exact ⟨(i2 + 1, xs3, a5, b7, b9, m3), ij, ii, (hasI rfl), h9, ia, ib, ic, id, ie, ig⟩
  have H := ite_f H cl
  refine W_exit (xin_hit ?_)
  refine W_seq (W_seq (W_reg ?_))
  have d2 := (b5.k0 af)
  refine L_pu (P_lda ag25 sz25 cL ⟨aa, 0, none⟩ [vi r2, .slice ab ac ad] rfl rfl (d2.cells (off := 0) rfl)) ?_
  have ik := (ba.sn af)
  have il := ag.gv ik 0 rfl
  have im := ag.drop 0 rfl
  refine L_call go42 [.agg #[vi r2, .slice ab ac ad]] rfl ((F45.calls dr im.ok (⟨r2, xs2⟩ : Shape) ab ac ad il _ H).mono ?_)
  rintro _ io ⟨r6, rfl, H, a6⟩
  have bh := ag.k0 a6
  refine L_pu (P_not r6 rfl) (L_nil ?_)
  refine W_cond (!r6) rfl (fun cq => ?_) (fun cq => ?_)
  ·have H := ite_t H cq
   refine W_seq (W_reg (L_mv (.pointer (some ⟨b, 0, none⟩)) rfl ?_))
   have ip := bb.stn af
   have iq := ag.stn a6
   have ir := ((a9.st ip).st iq)
   have it := ((bq.k0 af).k0 a6)
   refine L_call go106 [.pointer (some ⟨b, 0, none⟩)] rfl ((F105.calls io bh.ok b r_b A2 n3 c4 z2 ir it (List.mem_append_right _ hm) _ H).mono ?_)
   rintro _ k2 ⟨r7, m4, rfl, H, d3, iu⟩
   have iv := bh.wm d3
   refine L_lit (kd := kPt) ei23 iv ([r7] : List Pt) (cells := [vi r7.X, vi r7.Y]) ⟨[vi r7.X, vi r7.Y], _, rfl, (kPt.mk _ _ r7), rfl⟩ (fun _ => by kernel_rfl) fun k3 bi bu bv d4 hr360 cr iw => ?_
   refine L_pu (P_build (.agg #[vi 1, .slice bi bu bv]) (fun _ => by kernel_rfl)) ?_
   have ix := ((bh.bwm ((ax.k0 af).k0 a6) 3 rfl d3).k0 d4)
   refine L_stb b8 0 [vi 0, .slice none 0 0] [vi 1, .slice bi bu bv] [vi 1, .slice bi bu bv] rfl ix rfl sz25 rfl rfl rfl fun iy cs iz => ?_
   have ct := cr.wr 4 rfl cs
   refine L_nil (W_ret ?_)
   have i0 := ct.bgv iz 4 rfl
   have cu := ct.drop 4 rfl
   have cv : Ct [some b] w0 iy [bk bi, bk none, some aa] O := cu.drop 1 rfl
   have cw := cv.drop 1 rfl
   have cx := cw.drop 1 rfl
   have i1 := cu.std 1 rfl
   have i3 := cv.std 1 rfl
   have i4 := cw.std 1 rfl
   have i5 := (((i0.st i1).st i3).st i4)
   have i6 := (cw.sd (cv.sd (cu.sd (ct.sd (cr.sw iw 0 4 rfl rfl rfl cs) 0 4 rfl rfl rfl) 0 1 rfl rfl rfl) 0 1 rfl rfl rfl) 0 1 rfl rfl rfl)
   have i7 := (cr.bmo (iu.k0 d4) 4 rfl cs)
   exact ⟨[.agg #[vi 1, .slice bi bu bv]], ⟨_, _, rfl, i5.1.res rfl ag25 sz25, rfl⟩, (⟨1, ([r7] : List Pt)⟩ : Shape), m4, bi, bu, bv, rfl, H, cx.gr.g1, i7, cx.ok, cx.ge, i6⟩
  have H := ite_f H cq
  refine W_skip (W_seq (W_reg ?_))
  have i8 := (d2.k0 a6)
  refine L_pu (P_lda ag25 sz25 cL ⟨aa, 0, none⟩ [vi r2, .slice ab ac ad] rfl rfl (i8.cells (off := 0) rfl)) ?_
  have i9 := ((ax.k0 af).k0 a6)
  refine L_stb b8 0 [vi 0, .slice none 0 0] [vi r2, .slice ab ac ad] [vi r2, .slice ab ac ad] rfl i9 rfl sz25 rfl rfl rfl fun ja cy jb => ?_
  have cz := bh.wr 3 rfl cy
  refine L_nil (W_ret ?_)
  have jc := cz.bgv jb 3 rfl
  have c0 := cz.drop 3 rfl
  have c1 : Ct [some b] w0 ja [bk ab, some aa] O := c0.drop 1 rfl
  have c2 := c1.drop 1 rfl
  have jd := c0.std 1 rfl
  have je := c1.std 1 rfl
  have jf := ((jc.st jd).st je)
  have jg := (c1.sd (c0.sd (cz.sd (bh.sw ((ba.sn af).sn a6) 0 3 rfl rfl rfl cy) 0 3 rfl rfl rfl) 0 1 rfl rfl rfl) 0 1 rfl rfl rfl)
  have jh := (bh.bmo ((bq.k0 af).k0 a6) 3 rfl cy)
  exact ⟨[.agg #[vi r2, .slice ab ac ad]], ⟨_, _, rfl, jf.1.res rfl ag25 sz25, rfl⟩, (⟨r2, xs2⟩ : Shape), z2, ab, ac, ad, rfl, H, c2.gr.g1, jh, c2.ok, c2.ge, jg⟩
 have H := ite_f H ak
 refine Q_pb ak rfl (Q_pb ak rfl (Q_pb ak rfl (Q_pb ak rfl (Q_pb ak rfl (Q_pb ak rfl (Q_pu (P_pick false (vb false) (by exact congrArg Value.bool ak) rfl) (Q_nil fun ji av => ?_)))))))
 have ce := bb.k0 av
 refine W_cf (b := false) rfl rfl ?_
 refine W_exit (xin_hit ?_)
 refine W_seq (W_seq (W_reg ?_))
 have d5 := (b5.k0 av)
 refine L_pu (P_lda ag25 sz25 cL ⟨aa, 0, none⟩ [vi r2, .slice ab ac ad] rfl rfl (d5.cells (off := 0) rfl)) ?_
 have jj := (ba.sn av)
 have jk := ce.gv jj 0 rfl
 have jl := ce.drop 0 rfl
 refine L_call go42 [.agg #[vi r2, .slice ab ac ad]] rfl ((F45.calls ji jl.ok (⟨r2, xs2⟩ : Shape) ab ac ad jk _ H).mono ?_)
 rintro _ jm ⟨r8, rfl, H, a7⟩
 have bj := ce.k0 a7
 refine L_pu (P_not r8 rfl) (L_nil ?_)
 refine W_cond (!r8) rfl (fun c3 => ?_) (fun c3 => ?_)
 ·have H := ite_t H c3
  refine W_seq (W_reg (L_mv (.pointer (some ⟨b, 0, none⟩)) rfl ?_))
  have jn := bb.stn av
  have jo := ce.stn a7
  have jp := ((a9.st jn).st jo)
  have jq := ((bq.k0 av).k0 a7)
  refine L_call go106 [.pointer (some ⟨b, 0, none⟩)] rfl ((F105.calls jm bj.ok b r_b A2 n3 c4 z2 jp jq (List.mem_append_right _ hm) _ H).mono ?_)
  rintro _ k4 ⟨r9, m5, rfl, H, d6, jr⟩
  have js := bj.wm d6
  refine L_lit (kd := kPt) ei23 js ([r9] : List Pt) (cells := [vi r9.X, vi r9.Y]) ⟨[vi r9.X, vi r9.Y], _, rfl, (kPt.mk _ _ r9), rfl⟩ (fun _ => by kernel_rfl) fun k5 bl bw bx d7 hr426 c5 jt => ?_
  refine L_pu (P_build (.agg #[vi 1, .slice bl bw bx]) (fun _ => by kernel_rfl)) ?_
  have ju := ((bj.bwm ((ax.k0 av).k0 a7) 3 rfl d6).k0 d7)
  refine L_stb b8 0 [vi 0, .slice none 0 0] [vi 1, .slice bl bw bx] [vi 1, .slice bl bw bx] rfl ju rfl sz25 rfl rfl rfl fun jv c6 jw => ?_
  have c7 := c5.wr 4 rfl c6
  refine L_nil (W_ret ?_)
  have jx := c7.bgv jw 4 rfl
  have c8 := c7.drop 4 rfl
  have c9 : Ct [some b] w0 jv [bk bl, bk none, some aa] O := c8.drop 1 rfl
  have da := c9.drop 1 rfl
  have db := da.drop 1 rfl
  have jy := c8.std 1 rfl
  have jz := c9.std 1 rfl
  have j0 := da.std 1 rfl
  have j1 := (((jx.st jy).st jz).st j0)
  have j2 := (da.sd (c9.sd (c8.sd (c7.sd (c5.sw jt 0 4 rfl rfl rfl c6) 0 4 rfl rfl rfl) 0 1 rfl rfl rfl) 0 1 rfl rfl rfl) 0 1 rfl rfl rfl)
  have j3 := (c5.bmo (jr.k0 d7) 4 rfl c6)
  exact ⟨[.agg #[vi 1, .slice bl bw bx]], ⟨_, _, rfl, j1.1.res rfl ag25 sz25, rfl⟩, (⟨1, ([r9] : List Pt)⟩ : Shape), m5, bl, bw, bx, rfl, H, db.gr.g1, j3, db.ok, db.ge, j2⟩
 have H := ite_f H c3
 refine W_skip (W_seq (W_reg ?_))
 have j4 := (d5.k0 a7)
 refine L_pu (P_lda ag25 sz25 cL ⟨aa, 0, none⟩ [vi r2, .slice ab ac ad] rfl rfl (j4.cells (off := 0) rfl)) ?_
 have j5 := ((ax.k0 av).k0 a7)
 refine L_stb b8 0 [vi 0, .slice none 0 0] [vi r2, .slice ab ac ad] [vi r2, .slice ab ac ad] rfl j5 rfl sz25 rfl rfl rfl fun j6 dc j7 => ?_
 have dd := bj.wr 3 rfl dc
 refine L_nil (W_ret ?_)
 have j8 := dd.bgv j7 3 rfl
 have de := dd.drop 3 rfl
 have df : Ct [some b] w0 j6 [bk ab, some aa] O := de.drop 1 rfl
 have dg := df.drop 1 rfl
 have j9 := de.std 1 rfl
 have ka := df.std 1 rfl
 have kb := ((j8.st j9).st ka)
 have kc := (df.sd (de.sd (dd.sd (bj.sw ((ba.sn av).sn a7) 0 3 rfl rfl rfl dc) 0 3 rfl rfl rfl) 0 1 rfl rfl rfl) 0 1 rfl rfl rfl)
 have ke := (bj.bmo ((bq.k0 av).k0 a7) 3 rfl dc)
 exact ⟨[.agg #[vi r2, .slice ab ac ad]], ⟨_, _, rfl, kb.1.res rfl ag25 sz25, rfl⟩, (⟨r2, xs2⟩ : Shape), z2, ab, ac, ad, rfl, H, dg.gr.g1, ke, dg.ok, dg.ge, kc⟩
end
section
open Go.RowKit
def F33.E (r_b : List UInt8) (r_p : Int) (list : List Str) (Q : Str → Int → Prop) : Prop :=
 F15.E r_b r_p (list.length : Int) (fun r2 m => ((0 : Int) ≤ r2 ∧ r2 < (list.length : Int)) ∧ Q (nth list r2) m)
theorem F33.calls {O : Ob} (w0 : World) (hO : Ok w0 O) (b : Nat) (r_b : List UInt8) (A2 : Option Addr) (n3 c4 : Nat) (r_p : Int) (hp5 : Sl Kd.byte w0 (Fr O) (.slice A2 n3 c4) r_b) (hp0 : Bx w0 b [.slice A2 n3 c4, vi r_p]) (hm : some b ∈ O) (list : List Str) (A7 : Option Addr) (n8 c9 : Nat) (aa : Sl Kd.str w0 (Fr O) (.slice A7 n8 c9) list) (Q : Str → Int → Prop) (h : F33.E r_b r_p list Q) :
  Ret Try.prog 79 [.pointer (some ⟨b, 0, none⟩), .slice A7 n8 c9] w0 (fun v w' => ∃ (r0 : Str) (m0 : Int), v = vs r0 ∧ Q r0 m0 ∧ Gr w0 w' (some b) ∧ Bx w' b [.slice A2 n3 c4, vi m0] ∧ Lim r0) := by
 unfold F33.E at h
 have H := h
 clear h
 have hc0 := Ct.initm1 (r := some b) hO (by intro b e; cases e; exact hm)
 refine Ret_enter Try.func79 rfl 12 rfl [.tmp 4] rfl rfl ?_
 refine W_seq (W_reg (L_as (vs ([] : Str)) rfl (L_nil (W_seq (W_reg (L_mv (.slice A7 n8 c9) rfl (L_mv (.pointer (some ⟨b, 0, none⟩)) rfl (L_mv (.slice A7 n8 c9) rfl ?_))))))))
 have ak := aa.le
 refine L_pu (P_len Try.underlying31 A7 n8 c9 aa.len rfl) ?_
 refine L_call go25 [.pointer (some ⟨b, 0, none⟩), vi (list.length : Int)] rfl ((F15.calls w0 hc0.ok b r_b A2 n3 c4 r_p hp5 hp0 hm (list.length : Int) _ H).mono ?_)
 rintro _ al ⟨r2, m, rfl, H, ae, af⟩
 have ab := hc0.wm ae
 obtain ⟨ac, H⟩ := H
 obtain ⟨ad, am, ag, an, ah, ai⟩ := (aa.st ab.st).get default (by decide) r2 ac
 obtain ⟨rfl, aj⟩ := Kd.str.op ah
 exact L_pu (P_ia Try.underlying31 se31 A7 ad n8 c9 (aa.st ab.st).len r2 rfl ag rfl ac) (L_pu (P_ld ag9 cL (ad.add (r2.toNat * 1)) (vs (nth list r2)) rfl (ai 0 _ rfl)) (L_as (vs (nth list r2)) rfl (L_nil (W_ret ⟨[vs (nth list r2)], ⟨_, rfl, rfl⟩, (nth list r2), m, rfl, H, ab.gr.g1, af, aj⟩))))
end
section
open Go.RowKit
def F94.E (r_b : List UInt8) (r_p : Int) (Q : Str → Int → Prop) : Prop :=
 F33.E r_b r_p ([([110, 97, 109, 101] : Str), ([107, 105, 110, 100] : Str), ([117, 115, 101] : Str), ([116, 111, 110, 101] : Str)] : List Str) (fun r2 m => Q r2 m)
theorem F94.calls {O : Ob} (w0 : World) (hO : Ok w0 O) (b : Nat) (r_b : List UInt8) (A2 : Option Addr) (n3 c4 : Nat) (r_p : Int) (hp5 : Sl Kd.byte w0 (Fr O) (.slice A2 n3 c4) r_b) (hp0 : Bx w0 b [.slice A2 n3 c4, vi r_p]) (hm : some b ∈ O) (Q : Str → Int → Prop) (h : F94.E r_b r_p Q) :
  Ret Try.prog 75 [.pointer (some ⟨b, 0, none⟩)] w0 (fun v w' => ∃ (r0 : Str) (m0 : Int), v = vs r0 ∧ Q r0 m0 ∧ Gr w0 w' (some b) ∧ Bx w' b [.slice A2 n3 c4, vi m0] ∧ Lim r0) := by
 unfold F94.E at h
 have H := h
 clear h
 have hc0 := Ct.initm1 (r := some b) hO (by intro b e; cases e; exact hm)
 refine Ret_enter Try.func75 rfl 6 rfl [.tmp 2] rfl rfl ?_
 refine W_seq (W_reg (L_as (vs ([] : Str)) rfl (L_nil (W_seq (W_reg (L_mv (.pointer (some ⟨b, 0, none⟩)) rfl (L_lit (kd := Kd.str) ei31 hc0 ([([110, 97, 109, 101] : Str), ([107, 105, 110, 100] : Str), ([117, 115, 101] : Str), ([116, 111, 110, 101] : Str)] : List Str) (cells := [vs ([110, 97, 109, 101] : Str), vs ([107, 105, 110, 100] : Str), vs ([117, 115, 101] : Str), vs ([116, 111, 110, 101] : Str)]) ⟨[vs ([110, 97, 109, 101] : Str)], _, rfl, ⟨rfl, (by decide : Lim ([110, 97, 109, 101] : Str))⟩, ⟨[vs ([107, 105, 110, 100] : Str)], _, rfl, ⟨rfl, (by decide : Lim ([107, 105, 110, 100] : Str))⟩, ⟨[vs ([117, 115, 101] : Str)], _, rfl, ⟨rfl, (by decide : Lim ([117, 115, 101] : Str))⟩, ⟨[vs ([116, 111, 110, 101] : Str)], _, rfl, ⟨rfl, (by decide : Lim ([116, 111, 110, 101] : Str))⟩, rfl⟩⟩⟩⟩ (fun _ => by kernel_rfl) fun w7 A8 n9 ab ad hr12 aa ae => ?_)))))))
 have af := aa.gv ae 0 rfl
 have ac := aa.drop 0 rfl
 have ag := (hp0.k0 ad)
 refine L_call go79 [.pointer (some ⟨b, 0, none⟩), .slice A8 n9 ab] rfl ((F33.calls w7 ac.ok b r_b A2 n3 c4 r_p (hp5.st ac.st) ag hm ([([110, 97, 109, 101] : Str), ([107, 105, 110, 100] : Str), ([117, 115, 101] : Str), ([116, 111, 110, 101] : Str)] : List Str) A8 n9 ab af _ H).mono ?_)
 rintro _ an ⟨r2, m, rfl, H, ah, ai, aj⟩
 have ak := aa.wm ah
 refine L_as (vs r2) rfl (L_nil (W_ret ?_))
 have al := ak.drop 0 rfl
 have am := ai
 exact ⟨[vs r2], ⟨_, rfl, rfl⟩, r2, m, rfl, H, al.gr.g1, am, aj⟩
end
section
open Go.RowKit
def F95.E (r_b : List UInt8) (r_p : Int) (Q : Str → Int → Prop) : Prop :=
 F33.E r_b r_p ([([97] : Str), ([98] : Str), ([111, 97, 107] : Str), ([97, 115, 104] : Str), ([114, 111, 97, 100] : Str)] : List Str) (fun r2 m => Q r2 m)
theorem F95.calls {O : Ob} (w0 : World) (hO : Ok w0 O) (b : Nat) (r_b : List UInt8) (A2 : Option Addr) (n3 c4 : Nat) (r_p : Int) (hp5 : Sl Kd.byte w0 (Fr O) (.slice A2 n3 c4) r_b) (hp0 : Bx w0 b [.slice A2 n3 c4, vi r_p]) (hm : some b ∈ O) (Q : Str → Int → Prop) (h : F95.E r_b r_p Q) :
  Ret Try.prog 76 [.pointer (some ⟨b, 0, none⟩)] w0 (fun v w' => ∃ (r0 : Str) (m0 : Int), v = vs r0 ∧ Q r0 m0 ∧ Gr w0 w' (some b) ∧ Bx w' b [.slice A2 n3 c4, vi m0] ∧ Lim r0) := by
 unfold F95.E at h
 have H := h
 clear h
 have hc0 := Ct.initm1 (r := some b) hO (by intro b e; cases e; exact hm)
 refine Ret_enter Try.func76 rfl 6 rfl [.tmp 2] rfl rfl ?_
 refine W_seq (W_reg (L_as (vs ([] : Str)) rfl (L_nil (W_seq (W_reg (L_mv (.pointer (some ⟨b, 0, none⟩)) rfl (L_lit (kd := Kd.str) ei31 hc0 ([([97] : Str), ([98] : Str), ([111, 97, 107] : Str), ([97, 115, 104] : Str), ([114, 111, 97, 100] : Str)] : List Str) (cells := [vs ([97] : Str), vs ([98] : Str), vs ([111, 97, 107] : Str), vs ([97, 115, 104] : Str), vs ([114, 111, 97, 100] : Str)]) ⟨[vs ([97] : Str)], _, rfl, ⟨rfl, (by decide : Lim ([97] : Str))⟩, ⟨[vs ([98] : Str)], _, rfl, ⟨rfl, (by decide : Lim ([98] : Str))⟩, ⟨[vs ([111, 97, 107] : Str)], _, rfl, ⟨rfl, (by decide : Lim ([111, 97, 107] : Str))⟩, ⟨[vs ([97, 115, 104] : Str)], _, rfl, ⟨rfl, (by decide : Lim ([97, 115, 104] : Str))⟩, ⟨[vs ([114, 111, 97, 100] : Str)], _, rfl, ⟨rfl, (by decide : Lim ([114, 111, 97, 100] : Str))⟩, rfl⟩⟩⟩⟩⟩ (fun _ => by kernel_rfl) fun w7 A8 n9 ab ad hr12 aa ae => ?_)))))))
 have af := aa.gv ae 0 rfl
 have ac := aa.drop 0 rfl
 have ag := (hp0.k0 ad)
 refine L_call go79 [.pointer (some ⟨b, 0, none⟩), .slice A8 n9 ab] rfl ((F33.calls w7 ac.ok b r_b A2 n3 c4 r_p (hp5.st ac.st) ag hm ([([97] : Str), ([98] : Str), ([111, 97, 107] : Str), ([97, 115, 104] : Str), ([114, 111, 97, 100] : Str)] : List Str) A8 n9 ab af _ H).mono ?_)
 rintro _ an ⟨r2, m, rfl, H, ah, ai, aj⟩
 have ak := aa.wm ah
 refine L_as (vs r2) rfl (L_nil (W_ret ?_))
 have al := ak.drop 0 rfl
 have am := ai
 exact ⟨[vs r2], ⟨_, rfl, rfl⟩, r2, m, rfl, H, al.gr.g1, am, aj⟩
end
section
open Go.RowKit
def F96.E (t_ : List Tag) (key : Str) (val : Str) (Q : List Tag → Prop) : Prop :=
 (∃ (I41 : (List Tag) → Bool → Int → Prop) (mu42 : (List Tag) → Bool → Int → Nat), I41 ([] : List Tag) false 0 ∧ ∀ (xs2 : List Tag) (done2 : Bool) (i2 : Int), I41 xs2 done2 i2 → (if decide (i2 < (t_.length : Int)) then (if !done2 then ((0 : Int) ≤ i2 ∧ i2 < (t_.length : Int)) ∧ (if !(Op.bytesLess ((nth t_ i2).Key) key) then (xs2.length + ([(⟨key, val⟩ : Tag)] : List Tag).length ≤ 268435456) ∧ ((0 : Int) ≤ i2 ∧ i2 < (t_.length : Int)) ∧ (if ((nth t_ i2).Key) != key then ((0 : Int) ≤ i2 ∧ i2 < (t_.length : Int)) ∧ ((xs2 ++ ([(⟨key, val⟩ : Tag)] : List Tag)).length + ([(nth t_ i2)] : List Tag).length ≤ 268435456) ∧ (-9223372036854775808 ≤ i2) ∧ I41 ((xs2 ++ ([(⟨key, val⟩ : Tag)] : List Tag)) ++ ([(nth t_ i2)] : List Tag)) true (i2 + 1) ∧ mu42 ((xs2 ++ ([(⟨key, val⟩ : Tag)] : List Tag)) ++ ([(nth t_ i2)] : List Tag)) true (i2 + 1) < mu42 xs2 done2 i2 else (-9223372036854775808 ≤ i2) ∧ I41 (xs2 ++ ([(⟨key, val⟩ : Tag)] : List Tag)) true (i2 + 1) ∧ mu42 (xs2 ++ ([(⟨key, val⟩ : Tag)] : List Tag)) true (i2 + 1) < mu42 xs2 done2 i2) else ((0 : Int) ≤ i2 ∧ i2 < (t_.length : Int)) ∧ (if ((nth t_ i2).Key) != key then ((0 : Int) ≤ i2 ∧ i2 < (t_.length : Int)) ∧ (xs2.length + ([(nth t_ i2)] : List Tag).length ≤ 268435456) ∧ (-9223372036854775808 ≤ i2) ∧ I41 (xs2 ++ ([(nth t_ i2)] : List Tag)) done2 (i2 + 1) ∧ mu42 (xs2 ++ ([(nth t_ i2)] : List Tag)) done2 (i2 + 1) < mu42 xs2 done2 i2 else (-9223372036854775808 ≤ i2) ∧ I41 xs2 done2 (i2 + 1) ∧ mu42 xs2 done2 (i2 + 1) < mu42 xs2 done2 i2)) else ((0 : Int) ≤ i2 ∧ i2 < (t_.length : Int)) ∧ (if ((nth t_ i2).Key) != key then ((0 : Int) ≤ i2 ∧ i2 < (t_.length : Int)) ∧ (xs2.length + ([(nth t_ i2)] : List Tag).length ≤ 268435456) ∧ (-9223372036854775808 ≤ i2) ∧ I41 (xs2 ++ ([(nth t_ i2)] : List Tag)) done2 (i2 + 1) ∧ mu42 (xs2 ++ ([(nth t_ i2)] : List Tag)) done2 (i2 + 1) < mu42 xs2 done2 i2 else (-9223372036854775808 ≤ i2) ∧ I41 xs2 done2 (i2 + 1) ∧ mu42 xs2 done2 (i2 + 1) < mu42 xs2 done2 i2)) else (if !done2 then (xs2.length + ([(⟨key, val⟩ : Tag)] : List Tag).length ≤ 268435456) ∧ Q (xs2 ++ ([(⟨key, val⟩ : Tag)] : List Tag)) else Q xs2)))
theorem F96.calls {O : Ob} (w0 : World) (hO : Ok w0 O) (t_ : List Tag) (A1 : Option Addr) (n2 c3 : Nat) (hp4 : Sl kTag w0 (Fr O) (.slice A1 n2 c3) t_) (key : Str) (hs6 : Lim key) (val : Str) (hs7 : Lim val) (Q : List Tag → Prop) (h : F96.E t_ key val Q) :
  Ret Try.prog 74 [.slice A1 n2 c3, vs key, vs val] w0 (fun v w' => ∃ (r0 : List Tag) (Aw0 : Option Addr) (nw0 cw0 : Nat), v = .slice Aw0 nw0 cw0 ∧ Q r0 ∧ Gr w0 w' none ∧ Ok w' ([bk Aw0] ++ O) ∧ (∀ b, some b ∈ [bk Aw0] → w0.heap.size ≤ b) ∧ Ow kTag 39 w' ([bk Aw0] ++ O) (.slice Aw0 nw0 cw0) r0) := by
 unfold F96.E at h
 have H := h
 clear h
 have hc0 := Ct.init hO
 refine Ret_enter Try.func74 rfl 57 rfl [.tmp 6] rfl rfl ?_
 refine W_seq (W_reg (L_as (.slice none 0 0) rfl (L_nil (W_seq (W_reg (L_lit (kd := kTag) ei26 hc0 ([] : List Tag) (cells := []) rfl (fun _ => by kernel_rfl) fun w8 A9 a9 ba fh hr13 bb b3 => ?_))))))
 refine L_as (.slice A9 a9 ba) rfl (L_nil (W_seq (W_reg (L_as (vb false) rfl (L_nil (W_seq (W_seq (W_reg ?_))))))))
 refine L_as (vi 0) rfl (L_nil (W_block ?_))
 obtain ⟨b4, b5, ay, H⟩ := H
 refine W_loop (α := (List Tag) × (Option Addr) × Nat × Nat × Bool × Int) (fun (sv__ : (List Tag) × (Option Addr) × Nat × Nat × Bool × Int) t ao => match sv__ with | (xs2, aa, ac, ad, done2, i2) => b4 xs2 done2 i2 ∧ Has t [(0, .slice A1 n2 c3), (1, vs key), (2, vs val), (7, .slice aa ac ad), (8, vb done2), (9, vi i2)] ∧ Ct [] w0 ao [bk aa] O ∧ Sl kTag ao (Fr ([bk aa] ++ O)) (.slice A1 n2 c3) t_ ∧ Ow kTag 39 ao ([bk aa] ++ O) (.slice aa ac ad) xs2) (fun (sv__ : (List Tag) × (Option Addr) × Nat × Nat × Bool × Int) => match sv__ with | (xs2, _, _, _, done2, i2) => b5 xs2 done2 i2) (([] : List Tag), A9, a9, ba, false, 0) ⟨ay, (hasI rfl), bb, (hp4.st bb.st), b3⟩ ?_
 rintro ⟨xs2, aa, ac, ad, done2, i2⟩ _ ao ⟨ay, b6, af, ae, ah⟩
 obtain ⟨fi, rfl⟩ := Has.ins b6
 have H := H xs2 done2 i2 ay
 refine W_seq (W_seq (W_reg (L_mv (vi i2) rfl (L_mv (.slice A1 n2 c3) rfl ?_))))
 have ai := ae.le
 refine L_pu (P_len Try.underlying26 A1 n2 c3 ae.len rfl) (L_pu (P_cmp i2 (t_.length : Int) (decide (i2 < (t_.length : Int))) rfl rfl rfl) (L_nil ?_))
 refine W_cond (decide (i2 < (t_.length : Int))) rfl (fun ag => ?_) (fun ag => ?_)
 ·have H := ite_t H ag
  refine W_skip (W_seq (W_block (W_seq (W_seq (W_reg (L_mv (vb done2) rfl (L_pu (P_not done2 rfl) (L_mv (vb (!done2)) rfl ?_))))))))
  rcases bool_or (!done2) with ab | ab
  ·have H := ite_t H ab
   refine L_rb ab rfl (L_mv (.slice A1 n2 c3) rfl (L_rb ab rfl (L_mv (vi i2) rfl (L_rb ab rfl ?_))))
   obtain ⟨bc, H⟩ := H
   obtain ⟨ap, fj, b7, fk, b8, b9⟩ := ae.get default (by decide) i2 bc
   obtain ⟨rfl, fl, fm⟩ := kTag.op b8
   refine L_pu (P_ia Try.underlying26 se26 A1 ap n2 c3 ae.len i2 rfl b7 rfl bc) (L_rb ab rfl (L_pu (P_fa fa39_0 (ap.add (i2.toNat * 2)) ((ap.add (i2.toNat * 2)).add 0) rfl rfl) (L_rb ab rfl (L_pu (P_ld ag9 cL ((ap.add (i2.toNat * 2)).add 0) (vs ((nth t_ i2).Key)) rfl (b9 0 _ rfl)) (L_rb ab rfl (L_mv (vs key) rfl (L_rb ab rfl (L_pu (P_scmp ((nth t_ i2).Key) key (!(Op.bytesLess ((nth t_ i2).Key) key)) rfl rfl rfl) ?_))))))))
   refine L_pu (P_pick true (vb (!(Op.bytesLess ((nth t_ i2).Key) key))) (by exact congrArg Value.bool ab) rfl) (L_nil ?_)
   refine W_cond (!(Op.bytesLess ((nth t_ i2).Key) key)) rfl (fun az => ?_) (fun az => ?_)
   ·have H := ite_t H az
    refine W_seq (W_reg (L_mv (.slice aa ac ad) rfl (L_mv (vs key) rfl (L_mv (vs val) rfl (L_pu (P_build (.agg #[vs key, vs val]) (fun _ => by kernel_rfl)) (L_lit (kd := kTag) ei26 af ([(⟨key, val⟩ : Tag)] : List Tag) (cells := [vs key, vs val]) ⟨[vs key, vs val], _, rfl, (kTag.mk _ _ (⟨key, val⟩ : Tag) hs6 hs7), rfl⟩ (fun _ => by kernel_rfl) fun fn ca cb cc bd hr65 cd ce => ?_))))))
    obtain ⟨cf, H⟩ := H
    have cg := (ah.so _ bd hr65)
    refine L_app ei26 cd (.slice aa ac ad) xs2 ([(⟨key, val⟩ : Tag)] : List Tag) rfl cg (.slice ca cb cc) rfl ce.sx 1 rfl cf fun fo aq ar au fp ch ak be => ?_
    refine L_as (.slice aq ar au) rfl (L_nil (W_reg (L_as (vb true) rfl (L_nil (W_seq (W_reg (L_mv (.slice A1 n2 c3) rfl (L_mv (vi i2) rfl ?_))))))))
    obtain ⟨bf, H⟩ := H
    have ci := af.stown _ bd hr65
    have aj := ((ae.st ci).st ch)
    obtain ⟨av, fq, cj, fr, ck, cl⟩ := aj.get default (by decide) i2 bf
    obtain ⟨rfl, fs, ft⟩ := kTag.op ck
    refine L_pu (P_ia Try.underlying26 se26 A1 av n2 c3 aj.len i2 rfl cj rfl bf) (L_pu (P_fa fa39_0 (av.add (i2.toNat * 2)) ((av.add (i2.toNat * 2)).add 0) rfl rfl) (L_pu (P_ld ag9 cL ((av.add (i2.toNat * 2)).add 0) (vs ((nth t_ i2).Key)) rfl (cl 0 _ rfl)) (L_mv (vs key) rfl (L_pu (P_scmp ((nth t_ i2).Key) key (((nth t_ i2).Key) != key) rfl rfl rfl) (L_nil ?_)))))
    refine W_cond (((nth t_ i2).Key) != key) rfl (fun a0 => ?_) (fun a0 => ?_)
    ·have H := ite_t H a0
     refine W_reg (L_mv (.slice aq ar au) rfl (L_mv (.slice A1 n2 c3) rfl (L_mv (vi i2) rfl ?_)))
     obtain ⟨bg, H⟩ := H
     obtain ⟨bh, fu, cm, fv, cn, co⟩ := aj.get default (by decide) i2 bg
     obtain ⟨rfl, cp, cq⟩ := kTag.op cn
     refine L_pu (P_ia Try.underlying26 se26 A1 bh n2 c3 aj.len i2 rfl cm rfl bg) (L_pu (P_lda ag39 sz39 cL (bh.add (i2.toNat * 2)) [vs ((nth t_ i2).Key), vs ((nth t_ i2).Val)] rfl rfl co) (L_lit (kd := kTag) ei26 ak ([(nth t_ i2)] : List Tag) (cells := [vs ((nth t_ i2).Key), vs ((nth t_ i2).Val)]) ⟨[vs ((nth t_ i2).Key), vs ((nth t_ i2).Val)], _, rfl, (kTag.mk _ _ (nth t_ i2) cp cq), rfl⟩ (fun _ => by kernel_rfl) fun fw cr cs ct bi hr106 cu cv => ?_))
     obtain ⟨cw, H⟩ := H
     have cx := (be.so _ bi hr106)
     refine L_app ei26 cu (.slice aq ar au) (xs2 ++ ([(⟨key, val⟩ : Tag)] : List Tag)) ([(nth t_ i2)] : List Tag) rfl cx (.slice cr cs ct) rfl cv.sx 2 rfl cw fun fx bj bl bm fy cy a1 cz => ?_
     refine L_as (.slice bj bl bm) rfl (L_nil (W_reg (L_mv (vi i2) rfl ?_)))
     obtain ⟨c0, H⟩ := H
     have c1 : I64 (i2 + 1) := i64_succ (of_decide_eq_true ag) ai c0
     refine L_pu (P_add i2 1 rfl rfl c1) (L_as (vi (i2 + 1)) rfl (L_nil ?_))
     have a2 := a1.drop 0 rfl
     have c2 := a2.drop 0 rfl
     obtain ⟨c4, c5⟩ := H
     have c6 := ak.stown _ bi hr106
     have c7 := a1.std 0 rfl
     have c8 := a2.std 0 rfl
     have c9 := ((((aj.st c6).st cy).st c7).st c8)
     have da := (a2.sd (a1.sd cz 2 0 rfl rfl rfl) 1 0 rfl rfl rfl)
     exact ⟨(((xs2 ++ ([(⟨key, val⟩ : Tag)] : List Tag)) ++ ([(nth t_ i2)] : List Tag)), bj, bl, bm, true, i2 + 1), c5, c4, (hasI rfl), c2, c9, da⟩
    have H := ite_f H a0
    refine W_skip (W_reg (L_mv (vi i2) rfl ?_))
    obtain ⟨db, H⟩ := H
    have dc : I64 (i2 + 1) := i64_succ (of_decide_eq_true ag) ai db
    refine L_pu (P_add i2 1 rfl rfl dc) (L_as (vi (i2 + 1)) rfl (L_nil ?_))
    have dd := ak.drop 0 rfl
    obtain ⟨de, df⟩ := H
    have dg := ak.std 0 rfl
    have dh := (ak.sd be 1 0 rfl rfl rfl)
    exact ⟨((xs2 ++ ([(⟨key, val⟩ : Tag)] : List Tag)), aq, ar, au, true, i2 + 1), df, de, (hasI rfl), dd, (aj.st dg), dh⟩
   have H := ite_f H az
   refine W_skip (W_seq (W_reg (L_mv (.slice A1 n2 c3) rfl (L_mv (vi i2) rfl ?_))))
   obtain ⟨bn, H⟩ := H
   obtain ⟨aw, fz, di, f0, dj, dk⟩ := ae.get default (by decide) i2 bn
   obtain ⟨rfl, f1, f2⟩ := kTag.op dj
   refine L_pu (P_ia Try.underlying26 se26 A1 aw n2 c3 ae.len i2 rfl di rfl bn) (L_pu (P_fa fa39_0 (aw.add (i2.toNat * 2)) ((aw.add (i2.toNat * 2)).add 0) rfl rfl) (L_pu (P_ld ag9 cL ((aw.add (i2.toNat * 2)).add 0) (vs ((nth t_ i2).Key)) rfl (dk 0 _ rfl)) (L_mv (vs key) rfl (L_pu (P_scmp ((nth t_ i2).Key) key (((nth t_ i2).Key) != key) rfl rfl rfl) (L_nil ?_)))))
   refine W_cond (((nth t_ i2).Key) != key) rfl (fun a3 => ?_) (fun a3 => ?_)
   ·have H := ite_t H a3
    refine W_reg (L_mv (.slice aa ac ad) rfl (L_mv (.slice A1 n2 c3) rfl (L_mv (vi i2) rfl ?_)))
    obtain ⟨bo, H⟩ := H
    obtain ⟨bp, f3, dl, f4, dm, dn⟩ := ae.get default (by decide) i2 bo
    obtain ⟨rfl, dp, dq⟩ := kTag.op dm
    refine L_pu (P_ia Try.underlying26 se26 A1 bp n2 c3 ae.len i2 rfl dl rfl bo) (L_pu (P_lda ag39 sz39 cL (bp.add (i2.toNat * 2)) [vs ((nth t_ i2).Key), vs ((nth t_ i2).Val)] rfl rfl dn) (L_lit (kd := kTag) ei26 af ([(nth t_ i2)] : List Tag) (cells := [vs ((nth t_ i2).Key), vs ((nth t_ i2).Val)]) ⟨[vs ((nth t_ i2).Key), vs ((nth t_ i2).Val)], _, rfl, (kTag.mk _ _ (nth t_ i2) dp dq), rfl⟩ (fun _ => by kernel_rfl) fun f5 dr ds dt bq hr163 du dv => ?_))
    obtain ⟨dw, H⟩ := H
    have dx := (ah.so _ bq hr163)
    refine L_app ei26 du (.slice aa ac ad) xs2 ([(nth t_ i2)] : List Tag) rfl dx (.slice dr ds dt) rfl dv.sx 1 rfl dw fun f6 br bs bt f7 dy a4 dz => ?_
    refine L_as (.slice br bs bt) rfl (L_nil (W_reg (L_mv (vi i2) rfl ?_)))
    obtain ⟨d0, H⟩ := H
    have d1 : I64 (i2 + 1) := i64_succ (of_decide_eq_true ag) ai d0
    refine L_pu (P_add i2 1 rfl rfl d1) (L_as (vi (i2 + 1)) rfl (L_nil ?_))
    have d2 := a4.drop 0 rfl
    obtain ⟨d3, d4⟩ := H
    have d5 := af.stown _ bq hr163
    have d6 := a4.std 0 rfl
    have d7 := (((ae.st d5).st dy).st d6)
    have d8 := (a4.sd dz 1 0 rfl rfl rfl)
    exact ⟨((xs2 ++ ([(nth t_ i2)] : List Tag)), br, bs, bt, done2, i2 + 1), d4, d3, (hasI rfl), d2, d7, d8⟩
   have H := ite_f H a3
   refine W_skip (W_reg (L_mv (vi i2) rfl ?_))
   obtain ⟨d9, H⟩ := H
   have ea : I64 (i2 + 1) := i64_succ (of_decide_eq_true ag) ai d9
   refine L_pu (P_add i2 1 rfl rfl ea) (L_as (vi (i2 + 1)) rfl (L_nil ?_))
   obtain ⟨eb, ec⟩ := H
   exact ⟨(xs2, aa, ac, ad, done2, i2 + 1), ec, eb, (hasI rfl), af, ae, ah⟩
  have H := ite_f H ab
  refine L_pb ab rfl (L_pb ab rfl (L_pb ab rfl (L_pb ab rfl (L_pb ab rfl (L_pb ab rfl (L_pb ab rfl (L_pu (P_pick false (vb false) (by exact congrArg Value.bool ab) rfl) (L_nil ?_))))))))
  refine W_cf (b := false) rfl rfl ?_
  refine W_skip (W_seq (W_reg (L_mv (.slice A1 n2 c3) rfl (L_mv (vi i2) rfl ?_))))
  obtain ⟨bu, H⟩ := H
  obtain ⟨ax, f8, ed, f9, ee, ef⟩ := ae.get default (by decide) i2 bu
  obtain ⟨rfl, ga, gb⟩ := kTag.op ee
  refine L_pu (P_ia Try.underlying26 se26 A1 ax n2 c3 ae.len i2 rfl ed rfl bu) (L_pu (P_fa fa39_0 (ax.add (i2.toNat * 2)) ((ax.add (i2.toNat * 2)).add 0) rfl rfl) (L_pu (P_ld ag9 cL ((ax.add (i2.toNat * 2)).add 0) (vs ((nth t_ i2).Key)) rfl (ef 0 _ rfl)) (L_mv (vs key) rfl (L_pu (P_scmp ((nth t_ i2).Key) key (((nth t_ i2).Key) != key) rfl rfl rfl) (L_nil ?_)))))
  refine W_cond (((nth t_ i2).Key) != key) rfl (fun a5 => ?_) (fun a5 => ?_)
  ·have H := ite_t H a5
   refine W_reg (L_mv (.slice aa ac ad) rfl (L_mv (.slice A1 n2 c3) rfl (L_mv (vi i2) rfl ?_)))
   obtain ⟨bv, H⟩ := H
   obtain ⟨bw, gc, eg, gd, eh, ei⟩ := ae.get default (by decide) i2 bv
   obtain ⟨rfl, ej, ek⟩ := kTag.op eh
   refine L_pu (P_ia Try.underlying26 se26 A1 bw n2 c3 ae.len i2 rfl eg rfl bv) (L_pu (P_lda ag39 sz39 cL (bw.add (i2.toNat * 2)) [vs ((nth t_ i2).Key), vs ((nth t_ i2).Val)] rfl rfl ei) (L_lit (kd := kTag) ei26 af ([(nth t_ i2)] : List Tag) (cells := [vs ((nth t_ i2).Key), vs ((nth t_ i2).Val)]) ⟨[vs ((nth t_ i2).Key), vs ((nth t_ i2).Val)], _, rfl, (kTag.mk _ _ (nth t_ i2) ej ek), rfl⟩ (fun _ => by kernel_rfl) fun gf el em en bx hr215 eo ep => ?_))
   obtain ⟨eq, H⟩ := H
   have er := (ah.so _ bx hr215)
   refine L_app ei26 eo (.slice aa ac ad) xs2 ([(nth t_ i2)] : List Tag) rfl er (.slice el em en) rfl ep.sx 1 rfl eq fun gg bz b0 b1 gh es a6 et => ?_
   refine L_as (.slice bz b0 b1) rfl (L_nil (W_reg (L_mv (vi i2) rfl ?_)))
   obtain ⟨eu, H⟩ := H
   have ev : I64 (i2 + 1) := i64_succ (of_decide_eq_true ag) ai eu
   refine L_pu (P_add i2 1 rfl rfl ev) (L_as (vi (i2 + 1)) rfl (L_nil ?_))
   have ew := a6.drop 0 rfl
   obtain ⟨ex, ey⟩ := H
   have ez := af.stown _ bx hr215
   have e0 := a6.std 0 rfl
   have e1 := (((ae.st ez).st es).st e0)
   have e2 := (a6.sd et 1 0 rfl rfl rfl)
   exact ⟨((xs2 ++ ([(nth t_ i2)] : List Tag)), bz, b0, b1, done2, i2 + 1), ey, ex, (hasI rfl), ew, e1, e2⟩
  have H := ite_f H a5
  refine W_skip (W_reg (L_mv (vi i2) rfl ?_))
  obtain ⟨e3, H⟩ := H
  have e4 : I64 (i2 + 1) := i64_succ (of_decide_eq_true ag) ai e3
  refine L_pu (P_add i2 1 rfl rfl e4) (L_as (vi (i2 + 1)) rfl (L_nil ?_))
  obtain ⟨e5, e6⟩ := H
  exact ⟨(xs2, aa, ac, ad, done2, i2 + 1), e6, e5, (hasI rfl), af, ae, ah⟩
 have H := ite_f H ag
 refine W_exit (xin_hit ?_)
 refine W_seq (W_seq (W_reg (L_mv (vb done2) rfl (L_pu (P_not done2 rfl) (L_nil ?_)))))
 refine W_cond (!done2) rfl (fun a7 => ?_) (fun a7 => ?_)
 ·have H := ite_t H a7
  refine W_reg (L_mv (.slice aa ac ad) rfl (L_mv (vs key) rfl (L_mv (vs val) rfl (L_pu (P_build (.agg #[vs key, vs val]) (fun _ => by kernel_rfl)) (L_lit (kd := kTag) ei26 af ([(⟨key, val⟩ : Tag)] : List Tag) (cells := [vs key, vs val]) ⟨[vs key, vs val], _, rfl, (kTag.mk _ _ (⟨key, val⟩ : Tag) hs6 hs7), rfl⟩ (fun _ => by kernel_rfl) fun gi e7 e8 e9 fa hr249 fb fc => ?_)))))
  obtain ⟨fd, H⟩ := H
  have fe := (ah.so _ fa hr249)
  refine L_app ei26 fb (.slice aa ac ad) xs2 ([(⟨key, val⟩ : Tag)] : List Tag) rfl fe (.slice e7 e8 e9) rfl fc.sx 1 rfl fd fun gj al am an gk gl b2 ff => ?_
  refine L_as (.slice al am an) rfl (L_nil (W_seq (W_reg (L_mv (.slice al am an) rfl (L_as (.slice al am an) rfl (L_nil (W_ret ?_)))))))
  have a8 := b2.drop 0 rfl
  have fg := (b2.sd ff 1 0 rfl rfl rfl)
  exact ⟨[.slice al am an], ⟨_, rfl, rfl⟩, (xs2 ++ ([(⟨key, val⟩ : Tag)] : List Tag)), al, am, an, rfl, H, a8.gr.g0, a8.ok, a8.ge, fg⟩
 have H := ite_f H a7
 exact W_skip (W_seq (W_reg (L_mv (.slice aa ac ad) rfl (L_as (.slice aa ac ad) rfl (L_nil (W_ret ⟨[.slice aa ac ad], ⟨_, rfl, rfl⟩, xs2, aa, ac, ad, rfl, H, af.gr.g0, af.ok, af.ge, ah⟩))))))
end
section
open Go.RowKit
def F58.E (r_b : List UInt8) (r_p : Int) (id : Str) (Q : Feat → Int → Prop) : Prop :=
 F46.E r_b r_p (fun r2 m => F15.E r_b m 4 (fun r3 m2 => (∃ (I107 : Int → (List Tag) → Int → Prop) (mu108 : Int → (List Tag) → Int → Nat), I107 r3 ([] : List Tag) m2 ∧ ∀ (i2 : Int) (xs2 : List Tag) (z2 : Int), I107 i2 xs2 z2 → (if decide (i2 > 0) then F94.E r_b z2 (fun r4 m3 => F95.E r_b m3 (fun r5 m4 => F96.E xs2 r4 r5 (fun r6 => (I64 (i2 - 1)) ∧ I107 (i2 - 1) r6 m4 ∧ mu108 (i2 - 1) r6 m4 < mu108 i2 xs2 z2))) else Q (⟨id, r2, xs2⟩ : Feat) z2))))
theorem F58.calls {O : Ob} (w0 : World) (hO : Ok w0 O) (b : Nat) (r_b : List UInt8) (A2 : Option Addr) (n3 c4 : Nat) (r_p : Int) (hp5 : Sl Kd.byte w0 (Fr O) (.slice A2 n3 c4) r_b) (hp0 : Bx w0 b [.slice A2 n3 c4, vi r_p]) (hm : some b ∈ O) (id : Str) (hs7 : Lim id) (Q : Feat → Int → Prop) (h : F58.E r_b r_p id Q) :
  Ret Try.prog 23 [.pointer (some ⟨b, 0, none⟩), vs id] w0 (fun v w' => ∃ (r0 : Feat) (m0 : Int) (Aw0 : Option Addr) (nw0 cw0 : Nat) (Aw2 : Option Addr) (nw2 cw2 : Nat), v = .agg #[vs r0.Id, vi r0.Shape.Kind, .slice Aw0 nw0 cw0, .slice Aw2 nw2 cw2] ∧ Q r0 m0 ∧ Gr w0 w' (some b) ∧ Bx w' b [.slice A2 n3 c4, vi m0] ∧ Ok w' ([bk Aw0, bk Aw2] ++ O) ∧ (∀ b, some b ∈ [bk Aw0, bk Aw2] → w0.heap.size ≤ b) ∧ Lim r0.Id ∧ Ow kPt 83 w' ([bk Aw0, bk Aw2] ++ O) (.slice Aw0 nw0 cw0) r0.Shape.Pts ∧ Ow kTag 39 w' ([bk Aw0, bk Aw2] ++ O) (.slice Aw2 nw2 cw2) r0.Tags) := by
 unfold F58.E at h
 have H := h
 clear h
 have hc0 := Ct.initm1 (r := some b) hO (by intro b e; cases e; exact hm)
 refine Ret_enter Try.func23 rfl 26 rfl [.cell 4 28] rfl rfl ?_
 refine W_seq (W_reg (L_alloc [vs [], .int .i64 0, .slice none 0 0, .slice none 0 0] ze28 fun w8 b9 dd hu12 cw de => ?_))
 have b2 := hc0.own cw (some b9) (oglt dd hu12)
 refine L_nil (W_seq (W_reg (L_mv (vs id) rfl (L_mv (.pointer (some ⟨b, 0, none⟩)) rfl ?_))))
 have df := (hp0.k0 cw)
 refine L_call go73 [.pointer (some ⟨b, 0, none⟩)] rfl ((F46.calls w8 b2.ok b r_b A2 n3 c4 r_p (hp5.st b2.st) df (List.mem_append_right _ hm) _ H).mono ?_)
 rintro _ eq ⟨r2, m, ab, ao, ap, rfl, H, cx, dg, dh, di, dj⟩
 have dk := b2.ownm cx dh di
 refine L_pu (P_build (.agg #[vs id, vi r2.Kind, .slice ab ao ap, .slice none 0 0]) (fun _ => by kernel_rfl)) (L_alloc [vs [], .int .i64 0, .slice none 0 0, .slice none 0 0] ze28 fun er aa cy hu32 b3 dl => ?_)
 have b4 := dk.own b3 (some aa) (oglt cy hu32)
 refine L_stb aa 0 [vs ([] : Str), vi 0, .slice none 0 0, .slice none 0 0] [vs id, vi r2.Kind, .slice ab ao ap, .slice none 0 0] [vs id, vi r2.Kind, .slice ab ao ap, .slice none 0 0] rfl dl rfl sz28 rfl rfl rfl fun dm b5 dn => ?_
 have a3 := b4.wr 0 rfl b5
 refine L_nil (W_seq (W_seq (W_reg (L_mv (.pointer (some ⟨b, 0, none⟩)) rfl ?_))))
 have dp := (b4.bmo (dg.k0 b3) 0 rfl b5)
 refine L_call go25 [.pointer (some ⟨b, 0, none⟩), vi 4] rfl ((F15.calls dm a3.ok b r_b A2 n3 c4 m (hp5.st a3.st) dp (List.mem_append_right _ hm) 4 _ H).mono ?_)
 rintro _ cj ⟨r3, m2, rfl, H, b6, dq⟩
 have dr := a3.wm b6
 refine L_as (vi r3) rfl (L_nil (W_block ?_))
 have ds := dr.own (Gr.refl _ none) none (by simp)
 have dt : Ow kPt 83 cj ([bk none, some aa, bk ab, some b9] ++ O) (.slice none 0 0) [] := Ow.nil _ _ _ _
 have du := ds.own (Gr.refl _ none) none (by simp)
 have dv : Ow kTag 39 cj ([bk none, bk none, some aa, bk ab, some b9] ++ O) (.slice none 0 0) [] := Ow.nil _ _ _ _
 have cz := du.own (Gr.refl _ none) none (by simp)
 have dw : Ow kTag 39 cj ([bk none, bk none, bk none, some aa, bk ab, some b9] ++ O) (.slice none 0 0) [] := Ow.nil _ _ _ _
 obtain ⟨dx, dy, ck, H⟩ := H
 have dz := ((((a3.swm (b4.sw (dj.so _ b3 (oge cy)) 1 0 rfl rfl rfl b5) 1 rfl b6).so none (Gr.refl _ none) (by simp)).so none (Gr.refl _ none) (by simp)).so none (Gr.refl _ none) (by simp))
 have d0 := ((dt.so none (Gr.refl _ none) (by simp)).so none (Gr.refl _ none) (by simp))
 have d1 := (dv.so none (Gr.refl _ none) (by simp))
 have d2 := dq
 have d3 := (a3.bwm (b4.bm ((b2.bwm de 0 rfl cx).k0 b3) 2 0 rfl rfl rfl b5) 2 rfl b6)
 have d4 := (a3.bwm dn 0 rfl b6)
 refine W_loop (α := Int × (List Tag) × (Option Addr) × Nat × Nat × Int) (fun (sv__ : Int × (List Tag) × (Option Addr) × Nat × Nat × Int) t ay => match sv__ with | (i2, xs2, ac, ai, aj, z2) => dx i2 xs2 z2 ∧ Has t [(0, .pointer (some ⟨b, 0, none⟩)), (4, .pointer (some ⟨b9, 0, none⟩)), (5, .pointer (some ⟨aa, 0, none⟩)), (6, vi i2)] ∧ Ct [some b] w0 ay [bk ac, bk none, bk none, some aa, bk ab, some b9] O ∧ Sl Kd.byte ay (Fr ([bk ac, bk none, bk none, some aa, bk ab, some b9] ++ O)) (.slice A2 n3 c4) r_b ∧ Ow kPt 83 ay ([bk ac, bk none, bk none, some aa, bk ab, some b9] ++ O) (.slice ab ao ap) r2.Pts ∧ Ow kTag 39 ay ([bk ac, bk none, bk none, some aa, bk ab, some b9] ++ O) (.slice ac ai aj) xs2 ∧ Ow kPt 83 ay ([bk ac, bk none, bk none, some aa, bk ab, some b9] ++ O) (.slice none 0 0) ([] : List Pt) ∧ Ow kTag 39 ay ([bk ac, bk none, bk none, some aa, bk ab, some b9] ++ O) (.slice none 0 0) ([] : List Tag) ∧ Bx ay b [.slice A2 n3 c4, vi z2] ∧ Bx ay b9 [vs ([] : Str), vi 0, .slice none 0 0, .slice none 0 0] ∧ Bx ay aa [vs id, vi r2.Kind, .slice ab ao ap, .slice ac ai aj]) (fun (sv__ : Int × (List Tag) × (Option Addr) × Nat × Nat × Int) => match sv__ with | (i2, xs2, _, _, _, z2) => dy i2 xs2 z2) (r3, ([] : List Tag), none, 0, 0, m2) ⟨ck, (hasI rfl), cz, (hp5.st cz.st), dz, dw, d0, d1, d2, d3, d4⟩ ?_
 rintro ⟨i2, xs2, ac, ai, aj, z2⟩ _ ay ⟨ck, d5, a2, a5, b7, b8, cl, cm, cn, ca, cb⟩
 obtain ⟨es, rfl⟩ := Has.ins d5
 have H := H i2 xs2 z2 ck
 refine W_seq (W_seq (W_reg (L_mv (vi i2) rfl (L_pu (P_cmp i2 0 (decide (i2 > 0)) rfl rfl rfl) (L_nil ?_)))))
 refine W_cond (decide (i2 > 0)) rfl (fun co => ?_) (fun co => ?_)
 ·have H := ite_t H co
  refine W_skip (W_seq (W_block (W_mixr 9 [some b, some aa] (by kernel_rfl) rfl fun c0 ah a4 => ?_)))
  have ag := a2.k0 ah
  refine M_pu 0 rfl (by kernel_rfl) a4 (P_fa fa28_2 ⟨aa, 0, none⟩ ⟨aa, 3, none⟩ rfl rfl) ?_
  refine M_pu 2 rfl (by kernel_rfl) a4 (P_move (.pointer (some ⟨b, 0, none⟩)) rfl) ?_
  refine M_pu 4 rfl (by kernel_rfl) a4 (P_move (.pointer (some ⟨b, 0, none⟩)) rfl) ?_
  refine M_any2 1 3 (by kernel_rfl) rfl rfl ?_ ?_
  ·have c1 := (cb.k0 ah)
   refine L_pu (P_ld ag26 cL ⟨aa, 3, none⟩ (.slice ac ai aj) rfl (c1.cell rfl)) ?_
   refine L_nil ⟨a4, ?_⟩
   refine M_any1 3 (by kernel_rfl) rfl ?_
   have c2 := a2.stn ah
   have d6 := (cn.k0 ah)
   refine L_call go75 [.pointer (some ⟨b, 0, none⟩)] rfl ((F94.calls c0 ag.ok b r_b A2 n3 c4 z2 (a5.st c2) d6 (List.mem_append_right _ hm) _ H).mono ?_)
   rintro _ d7 ⟨r4, m3, rfl, H, az, d8, d9⟩
   have a0 := ag.wm az
   have c3 := Gm.tq a4 az (hv_mem 0 rfl)
   refine L_nil ⟨c3, ?_⟩
   refine M_any1 5 (by kernel_rfl) rfl ?_
   have cp := ag.stm az
   have a6 := ((a5.st c2).st cp)
   refine L_call go76 [.pointer (some ⟨b, 0, none⟩)] rfl ((F95.calls d7 a0.ok b r_b A2 n3 c4 m3 a6 d8 (List.mem_append_right _ hm) _ H).mono ?_)
   rintro _ cq ⟨r5, m4, rfl, H, am, cr, cs⟩
   have ar := a0.wm am
   have a7 := Gm.tq c3 am (hv_mem 0 rfl)
   refine L_nil ⟨a7, ?_⟩
   refine M_any1 6 (by kernel_rfl) rfl ?_
   have a8 := (a0.swm (ag.swm (b8.sn ah) 0 rfl az) 0 rfl am)
   have a9 := ar.gv a8 0 rfl
   have ba := ar.drop 0 rfl
   refine L_call go74 [.slice ac ai aj, vs r4, vs r5] rfl ((F96.calls cq ba.ok xs2 ac ai aj a9 r4 d9 r5 cs _ H).mono ?_)
   rintro _ c5 ⟨r6, au, av, aw, rfl, H, ad, bb, ak, bc⟩
   have bd := Ok.unl (L := [bk ac, bk none, bk none, some aa, bk ab, some b9]) (L' := [bk none, bk none, some aa, bk ab, some b9]) (O := O) ar ad bb ak
   have be := Ow.unl (L := [bk ac, bk none, bk none, some aa, bk ab, some b9]) (L' := [bk none, bk none, some aa, bk ab, some b9]) (O := O) (fun _ _ _ _ _ _ h => h) (.cons _ (.cons_cons _ (.cons_cons _ (.cons_cons _ (.cons_cons _ (.cons_cons _ (.slnil))))))) bc
   have af := ar.owns ad bd ak
   have ax := Gm.tm a7 ad
   refine L_nil ⟨ax, ?_⟩
   refine M_pu 7 rfl (by kernel_rfl) ax (P_fa fa28_2 ⟨aa, 0, none⟩ ⟨aa, 3, none⟩ rfl rfl) ?_
   refine M_any1 8 (by kernel_rfl) rfl ?_
   have bf := ((a0.bwm (ag.bwm c1 3 rfl az) 3 rfl am).k0 ad)
   refine L_stb aa 3 [vs id, vi r2.Kind, .slice ab ao ap, .slice ac ai aj] [.slice au av aw] [vs id, vi r2.Kind, .slice ab ao ap, .slice au av aw] rfl bf rfl sz26 rfl rfl rfl fun c6 ae bg => ?_
   have al := af.wr 4 rfl ae
   have bh := Gm.tq ax ae (hv_mem 1 rfl)
   refine L_nil ⟨bh, ?_⟩
   refine M_nil (by kernel_rfl) ?_
   refine W_reg (L_mv (vi i2) rfl ?_)
   obtain ⟨bi, H⟩ := H
   refine L_pu (P_sub i2 1 rfl rfl bi) (L_as (vi (i2 - 1)) rfl (L_nil ?_))
   have bj := al.drop 1 rfl
   obtain ⟨bl, bn⟩ := H
   have bo := a0.stm am
   have bp := ar.stos ad ak
   have bq := af.stw 4 rfl ae
   have br := al.std 1 rfl
   have bs := ((((a6.st bo).st bp).st bq).st br)
   have bt := (al.sd (af.sw ((a0.swm (ag.swm (b7.sn ah) 4 rfl az) 4 rfl am).sos ad ak) 5 4 rfl rfl rfl ae) 5 1 rfl rfl rfl)
   have bu := (al.sd (af.sw be 0 4 rfl rfl rfl ae) 0 1 rfl rfl rfl)
   have bv := (al.sd (af.sw ((a0.swm (ag.swm (cl.sn ah) 2 rfl az) 2 rfl am).sos ad ak) 3 4 rfl rfl rfl ae) 3 1 rfl rfl rfl)
   have bw := (al.sd (af.sw ((a0.swm (ag.swm (cm.sn ah) 1 rfl az) 1 rfl am).sos ad ak) 2 4 rfl rfl rfl ae) 2 1 rfl rfl rfl)
   have bx := (af.bmo (cr.k0 ad) 4 rfl ae)
   have bz := (af.bm ((a0.bwm (ag.bwm (ca.k0 ah) 5 rfl az) 5 rfl am).k0 ad) 6 4 rfl rfl rfl ae)
   have b0 := bg
   exact ⟨(i2 - 1, r6, au, av, aw, m4), bn, bl, (hasI rfl), bj, bs, bt, bu, bv, bw, bx, bz, b0⟩
  have ct := a2.stn ah
  have ea := (cn.k0 ah)
  refine L_call go75 [.pointer (some ⟨b, 0, none⟩)] rfl ((F94.calls c0 ag.ok b r_b A2 n3 c4 z2 (a5.st ct) ea (List.mem_append_right _ hm) _ H).mono ?_)
  rintro _ c7 ⟨r4, m3, rfl, H, aq, c8, c9⟩
  have an := ag.wm aq
  have cc := Gm.tq a4 aq (hv_mem 0 rfl)
  refine L_nil ⟨cc, ?_⟩
  refine M_any2 1 5 (by kernel_rfl) rfl rfl ?_ ?_
  ·have da := (ag.bwm (cb.k0 ah) 3 rfl aq)
   refine L_pu (P_ld ag26 cL ⟨aa, 3, none⟩ (.slice ac ai aj) rfl (da.cell rfl)) ?_
   refine L_nil ⟨cc, ?_⟩
   refine M_any1 5 (by kernel_rfl) rfl ?_
   have cp := ag.stm aq
   have a6 := ((a5.st ct).st cp)
   refine L_call go76 [.pointer (some ⟨b, 0, none⟩)] rfl ((F95.calls c7 an.ok b r_b A2 n3 c4 m3 a6 c8 (List.mem_append_right _ hm) _ H).mono ?_)
   rintro _ cq ⟨r5, m4, rfl, H, am, cr, cs⟩
   have ar := an.wm am
   have a7 := Gm.tq cc am (hv_mem 0 rfl)
   refine L_nil ⟨a7, ?_⟩
   refine M_any1 6 (by kernel_rfl) rfl ?_
   have a8 := (an.swm (ag.swm (b8.sn ah) 0 rfl aq) 0 rfl am)
   have a9 := ar.gv a8 0 rfl
   have ba := ar.drop 0 rfl
   refine L_call go74 [.slice ac ai aj, vs r4, vs r5] rfl ((F96.calls cq ba.ok xs2 ac ai aj a9 r4 c9 r5 cs _ H).mono ?_)
   rintro _ c5 ⟨r6, au, av, aw, rfl, H, ad, bb, ak, bc⟩
   have bd := Ok.unl (L := [bk ac, bk none, bk none, some aa, bk ab, some b9]) (L' := [bk none, bk none, some aa, bk ab, some b9]) (O := O) ar ad bb ak
   have be := Ow.unl (L := [bk ac, bk none, bk none, some aa, bk ab, some b9]) (L' := [bk none, bk none, some aa, bk ab, some b9]) (O := O) (fun _ _ _ _ _ _ h => h) (.cons _ (.cons_cons _ (.cons_cons _ (.cons_cons _ (.cons_cons _ (.cons_cons _ (.slnil))))))) bc
   have af := ar.owns ad bd ak
   have ax := Gm.tm a7 ad
   refine L_nil ⟨ax, ?_⟩
   refine M_pu 7 rfl (by kernel_rfl) ax (P_fa fa28_2 ⟨aa, 0, none⟩ ⟨aa, 3, none⟩ rfl rfl) ?_
   refine M_any1 8 (by kernel_rfl) rfl ?_
   have bf := ((an.bwm da 3 rfl am).k0 ad)
   refine L_stb aa 3 [vs id, vi r2.Kind, .slice ab ao ap, .slice ac ai aj] [.slice au av aw] [vs id, vi r2.Kind, .slice ab ao ap, .slice au av aw] rfl bf rfl sz26 rfl rfl rfl fun c6 ae bg => ?_
   have al := af.wr 4 rfl ae
   have bh := Gm.tq ax ae (hv_mem 1 rfl)
   refine L_nil ⟨bh, ?_⟩
   refine M_nil (by kernel_rfl) ?_
   refine W_reg (L_mv (vi i2) rfl ?_)
   obtain ⟨bi, H⟩ := H
   refine L_pu (P_sub i2 1 rfl rfl bi) (L_as (vi (i2 - 1)) rfl (L_nil ?_))
   have bj := al.drop 1 rfl
   obtain ⟨bl, bn⟩ := H
   have bo := an.stm am
   have bp := ar.stos ad ak
   have bq := af.stw 4 rfl ae
   have br := al.std 1 rfl
   have bs := ((((a6.st bo).st bp).st bq).st br)
   have bt := (al.sd (af.sw ((an.swm (ag.swm (b7.sn ah) 4 rfl aq) 4 rfl am).sos ad ak) 5 4 rfl rfl rfl ae) 5 1 rfl rfl rfl)
   have bu := (al.sd (af.sw be 0 4 rfl rfl rfl ae) 0 1 rfl rfl rfl)
   have bv := (al.sd (af.sw ((an.swm (ag.swm (cl.sn ah) 2 rfl aq) 2 rfl am).sos ad ak) 3 4 rfl rfl rfl ae) 3 1 rfl rfl rfl)
   have bw := (al.sd (af.sw ((an.swm (ag.swm (cm.sn ah) 1 rfl aq) 1 rfl am).sos ad ak) 2 4 rfl rfl rfl ae) 2 1 rfl rfl rfl)
   have bx := (af.bmo (cr.k0 ad) 4 rfl ae)
   have bz := (af.bm ((an.bwm (ag.bwm (ca.k0 ah) 5 rfl aq) 5 rfl am).k0 ad) 6 4 rfl rfl rfl ae)
   have b0 := bg
   exact ⟨(i2 - 1, r6, au, av, aw, m4), bn, bl, (hasI rfl), bj, bs, bt, bu, bv, bw, bx, bz, b0⟩
  have eb := ag.stm aq
  have db := ((a5.st ct).st eb)
  refine L_call go76 [.pointer (some ⟨b, 0, none⟩)] rfl ((F95.calls c7 an.ok b r_b A2 n3 c4 m3 db c8 (List.mem_append_right _ hm) _ H).mono ?_)
  rintro _ ec ⟨r5, m4, rfl, H, a1, ed, ee⟩
  have b1 := an.wm a1
  have cu := Gm.tq cc a1 (hv_mem 0 rfl)
  refine L_nil ⟨cu, ?_⟩
  refine M_any1 1 (by kernel_rfl) rfl ?_
  have dc := (an.bwm (ag.bwm (cb.k0 ah) 3 rfl aq) 3 rfl a1)
  refine L_pu (P_ld ag26 cL ⟨aa, 3, none⟩ (.slice ac ai aj) rfl (dc.cell rfl)) ?_
  refine L_nil ⟨cu, ?_⟩
  refine M_any1 6 (by kernel_rfl) rfl ?_
  have a8 := (an.swm (ag.swm (b8.sn ah) 0 rfl aq) 0 rfl a1)
  have a9 := b1.gv a8 0 rfl
  have ba := b1.drop 0 rfl
  refine L_call go74 [.slice ac ai aj, vs r4, vs r5] rfl ((F96.calls ec ba.ok xs2 ac ai aj a9 r4 c9 r5 ee _ H).mono ?_)
  rintro _ c5 ⟨r6, au, av, aw, rfl, H, ad, bb, ak, bc⟩
  have bd := Ok.unl (L := [bk ac, bk none, bk none, some aa, bk ab, some b9]) (L' := [bk none, bk none, some aa, bk ab, some b9]) (O := O) b1 ad bb ak
  have be := Ow.unl (L := [bk ac, bk none, bk none, some aa, bk ab, some b9]) (L' := [bk none, bk none, some aa, bk ab, some b9]) (O := O) (fun _ _ _ _ _ _ h => h) (.cons _ (.cons_cons _ (.cons_cons _ (.cons_cons _ (.cons_cons _ (.cons_cons _ (.slnil))))))) bc
  have af := b1.owns ad bd ak
  have ax := Gm.tm cu ad
  refine L_nil ⟨ax, ?_⟩
  refine M_pu 7 rfl (by kernel_rfl) ax (P_fa fa28_2 ⟨aa, 0, none⟩ ⟨aa, 3, none⟩ rfl rfl) ?_
  refine M_any1 8 (by kernel_rfl) rfl ?_
  have bf := (dc.k0 ad)
  refine L_stb aa 3 [vs id, vi r2.Kind, .slice ab ao ap, .slice ac ai aj] [.slice au av aw] [vs id, vi r2.Kind, .slice ab ao ap, .slice au av aw] rfl bf rfl sz26 rfl rfl rfl fun c6 ae bg => ?_
  have al := af.wr 4 rfl ae
  have bh := Gm.tq ax ae (hv_mem 1 rfl)
  refine L_nil ⟨bh, ?_⟩
  refine M_nil (by kernel_rfl) ?_
  refine W_reg (L_mv (vi i2) rfl ?_)
  obtain ⟨bi, H⟩ := H
  refine L_pu (P_sub i2 1 rfl rfl bi) (L_as (vi (i2 - 1)) rfl (L_nil ?_))
  have bj := al.drop 1 rfl
  obtain ⟨bl, bn⟩ := H
  have bo := an.stm a1
  have bp := b1.stos ad ak
  have bq := af.stw 4 rfl ae
  have br := al.std 1 rfl
  have bs := ((((db.st bo).st bp).st bq).st br)
  have bt := (al.sd (af.sw ((an.swm (ag.swm (b7.sn ah) 4 rfl aq) 4 rfl a1).sos ad ak) 5 4 rfl rfl rfl ae) 5 1 rfl rfl rfl)
  have bu := (al.sd (af.sw be 0 4 rfl rfl rfl ae) 0 1 rfl rfl rfl)
  have bv := (al.sd (af.sw ((an.swm (ag.swm (cl.sn ah) 2 rfl aq) 2 rfl a1).sos ad ak) 3 4 rfl rfl rfl ae) 3 1 rfl rfl rfl)
  have bw := (al.sd (af.sw ((an.swm (ag.swm (cm.sn ah) 1 rfl aq) 1 rfl a1).sos ad ak) 2 4 rfl rfl rfl ae) 2 1 rfl rfl rfl)
  have bx := (af.bmo (ed.k0 ad) 4 rfl ae)
  have bz := (af.bm ((an.bwm (ag.bwm (ca.k0 ah) 5 rfl aq) 5 rfl a1).k0 ad) 6 4 rfl rfl rfl ae)
  have b0 := bg
  exact ⟨(i2 - 1, r6, au, av, aw, m4), bn, bl, (hasI rfl), bj, bs, bt, bu, bv, bw, bx, bz, b0⟩
 have H := ite_f H co
 refine W_exit (xin_hit ?_)
 refine W_seq (W_reg (L_pu (P_lda ag28 sz28 cL ⟨aa, 0, none⟩ [vs id, vi r2.Kind, .slice ab ao ap, .slice ac ai aj] rfl rfl (cb.cells (off := 0) rfl)) (L_stb b9 0 [vs ([] : Str), vi 0, .slice none 0 0, .slice none 0 0] [vs id, vi r2.Kind, .slice ab ao ap, .slice ac ai aj] [vs id, vi r2.Kind, .slice ab ao ap, .slice ac ai aj] rfl ca rfl sz28 rfl rfl rfl fun ef cd eg => ?_)))
 have ce := a2.wr 5 rfl cd
 refine L_nil (W_ret ?_)
 have eh := ce.bgv eg 5 rfl
 have cf := ce.drop 5 rfl
 have cg := cf.drop 1 rfl
 have ch : Ct [some b] w0 ef [bk ac, some aa, bk ab] O := cg.drop 1 rfl
 have ci := ch.drop 1 rfl
 have cv := ci.perm (.swap _ _ _)
 have ei := cf.std 1 rfl
 have ej := cg.std 1 rfl
 have ek := ch.std 1 rfl
 have el := ci.stp (.swap _ _ _)
 have em := ((((eh.st ei).st ej).st ek).st el)
 have en := (ci.sp (ch.sd (cg.sd (cf.sd (ce.sd (a2.sw b7 4 5 rfl rfl rfl cd) 4 5 rfl rfl rfl) 4 1 rfl rfl rfl) 3 1 rfl rfl rfl) 2 1 rfl rfl rfl) (.swap _ _ _))
 have eo := (ci.sp (ch.sd (cg.sd (cf.sd (ce.sd (a2.sw b8 0 5 rfl rfl rfl cd) 0 5 rfl rfl rfl) 0 1 rfl rfl rfl) 0 1 rfl rfl rfl) 0 1 rfl rfl rfl) (.swap _ _ _))
 have ep := (a2.bmo cn 5 rfl cd)
 exact ⟨[.agg #[vs id, vi r2.Kind, .slice ab ao ap, .slice ac ai aj]], ⟨_, _, rfl, em.1.res rfl ag28 sz28, rfl⟩, (⟨id, r2, xs2⟩ : Feat), z2, ab, ao, ap, ac, ai, aj, rfl, H, cv.gr.g1, ep, cv.ok, cv.ge, hs7, en, eo⟩
end
section
open Go.RowKit
def F59.E (s : Shape) (Q : Shape → Prop) : Prop :=
 (([] : List Pt).length + s.Pts.length ≤ 268435456) ∧ Q (⟨s.Kind, (([] : List Pt) ++ s.Pts)⟩ : Shape)
theorem F59.calls {O : Ob} (w0 : World) (hO : Ok w0 O) (s : Shape) (A1 : Option Addr) (n2 c3 : Nat) (hp4 : Sl kPt w0 (Fr O) (.slice A1 n2 c3) s.Pts) (Q : Shape → Prop) (h : F59.E s Q) :
  Ret Try.prog 50 [.agg #[vi s.Kind, .slice A1 n2 c3]] w0 (fun v w' => ∃ (r0 : Shape) (Aw0 : Option Addr) (nw0 cw0 : Nat), v = .agg #[vi r0.Kind, .slice Aw0 nw0 cw0] ∧ Q r0 ∧ Gr w0 w' none ∧ Ok w' ([bk Aw0] ++ O) ∧ (∀ b, some b ∈ [bk Aw0] → w0.heap.size ≤ b) ∧ Ow kPt 83 w' ([bk Aw0] ++ O) (.slice Aw0 nw0 cw0) r0.Pts) := by
 unfold F59.E at h
 have H := h
 clear h
 have hc0 := Ct.init hO
 refine Ret_enter Try.func50 rfl 10 rfl [.cell 2 25] rfl rfl ?_
 refine W_seq (W_reg (L_box [vi s.Kind, .slice A1 n2 c3] rfl fun w6 b7 hl9 hu10 g8 ay => ?_))
 have az := Fb.mk hc0.ok hl9 ay
 have ap := hc0.k0 g8
 refine L_alloc [.int .i64 0, .slice none 0 0] ze25 fun be ae aq hu19 ar a0 => ?_
 have au := ap.own ar (some ae) (oglt aq hu19)
 refine L_nil (W_seq (W_mixr 8 [some ae] (by kernel_rfl) rfl fun bf ag aa => ?_))
 have ah := au.k0 ag
 refine M_pu 0 rfl (by kernel_rfl) aa (P_fa fa25_0 ⟨b7, 0, none⟩ ⟨b7, 0, none⟩ rfl rfl) ?_
 have a1 := ap.stown _ ar (oge aq)
 have a2 := au.stn ag
 have af := ((az.st a1).st a2)
 refine M_pu 1 rfl (by kernel_rfl) aa (P_ldr ag3 cR ⟨b7, 0, none⟩ (vi s.Kind) rfl (af.cell rfl) (nm_cons (ah.fne 0 af.2 rfl) nm_nil)) ?_
 refine M_pu 3 rfl (by kernel_rfl) aa (P_fa fa25_1 ⟨b7, 0, none⟩ ⟨b7, 1, none⟩ rfl rfl) ?_
 refine M_pu 4 rfl (by kernel_rfl) aa (P_ldr ag23 cR ⟨b7, 1, none⟩ (.slice A1 n2 c3) rfl (af.cell rfl) (nm_cons (ah.fne 0 af.2 rfl) nm_nil)) ?_
 refine M_any1 2 (by kernel_rfl) rfl ?_
 refine L_lit (kd := kPt) ei23 ah ([] : List Pt) (cells := []) rfl (fun _ => by kernel_rfl) fun bg av a3 a4 aw hr35 ai a5 => ?_
 have aj := Gm.tm aa aw
 refine L_nil ⟨aj, ?_⟩
 refine M_any1 5 (by kernel_rfl) rfl ?_
 obtain ⟨a6, H⟩ := H
 refine L_app ei23 ai (.slice av a3 a4) ([] : List Pt) s.Pts rfl a5 (.slice A1 n2 c3) rfl (hp4.st ai.st).sx 0 rfl a6 fun bh ab ac ad ax a7 ak a8 => ?_
 have al := Gm.tq aj ax (hv_new aa hr35)
 have bi := hv_app (L := [bk av, some ae]) (O := O) (i := 0) aj rfl (hv_new aa hr35) a7 ak
 refine L_nil ⟨al, ?_⟩
 refine M_pu 6 rfl (by kernel_rfl) al (P_build (.agg #[vi s.Kind, .slice ab ac ad]) (fun _ => by kernel_rfl)) ?_
 refine M_any1 7 (by kernel_rfl) rfl ?_
 have a9 := (ai.bm ((a0.k0 ag).k0 aw) 1 0 rfl rfl rfl ax)
 refine L_stb ae 0 [vi 0, .slice none 0 0] [vi s.Kind, .slice ab ac ad] [vi s.Kind, .slice ab ac ad] rfl a9 rfl sz25 rfl rfl rfl fun bj am ba => ?_
 have an := ak.wr 1 rfl am
 have bb := Gm.tq al am (hv_mem 0 rfl)
 refine L_nil ⟨bb, ?_⟩
 refine M_nil (by kernel_rfl) ?_
 refine W_ret ?_
 have bc := an.bgv ba 1 rfl
 have ao := an.drop 1 rfl
 have bd := (an.sd (ak.sw a8 0 1 rfl rfl rfl am) 0 1 rfl rfl rfl)
 exact ⟨[.agg #[vi s.Kind, .slice ab ac ad]], ⟨_, _, rfl, bc.1.res rfl ag25 sz25, rfl⟩, (⟨s.Kind, (([] : List Pt) ++ s.Pts)⟩ : Shape), ab, ac, ad, rfl, H, ao.gr.g0, ao.ok, ao.ge, bd⟩
end
section
open Go.RowKit
def F60.E (f : Feat) (Q : Feat → Prop) : Prop :=
 (([] : List Tag).length + f.Tags.length ≤ 268435456) ∧ F59.E f.Shape (fun r => Q (⟨f.Id, r, (([] : List Tag) ++ f.Tags)⟩ : Feat))
theorem F60.calls {O : Ob} (w0 : World) (hO : Ok w0 O) (f : Feat) (A2 : Option Addr) (n3 c4 : Nat) (A7 : Option Addr) (n8 c9 : Nat) (hs1 : Lim f.Id) (hp5 : Sl kPt w0 (Fr O) (.slice A2 n3 c4) f.Shape.Pts) (bn : Sl kTag w0 (Fr O) (.slice A7 n8 c9) f.Tags) (Q : Feat → Prop) (h : F60.E f Q) :
  Ret Try.prog 27 [.agg #[vs f.Id, vi f.Shape.Kind, .slice A2 n3 c4, .slice A7 n8 c9]] w0 (fun v w' => ∃ (r0 : Feat) (Aw0 : Option Addr) (nw0 cw0 : Nat) (Aw2 : Option Addr) (nw2 cw2 : Nat), v = .agg #[vs r0.Id, vi r0.Shape.Kind, .slice Aw0 nw0 cw0, .slice Aw2 nw2 cw2] ∧ Q r0 ∧ Gr w0 w' none ∧ Ok w' ([bk Aw0, bk Aw2] ++ O) ∧ (∀ b, some b ∈ [bk Aw0, bk Aw2] → w0.heap.size ≤ b) ∧ Lim r0.Id ∧ Ow kPt 83 w' ([bk Aw0, bk Aw2] ++ O) (.slice Aw0 nw0 cw0) r0.Shape.Pts ∧ Ow kTag 39 w' ([bk Aw0, bk Aw2] ++ O) (.slice Aw2 nw2 cw2) r0.Tags) := by
 unfold F60.E at h
 have H := h
 clear h
 have hc0 := Ct.init hO
 refine Ret_enter Try.func27 rfl 13 rfl [.cell 2 28] rfl rfl ?_
 refine W_seq (W_reg (L_box [vs f.Id, vi f.Shape.Kind, .slice A2 n3 c4, .slice A7 n8 c9] rfl fun dd ac b3 hu16 b4 b5 => ?_))
 have b6 := Fb.mk hc0.ok b3 b5
 have bo := hc0.k0 b4
 refine L_alloc [vs [], .int .i64 0, .slice none 0 0, .slice none 0 0] ze28 fun de aa bp hu25 bq br => ?_
 have bs := bo.own bq (some aa) (oglt bp hu25)
 refine L_nil (W_seq ?_)
 obtain ⟨bt, H⟩ := H
 refine W_join (J := (fun t ai => ∃ (r : Shape) (ad : Option Addr) (aj : Nat) (ak : Nat) (ae : Option Addr) (al : Nat) (am : Nat), Has t [(2, .pointer (some ⟨aa, 0, none⟩))] ∧ Ct [] w0 ai [bk ae, bk ad, some aa] O ∧ Ow kPt 83 ai ([bk ae, bk ad, some aa] ++ O) (.slice ad aj ak) r.Pts ∧ Ow kTag 39 ai ([bk ae, bk ad, some aa] ++ O) (.slice ae al am) (([] : List Tag) ++ f.Tags) ∧ Bx ai aa [vs f.Id, vi r.Kind, .slice ad aj ak, .slice ae al am] ∧ Q (⟨f.Id, r, (([] : List Tag) ++ f.Tags)⟩ : Feat))) ?_ ?_
 ·refine W_mixr 11 [some aa] (by kernel_rfl) rfl fun b7 ap ab => ?_
  have af := bs.k0 ap
  refine M_pu 0 rfl (by kernel_rfl) ab (P_fa fa28_0 ⟨ac, 0, none⟩ ⟨ac, 0, none⟩ rfl rfl) ?_
  have b8 := bo.stown _ bq (oge bp)
  have b9 := bs.stn ap
  have ah := ((b6.st b8).st b9)
  refine M_pu 1 rfl (by kernel_rfl) ab (P_ldr ag9 cR ⟨ac, 0, none⟩ (vs f.Id) rfl (ah.cell rfl) (nm_cons (af.fne 0 ah.2 rfl) nm_nil)) ?_
  refine M_pu 2 rfl (by kernel_rfl) ab (P_fa fa28_1 ⟨ac, 0, none⟩ ⟨ac, 1, none⟩ rfl rfl) ?_
  refine M_pu 3 rfl (by kernel_rfl) ab (P_ldar ag25 sz25 cR ⟨ac, 1, none⟩ [vi f.Shape.Kind, .slice A2 n3 c4] rfl rfl (ah.cells (off := 1) rfl) (nm_cons (af.fne 0 ah.2 rfl) nm_nil)) ?_
  refine M_pu 6 rfl (by kernel_rfl) ab (P_fa fa28_2 ⟨ac, 0, none⟩ ⟨ac, 3, none⟩ rfl rfl) ?_
  refine M_pu 7 rfl (by kernel_rfl) ab (P_ldr ag26 cR ⟨ac, 3, none⟩ (.slice A7 n8 c9) rfl (ah.cell rfl) (nm_cons (af.fne 0 ah.2 rfl) nm_nil)) ?_
  refine M_any2 4 5 (by kernel_rfl) rfl rfl ?_ ?_
  ·refine L_call go50 [.agg #[vi f.Shape.Kind, .slice A2 n3 c4]] rfl ((F59.calls b7 af.ok f.Shape A2 n3 c4 (hp5.st af.st) _ H).mono ?_)
   rintro _ bu ⟨r, an, aq, ar, rfl, H, bc, ca, cb, cc⟩
   have cd := af.owns bc ca cb
   have au := Gm.tm ab bc
   refine L_nil ⟨au, ?_⟩
   refine M_any1 5 (by kernel_rfl) rfl ?_
   refine L_lit (kd := kTag) ei26 cd ([] : List Tag) (cells := []) rfl (fun _ => by kernel_rfl) fun df bv ce cf bd hr54 av cg => ?_
   have ag := Gm.tm au bd
   refine L_nil ⟨ag, ?_⟩
   refine M_any1 8 (by kernel_rfl) rfl ?_
   refine L_app ei26 av (.slice bv ce cf) ([] : List Tag) f.Tags rfl cg (.slice A7 n8 c9) rfl (bn.st av.st).sx 0 rfl bt fun dg aw ax ay be bw az ch => ?_
   have bf := Gm.tq ag be (hv_new au hr54)
   have dh := hv_app (L := [bk bv, bk an, some aa]) (O := O) (i := 0) ag rfl (hv_new au hr54) bw az
   refine L_nil ⟨bf, ?_⟩
   refine M_pu 9 rfl (by kernel_rfl) bf (P_build (.agg #[vs f.Id, vi r.Kind, .slice an aq ar, .slice aw ax ay]) (fun _ => by kernel_rfl)) ?_
   refine M_any1 10 (by kernel_rfl) rfl ?_
   have ci := (av.bm (((br.k0 ap).k0 bc).k0 bd) 2 0 rfl rfl rfl be)
   refine L_stb aa 0 [vs ([] : Str), vi 0, .slice none 0 0, .slice none 0 0] [vs f.Id, vi r.Kind, .slice an aq ar, .slice aw ax ay] [vs f.Id, vi r.Kind, .slice an aq ar, .slice aw ax ay] rfl ci rfl sz28 rfl rfl rfl fun di a0 cj => ?_
   have ck := az.wr 2 rfl a0
   have cl := Gm.tq bf a0 (hv_mem 0 rfl)
   refine L_nil ⟨cl, ?_⟩
   refine M_nil (by kernel_rfl) ?_
   have cm := (az.sw (av.sm (cc.so _ bd hr54) 1 0 rfl rfl rfl be bw) 1 2 rfl rfl rfl a0)
   have cn := (az.sw ch 0 2 rfl rfl rfl a0)
   exact ⟨r, an, aq, ar, aw, ax, ay, (hasI rfl), ck, cm, cn, cj, H⟩
  refine L_lit (kd := kTag) ei26 af ([] : List Tag) (cells := []) rfl (fun _ => by kernel_rfl) fun bu bx co cp bz hr42 bg cq => ?_
  have b0 := Gm.tm ab bz
  refine L_nil ⟨b0, ?_⟩
  refine M_any1 4 (by kernel_rfl) rfl ?_
  refine L_call go50 [.agg #[vi f.Shape.Kind, .slice A2 n3 c4]] rfl ((F59.calls bu bg.ok f.Shape A2 n3 c4 (hp5.st bg.st) _ H).mono ?_)
  rintro _ dj ⟨r, ao, a1, a2, rfl, H, a3, cr, b1, cs⟩
  have a4 := bg.owns a3 cr b1
  have ag := Gm.tm b0 a3
  refine L_nil ⟨ag, ?_⟩
  refine M_any1 8 (by kernel_rfl) rfl ?_
  have ct := (cq.sos a3 b1)
  refine L_app ei26 a4 (.slice bx co cp) ([] : List Tag) f.Tags rfl ct (.slice A7 n8 c9) rfl (bn.st a4.st).sx 1 rfl bt fun dk a5 a6 a7 bh b2 a8 cu => ?_
  have bi := Gm.tq ag bh (hv_new ab hr42)
  have dl := hv_app (L := [bk ao, bk bx, some aa]) (O := O) (i := 1) ag rfl (hv_new ab hr42) b2 a8
  refine L_nil ⟨bi, ?_⟩
  refine M_pu 9 rfl (by kernel_rfl) bi (P_build (.agg #[vs f.Id, vi r.Kind, .slice ao a1 a2, .slice a5 a6 a7]) (fun _ => by kernel_rfl)) ?_
  refine M_any1 10 (by kernel_rfl) rfl ?_
  have cv := (a4.bm (((br.k0 ap).k0 bz).k0 a3) 2 1 rfl rfl rfl bh)
  refine L_stb aa 0 [vs ([] : Str), vi 0, .slice none 0 0, .slice none 0 0] [vs f.Id, vi r.Kind, .slice ao a1 a2, .slice a5 a6 a7] [vs f.Id, vi r.Kind, .slice ao a1 a2, .slice a5 a6 a7] rfl cv rfl sz28 rfl rfl rfl fun dm a9 cw => ?_
  have bj := a8.wr 2 rfl a9
  have cx := Gm.tq bi a9 (hv_mem 0 rfl)
  refine L_nil ⟨cx, ?_⟩
  refine M_nil (by kernel_rfl) ?_
  have cy := bj.perm (.swap _ _ _)
  have cz := (bj.sp (a8.sw (a4.sm cs 0 1 rfl rfl rfl bh b2) 0 2 rfl rfl rfl a9) (.swap _ _ _))
  have c0 := (bj.sp (a8.sw cu 1 2 rfl rfl rfl a9) (.swap _ _ _))
  have c1 := cw
  exact ⟨r, ao, a1, a2, a5, a6, a7, (hasI rfl), cy, cz, c0, c1, H⟩
 rintro dn ai ⟨r, ad, aj, ak, ae, al, am, c2, ba, c3, c5, c6, H⟩
 obtain ⟨dp, rfl⟩ := Has.ins c2
 refine W_ret ?_
 have c7 := ba.bgv c6 2 rfl
 have bb := ba.drop 2 rfl
 have bl := bb.perm (.swap _ _ _)
 have c8 := bb.stp (.swap _ _ _)
 have da := (c7.st c8)
 have db := (bb.sp (ba.sd c3 1 2 rfl rfl rfl) (.swap _ _ _))
 have dc := (bb.sp (ba.sd c5 0 2 rfl rfl rfl) (.swap _ _ _))
 exact ⟨[.agg #[vs f.Id, vi r.Kind, .slice ad aj ak, .slice ae al am]], ⟨_, _, rfl, da.1.res rfl ag28 sz28, rfl⟩, (⟨f.Id, r, (([] : List Tag) ++ f.Tags)⟩ : Feat), ad, aj, ak, ae, al, am, rfl, H, bl.gr.g0, bl.ok, bl.ge, hs1, db, dc⟩
end
section
open Go.RowKit
def F61.E (r_b : List UInt8) (r_p : Int) (s : Shape) (Q : Shape → Int → Prop) : Prop :=
 (if (s.Pts.length : Int) == 0 then Q s r_p else F15.E r_b r_p (s.Pts.length : Int) (fun r2 m => ((0 : Int) ≤ 0 ∧ (0 : Int) ≤ r2 ∧ r2 ≤ (s.Pts.length : Int)) ∧ (([] : List Pt).length + ((s.Pts.drop (0 : Int).toNat).take (r2.toNat - (0 : Int).toNat)).length ≤ 268435456) ∧ F15.E r_b m 3 (fun r3 m2 => (if r3 == 0 then ((0 : Int) ≤ r2 ∧ (r2 : Int) ≤ (s.Pts.length : Int) ∧ (s.Pts.length : Int) ≤ (s.Pts.length : Int)) ∧ F105.E r_b m2 (fun r4 m3 => ((([] : List Pt) ++ ((s.Pts.drop (0 : Int).toNat).take (r2.toNat - (0 : Int).toNat))).length + ([r4] : List Pt).length ≤ 268435456) ∧ (((([] : List Pt) ++ ((s.Pts.drop (0 : Int).toNat).take (r2.toNat - (0 : Int).toNat))) ++ ([r4] : List Pt)).length + ((s.Pts.drop r2.toNat).take ((s.Pts.length : Int).toNat - r2.toNat)).length ≤ 268435456) ∧ F45.E (⟨s.Kind, (((([] : List Pt) ++ ((s.Pts.drop (0 : Int).toNat).take (r2.toNat - (0 : Int).toNat))) ++ ([r4] : List Pt)) ++ ((s.Pts.drop r2.toNat).take ((s.Pts.length : Int).toNat - r2.toNat)))⟩ : Shape) (fun r5 => (if !r5 then Q s m3 else Q (⟨s.Kind, (((([] : List Pt) ++ ((s.Pts.drop (0 : Int).toNat).take (r2.toNat - (0 : Int).toNat))) ++ ([r4] : List Pt)) ++ ((s.Pts.drop r2.toNat).take ((s.Pts.length : Int).toNat - r2.toNat)))⟩ : Shape) m3))) else (if r3 == 1 then ((s.Pts.length : Int) ≤ 9223372036854775807 → I64 (r2 + 1)) ∧ ((0 : Int) ≤ r2 + 1 ∧ (r2 + 1 : Int) ≤ (s.Pts.length : Int) ∧ (s.Pts.length : Int) ≤ (s.Pts.length : Int)) ∧ ((([] : List Pt) ++ ((s.Pts.drop (0 : Int).toNat).take (r2.toNat - (0 : Int).toNat))).length + ((s.Pts.drop (r2 + 1).toNat).take ((s.Pts.length : Int).toNat - (r2 + 1).toNat)).length ≤ 268435456) ∧ F45.E (⟨s.Kind, ((([] : List Pt) ++ ((s.Pts.drop (0 : Int).toNat).take (r2.toNat - (0 : Int).toNat))) ++ ((s.Pts.drop (r2 + 1).toNat).take ((s.Pts.length : Int).toNat - (r2 + 1).toNat)))⟩ : Shape) (fun r6 => (if !r6 then Q s m2 else Q (⟨s.Kind, ((([] : List Pt) ++ ((s.Pts.drop (0 : Int).toNat).take (r2.toNat - (0 : Int).toNat))) ++ ((s.Pts.drop (r2 + 1).toNat).take ((s.Pts.length : Int).toNat - (r2 + 1).toNat)))⟩ : Shape) m2)) else ((s.Pts.length : Int) ≤ 9223372036854775807 → I64 (r2 + 1)) ∧ ((0 : Int) ≤ r2 + 1 ∧ (r2 + 1 : Int) ≤ (s.Pts.length : Int) ∧ (s.Pts.length : Int) ≤ (s.Pts.length : Int)) ∧ F105.E r_b m2 (fun r7 m4 => ((([] : List Pt) ++ ((s.Pts.drop (0 : Int).toNat).take (r2.toNat - (0 : Int).toNat))).length + ([r7] : List Pt).length ≤ 268435456) ∧ (((([] : List Pt) ++ ((s.Pts.drop (0 : Int).toNat).take (r2.toNat - (0 : Int).toNat))) ++ ([r7] : List Pt)).length + ((s.Pts.drop (r2 + 1).toNat).take ((s.Pts.length : Int).toNat - (r2 + 1).toNat)).length ≤ 268435456) ∧ F45.E (⟨s.Kind, (((([] : List Pt) ++ ((s.Pts.drop (0 : Int).toNat).take (r2.toNat - (0 : Int).toNat))) ++ ([r7] : List Pt)) ++ ((s.Pts.drop (r2 + 1).toNat).take ((s.Pts.length : Int).toNat - (r2 + 1).toNat)))⟩ : Shape) (fun r8 => (if !r8 then Q s m4 else Q (⟨s.Kind, (((([] : List Pt) ++ ((s.Pts.drop (0 : Int).toNat).take (r2.toNat - (0 : Int).toNat))) ++ ([r7] : List Pt)) ++ ((s.Pts.drop (r2 + 1).toNat).take ((s.Pts.length : Int).toNat - (r2 + 1).toNat)))⟩ : Shape) m4))))))))
theorem F61.calls {O : Ob} (w0 : World) (hO : Ok w0 O) (b : Nat) (r_b : List UInt8) (A2 : Option Addr) (n3 c4 : Nat) (r_p : Int) (hp5 : Sl Kd.byte w0 (Fr O) (.slice A2 n3 c4) r_b) (hp0 : Bx w0 b [.slice A2 n3 c4, vi r_p]) (hm : some b ∈ O) (s : Shape) (A7 : Option Addr) (n8 c9 : Nat) (ag : Sl kPt w0 (Fr O) (.slice A7 n8 c9) s.Pts) (Q : Shape → Int → Prop) (h : F61.E r_b r_p s Q) :
  Ret Try.prog 77 [.pointer (some ⟨b, 0, none⟩), .agg #[vi s.Kind, .slice A7 n8 c9]] w0 (fun v w' => ∃ (r0 : Shape) (m0 : Int) (Aw0 : Option Addr) (nw0 cw0 : Nat), v = .agg #[vi r0.Kind, .slice Aw0 nw0 cw0] ∧ Q r0 m0 ∧ Gr w0 w' (some b) ∧ Bx w' b [.slice A2 n3 c4, vi m0] ∧ Sl kPt w' (Fr O) (.slice Aw0 nw0 cw0) r0.Pts) := by
 unfold F61.E at h
 have H := h
 clear h
 have hc0 := Ct.initm1 (r := some b) hO (by intro b e; cases e; exact hm)
 refine Ret_enter Try.func77 rfl 67 rfl [.cell 4 25] rfl rfl ?_
 refine W_seq (W_reg (L_box [vi s.Kind, .slice A7 n8 c9] rfl fun i3 aa eq hu16 ci er => ?_))
 have es := Fb.mk hc0.ok eq er
 have da := hc0.k0 ci
 refine L_alloc [.int .i64 0, .slice none 0 0] ze25 fun et ab db hu25 b2 bb => ?_
 have ac := da.own b2 (some ab) (oglt db hu25)
 refine L_nil (W_seq (W_seq (W_reg (L_pu (P_fa fa25_1 ⟨aa, 0, none⟩ ⟨aa, 1, none⟩ rfl rfl) ?_))))
 have eu := da.stown _ b2 (oge db)
 have b3 := (es.st eu)
 refine L_pu (P_ld ag23 cL ⟨aa, 1, none⟩ (.slice A7 n8 c9) rfl (b3.cell rfl)) ?_
 have dc := (ag.st ac.st).le
 refine L_pu (P_len Try.underlying23 A7 n8 c9 (ag.st ac.st).len rfl) (L_pu (P_cmp (s.Pts.length : Int) 0 ((s.Pts.length : Int) == 0) rfl rfl rfl) (L_nil ?_))
 refine W_cond ((s.Pts.length : Int) == 0) rfl (fun cj => ?_) (fun cj => ?_)
 ·have H := ite_t H cj
  refine W_seq (W_reg (L_pu (P_lda ag25 sz25 cL ⟨aa, 0, none⟩ [vi s.Kind, .slice A7 n8 c9] rfl rfl (b3.cells (off := 0) rfl)) (L_stb ab 0 [vi 0, .slice none 0 0] [vi s.Kind, .slice A7 n8 c9] [vi s.Kind, .slice A7 n8 c9] rfl bb rfl sz25 rfl rfl rfl fun i4 dd ev => ?_)))
  have de := ac.wr 0 rfl dd
  refine L_nil (W_ret ?_)
  have ew := de.bgv ev 0 rfl
  have df := de.drop 0 rfl
  have ex := (ac.bmo ((hp0.k0 ci).k0 b2) 0 rfl dd)
  exact ⟨[.agg #[vi s.Kind, .slice A7 n8 c9]], ⟨_, _, rfl, ew.1.res rfl ag25 sz25, rfl⟩, s, r_p, A7, n8, c9, rfl, H, df.gr.g1, ex, (ag.st df.st)⟩
 have H := ite_f H cj
 refine W_skip (W_seq (W_reg (L_mv (.pointer (some ⟨b, 0, none⟩)) rfl (L_pu (P_fa fa25_1 ⟨aa, 0, none⟩ ⟨aa, 1, none⟩ rfl rfl) (L_pu (P_ld ag23 cL ⟨aa, 1, none⟩ (.slice A7 n8 c9) rfl (b3.cell rfl)) (L_pu (P_len Try.underlying23 A7 n8 c9 (ag.st ac.st).len rfl) ?_))))))
 have ey := ((hp0.k0 ci).k0 b2)
 refine L_call go25 [.pointer (some ⟨b, 0, none⟩), vi (s.Pts.length : Int)] rfl ((F15.calls et ac.ok b r_b A2 n3 c4 r_p (hp5.st ac.st) ey (List.mem_append_right _ hm) (s.Pts.length : Int) _ H).mono ?_)
 rintro _ i5 ⟨r2, m, rfl, H, aw, ez⟩
 have dg := ac.wm aw
 refine L_as (vi r2) rfl (L_nil (W_seq (W_reg (L_lit (kd := kPt) ei23 dg ([] : List Pt) (cells := []) rfl (fun _ => by kernel_rfl) fun i6 e0 e1 e2 ax hr52 av e3 => ?_))))
 refine L_pu (P_fa fa25_1 ⟨aa, 0, none⟩ ⟨aa, 1, none⟩ rfl rfl) ?_
 have e4 := ac.stm aw
 have e5 := dg.stown _ ax hr52
 have b4 := ((b3.st e4).st e5)
 refine L_pu (P_ld ag23 cL ⟨aa, 1, none⟩ (.slice A7 n8 c9) rfl (b4.cell rfl)) (L_mv (vi r2) rfl ?_)
 obtain ⟨e6, H⟩ := H
 refine L_cuts Try.underlying23 se23 A7 n8 c9 s.Pts rfl (ag.st av.st) 0 r2 rfl rfl e6 fun e7 e8 e9 fa => ?_
 obtain ⟨fb, H⟩ := H
 refine L_app ei23 av (.slice e0 e1 e2) ([] : List Pt) ((s.Pts.drop (0 : Int).toNat).take (r2.toNat - (0 : Int).toNat)) rfl e3 (.slice e7 e8 e9) rfl fa.sx 0 rfl fb fun fc ap bc bd be ck ad cl => ?_
 refine L_as (.slice ap bc bd) rfl (L_nil (W_seq (W_seq (W_reg (L_mv (.pointer (some ⟨b, 0, none⟩)) rfl ?_)))))
 have fd := (av.bmo (ez.k0 ax) 0 rfl be)
 refine L_call go25 [.pointer (some ⟨b, 0, none⟩), vi 3] rfl ((F15.calls fc ad.ok b r_b A2 n3 c4 m (hp5.st ad.st) fd (List.mem_append_right _ hm) 3 _ H).mono ?_)
 rintro _ i7 ⟨r3, m2, rfl, H, ah, b5⟩
 have aq := ad.wm ah
 refine L_nil (W_block (W_seq (W_reg (L_pu (P_cmp r3 0 (r3 == 0) rfl rfl rfl) (L_as (vb (r3 == 0)) rfl (L_nil ?_))))))
 refine W_cond (r3 == 0) rfl (fun cm => ?_) (fun cm => ?_)
 ·have H := ite_t H cm
  refine W_mixr 11 [some b, bk ap] (by kernel_rfl) rfl fun fe bi bf => ?_
  have ar := aq.k0 bi
  refine M_pu 0 rfl (by kernel_rfl) bf (P_move (.slice ap bc bd) rfl) ?_
  refine M_pu 1 rfl (by kernel_rfl) bf (P_move (.pointer (some ⟨b, 0, none⟩)) rfl) ?_
  refine M_pu 5 rfl (by kernel_rfl) bf (P_fa fa25_1 ⟨aa, 0, none⟩ ⟨aa, 1, none⟩ rfl rfl) ?_
  have ff := ad.stm ah
  have fg := aq.stn bi
  have b6 := (((b4.st ck).st ff).st fg)
  refine M_pu 6 rfl (by kernel_rfl) bf (P_ldr ag23 cR ⟨aa, 1, none⟩ (.slice A7 n8 c9) rfl (b6.cell rfl) (nm_cons (fr_nem ar b6.2) (nm_cons (ar.fne 0 b6.2 rfl) nm_nil))) ?_
  refine M_pu 7 rfl (by kernel_rfl) bf (P_move (vi r2) rfl) ?_
  obtain ⟨fh, H⟩ := H
  refine M_cuts 8 rfl (by kernel_rfl) bf Try.underlying23 se23 A7 n8 c9 s.Pts rfl (ag.st ar.st) r2 (s.Pts.length : Int) rfl (bd_none (ag.st ar.st).len) fh fun fi fj fk fl => ?_
  refine M_any1 2 (by kernel_rfl) rfl ?_
  have fm := (b5.k0 bi)
  refine L_call go106 [.pointer (some ⟨b, 0, none⟩)] rfl ((F105.calls fe ar.ok b r_b A2 n3 c4 m2 (hp5.st ar.st) fm (List.mem_append_right _ hm) _ H).mono ?_)
  rintro _ i8 ⟨r4, m3, rfl, H, bj, dh⟩
  have di := ar.wm bj
  have dj := Gm.tq bf bj (hv_mem 0 rfl)
  refine L_nil ⟨dj, ?_⟩
  refine M_any1 3 (by kernel_rfl) rfl ?_
  refine L_lit (kd := kPt) ei23 di ([r4] : List Pt) (cells := [vi r4.X, vi r4.Y]) ⟨[vi r4.X, vi r4.Y], _, rfl, (kPt.mk _ _ r4), rfl⟩ (fun _ => by kernel_rfl) fun i9 bs fn fo bg hr109 bt fp => ?_
  have cn := Gm.tm dj bg
  refine L_nil ⟨cn, ?_⟩
  refine M_any1 4 (by kernel_rfl) rfl ?_
  obtain ⟨fq, H⟩ := H
  have fr := ((ar.swm ((ad.swm cl 0 rfl ah).sn bi) 0 rfl bj).so _ bg hr109)
  refine L_app ei23 bt (.slice ap bc bd) (([] : List Pt) ++ ((s.Pts.drop (0 : Int).toNat).take (r2.toNat - (0 : Int).toNat))) ([r4] : List Pt) rfl fr (.slice bs fn fo) rfl fp.sx 1 rfl fq fun ja dk fs ft bu co bl fu => ?_
  have cp := Gm.tq cn bu (hv_mem 1 rfl)
  have dl := hv_app (L := [bk bs, bk ap, some ab]) (O := O) (i := 1) cn rfl (hv_mem 1 rfl) co bl
  refine L_nil ⟨cp, ?_⟩
  refine M_any1 9 (by kernel_rfl) rfl ?_
  have dm := ar.stm bj
  have dn := di.stown _ bg hr109
  have fv := (((fl.st dm).st dn).st co)
  obtain ⟨fw, H⟩ := H
  refine L_app ei23 bl (.slice dk fs ft) ((([] : List Pt) ++ ((s.Pts.drop (0 : Int).toNat).take (r2.toNat - (0 : Int).toNat))) ++ ([r4] : List Pt)) ((s.Pts.drop r2.toNat).take ((s.Pts.length : Int).toNat - r2.toNat)) rfl fu (.slice fi fj fk) rfl fv.sx 1 rfl fw fun jb ae ai aj bv dp cq dq => ?_
  have dr := Gm.tq cp bv dl
  have jc := hv_app (L := [bk bs, bk dk, some ab]) (O := O) (i := 1) cp rfl dl dp cq
  refine L_nil ⟨dr, ?_⟩
  refine M_pu 10 rfl (by kernel_rfl) dr (P_assign (.slice ae ai aj) rfl) ?_
  refine M_nil (by kernel_rfl) ?_
  refine W_seq (W_reg (L_pu (P_fa fa25_0 ⟨aa, 0, none⟩ ⟨aa, 0, none⟩ rfl rfl) ?_))
  have ds := ((((b6.st dm).st dn).st co).st dp)
  refine L_pu (P_ld ag3 cL ⟨aa, 0, none⟩ (vi s.Kind) rfl (ds.cell rfl)) (L_mv (.slice ae ai aj) rfl (L_pu (P_build (.agg #[vi s.Kind, .slice ae ai aj]) (fun _ => by kernel_rfl)) (L_alloc [.int .i64 0, .slice none 0 0] ze25 fun jd bn b7 hu147 ay fx => ?_)))
  have az := cq.own ay (some bn) (oglt b7 hu147)
  refine L_stb bn 0 [vi 0, .slice none 0 0] [vi s.Kind, .slice ae ai aj] [vi s.Kind, .slice ae ai aj] rfl fx rfl sz25 rfl rfl rfl fun fy a0 dt => ?_
  have b8 := az.wr 0 rfl a0
  refine L_nil (W_seq (W_seq (W_reg (L_pu (P_lda ag25 sz25 cL ⟨bn, 0, none⟩ [vi s.Kind, .slice ae ai aj] rfl rfl (dt.cells (off := 0) rfl)) ?_))))
  have fz := (az.sw (dq.so _ ay (oge b7)) 2 0 rfl rfl rfl a0)
  have f0 := b8.gv fz 2 rfl
  have f1 := b8.drop 2 rfl
  refine L_call go42 [.agg #[vi s.Kind, .slice ae ai aj]] rfl ((F45.calls fy f1.ok (⟨s.Kind, (((([] : List Pt) ++ ((s.Pts.drop (0 : Int).toNat).take (r2.toNat - (0 : Int).toNat))) ++ ([r4] : List Pt)) ++ ((s.Pts.drop r2.toNat).take ((s.Pts.length : Int).toNat - r2.toNat)))⟩ : Shape) ae ai aj f0 _ H).mono ?_)
  rintro _ je ⟨r5, rfl, H, a1⟩
  have b9 := b8.k0 a1
  refine L_pu (P_not r5 rfl) (L_nil ?_)
  refine W_cond (!r5) rfl (fun cr => ?_) (fun cr => ?_)
  ·have H := ite_t H cr
   refine W_seq ?_
   have du : ([some bn, bk bs, bk ae, some ab] : Ob).Perm ((some bn :: bk bs :: bk ae :: []) ++ [some ab]) := (pc fun a => by (try simp only [pca, pcc, pcn, Nat.add_zero, Nat.zero_add]); first | done | ac_rfl)
   have dv := b9.drops du
   refine W_reg ?_
   have f2 := cq.stown _ ay (oge b7)
   have f3 := az.stw 0 rfl a0
   have f4 := b8.stn a1
   have f5 := ((((ds.st f2).st f3).st f4).st (St.drops _ O du))
   refine L_pu (P_lda ag25 sz25 cL ⟨aa, 0, none⟩ [vi s.Kind, .slice A7 n8 c9] rfl rfl (f5.cells (off := 0) rfl)) ?_
   have f6 := ((az.bm ((bl.bm (bt.bm ((ar.bwm ((ad.bwm (av.bm ((ac.bwm bb 0 rfl aw).k0 ax) 1 0 rfl rfl rfl be) 1 rfl ah).k0 bi) 1 rfl bj).k0 bg) 2 1 rfl rfl rfl bu) 2 1 rfl rfl rfl bv).k0 ay) 3 0 rfl rfl rfl a0).k0 a1)
   refine L_stb ab 0 [vi 0, .slice none 0 0] [vi s.Kind, .slice A7 n8 c9] [vi s.Kind, .slice A7 n8 c9] rfl f6 rfl sz25 rfl rfl rfl fun jf dw f7 => ?_
   have dx := dv.wr 0 rfl dw
   refine L_nil (W_ret ?_)
   have f8 := dx.bgv f7 0 rfl
   have dy := dx.drop 0 rfl
   have f9 := (dv.bmo ((az.bmo ((bl.bmo (bt.bmo (dh.k0 bg) 1 rfl bu) 1 rfl bv).k0 ay) 0 rfl a0).k0 a1) 0 rfl dw)
   exact ⟨[.agg #[vi s.Kind, .slice A7 n8 c9]], ⟨_, _, rfl, f8.1.res rfl ag25 sz25, rfl⟩, s, m3, A7, n8, c9, rfl, H, dy.gr.g1, f9, (ag.st dy.st)⟩
  have H := ite_f H cr
  refine W_skip (W_seq (W_reg ?_))
  have ga := (dt.k0 a1)
  refine L_pu (P_lda ag25 sz25 cL ⟨bn, 0, none⟩ [vi s.Kind, .slice ae ai aj] rfl rfl (ga.cells (off := 0) rfl)) ?_
  have gb := ((az.bm ((bl.bm (bt.bm ((ar.bwm ((ad.bwm (av.bm ((ac.bwm bb 0 rfl aw).k0 ax) 1 0 rfl rfl rfl be) 1 rfl ah).k0 bi) 1 rfl bj).k0 bg) 2 1 rfl rfl rfl bu) 2 1 rfl rfl rfl bv).k0 ay) 3 0 rfl rfl rfl a0).k0 a1)
  refine L_stb ab 0 [vi 0, .slice none 0 0] [vi s.Kind, .slice ae ai aj] [vi s.Kind, .slice ae ai aj] rfl gb rfl sz25 rfl rfl rfl fun jg cs gc => ?_
  have ct := b9.wr 3 rfl cs
  refine L_nil (W_ret ?_)
  have gd := ct.bgv gc 3 rfl
  have cu := ct.drop 3 rfl
  have ge := (ct.sd (b9.sw ((az.sw (dq.so _ ay (oge b7)) 2 0 rfl rfl rfl a0).sn a1) 2 3 rfl rfl rfl cs) 2 3 rfl rfl rfl)
  have gf := cu.gv ge 2 rfl
  have gg := cu.drop 2 rfl
  have gh := gg.clear
  have gi := cu.std 2 rfl
  have gj := ((gd.st gi).st St.clear)
  have gk := (b9.bmo ((az.bmo ((bl.bmo (bt.bmo (dh.k0 bg) 1 rfl bu) 1 rfl bv).k0 ay) 0 rfl a0).k0 a1) 3 rfl cs)
  exact ⟨[.agg #[vi s.Kind, .slice ae ai aj]], ⟨_, _, rfl, gj.1.res rfl ag25 sz25, rfl⟩, (⟨s.Kind, (((([] : List Pt) ++ ((s.Pts.drop (0 : Int).toNat).take (r2.toNat - (0 : Int).toNat))) ++ ([r4] : List Pt)) ++ ((s.Pts.drop r2.toNat).take ((s.Pts.length : Int).toNat - r2.toNat)))⟩ : Shape), m3, ae, ai, aj, rfl, H, gh.gr.g1, gk, (gf.st St.clear)⟩
 have H := ite_f H cm
 refine W_seq (W_reg (L_pu (P_cmp r3 1 (r3 == 1) rfl rfl rfl) (L_as (vb (r3 == 1)) rfl (L_nil ?_))))
 refine W_cond (r3 == 1) rfl (fun cv => ?_) (fun cv => ?_)
 ·have H := ite_t H cv
  refine W_reg (L_mv (.slice ap bc bd) rfl (L_pu (P_fa fa25_1 ⟨aa, 0, none⟩ ⟨aa, 1, none⟩ rfl rfl) ?_))
  have gl := ad.stm ah
  have dz := ((b4.st ck).st gl)
  refine L_pu (P_ld ag23 cL ⟨aa, 1, none⟩ (.slice A7 n8 c9) rfl (dz.cell rfl)) (L_mv (vi r2) rfl ?_)
  obtain ⟨gm, H⟩ := H
  have gn := gm (len_le dc)
  refine L_pu (P_add r2 1 rfl rfl gn) ?_
  obtain ⟨gp, H⟩ := H
  refine L_cuts Try.underlying23 se23 A7 n8 c9 s.Pts rfl (ag.st aq.st) (r2 + 1) (s.Pts.length : Int) rfl (bd_none (ag.st aq.st).len) gp fun gq gs gt gu => ?_
  obtain ⟨gw, H⟩ := H
  have gx := (ad.swm cl 0 rfl ah)
  refine L_app ei23 aq (.slice ap bc bd) (([] : List Pt) ++ ((s.Pts.drop (0 : Int).toNat).take (r2.toNat - (0 : Int).toNat))) ((s.Pts.drop (r2 + 1).toNat).take ((s.Pts.length : Int).toNat - (r2 + 1).toNat)) rfl gx (.slice gq gs gt) rfl gu.sx 0 rfl gw fun jh ak al am ca gy d0 d1 => ?_
  refine L_as (.slice ak al am) rfl (L_nil (W_seq (W_reg (L_pu (P_fa fa25_0 ⟨aa, 0, none⟩ ⟨aa, 0, none⟩ rfl rfl) ?_))))
  have d2 := (dz.st gy)
  refine L_pu (P_ld ag3 cL ⟨aa, 0, none⟩ (vi s.Kind) rfl (d2.cell rfl)) (L_mv (.slice ak al am) rfl (L_pu (P_build (.agg #[vi s.Kind, .slice ak al am]) (fun _ => by kernel_rfl)) (L_alloc [.int .i64 0, .slice none 0 0] ze25 fun ji cb cc hu223 a2 gz => ?_)))
  have a3 := d0.own a2 (some cb) (oglt cc hu223)
  refine L_stb cb 0 [vi 0, .slice none 0 0] [vi s.Kind, .slice ak al am] [vi s.Kind, .slice ak al am] rfl gz rfl sz25 rfl rfl rfl fun g0 a4 d3 => ?_
  have cd := a3.wr 0 rfl a4
  refine L_nil (W_seq (W_seq (W_reg (L_pu (P_lda ag25 sz25 cL ⟨cb, 0, none⟩ [vi s.Kind, .slice ak al am] rfl rfl (d3.cells (off := 0) rfl)) ?_))))
  have g2 := (a3.sw (d1.so _ a2 (oge cc)) 1 0 rfl rfl rfl a4)
  have g3 := cd.gv g2 1 rfl
  have g4 := cd.drop 1 rfl
  refine L_call go42 [.agg #[vi s.Kind, .slice ak al am]] rfl ((F45.calls g0 g4.ok (⟨s.Kind, ((([] : List Pt) ++ ((s.Pts.drop (0 : Int).toNat).take (r2.toNat - (0 : Int).toNat))) ++ ((s.Pts.drop (r2 + 1).toNat).take ((s.Pts.length : Int).toNat - (r2 + 1).toNat)))⟩ : Shape) ak al am g3 _ H).mono ?_)
  rintro _ jj ⟨r6, rfl, H, a5⟩
  have bw := cd.k0 a5
  refine L_pu (P_not r6 rfl) (L_nil ?_)
  refine W_cond (!r6) rfl (fun cw => ?_) (fun cw => ?_)
  ·have H := ite_t H cw
   refine W_seq (W_reg ?_)
   have g5 := d0.stown _ a2 (oge cc)
   have g6 := a3.stw 0 rfl a4
   have g7 := cd.stn a5
   have g8 := (((d2.st g5).st g6).st g7)
   refine L_pu (P_lda ag25 sz25 cL ⟨aa, 0, none⟩ [vi s.Kind, .slice A7 n8 c9] rfl rfl (g8.cells (off := 0) rfl)) ?_
   have g9 := ((a3.bm ((aq.bm (ad.bwm (av.bm ((ac.bwm bb 0 rfl aw).k0 ax) 1 0 rfl rfl rfl be) 1 rfl ah) 1 0 rfl rfl rfl ca).k0 a2) 2 0 rfl rfl rfl a4).k0 a5)
   refine L_stb ab 0 [vi 0, .slice none 0 0] [vi s.Kind, .slice A7 n8 c9] [vi s.Kind, .slice A7 n8 c9] rfl g9 rfl sz25 rfl rfl rfl fun jk d4 ha => ?_
   have d5 := bw.wr 2 rfl d4
   refine L_nil (W_ret ?_)
   have hb := d5.bgv ha 2 rfl
   have hc := d5.drop 2 rfl
   have d6 := hc.clear
   have hd := (hb.st St.clear)
   have he := (bw.bmo ((a3.bmo ((aq.bmo b5 0 rfl ca).k0 a2) 0 rfl a4).k0 a5) 2 rfl d4)
   exact ⟨[.agg #[vi s.Kind, .slice A7 n8 c9]], ⟨_, _, rfl, hd.1.res rfl ag25 sz25, rfl⟩, s, m2, A7, n8, c9, rfl, H, d6.gr.g1, he, (ag.st d6.st)⟩
  have H := ite_f H cw
  refine W_skip (W_seq (W_reg ?_))
  have hf := (d3.k0 a5)
  refine L_pu (P_lda ag25 sz25 cL ⟨cb, 0, none⟩ [vi s.Kind, .slice ak al am] rfl rfl (hf.cells (off := 0) rfl)) ?_
  have hg := ((a3.bm ((aq.bm (ad.bwm (av.bm ((ac.bwm bb 0 rfl aw).k0 ax) 1 0 rfl rfl rfl be) 1 rfl ah) 1 0 rfl rfl rfl ca).k0 a2) 2 0 rfl rfl rfl a4).k0 a5)
  refine L_stb ab 0 [vi 0, .slice none 0 0] [vi s.Kind, .slice ak al am] [vi s.Kind, .slice ak al am] rfl hg rfl sz25 rfl rfl rfl fun hh cx hi => ?_
  have cy := bw.wr 2 rfl cx
  refine L_nil (W_ret ?_)
  have hj := cy.bgv hi 2 rfl
  have cz := cy.drop 2 rfl
  have hk := (cy.sd (bw.sw ((a3.sw (d1.so _ a2 (oge cc)) 1 0 rfl rfl rfl a4).sn a5) 1 2 rfl rfl rfl cx) 1 2 rfl rfl rfl)
  have hl := cz.gv hk 1 rfl
  have d7 := cz.drop 1 rfl
  have hn : Ct [some b] w0 hh [] O := d7.drop 0 rfl
  have ho := cz.std 1 rfl
  have d8 := d7.std 0 rfl
  have hp := ((hj.st ho).st d8)
  have hq := (bw.bmo ((a3.bmo ((aq.bmo b5 0 rfl ca).k0 a2) 0 rfl a4).k0 a5) 2 rfl cx)
  exact ⟨[.agg #[vi s.Kind, .slice ak al am]], ⟨_, _, rfl, hp.1.res rfl ag25 sz25, rfl⟩, (⟨s.Kind, ((([] : List Pt) ++ ((s.Pts.drop (0 : Int).toNat).take (r2.toNat - (0 : Int).toNat))) ++ ((s.Pts.drop (r2 + 1).toNat).take ((s.Pts.length : Int).toNat - (r2 + 1).toNat)))⟩ : Shape), m2, ak, al, am, rfl, H, hn.gr.g1, hq, (hl.st d8)⟩
 have H := ite_f H cv
 refine W_mixr 12 [some b, bk ap] (by kernel_rfl) rfl fun hr bo a6 => ?_
 have au := aq.k0 bo
 refine M_pu 0 rfl (by kernel_rfl) a6 (P_move (.slice ap bc bd) rfl) ?_
 refine M_pu 1 rfl (by kernel_rfl) a6 (P_move (.pointer (some ⟨b, 0, none⟩)) rfl) ?_
 refine M_pu 5 rfl (by kernel_rfl) a6 (P_fa fa25_1 ⟨aa, 0, none⟩ ⟨aa, 1, none⟩ rfl rfl) ?_
 have hs := ad.stm ah
 have ht := aq.stn bo
 have ce := (((b4.st ck).st hs).st ht)
 refine M_pu 6 rfl (by kernel_rfl) a6 (P_ldr ag23 cR ⟨aa, 1, none⟩ (.slice A7 n8 c9) rfl (ce.cell rfl) (nm_cons (fr_nem au ce.2) (nm_cons (au.fne 0 ce.2 rfl) nm_nil))) ?_
 refine M_pu 7 rfl (by kernel_rfl) a6 (P_move (vi r2) rfl) ?_
 obtain ⟨hu, H⟩ := H
 have hv := hu (len_le dc)
 refine M_pu 8 rfl (by kernel_rfl) a6 (P_add r2 1 rfl rfl hv) ?_
 obtain ⟨hw, H⟩ := H
 refine M_cuts 9 rfl (by kernel_rfl) a6 Try.underlying23 se23 A7 n8 c9 s.Pts rfl (ag.st au.st) (r2 + 1) (s.Pts.length : Int) rfl (bd_none (ag.st au.st).len) hw fun hx hy hz h0 => ?_
 refine M_any1 2 (by kernel_rfl) rfl ?_
 have h1 := (b5.k0 bo)
 refine L_call go106 [.pointer (some ⟨b, 0, none⟩)] rfl ((F105.calls hr au.ok b r_b A2 n3 c4 m2 (hp5.st au.st) h1 (List.mem_append_right _ hm) _ H).mono ?_)
 rintro _ jl ⟨r7, m4, rfl, H, bp, d9⟩
 have ea := au.wm bp
 have eb := Gm.tq a6 bp (hv_mem 0 rfl)
 refine L_nil ⟨eb, ?_⟩
 refine M_any1 3 (by kernel_rfl) rfl ?_
 refine L_lit (kd := kPt) ei23 ea ([r7] : List Pt) (cells := [vi r7.X, vi r7.Y]) ⟨[vi r7.X, vi r7.Y], _, rfl, (kPt.mk _ _ r7), rfl⟩ (fun _ => by kernel_rfl) fun jm bx h2 h3 bh hr301 bz h4 => ?_
 have c0 := Gm.tm eb bh
 refine L_nil ⟨c0, ?_⟩
 refine M_any1 4 (by kernel_rfl) rfl ?_
 obtain ⟨h5, H⟩ := H
 have h6 := ((au.swm ((ad.swm cl 0 rfl ah).sn bo) 0 rfl bp).so _ bh hr301)
 refine L_app ei23 bz (.slice ap bc bd) (([] : List Pt) ++ ((s.Pts.drop (0 : Int).toNat).take (r2.toNat - (0 : Int).toNat))) ([r7] : List Pt) rfl h6 (.slice bx h2 h3) rfl h4.sx 1 rfl h5 fun jn ec h7 h8 b0 c1 bq h9 => ?_
 have c2 := Gm.tq c0 b0 (hv_mem 1 rfl)
 have ed := hv_app (L := [bk bx, bk ap, some ab]) (O := O) (i := 1) c0 rfl (hv_mem 1 rfl) c1 bq
 refine L_nil ⟨c2, ?_⟩
 refine M_any1 10 (by kernel_rfl) rfl ?_
 have ee := au.stm bp
 have ef := ea.stown _ bh hr301
 have ia := (((h0.st ee).st ef).st c1)
 obtain ⟨ib, H⟩ := H
 refine L_app ei23 bq (.slice ec h7 h8) ((([] : List Pt) ++ ((s.Pts.drop (0 : Int).toNat).take (r2.toNat - (0 : Int).toNat))) ++ ([r7] : List Pt)) ((s.Pts.drop (r2 + 1).toNat).take ((s.Pts.length : Int).toNat - (r2 + 1).toNat)) rfl h9 (.slice hx hy hz) rfl ia.sx 1 rfl ib fun jo af an ao b1 eg c3 eh => ?_
 have ei := Gm.tq c2 b1 ed
 have jp := hv_app (L := [bk bx, bk ec, some ab]) (O := O) (i := 1) c2 rfl ed eg c3
 refine L_nil ⟨ei, ?_⟩
 refine M_pu 11 rfl (by kernel_rfl) ei (P_assign (.slice af an ao) rfl) ?_
 refine M_nil (by kernel_rfl) ?_
 refine W_seq (W_reg (L_pu (P_fa fa25_0 ⟨aa, 0, none⟩ ⟨aa, 0, none⟩ rfl rfl) ?_))
 have ej := ((((ce.st ee).st ef).st c1).st eg)
 refine L_pu (P_ld ag3 cL ⟨aa, 0, none⟩ (vi s.Kind) rfl (ej.cell rfl)) (L_mv (.slice af an ao) rfl (L_pu (P_build (.agg #[vi s.Kind, .slice af an ao]) (fun _ => by kernel_rfl)) (L_alloc [.int .i64 0, .slice none 0 0] ze25 fun jq br cf hu339 a7 ic => ?_)))
 have a8 := c3.own a7 (some br) (oglt cf hu339)
 refine L_stb br 0 [vi 0, .slice none 0 0] [vi s.Kind, .slice af an ao] [vi s.Kind, .slice af an ao] rfl ic rfl sz25 rfl rfl rfl fun id a9 ek => ?_
 have cg := a8.wr 0 rfl a9
 refine L_nil (W_seq (W_seq (W_reg (L_pu (P_lda ag25 sz25 cL ⟨br, 0, none⟩ [vi s.Kind, .slice af an ao] rfl rfl (ek.cells (off := 0) rfl)) ?_))))
 have ie := (a8.sw (eh.so _ a7 (oge cf)) 2 0 rfl rfl rfl a9)
 have ig := cg.gv ie 2 rfl
 have ih := cg.drop 2 rfl
 refine L_call go42 [.agg #[vi s.Kind, .slice af an ao]] rfl ((F45.calls id ih.ok (⟨s.Kind, (((([] : List Pt) ++ ((s.Pts.drop (0 : Int).toNat).take (r2.toNat - (0 : Int).toNat))) ++ ([r7] : List Pt)) ++ ((s.Pts.drop (r2 + 1).toNat).take ((s.Pts.length : Int).toNat - (r2 + 1).toNat)))⟩ : Shape) af an ao ig _ H).mono ?_)
 rintro _ jr ⟨r8, rfl, H, ba⟩
 have ch := cg.k0 ba
 refine L_pu (P_not r8 rfl) (L_nil ?_)
 refine W_cond (!r8) rfl (fun c5 => ?_) (fun c5 => ?_)
 ·have H := ite_t H c5
  refine W_seq ?_
  have el : ([some br, bk bx, bk af, some ab] : Ob).Perm ((some br :: bk bx :: bk af :: []) ++ [some ab]) := (pc fun a => by (try simp only [pca, pcc, pcn, Nat.add_zero, Nat.zero_add]); first | done | ac_rfl)
  have em := ch.drops el
  refine W_reg ?_
  have ii := c3.stown _ a7 (oge cf)
  have ij := a8.stw 0 rfl a9
  have ik := cg.stn ba
  have il := ((((ej.st ii).st ij).st ik).st (St.drops _ O el))
  refine L_pu (P_lda ag25 sz25 cL ⟨aa, 0, none⟩ [vi s.Kind, .slice A7 n8 c9] rfl rfl (il.cells (off := 0) rfl)) ?_
  have im := ((a8.bm ((bq.bm (bz.bm ((au.bwm ((ad.bwm (av.bm ((ac.bwm bb 0 rfl aw).k0 ax) 1 0 rfl rfl rfl be) 1 rfl ah).k0 bo) 1 rfl bp).k0 bh) 2 1 rfl rfl rfl b0) 2 1 rfl rfl rfl b1).k0 a7) 3 0 rfl rfl rfl a9).k0 ba)
  refine L_stb ab 0 [vi 0, .slice none 0 0] [vi s.Kind, .slice A7 n8 c9] [vi s.Kind, .slice A7 n8 c9] rfl im rfl sz25 rfl rfl rfl fun js en io => ?_
  have eo := em.wr 0 rfl en
  refine L_nil (W_ret ?_)
  have ip := eo.bgv io 0 rfl
  have ep := eo.drop 0 rfl
  have iq := (em.bmo ((a8.bmo ((bq.bmo (bz.bmo (d9.k0 bh) 1 rfl b0) 1 rfl b1).k0 a7) 0 rfl a9).k0 ba) 0 rfl en)
  exact ⟨[.agg #[vi s.Kind, .slice A7 n8 c9]], ⟨_, _, rfl, ip.1.res rfl ag25 sz25, rfl⟩, s, m4, A7, n8, c9, rfl, H, ep.gr.g1, iq, (ag.st ep.st)⟩
 have H := ite_f H c5
 refine W_skip (W_seq (W_reg ?_))
 have ir := (ek.k0 ba)
 refine L_pu (P_lda ag25 sz25 cL ⟨br, 0, none⟩ [vi s.Kind, .slice af an ao] rfl rfl (ir.cells (off := 0) rfl)) ?_
 have it := ((a8.bm ((bq.bm (bz.bm ((au.bwm ((ad.bwm (av.bm ((ac.bwm bb 0 rfl aw).k0 ax) 1 0 rfl rfl rfl be) 1 rfl ah).k0 bo) 1 rfl bp).k0 bh) 2 1 rfl rfl rfl b0) 2 1 rfl rfl rfl b1).k0 a7) 3 0 rfl rfl rfl a9).k0 ba)
 refine L_stb ab 0 [vi 0, .slice none 0 0] [vi s.Kind, .slice af an ao] [vi s.Kind, .slice af an ao] rfl it rfl sz25 rfl rfl rfl fun jt c6 iu => ?_
 have c7 := ch.wr 3 rfl c6
 refine L_nil (W_ret ?_)
 have iv := c7.bgv iu 3 rfl
 have c8 := c7.drop 3 rfl
 have iw := (c7.sd (ch.sw ((a8.sw (eh.so _ a7 (oge cf)) 2 0 rfl rfl rfl a9).sn ba) 2 3 rfl rfl rfl c6) 2 3 rfl rfl rfl)
 have ix := c8.gv iw 2 rfl
 have iy := c8.drop 2 rfl
 have iz := iy.clear
 have i0 := c8.std 2 rfl
 have i1 := ((iv.st i0).st St.clear)
 have i2 := (ch.bmo ((a8.bmo ((bq.bmo (bz.bmo (d9.k0 bh) 1 rfl b0) 1 rfl b1).k0 a7) 0 rfl a9).k0 ba) 3 rfl c6)
 exact ⟨[.agg #[vi s.Kind, .slice af an ao]], ⟨_, _, rfl, i1.1.res rfl ag25 sz25, rfl⟩, (⟨s.Kind, (((([] : List Pt) ++ ((s.Pts.drop (0 : Int).toNat).take (r2.toNat - (0 : Int).toNat))) ++ ([r7] : List Pt)) ++ ((s.Pts.drop (r2 + 1).toNat).take ((s.Pts.length : Int).toNat - (r2 + 1).toNat)))⟩ : Shape), m4, af, an, ao, rfl, H, iz.gr.g1, i2, (ix.st St.clear)⟩
end
section
open Go.RowKit
def F62.E (s : Str) (Q : Bool → Prop) : Prop :=
 (∃ (I8 : Int → Prop) (mu9 : Int → Nat), I8 0 ∧ ∀ (i2 : Int), I8 i2 → (if decide (i2 < (s.length : Int)) then ((0 : Int) ≤ i2 ∧ i2 < (s.length : Int)) ∧ (if decide (((nth s i2).toNat : Int) < 97) then Q false else ((0 : Int) ≤ i2 ∧ i2 < (s.length : Int)) ∧ (if decide (((nth s i2).toNat : Int) > 122) then Q false else (-9223372036854775808 ≤ i2) ∧ I8 (i2 + 1) ∧ mu9 (i2 + 1) < mu9 i2)) else (if decide ((s.length : Int) ≥ 1) then Q (decide ((s.length : Int) ≤ 6)) else Q false)))
theorem F62.calls {O : Ob} (w0 : World) (hO : Ok w0 O) (s : Str) (hs1 : Lim s) (Q : Bool → Prop) (h : F62.E s Q) :
  Ret Try.prog 41 [vs s] w0 (fun v w' => ∃ (r0 : Bool), v = vb r0 ∧ Q r0 ∧ Gr w0 w' none) := by
 unfold F62.E at h
 have H := h
 clear h
 have hc0 := Ct.init hO
 refine Ret_enter Try.func41 rfl 28 rfl [.tmp 2] rfl rfl ?_
 refine W_seq (W_reg (L_as (vb false) rfl (L_nil (W_seq (W_seq (W_reg (L_as (vi 0) rfl (L_nil ?_))))))))
 refine W_block ?_
 obtain ⟨I8, mu9, ad, H⟩ := H
 refine W_loop (α := Int) (fun (sv__ : Int) t w6 => match sv__ with | i2 => I8 i2 ∧ Has t [(0, vs s), (3, vi i2)] ∧ Ct [] w0 w6 [] O) (fun (sv__ : Int) => match sv__ with | i2 => mu9 i2) 0 ⟨ad, (hasI rfl), hc0⟩ ?_
 rintro i2 _ w6 ⟨ad, af, hc7⟩
 obtain ⟨an, rfl⟩ := Has.ins af
 have H := H i2 ad
 refine W_seq (W_seq (W_reg (L_mv (vi i2) rfl (L_mv (vs s) rfl ?_))))
 have ag := hs1
 refine L_pu (P_lens Try.underlying9 s rfl) (L_pu (P_cmp i2 (s.length : Int) (decide (i2 < (s.length : Int))) rfl rfl rfl) (L_nil ?_))
 refine W_cond (decide (i2 < (s.length : Int))) rfl (fun ac => ?_) (fun ac => ?_)
 ·have H := ite_t H ac
  refine W_skip (W_seq (W_block (W_seq (W_reg (L_mv (vs s) rfl (L_mv (vi i2) rfl ?_))))))
  obtain ⟨ah, H⟩ := H
  refine L_pu (P_index Try.underlying9 s i2 rfl rfl ah) (L_pu (P_cmp ((nth s i2).toNat : Int) 97 (decide (((nth s i2).toNat : Int) < 97)) rfl rfl rfl) (L_mv (vb (decide (((nth s i2).toNat : Int) < 97))) rfl ?_))
  rcases bool_or (decide (((nth s i2).toNat : Int) < 97)) with aa | aa
  ·have H := ite_t H aa
   refine L_pb aa rfl (L_pb aa rfl (L_pb aa rfl (L_pb aa rfl (L_pu (P_pick true (vb true) (by exact congrArg Value.bool aa) rfl) (L_nil (W_ct (b := true) rfl rfl ?_))))))
   exact W_seq (W_reg (L_as (vb false) rfl (L_nil (W_ret ⟨[vb false], ⟨_, rfl, rfl⟩, false, rfl, H, hc7.gr.g0⟩))))
  have H := ite_f H aa
  refine L_rb aa rfl (L_mv (vs s) rfl (L_rb aa rfl (L_mv (vi i2) rfl (L_rb aa rfl ?_))))
  obtain ⟨ai, H⟩ := H
  refine L_pu (P_index Try.underlying9 s i2 rfl rfl ai) (L_rb aa rfl (L_pu (P_cmp ((nth s i2).toNat : Int) 122 (decide (((nth s i2).toNat : Int) > 122)) rfl rfl rfl) (L_pu (P_pick false (vb (decide (((nth s i2).toNat : Int) > 122))) (by exact congrArg Value.bool aa) rfl) (L_nil ?_))))
  refine W_cond (decide (((nth s i2).toNat : Int) > 122)) rfl (fun ae => ?_) (fun ae => ?_)
  ·have H := ite_t H ae
   exact W_seq (W_reg (L_as (vb false) rfl (L_nil (W_ret ⟨[vb false], ⟨_, rfl, rfl⟩, false, rfl, H, hc7.gr.g0⟩))))
  have H := ite_f H ae
  refine W_skip (W_reg (L_mv (vi i2) rfl ?_))
  obtain ⟨aj, H⟩ := H
  have ak : I64 (i2 + 1) := i64_succ (of_decide_eq_true ac) ag aj
  refine L_pu (P_add i2 1 rfl rfl ak) (L_as (vi (i2 + 1)) rfl (L_nil ?_))
  obtain ⟨al, am⟩ := H
  exact ⟨i2 + 1, am, al, (hasI rfl), hc7⟩
 have H := ite_f H ac
 refine W_exit (xin_hit ?_)
 refine W_seq (W_reg (L_mv (vs s) rfl (L_pu (P_lens Try.underlying9 s rfl) (L_pu (P_cmp (s.length : Int) 1 (decide ((s.length : Int) ≥ 1)) rfl rfl rfl) (L_mv (vb (decide ((s.length : Int) ≥ 1))) rfl ?_)))))
 rcases bool_or (decide ((s.length : Int) ≥ 1)) with ab | ab
 ·have H := ite_t H ab
  refine L_rb ab rfl (L_mv (vs s) rfl (L_rb ab rfl (L_pu (P_lens Try.underlying9 s rfl) (L_rb ab rfl (L_pu (P_cmp (s.length : Int) 6 (decide ((s.length : Int) ≤ 6)) rfl rfl rfl) (L_pu (P_pick true (vb (decide ((s.length : Int) ≤ 6))) (by exact congrArg Value.bool ab) rfl) (L_as (vb (decide ((s.length : Int) ≤ 6))) rfl (L_nil ?_))))))))
  exact W_ret ⟨[vb (decide ((s.length : Int) ≤ 6))], ⟨_, rfl, rfl⟩, decide ((s.length : Int) ≤ 6), rfl, H, hc7.gr.g0⟩
 have H := ite_f H ab
 exact L_pb ab rfl (L_pb ab rfl (L_pb ab rfl (L_pu (P_pick false (vb false) (by exact congrArg Value.bool ab) rfl) (L_as (vb false) rfl (L_nil (W_ret ⟨[vb false], ⟨_, rfl, rfl⟩, false, rfl, H, hc7.gr.g0⟩))))))
end
section
open Go.RowKit
def F63.E (t_ : List Tag) (Q : Bool → Prop) : Prop :=
 (∃ (I18 : Int → Prop) (mu19 : Int → Nat), I18 0 ∧ ∀ (i2 : Int), I18 i2 → (if decide (i2 < (t_.length : Int)) then ((0 : Int) ≤ i2 ∧ i2 < (t_.length : Int)) ∧ (∃ q : Bool, F62.E ((nth t_ i2).Key) (fun x => x = q) ∧ (if !q then Q false else ((0 : Int) ≤ i2 ∧ i2 < (t_.length : Int)) ∧ (∃ q2 : Bool, F62.E ((nth t_ i2).Val) (fun x => x = q2) ∧ (if !q2 then Q false else (if decide (i2 > 0) then ((0 : Int) ≤ i2 ∧ i2 < (t_.length : Int)) ∧ ((t_.length : Int) ≤ 9223372036854775807 → I64 (i2 - 1)) ∧ ((0 : Int) ≤ i2 - 1 ∧ i2 - 1 < (t_.length : Int)) ∧ (if Op.bytesLess ((nth t_ i2).Key) ((nth t_ (i2 - 1)).Key) || ((nth t_ i2).Key) == ((nth t_ (i2 - 1)).Key) then Q false else (-9223372036854775808 ≤ i2) ∧ I18 (i2 + 1) ∧ mu19 (i2 + 1) < mu19 i2) else (-9223372036854775808 ≤ i2) ∧ I18 (i2 + 1) ∧ mu19 (i2 + 1) < mu19 i2))))) else Q (decide ((t_.length : Int) ≤ 4))))
theorem F63.calls {O : Ob} (w0 : World) (hO : Ok w0 O) (t_ : List Tag) (A1 : Option Addr) (n2 c3 : Nat) (hp4 : Sl kTag w0 (Fr O) (.slice A1 n2 c3) t_) (Q : Bool → Prop) (h : F63.E t_ Q) :
  Ret Try.prog 43 [.slice A1 n2 c3] w0 (fun v w' => ∃ (r0 : Bool), v = vb r0 ∧ Q r0 ∧ Gr w0 w' none) := by
 unfold F63.E at h
 have H := h
 clear h
 have hc0 := Ct.init hO
 refine Ret_enter Try.func43 rfl 47 rfl [.tmp 2] rfl rfl ?_
 refine W_seq (W_reg (L_as (vb false) rfl (L_nil (W_seq (W_seq (W_reg (L_as (vi 0) rfl (L_nil ?_))))))))
 refine W_block ?_
 obtain ⟨ax, ay, al, H⟩ := H
 refine W_loop (α := Int) (fun (sv__ : Int) t ag => match sv__ with | i2 => ax i2 ∧ Has t [(0, .slice A1 n2 c3), (3, vi i2)] ∧ Ct [] w0 ag [] O ∧ Sl kTag ag (Fr ([] ++ O)) (.slice A1 n2 c3) t_) (fun (sv__ : Int) => match sv__ with | i2 => ay i2) 0 ⟨al, (hasI rfl), hc0, hp4⟩ ?_
 rintro i2 _ ag ⟨al, az, ae, ad⟩
 obtain ⟨bz, rfl⟩ := Has.ins az
 have H := H i2 al
 refine W_seq (W_seq (W_reg (L_mv (vi i2) rfl (L_mv (.slice A1 n2 c3) rfl ?_))))
 have am := ad.le
 refine L_pu (P_len Try.underlying26 A1 n2 c3 ad.len rfl) (L_pu (P_cmp i2 (t_.length : Int) (decide (i2 < (t_.length : Int))) rfl rfl rfl) (L_nil ?_))
 refine W_cond (decide (i2 < (t_.length : Int))) rfl (fun af => ?_) (fun af => ?_)
 ·have H := ite_t H af
  refine W_skip (W_seq (W_block (W_seq (W_draw (fun x => Gr ag x none) (by kernel_rfl) (by kernel_rfl) (Gr.drew _) ?_))))
  refine Q_mv (.slice A1 n2 c3) rfl (Q_mv (vi i2) rfl ?_)
  obtain ⟨ao, H⟩ := H
  obtain ⟨ah, b0, a0, b1, a1, a2⟩ := ad.get default (by decide) i2 ao
  obtain ⟨rfl, a3, b2⟩ := kTag.op a1
  refine Q_pu (P_ia Try.underlying26 se26 A1 ah n2 c3 ad.len i2 rfl a0 rfl ao) (Q_pu (P_fa fa39_0 (ah.add (i2.toNat * 2)) ((ah.add (i2.toNat * 2)).add 0) rfl rfl) (Q_pu (P_ld ag9 cQ ((ah.add (i2.toNat * 2)).add 0) (vs ((nth t_ i2).Key)) rfl (a2 0 _ rfl)) ?_))
  obtain ⟨q, a4, H⟩ := H
  refine Q_call go41 [vs ((nth t_ i2).Key)] rfl (vb q) (fun w g => (F62.calls w (ae.k0 g).ok ((nth t_ i2).Key) a3 _ a4).mono ?_) ?_
  ·rintro _ w ⟨r, rfl, rfl, g2⟩
   exact ⟨rfl, Gr.t0 g g2⟩
  refine Q_pu (P_not q rfl) (Q_mv (vb (!q)) rfl ?_)
  rcases bool_or (!q) with ab | ab
  ·have H := ite_t H ab
   refine Q_pb ab rfl (Q_pb ab rfl (Q_pb ab rfl (Q_pb ab rfl (Q_pb ab rfl (Q_pb ab rfl (Q_pb ab rfl (Q_pu (P_pick true (vb true) (by exact congrArg Value.bool ab) rfl) (Q_mv (vb true) rfl ?_))))))))
   refine Q_pass (dj := 26) rfl rfl (.inl rfl) (Q_pass (dj := 26) rfl rfl (.inl rfl) (Q_pass (dj := 26) rfl rfl (.inl rfl) (Q_pn rfl (Q_pn rfl (Q_pn rfl (Q_pn rfl (Q_pn rfl (Q_pn rfl ?_))))))))
   refine Q_pn rfl (Q_pn rfl (Q_pn rfl (Q_pn rfl (Q_pn rfl (Q_pn rfl (Q_pass (dj := 26) rfl rfl (.inl rfl) (Q_pu (P_pick true (vb true) (by exact congrArg Value.bool rfl) rfl) (Q_nil fun b3 a5 => ?_))))))))
   have a6 := ae.k0 a5
   refine W_ct (b := true) rfl rfl ?_
   exact W_seq (W_reg (L_as (vb false) rfl (L_nil (W_ret ⟨[vb false], ⟨_, rfl, rfl⟩, false, rfl, H, a6.gr.g0⟩))))
  have H := ite_f H ab
  refine Q_rb ab rfl (Q_mv (.slice A1 n2 c3) rfl (Q_rb ab rfl (Q_mv (vi i2) rfl (Q_rb ab rfl ?_))))
  obtain ⟨ap, H⟩ := H
  obtain ⟨ai, b4, a7, b5, a8, a9⟩ := ad.get default (by decide) i2 ap
  obtain ⟨rfl, b6, ba⟩ := kTag.op a8
  refine Q_pu (P_ia Try.underlying26 se26 A1 ai n2 c3 ad.len i2 rfl a7 rfl ap) (Q_rb ab rfl (Q_pu (P_fa fa39_1 (ai.add (i2.toNat * 2)) ((ai.add (i2.toNat * 2)).add 1) rfl rfl) (Q_rb ab rfl (Q_pu (P_ld ag9 cQ ((ai.add (i2.toNat * 2)).add 1) (vs ((nth t_ i2).Val)) rfl (a9 1 _ rfl)) (Q_rb ab rfl ?_)))))
  obtain ⟨q2, bb, H⟩ := H
  refine Q_call go41 [vs ((nth t_ i2).Val)] rfl (vb q2) (fun w g => (F62.calls w (ae.k0 g).ok ((nth t_ i2).Val) ba _ bb).mono ?_) ?_
  ·rintro _ w ⟨r, rfl, rfl, g2⟩
   exact ⟨rfl, Gr.t0 g g2⟩
  refine Q_rb ab rfl (Q_pu (P_not q2 rfl) (Q_pu (P_pick false (vb (!q2)) (by exact congrArg Value.bool ab) rfl) (Q_mv (vb (!q2)) rfl ?_)))
  rcases bool_or (!q2) with ac | ac
  ·have H := ite_t H ac
   refine Q_pb ac rfl (Q_pb ac rfl (Q_pb ac rfl (Q_pn rfl (Q_pn rfl (Q_pn rfl (Q_pn rfl (Q_pn rfl (Q_pn rfl ?_))))))))
   refine Q_pn rfl (Q_pn rfl (Q_pn rfl (Q_pn rfl (Q_pn rfl (Q_pn rfl (Q_pb ac rfl (Q_pu (P_pick true (vb true) (by exact congrArg Value.bool ac) rfl) (Q_nil fun b7 bc => ?_))))))))
   have bd := ae.k0 bc
   refine W_ct (b := true) rfl rfl ?_
   exact W_seq (W_reg (L_as (vb false) rfl (L_nil (W_ret ⟨[vb false], ⟨_, rfl, rfl⟩, false, rfl, H, bd.gr.g0⟩))))
  have H := ite_f H ac
  refine Q_rb ac rfl (Q_mv (vi i2) rfl (Q_rb ac rfl (Q_pu (P_cmp i2 0 (decide (i2 > 0)) rfl rfl rfl) (Q_rb ac rfl (Q_mv (vb (decide (i2 > 0))) rfl ?_)))))
  rcases bool_or (decide (i2 > 0)) with aa | aa
  ·have H := ite_t H aa
   refine Q_rb aa rfl (Q_mv (.slice A1 n2 c3) rfl (Q_rb aa rfl (Q_mv (vi i2) rfl (Q_rb aa rfl ?_))))
   obtain ⟨aq, H⟩ := H
   obtain ⟨aj, b8, be, b9, bf, bg⟩ := ad.get default (by decide) i2 aq
   obtain ⟨rfl, ca, cb⟩ := kTag.op bf
   refine Q_pu (P_ia Try.underlying26 se26 A1 aj n2 c3 ad.len i2 rfl be rfl aq) (Q_rb aa rfl (Q_pu (P_fa fa39_0 (aj.add (i2.toNat * 2)) ((aj.add (i2.toNat * 2)).add 0) rfl rfl) (Q_rb aa rfl (Q_pu (P_ld ag9 cQ ((aj.add (i2.toNat * 2)).add 0) (vs ((nth t_ i2).Key)) rfl (bg 0 _ rfl)) (Q_rb aa rfl (Q_mv (.slice A1 n2 c3) rfl (Q_rb aa rfl (Q_mv (vi i2) rfl ?_))))))))
   refine Q_rb aa rfl ?_
   obtain ⟨bh, H⟩ := H
   have bi := bh (len_le am)
   refine Q_pu (P_sub i2 1 rfl rfl bi) (Q_rb aa rfl ?_)
   obtain ⟨ar, H⟩ := H
   obtain ⟨ak, cc, bj, cd, bl, bm⟩ := ad.get default (by decide) (i2 - 1) ar
   obtain ⟨rfl, ce, cf⟩ := kTag.op bl
   refine Q_pu (P_ia Try.underlying26 se26 A1 ak n2 c3 ad.len (i2 - 1) rfl bj rfl ar) (Q_rb aa rfl (Q_pu (P_fa fa39_0 (ak.add ((i2 - 1).toNat * 2)) ((ak.add ((i2 - 1).toNat * 2)).add 0) rfl rfl) (Q_rb aa rfl (Q_pu (P_ld ag9 cQ ((ak.add ((i2 - 1).toNat * 2)).add 0) (vs ((nth t_ (i2 - 1)).Key)) rfl (bm 0 _ rfl)) (Q_rb aa rfl (Q_pu (P_scmp ((nth t_ i2).Key) ((nth t_ (i2 - 1)).Key) (Op.bytesLess ((nth t_ i2).Key) ((nth t_ (i2 - 1)).Key) || ((nth t_ i2).Key) == ((nth t_ (i2 - 1)).Key)) rfl rfl rfl) (Q_rb ac rfl (Q_pu (P_pick true (vb (Op.bytesLess ((nth t_ i2).Key) ((nth t_ (i2 - 1)).Key) || ((nth t_ i2).Key) == ((nth t_ (i2 - 1)).Key))) (by exact congrArg Value.bool aa) rfl) ?_))))))))
   refine Q_pu (P_pick false (vb (Op.bytesLess ((nth t_ i2).Key) ((nth t_ (i2 - 1)).Key) || ((nth t_ i2).Key) == ((nth t_ (i2 - 1)).Key))) (by exact congrArg Value.bool ac) rfl) (Q_nil fun cg au => ?_)
   have av := ae.k0 au
   refine W_cond (Op.bytesLess ((nth t_ i2).Key) ((nth t_ (i2 - 1)).Key) || ((nth t_ i2).Key) == ((nth t_ (i2 - 1)).Key)) rfl (fun an => ?_) (fun an => ?_)
   ·have H := ite_t H an
    exact W_seq (W_reg (L_as (vb false) rfl (L_nil (W_ret ⟨[vb false], ⟨_, rfl, rfl⟩, false, rfl, H, av.gr.g0⟩))))
   have H := ite_f H an
   refine W_skip (W_reg (L_mv (vi i2) rfl ?_))
   obtain ⟨bn, H⟩ := H
   have bo : I64 (i2 + 1) := i64_succ (of_decide_eq_true af) am bn
   refine L_pu (P_add i2 1 rfl rfl bo) (L_as (vi (i2 + 1)) rfl (L_nil ?_))
   obtain ⟨bp, bq⟩ := H
   have br := ae.stn au
   exact ⟨i2 + 1, bq, bp, (hasI rfl), av, (ad.st br)⟩
  have H := ite_f H aa
  refine Q_pb aa rfl (Q_pb aa rfl (Q_pb aa rfl (Q_pb aa rfl (Q_pb aa rfl (Q_pb aa rfl (Q_pb aa rfl (Q_pb aa rfl (Q_pb aa rfl ?_))))))))
  refine Q_pb aa rfl (Q_pb aa rfl (Q_pb aa rfl (Q_rb ac rfl (Q_pu (P_pick false (vb false) (by exact congrArg Value.bool aa) rfl) (Q_pu (P_pick false (vb false) (by exact congrArg Value.bool ac) rfl) (Q_nil fun ch aw => ?_))))))
  have bs := ae.k0 aw
  refine W_cf (b := false) rfl rfl ?_
  refine W_skip (W_reg (L_mv (vi i2) rfl ?_))
  obtain ⟨bt, H⟩ := H
  have bu : I64 (i2 + 1) := i64_succ (of_decide_eq_true af) am bt
  refine L_pu (P_add i2 1 rfl rfl bu) (L_as (vi (i2 + 1)) rfl (L_nil ?_))
  obtain ⟨bv, bw⟩ := H
  have bx := ae.stn aw
  exact ⟨i2 + 1, bw, bv, (hasI rfl), bs, (ad.st bx)⟩
 have H := ite_f H af
 refine W_exit (xin_hit ?_)
 exact W_seq (W_reg (L_mv (.slice A1 n2 c3) rfl (L_pu (P_len Try.underlying26 A1 n2 c3 ad.len rfl) (L_pu (P_cmp (t_.length : Int) 4 (decide ((t_.length : Int) ≤ 4)) rfl rfl rfl) (L_as (vb (decide ((t_.length : Int) ≤ 4))) rfl (L_nil (W_ret ⟨[vb (decide ((t_.length : Int) ≤ 4))], ⟨_, rfl, rfl⟩, decide ((t_.length : Int) ≤ 4), rfl, H, ae.gr.g0⟩)))))))
end
section
open Go.RowKit
def F64.E (f : Feat) (Q : Bool → Prop) : Prop :=
 F62.E f.Id (fun r => (if r then F45.E f.Shape (fun r2 => (if r2 then F63.E f.Tags (fun r3 => Q r3) else Q false)) else Q false))
theorem F64.calls {O : Ob} (w0 : World) (hO : Ok w0 O) (f : Feat) (A2 : Option Addr) (n3 c4 : Nat) (A7 : Option Addr) (n8 c9 : Nat) (hs1 : Lim f.Id) (hp5 : Sl kPt w0 (Fr O) (.slice A2 n3 c4) f.Shape.Pts) (ak : Sl kTag w0 (Fr O) (.slice A7 n8 c9) f.Tags) (Q : Bool → Prop) (h : F64.E f Q) :
  Ret Try.prog 10 [.agg #[vs f.Id, vi f.Shape.Kind, .slice A2 n3 c4, .slice A7 n8 c9]] w0 (fun v w' => ∃ (r0 : Bool), v = vb r0 ∧ Q r0 ∧ Gr w0 w' none) := by
 unfold F64.E at h
 have H := h
 clear h
 have hc0 := Ct.init hO
 refine Ret_enter Try.func10 rfl 16 rfl [.tmp 2] rfl rfl ?_
 refine W_seq (W_reg (L_box [vs f.Id, vi f.Shape.Kind, .slice A2 n3 c4, .slice A7 n8 c9] rfl fun al ac am hu16 an ao => ?_))
 have ag := Fb.mk hc0.ok am ao
 have af := hc0.k0 an
 refine L_as (vb false) rfl (L_nil (W_seq (W_reg (L_pu (P_fa fa28_0 ⟨ac, 0, none⟩ ⟨ac, 0, none⟩ rfl rfl) (L_pu (P_ld ag9 cL ⟨ac, 0, none⟩ (vs f.Id) rfl (ag.cell rfl)) ?_)))))
 refine L_call go41 [vs f.Id] rfl ((F62.calls al af.ok f.Id hs1 _ H).mono ?_)
 rintro _ ap ⟨r, rfl, H, ah⟩
 have ad := af.k0 ah
 refine L_mv (vb r) rfl ?_
 rcases bool_or r with aa | aa
 ·have H := ite_t H aa
  refine L_rb aa rfl (L_pu (P_fa fa28_1 ⟨ac, 0, none⟩ ⟨ac, 1, none⟩ rfl rfl) (L_rb aa rfl ?_))
  have aq := af.stn ah
  have ai := (ag.st aq)
  refine L_pu (P_lda ag25 sz25 cL ⟨ac, 1, none⟩ [vi f.Shape.Kind, .slice A2 n3 c4] rfl rfl (ai.cells (off := 1) rfl)) (L_rb aa rfl ?_)
  refine L_call go42 [.agg #[vi f.Shape.Kind, .slice A2 n3 c4]] rfl ((F45.calls ap ad.ok f.Shape A2 n3 c4 (hp5.st ad.st) _ H).mono ?_)
  rintro _ ar ⟨r2, rfl, H, aj⟩
  have ae := ad.k0 aj
  refine L_pu (P_pick true (vb r2) (by exact congrArg Value.bool aa) rfl) (L_mv (vb r2) rfl ?_)
  rcases bool_or r2 with ab | ab
  ·have H := ite_t H ab
   refine L_rb ab rfl (L_pu (P_fa fa28_2 ⟨ac, 0, none⟩ ⟨ac, 3, none⟩ rfl rfl) (L_rb ab rfl ?_))
   have au := ad.stn aj
   have av := (ai.st au)
   refine L_pu (P_ld ag26 cL ⟨ac, 3, none⟩ (.slice A7 n8 c9) rfl (av.cell rfl)) (L_rb ab rfl ?_)
   refine L_call go43 [.slice A7 n8 c9] rfl ((F63.calls ar ae.ok f.Tags A7 n8 c9 (ak.st ae.st) _ H).mono ?_)
   rintro _ ay ⟨r3, rfl, H, aw⟩
   have ax := ae.k0 aw
   exact L_pu (P_pick true (vb r3) (by exact congrArg Value.bool ab) rfl) (L_as (vb r3) rfl (L_nil (W_ret ⟨[vb r3], ⟨_, rfl, rfl⟩, r3, rfl, H, ax.gr.g0⟩)))
  have H := ite_f H ab
  exact L_pb ab rfl (L_pb ab rfl (L_pb ab rfl (L_pu (P_pick false (vb false) (by exact congrArg Value.bool ab) rfl) (L_as (vb false) rfl (L_nil (W_ret ⟨[vb false], ⟨_, rfl, rfl⟩, false, rfl, H, ae.gr.g0⟩))))))
 have H := ite_f H aa
 refine L_pb aa rfl (L_pb aa rfl (L_pb aa rfl (L_pu (P_pick false (vb false) (by exact congrArg Value.bool aa) rfl) (L_mv (vb false) rfl (L_pass (dj := 11) rfl rfl (.inl rfl) (L_pass (dj := 11) rfl rfl (.inl rfl) (L_pass (dj := 11) rfl rfl (.inl rfl) (L_pu (P_pick false (vb false) (by exact congrArg Value.bool rfl) rfl) ?_))))))))
 exact L_as (vb false) rfl (L_nil (W_ret ⟨[vb false], ⟨_, rfl, rfl⟩, false, rfl, H, ad.gr.g0⟩))
end
section
open Go.RowKit
def F65.E (r_b : List UInt8) (r_p : Int) (f : Feat) (Q : Feat → Int → Prop) : Prop :=
 F60.E f (fun r2 => F15.E r_b r_p 2 (fun r3 m => (I64 (1 + r3)) ∧ (∃ (I142 : Int → Int → (List Pt) → (List Tag) → Int → Prop) (mu143 : Int → Int → (List Pt) → (List Tag) → Int → Nat), I142 (1 + r3) r2.Shape.Kind r2.Shape.Pts r2.Tags m ∧ ∀ (i2 : Int) (z5 : Int) (z6 : List Pt) (z7 : List Tag) (z8 : Int), I142 i2 z5 z6 z7 z8 → (if decide (i2 > 0) then F15.E r_b z8 4 (fun r4 m2 => (if r4 == 0 then F94.E r_b m2 (fun r5 m3 => F95.E r_b m3 (fun r6 m4 => F96.E z7 r5 r6 (fun r7 => (I64 (i2 - 1)) ∧ I142 (i2 - 1) z5 z6 r7 m4 ∧ mu143 (i2 - 1) z5 z6 r7 m4 < mu143 i2 z5 z6 z7 z8))) else (if r4 == 1 then (if decide ((z7.length : Int) > 0) then ((0 : Int) ≤ 1 ∧ (1 : Int) ≤ (z7.length : Int) ∧ (z7.length : Int) ≤ (z7.length : Int)) ∧ ((z7.length : Int) ≤ 9223372036854775807 → I64 (i2 - 1)) ∧ I142 (i2 - 1) z5 z6 ((z7.drop (1 : Int).toNat).take ((z7.length : Int).toNat - (1 : Int).toNat)) m2 ∧ mu143 (i2 - 1) z5 z6 ((z7.drop (1 : Int).toNat).take ((z7.length : Int).toNat - (1 : Int).toNat)) m2 < mu143 i2 z5 z6 z7 z8 else ((z7.length : Int) ≤ 9223372036854775807 → I64 (i2 - 1)) ∧ I142 (i2 - 1) z5 z6 z7 m2 ∧ mu143 (i2 - 1) z5 z6 z7 m2 < mu143 i2 z5 z6 z7 z8) else F61.E r_b m2 (⟨z5, z6⟩ : Shape) (fun r8 m5 => (I64 (i2 - 1)) ∧ I142 (i2 - 1) r8.Kind r8.Pts z7 m5 ∧ mu143 (i2 - 1) r8.Kind r8.Pts z7 m5 < mu143 i2 z5 z6 z7 z8)))) else F64.E (⟨r2.Id, (⟨z5, z6⟩ : Shape), z7⟩ : Feat) (fun r9 => (if !r9 then Q f z8 else Q (⟨r2.Id, (⟨z5, z6⟩ : Shape), z7⟩ : Feat) z8))))))
theorem F65.calls {O : Ob} (w0 : World) (hO : Ok w0 O) (b : Nat) (r_b : List UInt8) (A2 : Option Addr) (n3 c4 : Nat) (r_p : Int) (hp5 : Sl Kd.byte w0 (Fr O) (.slice A2 n3 c4) r_b) (hp0 : Bx w0 b [.slice A2 n3 c4, vi r_p]) (hm : some b ∈ O) (f : Feat) (A8 : Option Addr) (n9 ax : Nat) (ay : Option Addr) (az a0 : Nat) (hs7 : Lim f.Id) (d7 : Sl kPt w0 (Fr O) (.slice A8 n9 ax) f.Shape.Pts) (d8 : Sl kTag w0 (Fr O) (.slice ay az a0) f.Tags) (Q : Feat → Int → Prop) (h : F65.E r_b r_p f Q) :
  Ret Try.prog 24 [.pointer (some ⟨b, 0, none⟩), .agg #[vs f.Id, vi f.Shape.Kind, .slice A8 n9 ax, .slice ay az a0]] w0 (fun v w' => ∃ (r0 : Feat) (m0 : Int) (Aw0 : Option Addr) (nw0 cw0 : Nat) (Aw2 : Option Addr) (nw2 cw2 : Nat), v = .agg #[vs r0.Id, vi r0.Shape.Kind, .slice Aw0 nw0 cw0, .slice Aw2 nw2 cw2] ∧ Q r0 m0 ∧ Gr w0 w' (some b) ∧ Bx w' b [.slice A2 n3 c4, vi m0] ∧ Lim r0.Id ∧ Sl kPt w' (Fr O) (.slice Aw0 nw0 cw0) r0.Shape.Pts ∧ Sl kTag w' (Fr O) (.slice Aw2 nw2 cw2) r0.Tags) := by
 unfold F65.E at h
 have H := h
 clear h
 have hc0 := Ct.initm1 (r := some b) hO (by intro b e; cases e; exact hm)
 refine Ret_enter Try.func24 rfl 48 rfl [.cell 4 28] rfl rfl ?_
 refine W_seq (W_reg (L_box [vs f.Id, vi f.Shape.Kind, .slice A8 n9 ax, .slice ay az a0] rfl fun hr cx ez hu22 d9 e0 => ?_))
 have e1 := Fb.mk hc0.ok ez e0
 have ea := hc0.k0 d9
 refine L_alloc [vs [], .int .i64 0, .slice none 0 0, .slice none 0 0] ze28 fun e2 ar eb hu31 c9 e3 => ?_
 have b3 := ea.own c9 (some ar) (oglt eb hu31)
 refine L_nil (W_seq (W_reg ?_))
 have e4 := ea.stown _ c9 (oge eb)
 have ec := (e1.st e4)
 refine L_pu (P_lda ag28 sz28 cL ⟨cx, 0, none⟩ [vs f.Id, vi f.Shape.Kind, .slice A8 n9 ax, .slice ay az a0] rfl rfl (ec.cells (off := 0) rfl)) ?_
 refine L_call go27 [.agg #[vs f.Id, vi f.Shape.Kind, .slice A8 n9 ax, .slice ay az a0]] rfl ((F60.calls e2 b3.ok f A8 n9 ax ay az a0 hs7 (d7.st b3.st) (d8.st b3.st) _ H).mono ?_)
 rintro _ hs ⟨r2, da, db, dc, dd, de, df, rfl, H, cy, e5, ed, ee, e6, e7⟩
 have ef := b3.owns cy e5 ed
 refine L_alloc [vs [], .int .i64 0, .slice none 0 0, .slice none 0 0] ze28 fun ht aa cz hu58 bt e8 => ?_
 have bu := ef.own bt (some aa) (oglt cz hu58)
 refine L_stb aa 0 [vs ([] : Str), vi 0, .slice none 0 0, .slice none 0 0] [vs r2.Id, vi r2.Shape.Kind, .slice da db dc, .slice dd de df] [vs r2.Id, vi r2.Shape.Kind, .slice da db dc, .slice dd de df] rfl e8 rfl sz28 rfl rfl rfl fun e9 bv fa => ?_
 have bd := bu.wr 0 rfl bv
 refine L_nil (W_seq (W_seq (W_reg (L_mv (.pointer (some ⟨b, 0, none⟩)) rfl ?_))))
 have fb := (bu.bmo ((((hp0.k0 d9).k0 c9).k0 cy).k0 bt) 0 rfl bv)
 refine L_call go25 [.pointer (some ⟨b, 0, none⟩), vi 2] rfl ((F15.calls e9 bd.ok b r_b A2 n3 c4 r_p (hp5.st bd.st) fb (List.mem_append_right _ hm) 2 _ H).mono ?_)
 rintro _ hu ⟨r3, m, rfl, H, bw, fc⟩
 have c0 := bd.wm bw
 obtain ⟨fd, H⟩ := H
 refine L_pu (P_add 1 r3 rfl rfl fd) (L_as (vi (1 + r3)) rfl (L_nil (W_block ?_)))
 have fe := (bd.swm (bu.sw (e6.so _ bt (oge cz)) 1 0 rfl rfl rfl bv) 1 rfl bw)
 have ff := c0.gv fe 1 rfl
 have dg := c0.drop 1 rfl
 have fg := (c0.sd (bd.swm (bu.sw (e7.so _ bt (oge cz)) 2 0 rfl rfl rfl bv) 2 rfl bw) 2 1 rfl rfl rfl)
 have fh := dg.gv fg 1 rfl
 have c1 := dg.drop 1 rfl
 obtain ⟨fi, fj, dh, H⟩ := H
 have eg := dg.std 1 rfl
 have fk := fc
 have fl := b3.stos cy ed
 have fm := ef.stown _ bt (oge cz)
 have fn := bu.stw 0 rfl bv
 have fo := bd.stm bw
 have fp := c0.std 1 rfl
 have fq := ((((((ec.st fl).st fm).st fn).st fo).st fp).st eg)
 have fr := (bd.bwm (bu.bm ((e3.k0 cy).k0 bt) 3 0 rfl rfl rfl bv) 3 rfl bw)
 have fs := (bd.bwm fa 0 rfl bw)
 refine W_loop (α := Int × Int × (List Pt) × (Option Addr) × Nat × Nat × (List Tag) × (Option Addr) × Nat × Nat × Int) (fun (sv__ : Int × Int × (List Pt) × (Option Addr) × Nat × Nat × (List Tag) × (Option Addr) × Nat × Nat × Int) t a1 => match sv__ with | (i2, z5, z6, ae, af, ag, z7, ab, ac, ad, z8) => fi i2 z5 z6 z7 z8 ∧ Has t [(0, .pointer (some ⟨b, 0, none⟩)), (3, .pointer (some ⟨cx, 0, none⟩)), (4, .pointer (some ⟨ar, 0, none⟩)), (5, .pointer (some ⟨aa, 0, none⟩)), (6, vi i2)] ∧ Ct [some b] w0 a1 [some aa, some ar] O ∧ Sl kPt a1 (Fr ([some aa, some ar] ++ O)) (.slice A8 n9 ax) f.Shape.Pts ∧ Sl kTag a1 (Fr ([some aa, some ar] ++ O)) (.slice ay az a0) f.Tags ∧ Sl kPt a1 (Fr ([some aa, some ar] ++ O)) (.slice ae af ag) z6 ∧ Sl kTag a1 (Fr ([some aa, some ar] ++ O)) (.slice ab ac ad) z7 ∧ Sl Kd.byte a1 (Fr ([some aa, some ar] ++ O)) (.slice A2 n3 c4) r_b ∧ Bx a1 b [.slice A2 n3 c4, vi z8] ∧ Fb a1 ([some aa, some ar] ++ O) cx [vs f.Id, vi f.Shape.Kind, .slice A8 n9 ax, .slice ay az a0] ∧ Bx a1 ar [vs ([] : Str), vi 0, .slice none 0 0, .slice none 0 0] ∧ Bx a1 aa [vs r2.Id, vi z5, .slice ae af ag, .slice ab ac ad]) (fun (sv__ : Int × Int × (List Pt) × (Option Addr) × Nat × Nat × (List Tag) × (Option Addr) × Nat × Nat × Int) => match sv__ with | (i2, z5, z6, _, _, _, z7, _, _, _, z8) => fj i2 z5 z6 z7 z8) (1 + r3, r2.Shape.Kind, r2.Shape.Pts, da, db, dc, r2.Tags, dd, de, df, m) ⟨dh, (hasI rfl), c1, (d7.st c1.st), (d8.st c1.st), (ff.st eg), fh, (hp5.st c1.st), fk, fq, fr, fs⟩ ?_
 rintro ⟨i2, z5, z6, ae, af, ag, z7, ab, ac, ad, z8⟩ _ a1 ⟨dh, ft, ah, bj, bl, be, a4, bn, di, bo, bf, bp⟩
 obtain ⟨hv, rfl⟩ := Has.ins ft
 have H := H i2 z5 z6 z7 z8 dh
 refine W_seq (W_seq (W_reg (L_mv (vi i2) rfl (L_pu (P_cmp i2 0 (decide (i2 > 0)) rfl rfl rfl) (L_nil ?_)))))
 refine W_cond (decide (i2 > 0)) rfl (fun dj => ?_) (fun dj => ?_)
 ·have H := ite_t H dj
  refine W_skip (W_seq (W_block (W_seq (W_reg (L_mv (.pointer (some ⟨b, 0, none⟩)) rfl ?_)))))
  refine L_call go25 [.pointer (some ⟨b, 0, none⟩), vi 4] rfl ((F15.calls a1 ah.ok b r_b A2 n3 c4 z8 bn di (List.mem_append_right _ hm) 4 _ H).mono ?_)
  rintro _ fu ⟨r4, m2, rfl, H, aq, b4⟩
  have a2 := ah.wm aq
  refine L_nil (W_block (W_seq (W_reg (L_pu (P_cmp r4 0 (r4 == 0) rfl rfl rfl) (L_as (vb (r4 == 0)) rfl (L_nil ?_))))))
  refine W_cond (r4 == 0) rfl (fun dk => ?_) (fun dk => ?_)
  ·have H := ite_t H dk
   refine W_mixr 9 [some b, some aa] (by kernel_rfl) rfl fun eh a5 bx => ?_
   have a3 := a2.k0 a5
   refine M_pu 0 rfl (by kernel_rfl) bx (P_fa fa28_2 ⟨aa, 0, none⟩ ⟨aa, 3, none⟩ rfl rfl) ?_
   refine M_pu 2 rfl (by kernel_rfl) bx (P_move (.pointer (some ⟨b, 0, none⟩)) rfl) ?_
   refine M_pu 4 rfl (by kernel_rfl) bx (P_move (.pointer (some ⟨b, 0, none⟩)) rfl) ?_
   refine M_any2 1 3 (by kernel_rfl) rfl rfl ?_ ?_
   ·have ei := ((ah.bwm bp 0 rfl aq).k0 a5)
    refine L_pu (P_ld ag26 cL ⟨aa, 3, none⟩ (.slice ab ac ad) rfl (ei.cell rfl)) ?_
    refine L_nil ⟨bx, ?_⟩
    refine M_any1 3 (by kernel_rfl) rfl ?_
    have al := ah.stm aq
    have bz := a2.stn a5
    have b5 := ((bn.st al).st bz)
    have fv := (b4.k0 a5)
    refine L_call go75 [.pointer (some ⟨b, 0, none⟩)] rfl ((F94.calls eh a3.ok b r_b A2 n3 c4 m2 b5 fv (List.mem_append_right _ hm) _ H).mono ?_)
    rintro _ fw ⟨r5, m3, rfl, H, b6, fx, fy⟩
    have b7 := a3.wm b6
    have ej := Gm.tq bx b6 (hv_mem 0 rfl)
    refine L_nil ⟨ej, ?_⟩
    refine M_any1 5 (by kernel_rfl) rfl ?_
    have au := a3.stm b6
    refine L_call go76 [.pointer (some ⟨b, 0, none⟩)] rfl ((F95.calls fw b7.ok b r_b A2 n3 c4 m3 (b5.st au) fx (List.mem_append_right _ hm) _ H).mono ?_)
    rintro _ dl ⟨r6, m4, rfl, H, a6, dm, dn⟩
    have bq := b7.wm a6
    have b8 := Gm.tq ej a6 (hv_mem 0 rfl)
    refine L_nil ⟨b8, ?_⟩
    refine M_any1 6 (by kernel_rfl) rfl ?_
    have ai := b7.stm a6
    have b9 := ((((a4.st al).st bz).st au).st ai)
    refine L_call go74 [.slice ab ac ad, vs r5, vs r6] rfl ((F96.calls dl bq.ok z7 ab ac ad b9 r5 fy r6 dn _ H).mono ?_)
    rintro _ ca ⟨r7, aw, a7, a8, rfl, H, aj, cb, bg, cc⟩
    have am : Ct [some b] w0 ca [bk aw, some aa, some ar] O := bq.owns aj cb bg
    have a9 := Gm.tm b8 aj
    refine L_nil ⟨a9, ?_⟩
    refine M_pu 7 rfl (by kernel_rfl) a9 (P_fa fa28_2 ⟨aa, 0, none⟩ ⟨aa, 3, none⟩ rfl rfl) ?_
    refine M_any1 8 (by kernel_rfl) rfl ?_
    have cd := ((b7.bwm (a3.bwm ei 0 rfl b6) 0 rfl a6).k0 aj)
    refine L_stb aa 3 [vs r2.Id, vi z5, .slice ae af ag, .slice ab ac ad] [.slice aw a7 a8] [vs r2.Id, vi z5, .slice ae af ag, .slice aw a7 a8] rfl cd rfl sz26 rfl rfl rfl fun ek ak ce => ?_
    have ba := am.wr 1 rfl ak
    have cf := Gm.tq a9 ak (hv_mem 1 rfl)
    refine L_nil ⟨cf, ?_⟩
    refine M_nil (by kernel_rfl) ?_
    refine W_reg (L_mv (vi i2) rfl ?_)
    obtain ⟨cg, H⟩ := H
    refine L_pu (P_sub i2 1 rfl rfl cg) (L_as (vi (i2 - 1)) rfl (L_nil ?_))
    have ch := (am.sw cc 0 1 rfl rfl rfl ak)
    have ci := ba.gv ch 0 rfl
    have cj := ba.drop 0 rfl
    obtain ⟨ck, cl⟩ := H
    have an := bq.stos aj bg
    have ao := am.stw 1 rfl ak
    have ap := ba.std 0 rfl
    have cm := (((((((bj.st al).st bz).st au).st ai).st an).st ao).st ap)
    have cn := (((((((bl.st al).st bz).st au).st ai).st an).st ao).st ap)
    have co := (((((((be.st al).st bz).st au).st ai).st an).st ao).st ap)
    have cp := (((((b5.st au).st ai).st an).st ao).st ap)
    have cq := (am.bmo (dm.k0 aj) 1 rfl ak)
    have cr := (((((((bo.st al).st bz).st au).st ai).st an).st ao).st ap)
    have cs := (am.bm ((b7.bwm (a3.bwm ((ah.bwm bf 1 rfl aq).k0 a5) 1 rfl b6) 1 rfl a6).k0 aj) 2 1 rfl rfl rfl ak)
    have ct := ce
    exact ⟨(i2 - 1, z5, z6, ae, af, ag, r7, aw, a7, a8, m4), cl, ck, (hasI rfl), cj, cm, cn, co, ci, cp, cq, cr, cs, ct⟩
   have bb := ah.stm aq
   have al := a2.stn a5
   have cu := ((bn.st bb).st al)
   have b5 := (b4.k0 a5)
   refine L_call go75 [.pointer (some ⟨b, 0, none⟩)] rfl ((F94.calls eh a3.ok b r_b A2 n3 c4 m2 cu b5 (List.mem_append_right _ hm) _ H).mono ?_)
   rintro _ el ⟨r5, m3, rfl, H, bh, em, en⟩
   have bc := a3.wm bh
   have c2 := Gm.tq bx bh (hv_mem 0 rfl)
   refine L_nil ⟨c2, ?_⟩
   refine M_any2 1 5 (by kernel_rfl) rfl rfl ?_ ?_
   ·have eo := (a3.bwm ((ah.bwm bp 0 rfl aq).k0 a5) 0 rfl bh)
    refine L_pu (P_ld ag26 cL ⟨aa, 3, none⟩ (.slice ab ac ad) rfl (eo.cell rfl)) ?_
    refine L_nil ⟨c2, ?_⟩
    refine M_any1 5 (by kernel_rfl) rfl ?_
    have au := a3.stm bh
    refine L_call go76 [.pointer (some ⟨b, 0, none⟩)] rfl ((F95.calls el bc.ok b r_b A2 n3 c4 m3 (cu.st au) em (List.mem_append_right _ hm) _ H).mono ?_)
    rintro _ dl ⟨r6, m4, rfl, H, a6, dm, dn⟩
    have bq := bc.wm a6
    have b8 := Gm.tq c2 a6 (hv_mem 0 rfl)
    refine L_nil ⟨b8, ?_⟩
    refine M_any1 6 (by kernel_rfl) rfl ?_
    have ai := bc.stm a6
    have b9 := ((((a4.st bb).st al).st au).st ai)
    refine L_call go74 [.slice ab ac ad, vs r5, vs r6] rfl ((F96.calls dl bq.ok z7 ab ac ad b9 r5 en r6 dn _ H).mono ?_)
    rintro _ ca ⟨r7, aw, a7, a8, rfl, H, aj, cb, bg, cc⟩
    have am : Ct [some b] w0 ca [bk aw, some aa, some ar] O := bq.owns aj cb bg
    have a9 := Gm.tm b8 aj
    refine L_nil ⟨a9, ?_⟩
    refine M_pu 7 rfl (by kernel_rfl) a9 (P_fa fa28_2 ⟨aa, 0, none⟩ ⟨aa, 3, none⟩ rfl rfl) ?_
    refine M_any1 8 (by kernel_rfl) rfl ?_
    have cd := ((bc.bwm eo 0 rfl a6).k0 aj)
    refine L_stb aa 3 [vs r2.Id, vi z5, .slice ae af ag, .slice ab ac ad] [.slice aw a7 a8] [vs r2.Id, vi z5, .slice ae af ag, .slice aw a7 a8] rfl cd rfl sz26 rfl rfl rfl fun ek ak ce => ?_
    have ba := am.wr 1 rfl ak
    have cf := Gm.tq a9 ak (hv_mem 1 rfl)
    refine L_nil ⟨cf, ?_⟩
    refine M_nil (by kernel_rfl) ?_
    refine W_reg (L_mv (vi i2) rfl ?_)
    obtain ⟨cg, H⟩ := H
    refine L_pu (P_sub i2 1 rfl rfl cg) (L_as (vi (i2 - 1)) rfl (L_nil ?_))
    have ch := (am.sw cc 0 1 rfl rfl rfl ak)
    have ci := ba.gv ch 0 rfl
    have cj := ba.drop 0 rfl
    obtain ⟨ck, cl⟩ := H
    have an := bq.stos aj bg
    have ao := am.stw 1 rfl ak
    have ap := ba.std 0 rfl
    have cm := (((((((bj.st bb).st al).st au).st ai).st an).st ao).st ap)
    have cn := (((((((bl.st bb).st al).st au).st ai).st an).st ao).st ap)
    have co := (((((((be.st bb).st al).st au).st ai).st an).st ao).st ap)
    have cp := (((((cu.st au).st ai).st an).st ao).st ap)
    have cq := (am.bmo (dm.k0 aj) 1 rfl ak)
    have cr := (((((((bo.st bb).st al).st au).st ai).st an).st ao).st ap)
    have cs := (am.bm ((bc.bwm (a3.bwm ((ah.bwm bf 1 rfl aq).k0 a5) 1 rfl bh) 1 rfl a6).k0 aj) 2 1 rfl rfl rfl ak)
    have ct := ce
    exact ⟨(i2 - 1, z5, z6, ae, af, ag, r7, aw, a7, a8, m4), cl, ck, (hasI rfl), cj, cm, cn, co, ci, cp, cq, cr, cs, ct⟩
   have br := a3.stm bh
   refine L_call go76 [.pointer (some ⟨b, 0, none⟩)] rfl ((F95.calls el bc.ok b r_b A2 n3 c4 m3 (cu.st br) em (List.mem_append_right _ hm) _ H).mono ?_)
   rintro _ fz ⟨r6, m4, rfl, H, cv, f0, f1⟩
   have dp := bc.wm cv
   have dq := Gm.tq c2 cv (hv_mem 0 rfl)
   refine L_nil ⟨dq, ?_⟩
   refine M_any1 1 (by kernel_rfl) rfl ?_
   have ep := (bc.bwm (a3.bwm ((ah.bwm bp 0 rfl aq).k0 a5) 0 rfl bh) 0 rfl cv)
   refine L_pu (P_ld ag26 cL ⟨aa, 3, none⟩ (.slice ab ac ad) rfl (ep.cell rfl)) ?_
   refine L_nil ⟨dq, ?_⟩
   refine M_any1 6 (by kernel_rfl) rfl ?_
   have ai := bc.stm cv
   have b9 := ((((a4.st bb).st al).st br).st ai)
   refine L_call go74 [.slice ab ac ad, vs r5, vs r6] rfl ((F96.calls fz dp.ok z7 ab ac ad b9 r5 en r6 f1 _ H).mono ?_)
   rintro _ ca ⟨r7, aw, a7, a8, rfl, H, aj, cb, bg, cc⟩
   have am : Ct [some b] w0 ca [bk aw, some aa, some ar] O := dp.owns aj cb bg
   have a9 := Gm.tm dq aj
   refine L_nil ⟨a9, ?_⟩
   refine M_pu 7 rfl (by kernel_rfl) a9 (P_fa fa28_2 ⟨aa, 0, none⟩ ⟨aa, 3, none⟩ rfl rfl) ?_
   refine M_any1 8 (by kernel_rfl) rfl ?_
   have cd := (ep.k0 aj)
   refine L_stb aa 3 [vs r2.Id, vi z5, .slice ae af ag, .slice ab ac ad] [.slice aw a7 a8] [vs r2.Id, vi z5, .slice ae af ag, .slice aw a7 a8] rfl cd rfl sz26 rfl rfl rfl fun ek ak ce => ?_
   have ba := am.wr 1 rfl ak
   have cf := Gm.tq a9 ak (hv_mem 1 rfl)
   refine L_nil ⟨cf, ?_⟩
   refine M_nil (by kernel_rfl) ?_
   refine W_reg (L_mv (vi i2) rfl ?_)
   obtain ⟨cg, H⟩ := H
   refine L_pu (P_sub i2 1 rfl rfl cg) (L_as (vi (i2 - 1)) rfl (L_nil ?_))
   have ch := (am.sw cc 0 1 rfl rfl rfl ak)
   have ci := ba.gv ch 0 rfl
   have cj := ba.drop 0 rfl
   obtain ⟨ck, cl⟩ := H
   have an := dp.stos aj bg
   have ao := am.stw 1 rfl ak
   have ap := ba.std 0 rfl
   have cm := (((((((bj.st bb).st al).st br).st ai).st an).st ao).st ap)
   have cn := (((((((bl.st bb).st al).st br).st ai).st an).st ao).st ap)
   have co := (((((((be.st bb).st al).st br).st ai).st an).st ao).st ap)
   have cp := (((((cu.st br).st ai).st an).st ao).st ap)
   have cq := (am.bmo (f0.k0 aj) 1 rfl ak)
   have cr := (((((((bo.st bb).st al).st br).st ai).st an).st ao).st ap)
   have cs := (am.bm ((bc.bwm (a3.bwm ((ah.bwm bf 1 rfl aq).k0 a5) 1 rfl bh) 1 rfl cv).k0 aj) 2 1 rfl rfl rfl ak)
   have ct := ce
   exact ⟨(i2 - 1, z5, z6, ae, af, ag, r7, aw, a7, a8, m4), cl, ck, (hasI rfl), cj, cm, cn, co, ci, cp, cq, cr, cs, ct⟩
  have H := ite_f H dk
  refine W_seq (W_reg (L_pu (P_cmp r4 1 (r4 == 1) rfl rfl rfl) (L_as (vb (r4 == 1)) rfl (L_nil ?_))))
  refine W_cond (r4 == 1) rfl (fun dr => ?_) (fun dr => ?_)
  ·have H := ite_t H dr
   refine W_seq (W_reg (L_pu (P_fa fa28_2 ⟨aa, 0, none⟩ ⟨aa, 3, none⟩ rfl rfl) ?_))
   have c3 := (ah.bwm bp 0 rfl aq)
   refine L_pu (P_ld ag26 cL ⟨aa, 3, none⟩ (.slice ab ac ad) rfl (c3.cell rfl)) ?_
   have av := ah.stm aq
   have eq := (a4.st av).le
   refine L_pu (P_len Try.underlying26 ab ac ad (a4.st av).len rfl) (L_pu (P_cmp (z7.length : Int) 0 (decide ((z7.length : Int) > 0)) rfl rfl rfl) (L_nil ?_))
   refine W_cond (decide ((z7.length : Int) > 0)) rfl (fun ds => ?_) (fun ds => ?_)
   ·have H := ite_t H ds
    refine W_reg (L_pu (P_fa fa28_2 ⟨aa, 0, none⟩ ⟨aa, 3, none⟩ rfl rfl) (L_pu (P_ld ag26 cL ⟨aa, 3, none⟩ (.slice ab ac ad) rfl (c3.cell rfl)) ?_))
    obtain ⟨f2, H⟩ := H
    refine L_cuts Try.underlying26 se26 ab ac ad z7 rfl (a4.st av) 1 (z7.length : Int) rfl (bd_none (a4.st av).len) f2 fun dt du dv f3 => ?_
    refine L_pu (P_fa fa28_2 ⟨aa, 0, none⟩ ⟨aa, 3, none⟩ rfl rfl) (L_stb aa 3 [vs r2.Id, vi z5, .slice ae af ag, .slice ab ac ad] [.slice dt du dv] [vs r2.Id, vi z5, .slice ae af ag, .slice dt du dv] rfl c3 rfl sz26 rfl rfl rfl fun hw c5 f4 => ?_)
    have f5 := a2.wr 0 rfl c5
    refine L_nil (W_reg (L_mv (vi i2) rfl ?_))
    obtain ⟨f6, H⟩ := H
    have f7 := f6 (len_le eq)
    refine L_pu (P_sub i2 1 rfl rfl f7) (L_as (vi (i2 - 1)) rfl (L_nil ?_))
    obtain ⟨f8, f9⟩ := H
    have b0 := a2.stw 0 rfl c5
    have ga := ((bj.st av).st b0)
    have gb := ((bl.st av).st b0)
    have gc := ((be.st av).st b0)
    have gd := ((bn.st av).st b0)
    have ge := (a2.bmo b4 0 rfl c5)
    have gf := ((bo.st av).st b0)
    have gg := (a2.bm (ah.bwm bf 1 rfl aq) 1 0 rfl rfl rfl c5)
    exact ⟨(i2 - 1, z5, z6, ae, af, ag, ((z7.drop (1 : Int).toNat).take ((z7.length : Int).toNat - (1 : Int).toNat)), dt, du, dv, m2), f9, f8, (hasI rfl), f5, ga, gb, gc, (f3.st b0), gd, ge, gf, gg, f4⟩
   have H := ite_f H ds
   refine W_skip (W_reg (L_mv (vi i2) rfl ?_))
   obtain ⟨gh, H⟩ := H
   have gi := gh (len_le eq)
   refine L_pu (P_sub i2 1 rfl rfl gi) (L_as (vi (i2 - 1)) rfl (L_nil ?_))
   obtain ⟨gj, gk⟩ := H
   have gl := (bo.st av)
   have gm := (ah.bwm bf 1 rfl aq)
   exact ⟨(i2 - 1, z5, z6, ae, af, ag, z7, ab, ac, ad, m2), gk, gj, (hasI rfl), a2, (bj.st av), (bl.st av), (be.st av), (a4.st av), (bn.st av), b4, gl, gm, c3⟩
  have H := ite_f H dr
  refine W_reg (L_mv (.pointer (some ⟨b, 0, none⟩)) rfl (L_pu (P_fa fa28_1 ⟨aa, 0, none⟩ ⟨aa, 1, none⟩ rfl rfl) ?_))
  have er := (ah.bwm bp 0 rfl aq)
  refine L_pu (P_lda ag25 sz25 cL ⟨aa, 1, none⟩ [vi z5, .slice ae af ag] rfl rfl (er.cells (off := 1) rfl)) ?_
  have bs := ah.stm aq
  refine L_call go77 [.pointer (some ⟨b, 0, none⟩), .agg #[vi z5, .slice ae af ag]] rfl ((F61.calls fu a2.ok b r_b A2 n3 c4 m2 (bn.st bs) b4 (List.mem_append_right _ hm) (⟨z5, z6⟩ : Shape) ae af ag (be.st bs) _ H).mono ?_)
  rintro _ hx ⟨r8, m5, dw, dx, dy, rfl, H, c6, gn, gp⟩
  have c7 := a2.wm c6
  refine L_pu (P_fa fa28_1 ⟨aa, 0, none⟩ ⟨aa, 1, none⟩ rfl rfl) ?_
  have gq := (a2.bwm er 0 rfl c6)
  refine L_stb aa 1 [vs r2.Id, vi z5, .slice ae af ag, .slice ab ac ad] [vi r8.Kind, .slice dw dx dy] [vs r2.Id, vi r8.Kind, .slice dw dx dy, .slice ab ac ad] rfl gq rfl sz25 rfl rfl rfl fun hy c8 gs => ?_
  have gt := c7.wr 0 rfl c8
  refine L_nil (W_reg (L_mv (vi i2) rfl ?_))
  obtain ⟨gu, H⟩ := H
  refine L_pu (P_sub i2 1 rfl rfl gu) (L_as (vi (i2 - 1)) rfl (L_nil ?_))
  obtain ⟨gw, gx⟩ := H
  have cw := a2.stm c6
  have b1 := c7.stw 0 rfl c8
  have gy := (((bj.st bs).st cw).st b1)
  have gz := (((bl.st bs).st cw).st b1)
  have g0 := (((a4.st bs).st cw).st b1)
  have g2 := (((bn.st bs).st cw).st b1)
  have g3 := (c7.bmo gn 0 rfl c8)
  have g4 := (((bo.st bs).st cw).st b1)
  have g5 := (c7.bm (a2.bwm (ah.bwm bf 1 rfl aq) 1 rfl c6) 1 0 rfl rfl rfl c8)
  exact ⟨(i2 - 1, r8.Kind, r8.Pts, dw, dx, dy, z7, ab, ac, ad, m5), gx, gw, (hasI rfl), gt, gy, gz, (gp.st b1), g0, g2, g3, g4, g5, gs⟩
 have H := ite_f H dj
 refine W_exit (xin_hit ?_)
 refine W_seq (W_seq (W_reg (L_pu (P_lda ag28 sz28 cL ⟨aa, 0, none⟩ [vs r2.Id, vi z5, .slice ae af ag, .slice ab ac ad] rfl rfl (bp.cells (off := 0) rfl)) ?_)))
 refine L_call go10 [.agg #[vs r2.Id, vi z5, .slice ae af ag, .slice ab ac ad]] rfl ((F64.calls a1 ah.ok (⟨r2.Id, (⟨z5, z6⟩ : Shape), z7⟩ : Feat) ae af ag ab ac ad ee be a4 _ H).mono ?_)
 rintro _ hz ⟨r9, rfl, H, bi⟩
 have b2 := ah.k0 bi
 refine L_pu (P_not r9 rfl) (L_nil ?_)
 refine W_cond (!r9) rfl (fun dz => ?_) (fun dz => ?_)
 ·have H := ite_t H dz
  refine W_seq (W_reg ?_)
  have d0 := ah.stn bi
  have g6 := (bo.st d0)
  refine L_pu (P_lda ag28 sz28 cL ⟨cx, 0, none⟩ [vs f.Id, vi f.Shape.Kind, .slice A8 n9 ax, .slice ay az a0] rfl rfl (g6.cells (off := 0) rfl)) ?_
  have g7 := (bf.k0 bi)
  refine L_stb ar 0 [vs ([] : Str), vi 0, .slice none 0 0, .slice none 0 0] [vs f.Id, vi f.Shape.Kind, .slice A8 n9 ax, .slice ay az a0] [vs f.Id, vi f.Shape.Kind, .slice A8 n9 ax, .slice ay az a0] rfl g7 rfl sz28 rfl rfl rfl fun g8 d1 g9 => ?_
  have d2 := b2.wr 1 rfl d1
  refine L_nil (W_ret ?_)
  have ha := d2.bgv g9 1 rfl
  have es : Ct [some b] w0 g8 [some aa] O := d2.drop 1 rfl
  have hb := es.drop 0 rfl
  have d3 := es.std 0 rfl
  have hc := (ha.st d3)
  have et := b2.stw 1 rfl d1
  have eu := d2.std 1 rfl
  have hd := ((((bj.st d0).st et).st eu).st d3)
  have he := ((((bl.st d0).st et).st eu).st d3)
  have hf := (b2.bmo (di.k0 bi) 1 rfl d1)
  exact ⟨[.agg #[vs f.Id, vi f.Shape.Kind, .slice A8 n9 ax, .slice ay az a0]], ⟨_, _, rfl, hc.1.res rfl ag28 sz28, rfl⟩, f, z8, A8, n9, ax, ay, az, a0, rfl, H, hb.gr.g1, hf, hs7, hd, he⟩
 have H := ite_f H dz
 refine W_skip (W_seq (W_reg ?_))
 have hg := (bp.k0 bi)
 refine L_pu (P_lda ag28 sz28 cL ⟨aa, 0, none⟩ [vs r2.Id, vi z5, .slice ae af ag, .slice ab ac ad] rfl rfl (hg.cells (off := 0) rfl)) ?_
 have hh := (bf.k0 bi)
 refine L_stb ar 0 [vs ([] : Str), vi 0, .slice none 0 0, .slice none 0 0] [vs r2.Id, vi z5, .slice ae af ag, .slice ab ac ad] [vs r2.Id, vi z5, .slice ae af ag, .slice ab ac ad] rfl hh rfl sz28 rfl rfl rfl fun hi d4 hj => ?_
 have d5 := b2.wr 1 rfl d4
 refine L_nil (W_ret ?_)
 have hk := d5.bgv hj 1 rfl
 have ev : Ct [some b] w0 hi [some aa] O := d5.drop 1 rfl
 have hl := ev.drop 0 rfl
 have d6 := ev.std 0 rfl
 have hn := (hk.st d6)
 have ew := ah.stn bi
 have ex := b2.stw 1 rfl d4
 have ey := d5.std 1 rfl
 have ho := ((((be.st ew).st ex).st ey).st d6)
 have hp := ((((a4.st ew).st ex).st ey).st d6)
 have hq := (b2.bmo (di.k0 bi) 1 rfl d4)
 exact ⟨[.agg #[vs r2.Id, vi z5, .slice ae af ag, .slice ab ac ad]], ⟨_, _, rfl, hn.1.res rfl ag28 sz28, rfl⟩, (⟨r2.Id, (⟨z5, z6⟩ : Shape), z7⟩ : Feat), z8, ae, af, ag, ab, ac, ad, rfl, H, hl.gr.g1, hq, ee, ho, hp⟩
end
section
open Go.RowKit
def F106.E (r_b : List UInt8) (r_p : Int) (Q : Str → Int → Prop) : Prop :=
 F33.E r_b r_p ([([97] : Str), ([98] : Str), ([99] : Str), ([100] : Str), ([101] : Str)] : List Str) (fun r2 m => Q r2 m)
theorem F106.calls {O : Ob} (w0 : World) (hO : Ok w0 O) (b : Nat) (r_b : List UInt8) (A2 : Option Addr) (n3 c4 : Nat) (r_p : Int) (hp5 : Sl Kd.byte w0 (Fr O) (.slice A2 n3 c4) r_b) (hp0 : Bx w0 b [.slice A2 n3 c4, vi r_p]) (hm : some b ∈ O) (Q : Str → Int → Prop) (h : F106.E r_b r_p Q) :
  Ret Try.prog 78 [.pointer (some ⟨b, 0, none⟩)] w0 (fun v w' => ∃ (r0 : Str) (m0 : Int), v = vs r0 ∧ Q r0 m0 ∧ Gr w0 w' (some b) ∧ Bx w' b [.slice A2 n3 c4, vi m0] ∧ Lim r0) := by
 unfold F106.E at h
 have H := h
 clear h
 have hc0 := Ct.initm1 (r := some b) hO (by intro b e; cases e; exact hm)
 refine Ret_enter Try.func78 rfl 6 rfl [.tmp 2] rfl rfl ?_
 refine W_seq (W_reg (L_as (vs ([] : Str)) rfl (L_nil (W_seq (W_reg (L_mv (.pointer (some ⟨b, 0, none⟩)) rfl (L_lit (kd := Kd.str) ei31 hc0 ([([97] : Str), ([98] : Str), ([99] : Str), ([100] : Str), ([101] : Str)] : List Str) (cells := [vs ([97] : Str), vs ([98] : Str), vs ([99] : Str), vs ([100] : Str), vs ([101] : Str)]) ⟨[vs ([97] : Str)], _, rfl, ⟨rfl, (by decide : Lim ([97] : Str))⟩, ⟨[vs ([98] : Str)], _, rfl, ⟨rfl, (by decide : Lim ([98] : Str))⟩, ⟨[vs ([99] : Str)], _, rfl, ⟨rfl, (by decide : Lim ([99] : Str))⟩, ⟨[vs ([100] : Str)], _, rfl, ⟨rfl, (by decide : Lim ([100] : Str))⟩, ⟨[vs ([101] : Str)], _, rfl, ⟨rfl, (by decide : Lim ([101] : Str))⟩, rfl⟩⟩⟩⟩⟩ (fun _ => by kernel_rfl) fun w7 A8 n9 ab ad hr12 aa ae => ?_)))))))
 have af := aa.gv ae 0 rfl
 have ac := aa.drop 0 rfl
 have ag := (hp0.k0 ad)
 refine L_call go79 [.pointer (some ⟨b, 0, none⟩), .slice A8 n9 ab] rfl ((F33.calls w7 ac.ok b r_b A2 n3 c4 r_p (hp5.st ac.st) ag hm ([([97] : Str), ([98] : Str), ([99] : Str), ([100] : Str), ([101] : Str)] : List Str) A8 n9 ab af _ H).mono ?_)
 rintro _ an ⟨r2, m, rfl, H, ah, ai, aj⟩
 have ak := aa.wm ah
 refine L_as (vs r2) rfl (L_nil (W_ret ?_))
 have al := ak.drop 0 rfl
 have am := ai
 exact ⟨[vs r2], ⟨_, rfl, rfl⟩, r2, m, rfl, H, al.gr.g1, am, aj⟩
end
section
open Go.RowKit
section
variable {P : Program} {n : Nat} {N R : Ps} {X : Nat → Ps} {t : Tm} {w : World} {ops : Array Oper} {C : World → Prop} {listed : Array Bool} {m : Nat}
theorem M_any3 (i j l : Nat) {o o' o'' : Oper} (hr : Region.ready .any ops listed = [i, j, l]) (hi : ops[i]? = some o) (hj : ops[j]? = some o') (hl : ops[l]? = some o'')
    (k : L P n ops (fun t' w' => C w' ∧ M P n ops C N R X m (listed.setIfInBounds i true) t' w') R X [o] t w)
    (k' : L P n ops (fun t' w' => C w' ∧ M P n ops C N R X m (listed.setIfInBounds j true) t' w') R X [o'] t w)
    (k'' : L P n ops (fun t' w' => C w' ∧ M P n ops C N R X m (listed.setIfInBounds l true) t' w') R X [o''] t w) : M P n ops C N R X (m + 1) listed t w := by
  unfold M
  refine ⟨fun h => (by rw [hr] at h; cases h), fun q hq => ?_⟩
  rw [hr] at hq
  rcases (by simpa using hq : q = i ∨ q = j ∨ q = l) with rfl | rfl | rfl
  · exact wpOp_mono (fun a' w' ⟨t', e, h⟩ => by rw [e]; unfold M at h; exact h) (M_op hi k)
  · exact wpOp_mono (fun a' w' ⟨t', e, h⟩ => by rw [e]; unfold M at h; exact h) (M_op hj k')
  · exact wpOp_mono (fun a' w' ⟨t', e, h⟩ => by rw [e]; unfold M at h; exact h) (M_op hl k'')
end
end
section
open Go.RowKit
def F66.E (r_b : List UInt8) (r_p : Int) (Q : Shape → Int → Prop) : Prop :=
 F46.E r_b r_p (fun r2 m => F15.E r_b m (r2.Pts.length : Int) (fun r3 m2 => F15.E r_b m2 40 (fun r4 m3 => (if r4 == 0 then F24.E r_b m3 ([0, 4, 1, 2, 3] : List Int) (fun r5 m4 => Q (⟨r5, r2.Pts⟩ : Shape) m4) else (if r4 == 1 then F24.E r_b m3 ([1000, 1001, (-1001)] : List Int) (fun r6 m5 => ((0 : Int) ≤ r3 ∧ r3 < (r2.Pts.length : Int)) ∧ Q (⟨r2.Kind, (r2.Pts.set r3.toNat (⟨r6, (nth r2.Pts r3).Y⟩ : Pt))⟩ : Shape) m5) else (if r4 == 2 then ((r2.Pts.length : Int) ≤ 9223372036854775807 → I64 ((r2.Pts.length : Int) - 1)) ∧ ((0 : Int) ≤ (r2.Pts.length : Int) - 1 ∧ (r2.Pts.length : Int) - 1 < (r2.Pts.length : Int)) ∧ (r2.Pts.length + ([(nth r2.Pts ((r2.Pts.length : Int) - 1))] : List Pt).length ≤ 268435456) ∧ Q (⟨r2.Kind, (r2.Pts ++ ([(nth r2.Pts ((r2.Pts.length : Int) - 1))] : List Pt))⟩ : Shape) m3 else (if r4 == 3 then ((0 : Int) ≤ 0 ∧ (0 : Int) ≤ r3 ∧ r3 ≤ (r2.Pts.length : Int)) ∧ Q (⟨r2.Kind, ((r2.Pts.drop (0 : Int).toNat).take (r3.toNat - (0 : Int).toNat))⟩ : Shape) m3 else Q r2 m3)))))))
theorem F66.calls {O : Ob} (w0 : World) (hO : Ok w0 O) (b : Nat) (r_b : List UInt8) (A2 : Option Addr) (n3 c4 : Nat) (r_p : Int) (hp5 : Sl Kd.byte w0 (Fr O) (.slice A2 n3 c4) r_b) (hp0 : Bx w0 b [.slice A2 n3 c4, vi r_p]) (hm : some b ∈ O) (Q : Shape → Int → Prop) (h : F66.E r_b r_p Q) :
  Ret Try.prog 47 [.pointer (some ⟨b, 0, none⟩)] w0 (fun v w' => ∃ (r0 : Shape) (m0 : Int) (Aw0 : Option Addr) (nw0 cw0 : Nat), v = .agg #[vi r0.Kind, .slice Aw0 nw0 cw0] ∧ Q r0 m0 ∧ Gr w0 w' (some b) ∧ Bx w' b [.slice A2 n3 c4, vi m0] ∧ Sl kPt w' (Fr O) (.slice Aw0 nw0 cw0) r0.Pts) := by
 unfold F66.E at h
 have H := h
 clear h
 have hc0 := Ct.initm1 (r := some b) hO (by intro b e; cases e; exact hm)
 refine Ret_enter Try.func47 rfl 53 rfl [.cell 2 25] rfl rfl ?_
 refine W_seq (W_reg (L_alloc [.int .i64 0, .slice none 0 0] ze25 fun w7 b8 ek hu11 g9 bl => ?_))
 have a9 := hc0.own g9 (some b8) (oglt ek hu11)
 refine L_nil (W_seq (W_reg (L_mv (.pointer (some ⟨b, 0, none⟩)) rfl ?_)))
 have el := (hp0.k0 g9)
 refine L_call go73 [.pointer (some ⟨b, 0, none⟩)] rfl ((F46.calls w7 a9.ok b r_b A2 n3 c4 r_p (hp5.st a9.st) el (List.mem_append_right _ hm) _ H).mono ?_)
 rintro _ hb ⟨r2, m, ab, ac, ad, rfl, H, bd, em, en, eo, ep⟩
 have eq := a9.ownm bd en eo
 refine L_alloc [.int .i64 0, .slice none 0 0] ze25 fun hc aa d1 hu31 ba er => ?_
 have bb := eq.own ba (some aa) (oglt d1 hu31)
 refine L_stb aa 0 [vi 0, .slice none 0 0] [vi r2.Kind, .slice ab ac ad] [vi r2.Kind, .slice ab ac ad] rfl er rfl sz25 rfl rfl rfl fun es bc b2 => ?_
 have al := bb.wr 0 rfl bc
 refine L_nil (W_seq (W_reg (L_mv (.pointer (some ⟨b, 0, none⟩)) rfl (L_pu (P_fa fa25_1 ⟨aa, 0, none⟩ ⟨aa, 1, none⟩ rfl rfl) (L_pu (P_ld ag23 cL ⟨aa, 1, none⟩ (.slice ab ac ad) rfl (b2.cell rfl)) ?_)))))
 have bq := (bb.sw (ep.so _ ba (oge d1)) 1 0 rfl rfl rfl bc)
 have ck := bq.le
 refine L_pu (P_len Try.underlying23 ab ac ad bq.len rfl) ?_
 have et := (bb.bmo (em.k0 ba) 0 rfl bc)
 refine L_call go25 [.pointer (some ⟨b, 0, none⟩), vi (r2.Pts.length : Int)] rfl ((F15.calls es al.ok b r_b A2 n3 c4 m (hp5.st al.st) et (List.mem_append_right _ hm) (r2.Pts.length : Int) _ H).mono ?_)
 rintro _ eu ⟨r3, m2, rfl, H, an, ev⟩
 have am := al.wm an
 refine L_as (vi r3) rfl (L_nil (W_seq (W_seq (W_reg (L_mv (.pointer (some ⟨b, 0, none⟩)) rfl ?_)))))
 refine L_call go25 [.pointer (some ⟨b, 0, none⟩), vi 40] rfl ((F15.calls eu am.ok b r_b A2 n3 c4 m2 (hp5.st am.st) ev (List.mem_append_right _ hm) 40 _ H).mono ?_)
 rintro _ hd ⟨r4, m3, rfl, H, ao, bn⟩
 have b3 := am.wm ao
 refine L_nil (W_block (W_seq (W_reg (L_pu (P_cmp r4 0 (r4 == 0) rfl rfl rfl) (L_as (vb (r4 == 0)) rfl (L_nil ?_))))))
 refine W_cond (r4 == 0) rfl (fun c3 => ?_) (fun c3 => ?_)
 ·have H := ite_t H c3
  refine W_reg (L_mv (.pointer (some ⟨b, 0, none⟩)) rfl (L_lit (kd := (Kd.int .i64)) ei86 b3 ([0, 4, 1, 2, 3] : List Int) (cells := [vi 0, vi 4, vi 1, vi 2, vi 3]) ⟨[vi 0], _, rfl, rfl, ⟨[vi 4], _, rfl, rfl, ⟨[vi 1], _, rfl, rfl, ⟨[vi 2], _, rfl, rfl, ⟨[vi 3], _, rfl, rfl, rfl⟩⟩⟩⟩⟩ (fun _ => by kernel_rfl) fun ew d2 d3 d4 cu hr60 ci ex => ?_))
  have ey := ci.gv ex 0 rfl
  have d5 := ci.drop 0 rfl
  have ez := (bn.k0 cu)
  refine L_call go48 [.pointer (some ⟨b, 0, none⟩), .slice d2 d3 d4] rfl ((F24.calls ew d5.ok b r_b A2 n3 c4 m3 (hp5.st d5.st) ez (List.mem_append_right _ hm) ([0, 4, 1, 2, 3] : List Int) d2 d3 d4 ey _ H).mono ?_)
  rintro _ he ⟨r5, m4, rfl, H, cv, e0⟩
  have cw := ci.wm cv
  refine L_pu (P_fa fa25_0 ⟨aa, 0, none⟩ ⟨aa, 0, none⟩ rfl rfl) ?_
  have e1 := (ci.bwm ((am.bwm (al.bwm b2 0 rfl an) 0 rfl ao).k0 cu) 1 rfl cv)
  refine L_stb aa 0 [vi r2.Kind, .slice ab ac ad] [vi r5] [vi r5, .slice ab ac ad] rfl e1 rfl sz3 rfl rfl rfl fun hf cx e2 => ?_
  have c5 := cw.wr 1 rfl cx
  refine L_nil (W_seq (W_reg (L_pu (P_lda ag25 sz25 cL ⟨aa, 0, none⟩ [vi r5, .slice ab ac ad] rfl rfl (e2.cells (off := 0) rfl)) ?_)))
  have e3 := (cw.bm (ci.bwm ((am.bwm (al.bwm (bb.bm ((a9.bwm bl 0 rfl bd).k0 ba) 2 0 rfl rfl rfl bc) 2 rfl an) 2 rfl ao).k0 cu) 3 rfl cv) 3 1 rfl rfl rfl cx)
  refine L_stb b8 0 [vi 0, .slice none 0 0] [vi r5, .slice ab ac ad] [vi r5, .slice ab ac ad] rfl e3 rfl sz25 rfl rfl rfl fun hg c6 e4 => ?_
  have c7 := c5.wr 3 rfl c6
  refine L_nil (W_ret ?_)
  have e5 := c7.bgv e4 3 rfl
  have c8 := c7.drop 3 rfl
  have e6 := (c7.sd (c5.sw (cw.sw (ci.swm ((am.swm (al.swm bq 1 rfl an) 1 rfl ao).so _ cu hr60) 2 rfl cv) 2 1 rfl rfl rfl cx) 2 3 rfl rfl rfl c6) 2 3 rfl rfl rfl)
  have e7 := c8.gv e6 2 rfl
  have e8 := c8.drop 2 rfl
  have e9 := e8.clear
  have fa := c8.std 2 rfl
  have fb := ((e5.st fa).st St.clear)
  have fc := (c5.bmo (cw.bmo e0 1 rfl cx) 3 rfl c6)
  exact ⟨[.agg #[vi r5, .slice ab ac ad]], ⟨_, _, rfl, fb.1.res rfl ag25 sz25, rfl⟩, (⟨r5, r2.Pts⟩ : Shape), m4, ab, ac, ad, rfl, H, e9.gr.g1, fc, (e7.st St.clear)⟩
 have H := ite_f H c3
 refine W_seq (W_reg (L_pu (P_cmp r4 1 (r4 == 1) rfl rfl rfl) (L_as (vb (r4 == 1)) rfl (L_nil ?_))))
 refine W_cond (r4 == 1) rfl (fun c9 => ?_) (fun c9 => ?_)
 ·have H := ite_t H c9
  refine W_mixr 9 [some b, bk ab] (by kernel_rfl) rfl fun hh cl cm => ?_
  have da := b3.k0 cl
  refine M_pu 0 rfl (by kernel_rfl) cm (P_fa fa25_1 ⟨aa, 0, none⟩ ⟨aa, 1, none⟩ rfl rfl) ?_
  have d6 := ((am.bwm (al.bwm b2 0 rfl an) 0 rfl ao).k0 cl)
  refine M_pu 1 rfl (by kernel_rfl) cm (P_ldr ag23 cR ⟨aa, 1, none⟩ (.slice ab ac ad) rfl (d6.cell rfl) (nm_cons (bx_nem da (j := 0) rfl) (nm_cons (bx_ne da (j := 0) (i := 1) rfl rfl (by decide)) nm_nil))) ?_
  refine M_pu 2 rfl (by kernel_rfl) cm (P_move (vi r3) rfl) ?_
  refine M_pu 3 rfl (by kernel_rfl) cm (P_move (.pointer (some ⟨b, 0, none⟩)) rfl) ?_
  refine M_any1 4 (by kernel_rfl) rfl ?_
  refine L_lit (kd := (Kd.int .i64)) ei86 da ([1000, 1001, (-1001)] : List Int) (cells := [vi 1000, vi 1001, vi (-1001)]) ⟨[vi 1000], _, rfl, rfl, ⟨[vi 1001], _, rfl, rfl, ⟨[vi (-1001)], _, rfl, rfl, rfl⟩⟩⟩ (fun _ => by kernel_rfl) fun fd d7 d8 d9 cn hr105 cj fe => ?_
  have ea := Gm.tm cm cn
  refine L_nil ⟨ea, ?_⟩
  refine M_any1 5 (by kernel_rfl) rfl ?_
  have ff := cj.gv fe 0 rfl
  have eb := cj.drop 0 rfl
  have fg := ((bn.k0 cl).k0 cn)
  refine L_call go48 [.pointer (some ⟨b, 0, none⟩), .slice d7 d8 d9] rfl ((F24.calls fd eb.ok b r_b A2 n3 c4 m3 (hp5.st eb.st) fg (List.mem_append_right _ hm) ([1000, 1001, (-1001)] : List Int) d7 d8 d9 ff _ H).mono ?_)
  rintro _ hi ⟨r6, m5, rfl, H, co, fh⟩
  have cy := cj.wm co
  have cz := Gm.tq ea co (hv_mem 0 rfl)
  refine L_nil ⟨cz, ?_⟩
  obtain ⟨db, H⟩ := H
  have dc := (cj.swm (((am.swm (al.swm bq 1 rfl an) 1 rfl ao).sn cl).so _ cn hr105) 2 rfl co)
  obtain ⟨c0, hj, ec, fi, fj⟩ := dc.get default (by decide) r3 db
  obtain rfl := kPt.op fi
  refine M_pu 6 rfl (by kernel_rfl) cz (P_ia Try.underlying23 se23 ab c0 ac ad dc.len r3 rfl ec rfl db) ?_
  refine M_pu 7 rfl (by kernel_rfl) cz (P_fa fa83_0 (c0.add (r3.toNat * 2)) ((c0.add (r3.toNat * 2)).add 0) rfl rfl) ?_
  refine M_any1 8 (by kernel_rfl) rfl ?_
  refine L_ste1 ab ac ad r2.Pts dc r3 db c0 ec 0 rfl [vi r6] rfl sz3 rfl (⟨r6, (nth r2.Pts r3).Y⟩ : Pt) [vi ((nth r2.Pts r3).X), vi ((nth r2.Pts r3).Y)] [vi r6, vi ((nth r2.Pts r3).Y)] fj rfl rfl (kPt.mk _ _ (⟨r6, (nth r2.Pts r3).Y⟩ : Pt)) fun hk cp fk => ?_
  have dd := cy.wr 2 rfl cp
  have fl := Gm.tq cz cp (hv_mem 1 rfl)
  refine L_nil ⟨fl, ?_⟩
  refine M_nil (by kernel_rfl) ?_
  refine W_seq (W_reg ?_)
  have fm := (cy.bm (cj.bwm (d6.k0 cn) 1 rfl co) 1 2 rfl rfl rfl cp)
  refine L_pu (P_lda ag25 sz25 cL ⟨aa, 0, none⟩ [vi r2.Kind, .slice ab ac ad] rfl rfl (fm.cells (off := 0) rfl)) ?_
  have fn := (cy.bm (cj.bwm (((am.bwm (al.bwm (bb.bm ((a9.bwm bl 0 rfl bd).k0 ba) 2 0 rfl rfl rfl bc) 2 rfl an) 2 rfl ao).k0 cl).k0 cn) 3 rfl co) 3 2 rfl rfl rfl cp)
  refine L_stb b8 0 [vi 0, .slice none 0 0] [vi r2.Kind, .slice ab ac ad] [vi r2.Kind, .slice ab ac ad] rfl fn rfl sz25 rfl rfl rfl fun hl de fo => ?_
  have df := dd.wr 3 rfl de
  refine L_nil (W_ret ?_)
  have fp := df.bgv fo 3 rfl
  have dg := df.drop 3 rfl
  have fq := (df.sd (dd.sw fk 2 3 rfl rfl rfl de) 2 3 rfl rfl rfl)
  have fr := dg.gv fq 2 rfl
  have fs := dg.drop 2 rfl
  have ft := fs.clear
  have fu := dg.std 2 rfl
  have fv := ((fp.st fu).st St.clear)
  have fw := (dd.bmo (cy.bmo fh 2 rfl cp) 3 rfl de)
  exact ⟨[.agg #[vi r2.Kind, .slice ab ac ad]], ⟨_, _, rfl, fv.1.res rfl ag25 sz25, rfl⟩, (⟨r2.Kind, (r2.Pts.set r3.toNat (⟨r6, (nth r2.Pts r3).Y⟩ : Pt))⟩ : Shape), m5, ab, ac, ad, rfl, H, ft.gr.g1, fw, (fr.st St.clear)⟩
 have H := ite_f H c9
 refine W_seq (W_reg (L_pu (P_cmp r4 2 (r4 == 2) rfl rfl rfl) (L_as (vb (r4 == 2)) rfl (L_nil ?_))))
 refine W_cond (r4 == 2) rfl (fun dh => ?_) (fun dh => ?_)
 ·have H := ite_t H dh
  obtain ⟨cq, H⟩ := H
  obtain ⟨bp, H⟩ := H
  obtain ⟨bw, H⟩ := H
  refine W_join (J := (fun t b6 => ∃ (br : Option Addr) (b4 : Nat) (b5 : Nat), Has t [(2, .pointer (some ⟨b8, 0, none⟩)), (3, .pointer (some ⟨aa, 0, none⟩))] ∧ Ct [some b] w0 b6 [some aa, bk br, some b8] O ∧ Sl Kd.byte b6 (Fr ([some aa, bk br, some b8] ++ O)) (.slice A2 n3 c4) r_b ∧ Ow kPt 83 b6 ([some aa, bk br, some b8] ++ O) (.slice br b4 b5) (r2.Pts ++ ([(nth r2.Pts ((r2.Pts.length : Int) - 1))] : List Pt)) ∧ Bx b6 b [.slice A2 n3 c4, vi m3] ∧ Bx b6 b8 [vi 0, .slice none 0 0] ∧ Bx b6 aa [vi r2.Kind, .slice br b4 b5])) ?_ ?_
  ·refine W_mixr 14 [bk ab, some aa] (by kernel_rfl) rfl fun hn aw af => ?_
   have bx := b3.k0 aw
   refine M_pu 0 rfl (by kernel_rfl) af (P_fa fa25_1 ⟨aa, 0, none⟩ ⟨aa, 1, none⟩ rfl rfl) ?_
   refine M_pu 2 rfl (by kernel_rfl) af (P_fa fa25_1 ⟨aa, 0, none⟩ ⟨aa, 1, none⟩ rfl rfl) ?_
   refine M_pu 4 rfl (by kernel_rfl) af (P_fa fa25_1 ⟨aa, 0, none⟩ ⟨aa, 1, none⟩ rfl rfl) ?_
   refine M_any3 1 3 5 (by kernel_rfl) rfl rfl rfl ?_ ?_ ?_
   ·have ax := ((am.bwm (al.bwm b2 0 rfl an) 0 rfl ao).k0 aw)
    refine L_pu (P_ld ag23 cL ⟨aa, 1, none⟩ (.slice ab ac ad) rfl (ax.cell rfl)) ?_
    refine L_nil ⟨af, ?_⟩
    refine M_any2 3 5 (by kernel_rfl) rfl rfl ?_ ?_
    ·refine L_pu (P_ld ag23 cL ⟨aa, 1, none⟩ (.slice ab ac ad) rfl (ax.cell rfl)) ?_
     refine L_nil ⟨af, ?_⟩
     refine M_any1 5 (by kernel_rfl) rfl ?_
     refine L_pu (P_ld ag23 cL ⟨aa, 1, none⟩ (.slice ab ac ad) rfl (ax.cell rfl)) ?_
     refine L_nil ⟨af, ?_⟩
     have ap := ((am.swm (al.swm bq 1 rfl an) 1 rfl ao).sn aw)
     refine M_pu 6 rfl (by kernel_rfl) af (P_len Try.underlying23 ab ac ad ap.len rfl) ?_
     have bz := cq (len_le ck)
     refine M_pu 7 rfl (by kernel_rfl) af (P_sub (r2.Pts.length : Int) 1 rfl rfl bz) ?_
     obtain ⟨a2, cr, bs, bt, bo⟩ := ap.get default (by decide) ((r2.Pts.length : Int) - 1) bp
     obtain rfl := kPt.op bt
     refine M_pu 8 rfl (by kernel_rfl) af (P_ia Try.underlying23 se23 ab a2 ac ad ap.len ((r2.Pts.length : Int) - 1) rfl bs rfl bp) ?_
     refine M_any1 9 (by kernel_rfl) rfl ?_
     refine L_pu (P_lda ag83 sz83 cL (a2.add (((r2.Pts.length : Int) - 1).toNat * 2)) [vi ((nth r2.Pts ((r2.Pts.length : Int) - 1)).X), vi ((nth r2.Pts ((r2.Pts.length : Int) - 1)).Y)] rfl rfl bo) ?_
     refine L_nil ⟨af, ?_⟩
     refine M_any1 10 (by kernel_rfl) rfl ?_
     refine L_lit (kd := kPt) ei23 bx ([(nth r2.Pts ((r2.Pts.length : Int) - 1))] : List Pt) (cells := [vi ((nth r2.Pts ((r2.Pts.length : Int) - 1)).X), vi ((nth r2.Pts ((r2.Pts.length : Int) - 1)).Y)]) ⟨[vi ((nth r2.Pts ((r2.Pts.length : Int) - 1)).X), vi ((nth r2.Pts ((r2.Pts.length : Int) - 1)).Y)], _, rfl, (kPt.mk _ _ (nth r2.Pts ((r2.Pts.length : Int) - 1))), rfl⟩ (fun _ => by kernel_rfl) fun b0 ay a3 a4 ae hr173 ag a5 => ?_
     have aj := Gm.tm af ae
     refine L_nil ⟨aj, ?_⟩
     refine M_any1 11 (by kernel_rfl) rfl ?_
     have a1 := (ap.so _ ae hr173)
     refine L_app ei23 ag (.slice ab ac ad) r2.Pts ([(nth r2.Pts ((r2.Pts.length : Int) - 1))] : List Pt) rfl a1 (.slice ay a3 a4) rfl a5.sx 2 rfl bw fun b7 aq ar au ak be ah bf => ?_
     have av := Gm.tq aj ak (hv_mem 0 rfl)
     have b9 := hv_app (L := [bk ay, some aa, bk ab, some b8]) (O := O) (i := 2) aj rfl (hv_mem 0 rfl) be ah
     refine L_nil ⟨av, ?_⟩
     refine M_pu 12 rfl (by kernel_rfl) av (P_fa fa25_1 ⟨aa, 0, none⟩ ⟨aa, 1, none⟩ rfl rfl) ?_
     refine M_any1 13 (by kernel_rfl) rfl ?_
     have bg := (ag.bm (ax.k0 ae) 1 2 rfl rfl rfl ak)
     refine L_stb aa 1 [vi r2.Kind, .slice ab ac ad] [.slice aq ar au] [vi r2.Kind, .slice aq ar au] rfl bg rfl sz23 rfl rfl rfl fun ca ai bh => ?_
     have az := ah.wr 1 rfl ai
     have bi := Gm.tq av ai (hv_mem 1 rfl)
     refine L_nil ⟨bi, ?_⟩
     refine M_nil (by kernel_rfl) ?_
     have a0 := az.drop 0 rfl
     have bj := (az.sd (ah.sw bf 2 1 rfl rfl rfl ai) 2 0 rfl rfl rfl)
     have a6 := (ah.bmo (ag.bmo ((bn.k0 aw).k0 ae) 2 rfl ak) 1 rfl ai)
     have a7 := (ah.bm (ag.bm (((am.bwm (al.bwm (bb.bm ((a9.bwm bl 0 rfl bd).k0 ba) 2 0 rfl rfl rfl bc) 2 rfl an) 2 rfl ao).k0 aw).k0 ae) 3 2 rfl rfl rfl ak) 3 1 rfl rfl rfl ai)
     have a8 := bh
     exact ⟨aq, ar, au, (hasI rfl), a0, (hp5.st a0.st), bj, a6, a7, a8⟩
    refine L_pu (P_ld ag23 cL ⟨aa, 1, none⟩ (.slice ab ac ad) rfl (ax.cell rfl)) ?_
    refine L_nil ⟨af, ?_⟩
    have ap := ((am.swm (al.swm bq 1 rfl an) 1 rfl ao).sn aw)
    refine M_pu 6 rfl (by kernel_rfl) af (P_len Try.underlying23 ab ac ad ap.len rfl) ?_
    have bz := cq (len_le ck)
    refine M_pu 7 rfl (by kernel_rfl) af (P_sub (r2.Pts.length : Int) 1 rfl rfl bz) ?_
    refine M_any1 3 (by kernel_rfl) rfl ?_
    refine L_pu (P_ld ag23 cL ⟨aa, 1, none⟩ (.slice ab ac ad) rfl (ax.cell rfl)) ?_
    refine L_nil ⟨af, ?_⟩
    obtain ⟨a2, cr, bs, bt, bo⟩ := ap.get default (by decide) ((r2.Pts.length : Int) - 1) bp
    obtain rfl := kPt.op bt
    refine M_pu 8 rfl (by kernel_rfl) af (P_ia Try.underlying23 se23 ab a2 ac ad ap.len ((r2.Pts.length : Int) - 1) rfl bs rfl bp) ?_
    refine M_any1 9 (by kernel_rfl) rfl ?_
    refine L_pu (P_lda ag83 sz83 cL (a2.add (((r2.Pts.length : Int) - 1).toNat * 2)) [vi ((nth r2.Pts ((r2.Pts.length : Int) - 1)).X), vi ((nth r2.Pts ((r2.Pts.length : Int) - 1)).Y)] rfl rfl bo) ?_
    refine L_nil ⟨af, ?_⟩
    refine M_any1 10 (by kernel_rfl) rfl ?_
    refine L_lit (kd := kPt) ei23 bx ([(nth r2.Pts ((r2.Pts.length : Int) - 1))] : List Pt) (cells := [vi ((nth r2.Pts ((r2.Pts.length : Int) - 1)).X), vi ((nth r2.Pts ((r2.Pts.length : Int) - 1)).Y)]) ⟨[vi ((nth r2.Pts ((r2.Pts.length : Int) - 1)).X), vi ((nth r2.Pts ((r2.Pts.length : Int) - 1)).Y)], _, rfl, (kPt.mk _ _ (nth r2.Pts ((r2.Pts.length : Int) - 1))), rfl⟩ (fun _ => by kernel_rfl) fun b0 ay a3 a4 ae hr173 ag a5 => ?_
    have aj := Gm.tm af ae
    refine L_nil ⟨aj, ?_⟩
    refine M_any1 11 (by kernel_rfl) rfl ?_
    have a1 := (ap.so _ ae hr173)
    refine L_app ei23 ag (.slice ab ac ad) r2.Pts ([(nth r2.Pts ((r2.Pts.length : Int) - 1))] : List Pt) rfl a1 (.slice ay a3 a4) rfl a5.sx 2 rfl bw fun b7 aq ar au ak be ah bf => ?_
    have av := Gm.tq aj ak (hv_mem 0 rfl)
    have b9 := hv_app (L := [bk ay, some aa, bk ab, some b8]) (O := O) (i := 2) aj rfl (hv_mem 0 rfl) be ah
    refine L_nil ⟨av, ?_⟩
    refine M_pu 12 rfl (by kernel_rfl) av (P_fa fa25_1 ⟨aa, 0, none⟩ ⟨aa, 1, none⟩ rfl rfl) ?_
    refine M_any1 13 (by kernel_rfl) rfl ?_
    have bg := (ag.bm (ax.k0 ae) 1 2 rfl rfl rfl ak)
    refine L_stb aa 1 [vi r2.Kind, .slice ab ac ad] [.slice aq ar au] [vi r2.Kind, .slice aq ar au] rfl bg rfl sz23 rfl rfl rfl fun ca ai bh => ?_
    have az := ah.wr 1 rfl ai
    have bi := Gm.tq av ai (hv_mem 1 rfl)
    refine L_nil ⟨bi, ?_⟩
    refine M_nil (by kernel_rfl) ?_
    have a0 := az.drop 0 rfl
    have bj := (az.sd (ah.sw bf 2 1 rfl rfl rfl ai) 2 0 rfl rfl rfl)
    have a6 := (ah.bmo (ag.bmo ((bn.k0 aw).k0 ae) 2 rfl ak) 1 rfl ai)
    have a7 := (ah.bm (ag.bm (((am.bwm (al.bwm (bb.bm ((a9.bwm bl 0 rfl bd).k0 ba) 2 0 rfl rfl rfl bc) 2 rfl an) 2 rfl ao).k0 aw).k0 ae) 3 2 rfl rfl rfl ak) 3 1 rfl rfl rfl ai)
    have a8 := bh
    exact ⟨aq, ar, au, (hasI rfl), a0, (hp5.st a0.st), bj, a6, a7, a8⟩
   ·have ax := ((am.bwm (al.bwm b2 0 rfl an) 0 rfl ao).k0 aw)
    refine L_pu (P_ld ag23 cL ⟨aa, 1, none⟩ (.slice ab ac ad) rfl (ax.cell rfl)) ?_
    refine L_nil ⟨af, ?_⟩
    refine M_any2 1 5 (by kernel_rfl) rfl rfl ?_ ?_
    ·refine L_pu (P_ld ag23 cL ⟨aa, 1, none⟩ (.slice ab ac ad) rfl (ax.cell rfl)) ?_
     refine L_nil ⟨af, ?_⟩
     refine M_any1 5 (by kernel_rfl) rfl ?_
     refine L_pu (P_ld ag23 cL ⟨aa, 1, none⟩ (.slice ab ac ad) rfl (ax.cell rfl)) ?_
     refine L_nil ⟨af, ?_⟩
     have ap := ((am.swm (al.swm bq 1 rfl an) 1 rfl ao).sn aw)
     refine M_pu 6 rfl (by kernel_rfl) af (P_len Try.underlying23 ab ac ad ap.len rfl) ?_
     have bz := cq (len_le ck)
     refine M_pu 7 rfl (by kernel_rfl) af (P_sub (r2.Pts.length : Int) 1 rfl rfl bz) ?_
     obtain ⟨a2, cr, bs, bt, bo⟩ := ap.get default (by decide) ((r2.Pts.length : Int) - 1) bp
     obtain rfl := kPt.op bt
     refine M_pu 8 rfl (by kernel_rfl) af (P_ia Try.underlying23 se23 ab a2 ac ad ap.len ((r2.Pts.length : Int) - 1) rfl bs rfl bp) ?_
     refine M_any1 9 (by kernel_rfl) rfl ?_
     refine L_pu (P_lda ag83 sz83 cL (a2.add (((r2.Pts.length : Int) - 1).toNat * 2)) [vi ((nth r2.Pts ((r2.Pts.length : Int) - 1)).X), vi ((nth r2.Pts ((r2.Pts.length : Int) - 1)).Y)] rfl rfl bo) ?_
     refine L_nil ⟨af, ?_⟩
     refine M_any1 10 (by kernel_rfl) rfl ?_
     refine L_lit (kd := kPt) ei23 bx ([(nth r2.Pts ((r2.Pts.length : Int) - 1))] : List Pt) (cells := [vi ((nth r2.Pts ((r2.Pts.length : Int) - 1)).X), vi ((nth r2.Pts ((r2.Pts.length : Int) - 1)).Y)]) ⟨[vi ((nth r2.Pts ((r2.Pts.length : Int) - 1)).X), vi ((nth r2.Pts ((r2.Pts.length : Int) - 1)).Y)], _, rfl, (kPt.mk _ _ (nth r2.Pts ((r2.Pts.length : Int) - 1))), rfl⟩ (fun _ => by kernel_rfl) fun b0 ay a3 a4 ae hr173 ag a5 => ?_
     have aj := Gm.tm af ae
     refine L_nil ⟨aj, ?_⟩
     refine M_any1 11 (by kernel_rfl) rfl ?_
     have a1 := (ap.so _ ae hr173)
     refine L_app ei23 ag (.slice ab ac ad) r2.Pts ([(nth r2.Pts ((r2.Pts.length : Int) - 1))] : List Pt) rfl a1 (.slice ay a3 a4) rfl a5.sx 2 rfl bw fun b7 aq ar au ak be ah bf => ?_
     have av := Gm.tq aj ak (hv_mem 0 rfl)
     have b9 := hv_app (L := [bk ay, some aa, bk ab, some b8]) (O := O) (i := 2) aj rfl (hv_mem 0 rfl) be ah
     refine L_nil ⟨av, ?_⟩
     refine M_pu 12 rfl (by kernel_rfl) av (P_fa fa25_1 ⟨aa, 0, none⟩ ⟨aa, 1, none⟩ rfl rfl) ?_
     refine M_any1 13 (by kernel_rfl) rfl ?_
     have bg := (ag.bm (ax.k0 ae) 1 2 rfl rfl rfl ak)
     refine L_stb aa 1 [vi r2.Kind, .slice ab ac ad] [.slice aq ar au] [vi r2.Kind, .slice aq ar au] rfl bg rfl sz23 rfl rfl rfl fun ca ai bh => ?_
     have az := ah.wr 1 rfl ai
     have bi := Gm.tq av ai (hv_mem 1 rfl)
     refine L_nil ⟨bi, ?_⟩
     refine M_nil (by kernel_rfl) ?_
     have a0 := az.drop 0 rfl
     have bj := (az.sd (ah.sw bf 2 1 rfl rfl rfl ai) 2 0 rfl rfl rfl)
     have a6 := (ah.bmo (ag.bmo ((bn.k0 aw).k0 ae) 2 rfl ak) 1 rfl ai)
     have a7 := (ah.bm (ag.bm (((am.bwm (al.bwm (bb.bm ((a9.bwm bl 0 rfl bd).k0 ba) 2 0 rfl rfl rfl bc) 2 rfl an) 2 rfl ao).k0 aw).k0 ae) 3 2 rfl rfl rfl ak) 3 1 rfl rfl rfl ai)
     have a8 := bh
     exact ⟨aq, ar, au, (hasI rfl), a0, (hp5.st a0.st), bj, a6, a7, a8⟩
    refine L_pu (P_ld ag23 cL ⟨aa, 1, none⟩ (.slice ab ac ad) rfl (ax.cell rfl)) ?_
    refine L_nil ⟨af, ?_⟩
    have ap := ((am.swm (al.swm bq 1 rfl an) 1 rfl ao).sn aw)
    refine M_pu 6 rfl (by kernel_rfl) af (P_len Try.underlying23 ab ac ad ap.len rfl) ?_
    have bz := cq (len_le ck)
    refine M_pu 7 rfl (by kernel_rfl) af (P_sub (r2.Pts.length : Int) 1 rfl rfl bz) ?_
    obtain ⟨a2, cr, bs, bt, bo⟩ := ap.get default (by decide) ((r2.Pts.length : Int) - 1) bp
    obtain rfl := kPt.op bt
    refine M_pu 8 rfl (by kernel_rfl) af (P_ia Try.underlying23 se23 ab a2 ac ad ap.len ((r2.Pts.length : Int) - 1) rfl bs rfl bp) ?_
    refine M_any2 1 9 (by kernel_rfl) rfl rfl ?_ ?_
    ·refine L_pu (P_ld ag23 cL ⟨aa, 1, none⟩ (.slice ab ac ad) rfl (ax.cell rfl)) ?_
     refine L_nil ⟨af, ?_⟩
     refine M_any1 9 (by kernel_rfl) rfl ?_
     refine L_pu (P_lda ag83 sz83 cL (a2.add (((r2.Pts.length : Int) - 1).toNat * 2)) [vi ((nth r2.Pts ((r2.Pts.length : Int) - 1)).X), vi ((nth r2.Pts ((r2.Pts.length : Int) - 1)).Y)] rfl rfl bo) ?_
     refine L_nil ⟨af, ?_⟩
     refine M_any1 10 (by kernel_rfl) rfl ?_
     refine L_lit (kd := kPt) ei23 bx ([(nth r2.Pts ((r2.Pts.length : Int) - 1))] : List Pt) (cells := [vi ((nth r2.Pts ((r2.Pts.length : Int) - 1)).X), vi ((nth r2.Pts ((r2.Pts.length : Int) - 1)).Y)]) ⟨[vi ((nth r2.Pts ((r2.Pts.length : Int) - 1)).X), vi ((nth r2.Pts ((r2.Pts.length : Int) - 1)).Y)], _, rfl, (kPt.mk _ _ (nth r2.Pts ((r2.Pts.length : Int) - 1))), rfl⟩ (fun _ => by kernel_rfl) fun b0 ay a3 a4 ae hr173 ag a5 => ?_
     have aj := Gm.tm af ae
     refine L_nil ⟨aj, ?_⟩
     refine M_any1 11 (by kernel_rfl) rfl ?_
     have a1 := (ap.so _ ae hr173)
     refine L_app ei23 ag (.slice ab ac ad) r2.Pts ([(nth r2.Pts ((r2.Pts.length : Int) - 1))] : List Pt) rfl a1 (.slice ay a3 a4) rfl a5.sx 2 rfl bw fun b7 aq ar au ak be ah bf => ?_
     have av := Gm.tq aj ak (hv_mem 0 rfl)
     have b9 := hv_app (L := [bk ay, some aa, bk ab, some b8]) (O := O) (i := 2) aj rfl (hv_mem 0 rfl) be ah
     refine L_nil ⟨av, ?_⟩
     refine M_pu 12 rfl (by kernel_rfl) av (P_fa fa25_1 ⟨aa, 0, none⟩ ⟨aa, 1, none⟩ rfl rfl) ?_
     refine M_any1 13 (by kernel_rfl) rfl ?_
     have bg := (ag.bm (ax.k0 ae) 1 2 rfl rfl rfl ak)
     refine L_stb aa 1 [vi r2.Kind, .slice ab ac ad] [.slice aq ar au] [vi r2.Kind, .slice aq ar au] rfl bg rfl sz23 rfl rfl rfl fun ca ai bh => ?_
     have az := ah.wr 1 rfl ai
     have bi := Gm.tq av ai (hv_mem 1 rfl)
     refine L_nil ⟨bi, ?_⟩
     refine M_nil (by kernel_rfl) ?_
     have a0 := az.drop 0 rfl
     have bj := (az.sd (ah.sw bf 2 1 rfl rfl rfl ai) 2 0 rfl rfl rfl)
     have a6 := (ah.bmo (ag.bmo ((bn.k0 aw).k0 ae) 2 rfl ak) 1 rfl ai)
     have a7 := (ah.bm (ag.bm (((am.bwm (al.bwm (bb.bm ((a9.bwm bl 0 rfl bd).k0 ba) 2 0 rfl rfl rfl bc) 2 rfl an) 2 rfl ao).k0 aw).k0 ae) 3 2 rfl rfl rfl ak) 3 1 rfl rfl rfl ai)
     have a8 := bh
     exact ⟨aq, ar, au, (hasI rfl), a0, (hp5.st a0.st), bj, a6, a7, a8⟩
    refine L_pu (P_lda ag83 sz83 cL (a2.add (((r2.Pts.length : Int) - 1).toNat * 2)) [vi ((nth r2.Pts ((r2.Pts.length : Int) - 1)).X), vi ((nth r2.Pts ((r2.Pts.length : Int) - 1)).Y)] rfl rfl bo) ?_
    refine L_nil ⟨af, ?_⟩
    refine M_any2 1 10 (by kernel_rfl) rfl rfl ?_ ?_
    ·refine L_pu (P_ld ag23 cL ⟨aa, 1, none⟩ (.slice ab ac ad) rfl (ax.cell rfl)) ?_
     refine L_nil ⟨af, ?_⟩
     refine M_any1 10 (by kernel_rfl) rfl ?_
     refine L_lit (kd := kPt) ei23 bx ([(nth r2.Pts ((r2.Pts.length : Int) - 1))] : List Pt) (cells := [vi ((nth r2.Pts ((r2.Pts.length : Int) - 1)).X), vi ((nth r2.Pts ((r2.Pts.length : Int) - 1)).Y)]) ⟨[vi ((nth r2.Pts ((r2.Pts.length : Int) - 1)).X), vi ((nth r2.Pts ((r2.Pts.length : Int) - 1)).Y)], _, rfl, (kPt.mk _ _ (nth r2.Pts ((r2.Pts.length : Int) - 1))), rfl⟩ (fun _ => by kernel_rfl) fun b0 ay a3 a4 ae hr173 ag a5 => ?_
     have aj := Gm.tm af ae
     refine L_nil ⟨aj, ?_⟩
     refine M_any1 11 (by kernel_rfl) rfl ?_
     have a1 := (ap.so _ ae hr173)
     refine L_app ei23 ag (.slice ab ac ad) r2.Pts ([(nth r2.Pts ((r2.Pts.length : Int) - 1))] : List Pt) rfl a1 (.slice ay a3 a4) rfl a5.sx 2 rfl bw fun b7 aq ar au ak be ah bf => ?_
     have av := Gm.tq aj ak (hv_mem 0 rfl)
     have b9 := hv_app (L := [bk ay, some aa, bk ab, some b8]) (O := O) (i := 2) aj rfl (hv_mem 0 rfl) be ah
     refine L_nil ⟨av, ?_⟩
     refine M_pu 12 rfl (by kernel_rfl) av (P_fa fa25_1 ⟨aa, 0, none⟩ ⟨aa, 1, none⟩ rfl rfl) ?_
     refine M_any1 13 (by kernel_rfl) rfl ?_
     have bg := (ag.bm (ax.k0 ae) 1 2 rfl rfl rfl ak)
     refine L_stb aa 1 [vi r2.Kind, .slice ab ac ad] [.slice aq ar au] [vi r2.Kind, .slice aq ar au] rfl bg rfl sz23 rfl rfl rfl fun ca ai bh => ?_
     have az := ah.wr 1 rfl ai
     have bi := Gm.tq av ai (hv_mem 1 rfl)
     refine L_nil ⟨bi, ?_⟩
     refine M_nil (by kernel_rfl) ?_
     have a0 := az.drop 0 rfl
     have bj := (az.sd (ah.sw bf 2 1 rfl rfl rfl ai) 2 0 rfl rfl rfl)
     have a6 := (ah.bmo (ag.bmo ((bn.k0 aw).k0 ae) 2 rfl ak) 1 rfl ai)
     have a7 := (ah.bm (ag.bm (((am.bwm (al.bwm (bb.bm ((a9.bwm bl 0 rfl bd).k0 ba) 2 0 rfl rfl rfl bc) 2 rfl an) 2 rfl ao).k0 aw).k0 ae) 3 2 rfl rfl rfl ak) 3 1 rfl rfl rfl ai)
     have a8 := bh
     exact ⟨aq, ar, au, (hasI rfl), a0, (hp5.st a0.st), bj, a6, a7, a8⟩
    refine L_lit (kd := kPt) ei23 bx ([(nth r2.Pts ((r2.Pts.length : Int) - 1))] : List Pt) (cells := [vi ((nth r2.Pts ((r2.Pts.length : Int) - 1)).X), vi ((nth r2.Pts ((r2.Pts.length : Int) - 1)).Y)]) ⟨[vi ((nth r2.Pts ((r2.Pts.length : Int) - 1)).X), vi ((nth r2.Pts ((r2.Pts.length : Int) - 1)).Y)], _, rfl, (kPt.mk _ _ (nth r2.Pts ((r2.Pts.length : Int) - 1))), rfl⟩ (fun _ => by kernel_rfl) fun b0 ay a3 a4 ae hr173 ag a5 => ?_
    have aj := Gm.tm af ae
    refine L_nil ⟨aj, ?_⟩
    refine M_any1 1 (by kernel_rfl) rfl ?_
    have a1 := (ax.k0 ae)
    refine L_pu (P_ld ag23 cL ⟨aa, 1, none⟩ (.slice ab ac ad) rfl (a1.cell rfl)) ?_
    refine L_nil ⟨aj, ?_⟩
    refine M_any1 11 (by kernel_rfl) rfl ?_
    have di := (ap.so _ ae hr173)
    refine L_app ei23 ag (.slice ab ac ad) r2.Pts ([(nth r2.Pts ((r2.Pts.length : Int) - 1))] : List Pt) rfl di (.slice ay a3 a4) rfl a5.sx 2 rfl bw fun fx cb cc cd b1 dj bu dk => ?_
    have ce := Gm.tq aj b1 (hv_mem 0 rfl)
    have fy := hv_app (L := [bk ay, some aa, bk ab, some b8]) (O := O) (i := 2) aj rfl (hv_mem 0 rfl) dj bu
    refine L_nil ⟨ce, ?_⟩
    refine M_pu 12 rfl (by kernel_rfl) ce (P_fa fa25_1 ⟨aa, 0, none⟩ ⟨aa, 1, none⟩ rfl rfl) ?_
    refine M_any1 13 (by kernel_rfl) rfl ?_
    have dl := (ag.bm a1 1 2 rfl rfl rfl b1)
    refine L_stb aa 1 [vi r2.Kind, .slice ab ac ad] [.slice cb cc cd] [vi r2.Kind, .slice cb cc cd] rfl dl rfl sz23 rfl rfl rfl fun fz bv dm => ?_
    have cs := bu.wr 1 rfl bv
    have dn := Gm.tq ce bv (hv_mem 1 rfl)
    refine L_nil ⟨dn, ?_⟩
    refine M_nil (by kernel_rfl) ?_
    have ct := cs.drop 0 rfl
    have a6 := (cs.sd (bu.sw dk 2 1 rfl rfl rfl bv) 2 0 rfl rfl rfl)
    have a7 := (bu.bmo (ag.bmo ((bn.k0 aw).k0 ae) 2 rfl b1) 1 rfl bv)
    have a8 := (bu.bm (ag.bm (((am.bwm (al.bwm (bb.bm ((a9.bwm bl 0 rfl bd).k0 ba) 2 0 rfl rfl rfl bc) 2 rfl an) 2 rfl ao).k0 aw).k0 ae) 3 2 rfl rfl rfl b1) 3 1 rfl rfl rfl bv)
    have dp := dm
    exact ⟨cb, cc, cd, (hasI rfl), ct, (hp5.st ct.st), a6, a7, a8, dp⟩
   have ax := ((am.bwm (al.bwm b2 0 rfl an) 0 rfl ao).k0 aw)
   refine L_pu (P_ld ag23 cL ⟨aa, 1, none⟩ (.slice ab ac ad) rfl (ax.cell rfl)) ?_
   refine L_nil ⟨af, ?_⟩
   have ap := ((am.swm (al.swm bq 1 rfl an) 1 rfl ao).sn aw)
   refine M_pu 6 rfl (by kernel_rfl) af (P_len Try.underlying23 ab ac ad ap.len rfl) ?_
   have bz := cq (len_le ck)
   refine M_pu 7 rfl (by kernel_rfl) af (P_sub (r2.Pts.length : Int) 1 rfl rfl bz) ?_
   refine M_any2 1 3 (by kernel_rfl) rfl rfl ?_ ?_
   ·refine L_pu (P_ld ag23 cL ⟨aa, 1, none⟩ (.slice ab ac ad) rfl (ax.cell rfl)) ?_
    refine L_nil ⟨af, ?_⟩
    refine M_any1 3 (by kernel_rfl) rfl ?_
    refine L_pu (P_ld ag23 cL ⟨aa, 1, none⟩ (.slice ab ac ad) rfl (ax.cell rfl)) ?_
    refine L_nil ⟨af, ?_⟩
    obtain ⟨a2, cr, bs, bt, bo⟩ := ap.get default (by decide) ((r2.Pts.length : Int) - 1) bp
    obtain rfl := kPt.op bt
    refine M_pu 8 rfl (by kernel_rfl) af (P_ia Try.underlying23 se23 ab a2 ac ad ap.len ((r2.Pts.length : Int) - 1) rfl bs rfl bp) ?_
    refine M_any1 9 (by kernel_rfl) rfl ?_
    refine L_pu (P_lda ag83 sz83 cL (a2.add (((r2.Pts.length : Int) - 1).toNat * 2)) [vi ((nth r2.Pts ((r2.Pts.length : Int) - 1)).X), vi ((nth r2.Pts ((r2.Pts.length : Int) - 1)).Y)] rfl rfl bo) ?_
    refine L_nil ⟨af, ?_⟩
    refine M_any1 10 (by kernel_rfl) rfl ?_
    refine L_lit (kd := kPt) ei23 bx ([(nth r2.Pts ((r2.Pts.length : Int) - 1))] : List Pt) (cells := [vi ((nth r2.Pts ((r2.Pts.length : Int) - 1)).X), vi ((nth r2.Pts ((r2.Pts.length : Int) - 1)).Y)]) ⟨[vi ((nth r2.Pts ((r2.Pts.length : Int) - 1)).X), vi ((nth r2.Pts ((r2.Pts.length : Int) - 1)).Y)], _, rfl, (kPt.mk _ _ (nth r2.Pts ((r2.Pts.length : Int) - 1))), rfl⟩ (fun _ => by kernel_rfl) fun b0 ay a3 a4 ae hr173 ag a5 => ?_
    have aj := Gm.tm af ae
    refine L_nil ⟨aj, ?_⟩
    refine M_any1 11 (by kernel_rfl) rfl ?_
    have a1 := (ap.so _ ae hr173)
    refine L_app ei23 ag (.slice ab ac ad) r2.Pts ([(nth r2.Pts ((r2.Pts.length : Int) - 1))] : List Pt) rfl a1 (.slice ay a3 a4) rfl a5.sx 2 rfl bw fun b7 aq ar au ak be ah bf => ?_
    have av := Gm.tq aj ak (hv_mem 0 rfl)
    have b9 := hv_app (L := [bk ay, some aa, bk ab, some b8]) (O := O) (i := 2) aj rfl (hv_mem 0 rfl) be ah
    refine L_nil ⟨av, ?_⟩
    refine M_pu 12 rfl (by kernel_rfl) av (P_fa fa25_1 ⟨aa, 0, none⟩ ⟨aa, 1, none⟩ rfl rfl) ?_
    refine M_any1 13 (by kernel_rfl) rfl ?_
    have bg := (ag.bm (ax.k0 ae) 1 2 rfl rfl rfl ak)
    refine L_stb aa 1 [vi r2.Kind, .slice ab ac ad] [.slice aq ar au] [vi r2.Kind, .slice aq ar au] rfl bg rfl sz23 rfl rfl rfl fun ca ai bh => ?_
    have az := ah.wr 1 rfl ai
    have bi := Gm.tq av ai (hv_mem 1 rfl)
    refine L_nil ⟨bi, ?_⟩
    refine M_nil (by kernel_rfl) ?_
    have a0 := az.drop 0 rfl
    have bj := (az.sd (ah.sw bf 2 1 rfl rfl rfl ai) 2 0 rfl rfl rfl)
    have a6 := (ah.bmo (ag.bmo ((bn.k0 aw).k0 ae) 2 rfl ak) 1 rfl ai)
    have a7 := (ah.bm (ag.bm (((am.bwm (al.bwm (bb.bm ((a9.bwm bl 0 rfl bd).k0 ba) 2 0 rfl rfl rfl bc) 2 rfl an) 2 rfl ao).k0 aw).k0 ae) 3 2 rfl rfl rfl ak) 3 1 rfl rfl rfl ai)
    have a8 := bh
    exact ⟨aq, ar, au, (hasI rfl), a0, (hp5.st a0.st), bj, a6, a7, a8⟩
   refine L_pu (P_ld ag23 cL ⟨aa, 1, none⟩ (.slice ab ac ad) rfl (ax.cell rfl)) ?_
   refine L_nil ⟨af, ?_⟩
   obtain ⟨a2, cr, bs, bt, bo⟩ := ap.get default (by decide) ((r2.Pts.length : Int) - 1) bp
   obtain rfl := kPt.op bt
   refine M_pu 8 rfl (by kernel_rfl) af (P_ia Try.underlying23 se23 ab a2 ac ad ap.len ((r2.Pts.length : Int) - 1) rfl bs rfl bp) ?_
   refine M_any2 1 9 (by kernel_rfl) rfl rfl ?_ ?_
   ·refine L_pu (P_ld ag23 cL ⟨aa, 1, none⟩ (.slice ab ac ad) rfl (ax.cell rfl)) ?_
    refine L_nil ⟨af, ?_⟩
    refine M_any1 9 (by kernel_rfl) rfl ?_
    refine L_pu (P_lda ag83 sz83 cL (a2.add (((r2.Pts.length : Int) - 1).toNat * 2)) [vi ((nth r2.Pts ((r2.Pts.length : Int) - 1)).X), vi ((nth r2.Pts ((r2.Pts.length : Int) - 1)).Y)] rfl rfl bo) ?_
    refine L_nil ⟨af, ?_⟩
    refine M_any1 10 (by kernel_rfl) rfl ?_
    refine L_lit (kd := kPt) ei23 bx ([(nth r2.Pts ((r2.Pts.length : Int) - 1))] : List Pt) (cells := [vi ((nth r2.Pts ((r2.Pts.length : Int) - 1)).X), vi ((nth r2.Pts ((r2.Pts.length : Int) - 1)).Y)]) ⟨[vi ((nth r2.Pts ((r2.Pts.length : Int) - 1)).X), vi ((nth r2.Pts ((r2.Pts.length : Int) - 1)).Y)], _, rfl, (kPt.mk _ _ (nth r2.Pts ((r2.Pts.length : Int) - 1))), rfl⟩ (fun _ => by kernel_rfl) fun b0 ay a3 a4 ae hr173 ag a5 => ?_
    have aj := Gm.tm af ae
    refine L_nil ⟨aj, ?_⟩
    refine M_any1 11 (by kernel_rfl) rfl ?_
    have a1 := (ap.so _ ae hr173)
    refine L_app ei23 ag (.slice ab ac ad) r2.Pts ([(nth r2.Pts ((r2.Pts.length : Int) - 1))] : List Pt) rfl a1 (.slice ay a3 a4) rfl a5.sx 2 rfl bw fun b7 aq ar au ak be ah bf => ?_
    have av := Gm.tq aj ak (hv_mem 0 rfl)
    have b9 := hv_app (L := [bk ay, some aa, bk ab, some b8]) (O := O) (i := 2) aj rfl (hv_mem 0 rfl) be ah
    refine L_nil ⟨av, ?_⟩
    refine M_pu 12 rfl (by kernel_rfl) av (P_fa fa25_1 ⟨aa, 0, none⟩ ⟨aa, 1, none⟩ rfl rfl) ?_
    refine M_any1 13 (by kernel_rfl) rfl ?_
    have bg := (ag.bm (ax.k0 ae) 1 2 rfl rfl rfl ak)
    refine L_stb aa 1 [vi r2.Kind, .slice ab ac ad] [.slice aq ar au] [vi r2.Kind, .slice aq ar au] rfl bg rfl sz23 rfl rfl rfl fun ca ai bh => ?_
    have az := ah.wr 1 rfl ai
    have bi := Gm.tq av ai (hv_mem 1 rfl)
    refine L_nil ⟨bi, ?_⟩
    refine M_nil (by kernel_rfl) ?_
    have a0 := az.drop 0 rfl
    have bj := (az.sd (ah.sw bf 2 1 rfl rfl rfl ai) 2 0 rfl rfl rfl)
    have a6 := (ah.bmo (ag.bmo ((bn.k0 aw).k0 ae) 2 rfl ak) 1 rfl ai)
    have a7 := (ah.bm (ag.bm (((am.bwm (al.bwm (bb.bm ((a9.bwm bl 0 rfl bd).k0 ba) 2 0 rfl rfl rfl bc) 2 rfl an) 2 rfl ao).k0 aw).k0 ae) 3 2 rfl rfl rfl ak) 3 1 rfl rfl rfl ai)
    have a8 := bh
    exact ⟨aq, ar, au, (hasI rfl), a0, (hp5.st a0.st), bj, a6, a7, a8⟩
   refine L_pu (P_lda ag83 sz83 cL (a2.add (((r2.Pts.length : Int) - 1).toNat * 2)) [vi ((nth r2.Pts ((r2.Pts.length : Int) - 1)).X), vi ((nth r2.Pts ((r2.Pts.length : Int) - 1)).Y)] rfl rfl bo) ?_
   refine L_nil ⟨af, ?_⟩
   refine M_any2 1 10 (by kernel_rfl) rfl rfl ?_ ?_
   ·refine L_pu (P_ld ag23 cL ⟨aa, 1, none⟩ (.slice ab ac ad) rfl (ax.cell rfl)) ?_
    refine L_nil ⟨af, ?_⟩
    refine M_any1 10 (by kernel_rfl) rfl ?_
    refine L_lit (kd := kPt) ei23 bx ([(nth r2.Pts ((r2.Pts.length : Int) - 1))] : List Pt) (cells := [vi ((nth r2.Pts ((r2.Pts.length : Int) - 1)).X), vi ((nth r2.Pts ((r2.Pts.length : Int) - 1)).Y)]) ⟨[vi ((nth r2.Pts ((r2.Pts.length : Int) - 1)).X), vi ((nth r2.Pts ((r2.Pts.length : Int) - 1)).Y)], _, rfl, (kPt.mk _ _ (nth r2.Pts ((r2.Pts.length : Int) - 1))), rfl⟩ (fun _ => by kernel_rfl) fun b0 ay a3 a4 ae hr173 ag a5 => ?_
    have aj := Gm.tm af ae
    refine L_nil ⟨aj, ?_⟩
    refine M_any1 11 (by kernel_rfl) rfl ?_
    have a1 := (ap.so _ ae hr173)
    refine L_app ei23 ag (.slice ab ac ad) r2.Pts ([(nth r2.Pts ((r2.Pts.length : Int) - 1))] : List Pt) rfl a1 (.slice ay a3 a4) rfl a5.sx 2 rfl bw fun b7 aq ar au ak be ah bf => ?_
    have av := Gm.tq aj ak (hv_mem 0 rfl)
    have b9 := hv_app (L := [bk ay, some aa, bk ab, some b8]) (O := O) (i := 2) aj rfl (hv_mem 0 rfl) be ah
    refine L_nil ⟨av, ?_⟩
    refine M_pu 12 rfl (by kernel_rfl) av (P_fa fa25_1 ⟨aa, 0, none⟩ ⟨aa, 1, none⟩ rfl rfl) ?_
    refine M_any1 13 (by kernel_rfl) rfl ?_
    have bg := (ag.bm (ax.k0 ae) 1 2 rfl rfl rfl ak)
    refine L_stb aa 1 [vi r2.Kind, .slice ab ac ad] [.slice aq ar au] [vi r2.Kind, .slice aq ar au] rfl bg rfl sz23 rfl rfl rfl fun ca ai bh => ?_
    have az := ah.wr 1 rfl ai
    have bi := Gm.tq av ai (hv_mem 1 rfl)
    refine L_nil ⟨bi, ?_⟩
    refine M_nil (by kernel_rfl) ?_
    have a0 := az.drop 0 rfl
    have bj := (az.sd (ah.sw bf 2 1 rfl rfl rfl ai) 2 0 rfl rfl rfl)
    have a6 := (ah.bmo (ag.bmo ((bn.k0 aw).k0 ae) 2 rfl ak) 1 rfl ai)
    have a7 := (ah.bm (ag.bm (((am.bwm (al.bwm (bb.bm ((a9.bwm bl 0 rfl bd).k0 ba) 2 0 rfl rfl rfl bc) 2 rfl an) 2 rfl ao).k0 aw).k0 ae) 3 2 rfl rfl rfl ak) 3 1 rfl rfl rfl ai)
    have a8 := bh
    exact ⟨aq, ar, au, (hasI rfl), a0, (hp5.st a0.st), bj, a6, a7, a8⟩
   refine L_lit (kd := kPt) ei23 bx ([(nth r2.Pts ((r2.Pts.length : Int) - 1))] : List Pt) (cells := [vi ((nth r2.Pts ((r2.Pts.length : Int) - 1)).X), vi ((nth r2.Pts ((r2.Pts.length : Int) - 1)).Y)]) ⟨[vi ((nth r2.Pts ((r2.Pts.length : Int) - 1)).X), vi ((nth r2.Pts ((r2.Pts.length : Int) - 1)).Y)], _, rfl, (kPt.mk _ _ (nth r2.Pts ((r2.Pts.length : Int) - 1))), rfl⟩ (fun _ => by kernel_rfl) fun b0 ay a3 a4 ae hr173 ag a5 => ?_
   have aj := Gm.tm af ae
   refine L_nil ⟨aj, ?_⟩
   refine M_any1 1 (by kernel_rfl) rfl ?_
   have a1 := (ax.k0 ae)
   refine L_pu (P_ld ag23 cL ⟨aa, 1, none⟩ (.slice ab ac ad) rfl (a1.cell rfl)) ?_
   refine L_nil ⟨aj, ?_⟩
   refine M_any1 11 (by kernel_rfl) rfl ?_
   have di := (ap.so _ ae hr173)
   refine L_app ei23 ag (.slice ab ac ad) r2.Pts ([(nth r2.Pts ((r2.Pts.length : Int) - 1))] : List Pt) rfl di (.slice ay a3 a4) rfl a5.sx 2 rfl bw fun fx cb cc cd b1 dj bu dk => ?_
   have ce := Gm.tq aj b1 (hv_mem 0 rfl)
   have fy := hv_app (L := [bk ay, some aa, bk ab, some b8]) (O := O) (i := 2) aj rfl (hv_mem 0 rfl) dj bu
   refine L_nil ⟨ce, ?_⟩
   refine M_pu 12 rfl (by kernel_rfl) ce (P_fa fa25_1 ⟨aa, 0, none⟩ ⟨aa, 1, none⟩ rfl rfl) ?_
   refine M_any1 13 (by kernel_rfl) rfl ?_
   have dl := (ag.bm a1 1 2 rfl rfl rfl b1)
   refine L_stb aa 1 [vi r2.Kind, .slice ab ac ad] [.slice cb cc cd] [vi r2.Kind, .slice cb cc cd] rfl dl rfl sz23 rfl rfl rfl fun fz bv dm => ?_
   have cs := bu.wr 1 rfl bv
   have dn := Gm.tq ce bv (hv_mem 1 rfl)
   refine L_nil ⟨dn, ?_⟩
   refine M_nil (by kernel_rfl) ?_
   have ct := cs.drop 0 rfl
   have a6 := (cs.sd (bu.sw dk 2 1 rfl rfl rfl bv) 2 0 rfl rfl rfl)
   have a7 := (bu.bmo (ag.bmo ((bn.k0 aw).k0 ae) 2 rfl b1) 1 rfl bv)
   have a8 := (bu.bm (ag.bm (((am.bwm (al.bwm (bb.bm ((a9.bwm bl 0 rfl bd).k0 ba) 2 0 rfl rfl rfl bc) 2 rfl an) 2 rfl ao).k0 aw).k0 ae) 3 2 rfl rfl rfl b1) 3 1 rfl rfl rfl bv)
   have dp := dm
   exact ⟨cb, cc, cd, (hasI rfl), ct, (hp5.st ct.st), a6, a7, a8, dp⟩
  rintro ho b6 ⟨br, b4, b5, f0, dq, hp, f1, f2, f3, f4⟩
  obtain ⟨hq, rfl⟩ := Has.ins f0
  refine W_seq (W_reg (L_pu (P_lda ag25 sz25 cL ⟨aa, 0, none⟩ [vi r2.Kind, .slice br b4 b5] rfl rfl (f4.cells (off := 0) rfl)) (L_stb b8 0 [vi 0, .slice none 0 0] [vi r2.Kind, .slice br b4 b5] [vi r2.Kind, .slice br b4 b5] rfl f3 rfl sz25 rfl rfl rfl fun f5 dr f6 => ?_)))
  have ds := dq.wr 2 rfl dr
  refine L_nil (W_ret ?_)
  have f7 := ds.bgv f6 2 rfl
  have dt := ds.drop 2 rfl
  have f8 := (ds.sd (dq.sw f1 1 2 rfl rfl rfl dr) 1 2 rfl rfl rfl)
  have f9 := dt.gv f8 1 rfl
  have ed : Ct [some b] w0 f5 [some aa] O := dt.drop 1 rfl
  have ga := ed.drop 0 rfl
  have gb := dt.std 1 rfl
  have ee := ed.std 0 rfl
  have gc := ((f7.st gb).st ee)
  have gd := (dq.bmo f2 2 rfl dr)
  exact ⟨[.agg #[vi r2.Kind, .slice br b4 b5]], ⟨_, _, rfl, gc.1.res rfl ag25 sz25, rfl⟩, (⟨r2.Kind, (r2.Pts ++ ([(nth r2.Pts ((r2.Pts.length : Int) - 1))] : List Pt))⟩ : Shape), m3, br, b4, b5, rfl, H, ga.gr.g1, gd, (f9.st ee)⟩
 have H := ite_f H dh
 refine W_seq (W_reg (L_pu (P_cmp r4 3 (r4 == 3) rfl rfl rfl) (L_as (vb (r4 == 3)) rfl (L_nil ?_))))
 refine W_cond (r4 == 3) rfl (fun du => ?_) (fun du => ?_)
 ·have H := ite_t H du
  refine W_reg (L_pu (P_fa fa25_1 ⟨aa, 0, none⟩ ⟨aa, 1, none⟩ rfl rfl) ?_)
  have ef := (am.bwm (al.bwm b2 0 rfl an) 0 rfl ao)
  refine L_pu (P_ld ag23 cL ⟨aa, 1, none⟩ (.slice ab ac ad) rfl (ef.cell rfl)) (L_mv (vi r3) rfl ?_)
  have ge := (am.swm (al.swm bq 1 rfl an) 1 rfl ao)
  have gf := b3.gv ge 1 rfl
  have c1 := b3.drop 1 rfl
  obtain ⟨gg, H⟩ := H
  refine L_cuts Try.underlying23 se23 ab ac ad r2.Pts rfl gf 0 r3 rfl rfl gg fun cf cg ch gh => ?_
  refine L_pu (P_fa fa25_1 ⟨aa, 0, none⟩ ⟨aa, 1, none⟩ rfl rfl) ?_
  have gi := ef
  refine L_stb aa 1 [vi r2.Kind, .slice ab ac ad] [.slice cf cg ch] [vi r2.Kind, .slice cf cg ch] rfl gi rfl sz23 rfl rfl rfl fun hr c2 gj => ?_
  have dv := c1.wr 0 rfl c2
  refine L_nil (W_seq (W_reg (L_pu (P_lda ag25 sz25 cL ⟨aa, 0, none⟩ [vi r2.Kind, .slice cf cg ch] rfl rfl (gj.cells (off := 0) rfl)) ?_)))
  have gk := (c1.bm (am.bwm (al.bwm (bb.bm ((a9.bwm bl 0 rfl bd).k0 ba) 2 0 rfl rfl rfl bc) 2 rfl an) 2 rfl ao) 1 0 rfl rfl rfl c2)
  refine L_stb b8 0 [vi 0, .slice none 0 0] [vi r2.Kind, .slice cf cg ch] [vi r2.Kind, .slice cf cg ch] rfl gk rfl sz25 rfl rfl rfl fun gl dw gm => ?_
  have dx := dv.wr 1 rfl dw
  refine L_nil (W_ret ?_)
  have gn := dx.bgv gm 1 rfl
  have eg := dx.drop 1 rfl
  have gp : Ct [some b] w0 gl [] O := eg.drop 0 rfl
  have eh := eg.std 0 rfl
  have gq := (gn.st eh)
  have gs := c1.stw 0 rfl c2
  have gt := dv.stw 1 rfl dw
  have gu := dx.std 1 rfl
  have gw := ((((gh.st gs).st gt).st gu).st eh)
  have gx := (dv.bmo (c1.bmo bn 0 rfl c2) 1 rfl dw)
  exact ⟨[.agg #[vi r2.Kind, .slice cf cg ch]], ⟨_, _, rfl, gq.1.res rfl ag25 sz25, rfl⟩, (⟨r2.Kind, ((r2.Pts.drop (0 : Int).toNat).take (r3.toNat - (0 : Int).toNat))⟩ : Shape), m3, cf, cg, ch, rfl, H, gp.gr.g1, gx, gw⟩
 have H := ite_f H du
 refine W_skip (W_seq (W_reg ?_))
 have gy := (am.bwm (al.bwm b2 0 rfl an) 0 rfl ao)
 refine L_pu (P_lda ag25 sz25 cL ⟨aa, 0, none⟩ [vi r2.Kind, .slice ab ac ad] rfl rfl (gy.cells (off := 0) rfl)) ?_
 have gz := (am.bwm (al.bwm (bb.bm ((a9.bwm bl 0 rfl bd).k0 ba) 2 0 rfl rfl rfl bc) 2 rfl an) 2 rfl ao)
 refine L_stb b8 0 [vi 0, .slice none 0 0] [vi r2.Kind, .slice ab ac ad] [vi r2.Kind, .slice ab ac ad] rfl gz rfl sz25 rfl rfl rfl fun g0 dy g2 => ?_
 have dz := b3.wr 2 rfl dy
 refine L_nil (W_ret ?_)
 have g3 := dz.bgv g2 2 rfl
 have d0 := dz.drop 2 rfl
 have g4 := (dz.sd (b3.sw (am.swm (al.swm bq 1 rfl an) 1 rfl ao) 1 2 rfl rfl rfl dy) 1 2 rfl rfl rfl)
 have g5 := d0.gv g4 1 rfl
 have ei := d0.drop 1 rfl
 have g6 : Ct [some b] w0 g0 [] O := ei.drop 0 rfl
 have g7 := d0.std 1 rfl
 have ej := ei.std 0 rfl
 have g8 := ((g3.st g7).st ej)
 have ha := (b3.bmo bn 2 rfl dy)
 exact ⟨[.agg #[vi r2.Kind, .slice ab ac ad]], ⟨_, _, rfl, g8.1.res rfl ag25 sz25, rfl⟩, r2, m3, ab, ac, ad, rfl, H, g6.gr.g1, ha, (g5.st ej)⟩
end
section
open Go.RowKit
def F67.E (r_b : List UInt8) (r_p : Int) (Q : Feat → Int → Prop) : Prop :=
 F106.E r_b r_p (fun r2 m => F58.E r_b m r2 (fun r3 m2 => F15.E r_b m2 40 (fun r4 m3 => (if r4 == 0 then F33.E r_b m3 ([([] : Str), ([65] : Str), ([97, 98, 99, 100, 101, 102, 103] : Str)] : List Str) (fun r5 m4 => Q (⟨r5, r3.Shape, r3.Tags⟩ : Feat) m4) else (if r4 == 1 then F66.E r_b m3 (fun r6 m5 => Q (⟨r3.Id, r6, r3.Tags⟩ : Feat) m5) else (if r4 == 2 then (r3.Tags.length + ([(⟨([97] : Str), ([98] : Str)⟩ : Tag)] : List Tag).length ≤ 268435456) ∧ Q (⟨r3.Id, r3.Shape, (r3.Tags ++ ([(⟨([97] : Str), ([98] : Str)⟩ : Tag)] : List Tag))⟩ : Feat) m3 else (if r4 == 3 then F33.E r_b m3 ([([] : Str), ([66] : Str)] : List Str) (fun r7 m6 => (r3.Tags.length + ([(⟨([122, 122] : Str), r7⟩ : Tag)] : List Tag).length ≤ 268435456) ∧ Q (⟨r3.Id, r3.Shape, (r3.Tags ++ ([(⟨([122, 122] : Str), r7⟩ : Tag)] : List Tag))⟩ : Feat) m6) else Q r3 m3)))))))
theorem F67.calls {O : Ob} (w0 : World) (hO : Ok w0 O) (b : Nat) (r_b : List UInt8) (A2 : Option Addr) (n3 c4 : Nat) (r_p : Int) (hp5 : Sl Kd.byte w0 (Fr O) (.slice A2 n3 c4) r_b) (hp0 : Bx w0 b [.slice A2 n3 c4, vi r_p]) (hm : some b ∈ O) (Q : Feat → Int → Prop) (h : F67.E r_b r_p Q) :
  Ret Try.prog 26 [.pointer (some ⟨b, 0, none⟩)] w0 (fun v w' => ∃ (r0 : Feat) (m0 : Int) (Aw0 : Option Addr) (nw0 cw0 : Nat) (Aw2 : Option Addr) (nw2 cw2 : Nat), v = .agg #[vs r0.Id, vi r0.Shape.Kind, .slice Aw0 nw0 cw0, .slice Aw2 nw2 cw2] ∧ Q r0 m0 ∧ Gr w0 w' (some b) ∧ Bx w' b [.slice A2 n3 c4, vi m0] ∧ Lim r0.Id ∧ Sl kPt w' (Fr O) (.slice Aw0 nw0 cw0) r0.Shape.Pts ∧ Sl kTag w' (Fr O) (.slice Aw2 nw2 cw2) r0.Tags) := by
 unfold F67.E at h
 have H := h
 clear h
 have hc0 := Ct.initm1 (r := some b) hO (by intro b e; cases e; exact hm)
 refine Ret_enter Try.func26 rfl 41 rfl [.cell 2 28] rfl rfl ?_
 refine W_seq (W_reg (L_alloc [vs [], .int .i64 0, .slice none 0 0, .slice none 0 0] ze28 fun w7 b8 ez hu11 g9 bi => ?_))
 have a8 := hc0.own g9 (some b8) (oglt ez hu11)
 refine L_nil (W_seq (W_reg (L_mv (.pointer (some ⟨b, 0, none⟩)) rfl (L_mv (.pointer (some ⟨b, 0, none⟩)) rfl ?_))))
 have e0 := (hp0.k0 g9)
 refine L_call go78 [.pointer (some ⟨b, 0, none⟩)] rfl ((F106.calls w7 a8.ok b r_b A2 n3 c4 r_p (hp5.st a8.st) e0 (List.mem_append_right _ hm) _ H).mono ?_)
 rintro _ e1 ⟨r2, m, rfl, H, bg, e2, e3⟩
 have a9 := a8.wm bg
 refine L_call go23 [.pointer (some ⟨b, 0, none⟩), vs r2] rfl ((F58.calls e1 a9.ok b r_b A2 n3 c4 m (hp5.st a9.st) e2 (List.mem_append_right _ hm) r2 e3 _ H).mono ?_)
 rintro _ ht ⟨r3, m2, aa, ac, ad, ae, af, ag, rfl, H, bh, e4, e5, e6, bn, bo, bj⟩
 have e7 := a9.ownm bh e5 e6
 refine L_alloc [vs [], .int .i64 0, .slice none 0 0, .slice none 0 0] ze28 fun hu ab a2 hu44 ao e8 => ?_
 have ap := e7.own ao (some ab) (oglt a2 hu44)
 refine L_stb ab 0 [vs ([] : Str), vi 0, .slice none 0 0, .slice none 0 0] [vs r3.Id, vi r3.Shape.Kind, .slice aa ac ad, .slice ae af ag] [vs r3.Id, vi r3.Shape.Kind, .slice aa ac ad, .slice ae af ag] rfl e8 rfl sz28 rfl rfl rfl fun e9 aq bl => ?_
 have ah := ap.wr 0 rfl aq
 refine L_nil (W_seq (W_seq (W_reg (L_mv (.pointer (some ⟨b, 0, none⟩)) rfl ?_))))
 have fa := (ap.bmo (e4.k0 ao) 0 rfl aq)
 refine L_call go25 [.pointer (some ⟨b, 0, none⟩), vi 40] rfl ((F15.calls e9 ah.ok b r_b A2 n3 c4 m2 (hp5.st ah.st) fa (List.mem_append_right _ hm) 40 _ H).mono ?_)
 rintro _ fb ⟨r4, m3, rfl, H, ai, bp⟩
 have a6 := ah.wm ai
 refine L_nil (W_block (W_seq (W_reg (L_pu (P_cmp r4 0 (r4 == 0) rfl rfl rfl) (L_as (vb (r4 == 0)) rfl (L_nil ?_))))))
 refine W_cond (r4 == 0) rfl (fun ds => ?_) (fun ds => ?_)
 ·have H := ite_t H ds
  refine W_reg (L_mv (.pointer (some ⟨b, 0, none⟩)) rfl (L_lit (kd := Kd.str) ei31 a6 ([([] : Str), ([65] : Str), ([97, 98, 99, 100, 101, 102, 103] : Str)] : List Str) (cells := [vs ([] : Str), vs ([65] : Str), vs ([97, 98, 99, 100, 101, 102, 103] : Str)]) ⟨[vs ([] : Str)], _, rfl, ⟨rfl, (by decide : Lim ([] : Str))⟩, ⟨[vs ([65] : Str)], _, rfl, ⟨rfl, (by decide : Lim ([65] : Str))⟩, ⟨[vs ([97, 98, 99, 100, 101, 102, 103] : Str)], _, rfl, ⟨rfl, (by decide : Lim ([97, 98, 99, 100, 101, 102, 103] : Str))⟩, rfl⟩⟩⟩ (fun _ => by kernel_rfl) fun fc dt eb ec cn hr65 bq fd => ?_))
  have fe := bq.gv fd 0 rfl
  have ed := bq.drop 0 rfl
  have ff := (bp.k0 cn)
  refine L_call go79 [.pointer (some ⟨b, 0, none⟩), .slice dt eb ec] rfl ((F33.calls fc ed.ok b r_b A2 n3 c4 m3 (hp5.st ed.st) ff (List.mem_append_right _ hm) ([([] : Str), ([65] : Str), ([97, 98, 99, 100, 101, 102, 103] : Str)] : List Str) dt eb ec fe _ H).mono ?_)
  rintro _ hv ⟨r5, m4, rfl, H, co, fg, fh⟩
  have cp := bq.wm co
  refine L_pu (P_fa fa28_0 ⟨ab, 0, none⟩ ⟨ab, 0, none⟩ rfl rfl) ?_
  have fi := (bq.bwm ((ah.bwm bl 0 rfl ai).k0 cn) 1 rfl co)
  refine L_stb ab 0 [vs r3.Id, vi r3.Shape.Kind, .slice aa ac ad, .slice ae af ag] [vs r5] [vs r5, vi r3.Shape.Kind, .slice aa ac ad, .slice ae af ag] rfl fi rfl sz9 rfl rfl rfl fun hw cq fj => ?_
  have c5 := cp.wr 1 rfl cq
  refine L_nil (W_seq (W_reg (L_pu (P_lda ag28 sz28 cL ⟨ab, 0, none⟩ [vs r5, vi r3.Shape.Kind, .slice aa ac ad, .slice ae af ag] rfl rfl (fj.cells (off := 0) rfl)) ?_)))
  have fk := (cp.bm (bq.bwm ((ah.bwm (ap.bm ((a9.bwm (a8.bwm bi 0 rfl bg) 0 rfl bh).k0 ao) 3 0 rfl rfl rfl aq) 3 rfl ai).k0 cn) 4 rfl co) 4 1 rfl rfl rfl cq)
  refine L_stb b8 0 [vs ([] : Str), vi 0, .slice none 0 0, .slice none 0 0] [vs r5, vi r3.Shape.Kind, .slice aa ac ad, .slice ae af ag] [vs r5, vi r3.Shape.Kind, .slice aa ac ad, .slice ae af ag] rfl fk rfl sz28 rfl rfl rfl fun fl c6 fm => ?_
  have c7 := c5.wr 4 rfl c6
  refine L_nil (W_ret ?_)
  have fn := c7.bgv fm 4 rfl
  have c8 := c7.drop 4 rfl
  have fo := (c7.sd (c5.sw (cp.sw (bq.swm ((ah.swm (ap.sw (bo.so _ ao (oge a2)) 1 0 rfl rfl rfl aq) 1 rfl ai).so _ cn hr65) 2 rfl co) 2 1 rfl rfl rfl cq) 2 4 rfl rfl rfl c6) 2 4 rfl rfl rfl)
  have fp := c8.gv fo 2 rfl
  have du := c8.drop 2 rfl
  have fq := (c8.sd (c7.sd (c5.sw (cp.sw (bq.swm ((ah.swm (ap.sw (bj.so _ ao (oge a2)) 2 0 rfl rfl rfl aq) 2 rfl ai).so _ cn hr65) 3 rfl co) 3 1 rfl rfl rfl cq) 3 4 rfl rfl rfl c6) 3 4 rfl rfl rfl) 3 2 rfl rfl rfl)
  have fr := du.gv fq 2 rfl
  have fs : Ct [some b] w0 fl [bk dt, some ab] O := du.drop 2 rfl
  have ft := fs.clear
  have fu := c8.std 2 rfl
  have ee := du.std 2 rfl
  have fv := (((fn.st fu).st ee).st St.clear)
  have fw := ((fp.st ee).st St.clear)
  have fx := (c5.bmo (cp.bmo fg 1 rfl cq) 4 rfl c6)
  exact ⟨[.agg #[vs r5, vi r3.Shape.Kind, .slice aa ac ad, .slice ae af ag]], ⟨_, _, rfl, fv.1.res rfl ag28 sz28, rfl⟩, (⟨r5, r3.Shape, r3.Tags⟩ : Feat), m4, aa, ac, ad, ae, af, ag, rfl, H, ft.gr.g1, fx, fh, fw, (fr.st St.clear)⟩
 have H := ite_f H ds
 refine W_seq (W_reg (L_pu (P_cmp r4 1 (r4 == 1) rfl rfl rfl) (L_as (vb (r4 == 1)) rfl (L_nil ?_))))
 refine W_cond (r4 == 1) rfl (fun dv => ?_) (fun dv => ?_)
 ·have H := ite_t H dv
  refine W_reg (L_mv (.pointer (some ⟨b, 0, none⟩)) rfl ?_)
  refine L_call go47 [.pointer (some ⟨b, 0, none⟩)] rfl ((F66.calls fb a6.ok b r_b A2 n3 c4 m3 (hp5.st a6.st) bp (List.mem_append_right _ hm) _ H).mono ?_)
  rintro _ hx ⟨r6, m5, br, bs, bt, rfl, H, c9, fy, fz⟩
  have cr := a6.wm c9
  refine L_pu (P_fa fa28_1 ⟨ab, 0, none⟩ ⟨ab, 1, none⟩ rfl rfl) ?_
  have f0 := (a6.bwm (ah.bwm bl 0 rfl ai) 0 rfl c9)
  refine L_stb ab 1 [vs r3.Id, vi r3.Shape.Kind, .slice aa ac ad, .slice ae af ag] [vi r6.Kind, .slice br bs bt] [vs r3.Id, vi r6.Kind, .slice br bs bt, .slice ae af ag] rfl f0 rfl sz25 rfl rfl rfl fun hy cs f1 => ?_
  have da := cr.wr 0 rfl cs
  refine L_nil (W_seq (W_reg (L_pu (P_lda ag28 sz28 cL ⟨ab, 0, none⟩ [vs r3.Id, vi r6.Kind, .slice br bs bt, .slice ae af ag] rfl rfl (f1.cells (off := 0) rfl)) ?_)))
  have f2 := (cr.bm (a6.bwm (ah.bwm (ap.bm ((a9.bwm (a8.bwm bi 0 rfl bg) 0 rfl bh).k0 ao) 3 0 rfl rfl rfl aq) 3 rfl ai) 3 rfl c9) 3 0 rfl rfl rfl cs)
  refine L_stb b8 0 [vs ([] : Str), vi 0, .slice none 0 0, .slice none 0 0] [vs r3.Id, vi r6.Kind, .slice br bs bt, .slice ae af ag] [vs r3.Id, vi r6.Kind, .slice br bs bt, .slice ae af ag] rfl f2 rfl sz28 rfl rfl rfl fun hz db f3 => ?_
  have dc := da.wr 3 rfl db
  refine L_nil (W_ret ?_)
  have f4 := dc.bgv f3 3 rfl
  have dw := dc.drop 3 rfl
  have f5 := (dc.sd (da.sw (cr.sw (a6.swm (ah.swm (ap.sw (bj.so _ ao (oge a2)) 2 0 rfl rfl rfl aq) 2 rfl ai) 2 rfl c9) 2 0 rfl rfl rfl cs) 2 3 rfl rfl rfl db) 2 3 rfl rfl rfl)
  have f6 := dw.gv f5 2 rfl
  have f7 := dw.drop 2 rfl
  have f8 := f7.clear
  have ef := dw.std 2 rfl
  have f9 := ((f4.st ef).st St.clear)
  have ga := cr.stw 0 rfl cs
  have gb := da.stw 3 rfl db
  have gc := dc.std 3 rfl
  have gd := (((((fz.st ga).st gb).st gc).st ef).st St.clear)
  have ge := (da.bmo (cr.bmo fy 0 rfl cs) 3 rfl db)
  exact ⟨[.agg #[vs r3.Id, vi r6.Kind, .slice br bs bt, .slice ae af ag]], ⟨_, _, rfl, f9.1.res rfl ag28 sz28, rfl⟩, (⟨r3.Id, r6, r3.Tags⟩ : Feat), m5, br, bs, bt, ae, af, ag, rfl, H, f8.gr.g1, ge, bn, gd, (f6.st St.clear)⟩
 have H := ite_f H dv
 refine W_seq (W_reg (L_pu (P_cmp r4 2 (r4 == 2) rfl rfl rfl) (L_as (vb (r4 == 2)) rfl (L_nil ?_))))
 refine W_cond (r4 == 2) rfl (fun dx => ?_) (fun dx => ?_)
 ·have H := ite_t H dx
  refine W_reg (L_pu (P_fa fa28_2 ⟨ab, 0, none⟩ ⟨ab, 3, none⟩ rfl rfl) ?_)
  have eg := (ah.bwm bl 0 rfl ai)
  refine L_pu (P_ld ag26 cL ⟨ab, 3, none⟩ (.slice ae af ag) rfl (eg.cell rfl)) (L_pu (P_build (.agg #[vs ([97] : Str), vs ([98] : Str)]) (fun _ => by kernel_rfl)) (L_lit (kd := kTag) ei26 a6 ([(⟨([97] : Str), ([98] : Str)⟩ : Tag)] : List Tag) (cells := [vs ([97] : Str), vs ([98] : Str)]) ⟨[vs ([97] : Str), vs ([98] : Str)], _, rfl, (kTag.mk _ _ (⟨([97] : Str), ([98] : Str)⟩ : Tag) (by decide : Lim ([97] : Str)) (by decide : Lim ([98] : Str))), rfl⟩ (fun _ => by kernel_rfl) fun h0 eh gf gg ct hr149 cu gh => ?_))
  obtain ⟨gi, H⟩ := H
  have gj := ((ah.swm (ap.sw (bj.so _ ao (oge a2)) 2 0 rfl rfl rfl aq) 2 rfl ai).so _ ct hr149)
  refine L_app ei26 cu (.slice ae af ag) r3.Tags ([(⟨([97] : Str), ([98] : Str)⟩ : Tag)] : List Tag) rfl gj (.slice eh gf gg) rfl gh.sx 3 rfl gi fun h1 bu bv bw dd gk cv gl => ?_
  refine L_pu (P_fa fa28_2 ⟨ab, 0, none⟩ ⟨ab, 3, none⟩ rfl rfl) ?_
  have gm := (cu.bm (eg.k0 ct) 1 3 rfl rfl rfl dd)
  refine L_stb ab 3 [vs r3.Id, vi r3.Shape.Kind, .slice aa ac ad, .slice ae af ag] [.slice bu bv bw] [vs r3.Id, vi r3.Shape.Kind, .slice aa ac ad, .slice bu bv bw] rfl gm rfl sz26 rfl rfl rfl fun h2 cw gn => ?_
  have de := cv.wr 1 rfl cw
  refine L_nil (W_seq (W_reg (L_pu (P_lda ag28 sz28 cL ⟨ab, 0, none⟩ [vs r3.Id, vi r3.Shape.Kind, .slice aa ac ad, .slice bu bv bw] rfl rfl (gn.cells (off := 0) rfl)) ?_)))
  have gp := (cv.bm (cu.bm ((ah.bwm (ap.bm ((a9.bwm (a8.bwm bi 0 rfl bg) 0 rfl bh).k0 ao) 3 0 rfl rfl rfl aq) 3 rfl ai).k0 ct) 4 3 rfl rfl rfl dd) 4 1 rfl rfl rfl cw)
  refine L_stb b8 0 [vs ([] : Str), vi 0, .slice none 0 0, .slice none 0 0] [vs r3.Id, vi r3.Shape.Kind, .slice aa ac ad, .slice bu bv bw] [vs r3.Id, vi r3.Shape.Kind, .slice aa ac ad, .slice bu bv bw] rfl gp rfl sz28 rfl rfl rfl fun gq df gs => ?_
  have dg := de.wr 4 rfl df
  refine L_nil (W_ret ?_)
  have gt := dg.bgv gs 4 rfl
  have dh := dg.drop 4 rfl
  have gu := (dg.sd (de.sw (cv.sw (cu.sm ((ah.swm (ap.sw (bo.so _ ao (oge a2)) 1 0 rfl rfl rfl aq) 1 rfl ai).so _ ct hr149) 2 3 rfl rfl rfl dd gk) 2 1 rfl rfl rfl cw) 2 4 rfl rfl rfl df) 2 4 rfl rfl rfl)
  have gw := dh.gv gu 2 rfl
  have dy := dh.drop 2 rfl
  have gx := (dh.sd (dg.sd (de.sw (cv.sw gl 3 1 rfl rfl rfl cw) 3 4 rfl rfl rfl df) 3 4 rfl rfl rfl) 3 2 rfl rfl rfl)
  have gy := dy.gv gx 2 rfl
  have gz : Ct [some b] w0 gq [bk eh, some ab] O := dy.drop 2 rfl
  have g0 := gz.clear
  have g2 := dh.std 2 rfl
  have ei := dy.std 2 rfl
  have g3 := (((gt.st g2).st ei).st St.clear)
  have g4 := ((gw.st ei).st St.clear)
  have g5 := (de.bmo (cv.bmo (cu.bmo (bp.k0 ct) 3 rfl dd) 1 rfl cw) 4 rfl df)
  exact ⟨[.agg #[vs r3.Id, vi r3.Shape.Kind, .slice aa ac ad, .slice bu bv bw]], ⟨_, _, rfl, g3.1.res rfl ag28 sz28, rfl⟩, (⟨r3.Id, r3.Shape, (r3.Tags ++ ([(⟨([97] : Str), ([98] : Str)⟩ : Tag)] : List Tag))⟩ : Feat), m3, aa, ac, ad, bu, bv, bw, rfl, H, g0.gr.g1, g5, bn, g4, (gy.st St.clear)⟩
 have H := ite_f H dx
 refine W_seq (W_reg (L_pu (P_cmp r4 3 (r4 == 3) rfl rfl rfl) (L_as (vb (r4 == 3)) rfl (L_nil ?_))))
 refine W_cond (r4 == 3) rfl (fun dz => ?_) (fun dz => ?_)
 ·have H := ite_t H dz
  refine W_mixr 10 [some b, bk ae, some ab] (by kernel_rfl) rfl fun h3 au cx => ?_
  have ej := a6.k0 au
  refine M_pu 0 rfl (by kernel_rfl) cx (P_fa fa28_2 ⟨ab, 0, none⟩ ⟨ab, 3, none⟩ rfl rfl) ?_
  refine M_pu 2 rfl (by kernel_rfl) cx (P_move (.pointer (some ⟨b, 0, none⟩)) rfl) ?_
  refine M_any2 1 3 (by kernel_rfl) rfl rfl ?_ ?_
  ·have ek := ((ah.bwm bl 0 rfl ai).k0 au)
   refine L_pu (P_ld ag26 cL ⟨ab, 3, none⟩ (.slice ae af ag) rfl (ek.cell rfl)) ?_
   refine L_nil ⟨cx, ?_⟩
   refine M_any1 3 (by kernel_rfl) rfl ?_
   refine L_lit (kd := Kd.str) ei31 ej ([([] : Str), ([66] : Str)] : List Str) (cells := [vs ([] : Str), vs ([66] : Str)]) ⟨[vs ([] : Str)], _, rfl, ⟨rfl, (by decide : Lim ([] : Str))⟩, ⟨[vs ([66] : Str)], _, rfl, ⟨rfl, (by decide : Lim ([66] : Str))⟩, rfl⟩⟩ (fun _ => by kernel_rfl) fun g6 di el em cl hr201 bx g7 => ?_
   have en := Gm.tm cx cl
   refine L_nil ⟨en, ?_⟩
   refine M_any1 4 (by kernel_rfl) rfl ?_
   have d0 := bx.gv g7 0 rfl
   have cy := bx.drop 0 rfl
   have d1 := ((bp.k0 au).k0 cl)
   refine L_call go79 [.pointer (some ⟨b, 0, none⟩), .slice di el em] rfl ((F33.calls g6 cy.ok b r_b A2 n3 c4 m3 (hp5.st cy.st) d1 (List.mem_append_right _ hm) ([([] : Str), ([66] : Str)] : List Str) di el em d0 _ H).mono ?_)
   rintro _ g8 ⟨r7, m6, rfl, H, a7, d2, d3⟩
   have d4 := bx.wm a7
   have bz := Gm.tq en a7 (hv_mem 0 rfl)
   refine L_nil ⟨bz, ?_⟩
   refine M_pu 5 rfl (by kernel_rfl) bz (P_build (.agg #[vs ([122, 122] : Str), vs r7]) (fun _ => by kernel_rfl)) ?_
   refine M_any1 6 (by kernel_rfl) rfl ?_
   refine L_lit (kd := kTag) ei26 d4 ([(⟨([122, 122] : Str), r7⟩ : Tag)] : List Tag) (cells := [vs ([122, 122] : Str), vs r7]) ⟨[vs ([122, 122] : Str), vs r7], _, rfl, (kTag.mk _ _ (⟨([122, 122] : Str), r7⟩ : Tag) (by decide : Lim ([122, 122] : Str)) d3), rfl⟩ (fun _ => by kernel_rfl) fun eo ba cz c0 av hr224 a1 c1 => ?_
   have bb := Gm.tm bz av
   refine L_nil ⟨bb, ?_⟩
   refine M_any1 7 (by kernel_rfl) rfl ?_
   obtain ⟨b0, H⟩ := H
   have b1 := ((bx.swm (((ah.swm (ap.sw (bj.so _ ao (oge a2)) 2 0 rfl rfl rfl aq) 2 rfl ai).sn au).so _ cl hr201) 3 rfl a7).so _ av hr224)
   refine L_app ei26 a1 (.slice ae af ag) r3.Tags ([(⟨([122, 122] : Str), r7⟩ : Tag)] : List Tag) rfl b1 (.slice ba cz c0) rfl c1.sx 4 rfl b0 fun d5 aj ak al ar bc am b2 => ?_
   have a3 := Gm.tq bb ar (hv_mem 1 rfl)
   have d6 := hv_app (L := [bk ba, bk di, some ab, bk aa, bk ae, some b8]) (O := O) (i := 4) bb rfl (hv_mem 1 rfl) bc am
   refine L_nil ⟨a3, ?_⟩
   refine M_pu 8 rfl (by kernel_rfl) a3 (P_fa fa28_2 ⟨ab, 0, none⟩ ⟨ab, 3, none⟩ rfl rfl) ?_
   refine M_any1 9 (by kernel_rfl) rfl ?_
   have b3 := (a1.bm ((bx.bwm (ek.k0 cl) 1 rfl a7).k0 av) 2 4 rfl rfl rfl ar)
   refine L_stb ab 3 [vs r3.Id, vi r3.Shape.Kind, .slice aa ac ad, .slice ae af ag] [.slice aj ak al] [vs r3.Id, vi r3.Shape.Kind, .slice aa ac ad, .slice aj ak al] rfl b3 rfl sz26 rfl rfl rfl fun d7 an b4 => ?_
   have aw := am.wr 2 rfl an
   have b5 := Gm.tq a3 an (hv_mem 2 rfl)
   refine L_nil ⟨b5, ?_⟩
   refine M_nil (by kernel_rfl) ?_
   refine W_seq (W_reg (L_pu (P_lda ag28 sz28 cL ⟨ab, 0, none⟩ [vs r3.Id, vi r3.Shape.Kind, .slice aa ac ad, .slice aj ak al] rfl rfl (b4.cells (off := 0) rfl)) ?_))
   have b6 := (am.bm (a1.bm ((bx.bwm (((ah.bwm (ap.bm ((a9.bwm (a8.bwm bi 0 rfl bg) 0 rfl bh).k0 ao) 3 0 rfl rfl rfl aq) 3 rfl ai).k0 au).k0 cl) 4 rfl a7).k0 av) 5 4 rfl rfl rfl ar) 5 2 rfl rfl rfl an)
   refine L_stb b8 0 [vs ([] : Str), vi 0, .slice none 0 0, .slice none 0 0] [vs r3.Id, vi r3.Shape.Kind, .slice aa ac ad, .slice aj ak al] [vs r3.Id, vi r3.Shape.Kind, .slice aa ac ad, .slice aj ak al] rfl b6 rfl sz28 rfl rfl rfl fun b7 ax b9 => ?_
   have ay := aw.wr 5 rfl ax
   refine L_nil (W_ret ?_)
   have ca := ay.bgv b9 5 rfl
   have az := ay.drop 5 rfl
   have cb := (ay.sd (aw.sw (am.sw (a1.sm ((bx.swm (((ah.swm (ap.sw (bo.so _ ao (oge a2)) 1 0 rfl rfl rfl aq) 1 rfl ai).sn au).so _ cl hr201) 2 rfl a7).so _ av hr224) 3 4 rfl rfl rfl ar bc) 3 2 rfl rfl rfl an) 3 5 rfl rfl rfl ax) 3 5 rfl rfl rfl)
   have cc := az.gv cb 3 rfl
   have a4 := az.drop 3 rfl
   have cd := (az.sd (ay.sd (aw.sw (am.sw b2 4 2 rfl rfl rfl an) 4 5 rfl rfl rfl ax) 4 5 rfl rfl rfl) 4 3 rfl rfl rfl)
   have ce := a4.gv cd 3 rfl
   have cf : Ct [some b] w0 b7 [bk ba, bk di, some ab] O := a4.drop 3 rfl
   have cg := cf.clear
   have ch := az.std 3 rfl
   have bd := a4.std 3 rfl
   have ci := (((ca.st ch).st bd).st St.clear)
   have cj := ((cc.st bd).st St.clear)
   have ck := (aw.bmo (am.bmo (a1.bmo (d2.k0 av) 4 rfl ar) 2 rfl an) 5 rfl ax)
   exact ⟨[.agg #[vs r3.Id, vi r3.Shape.Kind, .slice aa ac ad, .slice aj ak al]], ⟨_, _, rfl, ci.1.res rfl ag28 sz28, rfl⟩, (⟨r3.Id, r3.Shape, (r3.Tags ++ ([(⟨([122, 122] : Str), r7⟩ : Tag)] : List Tag))⟩ : Feat), m6, aa, ac, ad, aj, ak, al, rfl, H, cg.gr.g1, ck, bn, cj, (ce.st St.clear)⟩
  refine L_lit (kd := Kd.str) ei31 ej ([([] : Str), ([66] : Str)] : List Str) (cells := [vs ([] : Str), vs ([66] : Str)]) ⟨[vs ([] : Str)], _, rfl, ⟨rfl, (by decide : Lim ([] : Str))⟩, ⟨[vs ([66] : Str)], _, rfl, ⟨rfl, (by decide : Lim ([66] : Str))⟩, rfl⟩⟩ (fun _ => by kernel_rfl) fun ep be dj dk a5 hr200 a0 eq => ?_
  have dl := Gm.tm cx a5
  refine L_nil ⟨dl, ?_⟩
  refine M_any2 1 4 (by kernel_rfl) rfl rfl ?_ ?_
  ·have dm := (((ah.bwm bl 0 rfl ai).k0 au).k0 a5)
   refine L_pu (P_ld ag26 cL ⟨ab, 3, none⟩ (.slice ae af ag) rfl (dm.cell rfl)) ?_
   refine L_nil ⟨dl, ?_⟩
   refine M_any1 4 (by kernel_rfl) rfl ?_
   have d0 := a0.gv eq 0 rfl
   have cy := a0.drop 0 rfl
   have d1 := ((bp.k0 au).k0 a5)
   refine L_call go79 [.pointer (some ⟨b, 0, none⟩), .slice be dj dk] rfl ((F33.calls ep cy.ok b r_b A2 n3 c4 m3 (hp5.st cy.st) d1 (List.mem_append_right _ hm) ([([] : Str), ([66] : Str)] : List Str) be dj dk d0 _ H).mono ?_)
   rintro _ g8 ⟨r7, m6, rfl, H, a7, d2, d3⟩
   have d4 := a0.wm a7
   have bz := Gm.tq dl a7 (hv_mem 0 rfl)
   refine L_nil ⟨bz, ?_⟩
   refine M_pu 5 rfl (by kernel_rfl) bz (P_build (.agg #[vs ([122, 122] : Str), vs r7]) (fun _ => by kernel_rfl)) ?_
   refine M_any1 6 (by kernel_rfl) rfl ?_
   refine L_lit (kd := kTag) ei26 d4 ([(⟨([122, 122] : Str), r7⟩ : Tag)] : List Tag) (cells := [vs ([122, 122] : Str), vs r7]) ⟨[vs ([122, 122] : Str), vs r7], _, rfl, (kTag.mk _ _ (⟨([122, 122] : Str), r7⟩ : Tag) (by decide : Lim ([122, 122] : Str)) d3), rfl⟩ (fun _ => by kernel_rfl) fun eo ba cz c0 av hr224 a1 c1 => ?_
   have bb := Gm.tm bz av
   refine L_nil ⟨bb, ?_⟩
   refine M_any1 7 (by kernel_rfl) rfl ?_
   obtain ⟨b0, H⟩ := H
   have b1 := ((a0.swm (((ah.swm (ap.sw (bj.so _ ao (oge a2)) 2 0 rfl rfl rfl aq) 2 rfl ai).sn au).so _ a5 hr200) 3 rfl a7).so _ av hr224)
   refine L_app ei26 a1 (.slice ae af ag) r3.Tags ([(⟨([122, 122] : Str), r7⟩ : Tag)] : List Tag) rfl b1 (.slice ba cz c0) rfl c1.sx 4 rfl b0 fun d5 aj ak al ar bc am b2 => ?_
   have a3 := Gm.tq bb ar (hv_mem 1 rfl)
   have d6 := hv_app (L := [bk ba, bk be, some ab, bk aa, bk ae, some b8]) (O := O) (i := 4) bb rfl (hv_mem 1 rfl) bc am
   refine L_nil ⟨a3, ?_⟩
   refine M_pu 8 rfl (by kernel_rfl) a3 (P_fa fa28_2 ⟨ab, 0, none⟩ ⟨ab, 3, none⟩ rfl rfl) ?_
   refine M_any1 9 (by kernel_rfl) rfl ?_
   have b3 := (a1.bm ((a0.bwm dm 1 rfl a7).k0 av) 2 4 rfl rfl rfl ar)
   refine L_stb ab 3 [vs r3.Id, vi r3.Shape.Kind, .slice aa ac ad, .slice ae af ag] [.slice aj ak al] [vs r3.Id, vi r3.Shape.Kind, .slice aa ac ad, .slice aj ak al] rfl b3 rfl sz26 rfl rfl rfl fun d7 an b4 => ?_
   have aw := am.wr 2 rfl an
   have b5 := Gm.tq a3 an (hv_mem 2 rfl)
   refine L_nil ⟨b5, ?_⟩
   refine M_nil (by kernel_rfl) ?_
   refine W_seq (W_reg (L_pu (P_lda ag28 sz28 cL ⟨ab, 0, none⟩ [vs r3.Id, vi r3.Shape.Kind, .slice aa ac ad, .slice aj ak al] rfl rfl (b4.cells (off := 0) rfl)) ?_))
   have b6 := (am.bm (a1.bm ((a0.bwm (((ah.bwm (ap.bm ((a9.bwm (a8.bwm bi 0 rfl bg) 0 rfl bh).k0 ao) 3 0 rfl rfl rfl aq) 3 rfl ai).k0 au).k0 a5) 4 rfl a7).k0 av) 5 4 rfl rfl rfl ar) 5 2 rfl rfl rfl an)
   refine L_stb b8 0 [vs ([] : Str), vi 0, .slice none 0 0, .slice none 0 0] [vs r3.Id, vi r3.Shape.Kind, .slice aa ac ad, .slice aj ak al] [vs r3.Id, vi r3.Shape.Kind, .slice aa ac ad, .slice aj ak al] rfl b6 rfl sz28 rfl rfl rfl fun b7 ax b9 => ?_
   have ay := aw.wr 5 rfl ax
   refine L_nil (W_ret ?_)
   have ca := ay.bgv b9 5 rfl
   have az := ay.drop 5 rfl
   have cb := (ay.sd (aw.sw (am.sw (a1.sm ((a0.swm (((ah.swm (ap.sw (bo.so _ ao (oge a2)) 1 0 rfl rfl rfl aq) 1 rfl ai).sn au).so _ a5 hr200) 2 rfl a7).so _ av hr224) 3 4 rfl rfl rfl ar bc) 3 2 rfl rfl rfl an) 3 5 rfl rfl rfl ax) 3 5 rfl rfl rfl)
   have cc := az.gv cb 3 rfl
   have a4 := az.drop 3 rfl
   have cd := (az.sd (ay.sd (aw.sw (am.sw b2 4 2 rfl rfl rfl an) 4 5 rfl rfl rfl ax) 4 5 rfl rfl rfl) 4 3 rfl rfl rfl)
   have ce := a4.gv cd 3 rfl
   have cf : Ct [some b] w0 b7 [bk ba, bk be, some ab] O := a4.drop 3 rfl
   have cg := cf.clear
   have ch := az.std 3 rfl
   have bd := a4.std 3 rfl
   have ci := (((ca.st ch).st bd).st St.clear)
   have cj := ((cc.st bd).st St.clear)
   have ck := (aw.bmo (am.bmo (a1.bmo (d2.k0 av) 4 rfl ar) 2 rfl an) 5 rfl ax)
   exact ⟨[.agg #[vs r3.Id, vi r3.Shape.Kind, .slice aa ac ad, .slice aj ak al]], ⟨_, _, rfl, ci.1.res rfl ag28 sz28, rfl⟩, (⟨r3.Id, r3.Shape, (r3.Tags ++ ([(⟨([122, 122] : Str), r7⟩ : Tag)] : List Tag))⟩ : Feat), m6, aa, ac, ad, aj, ak, al, rfl, H, cg.gr.g1, ck, bn, cj, (ce.st St.clear)⟩
  have dm := a0.gv eq 0 rfl
  have er := a0.drop 0 rfl
  have ha := ((bp.k0 au).k0 a5)
  refine L_call go79 [.pointer (some ⟨b, 0, none⟩), .slice be dj dk] rfl ((F33.calls ep er.ok b r_b A2 n3 c4 m3 (hp5.st er.st) ha (List.mem_append_right _ hm) ([([] : Str), ([66] : Str)] : List Str) be dj dk dm _ H).mono ?_)
  rintro _ h4 ⟨r7, m6, rfl, H, bf, es, et⟩
  have eu := a0.wm bf
  have c2 := Gm.tq dl bf (hv_mem 0 rfl)
  refine L_nil ⟨c2, ?_⟩
  refine M_pu 5 rfl (by kernel_rfl) c2 (P_build (.agg #[vs ([122, 122] : Str), vs r7]) (fun _ => by kernel_rfl)) ?_
  refine M_any2 1 6 (by kernel_rfl) rfl rfl ?_ ?_
  ·have ev := (a0.bwm (((ah.bwm bl 0 rfl ai).k0 au).k0 a5) 1 rfl bf)
   refine L_pu (P_ld ag26 cL ⟨ab, 3, none⟩ (.slice ae af ag) rfl (ev.cell rfl)) ?_
   refine L_nil ⟨c2, ?_⟩
   refine M_any1 6 (by kernel_rfl) rfl ?_
   refine L_lit (kd := kTag) ei26 eu ([(⟨([122, 122] : Str), r7⟩ : Tag)] : List Tag) (cells := [vs ([122, 122] : Str), vs r7]) ⟨[vs ([122, 122] : Str), vs r7], _, rfl, (kTag.mk _ _ (⟨([122, 122] : Str), r7⟩ : Tag) (by decide : Lim ([122, 122] : Str)) et), rfl⟩ (fun _ => by kernel_rfl) fun eo ba cz c0 av hr224 a1 c1 => ?_
   have bb := Gm.tm c2 av
   refine L_nil ⟨bb, ?_⟩
   refine M_any1 7 (by kernel_rfl) rfl ?_
   obtain ⟨b0, H⟩ := H
   have b1 := ((a0.swm (((ah.swm (ap.sw (bj.so _ ao (oge a2)) 2 0 rfl rfl rfl aq) 2 rfl ai).sn au).so _ a5 hr200) 3 rfl bf).so _ av hr224)
   refine L_app ei26 a1 (.slice ae af ag) r3.Tags ([(⟨([122, 122] : Str), r7⟩ : Tag)] : List Tag) rfl b1 (.slice ba cz c0) rfl c1.sx 4 rfl b0 fun d5 aj ak al ar bc am b2 => ?_
   have a3 := Gm.tq bb ar (hv_mem 1 rfl)
   have d6 := hv_app (L := [bk ba, bk be, some ab, bk aa, bk ae, some b8]) (O := O) (i := 4) bb rfl (hv_mem 1 rfl) bc am
   refine L_nil ⟨a3, ?_⟩
   refine M_pu 8 rfl (by kernel_rfl) a3 (P_fa fa28_2 ⟨ab, 0, none⟩ ⟨ab, 3, none⟩ rfl rfl) ?_
   refine M_any1 9 (by kernel_rfl) rfl ?_
   have b3 := (a1.bm (ev.k0 av) 2 4 rfl rfl rfl ar)
   refine L_stb ab 3 [vs r3.Id, vi r3.Shape.Kind, .slice aa ac ad, .slice ae af ag] [.slice aj ak al] [vs r3.Id, vi r3.Shape.Kind, .slice aa ac ad, .slice aj ak al] rfl b3 rfl sz26 rfl rfl rfl fun d7 an b4 => ?_
   have aw := am.wr 2 rfl an
   have b5 := Gm.tq a3 an (hv_mem 2 rfl)
   refine L_nil ⟨b5, ?_⟩
   refine M_nil (by kernel_rfl) ?_
   refine W_seq (W_reg (L_pu (P_lda ag28 sz28 cL ⟨ab, 0, none⟩ [vs r3.Id, vi r3.Shape.Kind, .slice aa ac ad, .slice aj ak al] rfl rfl (b4.cells (off := 0) rfl)) ?_))
   have b6 := (am.bm (a1.bm ((a0.bwm (((ah.bwm (ap.bm ((a9.bwm (a8.bwm bi 0 rfl bg) 0 rfl bh).k0 ao) 3 0 rfl rfl rfl aq) 3 rfl ai).k0 au).k0 a5) 4 rfl bf).k0 av) 5 4 rfl rfl rfl ar) 5 2 rfl rfl rfl an)
   refine L_stb b8 0 [vs ([] : Str), vi 0, .slice none 0 0, .slice none 0 0] [vs r3.Id, vi r3.Shape.Kind, .slice aa ac ad, .slice aj ak al] [vs r3.Id, vi r3.Shape.Kind, .slice aa ac ad, .slice aj ak al] rfl b6 rfl sz28 rfl rfl rfl fun b7 ax b9 => ?_
   have ay := aw.wr 5 rfl ax
   refine L_nil (W_ret ?_)
   have ca := ay.bgv b9 5 rfl
   have az := ay.drop 5 rfl
   have cb := (ay.sd (aw.sw (am.sw (a1.sm ((a0.swm (((ah.swm (ap.sw (bo.so _ ao (oge a2)) 1 0 rfl rfl rfl aq) 1 rfl ai).sn au).so _ a5 hr200) 2 rfl bf).so _ av hr224) 3 4 rfl rfl rfl ar bc) 3 2 rfl rfl rfl an) 3 5 rfl rfl rfl ax) 3 5 rfl rfl rfl)
   have cc := az.gv cb 3 rfl
   have a4 := az.drop 3 rfl
   have cd := (az.sd (ay.sd (aw.sw (am.sw b2 4 2 rfl rfl rfl an) 4 5 rfl rfl rfl ax) 4 5 rfl rfl rfl) 4 3 rfl rfl rfl)
   have ce := a4.gv cd 3 rfl
   have cf : Ct [some b] w0 b7 [bk ba, bk be, some ab] O := a4.drop 3 rfl
   have cg := cf.clear
   have ch := az.std 3 rfl
   have bd := a4.std 3 rfl
   have ci := (((ca.st ch).st bd).st St.clear)
   have cj := ((cc.st bd).st St.clear)
   have ck := (aw.bmo (am.bmo (a1.bmo (es.k0 av) 4 rfl ar) 2 rfl an) 5 rfl ax)
   exact ⟨[.agg #[vs r3.Id, vi r3.Shape.Kind, .slice aa ac ad, .slice aj ak al]], ⟨_, _, rfl, ci.1.res rfl ag28 sz28, rfl⟩, (⟨r3.Id, r3.Shape, (r3.Tags ++ ([(⟨([122, 122] : Str), r7⟩ : Tag)] : List Tag))⟩ : Feat), m6, aa, ac, ad, aj, ak, al, rfl, H, cg.gr.g1, ck, bn, cj, (ce.st St.clear)⟩
  refine L_lit (kd := kTag) ei26 eu ([(⟨([122, 122] : Str), r7⟩ : Tag)] : List Tag) (cells := [vs ([122, 122] : Str), vs r7]) ⟨[vs ([122, 122] : Str), vs r7], _, rfl, (kTag.mk _ _ (⟨([122, 122] : Str), r7⟩ : Tag) (by decide : Lim ([122, 122] : Str)) et), rfl⟩ (fun _ => by kernel_rfl) fun h5 d8 hb hc cm hr223 c3 hd => ?_
  have dn := Gm.tm c2 cm
  refine L_nil ⟨dn, ?_⟩
  refine M_any1 1 (by kernel_rfl) rfl ?_
  have ew := ((a0.bwm (((ah.bwm bl 0 rfl ai).k0 au).k0 a5) 1 rfl bf).k0 cm)
  refine L_pu (P_ld ag26 cL ⟨ab, 3, none⟩ (.slice ae af ag) rfl (ew.cell rfl)) ?_
  refine L_nil ⟨dn, ?_⟩
  refine M_any1 7 (by kernel_rfl) rfl ?_
  obtain ⟨b0, H⟩ := H
  have b1 := ((a0.swm (((ah.swm (ap.sw (bj.so _ ao (oge a2)) 2 0 rfl rfl rfl aq) 2 rfl ai).sn au).so _ a5 hr200) 3 rfl bf).so _ cm hr223)
  refine L_app ei26 c3 (.slice ae af ag) r3.Tags ([(⟨([122, 122] : Str), r7⟩ : Tag)] : List Tag) rfl b1 (.slice d8 hb hc) rfl hd.sx 4 rfl b0 fun d5 aj ak al ar bc am b2 => ?_
  have a3 := Gm.tq dn ar (hv_mem 1 rfl)
  have d6 := hv_app (L := [bk d8, bk be, some ab, bk aa, bk ae, some b8]) (O := O) (i := 4) dn rfl (hv_mem 1 rfl) bc am
  refine L_nil ⟨a3, ?_⟩
  refine M_pu 8 rfl (by kernel_rfl) a3 (P_fa fa28_2 ⟨ab, 0, none⟩ ⟨ab, 3, none⟩ rfl rfl) ?_
  refine M_any1 9 (by kernel_rfl) rfl ?_
  have b3 := (c3.bm ew 2 4 rfl rfl rfl ar)
  refine L_stb ab 3 [vs r3.Id, vi r3.Shape.Kind, .slice aa ac ad, .slice ae af ag] [.slice aj ak al] [vs r3.Id, vi r3.Shape.Kind, .slice aa ac ad, .slice aj ak al] rfl b3 rfl sz26 rfl rfl rfl fun d7 an b4 => ?_
  have aw := am.wr 2 rfl an
  have b5 := Gm.tq a3 an (hv_mem 2 rfl)
  refine L_nil ⟨b5, ?_⟩
  refine M_nil (by kernel_rfl) ?_
  refine W_seq (W_reg (L_pu (P_lda ag28 sz28 cL ⟨ab, 0, none⟩ [vs r3.Id, vi r3.Shape.Kind, .slice aa ac ad, .slice aj ak al] rfl rfl (b4.cells (off := 0) rfl)) ?_))
  have b6 := (am.bm (c3.bm ((a0.bwm (((ah.bwm (ap.bm ((a9.bwm (a8.bwm bi 0 rfl bg) 0 rfl bh).k0 ao) 3 0 rfl rfl rfl aq) 3 rfl ai).k0 au).k0 a5) 4 rfl bf).k0 cm) 5 4 rfl rfl rfl ar) 5 2 rfl rfl rfl an)
  refine L_stb b8 0 [vs ([] : Str), vi 0, .slice none 0 0, .slice none 0 0] [vs r3.Id, vi r3.Shape.Kind, .slice aa ac ad, .slice aj ak al] [vs r3.Id, vi r3.Shape.Kind, .slice aa ac ad, .slice aj ak al] rfl b6 rfl sz28 rfl rfl rfl fun b7 ax b9 => ?_
  have ay := aw.wr 5 rfl ax
  refine L_nil (W_ret ?_)
  have ca := ay.bgv b9 5 rfl
  have az := ay.drop 5 rfl
  have cb := (ay.sd (aw.sw (am.sw (c3.sm ((a0.swm (((ah.swm (ap.sw (bo.so _ ao (oge a2)) 1 0 rfl rfl rfl aq) 1 rfl ai).sn au).so _ a5 hr200) 2 rfl bf).so _ cm hr223) 3 4 rfl rfl rfl ar bc) 3 2 rfl rfl rfl an) 3 5 rfl rfl rfl ax) 3 5 rfl rfl rfl)
  have cc := az.gv cb 3 rfl
  have a4 := az.drop 3 rfl
  have cd := (az.sd (ay.sd (aw.sw (am.sw b2 4 2 rfl rfl rfl an) 4 5 rfl rfl rfl ax) 4 5 rfl rfl rfl) 4 3 rfl rfl rfl)
  have ce := a4.gv cd 3 rfl
  have cf : Ct [some b] w0 b7 [bk d8, bk be, some ab] O := a4.drop 3 rfl
  have cg := cf.clear
  have ch := az.std 3 rfl
  have bd := a4.std 3 rfl
  have ci := (((ca.st ch).st bd).st St.clear)
  have cj := ((cc.st bd).st St.clear)
  have ck := (aw.bmo (am.bmo (c3.bmo (es.k0 cm) 4 rfl ar) 2 rfl an) 5 rfl ax)
  exact ⟨[.agg #[vs r3.Id, vi r3.Shape.Kind, .slice aa ac ad, .slice aj ak al]], ⟨_, _, rfl, ci.1.res rfl ag28 sz28, rfl⟩, (⟨r3.Id, r3.Shape, (r3.Tags ++ ([(⟨([122, 122] : Str), r7⟩ : Tag)] : List Tag))⟩ : Feat), m6, aa, ac, ad, aj, ak, al, rfl, H, cg.gr.g1, ck, bn, cj, (ce.st St.clear)⟩
 have H := ite_f H dz
 refine W_skip (W_seq (W_reg ?_))
 have he := (ah.bwm bl 0 rfl ai)
 refine L_pu (P_lda ag28 sz28 cL ⟨ab, 0, none⟩ [vs r3.Id, vi r3.Shape.Kind, .slice aa ac ad, .slice ae af ag] rfl rfl (he.cells (off := 0) rfl)) ?_
 have hf := (ah.bwm (ap.bm ((a9.bwm (a8.bwm bi 0 rfl bg) 0 rfl bh).k0 ao) 3 0 rfl rfl rfl aq) 3 rfl ai)
 refine L_stb b8 0 [vs ([] : Str), vi 0, .slice none 0 0, .slice none 0 0] [vs r3.Id, vi r3.Shape.Kind, .slice aa ac ad, .slice ae af ag] [vs r3.Id, vi r3.Shape.Kind, .slice aa ac ad, .slice ae af ag] rfl hf rfl sz28 rfl rfl rfl fun hg dp hh => ?_
 have dq := a6.wr 3 rfl dp
 refine L_nil (W_ret ?_)
 have hi := dq.bgv hh 3 rfl
 have dr := dq.drop 3 rfl
 have hj := (dq.sd (a6.sw (ah.swm (ap.sw (bo.so _ ao (oge a2)) 1 0 rfl rfl rfl aq) 1 rfl ai) 1 3 rfl rfl rfl dp) 1 3 rfl rfl rfl)
 have hk := dr.gv hj 1 rfl
 have d9 := dr.drop 1 rfl
 have hl := (dr.sd (dq.sd (a6.sw (ah.swm (ap.sw (bj.so _ ao (oge a2)) 2 0 rfl rfl rfl aq) 2 rfl ai) 2 3 rfl rfl rfl dp) 2 3 rfl rfl rfl) 2 1 rfl rfl rfl)
 have hn := d9.gv hl 1 rfl
 have ex : Ct [some b] w0 hg [some ab] O := d9.drop 1 rfl
 have ho := ex.drop 0 rfl
 have hp := dr.std 1 rfl
 have ey := d9.std 1 rfl
 have ea := ex.std 0 rfl
 have hq := (((hi.st hp).st ey).st ea)
 have hr := ((hk.st ey).st ea)
 have hs := (a6.bmo bp 3 rfl dp)
 exact ⟨[.agg #[vs r3.Id, vi r3.Shape.Kind, .slice aa ac ad, .slice ae af ag]], ⟨_, _, rfl, hq.1.res rfl ag28 sz28, rfl⟩, r3, m3, aa, ac, ad, ae, af, ag, rfl, H, ho.gr.g1, hs, bn, hr, (hn.st ea)⟩
end
section
open Go.RowKit
def F11.E (code : List UInt8) (Q : Feat → Feat → Feat → Prop) : Prop :=
 F44.E code (fun r_b r_p => F58.E r_b r_p ([97] : Str) (fun r m => F65.E r_b m r (fun r2 m2 => F65.E r_b m2 r (fun r3 m3 => F15.E r_b m3 16 (fun r4 m4 => (if r4 == 0 then F67.E r_b m4 (fun r5 m5 => Q r5 r2 r3) else (if r4 == 1 then F67.E r_b m4 (fun r6 m6 => Q r r6 r3) else (if r4 == 2 then F58.E r_b m4 ([97] : Str) (fun r7 m7 => Q r r7 r3) else (if r4 == 3 then F60.E r2 (fun r8 => Q r r2 r8) else Q r r2 r3)))))))))
theorem F11.calls {O : Ob} (w0 : World) (hO : Ok w0 O) (code : List UInt8) (A1 : Option Addr) (n2 c3 : Nat) (hp4 : Sl Kd.byte w0 (Fr O) (.slice A1 n2 c3) code) (Q : Feat → Feat → Feat → Prop) (h : F11.E code Q) :
  Ret Try.prog 6 [.slice A1 n2 c3] w0 (fun v w' => ∃ (r0 : Feat) (r1 : Feat) (r2 : Feat) (Aw0 : Option Addr) (nw0 cw0 : Nat) (Aw2 : Option Addr) (nw2 cw2 : Nat) (Aw4 : Option Addr) (nw4 cw4 : Nat) (Aw6 : Option Addr) (nw6 cw6 : Nat) (Aw8 : Option Addr) (nw8 cw8 : Nat) (Aw10 : Option Addr) (nw10 cw10 : Nat), v = .tuple #[.agg #[vs r0.Id, vi r0.Shape.Kind, .slice Aw0 nw0 cw0, .slice Aw2 nw2 cw2], .agg #[vs r1.Id, vi r1.Shape.Kind, .slice Aw4 nw4 cw4, .slice Aw6 nw6 cw6], .agg #[vs r2.Id, vi r2.Shape.Kind, .slice Aw8 nw8 cw8, .slice Aw10 nw10 cw10]] ∧ Q r0 r1 r2 ∧ Gr w0 w' none ∧ Lim r0.Id ∧ Sl kPt w' (Fr O) (.slice Aw0 nw0 cw0) r0.Shape.Pts ∧ Sl kTag w' (Fr O) (.slice Aw2 nw2 cw2) r0.Tags ∧ Lim r1.Id ∧ Sl kPt w' (Fr O) (.slice Aw4 nw4 cw4) r1.Shape.Pts ∧ Sl kTag w' (Fr O) (.slice Aw6 nw6 cw6) r1.Tags ∧ Lim r2.Id ∧ Sl kPt w' (Fr O) (.slice Aw8 nw8 cw8) r2.Shape.Pts ∧ Sl kTag w' (Fr O) (.slice Aw10 nw10 cw10) r2.Tags) := by
 unfold F11.E at h
 have H := h
 clear h
 have hc0 := Ct.init hO
 refine Ret_enter Try.func6 rfl 46 rfl [.cell 2 28, .cell 3 28, .cell 4 28] rfl rfl ?_
 refine W_seq (W_reg (L_alloc [vs [], .int .i64 0, .slice none 0 0, .slice none 0 0] ze28 fun w6 b7 hl9 hu10 g8 dn => ?_))
 have hz := hc0.own g8 (some b7) (oglt hl9 hu10)
 refine L_alloc [vs [], .int .i64 0, .slice none 0 0, .slice none 0 0] ze28 fun ns bh h0 hu18 cv dp => ?_
 have h1 := hz.own cv (some bh) (oglt h0 hu18)
 refine L_alloc [vs [], .int .i64 0, .slice none 0 0, .slice none 0 0] ze28 fun h2 be h3 hu26 bs dq => ?_
 have f7 := h1.own bs (some be) (oglt h3 hu26)
 refine L_nil (W_seq (W_reg (L_mv (.slice A1 n2 c3) rfl ?_)))
 refine L_call go22 [.slice A1 n2 c3] rfl ((F44.calls h2 f7.ok code A1 n2 c3 (hp4.st f7.st) _ H).mono ?_)
 rintro _ h4 ⟨r_b, r_p, ac, cd, ce, cf, rfl, H, bi, h5, h6, h7, gx⟩
 have bc := f7.owns bi h5 h6
 refine L_as (.pointer (some ⟨ac, 0, none⟩)) rfl (L_nil (W_seq (W_reg (L_mv (.pointer (some ⟨ac, 0, none⟩)) rfl ?_))))
 refine L_call go23 [.pointer (some ⟨ac, 0, none⟩), vs ([97] : Str)] rfl ((F58.calls h4 bc.ok ac r_b cd ce cf r_p gx h7 (mem_app 0 rfl) ([97] : Str) (by decide : Lim ([97] : Str)) _ H).mono ?_)
 rintro _ nt ⟨r, m, ad, ae, af, ag, ah, ai, rfl, H, bf, h8, h9, gy, cw, ia, ib⟩
 have gz := bc.ownw (j := 0) rfl bf h9 gy
 refine L_alloc [vs [], .int .i64 0, .slice none 0 0, .slice none 0 0] ze28 fun nu bg eo hu65 ay ic => ?_
 have az := gz.own ay (some bg) (oglt eo hu65)
 refine L_stb bg 0 [vs ([] : Str), vi 0, .slice none 0 0, .slice none 0 0] [vs r.Id, vi r.Shape.Kind, .slice ad ae af, .slice ag ah ai] [vs r.Id, vi r.Shape.Kind, .slice ad ae af, .slice ag ah ai] rfl ic rfl sz28 rfl rfl rfl fun id a0 g1 => ?_
 have ep := az.wr 0 rfl a0
 refine L_nil (W_seq (W_reg (L_mv (.pointer (some ⟨ac, 0, none⟩)) rfl (L_pu (P_lda ag28 sz28 cL ⟨bg, 0, none⟩ [vs r.Id, vi r.Shape.Kind, .slice ad ae af, .slice ag ah ai] rfl rfl (g1.cells (off := 0) rfl)) ?_))))
 have ie := (az.sw (ia.so _ ay (oge eo)) 1 0 rfl rfl rfl a0)
 have g2 := ep.gv ie 1 rfl
 have f8 := ep.drop 1 rfl
 have ig := (ep.sd (az.sw (ib.so _ ay (oge eo)) 2 0 rfl rfl rfl a0) 2 1 rfl rfl rfl)
 have g3 := f8.gv ig 1 rfl
 have a7 := f8.drop 1 rfl
 have ih := bc.stow 0 rfl bf gy
 have ii := gz.stown _ ay (oge eo)
 have ij := az.stw 0 rfl a0
 have ik := ep.std 1 rfl
 have f9 := f8.std 1 rfl
 have g4 := (((((gx.st ih).st ii).st ij).st ik).st f9)
 have il := (az.bm (h8.k0 ay) 3 0 rfl rfl rfl a0)
 refine L_call go24 [.pointer (some ⟨ac, 0, none⟩), .agg #[vs r.Id, vi r.Shape.Kind, .slice ad ae af, .slice ag ah ai]] rfl ((F65.calls id a7.ok ac r_b cd ce cf m g4 il (mem_app 1 rfl) r ad ae af ag ah ai cw (g2.st f9) g3 _ H).mono ?_)
 rintro _ nv ⟨r2, m2, a1, a2, a3, a4, a5, a6, rfl, H, bd, im, eq, ga, gb⟩
 have g5 := a7.wr 1 rfl bd
 refine L_alloc [vs [], .int .i64 0, .slice none 0 0, .slice none 0 0] ze28 fun nw bq g6 hu109 a8 io => ?_
 have a9 := g5.own a8 (some bq) (oglt g6 hu109)
 refine L_stb bq 0 [vs ([] : Str), vi 0, .slice none 0 0, .slice none 0 0] [vs r2.Id, vi r2.Shape.Kind, .slice a1 a2 a3, .slice a4 a5 a6] [vs r2.Id, vi r2.Shape.Kind, .slice a1 a2 a3, .slice a4 a5 a6] rfl io rfl sz28 rfl rfl rfl fun ip ba gc => ?_
 have aj := a9.wr 0 rfl ba
 refine L_nil (W_seq (W_reg (L_mv (.pointer (some ⟨ac, 0, none⟩)) rfl ?_)))
 have dr := (a9.bm ((a7.bm g1 0 1 rfl rfl rfl bd).k0 a8) 1 0 rfl rfl rfl ba)
 refine L_pu (P_lda ag28 sz28 cL ⟨bg, 0, none⟩ [vs r.Id, vi r.Shape.Kind, .slice ad ae af, .slice ag ah ai] rfl rfl (dr.cells (off := 0) rfl)) ?_
 have gd := a7.stw 1 rfl bd
 have bv := g5.stown _ a8 (oge g6)
 have bw := a9.stw 0 rfl ba
 have g7 := (((g4.st gd).st bv).st bw)
 have iq := (a9.bm (im.k0 a8) 2 0 rfl rfl rfl ba)
 have ds := ((((g2.st f9).st gd).st bv).st bw)
 have dt := (((g3.st gd).st bv).st bw)
 refine L_call go24 [.pointer (some ⟨ac, 0, none⟩), .agg #[vs r.Id, vi r.Shape.Kind, .slice ad ae af, .slice ag ah ai]] rfl ((F65.calls ip aj.ok ac r_b cd ce cf m2 g7 iq (mem_app 2 rfl) r ad ae af ag ah ai cw ds dt _ H).mono ?_)
 rintro _ nx ⟨r3, m3, ao, ap, aq, ar, au, av, rfl, H, an, ir, er, es, et⟩
 have g9 := aj.wr 2 rfl an
 refine L_alloc [vs [], .int .i64 0, .slice none 0 0, .slice none 0 0] ze28 fun ny bb ha hu146 ak it => ?_
 have al := g9.own ak (some bb) (oglt ha hu146)
 refine L_stb bb 0 [vs ([] : Str), vi 0, .slice none 0 0, .slice none 0 0] [vs r3.Id, vi r3.Shape.Kind, .slice ao ap aq, .slice ar au av] [vs r3.Id, vi r3.Shape.Kind, .slice ao ap aq, .slice ar au av] rfl it rfl sz28 rfl rfl rfl fun iu am du => ?_
 have aa := al.wr 0 rfl am
 refine L_nil (W_seq (W_seq (W_reg (L_mv (.pointer (some ⟨ac, 0, none⟩)) rfl ?_))))
 have bj := aj.stw 2 rfl an
 have aw := g9.stown _ ak (oge ha)
 have ax := al.stw 0 rfl am
 have eu := (((g7.st bj).st aw).st ax)
 have iv := (al.bm (ir.k0 ak) 3 0 rfl rfl rfl am)
 refine L_call go25 [.pointer (some ⟨ac, 0, none⟩), vi 16] rfl ((F15.calls iu aa.ok ac r_b cd ce cf m3 eu iv (mem_app 3 rfl) 16 _ H).mono ?_)
 rintro _ dv ⟨r4, m4, rfl, H, ab, ge⟩
 have bt := aa.wr 3 rfl ab
 refine L_nil (W_block (W_seq (W_reg (L_pu (P_cmp r4 0 (r4 == 0) rfl rfl rfl) (L_as (vb (r4 == 0)) rfl (L_nil ?_))))))
 refine W_cond (r4 == 0) rfl (fun gf => ?_) (fun gf => ?_)
 ·have H := ite_t H gf
  refine W_seq ?_
  have hb : Ct [] w0 dv [some bb, some bq, some ac, some be, some bh, some b7] O := bt.drop 2 rfl
  refine W_mixr 7 [some ac, some b7, some bh, some be] (by kernel_rfl) rfl fun iw b2 ev => ?_
  have bn := hb.k0 b2
  refine M_pu 0 rfl (by kernel_rfl) ev (P_move (.pointer (some ⟨ac, 0, none⟩)) rfl) ?_
  have ix := ((aa.bm (al.bm ((aj.bm gc 0 2 rfl rfl rfl an).k0 ak) 1 0 rfl rfl rfl am) 1 3 rfl rfl rfl ab).k0 b2)
  refine M_pu 2 rfl (by kernel_rfl) ev (P_ldar ag28 sz28 cR ⟨bq, 0, none⟩ [vs r2.Id, vi r2.Shape.Kind, .slice a1 a2 a3, .slice a4 a5 a6] rfl rfl (ix.cells (off := 0) rfl) (nm_cons (bx_ne bn (j := 1) (i := 2) rfl rfl (by decide)) (nm_cons (bx_ne bn (j := 1) (i := 5) rfl rfl (by decide)) (nm_cons (bx_ne bn (j := 1) (i := 4) rfl rfl (by decide)) (nm_cons (bx_ne bn (j := 1) (i := 3) rfl rfl (by decide)) nm_nil))))) ?_
  have iy := ((aa.bm du 0 3 rfl rfl rfl ab).k0 b2)
  refine M_pu 3 rfl (by kernel_rfl) ev (P_ldar ag28 sz28 cR ⟨bb, 0, none⟩ [vs r3.Id, vi r3.Shape.Kind, .slice ao ap aq, .slice ar au av] rfl rfl (iy.cells (off := 0) rfl) (nm_cons (bx_ne bn (j := 0) (i := 2) rfl rfl (by decide)) (nm_cons (bx_ne bn (j := 0) (i := 5) rfl rfl (by decide)) (nm_cons (bx_ne bn (j := 0) (i := 4) rfl rfl (by decide)) (nm_cons (bx_ne bn (j := 0) (i := 3) rfl rfl (by decide)) nm_nil))))) ?_
  refine M_any1 1 (by kernel_rfl) rfl ?_
  have dw := aa.stw 3 rfl ab
  have dx := bt.std 2 rfl
  have dy := hb.stn b2
  have iz := (((eu.st dw).st dx).st dy)
  have i0 := (ge.k0 b2)
  refine L_call go26 [.pointer (some ⟨ac, 0, none⟩)] rfl ((F67.calls iw bn.ok ac r_b cd ce cf m4 iz i0 (mem_app 2 rfl) _ H).mono ?_)
  rintro _ nz ⟨r5, m5, ew, ex, ey, ez, e0, e1, rfl, H, cx, n0, i1, i2, i3⟩
  have e2 := bn.wr 2 rfl cx
  have hc := Gm.tq ev cx (hv_mem 0 rfl)
  refine L_nil ⟨hc, ?_⟩
  refine M_any1 4 (by kernel_rfl) rfl ?_
  have i4 := (bn.bm ((aa.bm (al.bm ((aj.bm (a9.bm ((a7.bm (az.bm ((bc.bm (((dn.k0 cv).k0 bs).k0 bi) 3 0 rfl rfl rfl bf).k0 ay) 6 0 rfl rfl rfl a0) 4 1 rfl rfl rfl bd).k0 a8) 5 0 rfl rfl rfl ba) 5 2 rfl rfl rfl an).k0 ak) 6 0 rfl rfl rfl am) 6 3 rfl rfl rfl ab).k0 b2) 5 2 rfl rfl rfl cx)
  refine L_stb b7 0 [vs ([] : Str), vi 0, .slice none 0 0, .slice none 0 0] [vs r5.Id, vi r5.Shape.Kind, .slice ew ex ey, .slice ez e0 e1] [vs r5.Id, vi r5.Shape.Kind, .slice ew ex ey, .slice ez e0 e1] rfl i4 rfl sz28 rfl rfl rfl fun n1 dz i5 => ?_
  have e3 := e2.wr 5 rfl dz
  have hd := Gm.tq hc dz (hv_mem 1 rfl)
  refine L_nil ⟨hd, ?_⟩
  refine M_any1 5 (by kernel_rfl) rfl ?_
  have i6 := (e2.bm (bn.bm ((aa.bm (al.bm ((aj.bm (a9.bm ((a7.bm (az.bm ((bc.bm ((dp.k0 bs).k0 bi) 2 0 rfl rfl rfl bf).k0 ay) 5 0 rfl rfl rfl a0) 3 1 rfl rfl rfl bd).k0 a8) 4 0 rfl rfl rfl ba) 4 2 rfl rfl rfl an).k0 ak) 5 0 rfl rfl rfl am) 5 3 rfl rfl rfl ab).k0 b2) 4 2 rfl rfl rfl cx) 4 5 rfl rfl rfl dz)
  refine L_stb bh 0 [vs ([] : Str), vi 0, .slice none 0 0, .slice none 0 0] [vs r2.Id, vi r2.Shape.Kind, .slice a1 a2 a3, .slice a4 a5 a6] [vs r2.Id, vi r2.Shape.Kind, .slice a1 a2 a3, .slice a4 a5 a6] rfl i6 rfl sz28 rfl rfl rfl fun n3 d0 i7 => ?_
  have e4 := e3.wr 4 rfl d0
  have he := Gm.tq hd d0 (hv_mem 2 rfl)
  refine L_nil ⟨he, ?_⟩
  refine M_any1 6 (by kernel_rfl) rfl ?_
  have i8 := (e3.bm (e2.bm (bn.bm ((aa.bm (al.bm ((aj.bm (a9.bm ((a7.bm (az.bm ((bc.bm (dq.k0 bi) 1 0 rfl rfl rfl bf).k0 ay) 4 0 rfl rfl rfl a0) 2 1 rfl rfl rfl bd).k0 a8) 3 0 rfl rfl rfl ba) 3 2 rfl rfl rfl an).k0 ak) 4 0 rfl rfl rfl am) 4 3 rfl rfl rfl ab).k0 b2) 3 2 rfl rfl rfl cx) 3 5 rfl rfl rfl dz) 3 4 rfl rfl rfl d0)
  refine L_stb be 0 [vs ([] : Str), vi 0, .slice none 0 0, .slice none 0 0] [vs r3.Id, vi r3.Shape.Kind, .slice ao ap aq, .slice ar au av] [vs r3.Id, vi r3.Shape.Kind, .slice ao ap aq, .slice ar au av] rfl i8 rfl sz28 rfl rfl rfl fun i9 d1 ja => ?_
  have gg := e4.wr 3 rfl d1
  have jb := Gm.tq he d1 (hv_mem 3 rfl)
  refine L_nil ⟨jb, ?_⟩
  refine M_nil (by kernel_rfl) ?_
  refine W_ret ?_
  have jc := (e4.bm (e3.bm i5 5 4 rfl rfl rfl d0) 5 3 rfl rfl rfl d1)
  have jd := gg.bgv jc 5 rfl
  have gh := gg.drop 5 rfl
  have je := (e4.bm i7 4 3 rfl rfl rfl d1)
  have jf := gh.bgv je 4 rfl
  have gi := gh.drop 4 rfl
  have jg := ja
  have jh := gi.bgv jg 3 rfl
  have ji : Ct [] w0 i9 [some bb, some bq, some ac] O := gi.drop 3 rfl
  have jj := ji.clear
  have cg := gh.std 4 rfl
  have b3 := gi.std 3 rfl
  have jk := (((jd.st cg).st b3).st St.clear)
  have jl := ((jf.st b3).st St.clear)
  have jm := (jh.st St.clear)
  have cy := e2.stw 5 rfl dz
  have cz := e3.stw 4 rfl d0
  have c0 := e4.stw 3 rfl d1
  have c1 := gg.std 5 rfl
  have jn := (((((((i2.st cy).st cz).st c0).st c1).st cg).st b3).st St.clear)
  have jo := (((((((i3.st cy).st cz).st c0).st c1).st cg).st b3).st St.clear)
  have e5 := bn.stw 2 rfl cx
  have jp := ((((((((((((((((ga.st bv).st bw).st bj).st aw).st ax).st dw).st dx).st dy).st e5).st cy).st cz).st c0).st c1).st cg).st b3).st St.clear)
  have jq := ((((((((((((((((gb.st bv).st bw).st bj).st aw).st ax).st dw).st dx).st dy).st e5).st cy).st cz).st c0).st c1).st cg).st b3).st St.clear)
  have jr := (((((((((((((es.st aw).st ax).st dw).st dx).st dy).st e5).st cy).st cz).st c0).st c1).st cg).st b3).st St.clear)
  have js := (((((((((((((et.st aw).st ax).st dw).st dx).st dy).st e5).st cy).st cz).st c0).st c1).st cg).st b3).st St.clear)
  exact ⟨[.agg #[vs r5.Id, vi r5.Shape.Kind, .slice ew ex ey, .slice ez e0 e1], .agg #[vs r2.Id, vi r2.Shape.Kind, .slice a1 a2 a3, .slice a4 a5 a6], .agg #[vs r3.Id, vi r3.Shape.Kind, .slice ao ap aq, .slice ar au av]], ⟨_, _, rfl, jk.1.res rfl ag28 sz28, ⟨_, _, rfl, jl.1.res rfl ag28 sz28, ⟨_, _, rfl, jm.1.res rfl ag28 sz28, rfl⟩⟩⟩, r5, r2, r3, ew, ex, ey, ez, e0, e1, a1, a2, a3, a4, a5, a6, ao, ap, aq, ar, au, av, rfl, H, jj.gr.g0, i1, jn, jo, eq, jp, jq, er, jr, js⟩
 have H := ite_f H gf
 refine W_seq (W_reg (L_pu (P_cmp r4 1 (r4 == 1) rfl rfl rfl) (L_as (vb (r4 == 1)) rfl (L_nil ?_))))
 refine W_cond (r4 == 1) rfl (fun gj => ?_) (fun gj => ?_)
 ·have H := ite_t H gj
  refine W_seq ?_
  have hf : Ct [] w0 dv [some bb, some bg, some ac, some be, some bh, some b7] O := bt.drop 1 rfl
  refine W_mixr 7 [some ac, some b7, some bh, some be] (by kernel_rfl) rfl fun jt b4 e6 => ?_
  have bo := hf.k0 b4
  have ju := ((aa.bm (al.bm ((aj.bm dr 1 2 rfl rfl rfl an).k0 ak) 2 0 rfl rfl rfl am) 2 3 rfl rfl rfl ab).k0 b4)
  refine M_pu 0 rfl (by kernel_rfl) e6 (P_ldar ag28 sz28 cR ⟨bg, 0, none⟩ [vs r.Id, vi r.Shape.Kind, .slice ad ae af, .slice ag ah ai] rfl rfl (ju.cells (off := 0) rfl) (nm_cons (bx_ne bo (j := 1) (i := 2) rfl rfl (by decide)) (nm_cons (bx_ne bo (j := 1) (i := 5) rfl rfl (by decide)) (nm_cons (bx_ne bo (j := 1) (i := 4) rfl rfl (by decide)) (nm_cons (bx_ne bo (j := 1) (i := 3) rfl rfl (by decide)) nm_nil))))) ?_
  refine M_pu 1 rfl (by kernel_rfl) e6 (P_move (.pointer (some ⟨ac, 0, none⟩)) rfl) ?_
  have jv := ((aa.bm du 0 3 rfl rfl rfl ab).k0 b4)
  refine M_pu 3 rfl (by kernel_rfl) e6 (P_ldar ag28 sz28 cR ⟨bb, 0, none⟩ [vs r3.Id, vi r3.Shape.Kind, .slice ao ap aq, .slice ar au av] rfl rfl (jv.cells (off := 0) rfl) (nm_cons (bx_ne bo (j := 0) (i := 2) rfl rfl (by decide)) (nm_cons (bx_ne bo (j := 0) (i := 5) rfl rfl (by decide)) (nm_cons (bx_ne bo (j := 0) (i := 4) rfl rfl (by decide)) (nm_cons (bx_ne bo (j := 0) (i := 3) rfl rfl (by decide)) nm_nil))))) ?_
  refine M_any1 2 (by kernel_rfl) rfl ?_
  have d2 := aa.stw 3 rfl ab
  have d3 := bt.std 1 rfl
  have d4 := hf.stn b4
  have jw := (((eu.st d2).st d3).st d4)
  have jx := (ge.k0 b4)
  refine L_call go26 [.pointer (some ⟨ac, 0, none⟩)] rfl ((F67.calls jt bo.ok ac r_b cd ce cf m4 jw jx (mem_app 2 rfl) _ H).mono ?_)
  rintro _ n4 ⟨r6, m6, e7, e8, e9, fa, fb, fc, rfl, H, c2, n5, jy, jz, j0⟩
  have fd := bo.wr 2 rfl c2
  have hg := Gm.tq e6 c2 (hv_mem 0 rfl)
  refine L_nil ⟨hg, ?_⟩
  refine M_any1 4 (by kernel_rfl) rfl ?_
  have j1 := (bo.bm ((aa.bm (al.bm ((aj.bm (a9.bm ((a7.bm (az.bm ((bc.bm (((dn.k0 cv).k0 bs).k0 bi) 3 0 rfl rfl rfl bf).k0 ay) 6 0 rfl rfl rfl a0) 4 1 rfl rfl rfl bd).k0 a8) 5 0 rfl rfl rfl ba) 5 2 rfl rfl rfl an).k0 ak) 6 0 rfl rfl rfl am) 6 3 rfl rfl rfl ab).k0 b4) 5 2 rfl rfl rfl c2)
  refine L_stb b7 0 [vs ([] : Str), vi 0, .slice none 0 0, .slice none 0 0] [vs r.Id, vi r.Shape.Kind, .slice ad ae af, .slice ag ah ai] [vs r.Id, vi r.Shape.Kind, .slice ad ae af, .slice ag ah ai] rfl j1 rfl sz28 rfl rfl rfl fun n6 d5 j2 => ?_
  have fe := fd.wr 5 rfl d5
  have hh := Gm.tq hg d5 (hv_mem 1 rfl)
  refine L_nil ⟨hh, ?_⟩
  refine M_any1 5 (by kernel_rfl) rfl ?_
  have j3 := (fd.bm (bo.bm ((aa.bm (al.bm ((aj.bm (a9.bm ((a7.bm (az.bm ((bc.bm ((dp.k0 bs).k0 bi) 2 0 rfl rfl rfl bf).k0 ay) 5 0 rfl rfl rfl a0) 3 1 rfl rfl rfl bd).k0 a8) 4 0 rfl rfl rfl ba) 4 2 rfl rfl rfl an).k0 ak) 5 0 rfl rfl rfl am) 5 3 rfl rfl rfl ab).k0 b4) 4 2 rfl rfl rfl c2) 4 5 rfl rfl rfl d5)
  refine L_stb bh 0 [vs ([] : Str), vi 0, .slice none 0 0, .slice none 0 0] [vs r6.Id, vi r6.Shape.Kind, .slice e7 e8 e9, .slice fa fb fc] [vs r6.Id, vi r6.Shape.Kind, .slice e7 e8 e9, .slice fa fb fc] rfl j3 rfl sz28 rfl rfl rfl fun n7 d6 j4 => ?_
  have ff := fe.wr 4 rfl d6
  have hi := Gm.tq hh d6 (hv_mem 2 rfl)
  refine L_nil ⟨hi, ?_⟩
  refine M_any1 6 (by kernel_rfl) rfl ?_
  have j5 := (fe.bm (fd.bm (bo.bm ((aa.bm (al.bm ((aj.bm (a9.bm ((a7.bm (az.bm ((bc.bm (dq.k0 bi) 1 0 rfl rfl rfl bf).k0 ay) 4 0 rfl rfl rfl a0) 2 1 rfl rfl rfl bd).k0 a8) 3 0 rfl rfl rfl ba) 3 2 rfl rfl rfl an).k0 ak) 4 0 rfl rfl rfl am) 4 3 rfl rfl rfl ab).k0 b4) 3 2 rfl rfl rfl c2) 3 5 rfl rfl rfl d5) 3 4 rfl rfl rfl d6)
  refine L_stb be 0 [vs ([] : Str), vi 0, .slice none 0 0, .slice none 0 0] [vs r3.Id, vi r3.Shape.Kind, .slice ao ap aq, .slice ar au av] [vs r3.Id, vi r3.Shape.Kind, .slice ao ap aq, .slice ar au av] rfl j5 rfl sz28 rfl rfl rfl fun j6 d7 j7 => ?_
  have gk := ff.wr 3 rfl d7
  have j8 := Gm.tq hi d7 (hv_mem 3 rfl)
  refine L_nil ⟨j8, ?_⟩
  refine M_nil (by kernel_rfl) ?_
  refine W_ret ?_
  have j9 := (ff.bm (fe.bm j2 5 4 rfl rfl rfl d6) 5 3 rfl rfl rfl d7)
  have ka := gk.bgv j9 5 rfl
  have gl := gk.drop 5 rfl
  have kb := (ff.bm j4 4 3 rfl rfl rfl d7)
  have kc := gl.bgv kb 4 rfl
  have gm := gl.drop 4 rfl
  have kd := j7
  have ke := gm.bgv kd 3 rfl
  have kf : Ct [] w0 j6 [some bb, some bg, some ac] O := gm.drop 3 rfl
  have kg := kf.clear
  have ch := gl.std 4 rfl
  have b5 := gm.std 3 rfl
  have kh := (((ka.st ch).st b5).st St.clear)
  have ki := ((kc.st b5).st St.clear)
  have kj := (ke.st St.clear)
  have fg := bo.stw 2 rfl c2
  have c4 := fd.stw 5 rfl d5
  have c5 := fe.stw 4 rfl d6
  have c6 := ff.stw 3 rfl d7
  have c7 := gk.std 5 rfl
  have kk := ((((((((((((((ds.st bj).st aw).st ax).st d2).st d3).st d4).st fg).st c4).st c5).st c6).st c7).st ch).st b5).st St.clear)
  have kl := ((((((((((((((dt.st bj).st aw).st ax).st d2).st d3).st d4).st fg).st c4).st c5).st c6).st c7).st ch).st b5).st St.clear)
  have km := (((((((jz.st c4).st c5).st c6).st c7).st ch).st b5).st St.clear)
  have kn := (((((((j0.st c4).st c5).st c6).st c7).st ch).st b5).st St.clear)
  have ko := (((((((((((((es.st aw).st ax).st d2).st d3).st d4).st fg).st c4).st c5).st c6).st c7).st ch).st b5).st St.clear)
  have kp := (((((((((((((et.st aw).st ax).st d2).st d3).st d4).st fg).st c4).st c5).st c6).st c7).st ch).st b5).st St.clear)
  exact ⟨[.agg #[vs r.Id, vi r.Shape.Kind, .slice ad ae af, .slice ag ah ai], .agg #[vs r6.Id, vi r6.Shape.Kind, .slice e7 e8 e9, .slice fa fb fc], .agg #[vs r3.Id, vi r3.Shape.Kind, .slice ao ap aq, .slice ar au av]], ⟨_, _, rfl, kh.1.res rfl ag28 sz28, ⟨_, _, rfl, ki.1.res rfl ag28 sz28, ⟨_, _, rfl, kj.1.res rfl ag28 sz28, rfl⟩⟩⟩, r, r6, r3, ad, ae, af, ag, ah, ai, e7, e8, e9, fa, fb, fc, ao, ap, aq, ar, au, av, rfl, H, kg.gr.g0, cw, kk, kl, jy, km, kn, er, ko, kp⟩
 have H := ite_f H gj
 refine W_seq (W_reg (L_pu (P_cmp r4 2 (r4 == 2) rfl rfl rfl) (L_as (vb (r4 == 2)) rfl (L_nil ?_))))
 refine W_cond (r4 == 2) rfl (fun gn => ?_) (fun gn => ?_)
 ·have H := ite_t H gn
  refine W_seq ?_
  have hj : Ct [] w0 dv [some bb, some bg, some ac, some be, some bh, some b7] O := bt.drop 1 rfl
  refine W_mixr 7 [some ac, some b7, some bh, some be] (by kernel_rfl) rfl fun kq b6 fh => ?_
  have bp := hj.k0 b6
  have kr := ((aa.bm (al.bm ((aj.bm dr 1 2 rfl rfl rfl an).k0 ak) 2 0 rfl rfl rfl am) 2 3 rfl rfl rfl ab).k0 b6)
  refine M_pu 0 rfl (by kernel_rfl) fh (P_ldar ag28 sz28 cR ⟨bg, 0, none⟩ [vs r.Id, vi r.Shape.Kind, .slice ad ae af, .slice ag ah ai] rfl rfl (kr.cells (off := 0) rfl) (nm_cons (bx_ne bp (j := 1) (i := 2) rfl rfl (by decide)) (nm_cons (bx_ne bp (j := 1) (i := 5) rfl rfl (by decide)) (nm_cons (bx_ne bp (j := 1) (i := 4) rfl rfl (by decide)) (nm_cons (bx_ne bp (j := 1) (i := 3) rfl rfl (by decide)) nm_nil))))) ?_
  refine M_pu 1 rfl (by kernel_rfl) fh (P_move (.pointer (some ⟨ac, 0, none⟩)) rfl) ?_
  have ks := ((aa.bm du 0 3 rfl rfl rfl ab).k0 b6)
  refine M_pu 3 rfl (by kernel_rfl) fh (P_ldar ag28 sz28 cR ⟨bb, 0, none⟩ [vs r3.Id, vi r3.Shape.Kind, .slice ao ap aq, .slice ar au av] rfl rfl (ks.cells (off := 0) rfl) (nm_cons (bx_ne bp (j := 0) (i := 2) rfl rfl (by decide)) (nm_cons (bx_ne bp (j := 0) (i := 5) rfl rfl (by decide)) (nm_cons (bx_ne bp (j := 0) (i := 4) rfl rfl (by decide)) (nm_cons (bx_ne bp (j := 0) (i := 3) rfl rfl (by decide)) nm_nil))))) ?_
  refine M_any1 2 (by kernel_rfl) rfl ?_
  have d8 := aa.stw 3 rfl ab
  have d9 := bt.std 1 rfl
  have ea := hj.stn b6
  have kt := (((eu.st d8).st d9).st ea)
  have ku := (ge.k0 b6)
  refine L_call go23 [.pointer (some ⟨ac, 0, none⟩), vs ([97] : Str)] rfl ((F58.calls kq bp.ok ac r_b cd ce cf m4 kt ku (mem_app 2 rfl) ([97] : Str) (by decide : Lim ([97] : Str)) _ H).mono ?_)
  rintro _ n8 ⟨r7, m7, eb, fi, fj, ec, fk, fl, rfl, H, c8, n9, kv, hk, kx, ky, kz⟩
  have c9 := bp.ownw (j := 2) rfl c8 kv hk
  have hl := Gm.tq fh c8 (hv_mem 0 rfl)
  refine L_nil ⟨hl, ?_⟩
  refine M_any1 4 (by kernel_rfl) rfl ?_
  have k1 := (bp.bm ((aa.bm (al.bm ((aj.bm (a9.bm ((a7.bm (az.bm ((bc.bm (((dn.k0 cv).k0 bs).k0 bi) 3 0 rfl rfl rfl bf).k0 ay) 6 0 rfl rfl rfl a0) 4 1 rfl rfl rfl bd).k0 a8) 5 0 rfl rfl rfl ba) 5 2 rfl rfl rfl an).k0 ak) 6 0 rfl rfl rfl am) 6 3 rfl rfl rfl ab).k0 b6) 5 2 rfl rfl rfl c8)
  refine L_stb b7 0 [vs ([] : Str), vi 0, .slice none 0 0, .slice none 0 0] [vs r.Id, vi r.Shape.Kind, .slice ad ae af, .slice ag ah ai] [vs r.Id, vi r.Shape.Kind, .slice ad ae af, .slice ag ah ai] rfl k1 rfl sz28 rfl rfl rfl fun oa ci k2 => ?_
  have da := c9.wr 7 rfl ci
  have hm := Gm.tq hl ci (hv_mem 1 rfl)
  refine L_nil ⟨hm, ?_⟩
  refine M_any1 5 (by kernel_rfl) rfl ?_
  have k3 := (c9.bm (bp.bm ((aa.bm (al.bm ((aj.bm (a9.bm ((a7.bm (az.bm ((bc.bm ((dp.k0 bs).k0 bi) 2 0 rfl rfl rfl bf).k0 ay) 5 0 rfl rfl rfl a0) 3 1 rfl rfl rfl bd).k0 a8) 4 0 rfl rfl rfl ba) 4 2 rfl rfl rfl an).k0 ak) 5 0 rfl rfl rfl am) 5 3 rfl rfl rfl ab).k0 b6) 4 2 rfl rfl rfl c8) 6 7 rfl rfl rfl ci)
  refine L_stb bh 0 [vs ([] : Str), vi 0, .slice none 0 0, .slice none 0 0] [vs r7.Id, vi r7.Shape.Kind, .slice eb fi fj, .slice ec fk fl] [vs r7.Id, vi r7.Shape.Kind, .slice eb fi fj, .slice ec fk fl] rfl k3 rfl sz28 rfl rfl rfl fun ob cj k4 => ?_
  have db := da.wr 6 rfl cj
  have hn := Gm.tq hm cj (hv_mem 2 rfl)
  refine L_nil ⟨hn, ?_⟩
  refine M_any1 6 (by kernel_rfl) rfl ?_
  have k5 := (da.bm (c9.bm (bp.bm ((aa.bm (al.bm ((aj.bm (a9.bm ((a7.bm (az.bm ((bc.bm (dq.k0 bi) 1 0 rfl rfl rfl bf).k0 ay) 4 0 rfl rfl rfl a0) 2 1 rfl rfl rfl bd).k0 a8) 3 0 rfl rfl rfl ba) 3 2 rfl rfl rfl an).k0 ak) 4 0 rfl rfl rfl am) 4 3 rfl rfl rfl ab).k0 b6) 3 2 rfl rfl rfl c8) 5 7 rfl rfl rfl ci) 5 6 rfl rfl rfl cj)
  refine L_stb be 0 [vs ([] : Str), vi 0, .slice none 0 0, .slice none 0 0] [vs r3.Id, vi r3.Shape.Kind, .slice ao ap aq, .slice ar au av] [vs r3.Id, vi r3.Shape.Kind, .slice ao ap aq, .slice ar au av] rfl k5 rfl sz28 rfl rfl rfl fun k6 ck k7 => ?_
  have ed := db.wr 5 rfl ck
  have k8 := Gm.tq hn ck (hv_mem 3 rfl)
  refine L_nil ⟨k8, ?_⟩
  refine M_nil (by kernel_rfl) ?_
  refine W_ret ?_
  have k9 := (db.bm (da.bm k2 7 6 rfl rfl rfl cj) 7 5 rfl rfl rfl ck)
  have la := ed.bgv k9 7 rfl
  have ee := ed.drop 7 rfl
  have lb := (db.bm k4 6 5 rfl rfl rfl ck)
  have lc := ee.bgv lb 6 rfl
  have ef := ee.drop 6 rfl
  have ld := k7
  have le := ef.bgv ld 5 rfl
  have fm : Ct [] w0 k6 [bk eb, bk ec, some bb, some bg, some ac] O := ef.drop 5 rfl
  have lf := (ef.sd (ee.sd (ed.sd (db.sw (da.sw (c9.sw ky 0 7 rfl rfl rfl ci) 0 6 rfl rfl rfl cj) 0 5 rfl rfl rfl ck) 0 7 rfl rfl rfl) 0 6 rfl rfl rfl) 0 5 rfl rfl rfl)
  have lg := fm.gv lf 0 rfl
  have gp := fm.drop 0 rfl
  have lh := (fm.sd (ef.sd (ee.sd (ed.sd (db.sw (da.sw (c9.sw kz 1 7 rfl rfl rfl ci) 1 6 rfl rfl rfl cj) 1 5 rfl rfl rfl ck) 1 7 rfl rfl rfl) 1 6 rfl rfl rfl) 1 5 rfl rfl rfl) 1 0 rfl rfl rfl)
  have li := gp.gv lh 0 rfl
  have lj := gp.drop 0 rfl
  have lk := lj.clear
  have eg := ee.std 6 rfl
  have dc := ef.std 5 rfl
  have cl := fm.std 0 rfl
  have b8 := gp.std 0 rfl
  have ll := (((((la.st eg).st dc).st cl).st b8).st St.clear)
  have lm := ((((lc.st dc).st cl).st b8).st St.clear)
  have ln := (((le.st cl).st b8).st St.clear)
  have fn := bp.stow 2 rfl c8 hk
  have fo := c9.stw 7 rfl ci
  have fp := da.stw 6 rfl cj
  have fq := db.stw 5 rfl ck
  have fr := ed.std 7 rfl
  have lo := ((((((((((((((((ds.st bj).st aw).st ax).st d8).st d9).st ea).st fn).st fo).st fp).st fq).st fr).st eg).st dc).st cl).st b8).st St.clear)
  have lp := ((((((((((((((((dt.st bj).st aw).st ax).st d8).st d9).st ea).st fn).st fo).st fp).st fq).st fr).st eg).st dc).st cl).st b8).st St.clear)
  have lq := ((lg.st b8).st St.clear)
  have lr := (((((((((((((((es.st aw).st ax).st d8).st d9).st ea).st fn).st fo).st fp).st fq).st fr).st eg).st dc).st cl).st b8).st St.clear)
  have ls := (((((((((((((((et.st aw).st ax).st d8).st d9).st ea).st fn).st fo).st fp).st fq).st fr).st eg).st dc).st cl).st b8).st St.clear)
  exact ⟨[.agg #[vs r.Id, vi r.Shape.Kind, .slice ad ae af, .slice ag ah ai], .agg #[vs r7.Id, vi r7.Shape.Kind, .slice eb fi fj, .slice ec fk fl], .agg #[vs r3.Id, vi r3.Shape.Kind, .slice ao ap aq, .slice ar au av]], ⟨_, _, rfl, ll.1.res rfl ag28 sz28, ⟨_, _, rfl, lm.1.res rfl ag28 sz28, ⟨_, _, rfl, ln.1.res rfl ag28 sz28, rfl⟩⟩⟩, r, r7, r3, ad, ae, af, ag, ah, ai, eb, fi, fj, ec, fk, fl, ao, ap, aq, ar, au, av, rfl, H, lk.gr.g0, cw, lo, lp, kx, lq, (li.st St.clear), er, lr, ls⟩
 have H := ite_f H gn
 refine W_seq (W_reg (L_pu (P_cmp r4 3 (r4 == 3) rfl rfl rfl) (L_as (vb (r4 == 3)) rfl (L_nil ?_))))
 refine W_cond (r4 == 3) rfl (fun gq => ?_) (fun gq => ?_)
 ·have H := ite_t H gq
  refine W_reg ?_
  have ho := (aa.bm (al.bm ((aj.bm gc 0 2 rfl rfl rfl an).k0 ak) 1 0 rfl rfl rfl am) 1 3 rfl rfl rfl ab)
  refine L_pu (P_lda ag28 sz28 cL ⟨bq, 0, none⟩ [vs r2.Id, vi r2.Shape.Kind, .slice a1 a2 a3, .slice a4 a5 a6] rfl rfl (ho.cells (off := 0) rfl)) ?_
  have fs := aa.stw 3 rfl ab
  have hp := ((((((ga.st bv).st bw).st bj).st aw).st ax).st fs)
  have hq := ((((((gb.st bv).st bw).st bj).st aw).st ax).st fs)
  refine L_call go27 [.agg #[vs r2.Id, vi r2.Shape.Kind, .slice a1 a2 a3, .slice a4 a5 a6]] rfl ((F60.calls dv bt.ok r2 a1 a2 a3 a4 a5 a6 eq hp hq _ H).mono ?_)
  rintro _ lt ⟨r8, bx, cm, cn, bz, co, cp, rfl, H, b9, lu, hr, lv, lw, lx⟩
  have b0 : Ct [] w0 lt [bk bx, bk bz, some bb, some bq, some bg, some ac, some be, some bh, some b7] O := bt.owns b9 lu hr
  have ly := ((aa.bm du 0 3 rfl rfl rfl ab).k0 b9)
  refine L_stb bb 0 [vs r3.Id, vi r3.Shape.Kind, .slice ao ap aq, .slice ar au av] [vs r8.Id, vi r8.Shape.Kind, .slice bx cm cn, .slice bz co cp] [vs r8.Id, vi r8.Shape.Kind, .slice bx cm cn, .slice bz co cp] rfl ly rfl sz28 rfl rfl rfl fun oc b1 lz => ?_
  have ft := b0.wr 2 rfl b1
  refine L_nil (W_seq ?_)
  have hs := ft.drop 5 rfl
  refine W_mixr 6 [some b7, some bh, some be] (by kernel_rfl) rfl fun od bu fu => ?_
  have bl := hs.k0 bu
  have l0 := ((b0.bm ((aa.bm (al.bm ((aj.bm dr 1 2 rfl rfl rfl an).k0 ak) 2 0 rfl rfl rfl am) 2 3 rfl rfl rfl ab).k0 b9) 4 2 rfl rfl rfl b1).k0 bu)
  refine M_pu 0 rfl (by kernel_rfl) fu (P_ldar ag28 sz28 cR ⟨bg, 0, none⟩ [vs r.Id, vi r.Shape.Kind, .slice ad ae af, .slice ag ah ai] rfl rfl (l0.cells (off := 0) rfl) (nm_cons (bx_ne bl (j := 4) (i := 7) rfl rfl (by decide)) (nm_cons (bx_ne bl (j := 4) (i := 6) rfl rfl (by decide)) (nm_cons (bx_ne bl (j := 4) (i := 5) rfl rfl (by decide)) nm_nil)))) ?_
  have l1 := ((b0.bm (ho.k0 b9) 3 2 rfl rfl rfl b1).k0 bu)
  refine M_pu 1 rfl (by kernel_rfl) fu (P_ldar ag28 sz28 cR ⟨bq, 0, none⟩ [vs r2.Id, vi r2.Shape.Kind, .slice a1 a2 a3, .slice a4 a5 a6] rfl rfl (l1.cells (off := 0) rfl) (nm_cons (bx_ne bl (j := 3) (i := 7) rfl rfl (by decide)) (nm_cons (bx_ne bl (j := 3) (i := 6) rfl rfl (by decide)) (nm_cons (bx_ne bl (j := 3) (i := 5) rfl rfl (by decide)) nm_nil)))) ?_
  have l2 := (lz.k0 bu)
  refine M_pu 2 rfl (by kernel_rfl) fu (P_ldar ag28 sz28 cR ⟨bb, 0, none⟩ [vs r8.Id, vi r8.Shape.Kind, .slice bx cm cn, .slice bz co cp] rfl rfl (l2.cells (off := 0) rfl) (nm_cons (bx_ne bl (j := 2) (i := 7) rfl rfl (by decide)) (nm_cons (bx_ne bl (j := 2) (i := 6) rfl rfl (by decide)) (nm_cons (bx_ne bl (j := 2) (i := 5) rfl rfl (by decide)) nm_nil)))) ?_
  refine M_any1 3 (by kernel_rfl) rfl ?_
  have l3 := ((b0.bm ((aa.bm (al.bm ((aj.bm (a9.bm ((a7.bm (az.bm ((bc.bm (((dn.k0 cv).k0 bs).k0 bi) 3 0 rfl rfl rfl bf).k0 ay) 6 0 rfl rfl rfl a0) 4 1 rfl rfl rfl bd).k0 a8) 5 0 rfl rfl rfl ba) 5 2 rfl rfl rfl an).k0 ak) 6 0 rfl rfl rfl am) 6 3 rfl rfl rfl ab).k0 b9) 8 2 rfl rfl rfl b1).k0 bu)
  refine L_stb b7 0 [vs ([] : Str), vi 0, .slice none 0 0, .slice none 0 0] [vs r.Id, vi r.Shape.Kind, .slice ad ae af, .slice ag ah ai] [vs r.Id, vi r.Shape.Kind, .slice ad ae af, .slice ag ah ai] rfl l3 rfl sz28 rfl rfl rfl fun oe cq l4 => ?_
  have dd := bl.wr 7 rfl cq
  have ht := Gm.tq fu cq (hv_mem 0 rfl)
  refine L_nil ⟨ht, ?_⟩
  refine M_any1 4 (by kernel_rfl) rfl ?_
  have l5 := (bl.bm ((b0.bm ((aa.bm (al.bm ((aj.bm (a9.bm ((a7.bm (az.bm ((bc.bm ((dp.k0 bs).k0 bi) 2 0 rfl rfl rfl bf).k0 ay) 5 0 rfl rfl rfl a0) 3 1 rfl rfl rfl bd).k0 a8) 4 0 rfl rfl rfl ba) 4 2 rfl rfl rfl an).k0 ak) 5 0 rfl rfl rfl am) 5 3 rfl rfl rfl ab).k0 b9) 7 2 rfl rfl rfl b1).k0 bu) 6 7 rfl rfl rfl cq)
  refine L_stb bh 0 [vs ([] : Str), vi 0, .slice none 0 0, .slice none 0 0] [vs r2.Id, vi r2.Shape.Kind, .slice a1 a2 a3, .slice a4 a5 a6] [vs r2.Id, vi r2.Shape.Kind, .slice a1 a2 a3, .slice a4 a5 a6] rfl l5 rfl sz28 rfl rfl rfl fun og cr l6 => ?_
  have de := dd.wr 6 rfl cr
  have hu := Gm.tq ht cr (hv_mem 1 rfl)
  refine L_nil ⟨hu, ?_⟩
  refine M_any1 5 (by kernel_rfl) rfl ?_
  have l7 := (dd.bm (bl.bm ((b0.bm ((aa.bm (al.bm ((aj.bm (a9.bm ((a7.bm (az.bm ((bc.bm (dq.k0 bi) 1 0 rfl rfl rfl bf).k0 ay) 4 0 rfl rfl rfl a0) 2 1 rfl rfl rfl bd).k0 a8) 3 0 rfl rfl rfl ba) 3 2 rfl rfl rfl an).k0 ak) 4 0 rfl rfl rfl am) 4 3 rfl rfl rfl ab).k0 b9) 6 2 rfl rfl rfl b1).k0 bu) 5 7 rfl rfl rfl cq) 5 6 rfl rfl rfl cr)
  refine L_stb be 0 [vs ([] : Str), vi 0, .slice none 0 0, .slice none 0 0] [vs r8.Id, vi r8.Shape.Kind, .slice bx cm cn, .slice bz co cp] [vs r8.Id, vi r8.Shape.Kind, .slice bx cm cn, .slice bz co cp] rfl l7 rfl sz28 rfl rfl rfl fun hv cs l8 => ?_
  have eh := de.wr 5 rfl cs
  have l9 := Gm.tq hu cs (hv_mem 2 rfl)
  refine L_nil ⟨l9, ?_⟩
  refine M_nil (by kernel_rfl) ?_
  refine W_ret ?_
  have ma := (de.bm (dd.bm l4 7 6 rfl rfl rfl cr) 7 5 rfl rfl rfl cs)
  have mb := eh.bgv ma 7 rfl
  have ei := eh.drop 7 rfl
  have mc := (de.bm l6 6 5 rfl rfl rfl cs)
  have md := ei.bgv mc 6 rfl
  have ej : Ct [] w0 hv [bk bx, bk bz, some bb, some bq, some bg, some be] O := ei.drop 6 rfl
  have me := l8
  have mf := ej.bgv me 5 rfl
  have fv := ej.drop 5 rfl
  have mg := (ej.sd (ei.sd (eh.sd (de.sw (dd.sw (bl.sw ((ft.sd (b0.sw lw 0 2 rfl rfl rfl b1) 0 5 rfl rfl rfl).sn bu) 0 7 rfl rfl rfl cq) 0 6 rfl rfl rfl cr) 0 5 rfl rfl rfl cs) 0 7 rfl rfl rfl) 0 6 rfl rfl rfl) 0 5 rfl rfl rfl)
  have mh := fv.gv mg 0 rfl
  have gs := fv.drop 0 rfl
  have mi := (fv.sd (ej.sd (ei.sd (eh.sd (de.sw (dd.sw (bl.sw ((ft.sd (b0.sw lx 1 2 rfl rfl rfl b1) 1 5 rfl rfl rfl).sn bu) 1 7 rfl rfl rfl cq) 1 6 rfl rfl rfl cr) 1 5 rfl rfl rfl cs) 1 7 rfl rfl rfl) 1 6 rfl rfl rfl) 1 5 rfl rfl rfl) 1 0 rfl rfl rfl)
  have mj := gs.gv mi 0 rfl
  have mk : Ct [] w0 hv [some bb, some bq, some bg] O := gs.drop 0 rfl
  have ml := mk.clear
  have ek := ei.std 6 rfl
  have df := ej.std 5 rfl
  have ct := fv.std 0 rfl
  have ca := gs.std 0 rfl
  have mm := (((((mb.st ek).st df).st ct).st ca).st St.clear)
  have mn := ((((md.st df).st ct).st ca).st St.clear)
  have mo := (((mf.st ct).st ca).st St.clear)
  have fw := bt.stos b9 hr
  have fx := b0.stw 2 rfl b1
  have fy := ft.std 5 rfl
  have fz := hs.stn bu
  have f0 := bl.stw 7 rfl cq
  have f1 := dd.stw 6 rfl cr
  have f2 := de.stw 5 rfl cs
  have f3 := eh.std 7 rfl
  have mp := (((((((((((((((((ds.st bj).st aw).st ax).st fs).st fw).st fx).st fy).st fz).st f0).st f1).st f2).st f3).st ek).st df).st ct).st ca).st St.clear)
  have mq := (((((((((((((((((dt.st bj).st aw).st ax).st fs).st fw).st fx).st fy).st fz).st f0).st f1).st f2).st f3).st ek).st df).st ct).st ca).st St.clear)
  have mr := (((((((((((((hp.st fw).st fx).st fy).st fz).st f0).st f1).st f2).st f3).st ek).st df).st ct).st ca).st St.clear)
  have ms := (((((((((((((hq.st fw).st fx).st fy).st fz).st f0).st f1).st f2).st f3).st ek).st df).st ct).st ca).st St.clear)
  have mt := ((mh.st ca).st St.clear)
  exact ⟨[.agg #[vs r.Id, vi r.Shape.Kind, .slice ad ae af, .slice ag ah ai], .agg #[vs r2.Id, vi r2.Shape.Kind, .slice a1 a2 a3, .slice a4 a5 a6], .agg #[vs r8.Id, vi r8.Shape.Kind, .slice bx cm cn, .slice bz co cp]], ⟨_, _, rfl, mm.1.res rfl ag28 sz28, ⟨_, _, rfl, mn.1.res rfl ag28 sz28, ⟨_, _, rfl, mo.1.res rfl ag28 sz28, rfl⟩⟩⟩, r, r2, r8, ad, ae, af, ag, ah, ai, a1, a2, a3, a4, a5, a6, bx, cm, cn, bz, co, cp, rfl, H, ml.gr.g0, cw, mp, mq, eq, mr, ms, lv, mt, (mj.st St.clear)⟩
 have H := ite_f H gq
 refine W_skip (W_seq ?_)
 have hw : Ct [] w0 dv [some bb, some bq, some bg, some be, some bh, some b7] O := bt.drop 3 rfl
 refine W_mixr 6 [some b7, some bh, some be] (by kernel_rfl) rfl fun oh cb f4 => ?_
 have br := hw.k0 cb
 have mu := ((aa.bm (al.bm ((aj.bm dr 1 2 rfl rfl rfl an).k0 ak) 2 0 rfl rfl rfl am) 2 3 rfl rfl rfl ab).k0 cb)
 refine M_pu 0 rfl (by kernel_rfl) f4 (P_ldar ag28 sz28 cR ⟨bg, 0, none⟩ [vs r.Id, vi r.Shape.Kind, .slice ad ae af, .slice ag ah ai] rfl rfl (mu.cells (off := 0) rfl) (nm_cons (bx_ne br (j := 2) (i := 5) rfl rfl (by decide)) (nm_cons (bx_ne br (j := 2) (i := 4) rfl rfl (by decide)) (nm_cons (bx_ne br (j := 2) (i := 3) rfl rfl (by decide)) nm_nil)))) ?_
 have mv := ((aa.bm (al.bm ((aj.bm gc 0 2 rfl rfl rfl an).k0 ak) 1 0 rfl rfl rfl am) 1 3 rfl rfl rfl ab).k0 cb)
 refine M_pu 1 rfl (by kernel_rfl) f4 (P_ldar ag28 sz28 cR ⟨bq, 0, none⟩ [vs r2.Id, vi r2.Shape.Kind, .slice a1 a2 a3, .slice a4 a5 a6] rfl rfl (mv.cells (off := 0) rfl) (nm_cons (bx_ne br (j := 1) (i := 5) rfl rfl (by decide)) (nm_cons (bx_ne br (j := 1) (i := 4) rfl rfl (by decide)) (nm_cons (bx_ne br (j := 1) (i := 3) rfl rfl (by decide)) nm_nil)))) ?_
 have mw := ((aa.bm du 0 3 rfl rfl rfl ab).k0 cb)
 refine M_pu 2 rfl (by kernel_rfl) f4 (P_ldar ag28 sz28 cR ⟨bb, 0, none⟩ [vs r3.Id, vi r3.Shape.Kind, .slice ao ap aq, .slice ar au av] rfl rfl (mw.cells (off := 0) rfl) (nm_cons (bx_ne br (j := 0) (i := 5) rfl rfl (by decide)) (nm_cons (bx_ne br (j := 0) (i := 4) rfl rfl (by decide)) (nm_cons (bx_ne br (j := 0) (i := 3) rfl rfl (by decide)) nm_nil)))) ?_
 refine M_any1 3 (by kernel_rfl) rfl ?_
 have mx := ((aa.bm (al.bm ((aj.bm (a9.bm ((a7.bm (az.bm ((bc.bm (((dn.k0 cv).k0 bs).k0 bi) 3 0 rfl rfl rfl bf).k0 ay) 6 0 rfl rfl rfl a0) 4 1 rfl rfl rfl bd).k0 a8) 5 0 rfl rfl rfl ba) 5 2 rfl rfl rfl an).k0 ak) 6 0 rfl rfl rfl am) 6 3 rfl rfl rfl ab).k0 cb)
 refine L_stb b7 0 [vs ([] : Str), vi 0, .slice none 0 0, .slice none 0 0] [vs r.Id, vi r.Shape.Kind, .slice ad ae af, .slice ag ah ai] [vs r.Id, vi r.Shape.Kind, .slice ad ae af, .slice ag ah ai] rfl mx rfl sz28 rfl rfl rfl fun oi el my => ?_
 have f5 := br.wr 5 rfl el
 have hx := Gm.tq f4 el (hv_mem 0 rfl)
 refine L_nil ⟨hx, ?_⟩
 refine M_any1 4 (by kernel_rfl) rfl ?_
 have mz := (br.bm ((aa.bm (al.bm ((aj.bm (a9.bm ((a7.bm (az.bm ((bc.bm ((dp.k0 bs).k0 bi) 2 0 rfl rfl rfl bf).k0 ay) 5 0 rfl rfl rfl a0) 3 1 rfl rfl rfl bd).k0 a8) 4 0 rfl rfl rfl ba) 4 2 rfl rfl rfl an).k0 ak) 5 0 rfl rfl rfl am) 5 3 rfl rfl rfl ab).k0 cb) 4 5 rfl rfl rfl el)
 refine L_stb bh 0 [vs ([] : Str), vi 0, .slice none 0 0, .slice none 0 0] [vs r2.Id, vi r2.Shape.Kind, .slice a1 a2 a3, .slice a4 a5 a6] [vs r2.Id, vi r2.Shape.Kind, .slice a1 a2 a3, .slice a4 a5 a6] rfl mz rfl sz28 rfl rfl rfl fun oj em m0 => ?_
 have f6 := f5.wr 4 rfl em
 have hy := Gm.tq hx em (hv_mem 1 rfl)
 refine L_nil ⟨hy, ?_⟩
 refine M_any1 5 (by kernel_rfl) rfl ?_
 have m1 := (f5.bm (br.bm ((aa.bm (al.bm ((aj.bm (a9.bm ((a7.bm (az.bm ((bc.bm (dq.k0 bi) 1 0 rfl rfl rfl bf).k0 ay) 4 0 rfl rfl rfl a0) 2 1 rfl rfl rfl bd).k0 a8) 3 0 rfl rfl rfl ba) 3 2 rfl rfl rfl an).k0 ak) 4 0 rfl rfl rfl am) 4 3 rfl rfl rfl ab).k0 cb) 3 5 rfl rfl rfl el) 3 4 rfl rfl rfl em)
 refine L_stb be 0 [vs ([] : Str), vi 0, .slice none 0 0, .slice none 0 0] [vs r3.Id, vi r3.Shape.Kind, .slice ao ap aq, .slice ar au av] [vs r3.Id, vi r3.Shape.Kind, .slice ao ap aq, .slice ar au av] rfl m1 rfl sz28 rfl rfl rfl fun m8 en m9 => ?_
 have gt := f6.wr 3 rfl en
 have na := Gm.tq hy en (hv_mem 2 rfl)
 refine L_nil ⟨na, ?_⟩
 refine M_nil (by kernel_rfl) ?_
 refine W_ret ?_
 have nb := (f6.bm (f5.bm my 5 4 rfl rfl rfl em) 5 3 rfl rfl rfl en)
 have nc := gt.bgv nb 5 rfl
 have gu := gt.drop 5 rfl
 have nd := (f6.bm m0 4 3 rfl rfl rfl en)
 have ne := gu.bgv nd 4 rfl
 have gw := gu.drop 4 rfl
 have nf := m9
 have ng := gw.bgv nf 3 rfl
 have nh : Ct [] w0 m8 [some bb, some bq, some bg] O := gw.drop 3 rfl
 have ni := nh.clear
 have cu := gu.std 4 rfl
 have cc := gw.std 3 rfl
 have nj := (((nc.st cu).st cc).st St.clear)
 have nk := ((ne.st cc).st St.clear)
 have nl := (ng.st St.clear)
 have dg := aa.stw 3 rfl ab
 have dh := bt.std 3 rfl
 have di := hw.stn cb
 have dj := br.stw 5 rfl el
 have dk := f5.stw 4 rfl em
 have dl := f6.stw 3 rfl en
 have dm := gt.std 5 rfl
 have nm := (((((((((((((ds.st bj).st aw).st ax).st dg).st dh).st di).st dj).st dk).st dl).st dm).st cu).st cc).st St.clear)
 have nn := (((((((((((((dt.st bj).st aw).st ax).st dg).st dh).st di).st dj).st dk).st dl).st dm).st cu).st cc).st St.clear)
 have no := (((((((((((((((ga.st bv).st bw).st bj).st aw).st ax).st dg).st dh).st di).st dj).st dk).st dl).st dm).st cu).st cc).st St.clear)
 have np := (((((((((((((((gb.st bv).st bw).st bj).st aw).st ax).st dg).st dh).st di).st dj).st dk).st dl).st dm).st cu).st cc).st St.clear)
 have nq := ((((((((((((es.st aw).st ax).st dg).st dh).st di).st dj).st dk).st dl).st dm).st cu).st cc).st St.clear)
 have nr := ((((((((((((et.st aw).st ax).st dg).st dh).st di).st dj).st dk).st dl).st dm).st cu).st cc).st St.clear)
 exact ⟨[.agg #[vs r.Id, vi r.Shape.Kind, .slice ad ae af, .slice ag ah ai], .agg #[vs r2.Id, vi r2.Shape.Kind, .slice a1 a2 a3, .slice a4 a5 a6], .agg #[vs r3.Id, vi r3.Shape.Kind, .slice ao ap aq, .slice ar au av]], ⟨_, _, rfl, nj.1.res rfl ag28 sz28, ⟨_, _, rfl, nk.1.res rfl ag28 sz28, ⟨_, _, rfl, nl.1.res rfl ag28 sz28, rfl⟩⟩⟩, r, r2, r3, ad, ae, af, ag, ah, ai, a1, a2, a3, a4, a5, a6, ao, ap, aq, ar, au, av, rfl, H, ni.gr.g0, cw, nm, nn, eq, no, np, er, nq, nr⟩
end
section
open Go.RowKit
def F68.E (n : Int) (low : Int) (high : Int) (Q : Bool → Prop) : Prop :=
 (if decide (n ≥ low) then Q (decide (n ≤ high)) else Q false)
theorem F68.calls {O : Ob} (w0 : World) (hO : Ok w0 O) (n : Int) (low : Int) (high : Int) (Q : Bool → Prop) (h : F68.E n low high Q) :
  Ret Try.prog 49 [vi n, vi low, vi high] w0 (fun v w' => ∃ (r0 : Bool), v = vb r0 ∧ Q r0 ∧ Gr w0 w' none ∧ w' = w0) := by
 unfold F68.E at h
 have H := h
 clear h
 have hc0 := Ct.init hO
 refine Ret_enter Try.func49 rfl 15 rfl [.tmp 6] rfl rfl ?_
 refine W_seq (W_reg (L_as (vb false) rfl (L_nil (W_seq (W_reg (L_mv (vi n) rfl (L_mv (vi low) rfl (L_pu (P_cmp n low (decide (n ≥ low)) rfl rfl rfl) ?_))))))))
 refine L_mv (vb (decide (n ≥ low))) rfl ?_
 rcases bool_or (decide (n ≥ low)) with hq1 | hq1
 ·have H := ite_t H hq1
  refine L_rb hq1 rfl (L_mv (vi n) rfl (L_rb hq1 rfl (L_mv (vi high) rfl (L_rb hq1 rfl (L_pu (P_cmp n high (decide (n ≤ high)) rfl rfl rfl) (L_pu (P_pick true (vb (decide (n ≤ high))) (by exact congrArg Value.bool hq1) rfl) (L_as (vb (decide (n ≤ high))) rfl (L_nil ?_))))))))
  exact W_ret ⟨[vb (decide (n ≤ high))], ⟨_, rfl, rfl⟩, decide (n ≤ high), rfl, H, hc0.gr.g0, rfl⟩
 have H := ite_f H hq1
 exact L_pb hq1 rfl (L_pb hq1 rfl (L_pb hq1 rfl (L_pu (P_pick false (vb false) (by exact congrArg Value.bool hq1) rfl) (L_as (vb false) rfl (L_nil (W_ret ⟨[vb false], ⟨_, rfl, rfl⟩, false, rfl, H, hc0.gr.g0, rfl⟩))))))
def F68.m (n : Int) (low : Int) (high : Int) : Bool := (if decide (n ≥ low) then (decide (n ≤ high)) else false)
theorem F68.fn (n : Int) (low : Int) (high : Int) : F68.E n low high (fun r => r = F68.m n low high) := by
 unfold F68.E F68.m
 (repeat' split) <;> simp_all
end
section
open Go.RowKit
def F69.E (s : Str) (Q : Bool → Prop) : Prop :=
 (∃ (I9 : Int → Prop) (mu10 : Int → Nat), I9 0 ∧ ∀ (v2 : Int), I9 v2 → (if decide (v2 < (s.length : Int)) then ((0 : Int) ≤ v2 ∧ v2 < (s.length : Int)) ∧ (if decide (((nth s v2).toNat : Int) < 97) then Q false else ((0 : Int) ≤ v2 ∧ v2 < (s.length : Int)) ∧ (if decide (((nth s v2).toNat : Int) > 122) then Q false else (I64 (v2 + 1)) ∧ I9 (v2 + 1) ∧ mu10 (v2 + 1) < mu10 v2)) else F68.E (s.length : Int) 1 6 (fun r => Q r)))
theorem F69.calls {O : Ob} (w0 : World) (hO : Ok w0 O) (s : Str) (hs1 : Lim s) (Q : Bool → Prop) (h : F69.E s Q) :
  Ret Try.prog 45 [vs s] w0 (fun v w' => ∃ (r0 : Bool), v = vb r0 ∧ Q r0 ∧ Gr w0 w' none) := by
 unfold F69.E at h
 have H := h
 clear h
 have hc0 := Ct.init hO
 refine Ret_enter Try.func45 rfl 23 rfl [.tmp 2] rfl rfl ?_
 refine W_seq (W_reg (L_as (vb false) rfl (L_nil (W_seq (W_seq (W_reg (L_mv (vs s) rfl ?_)))))))
 have hl2 := hs1
 refine L_pu (P_lens Try.underlying9 s rfl) (L_mv (vi 0) rfl (L_nil (W_block ?_)))
 obtain ⟨I9, ae, ab, H⟩ := H
 refine W_loop (α := Int) (fun (sv__ : Int) t w7 => match sv__ with | v2 => I9 v2 ∧ Has t [(0, vs s), (5, vi (s.length : Int)), (6, vi v2)] ∧ Ct [] w0 w7 [] O) (fun (sv__ : Int) => match sv__ with | v2 => ae v2) 0 ⟨ab, (hasI rfl), hc0⟩ ?_
 rintro v2 _ w7 ⟨ab, af, hc8⟩
 obtain ⟨an, rfl⟩ := Has.ins af
 have H := H v2 ab
 refine W_seq (W_reg (L_pu (P_cmp v2 (s.length : Int) (decide (v2 < (s.length : Int))) rfl rfl rfl) (L_nil (W_seq ?_))))
 refine W_cond (decide (v2 < (s.length : Int))) rfl (fun ac => ?_) (fun ac => ?_)
 ·have H := ite_t H ac
  refine W_skip (W_seq (W_block (W_seq (W_reg (L_mv (vi v2) rfl (L_as (vi v2) rfl (L_nil (W_seq ?_))))))))
  refine W_reg (L_mv (vs s) rfl (L_mv (vi v2) rfl ?_))
  obtain ⟨ag, H⟩ := H
  refine L_pu (P_index Try.underlying9 s v2 rfl rfl ag) (L_pu (P_cmp ((nth s v2).toNat : Int) 97 (decide (((nth s v2).toNat : Int) < 97)) rfl rfl rfl) (L_mv (vb (decide (((nth s v2).toNat : Int) < 97))) rfl ?_))
  rcases bool_or (decide (((nth s v2).toNat : Int) < 97)) with aa | aa
  ·have H := ite_t H aa
   refine L_pb aa rfl (L_pb aa rfl (L_pb aa rfl (L_pb aa rfl (L_pu (P_pick true (vb true) (by exact congrArg Value.bool aa) rfl) (L_nil (W_ct (b := true) rfl rfl ?_))))))
   exact W_seq (W_reg (L_as (vb false) rfl (L_nil (W_ret ⟨[vb false], ⟨_, rfl, rfl⟩, false, rfl, H, hc8.gr.g0⟩))))
  have H := ite_f H aa
  refine L_rb aa rfl (L_mv (vs s) rfl (L_rb aa rfl (L_mv (vi v2) rfl (L_rb aa rfl ?_))))
  obtain ⟨ah, H⟩ := H
  refine L_pu (P_index Try.underlying9 s v2 rfl rfl ah) (L_rb aa rfl (L_pu (P_cmp ((nth s v2).toNat : Int) 122 (decide (((nth s v2).toNat : Int) > 122)) rfl rfl rfl) (L_pu (P_pick false (vb (decide (((nth s v2).toNat : Int) > 122))) (by exact congrArg Value.bool aa) rfl) (L_nil ?_))))
  refine W_cond (decide (((nth s v2).toNat : Int) > 122)) rfl (fun ad => ?_) (fun ad => ?_)
  ·have H := ite_t H ad
   exact W_seq (W_reg (L_as (vb false) rfl (L_nil (W_ret ⟨[vb false], ⟨_, rfl, rfl⟩, false, rfl, H, hc8.gr.g0⟩))))
  have H := ite_f H ad
  refine W_skip (W_reg ?_)
  obtain ⟨ai, H⟩ := H
  refine L_pu (P_add v2 1 rfl rfl ai) (L_mv (vi (v2 + 1)) rfl (L_nil ?_))
  obtain ⟨aj, ak⟩ := H
  exact ⟨v2 + 1, ak, aj, (hasI rfl), hc8⟩
 have H := ite_f H ac
 refine W_exit (xin_hit ?_)
 refine W_seq (W_reg (L_mv (vs s) rfl ?_))
 have ao := hs1
 refine L_pu (P_lens Try.underlying9 s rfl) ?_
 refine L_call go49 [vi (s.length : Int), vi 1, vi 6] rfl ((F68.calls w7 hc8.ok (s.length : Int) 1 6 _ H).mono ?_)
 rintro _ ap ⟨r, rfl, H, al, _⟩
 have am := hc8.k0 al
 exact L_as (vb r) rfl (L_nil (W_ret ⟨[vb r], ⟨_, rfl, rfl⟩, r, rfl, H, am.gr.g0⟩))
end
section
open Go.RowKit
def F107.E (p : Pt) (Q : Bool → Prop) : Prop :=
 F68.E p.X (-1000) 1000 (fun r => (if r then F68.E p.Y (-1000) 1000 (fun r2 => Q r2) else Q false))
theorem F107.calls {O : Ob} (w0 : World) (hO : Ok w0 O) (p : Pt) (Q : Bool → Prop) (h : F107.E p Q) :
  Ret Try.prog 82 [.agg #[vi p.X, vi p.Y]] w0 (fun v w' => ∃ (r0 : Bool), v = vb r0 ∧ Q r0 ∧ Gr w0 w' none) := by
 unfold F107.E at h
 have H := h
 clear h
 have hc0 := Ct.init hO
 refine Ret_enter Try.func82 rfl 11 rfl [.tmp 2] rfl rfl ?_
 refine W_seq (W_reg (L_box [vi p.X, vi p.Y] rfl fun w1 b2 hl4 hu5 g3 hx6 => ?_))
 have h8 := Fb.mk hc0.ok hl4 hx6
 have hc9 := hc0.k0 g3
 refine L_as (vb false) rfl (L_nil (W_seq (W_reg (L_pu (P_fa fa83_0 ⟨b2, 0, none⟩ ⟨b2, 0, none⟩ rfl rfl) (L_pu (P_ld ag3 cL ⟨b2, 0, none⟩ (vi p.X) rfl (h8.cell rfl)) ?_)))))
 refine L_call go49 [vi p.X, vi (-1000), vi 1000] rfl ((F68.calls w1 hc9.ok p.X (-1000) 1000 _ H).mono ?_)
 rintro _ ad ⟨r, rfl, H, ac, _⟩
 have ab := hc9.k0 ac
 refine L_mv (vb r) rfl ?_
 rcases bool_or r with aa | aa
 ·have H := ite_t H aa
  refine L_rb aa rfl (L_pu (P_fa fa83_1 ⟨b2, 0, none⟩ ⟨b2, 1, none⟩ rfl rfl) (L_rb aa rfl ?_))
  have ae := hc9.stn ac
  have af := (h8.st ae)
  refine L_pu (P_ld ag3 cL ⟨b2, 1, none⟩ (vi p.Y) rfl (af.cell rfl)) (L_rb aa rfl ?_)
  refine L_call go49 [vi p.Y, vi (-1000), vi 1000] rfl ((F68.calls ad ab.ok p.Y (-1000) 1000 _ H).mono ?_)
  rintro _ ai ⟨r2, rfl, H, ag, _⟩
  have ah := ab.k0 ag
  exact L_pu (P_pick true (vb r2) (by exact congrArg Value.bool aa) rfl) (L_as (vb r2) rfl (L_nil (W_ret ⟨[vb r2], ⟨_, rfl, rfl⟩, r2, rfl, H, ah.gr.g0⟩)))
 have H := ite_f H aa
 exact L_pb aa rfl (L_pb aa rfl (L_pb aa rfl (L_pu (P_pick false (vb false) (by exact congrArg Value.bool aa) rfl) (L_as (vb false) rfl (L_nil (W_ret ⟨[vb false], ⟨_, rfl, rfl⟩, false, rfl, H, ab.gr.g0⟩))))))
end
section
open Go.RowKit
def F47.E (s : Shape) (Q : Bool → Prop) : Prop :=
 (∃ (I31 : Int → Prop) (mu32 : Int → Nat), I31 0 ∧ ∀ (v2 : Int), I31 v2 → (if decide (v2 < (s.Pts.length : Int)) then ((0 : Int) ≤ v2 ∧ v2 < (s.Pts.length : Int)) ∧ (∃ q : Bool, F107.E (nth s.Pts v2) (fun x => x = q) ∧ (if !q then Q false else (if decide (v2 > 0) then (I64 (v2 - 1)) ∧ ((0 : Int) ≤ v2 - 1 ∧ v2 - 1 < (s.Pts.length : Int)) ∧ (if eqPt (nth s.Pts (v2 - 1)) (nth s.Pts v2) then Q false else (I64 (v2 + 1)) ∧ I31 (v2 + 1) ∧ mu32 (v2 + 1) < mu32 v2) else (I64 (v2 + 1)) ∧ I31 (v2 + 1) ∧ mu32 (v2 + 1) < mu32 v2))) else (if s.Kind == 1 then Q ((s.Pts.length : Int) == 1) else (if s.Kind == 2 then F68.E (s.Pts.length : Int) 2 6 (fun r2 => Q r2) else (if s.Kind == 3 then (if (F68.m (s.Pts.length : Int) 3 6) then ((0 : Int) ≤ 0 ∧ 0 < (s.Pts.length : Int)) ∧ ((s.Pts.length : Int) ≤ 9223372036854775807 → I64 ((s.Pts.length : Int) - 1)) ∧ ((0 : Int) ≤ (s.Pts.length : Int) - 1 ∧ (s.Pts.length : Int) - 1 < (s.Pts.length : Int)) ∧ Q (!(eqPt (nth s.Pts 0) (nth s.Pts ((s.Pts.length : Int) - 1)))) else Q false) else Q false)))))
theorem F47.calls {O : Ob} (w0 : World) (hO : Ok w0 O) (s : Shape) (A1 : Option Addr) (n2 c3 : Nat) (hp4 : Sl kPt w0 (Fr O) (.slice A1 n2 c3) s.Pts) (Q : Bool → Prop) (h : F47.E s Q) :
  Ret Try.prog 30 [.agg #[vi s.Kind, .slice A1 n2 c3]] w0 (fun v w' => ∃ (r0 : Bool), v = vb r0 ∧ Q r0 ∧ Gr w0 w' none) := by
 unfold F47.E at h
 have H := h
 clear h
 have hc0 := Ct.init hO
 refine Ret_enter Try.func30 rfl 62 rfl [.tmp 2] rfl rfl ?_
 refine W_seq (W_reg (L_box [vi s.Kind, .slice A1 n2 c3] rfl fun w6 b7 hl9 hu10 g8 bl => ?_))
 have ay := Fb.mk hc0.ok hl9 bl
 have ai := hc0.k0 g8
 refine L_as (vb false) rfl (L_nil (W_seq (W_seq (W_reg (L_pu (P_fa fa25_1 ⟨b7, 0, none⟩ ⟨b7, 1, none⟩ rfl rfl) (L_pu (P_ld ag23 cL ⟨b7, 1, none⟩ (.slice A1 n2 c3) rfl (ay.cell rfl)) ?_))))))
 have cw := (hp4.st ai.st).le
 refine L_pu (P_len Try.underlying23 A1 n2 c3 (hp4.st ai.st).len rfl) (L_mv (vi 0) rfl (L_nil (W_block ?_)))
 obtain ⟨bm, bn, ak, H⟩ := H
 refine W_loop (α := Int) (fun (sv__ : Int) t af => match sv__ with | v2 => bm v2 ∧ Has t [(1, .pointer (some ⟨b7, 0, none⟩)), (7, .slice A1 n2 c3), (8, vi (s.Pts.length : Int)), (9, vi v2)] ∧ Ct [] w0 af [] O ∧ Sl kPt af (Fr ([] ++ O)) (.slice A1 n2 c3) s.Pts ∧ Fb af ([] ++ O) b7 [vi s.Kind, .slice A1 n2 c3]) (fun (sv__ : Int) => match sv__ with | v2 => bn v2) 0 ⟨ak, (hasI rfl), ai, (hp4.st ai.st), ay⟩ ?_
 rintro v2 _ af ⟨ak, bo, ad, ae, ag⟩
 obtain ⟨cx, rfl⟩ := Has.ins bo
 have H := H v2 ak
 refine W_seq (W_reg (L_pu (P_cmp v2 (s.Pts.length : Int) (decide (v2 < (s.Pts.length : Int))) rfl rfl rfl) (L_nil (W_seq ?_))))
 refine W_cond (decide (v2 < (s.Pts.length : Int))) rfl (fun al => ?_) (fun al => ?_)
 ·have H := ite_t H al
  refine W_skip (W_seq (W_block (W_seq (W_reg (L_mv (vi v2) rfl ?_)))))
  obtain ⟨az, H⟩ := H
  obtain ⟨a0, cy, bp, cz, bq, br⟩ := ae.get default (by decide) v2 az
  obtain rfl := kPt.op bq
  refine L_pu (P_ia Try.underlying23 se23 A1 a0 n2 c3 ae.len v2 rfl bp rfl az) (L_pu (P_lda ag83 sz83 cL (a0.add (v2.toNat * 2)) [vi ((nth s.Pts v2).X), vi ((nth s.Pts v2).Y)] rfl rfl br) (L_alloc [.int .i64 0, .int .i64 0] ze83 fun c0 aj am hu49 an bs => ?_))
  have ao := ad.own an (some aj) (oglt am hu49)
  refine L_as (vi v2) rfl (L_stb aj 0 [vi 0, vi 0] [vi ((nth s.Pts v2).X), vi ((nth s.Pts v2).Y)] [vi ((nth s.Pts v2).X), vi ((nth s.Pts v2).Y)] rfl bs rfl sz83 rfl rfl rfl fun bt ap a1 => ?_)
  have ah := ao.wr 0 rfl ap
  refine L_nil (W_seq (W_draw (fun x => Gr bt x none) (by kernel_rfl) (by kernel_rfl) (Gr.drew _) ?_))
  refine Q_pu (P_lda ag83 sz83 cQ ⟨aj, 0, none⟩ [vi ((nth s.Pts v2).X), vi ((nth s.Pts v2).Y)] rfl rfl (a1.cells (off := 0) rfl)) ?_
  obtain ⟨q, bu, H⟩ := H
  refine Q_call go82 [.agg #[vi ((nth s.Pts v2).X), vi ((nth s.Pts v2).Y)]] rfl (vb q) (fun w g => (F107.calls w (ah.k0 g).ok (nth s.Pts v2) _ bu).mono ?_) ?_
  ·rintro _ w ⟨r, rfl, rfl, g2⟩
   exact ⟨rfl, Gr.t0 g g2⟩
  refine Q_pu (P_not q rfl) (Q_mv (vb (!q)) rfl ?_)
  rcases bool_or (!q) with ac | ac
  ·have H := ite_t H ac
   refine Q_pb ac rfl (Q_pb ac rfl (Q_pb ac rfl (Q_pn rfl (Q_pn rfl (Q_pn rfl (Q_pn rfl (Q_pn rfl (Q_pn rfl ?_))))))))
   refine Q_pn rfl (Q_pn rfl (Q_pb ac rfl (Q_pu (P_pick true (vb true) (by exact congrArg Value.bool ac) rfl) (Q_nil fun c1 bv => ?_))))
   have bw := ah.k0 bv
   refine W_ct (b := true) rfl rfl ?_
   refine W_seq (W_reg (L_as (vb false) rfl (L_nil (W_ret ?_))))
   have bx := bw.drop 0 rfl
   exact ⟨[vb false], ⟨_, rfl, rfl⟩, false, rfl, H, bx.gr.g0⟩
  have H := ite_f H ac
  refine Q_rb ac rfl (Q_mv (vi v2) rfl (Q_rb ac rfl (Q_pu (P_cmp v2 0 (decide (v2 > 0)) rfl rfl rfl) (Q_rb ac rfl (Q_mv (vb (decide (v2 > 0))) rfl ?_)))))
  rcases bool_or (decide (v2 > 0)) with ab | ab
  ·have H := ite_t H ab
   refine Q_rb ab rfl (Q_pu (P_fa fa25_1 ⟨b7, 0, none⟩ ⟨b7, 1, none⟩ rfl rfl) (Q_rb ab rfl ?_))
   have a2 := ad.stown _ an (oge am)
   have a3 := ao.stw 0 rfl ap
   have a4 := ((ag.st a2).st a3)
   refine Q_pu (P_ld ag23 cQ ⟨b7, 1, none⟩ (.slice A1 n2 c3) rfl (a4.cell rfl)) (Q_rb ab rfl (Q_mv (vi v2) rfl (Q_rb ab rfl ?_)))
   obtain ⟨bz, H⟩ := H
   refine Q_pu (P_sub v2 1 rfl rfl bz) (Q_rb ab rfl ?_)
   obtain ⟨a5, H⟩ := H
   have aq := ((ae.st a2).st a3)
   obtain ⟨a6, c2, b0, c4, b1, b2⟩ := aq.get default (by decide) (v2 - 1) a5
   obtain rfl := kPt.op b1
   refine Q_pu (P_ia Try.underlying23 se23 A1 a6 n2 c3 aq.len (v2 - 1) rfl b0 rfl a5) (Q_rb ab rfl (Q_pu (P_lda ag83 sz83 cQ (a6.add ((v2 - 1).toNat * 2)) [vi ((nth s.Pts (v2 - 1)).X), vi ((nth s.Pts (v2 - 1)).Y)] rfl rfl b2) (Q_rb ab rfl (Q_pu (P_lda ag83 sz83 cQ ⟨aj, 0, none⟩ [vi ((nth s.Pts v2).X), vi ((nth s.Pts v2).Y)] rfl rfl (a1.cells (off := 0) rfl)) (Q_rb ab rfl (Q_pu (P_eq _ _ (eqPt (nth s.Pts (v2 - 1)) (nth s.Pts v2)) (qt83 (nth s.Pts (v2 - 1)) (nth s.Pts v2)) rfl rfl) (Q_rb ac rfl (Q_pu (P_pick true (vb (eqPt (nth s.Pts (v2 - 1)) (nth s.Pts v2))) (by exact congrArg Value.bool ab) rfl) ?_))))))))
   refine Q_pu (P_pick false (vb (eqPt (nth s.Pts (v2 - 1)) (nth s.Pts v2))) (by exact congrArg Value.bool ac) rfl) (Q_nil fun c5 a7 => ?_)
   have ar := ah.k0 a7
   refine W_cond (eqPt (nth s.Pts (v2 - 1)) (nth s.Pts v2)) rfl (fun au => ?_) (fun au => ?_)
   ·have H := ite_t H au
    refine W_seq (W_reg (L_as (vb false) rfl (L_nil (W_ret ?_))))
    have b3 := ar.drop 0 rfl
    exact ⟨[vb false], ⟨_, rfl, rfl⟩, false, rfl, H, b3.gr.g0⟩
   have H := ite_f H au
   refine W_skip (W_reg ?_)
   obtain ⟨b4, H⟩ := H
   refine L_pu (P_add v2 1 rfl rfl b4) (L_mv (vi (v2 + 1)) rfl (L_nil ?_))
   have b5 := ar.drop 0 rfl
   obtain ⟨b6, b8⟩ := H
   have a8 := ah.stn a7
   have a9 := ar.std 0 rfl
   have b9 := ((aq.st a8).st a9)
   have ca := ((a4.st a8).st a9)
   exact ⟨v2 + 1, b8, b6, (hasI rfl), b5, b9, ca⟩
  have H := ite_f H ab
  refine Q_pb ab rfl (Q_pb ab rfl (Q_pb ab rfl (Q_pb ab rfl (Q_pb ab rfl (Q_pb ab rfl (Q_pb ab rfl (Q_pb ab rfl (Q_rb ac rfl ?_))))))))
  refine Q_pu (P_pick false (vb false) (by exact congrArg Value.bool ab) rfl) (Q_pu (P_pick false (vb false) (by exact congrArg Value.bool ac) rfl) (Q_nil fun c6 ba => ?_))
  have bb := ah.k0 ba
  refine W_cf (b := false) rfl rfl ?_
  refine W_skip (W_reg ?_)
  obtain ⟨cb, H⟩ := H
  refine L_pu (P_add v2 1 rfl rfl cb) (L_mv (vi (v2 + 1)) rfl (L_nil ?_))
  have cc := bb.drop 0 rfl
  obtain ⟨cd, ce⟩ := H
  have bc := ad.stown _ an (oge am)
  have bd := ao.stw 0 rfl ap
  have be := ah.stn ba
  have bf := bb.std 0 rfl
  have cf := ((((ae.st bc).st bd).st be).st bf)
  have cg := ((((ag.st bc).st bd).st be).st bf)
  exact ⟨v2 + 1, ce, cd, (hasI rfl), cc, cf, cg⟩
 have H := ite_f H al
 refine W_exit (xin_hit ?_)
 refine W_seq (W_reg (L_pu (P_fa fa25_1 ⟨b7, 0, none⟩ ⟨b7, 1, none⟩ rfl rfl) (L_pu (P_ld ag23 cL ⟨b7, 1, none⟩ (.slice A1 n2 c3) rfl (ag.cell rfl)) ?_)))
 have ch := ae.le
 refine L_pu (P_len Try.underlying23 A1 n2 c3 ae.len rfl) (L_as (vi (s.Pts.length : Int)) rfl (L_nil (W_seq (W_seq (W_reg (L_pu (P_fa fa25_0 ⟨b7, 0, none⟩ ⟨b7, 0, none⟩ rfl rfl) (L_pu (P_ld ag3 cL ⟨b7, 0, none⟩ (vi s.Kind) rfl (ag.cell rfl)) (L_nil ?_))))))))
 refine W_block (W_seq (W_reg (L_pu (P_cmp s.Kind 1 (s.Kind == 1) rfl rfl rfl) (L_as (vb (s.Kind == 1)) rfl (L_nil ?_)))))
 refine W_cond (s.Kind == 1) rfl (fun av => ?_) (fun av => ?_)
 ·have H := ite_t H av
  exact W_seq (W_reg (L_mv (vi (s.Pts.length : Int)) rfl (L_pu (P_cmp (s.Pts.length : Int) 1 ((s.Pts.length : Int) == 1) rfl rfl rfl) (L_as (vb ((s.Pts.length : Int) == 1)) rfl (L_nil (W_ret ⟨[vb ((s.Pts.length : Int) == 1)], ⟨_, rfl, rfl⟩, (s.Pts.length : Int) == 1, rfl, H, ad.gr.g0⟩))))))
 have H := ite_f H av
 refine W_seq (W_reg (L_pu (P_cmp s.Kind 2 (s.Kind == 2) rfl rfl rfl) (L_as (vb (s.Kind == 2)) rfl (L_nil ?_))))
 refine W_cond (s.Kind == 2) rfl (fun aw => ?_) (fun aw => ?_)
 ·have H := ite_t H aw
  refine W_seq (W_reg (L_mv (vi (s.Pts.length : Int)) rfl ?_))
  refine L_call go49 [vi (s.Pts.length : Int), vi 2, vi 6] rfl ((F68.calls af ad.ok (s.Pts.length : Int) 2 6 _ H).mono ?_)
  rintro _ c7 ⟨r2, rfl, H, ci, _⟩
  have cj := ad.k0 ci
  exact L_as (vb r2) rfl (L_nil (W_ret ⟨[vb r2], ⟨_, rfl, rfl⟩, r2, rfl, H, cj.gr.g0⟩))
 have H := ite_f H aw
 refine W_seq (W_reg (L_pu (P_cmp s.Kind 3 (s.Kind == 3) rfl rfl rfl) (L_as (vb (s.Kind == 3)) rfl (L_nil ?_))))
 refine W_cond (s.Kind == 3) rfl (fun ax => ?_) (fun ax => ?_)
 ·have H := ite_t H ax
  refine W_seq (W_draw (fun x => Gr af x none) (by kernel_rfl) (by kernel_rfl) (Gr.drew _) ?_)
  refine Q_mv (vi (s.Pts.length : Int)) rfl ?_
  refine Q_call go49 [vi (s.Pts.length : Int), vi 3, vi 6] rfl (vb (F68.m (s.Pts.length : Int) 3 6)) (fun w g => (F68.calls w (ad.k0 g).ok (s.Pts.length : Int) 3 6 _ (F68.fn (s.Pts.length : Int) 3 6)).mono ?_) ?_
  ·rintro _ w ⟨r, rfl, rfl, g2, _⟩
   exact ⟨rfl, Gr.t0 g g2⟩
  refine Q_mv (vb (F68.m (s.Pts.length : Int) 3 6)) rfl ?_
  rcases bool_or (F68.m (s.Pts.length : Int) 3 6) with aa | aa
  ·have H := ite_t H aa
   refine Q_rb aa rfl (Q_pu (P_fa fa25_1 ⟨b7, 0, none⟩ ⟨b7, 1, none⟩ rfl rfl) (Q_rb aa rfl (Q_pu (P_ld ag23 cQ ⟨b7, 1, none⟩ (.slice A1 n2 c3) rfl (ag.cell rfl)) (Q_rb aa rfl ?_))))
   obtain ⟨bg, H⟩ := H
   obtain ⟨bh, c8, ck, c9, cl, cm⟩ := ae.get default (by decide) 0 bg
   obtain rfl := kPt.op cl
   refine Q_pu (P_ia Try.underlying23 se23 A1 bh n2 c3 ae.len 0 rfl ck rfl bg) (Q_rb aa rfl (Q_pu (P_lda ag83 sz83 cQ (bh.add ((0 : Int).toNat * 2)) [vi ((nth s.Pts 0).X), vi ((nth s.Pts 0).Y)] rfl rfl cm) (Q_rb aa rfl (Q_pu (P_fa fa25_1 ⟨b7, 0, none⟩ ⟨b7, 1, none⟩ rfl rfl) (Q_rb aa rfl (Q_pu (P_ld ag23 cQ ⟨b7, 1, none⟩ (.slice A1 n2 c3) rfl (ag.cell rfl)) (Q_rb aa rfl (Q_mv (vi (s.Pts.length : Int)) rfl ?_))))))))
   refine Q_rb aa rfl ?_
   obtain ⟨cn, H⟩ := H
   have co := cn (len_le ch)
   refine Q_pu (P_sub (s.Pts.length : Int) 1 rfl rfl co) (Q_rb aa rfl ?_)
   obtain ⟨bi, H⟩ := H
   obtain ⟨bj, da, cp, db, cq, cr⟩ := ae.get default (by decide) ((s.Pts.length : Int) - 1) bi
   obtain rfl := kPt.op cq
   refine Q_pu (P_ia Try.underlying23 se23 A1 bj n2 c3 ae.len ((s.Pts.length : Int) - 1) rfl cp rfl bi) (Q_rb aa rfl (Q_pu (P_lda ag83 sz83 cQ (bj.add (((s.Pts.length : Int) - 1).toNat * 2)) [vi ((nth s.Pts ((s.Pts.length : Int) - 1)).X), vi ((nth s.Pts ((s.Pts.length : Int) - 1)).Y)] rfl rfl cr) (Q_rb aa rfl (Q_pu (P_ne _ _ (eqPt (nth s.Pts 0) (nth s.Pts ((s.Pts.length : Int) - 1))) (qt83 (nth s.Pts 0) (nth s.Pts ((s.Pts.length : Int) - 1))) rfl rfl) (Q_pu (P_pick true (vb (!(eqPt (nth s.Pts 0) (nth s.Pts ((s.Pts.length : Int) - 1))))) (by exact congrArg Value.bool aa) rfl) (Q_as (vb (!(eqPt (nth s.Pts 0) (nth s.Pts ((s.Pts.length : Int) - 1))))) rfl (Q_nil fun dc cs => ?_)))))))
   have ct := ad.k0 cs
   exact W_ret ⟨[vb (!(eqPt (nth s.Pts 0) (nth s.Pts ((s.Pts.length : Int) - 1))))], ⟨_, rfl, rfl⟩, !(eqPt (nth s.Pts 0) (nth s.Pts ((s.Pts.length : Int) - 1))), rfl, H, ct.gr.g0⟩
  have H := ite_f H aa
  refine Q_pb aa rfl (Q_pb aa rfl (Q_pb aa rfl (Q_pb aa rfl (Q_pb aa rfl (Q_pb aa rfl (Q_pb aa rfl (Q_pb aa rfl (Q_pb aa rfl ?_))))))))
  refine Q_pb aa rfl (Q_pb aa rfl (Q_pu (P_pick false (vb false) (by exact congrArg Value.bool aa) rfl) (Q_as (vb false) rfl (Q_nil fun dd cu => ?_))))
  have cv := ad.k0 cu
  exact W_ret ⟨[vb false], ⟨_, rfl, rfl⟩, false, rfl, H, cv.gr.g0⟩
 have H := ite_f H ax
 exact W_skip (W_seq (W_reg (L_as (vb false) rfl (L_nil (W_ret ⟨[vb false], ⟨_, rfl, rfl⟩, false, rfl, H, ad.gr.g0⟩)))))
end
end Go.Proofs.Ytpdmnmpcjljeaaa