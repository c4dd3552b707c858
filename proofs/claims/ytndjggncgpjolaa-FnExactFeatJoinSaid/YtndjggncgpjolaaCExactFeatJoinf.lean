/- It is proved here that the law FnExactFeatJoin of the given program holds whatever it is handed: the walks through the code, the plain laws and the row, in this order.
   Conditions: none. -/
import Derived.Below
import Derived.ChangeArms
import Derived.ChangeOld
import Derived.ChangeSlices
import Derived.DataReads
import Derived.Deep.Quiet
import Derived.KernelRfl
import Derived.Laws.Build
import Derived.Laws.IdiomStrings
import Derived.Laws.OwnMore
import Derived.Laws.Slices
import Derived.Laws.StructEq
import Derived.OpenShut
import Derived.ProofKit
import Derived.Shelf.Slices.Cells
import Derived.Shelf.Slices.CompactS
import Derived.Shelf.Slices.In.SortNone
import Derived.Shelf.Small.Bits
import Derived.Shelf.Sort.Plain
import Derived.Shelf.Strconv.Itoa0
import Derived.ShutString
import Derived.SizedLaws
import Derived.StillTail
import Derived.Test.YtndjggncgpjolaaProg
import Derived.Test.YtndjggncgpjolaaRows
import Derived.WalkKit
import Derived.Test.YtndjggncgpjolaaCExactFeatJoina
import Derived.Test.YtndjggncgpjolaaCExactFeatJoinb
import Derived.Test.YtndjggncgpjolaaCExactFeatJoinc
import Derived.Test.YtndjggncgpjolaaCExactFeatJoind
import Derived.Test.YtndjggncgpjolaaCExactFeatJoine
namespace Go.Proofs.Ytndjggncgpjolaa
open Go.RowKit
set_option linter.unusedVariables false
set_option linter.unusedSimpArgs false
def laws_FnExactFeatJoin.E (aBase : Feat) (aA : Feat) (aB : Feat) (Q : Bool → Prop) : Prop :=
 laws_szFeat.E aBase 1048576 (fun r => (if decide (r < 0) then Q true else laws_szFeat.E aA r (fun r2 => (if decide (r2 < 0) then Q true else laws_szFeat.E aB r2 (fun r3 => (if decide (r3 < 0) then Q true else laws_toFeat.E aBase (fun r4 => laws_toFeat.E aA (fun r5 => laws_toFeat.E aB (fun r6 => spec_FeatJoin.E r4 r5 r6 (fun r7 r8 => laws_toFeat.E aBase (fun r9 => laws_toFeat.E aA (fun r10 => laws_toFeat.E aB (fun r11 => impl_FeatJoin.E r9 r10 r11 (fun r12 r13 => laws_eqFeat.E r12 r7 (fun r14 => (if !r14 then Q false else laws_eqStringS.E r13 r8 (fun r15 => (if !r15 then Q false else laws_toFeat.E aBase (fun r16 => laws_eqFeat.E r9 r16 (fun r17 => (if !r17 then Q false else laws_toFeat.E aA (fun r18 => laws_eqFeat.E r10 r18 (fun r19 => (if !r19 then Q false else laws_toFeat.E aB (fun r20 => laws_eqFeat.E r11 r20 (fun r21 => (if !r21 then Q false else laws_markFeat.E r9 1 (fun r22 m m2 => laws_markFeat.E r10 r22 (fun r23 m3 m4 => laws_markFeat.E r11 r23 (fun r24 m5 m6 => (if decide (r24 < 0) then Q false else laws_eqFeat.E r12 r7 (fun r25 => (if !r25 then Q false else laws_eqStringS.E r13 r8 (fun r26 => (if !r26 then Q false else laws_markFeat.E r12 1 (fun r27 m7 m8 => laws_markStringS.E r13 r27 (fun r28 m9 => laws_heldFeat.E (⟨r12.Id, (⟨r12.Shape.Kind, m7⟩ : Shape), m8⟩ : Feat) 1 (fun r29 => (if decide (r29 < 0) then Q false else laws_heldStringS.E m9 r29 (fun r30 => (if decide (r30 < 0) then Q false else (if r30 != r28 then Q false else laws_toFeat.E aBase (fun r31 => laws_toFeat.E aA (fun r32 => laws_toFeat.E aB (fun r33 => impl_FeatJoin.E r31 r32 r33 (fun r34 r35 => laws_eqFeat.E r34 r7 (fun r36 => (if !r36 then Q false else laws_eqStringS.E r35 r8 (fun r37 => (if !r37 then Q false else laws_heldFeat.E (⟨r12.Id, (⟨r12.Shape.Kind, m7⟩ : Shape), m8⟩ : Feat) 1 (fun r38 => (if decide (r38 < 0) then Q false else laws_heldStringS.E m9 r38 (fun r39 => (if decide (r39 < 0) then Q false else (if r39 != r28 then Q false else Q true)))))))))))))))))))))))))))))))))))))))))))))))))))))))
set_option maxHeartbeats 8000000 in
set_option maxRecDepth 100000 in
theorem laws_FnExactFeatJoin.calls {O : Ob} (w0 : World) (hO : Ok w0 O) (aBase : Feat) (A2 : Option Addr) (n3 c4 : Nat) (A7 : Option Addr) (n8 c9 : Nat) (hs1 : Lim aBase.Id) (hp5 : Sl kPt w0 (Fr O) (.slice A2 n3 c4) aBase.Shape.Pts) (kk : Sl kTag w0 (Fr O) (.slice A7 n8 c9) aBase.Tags) (aA : Feat) (b3 : Option Addr) (b4 b5 : Nat) (b6 : Option Addr) (b7 b8 : Nat) (i2 : Lim aA.Id) (i3 : Sl kPt w0 (Fr O) (.slice b3 b4 b5) aA.Shape.Pts) (i4 : Sl kTag w0 (Fr O) (.slice b6 b7 b8) aA.Tags) (aB : Feat) (bl : Option Addr) (bn bo : Nat) (bp : Option Addr) (bq br : Nat) (hl : Lim aB.Id) (il : Sl kPt w0 (Fr O) (.slice bl bn bo) aB.Shape.Pts) (im : Sl kTag w0 (Fr O) (.slice bp bq br) aB.Tags) (Q : Bool → Prop) (h : laws_FnExactFeatJoin.E aBase aA aB Q) :
  Ret Try.prog 8 [.agg #[vs aBase.Id, vi aBase.Shape.Kind, .slice A2 n3 c4, .slice A7 n8 c9], .agg #[vs aA.Id, vi aA.Shape.Kind, .slice b3 b4 b5, .slice b6 b7 b8], .agg #[vs aB.Id, vi aB.Shape.Kind, .slice bl bn bo, .slice bp bq br]] w0 (fun v w' => ∃ (r0 : Bool), v = vb r0 ∧ Q r0 ∧ Gr w0 w' none) := by
 unfold laws_FnExactFeatJoin.E at h
 have H := h
 clear h
 have hc0 := Ct.init hO
 refine Ret_enter Try.func8 rfl 158 rfl [.tmp 6] rfl rfl ?_
 refine W_seq ?_
 refine W_reg ?_
 refine L_box [vs aBase.Id, vi aBase.Shape.Kind, .slice A2 n3 c4, .slice A7 n8 c9] rfl fun w34 k7 aab hu38 g36 aad => ?_
 have h41 := Fb.mk hc0.ok aab aad
 have sa := hc0.k0 g36
 refine L_box [vs aA.Id, vi aA.Shape.Kind, .slice b3 b4 b5, .slice b6 b7 b8] rfl fun w43 k8 aaf hu47 vy aag => ?_
 have h50 := Fb.mk sa.ok aaf aag
 have sb := sa.k0 vy
 refine L_box [vs aB.Id, vi aB.Shape.Kind, .slice bl bn bo, .slice bp bq br] rfl fun w52 k9 aaj hu56 vz aak => ?_
 have h59 := Fb.mk sb.ok aaj aak
 have ox := sb.k0 vz
 refine L_pu (P_assign (vb false) rfl) ?_
 refine L_nil ?_
 refine W_seq ?_
 refine W_reg ?_
 refine L_pu (P_assign (vi 1048576) rfl) ?_
 refine L_nil ?_
 refine W_seq ?_
 refine W_reg ?_
 have s61 := sa.stn vy
 have v0 := sb.stn vz
 have v1 := ((h41.st s61).st v0)
 refine L_pu (P_lda ag65 sz65 cL ⟨k7, 0, none⟩ [vs aBase.Id, vi aBase.Shape.Kind, .slice A2 n3 c4, .slice A7 n8 c9] rfl rfl (v1.cells (off := 0) rfl)) ?_
 refine L_pu (P_move (vi 1048576) rfl) ?_
 refine L_call go33 [.agg #[vs aBase.Id, vi aBase.Shape.Kind, .slice A2 n3 c4, .slice A7 n8 c9], vi 1048576] rfl ((laws_szFeat.calls w52 ox.ok aBase A2 n3 c4 A7 n8 c9 hs1 (hp5.st ox.st) (kk.st ox.st) 1048576 _ H).mono ?_)
 rintro _ w64 ⟨r, rfl, H, v2⟩
 have nk := ox.k0 v2
 refine L_pu (P_assign (vi r) rfl) ?_
 refine L_nil ?_
 refine W_seq ?_
 refine W_seq ?_
 refine W_reg ?_
 refine L_pu (P_move (vi r) rfl) ?_
 refine L_pu (P_cmp r 0 (decide (r < 0)) rfl rfl rfl) ?_
 refine L_nil ?_
 refine W_cond (decide (r < 0)) rfl (fun sc => ?_) (fun sc => ?_)
 ·have H := ite_t H sc
  refine W_seq ?_
  refine W_reg ?_
  refine L_pu (P_assign (vb true) rfl) ?_
  refine L_nil ?_
  refine W_ret ?_
  exact ⟨[vb true], ⟨_, rfl, rfl⟩, true, rfl, H, nk.gr.g0⟩
 ·have H := ite_f H sc
  refine W_skip ?_
  refine W_seq ?_
  refine W_reg ?_
  have se := ox.stn v2
  have v3 := ((h50.st v0).st se)
  refine L_pu (P_lda ag65 sz65 cL ⟨k8, 0, none⟩ [vs aA.Id, vi aA.Shape.Kind, .slice b3 b4 b5, .slice b6 b7 b8] rfl rfl (v3.cells (off := 0) rfl)) ?_
  refine L_pu (P_move (vi r) rfl) ?_
  refine L_call go33 [.agg #[vs aA.Id, vi aA.Shape.Kind, .slice b3 b4 b5, .slice b6 b7 b8], vi r] rfl ((laws_szFeat.calls w64 nk.ok aA b3 b4 b5 b6 b7 b8 i2 (i3.st nk.st) (i4.st nk.st) r _ H).mono ?_)
  rintro _ w73 ⟨r2, rfl, H, v4⟩
  have nl := nk.k0 v4
  refine L_pu (P_assign (vi r2) rfl) ?_
  refine L_nil ?_
  refine W_seq ?_
  refine W_seq ?_
  refine W_reg ?_
  refine L_pu (P_move (vi r2) rfl) ?_
  refine L_pu (P_cmp r2 0 (decide (r2 < 0)) rfl rfl rfl) ?_
  refine L_nil ?_
  refine W_cond (decide (r2 < 0)) rfl (fun sf => ?_) (fun sf => ?_)
  ·have H := ite_t H sf
   refine W_seq ?_
   refine W_reg ?_
   refine L_pu (P_assign (vb true) rfl) ?_
   refine L_nil ?_
   refine W_ret ?_
   exact ⟨[vb true], ⟨_, rfl, rfl⟩, true, rfl, H, nl.gr.g0⟩
  ·have H := ite_f H sf
   refine W_skip ?_
   refine W_seq ?_
   refine W_reg ?_
   have sg := nk.stn v4
   have v5 := ((h59.st se).st sg)
   refine L_pu (P_lda ag65 sz65 cL ⟨k9, 0, none⟩ [vs aB.Id, vi aB.Shape.Kind, .slice bl bn bo, .slice bp bq br] rfl rfl (v5.cells (off := 0) rfl)) ?_
   refine L_pu (P_move (vi r2) rfl) ?_
   refine L_call go33 [.agg #[vs aB.Id, vi aB.Shape.Kind, .slice bl bn bo, .slice bp bq br], vi r2] rfl ((laws_szFeat.calls w73 nl.ok aB bl bn bo bp bq br hl (il.st nl.st) (im.st nl.st) r2 _ H).mono ?_)
   rintro _ w82 ⟨r3, rfl, H, v6⟩
   have sh := nl.k0 v6
   refine L_pu (P_assign (vi r3) rfl) ?_
   refine L_nil ?_
   refine W_seq ?_
   refine W_seq ?_
   refine W_reg ?_
   refine L_pu (P_move (vi r3) rfl) ?_
   refine L_pu (P_cmp r3 0 (decide (r3 < 0)) rfl rfl rfl) ?_
   refine L_nil ?_
   refine W_cond (decide (r3 < 0)) rfl (fun si => ?_) (fun si => ?_)
   ·have H := ite_t H si
    refine W_seq ?_
    refine W_reg ?_
    refine L_pu (P_assign (vb true) rfl) ?_
    refine L_nil ?_
    refine W_ret ?_
    exact ⟨[vb true], ⟨_, rfl, rfl⟩, true, rfl, H, sh.gr.g0⟩
   ·have H := ite_f H si
    refine W_skip ?_
    refine W_seq ?_
    refine W_join (J := (fun t fb => ∃ (r7 : Feat) (r8 : List Str) (aa : Option Addr) (f5 : Nat) (f6 : Nat) (ac : Option Addr) (f7 : Nat) (f8 : Nat) (ab : Option Addr) (f9 : Nat) (ga : Nat) (ad : Nat), Has t [(3, .pointer (some ⟨k7, 0, none⟩)), (4, .pointer (some ⟨k8, 0, none⟩)), (5, .pointer (some ⟨k9, 0, none⟩)), (8, .pointer (some ⟨ad, 0, none⟩)), (9, .slice aa f5 f6)] ∧ Ct [] w0 fb [some ad, bk ac, bk ab, bk aa] O ∧ Sl kPt fb (Fr ([some ad, bk ac, bk ab, bk aa] ++ O)) (.slice A2 n3 c4) aBase.Shape.Pts ∧ Sl kTag fb (Fr ([some ad, bk ac, bk ab, bk aa] ++ O)) (.slice A7 n8 c9) aBase.Tags ∧ Sl kPt fb (Fr ([some ad, bk ac, bk ab, bk aa] ++ O)) (.slice b3 b4 b5) aA.Shape.Pts ∧ Sl kTag fb (Fr ([some ad, bk ac, bk ab, bk aa] ++ O)) (.slice b6 b7 b8) aA.Tags ∧ Sl kPt fb (Fr ([some ad, bk ac, bk ab, bk aa] ++ O)) (.slice bl bn bo) aB.Shape.Pts ∧ Sl kTag fb (Fr ([some ad, bk ac, bk ab, bk aa] ++ O)) (.slice bp bq br) aB.Tags ∧ Ow Kd.str 9 fb ([some ad, bk ac, bk ab, bk aa] ++ O) (.slice aa f5 f6) r8 ∧ Ow kPt 29 fb ([some ad, bk ac, bk ab, bk aa] ++ O) (.slice ac f7 f8) r7.Shape.Pts ∧ Ow kTag 133 fb ([some ad, bk ac, bk ab, bk aa] ++ O) (.slice ab f9 ga) r7.Tags ∧ Fb fb ([some ad, bk ac, bk ab, bk aa] ++ O) k7 [vs aBase.Id, vi aBase.Shape.Kind, .slice A2 n3 c4, .slice A7 n8 c9] ∧ Fb fb ([some ad, bk ac, bk ab, bk aa] ++ O) k8 [vs aA.Id, vi aA.Shape.Kind, .slice b3 b4 b5, .slice b6 b7 b8] ∧ Fb fb ([some ad, bk ac, bk ab, bk aa] ++ O) k9 [vs aB.Id, vi aB.Shape.Kind, .slice bl bn bo, .slice bp bq br] ∧ Bx fb ad [vs r7.Id, vi r7.Shape.Kind, .slice ac f7 f8, .slice ab f9 ga] ∧ Lim r7.Id ∧ laws_toFeat.E aBase (fun r9 => laws_toFeat.E aA (fun r10 => laws_toFeat.E aB (fun r11 => impl_FeatJoin.E r9 r10 r11 (fun r12 r13 => laws_eqFeat.E r12 r7 (fun r14 => (if !r14 then Q false else laws_eqStringS.E r13 r8 (fun r15 => (if !r15 then Q false else laws_toFeat.E aBase (fun r16 => laws_eqFeat.E r9 r16 (fun r17 => (if !r17 then Q false else laws_toFeat.E aA (fun r18 => laws_eqFeat.E r10 r18 (fun r19 => (if !r19 then Q false else laws_toFeat.E aB (fun r20 => laws_eqFeat.E r11 r20 (fun r21 => (if !r21 then Q false else laws_markFeat.E r9 1 (fun r22 m m2 => laws_markFeat.E r10 r22 (fun r23 m3 m4 => laws_markFeat.E r11 r23 (fun r24 m5 m6 => (if decide (r24 < 0) then Q false else laws_eqFeat.E r12 r7 (fun r25 => (if !r25 then Q false else laws_eqStringS.E r13 r8 (fun r26 => (if !r26 then Q false else laws_markFeat.E r12 1 (fun r27 m7 m8 => laws_markStringS.E r13 r27 (fun r28 m9 => laws_heldFeat.E (⟨r12.Id, (⟨r12.Shape.Kind, m7⟩ : Shape), m8⟩ : Feat) 1 (fun r29 => (if decide (r29 < 0) then Q false else laws_heldStringS.E m9 r29 (fun r30 => (if decide (r30 < 0) then Q false else (if r30 != r28 then Q false else laws_toFeat.E aBase (fun r31 => laws_toFeat.E aA (fun r32 => laws_toFeat.E aB (fun r33 => impl_FeatJoin.E r31 r32 r33 (fun r34 r35 => laws_eqFeat.E r34 r7 (fun r36 => (if !r36 then Q false else laws_eqStringS.E r35 r8 (fun r37 => (if !r37 then Q false else laws_heldFeat.E (⟨r12.Id, (⟨r12.Shape.Kind, m7⟩ : Shape), m8⟩ : Feat) 1 (fun r38 => (if decide (r38 < 0) then Q false else laws_heldStringS.E m9 r38 (fun r39 => (if decide (r39 < 0) then Q false else (if r39 != r28 then Q false else Q true))))))))))))))))))))))))))))))))))))))))))))))) ?_ ?_
    ·refine W_mixr 13 [] (by kernel_rfl) rfl fun w89 v7 nm => ?_
     have io := sh.k0 v7
     have sj := nl.stn v6
     have sk := sh.stn v7
     have nn := ((((v1.st se).st sg).st sj).st sk)
     refine M_pu 0 rfl (by kernel_rfl) nm (P_ldar ag65 sz65 cR ⟨k7, 0, none⟩ [vs aBase.Id, vi aBase.Shape.Kind, .slice A2 n3 c4, .slice A7 n8 c9] rfl rfl (nn.cells (off := 0) rfl) nm_nil) ?_
     have no := (((v3.st sg).st sj).st sk)
     refine M_pu 2 rfl (by kernel_rfl) nm (P_ldar ag65 sz65 cR ⟨k8, 0, none⟩ [vs aA.Id, vi aA.Shape.Kind, .slice b3 b4 b5, .slice b6 b7 b8] rfl rfl (no.cells (off := 0) rfl) nm_nil) ?_
     have np := ((v5.st sj).st sk)
     refine M_pu 4 rfl (by kernel_rfl) nm (P_ldar ag65 sz65 cR ⟨k9, 0, none⟩ [vs aB.Id, vi aB.Shape.Kind, .slice bl bn bo, .slice bp bq br] rfl rfl (np.cells (off := 0) rfl) nm_nil) ?_
     refine M_any2 1 10 (by kernel_rfl) rfl rfl ?_ ?_
     ·refine L_call go35 [.agg #[vs aBase.Id, vi aBase.Shape.Kind, .slice A2 n3 c4, .slice A7 n8 c9]] rfl ((laws_toFeat.calls w89 io.ok aBase A2 n3 c4 A7 n8 c9 hs1 (hp5.st io.st) (kk.st io.st) _ H).mono ?_)
      rintro _ sl ⟨r4, a4, kl, km, a5, kn, ko, rfl, H, nq, aaq, oy, qr, qs, qt⟩
      have i5 := io.owns nq aaq oy
      have qu := Gm.tm nm nq
      refine L_nil ⟨qu, ?_⟩
      refine M_any2 3 10 (by kernel_rfl) rfl rfl ?_ ?_
      ·refine L_call go35 [.agg #[vs aA.Id, vi aA.Shape.Kind, .slice b3 b4 b5, .slice b6 b7 b8]] rfl ((laws_toFeat.calls sl i5.ok aA b3 b4 b5 b6 b7 b8 i2 (i3.st i5.st) (i4.st i5.st) _ H).mono ?_)
       rintro _ sm ⟨r5, bj, nr, ns, bd, nt, nu, rfl, H, hm, aar, ip, sq, sr, ss⟩
       have kp := i5.owns hm aar ip
       have qv := Gm.tm qu hm
       refine L_nil ⟨qv, ?_⟩
       refine M_any2 5 10 (by kernel_rfl) rfl rfl ?_ ?_
       ·refine L_call go35 [.agg #[vs aB.Id, vi aB.Shape.Kind, .slice bl bn bo, .slice bp bq br]] rfl ((laws_toFeat.calls sm kp.ok aB bl bn bo bp bq br hl (il.st kp.st) (im.st kp.st) _ H).mono ?_)
        rintro _ oz ⟨r6, cw, qw, qx, cx, qy, qz, rfl, H, g3, aas, hn, v9, wa, wb⟩
        have g4 := kp.owns g3 aas hn
        have q0 := Gm.tm qv g3
        refine L_nil ⟨q0, ?_⟩
        refine M_any2 6 10 (by kernel_rfl) rfl rfl ?_ ?_
        ·have aat := ((qs.sos hm ip).sos g3 hn)
         have aau := g4.gv aat 4 rfl
         have la := g4.drop 4 rfl
         have aav := (g4.sd ((qt.sos hm ip).sos g3 hn) 5 4 rfl rfl rfl)
         have aaw := la.gv aav 4 rfl
         have a3 := la.drop 4 rfl
         have i6 := (la.sd (g4.sd (sr.sos g3 hn) 2 4 rfl rfl rfl) 2 4 rfl rfl rfl)
         have aax := a3.gv i6 2 rfl
         have o0 : Ct [] w0 oz [bk cw, bk cx, bk bd] O := a3.drop 2 rfl
         have i7 := (a3.sd (la.sd (g4.sd (ss.sos g3 hn) 3 4 rfl rfl rfl) 3 4 rfl rfl rfl) 3 2 rfl rfl rfl)
         have aay := o0.gv i7 2 rfl
         have q1 := o0.drop 2 rfl
         have i8 := (o0.sd (a3.sd (la.sd (g4.sd wa 0 4 rfl rfl rfl) 0 4 rfl rfl rfl) 0 2 rfl rfl rfl) 0 2 rfl rfl rfl)
         have aaz := q1.gv i8 0 rfl
         have su := q1.drop 0 rfl
         have i9 := (q1.sd (o0.sd (a3.sd (la.sd (g4.sd wb 1 4 rfl rfl rfl) 1 4 rfl rfl rfl) 1 2 rfl rfl rfl) 1 2 rfl rfl rfl) 1 0 rfl rfl rfl)
         have aa0 := su.gv i9 0 rfl
         have aa1 : Ct [] w0 oz [] O := su.drop 0 rfl
         have aa2 := la.std 4 rfl
         have wc := a3.std 2 rfl
         have sv := o0.std 2 rfl
         have q2 := q1.std 0 rfl
         have o1 := su.std 0 rfl
         have ja := (((((aau.st aa2).st wc).st sv).st q2).st o1)
         have aa3 := ((((aaw.st wc).st sv).st q2).st o1)
         have aa4 := (((aax.st sv).st q2).st o1)
         have aa5 := ((aay.st q2).st o1)
         refine L_call go34 [.agg #[vs r4.Id, vi r4.Shape.Kind, .slice a4 kl km, .slice a5 kn ko], .agg #[vs r5.Id, vi r5.Shape.Kind, .slice bj nr ns, .slice bd nt nu], .agg #[vs r6.Id, vi r6.Shape.Kind, .slice cw qw qx, .slice cx qy qz]] rfl ((spec_FeatJoin.calls oz aa1.ok r4 a4 kl km a5 kn ko qr ja aa3 r5 bj nr ns bd nt nu sq aa4 aa5 r6 cw qw qx cx qy qz v9 (aaz.st o1) aa0 _ H).mono ?_)
         rintro _ al8 ⟨r7, r8, g5, lb, lc, g6, ld, le, ho, nv, nw, rfl, H, q3, aa6, sx, aa7, jb, aa8, aa9⟩
         have aba := Ok.unl (L := [bk cw, bk cx, bk bj, bk bd, bk a4, bk a5]) (L' := []) (O := O) g4 q3 aa6 sx
         have abb := Ow.unl (L := [bk cw, bk cx, bk bj, bk bd, bk a4, bk a5]) (L' := []) (O := O) (fun _ _ _ _ _ _ h => h) (.cons _ (.cons _ (.cons _ (.cons _ (.cons _ (.cons _ (.slnil))))))) jb
         have abc := Ow.unl (L := [bk cw, bk cx, bk bj, bk bd, bk a4, bk a5]) (L' := []) (O := O) (fun _ _ _ _ _ _ h => h) (.cons _ (.cons _ (.cons _ (.cons _ (.cons _ (.cons _ (.slnil))))))) aa8
         have jc := Ow.unl (L := [bk cw, bk cx, bk bj, bk bd, bk a4, bk a5]) (L' := []) (O := O) (fun _ _ _ _ _ _ h => h) (.cons _ (.cons _ (.cons _ (.cons _ (.cons _ (.cons _ (.slnil))))))) aa9
         have wd := g4.owns q3 aba sx
         have nx := Gm.tm q0 q3
         refine L_nil ⟨nx, ?_⟩
         refine M_pu 7 rfl (by kernel_rfl) nx (P_move (.tuple #[.agg #[vs r7.Id, vi r7.Shape.Kind, .slice g5 lb lc, .slice g6 ld le], .slice ho nv nw]) rfl) ?_
         refine M_pu 8 rfl (by kernel_rfl) nx (P_ext [.agg #[vs r7.Id, vi r7.Shape.Kind, .slice g5 lb lc, .slice g6 ld le], .slice ho nv nw] 0 (.agg #[vs r7.Id, vi r7.Shape.Kind, .slice g5 lb lc, .slice g6 ld le]) rfl rfl) ?_
         refine M_pu 9 rfl (by kernel_rfl) nx (P_ext [.agg #[vs r7.Id, vi r7.Shape.Kind, .slice g5 lb lc, .slice g6 ld le], .slice ho nv nw] 1 (.slice ho nv nw) rfl rfl) ?_
         refine M_any1 10 (by kernel_rfl) rfl ?_
         refine L_alloc [vs [], .int .i64 0, .slice none 0 0, .slice none 0 0] ze71 fun al9 kq ny hu222 nz abd => ?_
         have o2 := wd.own nz (some kq) (oglt ny hu222)
         have ck := Gm.tm nx nz
         refine L_nil ⟨ck, ?_⟩
         refine M_any1 11 (by kernel_rfl) rfl ?_
         refine L_stb kq 0 [vs ([] : Str), vi 0, .slice none 0 0, .slice none 0 0] [vs r7.Id, vi r7.Shape.Kind, .slice g5 lb lc, .slice g6 ld le] [vs r7.Id, vi r7.Shape.Kind, .slice g5 lb lc, .slice g6 ld le] rfl abd rfl sz71 rfl rfl rfl fun q4 bh jd => ?_
         have abe := o2.wr 0 rfl bh
         have we := Gm.tq ck bh (hv_new nx (oge ny))
         refine L_nil ⟨we, ?_⟩
         refine M_pu 12 rfl (by kernel_rfl) we (P_assign (.slice ho nv nw) rfl) ?_
         refine M_nil (by kernel_rfl) ?_
         have lf : ([some kq, bk g5, bk g6, bk ho, bk cw, bk cx, bk bj, bk bd, bk a4, bk a5] : Ob).Perm ((bk cw :: bk cx :: bk bj :: bk bd :: bk a4 :: bk a5 :: []) ++ [some kq, bk g5, bk g6, bk ho]) := (by rw [List.perm_iff_count]; intro a; (try simp only [List.count_append, List.count_cons, List.count_nil, Nat.add_zero, Nat.zero_add]); first | done | ac_rfl)
         have lg := abe.drops lf
         have abf := (Ow.drops (L := [some kq, bk g5, bk g6, bk ho, bk cw, bk cx, bk bj, bk bd, bk a4, bk a5]) (O := O) (o2.sw (jc.so _ nz (oge ny)) 3 0 rfl rfl rfl bh) lf (memi 3 rfl))
         have abg := (Ow.drops (L := [some kq, bk g5, bk g6, bk ho, bk cw, bk cx, bk bj, bk bd, bk a4, bk a5]) (O := O) (o2.sw (abb.so _ nz (oge ny)) 1 0 rfl rfl rfl bh) lf (memi 1 rfl))
         have abh := (Ow.drops (L := [some kq, bk g5, bk g6, bk ho, bk cw, bk cx, bk bj, bk bd, bk a4, bk a5]) (O := O) (o2.sw (abc.so _ nz (oge ny)) 2 0 rfl rfl rfl bh) lf (memi 2 rfl))
         have sy := io.stos nq oy
         have sz := i5.stos hm ip
         have s0 := kp.stos g3 hn
         have eh := g4.stos q3 sx
         have ei := wd.stown _ nz (oge ny)
         have ej := o2.stw 0 rfl bh
         have abi := (((((((nn.st sy).st sz).st s0).st eh).st ei).st ej).st (St.drops _ O lf))
         have abj := (((((((no.st sy).st sz).st s0).st eh).st ei).st ej).st (St.drops _ O lf))
         have abk := (((((((np.st sy).st sz).st s0).st eh).st ei).st ej).st (St.drops _ O lf))
         have abl := jd
         exact ⟨r7, r8, ho, nv, nw, g5, lb, lc, g6, ld, le, kq, ⟨rfl, rfl, rfl, rfl, rfl, trivial⟩, lg, (hp5.st lg.st), (kk.st lg.st), (i3.st lg.st), (i4.st lg.st), (il.st lg.st), (im.st lg.st), abf, abg, abh, abi, abj, abk, abl, aa7, H⟩
        ·refine L_alloc [vs [], .int .i64 0, .slice none 0 0, .slice none 0 0] ze71 fun s1 d3 je hu156 jf abm => ?_
         have a3 := g4.own jf (some d3) (oglt je hu156)
         have hp := Gm.tm q0 jf
         refine L_nil ⟨hp, ?_⟩
         refine M_any1 6 (by kernel_rfl) rfl ?_
         have lh := (((qs.sos hm ip).sos g3 hn).so _ jf (oge je))
         have i6 := a3.gv lh 5 rfl
         have bt := a3.drop 5 rfl
         have li := (a3.sd (((qt.sos hm ip).sos g3 hn).so _ jf (oge je)) 6 5 rfl rfl rfl)
         have i7 := bt.gv li 5 rfl
         have cb := bt.drop 5 rfl
         have lj := (bt.sd (a3.sd ((sr.sos g3 hn).so _ jf (oge je)) 3 5 rfl rfl rfl) 3 5 rfl rfl rfl)
         have i8 := cb.gv lj 3 rfl
         have c5 : Ct [] w0 s1 [some d3, bk cw, bk cx, bk bd] O := cb.drop 3 rfl
         have lk := (cb.sd (bt.sd (a3.sd ((ss.sos g3 hn).so _ jf (oge je)) 4 5 rfl rfl rfl) 4 5 rfl rfl rfl) 4 3 rfl rfl rfl)
         have i9 := c5.gv lk 3 rfl
         have ek := c5.drop 3 rfl
         have ll := (c5.sd (cb.sd (bt.sd (a3.sd (wa.so _ jf (oge je)) 1 5 rfl rfl rfl) 1 5 rfl rfl rfl) 1 3 rfl rfl rfl) 1 3 rfl rfl rfl)
         have lm := ek.gv ll 1 rfl
         have fo := ek.drop 1 rfl
         have ln := (ek.sd (c5.sd (cb.sd (bt.sd (a3.sd (wb.so _ jf (oge je)) 2 5 rfl rfl rfl) 2 5 rfl rfl rfl) 2 3 rfl rfl rfl) 2 3 rfl rfl rfl) 2 1 rfl rfl rfl)
         have ja := fo.gv ln 1 rfl
         have lo : Ct [] w0 s1 [some d3] O := fo.drop 1 rfl
         have lp := bt.std 5 rfl
         have hq := cb.std 3 rfl
         have fp := c5.std 3 rfl
         have el := ek.std 1 rfl
         have c6 := fo.std 1 rfl
         have lq := (((((i6.st lp).st hq).st fp).st el).st c6)
         have jb := ((((i7.st hq).st fp).st el).st c6)
         have lr := (((i8.st fp).st el).st c6)
         have ls := ((i9.st el).st c6)
         refine L_call go34 [.agg #[vs r4.Id, vi r4.Shape.Kind, .slice a4 kl km, .slice a5 kn ko], .agg #[vs r5.Id, vi r5.Shape.Kind, .slice bj nr ns, .slice bd nt nu], .agg #[vs r6.Id, vi r6.Shape.Kind, .slice cw qw qx, .slice cx qy qz]] rfl ((spec_FeatJoin.calls s1 lo.ok r4 a4 kl km a5 kn ko qr lq jb r5 bj nr ns bd nt nu sq lr ls r6 cw qw qx cx qy qz v9 (lm.st c6) ja _ H).mono ?_)
         rintro _ s2 ⟨r7, r8, ax, bu, bv, ay, bw, bx, a0, cc, cd, rfl, H, c7, lt, fq, lu, lv, lw, jc⟩
         have lx := Ok.unl (L := [some d3, bk cw, bk cx, bk bj, bk bd, bk a4, bk a5]) (L' := [some d3]) (O := O) a3 c7 lt fq
         have ly := Ow.unl (L := [some d3, bk cw, bk cx, bk bj, bk bd, bk a4, bk a5]) (L' := [some d3]) (O := O) (fun _ _ _ _ _ _ h => h) (.cons_cons _ (.cons _ (.cons _ (.cons _ (.cons _ (.cons _ (.cons _ (.slnil)))))))) lv
         have lz := Ow.unl (L := [some d3, bk cw, bk cx, bk bj, bk bd, bk a4, bk a5]) (L' := [some d3]) (O := O) (fun _ _ _ _ _ _ h => h) (.cons_cons _ (.cons _ (.cons _ (.cons _ (.cons _ (.cons _ (.cons _ (.slnil)))))))) lw
         have l0 := Ow.unl (L := [some d3, bk cw, bk cx, bk bj, bk bd, bk a4, bk a5]) (L' := [some d3]) (O := O) (fun _ _ _ _ _ _ h => h) (.cons_cons _ (.cons _ (.cons _ (.cons _ (.cons _ (.cons _ (.cons _ (.slnil)))))))) jc
         have c8 := a3.owns c7 lx fq
         have ck := Gm.tm hp c7
         refine L_nil ⟨ck, ?_⟩
         refine M_pu 7 rfl (by kernel_rfl) ck (P_move (.tuple #[.agg #[vs r7.Id, vi r7.Shape.Kind, .slice ax bu bv, .slice ay bw bx], .slice a0 cc cd]) rfl) ?_
         refine M_pu 8 rfl (by kernel_rfl) ck (P_ext [.agg #[vs r7.Id, vi r7.Shape.Kind, .slice ax bu bv, .slice ay bw bx], .slice a0 cc cd] 0 (.agg #[vs r7.Id, vi r7.Shape.Kind, .slice ax bu bv, .slice ay bw bx]) rfl rfl) ?_
         refine M_pu 9 rfl (by kernel_rfl) ck (P_ext [.agg #[vs r7.Id, vi r7.Shape.Kind, .slice ax bu bv, .slice ay bw bx], .slice a0 cc cd] 1 (.slice a0 cc cd) rfl rfl) ?_
         refine M_any1 11 (by kernel_rfl) rfl ?_
         have l1 := (abm.k0 c7)
         refine L_stb d3 0 [vs ([] : Str), vi 0, .slice none 0 0, .slice none 0 0] [vs r7.Id, vi r7.Shape.Kind, .slice ax bu bv, .slice ay bw bx] [vs r7.Id, vi r7.Shape.Kind, .slice ax bu bv, .slice ay bw bx] rfl l1 rfl sz71 rfl rfl rfl fun q4 bh jd => ?_
         have l2 := c8.wr 3 rfl bh
         have hr := Gm.tq ck bh (hv_new q0 (oge je))
         refine L_nil ⟨hr, ?_⟩
         refine M_pu 12 rfl (by kernel_rfl) hr (P_assign (.slice a0 cc cd) rfl) ?_
         refine M_nil (by kernel_rfl) ?_
         have bz : ([bk ax, bk ay, bk a0, some d3, bk cw, bk cx, bk bj, bk bd, bk a4, bk a5] : Ob).Perm ((bk cw :: bk cx :: bk bj :: bk bd :: bk a4 :: bk a5 :: []) ++ [bk ax, bk ay, bk a0, some d3]) := (by rw [List.perm_iff_count]; intro a; (try simp only [List.count_append, List.count_cons, List.count_nil, Nat.add_zero, Nat.zero_add]); first | done | ac_rfl)
         have da := l2.drops bz
         have db : ([bk ax, bk ay, bk a0, some d3] : Ob).Perm [some d3, bk ax, bk ay, bk a0] := (by rw [List.perm_iff_count]; intro a; (try simp only [List.count_append, List.count_cons, List.count_nil, Nat.add_zero, Nat.zero_add]); first | done | ac_rfl)
         have b0 := da.perm db
         have l3 := (da.sp (Ow.drops (L := [bk ax, bk ay, bk a0, some d3, bk cw, bk cx, bk bj, bk bd, bk a4, bk a5]) (O := O) (c8.sw l0 2 3 rfl rfl rfl bh) bz (memi 2 rfl)) db)
         have l4 := (da.sp (Ow.drops (L := [bk ax, bk ay, bk a0, some d3, bk cw, bk cx, bk bj, bk bd, bk a4, bk a5]) (O := O) (c8.sw ly 0 3 rfl rfl rfl bh) bz (memi 0 rfl)) db)
         have l5 := (da.sp (Ow.drops (L := [bk ax, bk ay, bk a0, some d3, bk cw, bk cx, bk bj, bk bd, bk a4, bk a5]) (O := O) (c8.sw lz 1 3 rfl rfl rfl bh) bz (memi 1 rfl)) db)
         have eh := io.stos nq oy
         have ei := i5.stos hm ip
         have ej := kp.stos g3 hn
         have fr := g4.stown _ jf (oge je)
         have fs := a3.stos c7 fq
         have ft := c8.stw 3 rfl bh
         have fu := da.stp db
         have l6 := ((((((((nn.st eh).st ei).st ej).st fr).st fs).st ft).st (St.drops _ O bz)).st fu)
         have l7 := ((((((((no.st eh).st ei).st ej).st fr).st fs).st ft).st (St.drops _ O bz)).st fu)
         have l8 := ((((((((np.st eh).st ei).st ej).st fr).st fs).st ft).st (St.drops _ O bz)).st fu)
         have l9 := jd
         exact ⟨r7, r8, a0, cc, cd, ax, bu, bv, ay, bw, bx, d3, ⟨rfl, rfl, rfl, rfl, rfl, trivial⟩, b0, (hp5.st b0.st), (kk.st b0.st), (i3.st b0.st), (i4.st b0.st), (il.st b0.st), (im.st b0.st), l3, l4, l5, l6, l7, l8, l9, lu, H⟩
       ·refine L_alloc [vs [], .int .i64 0, .slice none 0 0, .slice none 0 0] ze71 fun oz d4 ma hu138 mb abn => ?_
        have e3 := kp.own mb (some d4) (oglt ma hu138)
        have kr := Gm.tm qv mb
        refine L_nil ⟨kr, ?_⟩
        refine M_any1 5 (by kernel_rfl) rfl ?_
        refine L_call go35 [.agg #[vs aB.Id, vi aB.Shape.Kind, .slice bl bn bo, .slice bp bq br]] rfl ((laws_toFeat.calls oz e3.ok aB bl bn bo bp bq br hl (il.st e3.st) (im.st e3.st) _ H).mono ?_)
        rintro _ hs ⟨r6, a9, ks, kt, ba, ku, kv, rfl, H, cl, o3, d5, o4, o5, o6⟩
        have a3 := e3.owns cl o3 d5
        have hp := Gm.tm kr cl
        refine L_nil ⟨hp, ?_⟩
        refine M_any1 6 (by kernel_rfl) rfl ?_
        have lh := (((qs.sos hm ip).so _ mb (oge ma)).sos cl d5)
        have i6 := a3.gv lh 5 rfl
        have bt := a3.drop 5 rfl
        have li := (a3.sd (((qt.sos hm ip).so _ mb (oge ma)).sos cl d5) 6 5 rfl rfl rfl)
        have i7 := bt.gv li 5 rfl
        have cb := bt.drop 5 rfl
        have lj := (bt.sd (a3.sd ((sr.so _ mb (oge ma)).sos cl d5) 3 5 rfl rfl rfl) 3 5 rfl rfl rfl)
        have i8 := cb.gv lj 3 rfl
        have c5 : Ct [] w0 hs [bk a9, bk ba, some d4, bk bd] O := cb.drop 3 rfl
        have lk := (cb.sd (bt.sd (a3.sd ((ss.so _ mb (oge ma)).sos cl d5) 4 5 rfl rfl rfl) 4 5 rfl rfl rfl) 4 3 rfl rfl rfl)
        have i9 := c5.gv lk 3 rfl
        have ek := c5.drop 3 rfl
        have ll := (c5.sd (cb.sd (bt.sd (a3.sd o5 0 5 rfl rfl rfl) 0 5 rfl rfl rfl) 0 3 rfl rfl rfl) 0 3 rfl rfl rfl)
        have lm := ek.gv ll 0 rfl
        have fo := ek.drop 0 rfl
        have ln := (ek.sd (c5.sd (cb.sd (bt.sd (a3.sd o6 1 5 rfl rfl rfl) 1 5 rfl rfl rfl) 1 3 rfl rfl rfl) 1 3 rfl rfl rfl) 1 0 rfl rfl rfl)
        have ja := fo.gv ln 0 rfl
        have lo : Ct [] w0 hs [some d4] O := fo.drop 0 rfl
        have lp := bt.std 5 rfl
        have hq := cb.std 3 rfl
        have fp := c5.std 3 rfl
        have el := ek.std 0 rfl
        have c6 := fo.std 0 rfl
        have lq := (((((i6.st lp).st hq).st fp).st el).st c6)
        have jb := ((((i7.st hq).st fp).st el).st c6)
        have lr := (((i8.st fp).st el).st c6)
        have ls := ((i9.st el).st c6)
        refine L_call go34 [.agg #[vs r4.Id, vi r4.Shape.Kind, .slice a4 kl km, .slice a5 kn ko], .agg #[vs r5.Id, vi r5.Shape.Kind, .slice bj nr ns, .slice bd nt nu], .agg #[vs r6.Id, vi r6.Shape.Kind, .slice a9 ks kt, .slice ba ku kv]] rfl ((spec_FeatJoin.calls hs lo.ok r4 a4 kl km a5 kn ko qr lq jb r5 bj nr ns bd nt nu sq lr ls r6 a9 ks kt ba ku kv o4 (lm.st c6) ja _ H).mono ?_)
        rintro _ s2 ⟨r7, r8, ax, bu, bv, ay, bw, bx, a0, cc, cd, rfl, H, c7, lt, fq, lu, lv, lw, jc⟩
        have lx := Ok.unl (L := [bk a9, bk ba, some d4, bk bj, bk bd, bk a4, bk a5]) (L' := [some d4]) (O := O) a3 c7 lt fq
        have ly := Ow.unl (L := [bk a9, bk ba, some d4, bk bj, bk bd, bk a4, bk a5]) (L' := [some d4]) (O := O) (fun _ _ _ _ _ _ h => h) (.cons _ (.cons _ (.cons_cons _ (.cons _ (.cons _ (.cons _ (.cons _ (.slnil)))))))) lv
        have lz := Ow.unl (L := [bk a9, bk ba, some d4, bk bj, bk bd, bk a4, bk a5]) (L' := [some d4]) (O := O) (fun _ _ _ _ _ _ h => h) (.cons _ (.cons _ (.cons_cons _ (.cons _ (.cons _ (.cons _ (.cons _ (.slnil)))))))) lw
        have l0 := Ow.unl (L := [bk a9, bk ba, some d4, bk bj, bk bd, bk a4, bk a5]) (L' := [some d4]) (O := O) (fun _ _ _ _ _ _ h => h) (.cons _ (.cons _ (.cons_cons _ (.cons _ (.cons _ (.cons _ (.cons _ (.slnil)))))))) jc
        have c8 := a3.owns c7 lx fq
        have ck := Gm.tm hp c7
        refine L_nil ⟨ck, ?_⟩
        refine M_pu 7 rfl (by kernel_rfl) ck (P_move (.tuple #[.agg #[vs r7.Id, vi r7.Shape.Kind, .slice ax bu bv, .slice ay bw bx], .slice a0 cc cd]) rfl) ?_
        refine M_pu 8 rfl (by kernel_rfl) ck (P_ext [.agg #[vs r7.Id, vi r7.Shape.Kind, .slice ax bu bv, .slice ay bw bx], .slice a0 cc cd] 0 (.agg #[vs r7.Id, vi r7.Shape.Kind, .slice ax bu bv, .slice ay bw bx]) rfl rfl) ?_
        refine M_pu 9 rfl (by kernel_rfl) ck (P_ext [.agg #[vs r7.Id, vi r7.Shape.Kind, .slice ax bu bv, .slice ay bw bx], .slice a0 cc cd] 1 (.slice a0 cc cd) rfl rfl) ?_
        refine M_any1 11 (by kernel_rfl) rfl ?_
        have l1 := ((abn.k0 cl).k0 c7)
        refine L_stb d4 0 [vs ([] : Str), vi 0, .slice none 0 0, .slice none 0 0] [vs r7.Id, vi r7.Shape.Kind, .slice ax bu bv, .slice ay bw bx] [vs r7.Id, vi r7.Shape.Kind, .slice ax bu bv, .slice ay bw bx] rfl l1 rfl sz71 rfl rfl rfl fun q4 bh jd => ?_
        have l2 := c8.wr 5 rfl bh
        have hr := Gm.tq ck bh (hv_new qv (oge ma))
        refine L_nil ⟨hr, ?_⟩
        refine M_pu 12 rfl (by kernel_rfl) hr (P_assign (.slice a0 cc cd) rfl) ?_
        refine M_nil (by kernel_rfl) ?_
        have bz : ([bk ax, bk ay, bk a0, bk a9, bk ba, some d4, bk bj, bk bd, bk a4, bk a5] : Ob).Perm ((bk a9 :: bk ba :: bk bj :: bk bd :: bk a4 :: bk a5 :: []) ++ [bk ax, bk ay, bk a0, some d4]) := (by rw [List.perm_iff_count]; intro a; (try simp only [List.count_append, List.count_cons, List.count_nil, Nat.add_zero, Nat.zero_add]); first | done | ac_rfl)
        have da := l2.drops bz
        have db : ([bk ax, bk ay, bk a0, some d4] : Ob).Perm [some d4, bk ax, bk ay, bk a0] := (by rw [List.perm_iff_count]; intro a; (try simp only [List.count_append, List.count_cons, List.count_nil, Nat.add_zero, Nat.zero_add]); first | done | ac_rfl)
        have b0 := da.perm db
        have l3 := (da.sp (Ow.drops (L := [bk ax, bk ay, bk a0, bk a9, bk ba, some d4, bk bj, bk bd, bk a4, bk a5]) (O := O) (c8.sw l0 2 5 rfl rfl rfl bh) bz (memi 2 rfl)) db)
        have l4 := (da.sp (Ow.drops (L := [bk ax, bk ay, bk a0, bk a9, bk ba, some d4, bk bj, bk bd, bk a4, bk a5]) (O := O) (c8.sw ly 0 5 rfl rfl rfl bh) bz (memi 0 rfl)) db)
        have l5 := (da.sp (Ow.drops (L := [bk ax, bk ay, bk a0, bk a9, bk ba, some d4, bk bj, bk bd, bk a4, bk a5]) (O := O) (c8.sw lz 1 5 rfl rfl rfl bh) bz (memi 1 rfl)) db)
        have eh := io.stos nq oy
        have ei := i5.stos hm ip
        have ej := kp.stown _ mb (oge ma)
        have fr := e3.stos cl d5
        have fs := a3.stos c7 fq
        have ft := c8.stw 5 rfl bh
        have fu := da.stp db
        have l6 := ((((((((nn.st eh).st ei).st ej).st fr).st fs).st ft).st (St.drops _ O bz)).st fu)
        have l7 := ((((((((no.st eh).st ei).st ej).st fr).st fs).st ft).st (St.drops _ O bz)).st fu)
        have l8 := ((((((((np.st eh).st ei).st ej).st fr).st fs).st ft).st (St.drops _ O bz)).st fu)
        have l9 := jd
        exact ⟨r7, r8, a0, cc, cd, ax, bu, bv, ay, bw, bx, d4, ⟨rfl, rfl, rfl, rfl, rfl, trivial⟩, b0, (hp5.st b0.st), (kk.st b0.st), (i3.st b0.st), (i4.st b0.st), (il.st b0.st), (im.st b0.st), l3, l4, l5, l6, l7, l8, l9, lu, H⟩
      ·refine L_alloc [vs [], .int .i64 0, .slice none 0 0, .slice none 0 0] ze71 fun sm d6 o7 hu120 o8 abo => ?_
       have ht := i5.own o8 (some d6) (oglt o7 hu120)
       have o9 := Gm.tm qu o8
       refine L_nil ⟨o9, ?_⟩
       refine M_any1 3 (by kernel_rfl) rfl ?_
       refine L_call go35 [.agg #[vs aA.Id, vi aA.Shape.Kind, .slice b3 b4 b5, .slice b6 b7 b8]] rfl ((laws_toFeat.calls sm ht.ok aA b3 b4 b5 b6 b7 b8 i2 (i3.st ht.st) (i4.st ht.st) _ H).mono ?_)
       rintro _ s3 ⟨r5, dc, pa, pb, ct, pc, pd, rfl, H, gk, s4, jg, s5, s6, s7⟩
       have e3 := ht.owns gk s4 jg
       have kr := Gm.tm o9 gk
       refine L_nil ⟨kr, ?_⟩
       refine M_any1 5 (by kernel_rfl) rfl ?_
       refine L_call go35 [.agg #[vs aB.Id, vi aB.Shape.Kind, .slice bl bn bo, .slice bp bq br]] rfl ((laws_toFeat.calls s3 e3.ok aB bl bn bo bp bq br hl (il.st e3.st) (im.st e3.st) _ H).mono ?_)
       rintro _ hs ⟨r6, a9, ks, kt, ba, ku, kv, rfl, H, cl, o3, d5, o4, o5, o6⟩
       have a3 := e3.owns cl o3 d5
       have hp := Gm.tm kr cl
       refine L_nil ⟨hp, ?_⟩
       refine M_any1 6 (by kernel_rfl) rfl ?_
       have lh := (((qs.so _ o8 (oge o7)).sos gk jg).sos cl d5)
       have i6 := a3.gv lh 5 rfl
       have bt := a3.drop 5 rfl
       have li := (a3.sd (((qt.so _ o8 (oge o7)).sos gk jg).sos cl d5) 6 5 rfl rfl rfl)
       have i7 := bt.gv li 5 rfl
       have cb := bt.drop 5 rfl
       have lj := (bt.sd (a3.sd (s6.sos cl d5) 2 5 rfl rfl rfl) 2 5 rfl rfl rfl)
       have i8 := cb.gv lj 2 rfl
       have c5 : Ct [] w0 hs [bk a9, bk ba, bk ct, some d6] O := cb.drop 2 rfl
       have lk := (cb.sd (bt.sd (a3.sd (s7.sos cl d5) 3 5 rfl rfl rfl) 3 5 rfl rfl rfl) 3 2 rfl rfl rfl)
       have i9 := c5.gv lk 2 rfl
       have ek := c5.drop 2 rfl
       have ll := (c5.sd (cb.sd (bt.sd (a3.sd o5 0 5 rfl rfl rfl) 0 5 rfl rfl rfl) 0 2 rfl rfl rfl) 0 2 rfl rfl rfl)
       have lm := ek.gv ll 0 rfl
       have fo := ek.drop 0 rfl
       have ln := (ek.sd (c5.sd (cb.sd (bt.sd (a3.sd o6 1 5 rfl rfl rfl) 1 5 rfl rfl rfl) 1 2 rfl rfl rfl) 1 2 rfl rfl rfl) 1 0 rfl rfl rfl)
       have ja := fo.gv ln 0 rfl
       have lo : Ct [] w0 hs [some d6] O := fo.drop 0 rfl
       have lp := bt.std 5 rfl
       have hq := cb.std 2 rfl
       have fp := c5.std 2 rfl
       have el := ek.std 0 rfl
       have c6 := fo.std 0 rfl
       have lq := (((((i6.st lp).st hq).st fp).st el).st c6)
       have jb := ((((i7.st hq).st fp).st el).st c6)
       have lr := (((i8.st fp).st el).st c6)
       have ls := ((i9.st el).st c6)
       refine L_call go34 [.agg #[vs r4.Id, vi r4.Shape.Kind, .slice a4 kl km, .slice a5 kn ko], .agg #[vs r5.Id, vi r5.Shape.Kind, .slice dc pa pb, .slice ct pc pd], .agg #[vs r6.Id, vi r6.Shape.Kind, .slice a9 ks kt, .slice ba ku kv]] rfl ((spec_FeatJoin.calls hs lo.ok r4 a4 kl km a5 kn ko qr lq jb r5 dc pa pb ct pc pd s5 lr ls r6 a9 ks kt ba ku kv o4 (lm.st c6) ja _ H).mono ?_)
       rintro _ s2 ⟨r7, r8, ax, bu, bv, ay, bw, bx, a0, cc, cd, rfl, H, c7, lt, fq, lu, lv, lw, jc⟩
       have lx := Ok.unl (L := [bk a9, bk ba, bk dc, bk ct, some d6, bk a4, bk a5]) (L' := [some d6]) (O := O) a3 c7 lt fq
       have ly := Ow.unl (L := [bk a9, bk ba, bk dc, bk ct, some d6, bk a4, bk a5]) (L' := [some d6]) (O := O) (fun _ _ _ _ _ _ h => h) (.cons _ (.cons _ (.cons _ (.cons _ (.cons_cons _ (.cons _ (.cons _ (.slnil)))))))) lv
       have lz := Ow.unl (L := [bk a9, bk ba, bk dc, bk ct, some d6, bk a4, bk a5]) (L' := [some d6]) (O := O) (fun _ _ _ _ _ _ h => h) (.cons _ (.cons _ (.cons _ (.cons _ (.cons_cons _ (.cons _ (.cons _ (.slnil)))))))) lw
       have l0 := Ow.unl (L := [bk a9, bk ba, bk dc, bk ct, some d6, bk a4, bk a5]) (L' := [some d6]) (O := O) (fun _ _ _ _ _ _ h => h) (.cons _ (.cons _ (.cons _ (.cons _ (.cons_cons _ (.cons _ (.cons _ (.slnil)))))))) jc
       have c8 := a3.owns c7 lx fq
       have ck := Gm.tm hp c7
       refine L_nil ⟨ck, ?_⟩
       refine M_pu 7 rfl (by kernel_rfl) ck (P_move (.tuple #[.agg #[vs r7.Id, vi r7.Shape.Kind, .slice ax bu bv, .slice ay bw bx], .slice a0 cc cd]) rfl) ?_
       refine M_pu 8 rfl (by kernel_rfl) ck (P_ext [.agg #[vs r7.Id, vi r7.Shape.Kind, .slice ax bu bv, .slice ay bw bx], .slice a0 cc cd] 0 (.agg #[vs r7.Id, vi r7.Shape.Kind, .slice ax bu bv, .slice ay bw bx]) rfl rfl) ?_
       refine M_pu 9 rfl (by kernel_rfl) ck (P_ext [.agg #[vs r7.Id, vi r7.Shape.Kind, .slice ax bu bv, .slice ay bw bx], .slice a0 cc cd] 1 (.slice a0 cc cd) rfl rfl) ?_
       refine M_any1 11 (by kernel_rfl) rfl ?_
       have l1 := (((abo.k0 gk).k0 cl).k0 c7)
       refine L_stb d6 0 [vs ([] : Str), vi 0, .slice none 0 0, .slice none 0 0] [vs r7.Id, vi r7.Shape.Kind, .slice ax bu bv, .slice ay bw bx] [vs r7.Id, vi r7.Shape.Kind, .slice ax bu bv, .slice ay bw bx] rfl l1 rfl sz71 rfl rfl rfl fun q4 bh jd => ?_
       have l2 := c8.wr 7 rfl bh
       have hr := Gm.tq ck bh (hv_new qu (oge o7))
       refine L_nil ⟨hr, ?_⟩
       refine M_pu 12 rfl (by kernel_rfl) hr (P_assign (.slice a0 cc cd) rfl) ?_
       refine M_nil (by kernel_rfl) ?_
       have bz : ([bk ax, bk ay, bk a0, bk a9, bk ba, bk dc, bk ct, some d6, bk a4, bk a5] : Ob).Perm ((bk a9 :: bk ba :: bk dc :: bk ct :: bk a4 :: bk a5 :: []) ++ [bk ax, bk ay, bk a0, some d6]) := (by rw [List.perm_iff_count]; intro a; (try simp only [List.count_append, List.count_cons, List.count_nil, Nat.add_zero, Nat.zero_add]); first | done | ac_rfl)
       have da := l2.drops bz
       have db : ([bk ax, bk ay, bk a0, some d6] : Ob).Perm [some d6, bk ax, bk ay, bk a0] := (by rw [List.perm_iff_count]; intro a; (try simp only [List.count_append, List.count_cons, List.count_nil, Nat.add_zero, Nat.zero_add]); first | done | ac_rfl)
       have b0 := da.perm db
       have l3 := (da.sp (Ow.drops (L := [bk ax, bk ay, bk a0, bk a9, bk ba, bk dc, bk ct, some d6, bk a4, bk a5]) (O := O) (c8.sw l0 2 7 rfl rfl rfl bh) bz (memi 2 rfl)) db)
       have l4 := (da.sp (Ow.drops (L := [bk ax, bk ay, bk a0, bk a9, bk ba, bk dc, bk ct, some d6, bk a4, bk a5]) (O := O) (c8.sw ly 0 7 rfl rfl rfl bh) bz (memi 0 rfl)) db)
       have l5 := (da.sp (Ow.drops (L := [bk ax, bk ay, bk a0, bk a9, bk ba, bk dc, bk ct, some d6, bk a4, bk a5]) (O := O) (c8.sw lz 1 7 rfl rfl rfl bh) bz (memi 1 rfl)) db)
       have eh := io.stos nq oy
       have ei := i5.stown _ o8 (oge o7)
       have ej := ht.stos gk jg
       have fr := e3.stos cl d5
       have fs := a3.stos c7 fq
       have ft := c8.stw 7 rfl bh
       have fu := da.stp db
       have l6 := ((((((((nn.st eh).st ei).st ej).st fr).st fs).st ft).st (St.drops _ O bz)).st fu)
       have l7 := ((((((((no.st eh).st ei).st ej).st fr).st fs).st ft).st (St.drops _ O bz)).st fu)
       have l8 := ((((((((np.st eh).st ei).st ej).st fr).st fs).st ft).st (St.drops _ O bz)).st fu)
       have l9 := jd
       exact ⟨r7, r8, a0, cc, cd, ax, bu, bv, ay, bw, bx, d6, ⟨rfl, rfl, rfl, rfl, rfl, trivial⟩, b0, (hp5.st b0.st), (kk.st b0.st), (i3.st b0.st), (i4.st b0.st), (il.st b0.st), (im.st b0.st), l3, l4, l5, l6, l7, l8, l9, lu, H⟩
     ·refine L_alloc [vs [], .int .i64 0, .slice none 0 0, .slice none 0 0] ze71 fun sl d7 s8 hu102 s9 abp => ?_
      have pe := io.own s9 (some d7) (oglt s8 hu102)
      have wf := Gm.tm nm s9
      refine L_nil ⟨wf, ?_⟩
      refine M_any1 1 (by kernel_rfl) rfl ?_
      refine L_call go35 [.agg #[vs aBase.Id, vi aBase.Shape.Kind, .slice A2 n3 c4, .slice A7 n8 c9]] rfl ((laws_toFeat.calls sl pe.ok aBase A2 n3 c4 A7 n8 c9 hs1 (hp5.st pe.st) (kk.st pe.st) _ H).mono ?_)
      rintro _ abq ⟨r4, hu, wg, wh, hv, wi, wj, rfl, H, q5, abr, wk, abs, abt, abu⟩
      have ht := pe.owns q5 abr wk
      have o9 := Gm.tm wf q5
      refine L_nil ⟨o9, ?_⟩
      refine M_any1 3 (by kernel_rfl) rfl ?_
      refine L_call go35 [.agg #[vs aA.Id, vi aA.Shape.Kind, .slice b3 b4 b5, .slice b6 b7 b8]] rfl ((laws_toFeat.calls abq ht.ok aA b3 b4 b5 b6 b7 b8 i2 (i3.st ht.st) (i4.st ht.st) _ H).mono ?_)
      rintro _ s3 ⟨r5, dc, pa, pb, ct, pc, pd, rfl, H, gk, s4, jg, s5, s6, s7⟩
      have e3 := ht.owns gk s4 jg
      have kr := Gm.tm o9 gk
      refine L_nil ⟨kr, ?_⟩
      refine M_any1 5 (by kernel_rfl) rfl ?_
      refine L_call go35 [.agg #[vs aB.Id, vi aB.Shape.Kind, .slice bl bn bo, .slice bp bq br]] rfl ((laws_toFeat.calls s3 e3.ok aB bl bn bo bp bq br hl (il.st e3.st) (im.st e3.st) _ H).mono ?_)
      rintro _ hs ⟨r6, a9, ks, kt, ba, ku, kv, rfl, H, cl, o3, d5, o4, o5, o6⟩
      have a3 := e3.owns cl o3 d5
      have hp := Gm.tm kr cl
      refine L_nil ⟨hp, ?_⟩
      refine M_any1 6 (by kernel_rfl) rfl ?_
      have lh := ((abt.sos gk jg).sos cl d5)
      have i6 := a3.gv lh 4 rfl
      have bt := a3.drop 4 rfl
      have li := (a3.sd ((abu.sos gk jg).sos cl d5) 5 4 rfl rfl rfl)
      have i7 := bt.gv li 4 rfl
      have cb := bt.drop 4 rfl
      have lj := (bt.sd (a3.sd (s6.sos cl d5) 2 4 rfl rfl rfl) 2 4 rfl rfl rfl)
      have i8 := cb.gv lj 2 rfl
      have c5 : Ct [] w0 hs [bk a9, bk ba, bk ct, some d7] O := cb.drop 2 rfl
      have lk := (cb.sd (bt.sd (a3.sd (s7.sos cl d5) 3 4 rfl rfl rfl) 3 4 rfl rfl rfl) 3 2 rfl rfl rfl)
      have i9 := c5.gv lk 2 rfl
      have ek := c5.drop 2 rfl
      have ll := (c5.sd (cb.sd (bt.sd (a3.sd o5 0 4 rfl rfl rfl) 0 4 rfl rfl rfl) 0 2 rfl rfl rfl) 0 2 rfl rfl rfl)
      have lm := ek.gv ll 0 rfl
      have fo := ek.drop 0 rfl
      have ln := (ek.sd (c5.sd (cb.sd (bt.sd (a3.sd o6 1 4 rfl rfl rfl) 1 4 rfl rfl rfl) 1 2 rfl rfl rfl) 1 2 rfl rfl rfl) 1 0 rfl rfl rfl)
      have ja := fo.gv ln 0 rfl
      have lo : Ct [] w0 hs [some d7] O := fo.drop 0 rfl
      have lp := bt.std 4 rfl
      have hq := cb.std 2 rfl
      have fp := c5.std 2 rfl
      have el := ek.std 0 rfl
      have c6 := fo.std 0 rfl
      have lq := (((((i6.st lp).st hq).st fp).st el).st c6)
      have jb := ((((i7.st hq).st fp).st el).st c6)
      have lr := (((i8.st fp).st el).st c6)
      have ls := ((i9.st el).st c6)
      refine L_call go34 [.agg #[vs r4.Id, vi r4.Shape.Kind, .slice hu wg wh, .slice hv wi wj], .agg #[vs r5.Id, vi r5.Shape.Kind, .slice dc pa pb, .slice ct pc pd], .agg #[vs r6.Id, vi r6.Shape.Kind, .slice a9 ks kt, .slice ba ku kv]] rfl ((spec_FeatJoin.calls hs lo.ok r4 hu wg wh hv wi wj abs lq jb r5 dc pa pb ct pc pd s5 lr ls r6 a9 ks kt ba ku kv o4 (lm.st c6) ja _ H).mono ?_)
      rintro _ s2 ⟨r7, r8, ax, bu, bv, ay, bw, bx, a0, cc, cd, rfl, H, c7, lt, fq, lu, lv, lw, jc⟩
      have lx := Ok.unl (L := [bk a9, bk ba, bk dc, bk ct, bk hu, bk hv, some d7]) (L' := [some d7]) (O := O) a3 c7 lt fq
      have ly := Ow.unl (L := [bk a9, bk ba, bk dc, bk ct, bk hu, bk hv, some d7]) (L' := [some d7]) (O := O) (fun _ _ _ _ _ _ h => h) (.cons _ (.cons _ (.cons _ (.cons _ (.cons _ (.cons _ (.cons_cons _ (.slnil)))))))) lv
      have lz := Ow.unl (L := [bk a9, bk ba, bk dc, bk ct, bk hu, bk hv, some d7]) (L' := [some d7]) (O := O) (fun _ _ _ _ _ _ h => h) (.cons _ (.cons _ (.cons _ (.cons _ (.cons _ (.cons _ (.cons_cons _ (.slnil)))))))) lw
      have l0 := Ow.unl (L := [bk a9, bk ba, bk dc, bk ct, bk hu, bk hv, some d7]) (L' := [some d7]) (O := O) (fun _ _ _ _ _ _ h => h) (.cons _ (.cons _ (.cons _ (.cons _ (.cons _ (.cons _ (.cons_cons _ (.slnil)))))))) jc
      have c8 := a3.owns c7 lx fq
      have ck := Gm.tm hp c7
      refine L_nil ⟨ck, ?_⟩
      refine M_pu 7 rfl (by kernel_rfl) ck (P_move (.tuple #[.agg #[vs r7.Id, vi r7.Shape.Kind, .slice ax bu bv, .slice ay bw bx], .slice a0 cc cd]) rfl) ?_
      refine M_pu 8 rfl (by kernel_rfl) ck (P_ext [.agg #[vs r7.Id, vi r7.Shape.Kind, .slice ax bu bv, .slice ay bw bx], .slice a0 cc cd] 0 (.agg #[vs r7.Id, vi r7.Shape.Kind, .slice ax bu bv, .slice ay bw bx]) rfl rfl) ?_
      refine M_pu 9 rfl (by kernel_rfl) ck (P_ext [.agg #[vs r7.Id, vi r7.Shape.Kind, .slice ax bu bv, .slice ay bw bx], .slice a0 cc cd] 1 (.slice a0 cc cd) rfl rfl) ?_
      refine M_any1 11 (by kernel_rfl) rfl ?_
      have l1 := ((((abp.k0 q5).k0 gk).k0 cl).k0 c7)
      refine L_stb d7 0 [vs ([] : Str), vi 0, .slice none 0 0, .slice none 0 0] [vs r7.Id, vi r7.Shape.Kind, .slice ax bu bv, .slice ay bw bx] [vs r7.Id, vi r7.Shape.Kind, .slice ax bu bv, .slice ay bw bx] rfl l1 rfl sz71 rfl rfl rfl fun q4 bh jd => ?_
      have l2 := c8.wr 9 rfl bh
      have hr := Gm.tq ck bh (hv_new nm (oge s8))
      refine L_nil ⟨hr, ?_⟩
      refine M_pu 12 rfl (by kernel_rfl) hr (P_assign (.slice a0 cc cd) rfl) ?_
      refine M_nil (by kernel_rfl) ?_
      have bz : ([bk ax, bk ay, bk a0, bk a9, bk ba, bk dc, bk ct, bk hu, bk hv, some d7] : Ob).Perm ((bk a9 :: bk ba :: bk dc :: bk ct :: bk hu :: bk hv :: []) ++ [bk ax, bk ay, bk a0, some d7]) := (by rw [List.perm_iff_count]; intro a; (try simp only [List.count_append, List.count_cons, List.count_nil, Nat.add_zero, Nat.zero_add]); first | done | ac_rfl)
      have da := l2.drops bz
      have db : ([bk ax, bk ay, bk a0, some d7] : Ob).Perm [some d7, bk ax, bk ay, bk a0] := (by rw [List.perm_iff_count]; intro a; (try simp only [List.count_append, List.count_cons, List.count_nil, Nat.add_zero, Nat.zero_add]); first | done | ac_rfl)
      have b0 := da.perm db
      have l3 := (da.sp (Ow.drops (L := [bk ax, bk ay, bk a0, bk a9, bk ba, bk dc, bk ct, bk hu, bk hv, some d7]) (O := O) (c8.sw l0 2 9 rfl rfl rfl bh) bz (memi 2 rfl)) db)
      have l4 := (da.sp (Ow.drops (L := [bk ax, bk ay, bk a0, bk a9, bk ba, bk dc, bk ct, bk hu, bk hv, some d7]) (O := O) (c8.sw ly 0 9 rfl rfl rfl bh) bz (memi 0 rfl)) db)
      have l5 := (da.sp (Ow.drops (L := [bk ax, bk ay, bk a0, bk a9, bk ba, bk dc, bk ct, bk hu, bk hv, some d7]) (O := O) (c8.sw lz 1 9 rfl rfl rfl bh) bz (memi 1 rfl)) db)
      have eh := io.stown _ s9 (oge s8)
      have ei := pe.stos q5 wk
      have ej := ht.stos gk jg
      have fr := e3.stos cl d5
      have fs := a3.stos c7 fq
      have ft := c8.stw 9 rfl bh
      have fu := da.stp db
      have l6 := ((((((((nn.st eh).st ei).st ej).st fr).st fs).st ft).st (St.drops _ O bz)).st fu)
      have l7 := ((((((((no.st eh).st ei).st ej).st fr).st fs).st ft).st (St.drops _ O bz)).st fu)
      have l8 := ((((((((np.st eh).st ei).st ej).st fr).st fs).st ft).st (St.drops _ O bz)).st fu)
      have l9 := jd
      exact ⟨r7, r8, a0, cc, cd, ax, bu, bv, ay, bw, bx, d7, ⟨rfl, rfl, rfl, rfl, rfl, trivial⟩, b0, (hp5.st b0.st), (kk.st b0.st), (i3.st b0.st), (i4.st b0.st), (il.st b0.st), (im.st b0.st), l3, l4, l5, l6, l7, l8, l9, lu, H⟩
    ·rintro ama fb ⟨r7, r8, aa, f5, f6, ac, f7, f8, ab, f9, ga, ad, abv, ta, wl, wm, abw, abx, aby, abz, wn, wo, wp, wq, ab0, ab1, ab2, tb, H⟩
     obtain ⟨amb, rfl⟩ := Has.ins abv
     refine W_seq ?_
     refine W_reg ?_
     refine L_pu (P_lda ag65 sz65 cL ⟨k7, 0, none⟩ [vs aBase.Id, vi aBase.Shape.Kind, .slice A2 n3 c4, .slice A7 n8 c9] rfl rfl (wq.cells (off := 0) rfl)) ?_
     refine L_call go35 [.agg #[vs aBase.Id, vi aBase.Shape.Kind, .slice A2 n3 c4, .slice A7 n8 c9]] rfl ((laws_toFeat.calls fb ta.ok aBase A2 n3 c4 A7 n8 c9 hs1 wl wm _ H).mono ?_)
     rintro _ amc ⟨r9, am, hw, hx, an, hy, hz, rfl, H, jh, ab3, kx, tc, ws, wt⟩
     have wu := ta.owns jh ab3 kx
     refine L_alloc [vs [], .int .i64 0, .slice none 0 0, .slice none 0 0] ze71 fun amd ai g7 hu2147 gl ab4 => ?_
     have gn := wu.own gl (some ai) (oglt g7 hu2147)
     refine L_stb ai 0 [vs ([] : Str), vi 0, .slice none 0 0, .slice none 0 0] [vs r9.Id, vi r9.Shape.Kind, .slice am hw hx, .slice an hy hz] [vs r9.Id, vi r9.Shape.Kind, .slice am hw hx, .slice an hy hz] rfl ab4 rfl sz71 rfl rfl rfl fun ab5 gp ab6 => ?_
     have td := gn.wr 0 rfl gp
     refine L_nil ?_
     refine W_seq ?_
     refine W_reg ?_
     have ji := ta.stos jh kx
     have jj := wu.stown _ gl (oge g7)
     have jk := gn.stw 0 rfl gp
     have wv := (((ab0.st ji).st jj).st jk)
     refine L_pu (P_lda ag65 sz65 cL ⟨k8, 0, none⟩ [vs aA.Id, vi aA.Shape.Kind, .slice b3 b4 b5, .slice b6 b7 b8] rfl rfl (wv.cells (off := 0) rfl)) ?_
     have ww := (((abw.st ji).st jj).st jk)
     have wx := (((abx.st ji).st jj).st jk)
     refine L_call go35 [.agg #[vs aA.Id, vi aA.Shape.Kind, .slice b3 b4 b5, .slice b6 b7 b8]] rfl ((laws_toFeat.calls ab5 td.ok aA b3 b4 b5 b6 b7 b8 i2 ww wx _ H).mono ?_)
     rintro _ ame ⟨r10, ao, h0, h1, aj, h2, h3, rfl, H, gb, ab7, g8, te, wy, wz⟩
     have w1 := td.owns gb ab7 g8
     refine L_alloc [vs [], .int .i64 0, .slice none 0 0, .slice none 0 0] ze71 fun amf ap fc hu2182 es ab8 => ?_
     have et := w1.own es (some ap) (oglt fc hu2182)
     refine L_stb ap 0 [vs ([] : Str), vi 0, .slice none 0 0, .slice none 0 0] [vs r10.Id, vi r10.Shape.Kind, .slice ao h0 h1, .slice aj h2 h3] [vs r10.Id, vi r10.Shape.Kind, .slice ao h0 h1, .slice aj h2 h3] rfl ab8 rfl sz71 rfl rfl rfl fun ab9 eu aca => ?_
     have tf := et.wr 0 rfl eu
     refine L_nil ?_
     refine W_seq ?_
     refine W_reg ?_
     have jl := td.stos gb g8
     have jm := w1.stown _ es (oge fc)
     have jn := et.stw 0 rfl eu
     have w2 := ((((((ab1.st ji).st jj).st jk).st jl).st jm).st jn)
     refine L_pu (P_lda ag65 sz65 cL ⟨k9, 0, none⟩ [vs aB.Id, vi aB.Shape.Kind, .slice bl bn bo, .slice bp bq br] rfl rfl (w2.cells (off := 0) rfl)) ?_
     have w3 := ((((((aby.st ji).st jj).st jk).st jl).st jm).st jn)
     have w4 := ((((((abz.st ji).st jj).st jk).st jl).st jm).st jn)
     refine L_call go35 [.agg #[vs aB.Id, vi aB.Shape.Kind, .slice bl bn bo, .slice bp bq br]] rfl ((laws_toFeat.calls ab9 tf.ok aB bl bn bo bp bq br hl w3 w4 _ H).mono ?_)
     rintro _ amg ⟨r11, ak, h4, h5, al, h6, h7, rfl, H, em, acb, fd, tg, w5, w6⟩
     have w7 := tf.owns em acb fd
     refine L_alloc [vs [], .int .i64 0, .slice none 0 0, .slice none 0 0] ze71 fun amh aq d8 hu2217 dd acc => ?_
     have de := w7.own dd (some aq) (oglt d8 hu2217)
     refine L_stb aq 0 [vs ([] : Str), vi 0, .slice none 0 0, .slice none 0 0] [vs r11.Id, vi r11.Shape.Kind, .slice ak h4 h5, .slice al h6 h7] [vs r11.Id, vi r11.Shape.Kind, .slice ak h4 h5, .slice al h6 h7] rfl acc rfl sz71 rfl rfl rfl fun th df w8 => ?_
     have iq := de.wr 0 rfl df
     refine L_nil ?_
     refine W_seq ?_
     refine W_reg ?_
     have w9 := (de.bm (((et.bm ((ab6.k0 gb).k0 es) 3 0 rfl rfl rfl eu).k0 em).k0 dd) 6 0 rfl rfl rfl df)
     refine L_pu (P_lda ag71 sz71 cL ⟨ai, 0, none⟩ [vs r9.Id, vi r9.Shape.Kind, .slice am hw hx, .slice an hy hz] rfl rfl (w9.cells (off := 0) rfl)) ?_
     have xa := (de.bm ((aca.k0 em).k0 dd) 3 0 rfl rfl rfl df)
     refine L_pu (P_lda ag71 sz71 cL ⟨ap, 0, none⟩ [vs r10.Id, vi r10.Shape.Kind, .slice ao h0 h1, .slice aj h2 h3] rfl rfl (xa.cells (off := 0) rfl)) ?_
     refine L_pu (P_lda ag71 sz71 cL ⟨aq, 0, none⟩ [vs r11.Id, vi r11.Shape.Kind, .slice ak h4 h5, .slice al h6 h7] rfl rfl (w8.cells (off := 0) rfl)) ?_
     have acd := (de.sw (((et.sw (((gn.sw (ws.so _ gl (oge g7)) 1 0 rfl rfl rfl gp).sos gb g8).so _ es (oge fc)) 4 0 rfl rfl rfl eu).sos em fd).so _ dd (oge d8)) 7 0 rfl rfl rfl df)
     have ace := iq.gv acd 7 rfl
     have mc := iq.drop 7 rfl
     have acf := (iq.sd (de.sw (((et.sw (((gn.sw (wt.so _ gl (oge g7)) 2 0 rfl rfl rfl gp).sos gb g8).so _ es (oge fc)) 5 0 rfl rfl rfl eu).sos em fd).so _ dd (oge d8)) 8 0 rfl rfl rfl df) 8 7 rfl rfl rfl)
     have acg := mc.gv acf 7 rfl
     have n0 := mc.drop 7 rfl
     have ach := (mc.sd (iq.sd (de.sw (((et.sw (wy.so _ es (oge fc)) 1 0 rfl rfl rfl eu).sos em fd).so _ dd (oge d8)) 4 0 rfl rfl rfl df) 4 7 rfl rfl rfl) 4 7 rfl rfl rfl)
     have aci := n0.gv ach 4 rfl
     have pf : Ct [] w0 th [some aq, bk ak, bk al, some ap, bk aj, some ai, some ad, bk ac, bk ab, bk aa] O := n0.drop 4 rfl
     have acj := (n0.sd (mc.sd (iq.sd (de.sw (((et.sw (wz.so _ es (oge fc)) 2 0 rfl rfl rfl eu).sos em fd).so _ dd (oge d8)) 5 0 rfl rfl rfl df) 5 7 rfl rfl rfl) 5 7 rfl rfl rfl) 5 4 rfl rfl rfl)
     have ack := pf.gv acj 4 rfl
     have q6 := pf.drop 4 rfl
     have acl := (pf.sd (n0.sd (mc.sd (iq.sd (de.sw (w5.so _ dd (oge d8)) 1 0 rfl rfl rfl df) 1 7 rfl rfl rfl) 1 7 rfl rfl rfl) 1 4 rfl rfl rfl) 1 4 rfl rfl rfl)
     have acm := q6.gv acl 1 rfl
     have ti := q6.drop 1 rfl
     have acn := (q6.sd (pf.sd (n0.sd (mc.sd (iq.sd (de.sw (w6.so _ dd (oge d8)) 2 0 rfl rfl rfl df) 2 7 rfl rfl rfl) 2 7 rfl rfl rfl) 2 4 rfl rfl rfl) 2 4 rfl rfl rfl) 2 1 rfl rfl rfl)
     have aco := ti.gv acn 1 rfl
     have acp : Ct [] w0 th [some aq, some ap, some ai, some ad, bk ac, bk ab, bk aa] O := ti.drop 1 rfl
     have acq := mc.std 7 rfl
     have xb := n0.std 4 rfl
     have tj := pf.std 4 rfl
     have q7 := q6.std 1 rfl
     have pg := ti.std 1 rfl
     have acr := (((((ace.st acq).st xb).st tj).st q7).st pg)
     have acs := ((((acg.st xb).st tj).st q7).st pg)
     have act := (((aci.st tj).st q7).st pg)
     have acu := ((ack.st q7).st pg)
     refine L_call go36 [.agg #[vs r9.Id, vi r9.Shape.Kind, .slice am hw hx, .slice an hy hz], .agg #[vs r10.Id, vi r10.Shape.Kind, .slice ao h0 h1, .slice aj h2 h3], .agg #[vs r11.Id, vi r11.Shape.Kind, .slice ak h4 h5, .slice al h6 h7]] rfl ((impl_FeatJoin.calls th acp.ok r9 am hw hx an hy hz tc acr acs r10 ao h0 h1 aj h2 h3 te act acu r11 ak h4 h5 al h6 h7 tg (acm.st pg) aco _ H).mono ?_)
     rintro _ ami ⟨r12, r13, af, dg, dh, ag, di, dk, ae, dn, dp, rfl, H, en, acv, fv, ph, acw, acx, acy⟩
     have acz := Ok.unl (L := [some aq, bk ak, bk al, some ap, bk ao, bk aj, some ai, bk am, bk an, some ad, bk ac, bk ab, bk aa]) (L' := [some aq, some ap, some ai, some ad, bk ac, bk ab, bk aa]) (O := O) iq en acv fv
     have xc := Ow.unl (L := [some aq, bk ak, bk al, some ap, bk ao, bk aj, some ai, bk am, bk an, some ad, bk ac, bk ab, bk aa]) (L' := [some aq, some ap, some ai, some ad, bk ac, bk ab, bk aa]) (O := O) (fun _ _ _ _ _ _ h => h) (.cons_cons _ (.cons _ (.cons _ (.cons_cons _ (.cons _ (.cons _ (.cons_cons _ (.cons _ (.cons _ (.cons_cons _ (.cons_cons _ (.cons_cons _ (.cons_cons _ (.slnil)))))))))))))) acw
     have xd := Ow.unl (L := [some aq, bk ak, bk al, some ap, bk ao, bk aj, some ai, bk am, bk an, some ad, bk ac, bk ab, bk aa]) (L' := [some aq, some ap, some ai, some ad, bk ac, bk ab, bk aa]) (O := O) (fun _ _ _ _ _ _ h => h) (.cons_cons _ (.cons _ (.cons _ (.cons_cons _ (.cons _ (.cons _ (.cons_cons _ (.cons _ (.cons _ (.cons_cons _ (.cons_cons _ (.cons_cons _ (.cons_cons _ (.slnil)))))))))))))) acx
     have xe := Ow.unl (L := [some aq, bk ak, bk al, some ap, bk ao, bk aj, some ai, bk am, bk an, some ad, bk ac, bk ab, bk aa]) (L' := [some aq, some ap, some ai, some ad, bk ac, bk ab, bk aa]) (O := O) (fun _ _ _ _ _ _ h => h) (.cons_cons _ (.cons _ (.cons _ (.cons_cons _ (.cons _ (.cons _ (.cons_cons _ (.cons _ (.cons _ (.cons_cons _ (.cons_cons _ (.cons_cons _ (.cons_cons _ (.slnil)))))))))))))) acy
     have xf := iq.owns en acz fv
     refine L_pu (P_move (.tuple #[.agg #[vs r12.Id, vi r12.Shape.Kind, .slice af dg dh, .slice ag di dk], .slice ae dn dp]) rfl) ?_
     refine L_pu (P_ext [.agg #[vs r12.Id, vi r12.Shape.Kind, .slice af dg dh, .slice ag di dk], .slice ae dn dp] 0 (.agg #[vs r12.Id, vi r12.Shape.Kind, .slice af dg dh, .slice ag di dk]) rfl rfl) ?_
     refine L_pu (P_ext [.agg #[vs r12.Id, vi r12.Shape.Kind, .slice af dg dh, .slice ag di dk], .slice ae dn dp] 1 (.slice ae dn dp) rfl rfl) ?_
     refine L_alloc [vs [], .int .i64 0, .slice none 0 0, .slice none 0 0] ze71 fun amj ah d9 hu2290 cy ac0 => ?_
     have cz := xf.own cy (some ah) (oglt d9 hu2290)
     refine L_stb ah 0 [vs ([] : Str), vi 0, .slice none 0 0, .slice none 0 0] [vs r12.Id, vi r12.Shape.Kind, .slice af dg dh, .slice ag di dk] [vs r12.Id, vi r12.Shape.Kind, .slice af dg dh, .slice ag di dk] rfl ac0 rfl sz71 rfl rfl rfl fun xg c0 xh => ?_
     have md := cz.wr 0 rfl c0
     refine L_pu (P_assign (.slice ae dn dp) rfl) ?_
     refine L_nil ?_
     refine W_seq ?_
     refine W_seq ?_
     refine W_reg ?_
     refine L_pu (P_lda ag71 sz71 cL ⟨ah, 0, none⟩ [vs r12.Id, vi r12.Shape.Kind, .slice af dg dh, .slice ag di dk] rfl rfl (xh.cells (off := 0) rfl)) ?_
     have xi := (cz.bm (((de.bm (((et.bm (((gn.bm ((ab2.k0 jh).k0 gl) 3 0 rfl rfl rfl gp).k0 gb).k0 es) 6 0 rfl rfl rfl eu).k0 em).k0 dd) 9 0 rfl rfl rfl df).k0 en).k0 cy) 13 0 rfl rfl rfl c0)
     refine L_pu (P_lda ag71 sz71 cL ⟨ad, 0, none⟩ [vs r7.Id, vi r7.Shape.Kind, .slice ac f7 f8, .slice ab f9 ga] rfl rfl (xi.cells (off := 0) rfl)) ?_
     have ac1 := (cz.sw (xc.so _ cy (oge d9)) 1 0 rfl rfl rfl c0)
     have ac2 := md.gv ac1 1 rfl
     have pi := md.drop 1 rfl
     have ac3 := (md.sd (cz.sw (xd.so _ cy (oge d9)) 2 0 rfl rfl rfl c0) 2 1 rfl rfl rfl)
     have ac4 := pi.gv ac3 1 rfl
     have q8 := pi.drop 1 rfl
     have ac5 := (pi.sd (md.sd (cz.sw (((de.sw (((et.sw (((gn.sw ((wo.sos jh kx).so _ gl (oge g7)) 4 0 rfl rfl rfl gp).sos gb g8).so _ es (oge fc)) 7 0 rfl rfl rfl eu).sos em fd).so _ dd (oge d8)) 10 0 rfl rfl rfl df).sos en fv).so _ cy (oge d9)) 14 0 rfl rfl rfl c0) 14 1 rfl rfl rfl) 13 1 rfl rfl rfl)
     have ac6 := q8.gv ac5 12 rfl
     have tk : Ct [] w0 xg [some ah, bk ae, some aq, bk ak, bk al, some ap, bk ao, bk aj, some ai, bk am, bk an, some ad, bk ab, bk aa] O := q8.drop 12 rfl
     have ac7 := (q8.sd (pi.sd (md.sd (cz.sw (((de.sw (((et.sw (((gn.sw ((wp.sos jh kx).so _ gl (oge g7)) 5 0 rfl rfl rfl gp).sos gb g8).so _ es (oge fc)) 8 0 rfl rfl rfl eu).sos em fd).so _ dd (oge d8)) 11 0 rfl rfl rfl df).sos en fv).so _ cy (oge d9)) 15 0 rfl rfl rfl c0) 15 1 rfl rfl rfl) 14 1 rfl rfl rfl) 13 12 rfl rfl rfl)
     have ac8 := tk.gv ac7 12 rfl
     have ac9 := tk.drop 12 rfl
     have ada := pi.std 1 rfl
     have xj := q8.std 12 rfl
     have tl := tk.std 12 rfl
     have adb := (((ac2.st ada).st xj).st tl)
     have adc := ((ac4.st xj).st tl)
     refine L_call go37 [.agg #[vs r12.Id, vi r12.Shape.Kind, .slice af dg dh, .slice ag di dk], .agg #[vs r7.Id, vi r7.Shape.Kind, .slice ac f7 f8, .slice ab f9 ga]] rfl ((laws_eqFeat.calls xg ac9.ok r12 af dg dh ag di dk ph adb adc r7 ac f7 f8 ab f9 ga tb (ac6.st tl) ac8 _ H).mono ?_)
     rintro _ add ⟨r14, rfl, H, dv⟩
     have n1 := md.k0 dv
     refine L_pu (P_not r14 rfl) ?_
     refine L_pu (P_move (vb (!r14)) rfl) ?_
     rcases bool_or (!r14) with gq | gq
     ·have H := ite_t H gq
      refine L_pass (dj := 62) rfl rfl (.inl (by exact congrArg Value.bool gq)) ?_
      refine L_pass (dj := 62) rfl rfl (.inl (by exact congrArg Value.bool gq)) ?_
      refine L_pass (dj := 62) rfl rfl (.inl (by exact congrArg Value.bool gq)) ?_
      refine L_pass (dj := 62) rfl rfl (.inl (by exact congrArg Value.bool gq)) ?_
      refine L_pu (P_pick true (vb true) (by exact congrArg Value.bool gq) rfl) ?_
      refine L_nil ?_
      refine W_ct (b := true) rfl rfl ?_
      refine W_seq ?_
      refine W_reg ?_
      refine L_pu (P_assign (vb false) rfl) ?_
      refine L_nil ?_
      refine W_ret ?_
      have ade := n1.clear
      exact ⟨[vb false], ⟨_, rfl, rfl⟩, false, rfl, H, ade.gr.g0⟩
     ·have H := ite_f H gq
      refine L_run (dj := 62) rfl rfl (by exact congrArg Value.bool gq) ?_
      refine L_pu (P_move (.slice ae dn dp) rfl) ?_
      refine L_run (dj := 62) rfl rfl (by exact congrArg Value.bool gq) ?_
      refine L_pu (P_move (.slice aa f5 f6) rfl) ?_
      refine L_run (dj := 62) rfl rfl (by exact congrArg Value.bool gq) ?_
      have adf := ((cz.sw (xe.so _ cy (oge d9)) 3 0 rfl rfl rfl c0).sn dv)
      have adg := n1.gv adf 3 rfl
      have tn := n1.drop 3 rfl
      have adh := (n1.sd ((cz.sw (((de.sw (((et.sw (((gn.sw ((wn.sos jh kx).so _ gl (oge g7)) 6 0 rfl rfl rfl gp).sos gb g8).so _ es (oge fc)) 9 0 rfl rfl rfl eu).sos em fd).so _ dd (oge d8)) 12 0 rfl rfl rfl df).sos en fv).so _ cy (oge d9)) 16 0 rfl rfl rfl c0).sn dv) 16 3 rfl rfl rfl)
      have adi := tn.gv adh 15 rfl
      have adj := tn.drop 15 rfl
      have adk := tn.std 15 rfl
      refine L_call go38 [.slice ae dn dp, .slice aa f5 f6] rfl ((laws_eqStringS.calls add adj.ok r13 ae dn dp (adg.st adk) r8 aa f5 f6 adi _ H).mono ?_)
      rintro _ amk ⟨r15, rfl, H, eo⟩
      have tp := n1.k0 eo
      refine L_run (dj := 62) rfl rfl (by exact congrArg Value.bool gq) ?_
      refine L_pu (P_not r15 rfl) ?_
      refine L_pu (P_pick false (vb (!r15)) (by exact congrArg Value.bool gq) rfl) ?_
      refine L_nil ?_
      refine W_cond (!r15) rfl (fun tr => ?_) (fun tr => ?_)
      ·have H := ite_t H tr
       refine W_seq ?_
       refine W_reg ?_
       refine L_pu (P_assign (vb false) rfl) ?_
       refine L_nil ?_
       refine W_ret ?_
       have adl := tp.clear
       exact ⟨[vb false], ⟨_, rfl, rfl⟩, false, rfl, H, adl.gr.g0⟩
      ·have H := ite_f H tr
       refine W_skip ?_
       refine W_seq ?_
       refine W_seq ?_
       have adm := ((xh.k0 dv).k0 eo)
       have adn := (((cz.sw (xc.so _ cy (oge d9)) 1 0 rfl rfl rfl c0).sn dv).sn eo)
       have ado := (((cz.sw (xd.so _ cy (oge d9)) 2 0 rfl rfl rfl c0).sn dv).sn eo)
       have adp := (((cz.sw (xe.so _ cy (oge d9)) 3 0 rfl rfl rfl c0).sn dv).sn eo)
       have adq := (((cz.bm ((w8.k0 en).k0 cy) 4 0 rfl rfl rfl c0).k0 dv).k0 eo)
       have adr := (((cz.sw (((de.sw (w5.so _ dd (oge d8)) 1 0 rfl rfl rfl df).sos en fv).so _ cy (oge d9)) 5 0 rfl rfl rfl c0).sn dv).sn eo)
       have ads := (((cz.sw (((de.sw (w6.so _ dd (oge d8)) 2 0 rfl rfl rfl df).sos en fv).so _ cy (oge d9)) 6 0 rfl rfl rfl c0).sn dv).sn eo)
       have adt := (((cz.bm ((xa.k0 en).k0 cy) 7 0 rfl rfl rfl c0).k0 dv).k0 eo)
       have adu := (((cz.sw (((de.sw (((et.sw (wy.so _ es (oge fc)) 1 0 rfl rfl rfl eu).sos em fd).so _ dd (oge d8)) 4 0 rfl rfl rfl df).sos en fv).so _ cy (oge d9)) 8 0 rfl rfl rfl c0).sn dv).sn eo)
       have adv := (((cz.sw (((de.sw (((et.sw (wz.so _ es (oge fc)) 2 0 rfl rfl rfl eu).sos em fd).so _ dd (oge d8)) 5 0 rfl rfl rfl df).sos en fv).so _ cy (oge d9)) 9 0 rfl rfl rfl c0).sn dv).sn eo)
       have adw := (((cz.bm ((w9.k0 en).k0 cy) 10 0 rfl rfl rfl c0).k0 dv).k0 eo)
       have xk := (((cz.sw (((de.sw (((et.sw (((gn.sw (ws.so _ gl (oge g7)) 1 0 rfl rfl rfl gp).sos gb g8).so _ es (oge fc)) 4 0 rfl rfl rfl eu).sos em fd).so _ dd (oge d8)) 7 0 rfl rfl rfl df).sos en fv).so _ cy (oge d9)) 11 0 rfl rfl rfl c0).sn dv).sn eo)
       have xl := (((cz.sw (((de.sw (((et.sw (((gn.sw (wt.so _ gl (oge g7)) 2 0 rfl rfl rfl gp).sos gb g8).so _ es (oge fc)) 5 0 rfl rfl rfl eu).sos em fd).so _ dd (oge d8)) 8 0 rfl rfl rfl df).sos en fv).so _ cy (oge d9)) 12 0 rfl rfl rfl c0).sn dv).sn eo)
       have adx := ((xi.k0 dv).k0 eo)
       have ady := (((cz.sw (((de.sw (((et.sw (((gn.sw ((wo.sos jh kx).so _ gl (oge g7)) 4 0 rfl rfl rfl gp).sos gb g8).so _ es (oge fc)) 7 0 rfl rfl rfl eu).sos em fd).so _ dd (oge d8)) 10 0 rfl rfl rfl df).sos en fv).so _ cy (oge d9)) 14 0 rfl rfl rfl c0).sn dv).sn eo)
       have adz := (((cz.sw (((de.sw (((et.sw (((gn.sw ((wp.sos jh kx).so _ gl (oge g7)) 5 0 rfl rfl rfl gp).sos gb g8).so _ es (oge fc)) 8 0 rfl rfl rfl eu).sos em fd).so _ dd (oge d8)) 11 0 rfl rfl rfl df).sos en fv).so _ cy (oge d9)) 15 0 rfl rfl rfl c0).sn dv).sn eo)
       have ad0 := (((cz.sw (((de.sw (((et.sw (((gn.sw ((wn.sos jh kx).so _ gl (oge g7)) 6 0 rfl rfl rfl gp).sos gb g8).so _ es (oge fc)) 9 0 rfl rfl rfl eu).sos em fd).so _ dd (oge d8)) 12 0 rfl rfl rfl df).sos en fv).so _ cy (oge d9)) 16 0 rfl rfl rfl c0).sn dv).sn eo)
       have jo := tf.stos em fd
       have jp := w7.stown _ dd (oge d8)
       have jq := de.stw 0 rfl df
       have jr := iq.stos en fv
       have js := xf.stown _ cy (oge d9)
       have jt := cz.stw 0 rfl c0
       have ju := md.stn dv
       have jv := n1.stn eo
       have xm := ((((((((((((((wl.st ji).st jj).st jk).st jl).st jm).st jn).st jo).st jp).st jq).st jr).st js).st jt).st ju).st jv)
       have xn := ((((((((((((((wm.st ji).st jj).st jk).st jl).st jm).st jn).st jo).st jp).st jq).st jr).st js).st jt).st ju).st jv)
       have ad1 := (((((((((((ww.st jl).st jm).st jn).st jo).st jp).st jq).st jr).st js).st jt).st ju).st jv)
       have ad2 := (((((((((((wx.st jl).st jm).st jn).st jo).st jp).st jq).st jr).st js).st jt).st ju).st jv)
       have ad3 := ((((((((w3.st jo).st jp).st jq).st jr).st js).st jt).st ju).st jv)
       have ad4 := ((((((((w4.st jo).st jp).st jq).st jr).st js).st jt).st ju).st jv)
       refine W_mixr 5 [] (by kernel_rfl) rfl fun ad5 dw ts => ?_
       have tt := tp.k0 dw
       have xo := (adw.k0 dw)
       refine M_pu 0 rfl (by kernel_rfl) ts (P_ldar ag71 sz71 cR ⟨ai, 0, none⟩ [vs r9.Id, vi r9.Shape.Kind, .slice am hw hx, .slice an hy hz] rfl rfl (xo.cells (off := 0) rfl) nm_nil) ?_
       have h8 := tp.stn dw
       have xp := (((((((((((((((wq.st ji).st jj).st jk).st jl).st jm).st jn).st jo).st jp).st jq).st jr).st js).st jt).st ju).st jv).st h8)
       refine M_pu 1 rfl (by kernel_rfl) ts (P_ldar ag65 sz65 cR ⟨k7, 0, none⟩ [vs aBase.Id, vi aBase.Shape.Kind, .slice A2 n3 c4, .slice A7 n8 c9] rfl rfl (xp.cells (off := 0) rfl) nm_nil) ?_
       refine M_any1 2 (by kernel_rfl) rfl ?_
       refine L_call go35 [.agg #[vs aBase.Id, vi aBase.Shape.Kind, .slice A2 n3 c4, .slice A7 n8 c9]] rfl ((laws_toFeat.calls ad5 tt.ok aBase A2 n3 c4 A7 n8 c9 hs1 (xm.st h8) (xn.st h8) _ H).mono ?_)
       rintro _ xq ⟨r16, xr, xs, xt, tu, xu, xv, rfl, H, dq, ad6, fe, ad7, ad8, ad9⟩
       have me := tt.owns dq ad6 fe
       have xw := Gm.tm ts dq
       refine L_nil ⟨xw, ?_⟩
       refine M_any1 3 (by kernel_rfl) rfl ?_
       have aea := ((xk.sn dw).sos dq fe)
       have aeb := me.gv aea 13 rfl
       have pj := me.drop 13 rfl
       have aec := (me.sd ((xl.sn dw).sos dq fe) 14 13 rfl rfl rfl)
       have aed := pj.gv aec 13 rfl
       have q9 := pj.drop 13 rfl
       have aee := (pj.sd (me.sd ad8 0 13 rfl rfl rfl) 0 13 rfl rfl rfl)
       have aef := q9.gv aee 0 rfl
       have tv : Ct [] w0 xq [bk tu, some ah, bk af, bk ag, bk ae, some aq, bk ak, bk al, some ap, bk ao, bk aj, some ai, some ad, bk ac, bk ab, bk aa] O := q9.drop 0 rfl
       have aeg := (q9.sd (pj.sd (me.sd ad9 1 13 rfl rfl rfl) 1 13 rfl rfl rfl) 1 0 rfl rfl rfl)
       have aeh := tv.gv aeg 0 rfl
       have aei := tv.drop 0 rfl
       have aej := pj.std 13 rfl
       have xx := q9.std 0 rfl
       have tw := tv.std 0 rfl
       have aek := (((aeb.st aej).st xx).st tw)
       have ael := ((aed.st xx).st tw)
       refine L_call go37 [.agg #[vs r9.Id, vi r9.Shape.Kind, .slice am hw hx, .slice an hy hz], .agg #[vs r16.Id, vi r16.Shape.Kind, .slice xr xs xt, .slice tu xu xv]] rfl ((laws_eqFeat.calls xq aei.ok r9 am hw hx an hy hz tc aek ael r16 xr xs xt tu xu xv ad7 (aef.st tw) aeh _ H).mono ?_)
       rintro _ aml ⟨r17, rfl, H, ea⟩
       have fw := me.k0 ea
       have xy := Gm.tm xw ea
       refine L_nil ⟨xy, ?_⟩
       refine M_pu 4 rfl (by kernel_rfl) xy (P_not r17 rfl) ?_
       refine M_nil (by kernel_rfl) ?_
       refine W_cond (!r17) rfl (fun tx => ?_) (fun tx => ?_)
       ·have H := ite_t H tx
        refine W_seq ?_
        refine W_reg ?_
        refine L_pu (P_assign (vb false) rfl) ?_
        refine L_nil ?_
        refine W_ret ?_
        have aem := fw.clear
        exact ⟨[vb false], ⟨_, rfl, rfl⟩, false, rfl, H, aem.gr.g0⟩
       ·have H := ite_f H tx
        refine W_skip ?_
        refine W_seq ?_
        refine W_seq ?_
        have gc := fw.drop 0 rfl
        have xz := gc.drop 0 rfl
        have aen := (((adm.k0 dw).k0 dq).k0 ea)
        have aeo := (gc.sd (fw.sd (((adn.sn dw).sos dq fe).sn ea) 3 0 rfl rfl rfl) 2 0 rfl rfl rfl)
        have aep := (gc.sd (fw.sd (((ado.sn dw).sos dq fe).sn ea) 4 0 rfl rfl rfl) 3 0 rfl rfl rfl)
        have aeq := (gc.sd (fw.sd (((adp.sn dw).sos dq fe).sn ea) 5 0 rfl rfl rfl) 4 0 rfl rfl rfl)
        have aer := (((adq.k0 dw).k0 dq).k0 ea)
        have aes := (gc.sd (fw.sd (((adr.sn dw).sos dq fe).sn ea) 7 0 rfl rfl rfl) 6 0 rfl rfl rfl)
        have aet := (gc.sd (fw.sd (((ads.sn dw).sos dq fe).sn ea) 8 0 rfl rfl rfl) 7 0 rfl rfl rfl)
        have aeu := (((adt.k0 dw).k0 dq).k0 ea)
        have x0 := (gc.sd (fw.sd (((adu.sn dw).sos dq fe).sn ea) 10 0 rfl rfl rfl) 9 0 rfl rfl rfl)
        have x1 := (gc.sd (fw.sd (((adv.sn dw).sos dq fe).sn ea) 11 0 rfl rfl rfl) 10 0 rfl rfl rfl)
        have aev := ((xo.k0 dq).k0 ea)
        have aew := (gc.sd (fw.sd (((xk.sn dw).sos dq fe).sn ea) 13 0 rfl rfl rfl) 12 0 rfl rfl rfl)
        have aex := (gc.sd (fw.sd (((xl.sn dw).sos dq fe).sn ea) 14 0 rfl rfl rfl) 13 0 rfl rfl rfl)
        have aey := (((adx.k0 dw).k0 dq).k0 ea)
        have aez := (gc.sd (fw.sd (((ady.sn dw).sos dq fe).sn ea) 16 0 rfl rfl rfl) 15 0 rfl rfl rfl)
        have ae0 := (gc.sd (fw.sd (((adz.sn dw).sos dq fe).sn ea) 17 0 rfl rfl rfl) 16 0 rfl rfl rfl)
        have ae1 := (gc.sd (fw.sd (((ad0.sn dw).sos dq fe).sn ea) 18 0 rfl rfl rfl) 17 0 rfl rfl rfl)
        have jw := tt.stos dq fe
        have jx := me.stn ea
        have jy := fw.std 0 rfl
        have jz := gc.std 0 rfl
        have ae2 := (((((xm.st h8).st jw).st jx).st jy).st jz)
        have ae3 := (((((xn.st h8).st jw).st jx).st jy).st jz)
        have x2 := (((((ad1.st h8).st jw).st jx).st jy).st jz)
        have x3 := (((((ad2.st h8).st jw).st jx).st jy).st jz)
        have ae4 := (((((ad3.st h8).st jw).st jx).st jy).st jz)
        have ae5 := (((((ad4.st h8).st jw).st jx).st jy).st jz)
        refine W_mixr 5 [] (by kernel_rfl) rfl fun ae6 dx ty => ?_
        have tz := xz.k0 dx
        have x4 := (aeu.k0 dx)
        refine M_pu 0 rfl (by kernel_rfl) ty (P_ldar ag71 sz71 cR ⟨ap, 0, none⟩ [vs r10.Id, vi r10.Shape.Kind, .slice ao h0 h1, .slice aj h2 h3] rfl rfl (x4.cells (off := 0) rfl) nm_nil) ?_
        have h9 := xz.stn dx
        have x5 := (((((((((((((((((wv.st jl).st jm).st jn).st jo).st jp).st jq).st jr).st js).st jt).st ju).st jv).st h8).st jw).st jx).st jy).st jz).st h9)
        refine M_pu 1 rfl (by kernel_rfl) ty (P_ldar ag65 sz65 cR ⟨k8, 0, none⟩ [vs aA.Id, vi aA.Shape.Kind, .slice b3 b4 b5, .slice b6 b7 b8] rfl rfl (x5.cells (off := 0) rfl) nm_nil) ?_
        refine M_any1 2 (by kernel_rfl) rfl ?_
        refine L_call go35 [.agg #[vs aA.Id, vi aA.Shape.Kind, .slice b3 b4 b5, .slice b6 b7 b8]] rfl ((laws_toFeat.calls ae6 tz.ok aA b3 b4 b5 b6 b7 b8 i2 (x2.st h9) (x3.st h9) _ H).mono ?_)
        rintro _ t0 ⟨r18, t1, x6, x7, ra, x8, x9, rfl, H, dr, ae7, ff, ae8, ae9, afa⟩
        have mf : Ct [] w0 t0 [bk t1, bk ra, some ah, bk af, bk ag, bk ae, some aq, bk ak, bk al, some ap, bk ao, bk aj, some ai, bk am, bk an, some ad, bk ac, bk ab, bk aa] O := tz.owns dr ae7 ff
        have ya := Gm.tm ty dr
        refine L_nil ⟨ya, ?_⟩
        refine M_any1 3 (by kernel_rfl) rfl ?_
        have afb := ((x0.sn dx).sos dr ff)
        have afc := mf.gv afb 10 rfl
        have pk := mf.drop 10 rfl
        have afd := (mf.sd ((x1.sn dx).sos dr ff) 11 10 rfl rfl rfl)
        have afe := pk.gv afd 10 rfl
        have rb := pk.drop 10 rfl
        have aff := (pk.sd (mf.sd ae9 0 10 rfl rfl rfl) 0 10 rfl rfl rfl)
        have afg := rb.gv aff 0 rfl
        have t2 : Ct [] w0 t0 [bk ra, some ah, bk af, bk ag, bk ae, some aq, bk ak, bk al, some ap, some ai, bk am, bk an, some ad, bk ac, bk ab, bk aa] O := rb.drop 0 rfl
        have afh := (rb.sd (pk.sd (mf.sd afa 1 10 rfl rfl rfl) 1 10 rfl rfl rfl) 1 0 rfl rfl rfl)
        have afi := t2.gv afh 0 rfl
        have afj := t2.drop 0 rfl
        have afk := pk.std 10 rfl
        have yb := rb.std 0 rfl
        have t3 := t2.std 0 rfl
        have afl := (((afc.st afk).st yb).st t3)
        have afm := ((afe.st yb).st t3)
        refine L_call go37 [.agg #[vs r10.Id, vi r10.Shape.Kind, .slice ao h0 h1, .slice aj h2 h3], .agg #[vs r18.Id, vi r18.Shape.Kind, .slice t1 x6 x7, .slice ra x8 x9]] rfl ((laws_eqFeat.calls t0 afj.ok r10 ao h0 h1 aj h2 h3 te afl afm r18 t1 x6 x7 ra x8 x9 ae8 (afg.st t3) afi _ H).mono ?_)
        rintro _ amm ⟨r19, rfl, H, eb⟩
        have fx := mf.k0 eb
        have yc := Gm.tm ya eb
        refine L_nil ⟨yc, ?_⟩
        refine M_pu 4 rfl (by kernel_rfl) yc (P_not r19 rfl) ?_
        refine M_nil (by kernel_rfl) ?_
        refine W_cond (!r19) rfl (fun t4 => ?_) (fun t4 => ?_)
        ·have H := ite_t H t4
         refine W_seq ?_
         refine W_reg ?_
         refine L_pu (P_assign (vb false) rfl) ?_
         refine L_nil ?_
         refine W_ret ?_
         have afn := fx.clear
         exact ⟨[vb false], ⟨_, rfl, rfl⟩, false, rfl, H, afn.gr.g0⟩
        ·have H := ite_f H t4
         refine W_skip ?_
         refine W_seq ?_
         refine W_seq ?_
         have gd := fx.drop 0 rfl
         have yd := gd.drop 0 rfl
         have afo := (((aen.k0 dx).k0 dr).k0 eb)
         have ye := (gd.sd (fx.sd (((aeo.sn dx).sos dr ff).sn eb) 3 0 rfl rfl rfl) 2 0 rfl rfl rfl)
         have yf := (gd.sd (fx.sd (((aep.sn dx).sos dr ff).sn eb) 4 0 rfl rfl rfl) 3 0 rfl rfl rfl)
         have yg := (gd.sd (fx.sd (((aeq.sn dx).sos dr ff).sn eb) 5 0 rfl rfl rfl) 4 0 rfl rfl rfl)
         have afp := (((aer.k0 dx).k0 dr).k0 eb)
         have yh := (gd.sd (fx.sd (((aes.sn dx).sos dr ff).sn eb) 7 0 rfl rfl rfl) 6 0 rfl rfl rfl)
         have yi := (gd.sd (fx.sd (((aet.sn dx).sos dr ff).sn eb) 8 0 rfl rfl rfl) 7 0 rfl rfl rfl)
         have afq := ((x4.k0 dr).k0 eb)
         have afr := (gd.sd (fx.sd (((x0.sn dx).sos dr ff).sn eb) 10 0 rfl rfl rfl) 9 0 rfl rfl rfl)
         have afs := (gd.sd (fx.sd (((x1.sn dx).sos dr ff).sn eb) 11 0 rfl rfl rfl) 10 0 rfl rfl rfl)
         have aft := (((aev.k0 dx).k0 dr).k0 eb)
         have afu := (gd.sd (fx.sd (((aew.sn dx).sos dr ff).sn eb) 13 0 rfl rfl rfl) 12 0 rfl rfl rfl)
         have afv := (gd.sd (fx.sd (((aex.sn dx).sos dr ff).sn eb) 14 0 rfl rfl rfl) 13 0 rfl rfl rfl)
         have afw := (((aey.k0 dx).k0 dr).k0 eb)
         have yj := (gd.sd (fx.sd (((aez.sn dx).sos dr ff).sn eb) 16 0 rfl rfl rfl) 15 0 rfl rfl rfl)
         have yk := (gd.sd (fx.sd (((ae0.sn dx).sos dr ff).sn eb) 17 0 rfl rfl rfl) 16 0 rfl rfl rfl)
         have yl := (gd.sd (fx.sd (((ae1.sn dx).sos dr ff).sn eb) 18 0 rfl rfl rfl) 17 0 rfl rfl rfl)
         have j0 := tz.stos dr ff
         have j1 := mf.stn eb
         have j2 := fx.std 0 rfl
         have j3 := gd.std 0 rfl
         have afx := (((((ae2.st h9).st j0).st j1).st j2).st j3)
         have afy := (((((ae3.st h9).st j0).st j1).st j2).st j3)
         have afz := (((((x2.st h9).st j0).st j1).st j2).st j3)
         have af0 := (((((x3.st h9).st j0).st j1).st j2).st j3)
         have ym := (((((ae4.st h9).st j0).st j1).st j2).st j3)
         have yn := (((((ae5.st h9).st j0).st j1).st j2).st j3)
         refine W_mixr 5 [] (by kernel_rfl) rfl fun af1 ce t5 => ?_
         have t6 := yd.k0 ce
         have yo := (afp.k0 ce)
         refine M_pu 0 rfl (by kernel_rfl) t5 (P_ldar ag71 sz71 cR ⟨aq, 0, none⟩ [vs r11.Id, vi r11.Shape.Kind, .slice ak h4 h5, .slice al h6 h7] rfl rfl (yo.cells (off := 0) rfl) nm_nil) ?_
         have ia := yd.stn ce
         have yp := (((((((((((((((((((w2.st jo).st jp).st jq).st jr).st js).st jt).st ju).st jv).st h8).st jw).st jx).st jy).st jz).st h9).st j0).st j1).st j2).st j3).st ia)
         refine M_pu 1 rfl (by kernel_rfl) t5 (P_ldar ag65 sz65 cR ⟨k9, 0, none⟩ [vs aB.Id, vi aB.Shape.Kind, .slice bl bn bo, .slice bp bq br] rfl rfl (yp.cells (off := 0) rfl) nm_nil) ?_
         refine M_any1 2 (by kernel_rfl) rfl ?_
         refine L_call go35 [.agg #[vs aB.Id, vi aB.Shape.Kind, .slice bl bn bo, .slice bp bq br]] rfl ((laws_toFeat.calls af1 t6.ok aB bl bn bo bp bq br hl (ym.st ia) (yn.st ia) _ H).mono ?_)
         rintro _ t7 ⟨r20, au, yq, yr, ar, ys, yt, rfl, H, b9, af2, ds, af3, af4, af5⟩
         have mg : Ct [] w0 t7 [bk au, bk ar, some ah, bk af, bk ag, bk ae, some aq, bk ak, bk al, some ap, bk ao, bk aj, some ai, bk am, bk an, some ad, bk ac, bk ab, bk aa] O := t6.owns b9 af2 ds
         have yu := Gm.tm t5 b9
         refine L_nil ⟨yu, ?_⟩
         refine M_any1 3 (by kernel_rfl) rfl ?_
         have af6 := ((yh.sn ce).sos b9 ds)
         have af7 := mg.gv af6 7 rfl
         have pl := mg.drop 7 rfl
         have af8 := (mg.sd ((yi.sn ce).sos b9 ds) 8 7 rfl rfl rfl)
         have af9 := pl.gv af8 7 rfl
         have rc := pl.drop 7 rfl
         have aga := (pl.sd (mg.sd af4 0 7 rfl rfl rfl) 0 7 rfl rfl rfl)
         have agb := rc.gv aga 0 rfl
         have t8 : Ct [] w0 t7 [bk ar, some ah, bk af, bk ag, bk ae, some aq, some ap, bk ao, bk aj, some ai, bk am, bk an, some ad, bk ac, bk ab, bk aa] O := rc.drop 0 rfl
         have agc := (rc.sd (pl.sd (mg.sd af5 1 7 rfl rfl rfl) 1 7 rfl rfl rfl) 1 0 rfl rfl rfl)
         have agd := t8.gv agc 0 rfl
         have age := t8.drop 0 rfl
         have agf := pl.std 7 rfl
         have yv := rc.std 0 rfl
         have t9 := t8.std 0 rfl
         have agh := (((af7.st agf).st yv).st t9)
         have agi := ((af9.st yv).st t9)
         refine L_call go37 [.agg #[vs r11.Id, vi r11.Shape.Kind, .slice ak h4 h5, .slice al h6 h7], .agg #[vs r20.Id, vi r20.Shape.Kind, .slice au yq yr, .slice ar ys yt]] rfl ((laws_eqFeat.calls t7 age.ok r11 ak h4 h5 al h6 h7 tg agh agi r20 au yq yr ar ys yt af3 (agb.st t9) agd _ H).mono ?_)
         rintro _ agj ⟨r21, rfl, H, cm⟩
         have c1 := mg.k0 cm
         have yw := Gm.tm yu cm
         refine L_nil ⟨yw, ?_⟩
         refine M_pu 4 rfl (by kernel_rfl) yw (P_not r21 rfl) ?_
         refine M_nil (by kernel_rfl) ?_
         refine W_cond (!r21) rfl (fun ua => ?_) (fun ua => ?_)
         ·have H := ite_t H ua
          refine W_seq ?_
          refine W_reg ?_
          refine L_pu (P_assign (vb false) rfl) ?_
          refine L_nil ?_
          refine W_ret ?_
          have agk := c1.clear
          exact ⟨[vb false], ⟨_, rfl, rfl⟩, false, rfl, H, agk.gr.g0⟩
         ·have H := ite_f H ua
          refine W_skip ?_
          refine W_seq ?_
          refine W_reg ?_
          refine L_pu (P_assign (vi 1) rfl) ?_
          refine L_nil ?_
          refine W_seq ?_
          refine W_reg ?_
          have agl := (((aft.k0 ce).k0 b9).k0 cm)
          refine L_pu (P_lda ag71 sz71 cL ⟨ai, 0, none⟩ [vs r9.Id, vi r9.Shape.Kind, .slice am hw hx, .slice an hy hz] rfl rfl (agl.cells (off := 0) rfl)) ?_
          refine L_pu (P_move (vi 1) rfl) ?_
          have agm := (((afu.sn ce).sos b9 ds).sn cm)
          have agn := (((afv.sn ce).sos b9 ds).sn cm)
          have ca : ([bk au, bk ar, some ah, bk af, bk ag, bk ae, some aq, bk ak, bk al, some ap, bk ao, bk aj, some ai, bk am, bk an, some ad, bk ac, bk ab, bk aa] : Ob).Perm ([bk am, bk an] ++ [bk au, bk ar, some ah, bk af, bk ag, bk ae, some aq, bk ak, bk al, some ap, bk ao, bk aj, some ai, some ad, bk ac, bk ab, bk aa]) := (by rw [List.perm_iff_count]; intro a; (try simp only [List.count_append, List.count_cons, List.count_nil, Nat.add_zero, Nat.zero_add]); first | done | ac_rfl)
          refine L_call go39 [.agg #[vs r9.Id, vi r9.Shape.Kind, .slice am hw hx, .slice an hy hz], vi 1] rfl ((laws_markFeat.calls agj c1.ok r9 am hw hx an hy hz tc agm agn (Dj.left (Dj.left (c1.perm ca).dj)) (fun b hb => List.mem_append_left _ (ca.mem_iff.2 (List.mem_append_left _ hb))) 1 _ H).mono ?_)
          rintro _ ago ⟨r22, m, m2, rfl, H, b2, amn, amo⟩
          have ec := c1.dm b2 (fun b hb => ca.mem_iff.2 (List.mem_append_left _ hb))
          refine L_pu (P_assign (vi r22) rfl) ?_
          refine L_nil ?_
          refine W_seq ?_
          refine W_reg ?_
          have agp := (Bx.gm (((afq.k0 ce).k0 b9).k0 cm) b2 (Ct.sep1 (L := [bk au, bk ar, some ah, bk af, bk ag, bk ae, some aq, bk ak, bk al, some ap, bk ao, bk aj, some ai, bk am, bk an, some ad, bk ac, bk ab, bk aa]) (O := O) c1 (B := [bk am, bk an]) (C := (bk au :: bk ar :: some ah :: bk af :: bk ag :: bk ae :: some aq :: bk ak :: bk al :: bk ao :: bk aj :: some ai :: some ad :: bk ac :: bk ab :: bk aa :: [])) (by rw [List.perm_iff_count]; intro a; (try simp only [List.count_append, List.count_cons, List.count_nil, Nat.add_zero, Nat.zero_add]); first | done | ac_rfl) _ rfl))
          refine L_pu (P_lda ag71 sz71 cL ⟨ap, 0, none⟩ [vs r10.Id, vi r10.Shape.Kind, .slice ao h0 h1, .slice aj h2 h3] rfl rfl (agp.cells (off := 0) rfl)) ?_
          refine L_pu (P_move (vi r22) rfl) ?_
          have agq := (Ow.gm (O := ([bk au, bk ar, some ah, bk af, bk ag, bk ae, some aq, bk ak, bk al, some ap, bk ao, bk aj, some ai, bk am, bk an, some ad, bk ac, bk ab, bk aa] ++ O)) (((afr.sn ce).sos b9 ds).sn cm) b2 (fun b hb => List.mem_append_left _ (ca.mem_iff.2 (List.mem_append_left _ hb))) (Ct.sep1 (L := [bk au, bk ar, some ah, bk af, bk ag, bk ae, some aq, bk ak, bk al, some ap, bk ao, bk aj, some ai, bk am, bk an, some ad, bk ac, bk ab, bk aa]) (O := O) c1 (x := bk ao) (B := [bk am, bk an]) (C := (bk au :: bk ar :: some ah :: bk af :: bk ag :: bk ae :: some aq :: bk ak :: bk al :: some ap :: bk aj :: some ai :: some ad :: bk ac :: bk ab :: bk aa :: [])) (by rw [List.perm_iff_count]; intro a; (try simp only [List.count_append, List.count_cons, List.count_nil, Nat.add_zero, Nat.zero_add]); first | done | ac_rfl)))
          have agr := (Ow.gm (O := ([bk au, bk ar, some ah, bk af, bk ag, bk ae, some aq, bk ak, bk al, some ap, bk ao, bk aj, some ai, bk am, bk an, some ad, bk ac, bk ab, bk aa] ++ O)) (((afs.sn ce).sos b9 ds).sn cm) b2 (fun b hb => List.mem_append_left _ (ca.mem_iff.2 (List.mem_append_left _ hb))) (Ct.sep1 (L := [bk au, bk ar, some ah, bk af, bk ag, bk ae, some aq, bk ak, bk al, some ap, bk ao, bk aj, some ai, bk am, bk an, some ad, bk ac, bk ab, bk aa]) (O := O) c1 (x := bk aj) (B := [bk am, bk an]) (C := (bk au :: bk ar :: some ah :: bk af :: bk ag :: bk ae :: some aq :: bk ak :: bk al :: some ap :: bk ao :: some ai :: some ad :: bk ac :: bk ab :: bk aa :: [])) (by rw [List.perm_iff_count]; intro a; (try simp only [List.count_append, List.count_cons, List.count_nil, Nat.add_zero, Nat.zero_add]); first | done | ac_rfl)))
          have cn : ([bk au, bk ar, some ah, bk af, bk ag, bk ae, some aq, bk ak, bk al, some ap, bk ao, bk aj, some ai, bk am, bk an, some ad, bk ac, bk ab, bk aa] : Ob).Perm ([bk ao, bk aj] ++ [bk au, bk ar, some ah, bk af, bk ag, bk ae, some aq, bk ak, bk al, some ap, some ai, bk am, bk an, some ad, bk ac, bk ab, bk aa]) := (by rw [List.perm_iff_count]; intro a; (try simp only [List.count_append, List.count_cons, List.count_nil, Nat.add_zero, Nat.zero_add]); first | done | ac_rfl)
          refine L_call go39 [.agg #[vs r10.Id, vi r10.Shape.Kind, .slice ao h0 h1, .slice aj h2 h3], vi r22] rfl ((laws_markFeat.calls ago ec.ok r10 ao h0 h1 aj h2 h3 te agq agr (Dj.left (Dj.left (ec.perm cn).dj)) (fun b hb => List.mem_append_left _ (cn.mem_iff.2 (List.mem_append_left _ hb))) r22 _ H).mono ?_)
          rintro _ ags ⟨r23, m3, m4, rfl, H, cf, amp, amq⟩
          have e4 := ec.dm cf (fun b hb => cn.mem_iff.2 (List.mem_append_left _ hb))
          refine L_pu (P_assign (vi r23) rfl) ?_
          refine L_nil ?_
          refine W_seq ?_
          refine W_reg ?_
          have agt := (Bx.gm (Bx.gm ((yo.k0 b9).k0 cm) b2 (Ct.sep1 (L := [bk au, bk ar, some ah, bk af, bk ag, bk ae, some aq, bk ak, bk al, some ap, bk ao, bk aj, some ai, bk am, bk an, some ad, bk ac, bk ab, bk aa]) (O := O) c1 (B := [bk am, bk an]) (C := (bk au :: bk ar :: some ah :: bk af :: bk ag :: bk ae :: bk ak :: bk al :: some ap :: bk ao :: bk aj :: some ai :: some ad :: bk ac :: bk ab :: bk aa :: [])) (by rw [List.perm_iff_count]; intro a; (try simp only [List.count_append, List.count_cons, List.count_nil, Nat.add_zero, Nat.zero_add]); first | done | ac_rfl) _ rfl)) cf (Ct.sep1 (L := [bk au, bk ar, some ah, bk af, bk ag, bk ae, some aq, bk ak, bk al, some ap, bk ao, bk aj, some ai, bk am, bk an, some ad, bk ac, bk ab, bk aa]) (O := O) ec (B := [bk ao, bk aj]) (C := (bk au :: bk ar :: some ah :: bk af :: bk ag :: bk ae :: bk ak :: bk al :: some ap :: some ai :: bk am :: bk an :: some ad :: bk ac :: bk ab :: bk aa :: [])) (by rw [List.perm_iff_count]; intro a; (try simp only [List.count_append, List.count_cons, List.count_nil, Nat.add_zero, Nat.zero_add]); first | done | ac_rfl) _ rfl))
          refine L_pu (P_lda ag71 sz71 cL ⟨aq, 0, none⟩ [vs r11.Id, vi r11.Shape.Kind, .slice ak h4 h5, .slice al h6 h7] rfl rfl (agt.cells (off := 0) rfl)) ?_
          refine L_pu (P_move (vi r23) rfl) ?_
          have agu := (Ow.gm (O := ([bk au, bk ar, some ah, bk af, bk ag, bk ae, some aq, bk ak, bk al, some ap, bk ao, bk aj, some ai, bk am, bk an, some ad, bk ac, bk ab, bk aa] ++ O)) (Ow.gm (O := ([bk au, bk ar, some ah, bk af, bk ag, bk ae, some aq, bk ak, bk al, some ap, bk ao, bk aj, some ai, bk am, bk an, some ad, bk ac, bk ab, bk aa] ++ O)) (((yh.sn ce).sos b9 ds).sn cm) b2 (fun b hb => List.mem_append_left _ (ca.mem_iff.2 (List.mem_append_left _ hb))) (Ct.sep1 (L := [bk au, bk ar, some ah, bk af, bk ag, bk ae, some aq, bk ak, bk al, some ap, bk ao, bk aj, some ai, bk am, bk an, some ad, bk ac, bk ab, bk aa]) (O := O) c1 (x := bk ak) (B := [bk am, bk an]) (C := (bk au :: bk ar :: some ah :: bk af :: bk ag :: bk ae :: some aq :: bk al :: some ap :: bk ao :: bk aj :: some ai :: some ad :: bk ac :: bk ab :: bk aa :: [])) (by rw [List.perm_iff_count]; intro a; (try simp only [List.count_append, List.count_cons, List.count_nil, Nat.add_zero, Nat.zero_add]); first | done | ac_rfl))) cf (fun b hb => List.mem_append_left _ (cn.mem_iff.2 (List.mem_append_left _ hb))) (Ct.sep1 (L := [bk au, bk ar, some ah, bk af, bk ag, bk ae, some aq, bk ak, bk al, some ap, bk ao, bk aj, some ai, bk am, bk an, some ad, bk ac, bk ab, bk aa]) (O := O) ec (x := bk ak) (B := [bk ao, bk aj]) (C := (bk au :: bk ar :: some ah :: bk af :: bk ag :: bk ae :: some aq :: bk al :: some ap :: some ai :: bk am :: bk an :: some ad :: bk ac :: bk ab :: bk aa :: [])) (by rw [List.perm_iff_count]; intro a; (try simp only [List.count_append, List.count_cons, List.count_nil, Nat.add_zero, Nat.zero_add]); first | done | ac_rfl)))
          have agv := (Ow.gm (O := ([bk au, bk ar, some ah, bk af, bk ag, bk ae, some aq, bk ak, bk al, some ap, bk ao, bk aj, some ai, bk am, bk an, some ad, bk ac, bk ab, bk aa] ++ O)) (Ow.gm (O := ([bk au, bk ar, some ah, bk af, bk ag, bk ae, some aq, bk ak, bk al, some ap, bk ao, bk aj, some ai, bk am, bk an, some ad, bk ac, bk ab, bk aa] ++ O)) (((yi.sn ce).sos b9 ds).sn cm) b2 (fun b hb => List.mem_append_left _ (ca.mem_iff.2 (List.mem_append_left _ hb))) (Ct.sep1 (L := [bk au, bk ar, some ah, bk af, bk ag, bk ae, some aq, bk ak, bk al, some ap, bk ao, bk aj, some ai, bk am, bk an, some ad, bk ac, bk ab, bk aa]) (O := O) c1 (x := bk al) (B := [bk am, bk an]) (C := (bk au :: bk ar :: some ah :: bk af :: bk ag :: bk ae :: some aq :: bk ak :: some ap :: bk ao :: bk aj :: some ai :: some ad :: bk ac :: bk ab :: bk aa :: [])) (by rw [List.perm_iff_count]; intro a; (try simp only [List.count_append, List.count_cons, List.count_nil, Nat.add_zero, Nat.zero_add]); first | done | ac_rfl))) cf (fun b hb => List.mem_append_left _ (cn.mem_iff.2 (List.mem_append_left _ hb))) (Ct.sep1 (L := [bk au, bk ar, some ah, bk af, bk ag, bk ae, some aq, bk ak, bk al, some ap, bk ao, bk aj, some ai, bk am, bk an, some ad, bk ac, bk ab, bk aa]) (O := O) ec (x := bk al) (B := [bk ao, bk aj]) (C := (bk au :: bk ar :: some ah :: bk af :: bk ag :: bk ae :: some aq :: bk ak :: some ap :: some ai :: bk am :: bk an :: some ad :: bk ac :: bk ab :: bk aa :: [])) (by rw [List.perm_iff_count]; intro a; (try simp only [List.count_append, List.count_cons, List.count_nil, Nat.add_zero, Nat.zero_add]); first | done | ac_rfl)))
          have c2 : ([bk au, bk ar, some ah, bk af, bk ag, bk ae, some aq, bk ak, bk al, some ap, bk ao, bk aj, some ai, bk am, bk an, some ad, bk ac, bk ab, bk aa] : Ob).Perm ([bk ak, bk al] ++ [bk au, bk ar, some ah, bk af, bk ag, bk ae, some aq, some ap, bk ao, bk aj, some ai, bk am, bk an, some ad, bk ac, bk ab, bk aa]) := (by rw [List.perm_iff_count]; intro a; (try simp only [List.count_append, List.count_cons, List.count_nil, Nat.add_zero, Nat.zero_add]); first | done | ac_rfl)
          refine L_call go39 [.agg #[vs r11.Id, vi r11.Shape.Kind, .slice ak h4 h5, .slice al h6 h7], vi r23] rfl ((laws_markFeat.calls ags e4.ok r11 ak h4 h5 al h6 h7 tg agu agv (Dj.left (Dj.left (e4.perm c2).dj)) (fun b hb => List.mem_append_left _ (c2.mem_iff.2 (List.mem_append_left _ hb))) r23 _ H).mono ?_)
          rintro _ yx ⟨r24, m5, m6, rfl, H, c3, amr, ams⟩
          have ky := e4.dm c3 (fun b hb => c2.mem_iff.2 (List.mem_append_left _ hb))
          refine L_pu (P_assign (vi r24) rfl) ?_
          refine L_nil ?_
          refine W_seq ?_
          refine W_seq ?_
          refine W_reg ?_
          refine L_pu (P_move (vi r24) rfl) ?_
          refine L_pu (P_cmp r24 0 (decide (r24 < 0)) rfl rfl rfl) ?_
          refine L_pu (P_move (vb (decide (r24 < 0))) rfl) ?_
          rcases bool_or (decide (r24 < 0)) with gs | gs
          ·have H := ite_t H gs
           refine L_pass (dj := 94) rfl rfl (.inl (by exact congrArg Value.bool gs)) ?_
           refine L_pass (dj := 94) rfl rfl (.inl (by exact congrArg Value.bool gs)) ?_
           refine L_pass (dj := 94) rfl rfl (.inl (by exact congrArg Value.bool gs)) ?_
           refine L_pass (dj := 94) rfl rfl (.inl (by exact congrArg Value.bool gs)) ?_
           refine L_pu (P_pick true (vb true) (by exact congrArg Value.bool gs) rfl) ?_
           refine L_pu (P_move (vb true) rfl) ?_
           refine L_pass (dj := 100) rfl rfl (.inl rfl) ?_
           refine L_pass (dj := 100) rfl rfl (.inl rfl) ?_
           refine L_pass (dj := 100) rfl rfl (.inl rfl) ?_
           refine L_pass (dj := 100) rfl rfl (.inl rfl) ?_
           refine L_pu (P_pick true (vb true) (by exact congrArg Value.bool rfl) rfl) ?_
           refine L_nil ?_
           refine W_ct (b := true) rfl rfl ?_
           refine W_seq ?_
           refine W_reg ?_
           refine L_pu (P_assign (vb false) rfl) ?_
           refine L_nil ?_
           refine W_ret ?_
           have agw := ky.clear
           exact ⟨[vb false], ⟨_, rfl, rfl⟩, false, rfl, H, agw.gr.g0⟩
          ·have H := ite_f H gs
           refine L_run (dj := 94) rfl rfl (by exact congrArg Value.bool gs) ?_
           have yy := (Bx.gm (Bx.gm (Bx.gm (((afo.k0 ce).k0 b9).k0 cm) b2 (Ct.sep1 (L := [bk au, bk ar, some ah, bk af, bk ag, bk ae, some aq, bk ak, bk al, some ap, bk ao, bk aj, some ai, bk am, bk an, some ad, bk ac, bk ab, bk aa]) (O := O) c1 (B := [bk am, bk an]) (C := (bk au :: bk ar :: bk af :: bk ag :: bk ae :: some aq :: bk ak :: bk al :: some ap :: bk ao :: bk aj :: some ai :: some ad :: bk ac :: bk ab :: bk aa :: [])) (by rw [List.perm_iff_count]; intro a; (try simp only [List.count_append, List.count_cons, List.count_nil, Nat.add_zero, Nat.zero_add]); first | done | ac_rfl) _ rfl)) cf (Ct.sep1 (L := [bk au, bk ar, some ah, bk af, bk ag, bk ae, some aq, bk ak, bk al, some ap, bk ao, bk aj, some ai, bk am, bk an, some ad, bk ac, bk ab, bk aa]) (O := O) ec (B := [bk ao, bk aj]) (C := (bk au :: bk ar :: bk af :: bk ag :: bk ae :: some aq :: bk ak :: bk al :: some ap :: some ai :: bk am :: bk an :: some ad :: bk ac :: bk ab :: bk aa :: [])) (by rw [List.perm_iff_count]; intro a; (try simp only [List.count_append, List.count_cons, List.count_nil, Nat.add_zero, Nat.zero_add]); first | done | ac_rfl) _ rfl)) c3 (Ct.sep1 (L := [bk au, bk ar, some ah, bk af, bk ag, bk ae, some aq, bk ak, bk al, some ap, bk ao, bk aj, some ai, bk am, bk an, some ad, bk ac, bk ab, bk aa]) (O := O) e4 (B := [bk ak, bk al]) (C := (bk au :: bk ar :: bk af :: bk ag :: bk ae :: some aq :: some ap :: bk ao :: bk aj :: some ai :: bk am :: bk an :: some ad :: bk ac :: bk ab :: bk aa :: [])) (by rw [List.perm_iff_count]; intro a; (try simp only [List.count_append, List.count_cons, List.count_nil, Nat.add_zero, Nat.zero_add]); first | done | ac_rfl) _ rfl))
           refine L_pu (P_lda ag71 sz71 cL ⟨ah, 0, none⟩ [vs r12.Id, vi r12.Shape.Kind, .slice af dg dh, .slice ag di dk] rfl rfl (yy.cells (off := 0) rfl)) ?_
           refine L_run (dj := 94) rfl rfl (by exact congrArg Value.bool gs) ?_
           have yz := (Bx.gm (Bx.gm (Bx.gm (((afw.k0 ce).k0 b9).k0 cm) b2 (Ct.sep1 (L := [bk au, bk ar, some ah, bk af, bk ag, bk ae, some aq, bk ak, bk al, some ap, bk ao, bk aj, some ai, bk am, bk an, some ad, bk ac, bk ab, bk aa]) (O := O) c1 (B := [bk am, bk an]) (C := (bk au :: bk ar :: some ah :: bk af :: bk ag :: bk ae :: some aq :: bk ak :: bk al :: some ap :: bk ao :: bk aj :: some ai :: bk ac :: bk ab :: bk aa :: [])) (by rw [List.perm_iff_count]; intro a; (try simp only [List.count_append, List.count_cons, List.count_nil, Nat.add_zero, Nat.zero_add]); first | done | ac_rfl) _ rfl)) cf (Ct.sep1 (L := [bk au, bk ar, some ah, bk af, bk ag, bk ae, some aq, bk ak, bk al, some ap, bk ao, bk aj, some ai, bk am, bk an, some ad, bk ac, bk ab, bk aa]) (O := O) ec (B := [bk ao, bk aj]) (C := (bk au :: bk ar :: some ah :: bk af :: bk ag :: bk ae :: some aq :: bk ak :: bk al :: some ap :: some ai :: bk am :: bk an :: bk ac :: bk ab :: bk aa :: [])) (by rw [List.perm_iff_count]; intro a; (try simp only [List.count_append, List.count_cons, List.count_nil, Nat.add_zero, Nat.zero_add]); first | done | ac_rfl) _ rfl)) c3 (Ct.sep1 (L := [bk au, bk ar, some ah, bk af, bk ag, bk ae, some aq, bk ak, bk al, some ap, bk ao, bk aj, some ai, bk am, bk an, some ad, bk ac, bk ab, bk aa]) (O := O) e4 (B := [bk ak, bk al]) (C := (bk au :: bk ar :: some ah :: bk af :: bk ag :: bk ae :: some aq :: some ap :: bk ao :: bk aj :: some ai :: bk am :: bk an :: bk ac :: bk ab :: bk aa :: [])) (by rw [List.perm_iff_count]; intro a; (try simp only [List.count_append, List.count_cons, List.count_nil, Nat.add_zero, Nat.zero_add]); first | done | ac_rfl) _ rfl))
           refine L_pu (P_lda ag71 sz71 cL ⟨ad, 0, none⟩ [vs r7.Id, vi r7.Shape.Kind, .slice ac f7 f8, .slice ab f9 ga] rfl rfl (yz.cells (off := 0) rfl)) ?_
           refine L_run (dj := 94) rfl rfl (by exact congrArg Value.bool gs) ?_
           have agx := (Ow.gm (O := ([bk au, bk ar, some ah, bk af, bk ag, bk ae, some aq, bk ak, bk al, some ap, bk ao, bk aj, some ai, bk am, bk an, some ad, bk ac, bk ab, bk aa] ++ O)) (Ow.gm (O := ([bk au, bk ar, some ah, bk af, bk ag, bk ae, some aq, bk ak, bk al, some ap, bk ao, bk aj, some ai, bk am, bk an, some ad, bk ac, bk ab, bk aa] ++ O)) (Ow.gm (O := ([bk au, bk ar, some ah, bk af, bk ag, bk ae, some aq, bk ak, bk al, some ap, bk ao, bk aj, some ai, bk am, bk an, some ad, bk ac, bk ab, bk aa] ++ O)) (((ye.sn ce).sos b9 ds).sn cm) b2 (fun b hb => List.mem_append_left _ (ca.mem_iff.2 (List.mem_append_left _ hb))) (Ct.sep1 (L := [bk au, bk ar, some ah, bk af, bk ag, bk ae, some aq, bk ak, bk al, some ap, bk ao, bk aj, some ai, bk am, bk an, some ad, bk ac, bk ab, bk aa]) (O := O) c1 (x := bk af) (B := [bk am, bk an]) (C := (bk au :: bk ar :: some ah :: bk ag :: bk ae :: some aq :: bk ak :: bk al :: some ap :: bk ao :: bk aj :: some ai :: some ad :: bk ac :: bk ab :: bk aa :: [])) (by rw [List.perm_iff_count]; intro a; (try simp only [List.count_append, List.count_cons, List.count_nil, Nat.add_zero, Nat.zero_add]); first | done | ac_rfl))) cf (fun b hb => List.mem_append_left _ (cn.mem_iff.2 (List.mem_append_left _ hb))) (Ct.sep1 (L := [bk au, bk ar, some ah, bk af, bk ag, bk ae, some aq, bk ak, bk al, some ap, bk ao, bk aj, some ai, bk am, bk an, some ad, bk ac, bk ab, bk aa]) (O := O) ec (x := bk af) (B := [bk ao, bk aj]) (C := (bk au :: bk ar :: some ah :: bk ag :: bk ae :: some aq :: bk ak :: bk al :: some ap :: some ai :: bk am :: bk an :: some ad :: bk ac :: bk ab :: bk aa :: [])) (by rw [List.perm_iff_count]; intro a; (try simp only [List.count_append, List.count_cons, List.count_nil, Nat.add_zero, Nat.zero_add]); first | done | ac_rfl))) c3 (fun b hb => List.mem_append_left _ (c2.mem_iff.2 (List.mem_append_left _ hb))) (Ct.sep1 (L := [bk au, bk ar, some ah, bk af, bk ag, bk ae, some aq, bk ak, bk al, some ap, bk ao, bk aj, some ai, bk am, bk an, some ad, bk ac, bk ab, bk aa]) (O := O) e4 (x := bk af) (B := [bk ak, bk al]) (C := (bk au :: bk ar :: some ah :: bk ag :: bk ae :: some aq :: some ap :: bk ao :: bk aj :: some ai :: bk am :: bk an :: some ad :: bk ac :: bk ab :: bk aa :: [])) (by rw [List.perm_iff_count]; intro a; (try simp only [List.count_append, List.count_cons, List.count_nil, Nat.add_zero, Nat.zero_add]); first | done | ac_rfl)))
           have agy := ky.gv agx 3 rfl
           have pm := ky.drop 3 rfl
           have agz := (ky.sd (Ow.gm (O := ([bk au, bk ar, some ah, bk af, bk ag, bk ae, some aq, bk ak, bk al, some ap, bk ao, bk aj, some ai, bk am, bk an, some ad, bk ac, bk ab, bk aa] ++ O)) (Ow.gm (O := ([bk au, bk ar, some ah, bk af, bk ag, bk ae, some aq, bk ak, bk al, some ap, bk ao, bk aj, some ai, bk am, bk an, some ad, bk ac, bk ab, bk aa] ++ O)) (Ow.gm (O := ([bk au, bk ar, some ah, bk af, bk ag, bk ae, some aq, bk ak, bk al, some ap, bk ao, bk aj, some ai, bk am, bk an, some ad, bk ac, bk ab, bk aa] ++ O)) (((yf.sn ce).sos b9 ds).sn cm) b2 (fun b hb => List.mem_append_left _ (ca.mem_iff.2 (List.mem_append_left _ hb))) (Ct.sep1 (L := [bk au, bk ar, some ah, bk af, bk ag, bk ae, some aq, bk ak, bk al, some ap, bk ao, bk aj, some ai, bk am, bk an, some ad, bk ac, bk ab, bk aa]) (O := O) c1 (x := bk ag) (B := [bk am, bk an]) (C := (bk au :: bk ar :: some ah :: bk af :: bk ae :: some aq :: bk ak :: bk al :: some ap :: bk ao :: bk aj :: some ai :: some ad :: bk ac :: bk ab :: bk aa :: [])) (by rw [List.perm_iff_count]; intro a; (try simp only [List.count_append, List.count_cons, List.count_nil, Nat.add_zero, Nat.zero_add]); first | done | ac_rfl))) cf (fun b hb => List.mem_append_left _ (cn.mem_iff.2 (List.mem_append_left _ hb))) (Ct.sep1 (L := [bk au, bk ar, some ah, bk af, bk ag, bk ae, some aq, bk ak, bk al, some ap, bk ao, bk aj, some ai, bk am, bk an, some ad, bk ac, bk ab, bk aa]) (O := O) ec (x := bk ag) (B := [bk ao, bk aj]) (C := (bk au :: bk ar :: some ah :: bk af :: bk ae :: some aq :: bk ak :: bk al :: some ap :: some ai :: bk am :: bk an :: some ad :: bk ac :: bk ab :: bk aa :: [])) (by rw [List.perm_iff_count]; intro a; (try simp only [List.count_append, List.count_cons, List.count_nil, Nat.add_zero, Nat.zero_add]); first | done | ac_rfl))) c3 (fun b hb => List.mem_append_left _ (c2.mem_iff.2 (List.mem_append_left _ hb))) (Ct.sep1 (L := [bk au, bk ar, some ah, bk af, bk ag, bk ae, some aq, bk ak, bk al, some ap, bk ao, bk aj, some ai, bk am, bk an, some ad, bk ac, bk ab, bk aa]) (O := O) e4 (x := bk ag) (B := [bk ak, bk al]) (C := (bk au :: bk ar :: some ah :: bk af :: bk ae :: some aq :: some ap :: bk ao :: bk aj :: some ai :: bk am :: bk an :: some ad :: bk ac :: bk ab :: bk aa :: [])) (by rw [List.perm_iff_count]; intro a; (try simp only [List.count_append, List.count_cons, List.count_nil, Nat.add_zero, Nat.zero_add]); first | done | ac_rfl))) 4 3 rfl rfl rfl)
           have ag0 := pm.gv agz 3 rfl
           have rd := pm.drop 3 rfl
           have ag1 := (pm.sd (ky.sd (Ow.gm (O := ([bk au, bk ar, some ah, bk af, bk ag, bk ae, some aq, bk ak, bk al, some ap, bk ao, bk aj, some ai, bk am, bk an, some ad, bk ac, bk ab, bk aa] ++ O)) (Ow.gm (O := ([bk au, bk ar, some ah, bk af, bk ag, bk ae, some aq, bk ak, bk al, some ap, bk ao, bk aj, some ai, bk am, bk an, some ad, bk ac, bk ab, bk aa] ++ O)) (Ow.gm (O := ([bk au, bk ar, some ah, bk af, bk ag, bk ae, some aq, bk ak, bk al, some ap, bk ao, bk aj, some ai, bk am, bk an, some ad, bk ac, bk ab, bk aa] ++ O)) (((yj.sn ce).sos b9 ds).sn cm) b2 (fun b hb => List.mem_append_left _ (ca.mem_iff.2 (List.mem_append_left _ hb))) (Ct.sep1 (L := [bk au, bk ar, some ah, bk af, bk ag, bk ae, some aq, bk ak, bk al, some ap, bk ao, bk aj, some ai, bk am, bk an, some ad, bk ac, bk ab, bk aa]) (O := O) c1 (x := bk ac) (B := [bk am, bk an]) (C := (bk au :: bk ar :: some ah :: bk af :: bk ag :: bk ae :: some aq :: bk ak :: bk al :: some ap :: bk ao :: bk aj :: some ai :: some ad :: bk ab :: bk aa :: [])) (by rw [List.perm_iff_count]; intro a; (try simp only [List.count_append, List.count_cons, List.count_nil, Nat.add_zero, Nat.zero_add]); first | done | ac_rfl))) cf (fun b hb => List.mem_append_left _ (cn.mem_iff.2 (List.mem_append_left _ hb))) (Ct.sep1 (L := [bk au, bk ar, some ah, bk af, bk ag, bk ae, some aq, bk ak, bk al, some ap, bk ao, bk aj, some ai, bk am, bk an, some ad, bk ac, bk ab, bk aa]) (O := O) ec (x := bk ac) (B := [bk ao, bk aj]) (C := (bk au :: bk ar :: some ah :: bk af :: bk ag :: bk ae :: some aq :: bk ak :: bk al :: some ap :: some ai :: bk am :: bk an :: some ad :: bk ab :: bk aa :: [])) (by rw [List.perm_iff_count]; intro a; (try simp only [List.count_append, List.count_cons, List.count_nil, Nat.add_zero, Nat.zero_add]); first | done | ac_rfl))) c3 (fun b hb => List.mem_append_left _ (c2.mem_iff.2 (List.mem_append_left _ hb))) (Ct.sep1 (L := [bk au, bk ar, some ah, bk af, bk ag, bk ae, some aq, bk ak, bk al, some ap, bk ao, bk aj, some ai, bk am, bk an, some ad, bk ac, bk ab, bk aa]) (O := O) e4 (x := bk ac) (B := [bk ak, bk al]) (C := (bk au :: bk ar :: some ah :: bk af :: bk ag :: bk ae :: some aq :: some ap :: bk ao :: bk aj :: some ai :: bk am :: bk an :: some ad :: bk ab :: bk aa :: [])) (by rw [List.perm_iff_count]; intro a; (try simp only [List.count_append, List.count_cons, List.count_nil, Nat.add_zero, Nat.zero_add]); first | done | ac_rfl))) 16 3 rfl rfl rfl) 15 3 rfl rfl rfl)
           have ag2 := rd.gv ag1 14 rfl
           have ub : Ct [] w0 yx [bk au, bk ar, some ah, bk ae, some aq, bk ak, bk al, some ap, bk ao, bk aj, some ai, bk am, bk an, some ad, bk ab, bk aa] O := rd.drop 14 rfl
           have ag3 := (rd.sd (pm.sd (ky.sd (Ow.gm (O := ([bk au, bk ar, some ah, bk af, bk ag, bk ae, some aq, bk ak, bk al, some ap, bk ao, bk aj, some ai, bk am, bk an, some ad, bk ac, bk ab, bk aa] ++ O)) (Ow.gm (O := ([bk au, bk ar, some ah, bk af, bk ag, bk ae, some aq, bk ak, bk al, some ap, bk ao, bk aj, some ai, bk am, bk an, some ad, bk ac, bk ab, bk aa] ++ O)) (Ow.gm (O := ([bk au, bk ar, some ah, bk af, bk ag, bk ae, some aq, bk ak, bk al, some ap, bk ao, bk aj, some ai, bk am, bk an, some ad, bk ac, bk ab, bk aa] ++ O)) (((yk.sn ce).sos b9 ds).sn cm) b2 (fun b hb => List.mem_append_left _ (ca.mem_iff.2 (List.mem_append_left _ hb))) (Ct.sep1 (L := [bk au, bk ar, some ah, bk af, bk ag, bk ae, some aq, bk ak, bk al, some ap, bk ao, bk aj, some ai, bk am, bk an, some ad, bk ac, bk ab, bk aa]) (O := O) c1 (x := bk ab) (B := [bk am, bk an]) (C := (bk au :: bk ar :: some ah :: bk af :: bk ag :: bk ae :: some aq :: bk ak :: bk al :: some ap :: bk ao :: bk aj :: some ai :: some ad :: bk ac :: bk aa :: [])) (by rw [List.perm_iff_count]; intro a; (try simp only [List.count_append, List.count_cons, List.count_nil, Nat.add_zero, Nat.zero_add]); first | done | ac_rfl))) cf (fun b hb => List.mem_append_left _ (cn.mem_iff.2 (List.mem_append_left _ hb))) (Ct.sep1 (L := [bk au, bk ar, some ah, bk af, bk ag, bk ae, some aq, bk ak, bk al, some ap, bk ao, bk aj, some ai, bk am, bk an, some ad, bk ac, bk ab, bk aa]) (O := O) ec (x := bk ab) (B := [bk ao, bk aj]) (C := (bk au :: bk ar :: some ah :: bk af :: bk ag :: bk ae :: some aq :: bk ak :: bk al :: some ap :: some ai :: bk am :: bk an :: some ad :: bk ac :: bk aa :: [])) (by rw [List.perm_iff_count]; intro a; (try simp only [List.count_append, List.count_cons, List.count_nil, Nat.add_zero, Nat.zero_add]); first | done | ac_rfl))) c3 (fun b hb => List.mem_append_left _ (c2.mem_iff.2 (List.mem_append_left _ hb))) (Ct.sep1 (L := [bk au, bk ar, some ah, bk af, bk ag, bk ae, some aq, bk ak, bk al, some ap, bk ao, bk aj, some ai, bk am, bk an, some ad, bk ac, bk ab, bk aa]) (O := O) e4 (x := bk ab) (B := [bk ak, bk al]) (C := (bk au :: bk ar :: some ah :: bk af :: bk ag :: bk ae :: some aq :: some ap :: bk ao :: bk aj :: some ai :: bk am :: bk an :: some ad :: bk ac :: bk aa :: [])) (by rw [List.perm_iff_count]; intro a; (try simp only [List.count_append, List.count_cons, List.count_nil, Nat.add_zero, Nat.zero_add]); first | done | ac_rfl))) 17 3 rfl rfl rfl) 16 3 rfl rfl rfl) 15 14 rfl rfl rfl)
           have ag4 := ub.gv ag3 14 rfl
           have ag5 := ub.drop 14 rfl
           have ag6 := pm.std 3 rfl
           have y0 := rd.std 14 rfl
           have uc := ub.std 14 rfl
           have ag7 := (((agy.st ag6).st y0).st uc)
           have ag8 := ((ag0.st y0).st uc)
           refine L_call go37 [.agg #[vs r12.Id, vi r12.Shape.Kind, .slice af dg dh, .slice ag di dk], .agg #[vs r7.Id, vi r7.Shape.Kind, .slice ac f7 f8, .slice ab f9 ga]] rfl ((laws_eqFeat.calls yx ag5.ok r12 af dg dh ag di dk ph ag7 ag8 r7 ac f7 f8 ab f9 ga tb (ag2.st uc) ag4 _ H).mono ?_)
           rintro _ ag9 ⟨r25, rfl, H, g9⟩
           have n2 := ky.k0 g9
           refine L_run (dj := 94) rfl rfl (by exact congrArg Value.bool gs) ?_
           refine L_pu (P_not r25 rfl) ?_
           refine L_pu (P_pick false (vb (!r25)) (by exact congrArg Value.bool gs) rfl) ?_
           refine L_pu (P_move (vb (!r25)) rfl) ?_
           rcases bool_or (!r25) with gt | gt
           ·have H := ite_t H gt
            refine L_pass (dj := 100) rfl rfl (.inl (by exact congrArg Value.bool gt)) ?_
            refine L_pass (dj := 100) rfl rfl (.inl (by exact congrArg Value.bool gt)) ?_
            refine L_pass (dj := 100) rfl rfl (.inl (by exact congrArg Value.bool gt)) ?_
            refine L_pass (dj := 100) rfl rfl (.inl (by exact congrArg Value.bool gt)) ?_
            refine L_pu (P_pick true (vb true) (by exact congrArg Value.bool gt) rfl) ?_
            refine L_nil ?_
            refine W_ct (b := true) rfl rfl ?_
            refine W_seq ?_
            refine W_reg ?_
            refine L_pu (P_assign (vb false) rfl) ?_
            refine L_nil ?_
            refine W_ret ?_
            have aha := n2.clear
            exact ⟨[vb false], ⟨_, rfl, rfl⟩, false, rfl, H, aha.gr.g0⟩
           ·have H := ite_f H gt
            refine L_run (dj := 100) rfl rfl (by exact congrArg Value.bool gt) ?_
            refine L_pu (P_move (.slice ae dn dp) rfl) ?_
            refine L_run (dj := 100) rfl rfl (by exact congrArg Value.bool gt) ?_
            refine L_pu (P_move (.slice aa f5 f6) rfl) ?_
            refine L_run (dj := 100) rfl rfl (by exact congrArg Value.bool gt) ?_
            have ahb := ((Ow.gm (O := ([bk au, bk ar, some ah, bk af, bk ag, bk ae, some aq, bk ak, bk al, some ap, bk ao, bk aj, some ai, bk am, bk an, some ad, bk ac, bk ab, bk aa] ++ O)) (Ow.gm (O := ([bk au, bk ar, some ah, bk af, bk ag, bk ae, some aq, bk ak, bk al, some ap, bk ao, bk aj, some ai, bk am, bk an, some ad, bk ac, bk ab, bk aa] ++ O)) (Ow.gm (O := ([bk au, bk ar, some ah, bk af, bk ag, bk ae, some aq, bk ak, bk al, some ap, bk ao, bk aj, some ai, bk am, bk an, some ad, bk ac, bk ab, bk aa] ++ O)) (((yg.sn ce).sos b9 ds).sn cm) b2 (fun b hb => List.mem_append_left _ (ca.mem_iff.2 (List.mem_append_left _ hb))) (Ct.sep1 (L := [bk au, bk ar, some ah, bk af, bk ag, bk ae, some aq, bk ak, bk al, some ap, bk ao, bk aj, some ai, bk am, bk an, some ad, bk ac, bk ab, bk aa]) (O := O) c1 (x := bk ae) (B := [bk am, bk an]) (C := (bk au :: bk ar :: some ah :: bk af :: bk ag :: some aq :: bk ak :: bk al :: some ap :: bk ao :: bk aj :: some ai :: some ad :: bk ac :: bk ab :: bk aa :: [])) (by rw [List.perm_iff_count]; intro a; (try simp only [List.count_append, List.count_cons, List.count_nil, Nat.add_zero, Nat.zero_add]); first | done | ac_rfl))) cf (fun b hb => List.mem_append_left _ (cn.mem_iff.2 (List.mem_append_left _ hb))) (Ct.sep1 (L := [bk au, bk ar, some ah, bk af, bk ag, bk ae, some aq, bk ak, bk al, some ap, bk ao, bk aj, some ai, bk am, bk an, some ad, bk ac, bk ab, bk aa]) (O := O) ec (x := bk ae) (B := [bk ao, bk aj]) (C := (bk au :: bk ar :: some ah :: bk af :: bk ag :: some aq :: bk ak :: bk al :: some ap :: some ai :: bk am :: bk an :: some ad :: bk ac :: bk ab :: bk aa :: [])) (by rw [List.perm_iff_count]; intro a; (try simp only [List.count_append, List.count_cons, List.count_nil, Nat.add_zero, Nat.zero_add]); first | done | ac_rfl))) c3 (fun b hb => List.mem_append_left _ (c2.mem_iff.2 (List.mem_append_left _ hb))) (Ct.sep1 (L := [bk au, bk ar, some ah, bk af, bk ag, bk ae, some aq, bk ak, bk al, some ap, bk ao, bk aj, some ai, bk am, bk an, some ad, bk ac, bk ab, bk aa]) (O := O) e4 (x := bk ae) (B := [bk ak, bk al]) (C := (bk au :: bk ar :: some ah :: bk af :: bk ag :: some aq :: some ap :: bk ao :: bk aj :: some ai :: bk am :: bk an :: some ad :: bk ac :: bk ab :: bk aa :: [])) (by rw [List.perm_iff_count]; intro a; (try simp only [List.count_append, List.count_cons, List.count_nil, Nat.add_zero, Nat.zero_add]); first | done | ac_rfl))).sn g9)
            have ahc := n2.gv ahb 5 rfl
            have ud := n2.drop 5 rfl
            have ahd := (n2.sd ((Ow.gm (O := ([bk au, bk ar, some ah, bk af, bk ag, bk ae, some aq, bk ak, bk al, some ap, bk ao, bk aj, some ai, bk am, bk an, some ad, bk ac, bk ab, bk aa] ++ O)) (Ow.gm (O := ([bk au, bk ar, some ah, bk af, bk ag, bk ae, some aq, bk ak, bk al, some ap, bk ao, bk aj, some ai, bk am, bk an, some ad, bk ac, bk ab, bk aa] ++ O)) (Ow.gm (O := ([bk au, bk ar, some ah, bk af, bk ag, bk ae, some aq, bk ak, bk al, some ap, bk ao, bk aj, some ai, bk am, bk an, some ad, bk ac, bk ab, bk aa] ++ O)) (((yl.sn ce).sos b9 ds).sn cm) b2 (fun b hb => List.mem_append_left _ (ca.mem_iff.2 (List.mem_append_left _ hb))) (Ct.sep1 (L := [bk au, bk ar, some ah, bk af, bk ag, bk ae, some aq, bk ak, bk al, some ap, bk ao, bk aj, some ai, bk am, bk an, some ad, bk ac, bk ab, bk aa]) (O := O) c1 (x := bk aa) (B := [bk am, bk an]) (C := (bk au :: bk ar :: some ah :: bk af :: bk ag :: bk ae :: some aq :: bk ak :: bk al :: some ap :: bk ao :: bk aj :: some ai :: some ad :: bk ac :: bk ab :: [])) (by rw [List.perm_iff_count]; intro a; (try simp only [List.count_append, List.count_cons, List.count_nil, Nat.add_zero, Nat.zero_add]); first | done | ac_rfl))) cf (fun b hb => List.mem_append_left _ (cn.mem_iff.2 (List.mem_append_left _ hb))) (Ct.sep1 (L := [bk au, bk ar, some ah, bk af, bk ag, bk ae, some aq, bk ak, bk al, some ap, bk ao, bk aj, some ai, bk am, bk an, some ad, bk ac, bk ab, bk aa]) (O := O) ec (x := bk aa) (B := [bk ao, bk aj]) (C := (bk au :: bk ar :: some ah :: bk af :: bk ag :: bk ae :: some aq :: bk ak :: bk al :: some ap :: some ai :: bk am :: bk an :: some ad :: bk ac :: bk ab :: [])) (by rw [List.perm_iff_count]; intro a; (try simp only [List.count_append, List.count_cons, List.count_nil, Nat.add_zero, Nat.zero_add]); first | done | ac_rfl))) c3 (fun b hb => List.mem_append_left _ (c2.mem_iff.2 (List.mem_append_left _ hb))) (Ct.sep1 (L := [bk au, bk ar, some ah, bk af, bk ag, bk ae, some aq, bk ak, bk al, some ap, bk ao, bk aj, some ai, bk am, bk an, some ad, bk ac, bk ab, bk aa]) (O := O) e4 (x := bk aa) (B := [bk ak, bk al]) (C := (bk au :: bk ar :: some ah :: bk af :: bk ag :: bk ae :: some aq :: some ap :: bk ao :: bk aj :: some ai :: bk am :: bk an :: some ad :: bk ac :: bk ab :: [])) (by rw [List.perm_iff_count]; intro a; (try simp only [List.count_append, List.count_cons, List.count_nil, Nat.add_zero, Nat.zero_add]); first | done | ac_rfl))).sn g9) 18 5 rfl rfl rfl)
            have ahe := ud.gv ahd 17 rfl
            have ahf := ud.drop 17 rfl
            have ahg := ud.std 17 rfl
            refine L_call go38 [.slice ae dn dp, .slice aa f5 f6] rfl ((laws_eqStringS.calls ag9 ahf.ok r13 ae dn dp (ahc.st ahg) r8 aa f5 f6 ahe _ H).mono ?_)
            rintro _ ahh ⟨r26, rfl, H, ir⟩
            have it := n2.k0 ir
            refine L_run (dj := 100) rfl rfl (by exact congrArg Value.bool gt) ?_
            refine L_pu (P_not r26 rfl) ?_
            refine L_pu (P_pick false (vb (!r26)) (by exact congrArg Value.bool gt) rfl) ?_
            refine L_nil ?_
            refine W_cond (!r26) rfl (fun ue => ?_) (fun ue => ?_)
            ·have H := ite_t H ue
             refine W_seq ?_
             refine W_reg ?_
             refine L_pu (P_assign (vb false) rfl) ?_
             refine L_nil ?_
             refine W_ret ?_
             have ahi := it.clear
             exact ⟨[vb false], ⟨_, rfl, rfl⟩, false, rfl, H, ahi.gr.g0⟩
            ·have H := ite_f H ue
             refine W_skip ?_
             refine W_seq ?_
             refine W_reg ?_
             refine L_pu (P_assign (vi 1) rfl) ?_
             refine L_nil ?_
             refine W_seq ?_
             refine W_reg ?_
             have y1 := ((yy.k0 g9).k0 ir)
             refine L_pu (P_lda ag71 sz71 cL ⟨ah, 0, none⟩ [vs r12.Id, vi r12.Shape.Kind, .slice af dg dh, .slice ag di dk] rfl rfl (y1.cells (off := 0) rfl)) ?_
             refine L_pu (P_move (vi 1) rfl) ?_
             have ahj := (((Ow.gm (O := ([bk au, bk ar, some ah, bk af, bk ag, bk ae, some aq, bk ak, bk al, some ap, bk ao, bk aj, some ai, bk am, bk an, some ad, bk ac, bk ab, bk aa] ++ O)) (Ow.gm (O := ([bk au, bk ar, some ah, bk af, bk ag, bk ae, some aq, bk ak, bk al, some ap, bk ao, bk aj, some ai, bk am, bk an, some ad, bk ac, bk ab, bk aa] ++ O)) (Ow.gm (O := ([bk au, bk ar, some ah, bk af, bk ag, bk ae, some aq, bk ak, bk al, some ap, bk ao, bk aj, some ai, bk am, bk an, some ad, bk ac, bk ab, bk aa] ++ O)) (((ye.sn ce).sos b9 ds).sn cm) b2 (fun b hb => List.mem_append_left _ (ca.mem_iff.2 (List.mem_append_left _ hb))) (Ct.sep1 (L := [bk au, bk ar, some ah, bk af, bk ag, bk ae, some aq, bk ak, bk al, some ap, bk ao, bk aj, some ai, bk am, bk an, some ad, bk ac, bk ab, bk aa]) (O := O) c1 (x := bk af) (B := [bk am, bk an]) (C := (bk au :: bk ar :: some ah :: bk ag :: bk ae :: some aq :: bk ak :: bk al :: some ap :: bk ao :: bk aj :: some ai :: some ad :: bk ac :: bk ab :: bk aa :: [])) (by rw [List.perm_iff_count]; intro a; (try simp only [List.count_append, List.count_cons, List.count_nil, Nat.add_zero, Nat.zero_add]); first | done | ac_rfl))) cf (fun b hb => List.mem_append_left _ (cn.mem_iff.2 (List.mem_append_left _ hb))) (Ct.sep1 (L := [bk au, bk ar, some ah, bk af, bk ag, bk ae, some aq, bk ak, bk al, some ap, bk ao, bk aj, some ai, bk am, bk an, some ad, bk ac, bk ab, bk aa]) (O := O) ec (x := bk af) (B := [bk ao, bk aj]) (C := (bk au :: bk ar :: some ah :: bk ag :: bk ae :: some aq :: bk ak :: bk al :: some ap :: some ai :: bk am :: bk an :: some ad :: bk ac :: bk ab :: bk aa :: [])) (by rw [List.perm_iff_count]; intro a; (try simp only [List.count_append, List.count_cons, List.count_nil, Nat.add_zero, Nat.zero_add]); first | done | ac_rfl))) c3 (fun b hb => List.mem_append_left _ (c2.mem_iff.2 (List.mem_append_left _ hb))) (Ct.sep1 (L := [bk au, bk ar, some ah, bk af, bk ag, bk ae, some aq, bk ak, bk al, some ap, bk ao, bk aj, some ai, bk am, bk an, some ad, bk ac, bk ab, bk aa]) (O := O) e4 (x := bk af) (B := [bk ak, bk al]) (C := (bk au :: bk ar :: some ah :: bk ag :: bk ae :: some aq :: some ap :: bk ao :: bk aj :: some ai :: bk am :: bk an :: some ad :: bk ac :: bk ab :: bk aa :: [])) (by rw [List.perm_iff_count]; intro a; (try simp only [List.count_append, List.count_cons, List.count_nil, Nat.add_zero, Nat.zero_add]); first | done | ac_rfl))).sn g9).sn ir)
             have ahk := (((Ow.gm (O := ([bk au, bk ar, some ah, bk af, bk ag, bk ae, some aq, bk ak, bk al, some ap, bk ao, bk aj, some ai, bk am, bk an, some ad, bk ac, bk ab, bk aa] ++ O)) (Ow.gm (O := ([bk au, bk ar, some ah, bk af, bk ag, bk ae, some aq, bk ak, bk al, some ap, bk ao, bk aj, some ai, bk am, bk an, some ad, bk ac, bk ab, bk aa] ++ O)) (Ow.gm (O := ([bk au, bk ar, some ah, bk af, bk ag, bk ae, some aq, bk ak, bk al, some ap, bk ao, bk aj, some ai, bk am, bk an, some ad, bk ac, bk ab, bk aa] ++ O)) (((yf.sn ce).sos b9 ds).sn cm) b2 (fun b hb => List.mem_append_left _ (ca.mem_iff.2 (List.mem_append_left _ hb))) (Ct.sep1 (L := [bk au, bk ar, some ah, bk af, bk ag, bk ae, some aq, bk ak, bk al, some ap, bk ao, bk aj, some ai, bk am, bk an, some ad, bk ac, bk ab, bk aa]) (O := O) c1 (x := bk ag) (B := [bk am, bk an]) (C := (bk au :: bk ar :: some ah :: bk af :: bk ae :: some aq :: bk ak :: bk al :: some ap :: bk ao :: bk aj :: some ai :: some ad :: bk ac :: bk ab :: bk aa :: [])) (by rw [List.perm_iff_count]; intro a; (try simp only [List.count_append, List.count_cons, List.count_nil, Nat.add_zero, Nat.zero_add]); first | done | ac_rfl))) cf (fun b hb => List.mem_append_left _ (cn.mem_iff.2 (List.mem_append_left _ hb))) (Ct.sep1 (L := [bk au, bk ar, some ah, bk af, bk ag, bk ae, some aq, bk ak, bk al, some ap, bk ao, bk aj, some ai, bk am, bk an, some ad, bk ac, bk ab, bk aa]) (O := O) ec (x := bk ag) (B := [bk ao, bk aj]) (C := (bk au :: bk ar :: some ah :: bk af :: bk ae :: some aq :: bk ak :: bk al :: some ap :: some ai :: bk am :: bk an :: some ad :: bk ac :: bk ab :: bk aa :: [])) (by rw [List.perm_iff_count]; intro a; (try simp only [List.count_append, List.count_cons, List.count_nil, Nat.add_zero, Nat.zero_add]); first | done | ac_rfl))) c3 (fun b hb => List.mem_append_left _ (c2.mem_iff.2 (List.mem_append_left _ hb))) (Ct.sep1 (L := [bk au, bk ar, some ah, bk af, bk ag, bk ae, some aq, bk ak, bk al, some ap, bk ao, bk aj, some ai, bk am, bk an, some ad, bk ac, bk ab, bk aa]) (O := O) e4 (x := bk ag) (B := [bk ak, bk al]) (C := (bk au :: bk ar :: some ah :: bk af :: bk ae :: some aq :: some ap :: bk ao :: bk aj :: some ai :: bk am :: bk an :: some ad :: bk ac :: bk ab :: bk aa :: [])) (by rw [List.perm_iff_count]; intro a; (try simp only [List.count_append, List.count_cons, List.count_nil, Nat.add_zero, Nat.zero_add]); first | done | ac_rfl))).sn g9).sn ir)
             have fg : ([bk au, bk ar, some ah, bk af, bk ag, bk ae, some aq, bk ak, bk al, some ap, bk ao, bk aj, some ai, bk am, bk an, some ad, bk ac, bk ab, bk aa] : Ob).Perm ([bk af, bk ag] ++ [bk au, bk ar, some ah, bk ae, some aq, bk ak, bk al, some ap, bk ao, bk aj, some ai, bk am, bk an, some ad, bk ac, bk ab, bk aa]) := (by rw [List.perm_iff_count]; intro a; (try simp only [List.count_append, List.count_cons, List.count_nil, Nat.add_zero, Nat.zero_add]); first | done | ac_rfl)
             refine L_call go39 [.agg #[vs r12.Id, vi r12.Shape.Kind, .slice af dg dh, .slice ag di dk], vi 1] rfl ((laws_markFeat.calls ahh it.ok r12 af dg dh ag di dk ph ahj ahk (Dj.left (Dj.left (it.perm fg).dj)) (fun b hb => List.mem_append_left _ (fg.mem_iff.2 (List.mem_append_left _ hb))) 1 _ H).mono ?_)
             rintro _ ahl ⟨r27, m7, m8, rfl, H, fh, y2, y3⟩
             have ha := it.dm fh (fun b hb => fg.mem_iff.2 (List.mem_append_left _ hb))
             refine L_pu (P_assign (vi r27) rfl) ?_
             refine L_nil ?_
             refine W_seq ?_
             refine W_reg ?_
             refine L_pu (P_move (.slice ae dn dp) rfl) ?_
             refine L_pu (P_move (vi r27) rfl) ?_
             have ahm := (Ow.gm (O := ([bk au, bk ar, some ah, bk af, bk ag, bk ae, some aq, bk ak, bk al, some ap, bk ao, bk aj, some ai, bk am, bk an, some ad, bk ac, bk ab, bk aa] ++ O)) (((Ow.gm (O := ([bk au, bk ar, some ah, bk af, bk ag, bk ae, some aq, bk ak, bk al, some ap, bk ao, bk aj, some ai, bk am, bk an, some ad, bk ac, bk ab, bk aa] ++ O)) (Ow.gm (O := ([bk au, bk ar, some ah, bk af, bk ag, bk ae, some aq, bk ak, bk al, some ap, bk ao, bk aj, some ai, bk am, bk an, some ad, bk ac, bk ab, bk aa] ++ O)) (Ow.gm (O := ([bk au, bk ar, some ah, bk af, bk ag, bk ae, some aq, bk ak, bk al, some ap, bk ao, bk aj, some ai, bk am, bk an, some ad, bk ac, bk ab, bk aa] ++ O)) (((yg.sn ce).sos b9 ds).sn cm) b2 (fun b hb => List.mem_append_left _ (ca.mem_iff.2 (List.mem_append_left _ hb))) (Ct.sep1 (L := [bk au, bk ar, some ah, bk af, bk ag, bk ae, some aq, bk ak, bk al, some ap, bk ao, bk aj, some ai, bk am, bk an, some ad, bk ac, bk ab, bk aa]) (O := O) c1 (x := bk ae) (B := [bk am, bk an]) (C := (bk au :: bk ar :: some ah :: bk af :: bk ag :: some aq :: bk ak :: bk al :: some ap :: bk ao :: bk aj :: some ai :: some ad :: bk ac :: bk ab :: bk aa :: [])) (by rw [List.perm_iff_count]; intro a; (try simp only [List.count_append, List.count_cons, List.count_nil, Nat.add_zero, Nat.zero_add]); first | done | ac_rfl))) cf (fun b hb => List.mem_append_left _ (cn.mem_iff.2 (List.mem_append_left _ hb))) (Ct.sep1 (L := [bk au, bk ar, some ah, bk af, bk ag, bk ae, some aq, bk ak, bk al, some ap, bk ao, bk aj, some ai, bk am, bk an, some ad, bk ac, bk ab, bk aa]) (O := O) ec (x := bk ae) (B := [bk ao, bk aj]) (C := (bk au :: bk ar :: some ah :: bk af :: bk ag :: some aq :: bk ak :: bk al :: some ap :: some ai :: bk am :: bk an :: some ad :: bk ac :: bk ab :: bk aa :: [])) (by rw [List.perm_iff_count]; intro a; (try simp only [List.count_append, List.count_cons, List.count_nil, Nat.add_zero, Nat.zero_add]); first | done | ac_rfl))) c3 (fun b hb => List.mem_append_left _ (c2.mem_iff.2 (List.mem_append_left _ hb))) (Ct.sep1 (L := [bk au, bk ar, some ah, bk af, bk ag, bk ae, some aq, bk ak, bk al, some ap, bk ao, bk aj, some ai, bk am, bk an, some ad, bk ac, bk ab, bk aa]) (O := O) e4 (x := bk ae) (B := [bk ak, bk al]) (C := (bk au :: bk ar :: some ah :: bk af :: bk ag :: some aq :: some ap :: bk ao :: bk aj :: some ai :: bk am :: bk an :: some ad :: bk ac :: bk ab :: bk aa :: [])) (by rw [List.perm_iff_count]; intro a; (try simp only [List.count_append, List.count_cons, List.count_nil, Nat.add_zero, Nat.zero_add]); first | done | ac_rfl))).sn g9).sn ir) fh (fun b hb => List.mem_append_left _ (fg.mem_iff.2 (List.mem_append_left _ hb))) (Ct.sep1 (L := [bk au, bk ar, some ah, bk af, bk ag, bk ae, some aq, bk ak, bk al, some ap, bk ao, bk aj, some ai, bk am, bk an, some ad, bk ac, bk ab, bk aa]) (O := O) it (x := bk ae) (B := [bk af, bk ag]) (C := (bk au :: bk ar :: some ah :: some aq :: bk ak :: bk al :: some ap :: bk ao :: bk aj :: some ai :: bk am :: bk an :: some ad :: bk ac :: bk ab :: bk aa :: [])) (by rw [List.perm_iff_count]; intro a; (try simp only [List.count_append, List.count_cons, List.count_nil, Nat.add_zero, Nat.zero_add]); first | done | ac_rfl)))
             refine L_call go40 [.slice ae dn dp, vi r27] rfl ((laws_markStringS.calls ahl ha.ok ae dn dp r13 ahm r27 _ H).mono ?_)
             rintro _ ahn ⟨r28, m9, rfl, H, ib, y4⟩
             have pn := ha.wr 5 rfl ib
             refine L_pu (P_assign (vi r28) rfl) ?_
             refine L_nil ?_
             refine W_seq ?_
             refine W_reg ?_
             refine L_pu (P_assign (vi 1) rfl) ?_
             refine L_nil ?_
             refine W_seq ?_
             refine W_reg ?_
             have y5 := (ha.bm (Bx.gm y1 fh (Ct.sep1 (L := [bk au, bk ar, some ah, bk af, bk ag, bk ae, some aq, bk ak, bk al, some ap, bk ao, bk aj, some ai, bk am, bk an, some ad, bk ac, bk ab, bk aa]) (O := O) it (B := [bk af, bk ag]) (C := (bk au :: bk ar :: bk ae :: some aq :: bk ak :: bk al :: some ap :: bk ao :: bk aj :: some ai :: bk am :: bk an :: some ad :: bk ac :: bk ab :: bk aa :: [])) (by rw [List.perm_iff_count]; intro a; (try simp only [List.count_append, List.count_cons, List.count_nil, Nat.add_zero, Nat.zero_add]); first | done | ac_rfl) _ rfl)) 2 5 rfl rfl rfl ib)
             refine L_pu (P_lda ag71 sz71 cL ⟨ah, 0, none⟩ [vs r12.Id, vi r12.Shape.Kind, .slice af dg dh, .slice ag di dk] rfl rfl (y5.cells (off := 0) rfl)) ?_
             refine L_pu (P_move (vi 1) rfl) ?_
             have aho := (ha.sw y2 3 5 rfl rfl rfl ib)
             have ahp := pn.gv aho 3 rfl
             have uf := pn.drop 3 rfl
             have ahq := (pn.sd (ha.sw y3 4 5 rfl rfl rfl ib) 4 3 rfl rfl rfl)
             have ahr := uf.gv ahq 3 rfl
             have ahs := uf.drop 3 rfl
             have aht := uf.std 3 rfl
             refine L_call go41 [.agg #[vs r12.Id, vi r12.Shape.Kind, .slice af dg dh, .slice ag di dk], vi 1] rfl ((laws_heldFeat.calls ahn ahs.ok (⟨r12.Id, (⟨r12.Shape.Kind, m7⟩ : Shape), m8⟩ : Feat) af dg dh ag di dk ph (ahp.st aht) ahr 1 _ H).mono ?_)
             rintro _ ahu ⟨r29, rfl, H, ic⟩
             have po := pn.k0 ic
             refine L_pu (P_assign (vi r29) rfl) ?_
             refine L_nil ?_
             refine W_seq ?_
             refine W_seq ?_
             refine W_reg ?_
             refine L_pu (P_move (vi r29) rfl) ?_
             refine L_pu (P_cmp r29 0 (decide (r29 < 0)) rfl rfl rfl) ?_
             refine L_nil ?_
             refine W_cond (decide (r29 < 0)) rfl (fun ug => ?_) (fun ug => ?_)
             ·have H := ite_t H ug
              refine W_seq ?_
              refine W_reg ?_
              refine L_pu (P_assign (vb false) rfl) ?_
              refine L_nil ?_
              refine W_ret ?_
              have ahv := po.clear
              exact ⟨[vb false], ⟨_, rfl, rfl⟩, false, rfl, H, ahv.gr.g0⟩
             ·have H := ite_f H ug
              refine W_skip ?_
              refine W_seq ?_
              refine W_reg ?_
              refine L_pu (P_move (.slice ae dn dp) rfl) ?_
              refine L_pu (P_move (vi r29) rfl) ?_
              have ahw := (y4.sn ic)
              have ahx := po.gv ahw 5 rfl
              have ahy := po.drop 5 rfl
              refine L_call go42 [.slice ae dn dp, vi r29] rfl ((laws_heldStringS.calls ahu ahy.ok m9 ae dn dp ahx r29 _ H).mono ?_)
              rintro _ amt ⟨r30, rfl, H, iu⟩
              have uh := po.k0 iu
              refine L_pu (P_assign (vi r30) rfl) ?_
              refine L_nil ?_
              refine W_seq ?_
              refine W_seq ?_
              refine W_reg ?_
              refine L_pu (P_move (vi r30) rfl) ?_
              refine L_pu (P_cmp r30 0 (decide (r30 < 0)) rfl rfl rfl) ?_
              refine L_nil ?_
              refine W_cond (decide (r30 < 0)) rfl (fun ui => ?_) (fun ui => ?_)
              ·have H := ite_t H ui
               refine W_seq ?_
               refine W_reg ?_
               refine L_pu (P_assign (vb false) rfl) ?_
               refine L_nil ?_
               refine W_ret ?_
               have ahz := uh.clear
               exact ⟨[vb false], ⟨_, rfl, rfl⟩, false, rfl, H, ahz.gr.g0⟩
              ·have H := ite_f H ui
               refine W_skip ?_
               refine W_seq ?_
               refine W_seq ?_
               refine W_reg ?_
               refine L_pu (P_move (vi r30) rfl) ?_
               refine L_pu (P_move (vi r28) rfl) ?_
               refine L_pu (P_cmp r30 r28 (r30 != r28) rfl rfl rfl) ?_
               refine L_nil ?_
               refine W_cond (r30 != r28) rfl (fun uj => ?_) (fun uj => ?_)
               ·have H := ite_t H uj
                refine W_seq ?_
                refine W_reg ?_
                refine L_pu (P_assign (vb false) rfl) ?_
                refine L_nil ?_
                refine W_ret ?_
                have ah0 := uh.clear
                exact ⟨[vb false], ⟨_, rfl, rfl⟩, false, rfl, H, ah0.gr.g0⟩
               ·have H := ite_f H uj
                refine W_skip ?_
                refine W_seq ?_
                have fi : ([bk au, bk ar, some ah, bk af, bk ag, bk ae, some aq, bk ak, bk al, some ap, bk ao, bk aj, some ai, bk am, bk an, some ad, bk ac, bk ab, bk aa] : Ob).Perm ((bk au :: bk ar :: some aq :: bk ak :: bk al :: some ap :: bk ao :: bk aj :: some ai :: bk am :: bk an :: []) ++ [some ah, bk af, bk ag, bk ae, some ad, bk ac, bk ab, bk aa]) := (by rw [List.perm_iff_count]; intro a; (try simp only [List.count_append, List.count_cons, List.count_nil, Nat.add_zero, Nat.zero_add]); first | done | ac_rfl)
                have y6 := uh.drops fi
                have pp := ((y5.k0 ic).k0 iu)
                have pq := (Ow.drops (L := [bk au, bk ar, some ah, bk af, bk ag, bk ae, some aq, bk ak, bk al, some ap, bk ao, bk aj, some ai, bk am, bk an, some ad, bk ac, bk ab, bk aa]) (O := O) (((ha.sw y2 3 5 rfl rfl rfl ib).sn ic).sn iu) fi (memi 1 rfl))
                have pr := (Ow.drops (L := [bk au, bk ar, some ah, bk af, bk ag, bk ae, some aq, bk ak, bk al, some ap, bk ao, bk aj, some ai, bk am, bk an, some ad, bk ac, bk ab, bk aa]) (O := O) (((ha.sw y3 4 5 rfl rfl rfl ib).sn ic).sn iu) fi (memi 2 rfl))
                have ps := (Ow.drops (L := [bk au, bk ar, some ah, bk af, bk ag, bk ae, some aq, bk ak, bk al, some ap, bk ao, bk aj, some ai, bk am, bk an, some ad, bk ac, bk ab, bk aa]) (O := O) ((y4.sn ic).sn iu) fi (memi 3 rfl))
                have pt := (((ha.bm (Bx.gm ((yz.k0 g9).k0 ir) fh (Ct.sep1 (L := [bk au, bk ar, some ah, bk af, bk ag, bk ae, some aq, bk ak, bk al, some ap, bk ao, bk aj, some ai, bk am, bk an, some ad, bk ac, bk ab, bk aa]) (O := O) it (B := [bk af, bk ag]) (C := (bk au :: bk ar :: some ah :: bk ae :: some aq :: bk ak :: bk al :: some ap :: bk ao :: bk aj :: some ai :: bk am :: bk an :: bk ac :: bk ab :: bk aa :: [])) (by rw [List.perm_iff_count]; intro a; (try simp only [List.count_append, List.count_cons, List.count_nil, Nat.add_zero, Nat.zero_add]); first | done | ac_rfl) _ rfl)) 15 5 rfl rfl rfl ib).k0 ic).k0 iu)
                have pu := (Ow.drops (L := [bk au, bk ar, some ah, bk af, bk ag, bk ae, some aq, bk ak, bk al, some ap, bk ao, bk aj, some ai, bk am, bk an, some ad, bk ac, bk ab, bk aa]) (O := O) (((ha.sw (Ow.gm (O := ([bk au, bk ar, some ah, bk af, bk ag, bk ae, some aq, bk ak, bk al, some ap, bk ao, bk aj, some ai, bk am, bk an, some ad, bk ac, bk ab, bk aa] ++ O)) (((Ow.gm (O := ([bk au, bk ar, some ah, bk af, bk ag, bk ae, some aq, bk ak, bk al, some ap, bk ao, bk aj, some ai, bk am, bk an, some ad, bk ac, bk ab, bk aa] ++ O)) (Ow.gm (O := ([bk au, bk ar, some ah, bk af, bk ag, bk ae, some aq, bk ak, bk al, some ap, bk ao, bk aj, some ai, bk am, bk an, some ad, bk ac, bk ab, bk aa] ++ O)) (Ow.gm (O := ([bk au, bk ar, some ah, bk af, bk ag, bk ae, some aq, bk ak, bk al, some ap, bk ao, bk aj, some ai, bk am, bk an, some ad, bk ac, bk ab, bk aa] ++ O)) (((yj.sn ce).sos b9 ds).sn cm) b2 (fun b hb => List.mem_append_left _ (ca.mem_iff.2 (List.mem_append_left _ hb))) (Ct.sep1 (L := [bk au, bk ar, some ah, bk af, bk ag, bk ae, some aq, bk ak, bk al, some ap, bk ao, bk aj, some ai, bk am, bk an, some ad, bk ac, bk ab, bk aa]) (O := O) c1 (x := bk ac) (B := [bk am, bk an]) (C := (bk au :: bk ar :: some ah :: bk af :: bk ag :: bk ae :: some aq :: bk ak :: bk al :: some ap :: bk ao :: bk aj :: some ai :: some ad :: bk ab :: bk aa :: [])) (by rw [List.perm_iff_count]; intro a; (try simp only [List.count_append, List.count_cons, List.count_nil, Nat.add_zero, Nat.zero_add]); first | done | ac_rfl))) cf (fun b hb => List.mem_append_left _ (cn.mem_iff.2 (List.mem_append_left _ hb))) (Ct.sep1 (L := [bk au, bk ar, some ah, bk af, bk ag, bk ae, some aq, bk ak, bk al, some ap, bk ao, bk aj, some ai, bk am, bk an, some ad, bk ac, bk ab, bk aa]) (O := O) ec (x := bk ac) (B := [bk ao, bk aj]) (C := (bk au :: bk ar :: some ah :: bk af :: bk ag :: bk ae :: some aq :: bk ak :: bk al :: some ap :: some ai :: bk am :: bk an :: some ad :: bk ab :: bk aa :: [])) (by rw [List.perm_iff_count]; intro a; (try simp only [List.count_append, List.count_cons, List.count_nil, Nat.add_zero, Nat.zero_add]); first | done | ac_rfl))) c3 (fun b hb => List.mem_append_left _ (c2.mem_iff.2 (List.mem_append_left _ hb))) (Ct.sep1 (L := [bk au, bk ar, some ah, bk af, bk ag, bk ae, some aq, bk ak, bk al, some ap, bk ao, bk aj, some ai, bk am, bk an, some ad, bk ac, bk ab, bk aa]) (O := O) e4 (x := bk ac) (B := [bk ak, bk al]) (C := (bk au :: bk ar :: some ah :: bk af :: bk ag :: bk ae :: some aq :: some ap :: bk ao :: bk aj :: some ai :: bk am :: bk an :: some ad :: bk ab :: bk aa :: [])) (by rw [List.perm_iff_count]; intro a; (try simp only [List.count_append, List.count_cons, List.count_nil, Nat.add_zero, Nat.zero_add]); first | done | ac_rfl))).sn g9).sn ir) fh (fun b hb => List.mem_append_left _ (fg.mem_iff.2 (List.mem_append_left _ hb))) (Ct.sep1 (L := [bk au, bk ar, some ah, bk af, bk ag, bk ae, some aq, bk ak, bk al, some ap, bk ao, bk aj, some ai, bk am, bk an, some ad, bk ac, bk ab, bk aa]) (O := O) it (x := bk ac) (B := [bk af, bk ag]) (C := (bk au :: bk ar :: some ah :: bk ae :: some aq :: bk ak :: bk al :: some ap :: bk ao :: bk aj :: some ai :: bk am :: bk an :: some ad :: bk ab :: bk aa :: [])) (by rw [List.perm_iff_count]; intro a; (try simp only [List.count_append, List.count_cons, List.count_nil, Nat.add_zero, Nat.zero_add]); first | done | ac_rfl))) 16 5 rfl rfl rfl ib).sn ic).sn iu) fi (memi 5 rfl))
                have pv := (Ow.drops (L := [bk au, bk ar, some ah, bk af, bk ag, bk ae, some aq, bk ak, bk al, some ap, bk ao, bk aj, some ai, bk am, bk an, some ad, bk ac, bk ab, bk aa]) (O := O) (((ha.sw (Ow.gm (O := ([bk au, bk ar, some ah, bk af, bk ag, bk ae, some aq, bk ak, bk al, some ap, bk ao, bk aj, some ai, bk am, bk an, some ad, bk ac, bk ab, bk aa] ++ O)) (((Ow.gm (O := ([bk au, bk ar, some ah, bk af, bk ag, bk ae, some aq, bk ak, bk al, some ap, bk ao, bk aj, some ai, bk am, bk an, some ad, bk ac, bk ab, bk aa] ++ O)) (Ow.gm (O := ([bk au, bk ar, some ah, bk af, bk ag, bk ae, some aq, bk ak, bk al, some ap, bk ao, bk aj, some ai, bk am, bk an, some ad, bk ac, bk ab, bk aa] ++ O)) (Ow.gm (O := ([bk au, bk ar, some ah, bk af, bk ag, bk ae, some aq, bk ak, bk al, some ap, bk ao, bk aj, some ai, bk am, bk an, some ad, bk ac, bk ab, bk aa] ++ O)) (((yk.sn ce).sos b9 ds).sn cm) b2 (fun b hb => List.mem_append_left _ (ca.mem_iff.2 (List.mem_append_left _ hb))) (Ct.sep1 (L := [bk au, bk ar, some ah, bk af, bk ag, bk ae, some aq, bk ak, bk al, some ap, bk ao, bk aj, some ai, bk am, bk an, some ad, bk ac, bk ab, bk aa]) (O := O) c1 (x := bk ab) (B := [bk am, bk an]) (C := (bk au :: bk ar :: some ah :: bk af :: bk ag :: bk ae :: some aq :: bk ak :: bk al :: some ap :: bk ao :: bk aj :: some ai :: some ad :: bk ac :: bk aa :: [])) (by rw [List.perm_iff_count]; intro a; (try simp only [List.count_append, List.count_cons, List.count_nil, Nat.add_zero, Nat.zero_add]); first | done | ac_rfl))) cf (fun b hb => List.mem_append_left _ (cn.mem_iff.2 (List.mem_append_left _ hb))) (Ct.sep1 (L := [bk au, bk ar, some ah, bk af, bk ag, bk ae, some aq, bk ak, bk al, some ap, bk ao, bk aj, some ai, bk am, bk an, some ad, bk ac, bk ab, bk aa]) (O := O) ec (x := bk ab) (B := [bk ao, bk aj]) (C := (bk au :: bk ar :: some ah :: bk af :: bk ag :: bk ae :: some aq :: bk ak :: bk al :: some ap :: some ai :: bk am :: bk an :: some ad :: bk ac :: bk aa :: [])) (by rw [List.perm_iff_count]; intro a; (try simp only [List.count_append, List.count_cons, List.count_nil, Nat.add_zero, Nat.zero_add]); first | done | ac_rfl))) c3 (fun b hb => List.mem_append_left _ (c2.mem_iff.2 (List.mem_append_left _ hb))) (Ct.sep1 (L := [bk au, bk ar, some ah, bk af, bk ag, bk ae, some aq, bk ak, bk al, some ap, bk ao, bk aj, some ai, bk am, bk an, some ad, bk ac, bk ab, bk aa]) (O := O) e4 (x := bk ab) (B := [bk ak, bk al]) (C := (bk au :: bk ar :: some ah :: bk af :: bk ag :: bk ae :: some aq :: some ap :: bk ao :: bk aj :: some ai :: bk am :: bk an :: some ad :: bk ac :: bk aa :: [])) (by rw [List.perm_iff_count]; intro a; (try simp only [List.count_append, List.count_cons, List.count_nil, Nat.add_zero, Nat.zero_add]); first | done | ac_rfl))).sn g9).sn ir) fh (fun b hb => List.mem_append_left _ (fg.mem_iff.2 (List.mem_append_left _ hb))) (Ct.sep1 (L := [bk au, bk ar, some ah, bk af, bk ag, bk ae, some aq, bk ak, bk al, some ap, bk ao, bk aj, some ai, bk am, bk an, some ad, bk ac, bk ab, bk aa]) (O := O) it (x := bk ab) (B := [bk af, bk ag]) (C := (bk au :: bk ar :: some ah :: bk ae :: some aq :: bk ak :: bk al :: some ap :: bk ao :: bk aj :: some ai :: bk am :: bk an :: some ad :: bk ac :: bk aa :: [])) (by rw [List.perm_iff_count]; intro a; (try simp only [List.count_append, List.count_cons, List.count_nil, Nat.add_zero, Nat.zero_add]); first | done | ac_rfl))) 17 5 rfl rfl rfl ib).sn ic).sn iu) fi (memi 6 rfl))
                have pw := (Ow.drops (L := [bk au, bk ar, some ah, bk af, bk ag, bk ae, some aq, bk ak, bk al, some ap, bk ao, bk aj, some ai, bk am, bk an, some ad, bk ac, bk ab, bk aa]) (O := O) (((ha.sw (Ow.gm (O := ([bk au, bk ar, some ah, bk af, bk ag, bk ae, some aq, bk ak, bk al, some ap, bk ao, bk aj, some ai, bk am, bk an, some ad, bk ac, bk ab, bk aa] ++ O)) (((Ow.gm (O := ([bk au, bk ar, some ah, bk af, bk ag, bk ae, some aq, bk ak, bk al, some ap, bk ao, bk aj, some ai, bk am, bk an, some ad, bk ac, bk ab, bk aa] ++ O)) (Ow.gm (O := ([bk au, bk ar, some ah, bk af, bk ag, bk ae, some aq, bk ak, bk al, some ap, bk ao, bk aj, some ai, bk am, bk an, some ad, bk ac, bk ab, bk aa] ++ O)) (Ow.gm (O := ([bk au, bk ar, some ah, bk af, bk ag, bk ae, some aq, bk ak, bk al, some ap, bk ao, bk aj, some ai, bk am, bk an, some ad, bk ac, bk ab, bk aa] ++ O)) (((yl.sn ce).sos b9 ds).sn cm) b2 (fun b hb => List.mem_append_left _ (ca.mem_iff.2 (List.mem_append_left _ hb))) (Ct.sep1 (L := [bk au, bk ar, some ah, bk af, bk ag, bk ae, some aq, bk ak, bk al, some ap, bk ao, bk aj, some ai, bk am, bk an, some ad, bk ac, bk ab, bk aa]) (O := O) c1 (x := bk aa) (B := [bk am, bk an]) (C := (bk au :: bk ar :: some ah :: bk af :: bk ag :: bk ae :: some aq :: bk ak :: bk al :: some ap :: bk ao :: bk aj :: some ai :: some ad :: bk ac :: bk ab :: [])) (by rw [List.perm_iff_count]; intro a; (try simp only [List.count_append, List.count_cons, List.count_nil, Nat.add_zero, Nat.zero_add]); first | done | ac_rfl))) cf (fun b hb => List.mem_append_left _ (cn.mem_iff.2 (List.mem_append_left _ hb))) (Ct.sep1 (L := [bk au, bk ar, some ah, bk af, bk ag, bk ae, some aq, bk ak, bk al, some ap, bk ao, bk aj, some ai, bk am, bk an, some ad, bk ac, bk ab, bk aa]) (O := O) ec (x := bk aa) (B := [bk ao, bk aj]) (C := (bk au :: bk ar :: some ah :: bk af :: bk ag :: bk ae :: some aq :: bk ak :: bk al :: some ap :: some ai :: bk am :: bk an :: some ad :: bk ac :: bk ab :: [])) (by rw [List.perm_iff_count]; intro a; (try simp only [List.count_append, List.count_cons, List.count_nil, Nat.add_zero, Nat.zero_add]); first | done | ac_rfl))) c3 (fun b hb => List.mem_append_left _ (c2.mem_iff.2 (List.mem_append_left _ hb))) (Ct.sep1 (L := [bk au, bk ar, some ah, bk af, bk ag, bk ae, some aq, bk ak, bk al, some ap, bk ao, bk aj, some ai, bk am, bk an, some ad, bk ac, bk ab, bk aa]) (O := O) e4 (x := bk aa) (B := [bk ak, bk al]) (C := (bk au :: bk ar :: some ah :: bk af :: bk ag :: bk ae :: some aq :: some ap :: bk ao :: bk aj :: some ai :: bk am :: bk an :: some ad :: bk ac :: bk ab :: [])) (by rw [List.perm_iff_count]; intro a; (try simp only [List.count_append, List.count_cons, List.count_nil, Nat.add_zero, Nat.zero_add]); first | done | ac_rfl))).sn g9).sn ir) fh (fun b hb => List.mem_append_left _ (fg.mem_iff.2 (List.mem_append_left _ hb))) (Ct.sep1 (L := [bk au, bk ar, some ah, bk af, bk ag, bk ae, some aq, bk ak, bk al, some ap, bk ao, bk aj, some ai, bk am, bk an, some ad, bk ac, bk ab, bk aa]) (O := O) it (x := bk aa) (B := [bk af, bk ag]) (C := (bk au :: bk ar :: some ah :: bk ae :: some aq :: bk ak :: bk al :: some ap :: bk ao :: bk aj :: some ai :: bk am :: bk an :: some ad :: bk ac :: bk ab :: [])) (by rw [List.perm_iff_count]; intro a; (try simp only [List.count_append, List.count_cons, List.count_nil, Nat.add_zero, Nat.zero_add]); first | done | ac_rfl))) 18 5 rfl rfl rfl ib).sn ic).sn iu) fi (memi 7 rfl))
                have j4 := t6.stos b9 ds
                have j5 := mg.stn cm
                have j6 := ky.stn g9
                have j7 := n2.stn ir
                have j8 := ha.stw 5 rfl ib
                have j9 := pn.stn ic
                have ka := po.stn iu
                have y7 := (((((((((((((afx.st ia).st j4).st j5).st (St.gm b2 (fun b hb => List.mem_append_left _ (ca.mem_iff.2 (List.mem_append_left _ hb))))).st (St.gm cf (fun b hb => List.mem_append_left _ (cn.mem_iff.2 (List.mem_append_left _ hb))))).st (St.gm c3 (fun b hb => List.mem_append_left _ (c2.mem_iff.2 (List.mem_append_left _ hb))))).st j6).st j7).st (St.gm fh (fun b hb => List.mem_append_left _ (fg.mem_iff.2 (List.mem_append_left _ hb))))).st j8).st j9).st ka).st (St.drops _ O fi))
                have y8 := (((((((((((((afy.st ia).st j4).st j5).st (St.gm b2 (fun b hb => List.mem_append_left _ (ca.mem_iff.2 (List.mem_append_left _ hb))))).st (St.gm cf (fun b hb => List.mem_append_left _ (cn.mem_iff.2 (List.mem_append_left _ hb))))).st (St.gm c3 (fun b hb => List.mem_append_left _ (c2.mem_iff.2 (List.mem_append_left _ hb))))).st j6).st j7).st (St.gm fh (fun b hb => List.mem_append_left _ (fg.mem_iff.2 (List.mem_append_left _ hb))))).st j8).st j9).st ka).st (St.drops _ O fi))
                have uk := (((((((((((((afz.st ia).st j4).st j5).st (St.gm b2 (fun b hb => List.mem_append_left _ (ca.mem_iff.2 (List.mem_append_left _ hb))))).st (St.gm cf (fun b hb => List.mem_append_left _ (cn.mem_iff.2 (List.mem_append_left _ hb))))).st (St.gm c3 (fun b hb => List.mem_append_left _ (c2.mem_iff.2 (List.mem_append_left _ hb))))).st j6).st j7).st (St.gm fh (fun b hb => List.mem_append_left _ (fg.mem_iff.2 (List.mem_append_left _ hb))))).st j8).st j9).st ka).st (St.drops _ O fi))
                have ul := (((((((((((((af0.st ia).st j4).st j5).st (St.gm b2 (fun b hb => List.mem_append_left _ (ca.mem_iff.2 (List.mem_append_left _ hb))))).st (St.gm cf (fun b hb => List.mem_append_left _ (cn.mem_iff.2 (List.mem_append_left _ hb))))).st (St.gm c3 (fun b hb => List.mem_append_left _ (c2.mem_iff.2 (List.mem_append_left _ hb))))).st j6).st j7).st (St.gm fh (fun b hb => List.mem_append_left _ (fg.mem_iff.2 (List.mem_append_left _ hb))))).st j8).st j9).st ka).st (St.drops _ O fi))
                have re := (((((((((((((ym.st ia).st j4).st j5).st (St.gm b2 (fun b hb => List.mem_append_left _ (ca.mem_iff.2 (List.mem_append_left _ hb))))).st (St.gm cf (fun b hb => List.mem_append_left _ (cn.mem_iff.2 (List.mem_append_left _ hb))))).st (St.gm c3 (fun b hb => List.mem_append_left _ (c2.mem_iff.2 (List.mem_append_left _ hb))))).st j6).st j7).st (St.gm fh (fun b hb => List.mem_append_left _ (fg.mem_iff.2 (List.mem_append_left _ hb))))).st j8).st j9).st ka).st (St.drops _ O fi))
                have rf := (((((((((((((yn.st ia).st j4).st j5).st (St.gm b2 (fun b hb => List.mem_append_left _ (ca.mem_iff.2 (List.mem_append_left _ hb))))).st (St.gm cf (fun b hb => List.mem_append_left _ (cn.mem_iff.2 (List.mem_append_left _ hb))))).st (St.gm c3 (fun b hb => List.mem_append_left _ (c2.mem_iff.2 (List.mem_append_left _ hb))))).st j6).st j7).st (St.gm fh (fun b hb => List.mem_append_left _ (fg.mem_iff.2 (List.mem_append_left _ hb))))).st j8).st j9).st ka).st (St.drops _ O fi))
                refine W_join (J := (fun t fj => ∃ (r34 : Feat) (r35 : List Str) (e5 : Option Addr) (n4 : Nat) (n5 : Nat) (fk : Option Addr) (n6 : Nat) (n7 : Nat) (fl : Option Addr) (n9 : Nat) (oa : Nat) (fy : Nat), Has t [(8, .pointer (some ⟨ad, 0, none⟩)), (9, .slice aa f5 f6), (13, .pointer (some ⟨ah, 0, none⟩)), (14, .slice ae dn dp), (16, vi r28), (18, .pointer (some ⟨fy, 0, none⟩)), (19, .slice e5 n4 n5)] ∧ Ct [] w0 fj [some fy, bk fk, bk fl, bk e5, some ah, bk af, bk ag, bk ae, some ad, bk ac, bk ab, bk aa] O ∧ Ow Kd.str 9 fj ([some fy, bk fk, bk fl, bk e5, some ah, bk af, bk ag, bk ae, some ad, bk ac, bk ab, bk aa] ++ O) (.slice aa f5 f6) r8 ∧ Ow Kd.str 9 fj ([some fy, bk fk, bk fl, bk e5, some ah, bk af, bk ag, bk ae, some ad, bk ac, bk ab, bk aa] ++ O) (.slice ae dn dp) m9 ∧ Ow Kd.str 9 fj ([some fy, bk fk, bk fl, bk e5, some ah, bk af, bk ag, bk ae, some ad, bk ac, bk ab, bk aa] ++ O) (.slice e5 n4 n5) r35 ∧ Ow kPt 29 fj ([some fy, bk fk, bk fl, bk e5, some ah, bk af, bk ag, bk ae, some ad, bk ac, bk ab, bk aa] ++ O) (.slice fk n6 n7) r34.Shape.Pts ∧ Ow kTag 133 fj ([some fy, bk fk, bk fl, bk e5, some ah, bk af, bk ag, bk ae, some ad, bk ac, bk ab, bk aa] ++ O) (.slice fl n9 oa) r34.Tags ∧ Ow kPt 29 fj ([some fy, bk fk, bk fl, bk e5, some ah, bk af, bk ag, bk ae, some ad, bk ac, bk ab, bk aa] ++ O) (.slice ac f7 f8) r7.Shape.Pts ∧ Ow kTag 133 fj ([some fy, bk fk, bk fl, bk e5, some ah, bk af, bk ag, bk ae, some ad, bk ac, bk ab, bk aa] ++ O) (.slice ab f9 ga) r7.Tags ∧ Ow kPt 29 fj ([some fy, bk fk, bk fl, bk e5, some ah, bk af, bk ag, bk ae, some ad, bk ac, bk ab, bk aa] ++ O) (.slice af dg dh) m7 ∧ Ow kTag 133 fj ([some fy, bk fk, bk fl, bk e5, some ah, bk af, bk ag, bk ae, some ad, bk ac, bk ab, bk aa] ++ O) (.slice ag di dk) m8 ∧ Bx fj ad [vs r7.Id, vi r7.Shape.Kind, .slice ac f7 f8, .slice ab f9 ga] ∧ Bx fj ah [vs r12.Id, vi r12.Shape.Kind, .slice af dg dh, .slice ag di dk] ∧ Bx fj fy [vs r34.Id, vi r34.Shape.Kind, .slice fk n6 n7, .slice fl n9 oa] ∧ Lim r34.Id ∧ laws_eqFeat.E r34 r7 (fun r36 => (if !r36 then Q false else laws_eqStringS.E r35 r8 (fun r37 => (if !r37 then Q false else laws_heldFeat.E (⟨r12.Id, (⟨r12.Shape.Kind, m7⟩ : Shape), m8⟩ : Feat) 1 (fun r38 => (if decide (r38 < 0) then Q false else laws_heldStringS.E m9 r38 (fun r39 => (if decide (r39 < 0) then Q false else (if r39 != r28 then Q false else Q true))))))))))) ?_ ?_
                ·refine W_mixr 13 [] (by kernel_rfl) rfl fun ah1 a6 ob => ?_
                 have oc := y6.k0 a6
                 have dy := y6.stn a6
                 have ah2 := (((((((((((((((((((((((xp.st jw).st jx).st jy).st jz).st h9).st j0).st j1).st j2).st j3).st ia).st j4).st j5).st (St.gm b2 (fun b hb => List.mem_append_left _ (ca.mem_iff.2 (List.mem_append_left _ hb))))).st (St.gm cf (fun b hb => List.mem_append_left _ (cn.mem_iff.2 (List.mem_append_left _ hb))))).st (St.gm c3 (fun b hb => List.mem_append_left _ (c2.mem_iff.2 (List.mem_append_left _ hb))))).st j6).st j7).st (St.gm fh (fun b hb => List.mem_append_left _ (fg.mem_iff.2 (List.mem_append_left _ hb))))).st j8).st j9).st ka).st (St.drops _ O fi)).st dy)
                 refine M_pu 0 rfl (by kernel_rfl) ob (P_ldar ag65 sz65 cR ⟨k7, 0, none⟩ [vs aBase.Id, vi aBase.Shape.Kind, .slice A2 n3 c4, .slice A7 n8 c9] rfl rfl (ah2.cells (off := 0) rfl) nm_nil) ?_
                 have ah3 := ((((((((((((((((((x5.st j0).st j1).st j2).st j3).st ia).st j4).st j5).st (St.gm b2 (fun b hb => List.mem_append_left _ (ca.mem_iff.2 (List.mem_append_left _ hb))))).st (St.gm cf (fun b hb => List.mem_append_left _ (cn.mem_iff.2 (List.mem_append_left _ hb))))).st (St.gm c3 (fun b hb => List.mem_append_left _ (c2.mem_iff.2 (List.mem_append_left _ hb))))).st j6).st j7).st (St.gm fh (fun b hb => List.mem_append_left _ (fg.mem_iff.2 (List.mem_append_left _ hb))))).st j8).st j9).st ka).st (St.drops _ O fi)).st dy)
                 refine M_pu 2 rfl (by kernel_rfl) ob (P_ldar ag65 sz65 cR ⟨k8, 0, none⟩ [vs aA.Id, vi aA.Shape.Kind, .slice b3 b4 b5, .slice b6 b7 b8] rfl rfl (ah3.cells (off := 0) rfl) nm_nil) ?_
                 have ah4 := (((((((((((((yp.st j4).st j5).st (St.gm b2 (fun b hb => List.mem_append_left _ (ca.mem_iff.2 (List.mem_append_left _ hb))))).st (St.gm cf (fun b hb => List.mem_append_left _ (cn.mem_iff.2 (List.mem_append_left _ hb))))).st (St.gm c3 (fun b hb => List.mem_append_left _ (c2.mem_iff.2 (List.mem_append_left _ hb))))).st j6).st j7).st (St.gm fh (fun b hb => List.mem_append_left _ (fg.mem_iff.2 (List.mem_append_left _ hb))))).st j8).st j9).st ka).st (St.drops _ O fi)).st dy)
                 refine M_pu 4 rfl (by kernel_rfl) ob (P_ldar ag65 sz65 cR ⟨k9, 0, none⟩ [vs aB.Id, vi aB.Shape.Kind, .slice bl bn bo, .slice bp bq br] rfl rfl (ah4.cells (off := 0) rfl) nm_nil) ?_
                 refine M_any2 1 10 (by kernel_rfl) rfl rfl ?_ ?_
                 ·refine L_call go35 [.agg #[vs aBase.Id, vi aBase.Shape.Kind, .slice A2 n3 c4, .slice A7 n8 c9]] rfl ((laws_toFeat.calls ah1 oc.ok aBase A2 n3 c4 A7 n8 c9 hs1 (y7.st dy) (y8.st dy) _ H).mono ?_)
                  rintro _ um ⟨r31, av, kz, k1, aw, k2, k3, rfl, H, be, ah5, cg, rg, rh, od⟩
                  have oe := oc.owns be ah5 cg
                  have ri := Gm.tm ob be
                  refine L_nil ⟨ri, ?_⟩
                  refine M_any2 3 10 (by kernel_rfl) rfl rfl ?_ ?_
                  ·have og := oc.stos be cg
                   have ah6 := ((uk.st dy).st og)
                   have ah7 := ((ul.st dy).st og)
                   refine L_call go35 [.agg #[vs aA.Id, vi aA.Shape.Kind, .slice b3 b4 b5, .slice b6 b7 b8]] rfl ((laws_toFeat.calls um oe.ok aA b3 b4 b5 b6 b7 b8 i2 ah6 ah7 _ H).mono ?_)
                   rintro _ ah8 ⟨r32, a2, oh, oi, a1, oj, ol, rfl, H, bi, ah9, ch, un, uo, px⟩
                   have rj := oe.owns bi ah9 ch
                   have rk := Gm.tm ri bi
                   refine L_nil ⟨rk, ?_⟩
                   refine M_any2 5 10 (by kernel_rfl) rfl rfl ?_ ?_
                   ·have y9 := oe.stos bi ch
                    have aia := (((re.st dy).st og).st y9)
                    have aib := (((rf.st dy).st og).st y9)
                    refine L_call go35 [.agg #[vs aB.Id, vi aB.Shape.Kind, .slice bl bn bo, .slice bp bq br]] rfl ((laws_toFeat.calls ah8 rj.ok aB bl bn bo bp bq br hl aia aib _ H).mono ?_)
                    rintro _ up ⟨r33, bf, rl, rm, bg, rn, ro, rfl, H, co, aic, dz, za, zb, rp⟩
                    have iv := rj.owns co aic dz
                    have rq := Gm.tm rk co
                    refine L_nil ⟨rq, ?_⟩
                    refine M_any2 6 10 (by kernel_rfl) rfl rfl ?_ ?_
                    ·have uq := ((rh.sos bi ch).sos co dz)
                     have aid := iv.gv uq 4 rfl
                     have mh := iv.drop 4 rfl
                     have ur := (iv.sd ((od.sos bi ch).sos co dz) 5 4 rfl rfl rfl)
                     have aie := mh.gv ur 4 rfl
                     have fm := mh.drop 4 rfl
                     have mi := (mh.sd (iv.sd (uo.sos co dz) 2 4 rfl rfl rfl) 2 4 rfl rfl rfl)
                     have py := fm.gv mi 2 rfl
                     have d0 : Ct [] w0 up [bk bf, bk bg, bk a1, some ah, bk af, bk ag, bk ae, some ad, bk ac, bk ab, bk aa] O := fm.drop 2 rfl
                     have mj := (fm.sd (mh.sd (iv.sd (px.sos co dz) 3 4 rfl rfl rfl) 3 4 rfl rfl rfl) 3 2 rfl rfl rfl)
                     have pz := d0.gv mj 2 rfl
                     have ev := d0.drop 2 rfl
                     have ml := (d0.sd (fm.sd (mh.sd (iv.sd zb 0 4 rfl rfl rfl) 0 4 rfl rfl rfl) 0 2 rfl rfl rfl) 0 2 rfl rfl rfl)
                     have p0 := ev.gv ml 0 rfl
                     have fz := ev.drop 0 rfl
                     have mm := (ev.sd (d0.sd (fm.sd (mh.sd (iv.sd rp 1 4 rfl rfl rfl) 1 4 rfl rfl rfl) 1 2 rfl rfl rfl) 1 2 rfl rfl rfl) 1 0 rfl rfl rfl)
                     have p1 := fz.gv mm 0 rfl
                     have id : Ct [] w0 up [some ah, bk af, bk ag, bk ae, some ad, bk ac, bk ab, bk aa] O := fz.drop 0 rfl
                     have aif := mh.std 4 rfl
                     have zc := fm.std 2 rfl
                     have us := d0.std 2 rfl
                     have rr := ev.std 0 rfl
                     have p2 := fz.std 0 rfl
                     have mn := (((((aid.st aif).st zc).st us).st rr).st p2)
                     have p3 := ((((aie.st zc).st us).st rr).st p2)
                     have ut := (((py.st us).st rr).st p2)
                     have uu := ((pz.st rr).st p2)
                     refine L_call go36 [.agg #[vs r31.Id, vi r31.Shape.Kind, .slice av kz k1, .slice aw k2 k3], .agg #[vs r32.Id, vi r32.Shape.Kind, .slice a2 oh oi, .slice a1 oj ol], .agg #[vs r33.Id, vi r33.Shape.Kind, .slice bf rl rm, .slice bg rn ro]] rfl ((impl_FeatJoin.calls up id.ok r31 av kz k1 aw k2 k3 rg mn p3 r32 a2 oh oi a1 oj ol un ut uu r33 bf rl rm bg rn ro za (p0.st p2) p1 _ H).mono ?_)
                     rintro _ amu ⟨r34, r35, ew, mo, mp, ex, mq, mr, az, dt, du, rfl, H, ie, aig, k4, aih, ms, uv, p4⟩
                     have aii := Ok.unl (L := [bk bf, bk bg, bk a2, bk a1, bk av, bk aw, some ah, bk af, bk ag, bk ae, some ad, bk ac, bk ab, bk aa]) (L' := [some ah, bk af, bk ag, bk ae, some ad, bk ac, bk ab, bk aa]) (O := O) iv ie aig k4
                     have uw := Ow.unl (L := [bk bf, bk bg, bk a2, bk a1, bk av, bk aw, some ah, bk af, bk ag, bk ae, some ad, bk ac, bk ab, bk aa]) (L' := [some ah, bk af, bk ag, bk ae, some ad, bk ac, bk ab, bk aa]) (O := O) (fun _ _ _ _ _ _ h => h) (.cons _ (.cons _ (.cons _ (.cons _ (.cons _ (.cons _ (.cons_cons _ (.cons_cons _ (.cons_cons _ (.cons_cons _ (.cons_cons _ (.cons_cons _ (.cons_cons _ (.cons_cons _ (.slnil))))))))))))))) ms
                     have aij := Ow.unl (L := [bk bf, bk bg, bk a2, bk a1, bk av, bk aw, some ah, bk af, bk ag, bk ae, some ad, bk ac, bk ab, bk aa]) (L' := [some ah, bk af, bk ag, bk ae, some ad, bk ac, bk ab, bk aa]) (O := O) (fun _ _ _ _ _ _ h => h) (.cons _ (.cons _ (.cons _ (.cons _ (.cons _ (.cons _ (.cons_cons _ (.cons_cons _ (.cons_cons _ (.cons_cons _ (.cons_cons _ (.cons_cons _ (.cons_cons _ (.cons_cons _ (.slnil))))))))))))))) uv
                     have ux := Ow.unl (L := [bk bf, bk bg, bk a2, bk a1, bk av, bk aw, some ah, bk af, bk ag, bk ae, some ad, bk ac, bk ab, bk aa]) (L' := [some ah, bk af, bk ag, bk ae, some ad, bk ac, bk ab, bk aa]) (O := O) (fun _ _ _ _ _ _ h => h) (.cons _ (.cons _ (.cons _ (.cons _ (.cons _ (.cons _ (.cons_cons _ (.cons_cons _ (.cons_cons _ (.cons_cons _ (.cons_cons _ (.cons_cons _ (.cons_cons _ (.cons_cons _ (.slnil))))))))))))))) p4
                     have aik := iv.owns ie aii k4
                     have om := Gm.tm rq ie
                     refine L_nil ⟨om, ?_⟩
                     refine M_pu 7 rfl (by kernel_rfl) om (P_move (.tuple #[.agg #[vs r34.Id, vi r34.Shape.Kind, .slice ew mo mp, .slice ex mq mr], .slice az dt du]) rfl) ?_
                     refine M_pu 8 rfl (by kernel_rfl) om (P_ext [.agg #[vs r34.Id, vi r34.Shape.Kind, .slice ew mo mp, .slice ex mq mr], .slice az dt du] 0 (.agg #[vs r34.Id, vi r34.Shape.Kind, .slice ew mo mp, .slice ex mq mr]) rfl rfl) ?_
                     refine M_pu 9 rfl (by kernel_rfl) om (P_ext [.agg #[vs r34.Id, vi r34.Shape.Kind, .slice ew mo mp, .slice ex mq mr], .slice az dt du] 1 (.slice az dt du) rfl rfl) ?_
                     refine M_any1 10 (by kernel_rfl) rfl ?_
                     refine L_alloc [vs [], .int .i64 0, .slice none 0 0, .slice none 0 0] ze71 fun amv ge ig hu2897 gu ail => ?_
                     have hc := aik.own gu (some ge) (oglt ig hu2897)
                     have k5 := Gm.tm om gu
                     refine L_nil ⟨k5, ?_⟩
                     refine M_any1 11 (by kernel_rfl) rfl ?_
                     refine L_stb ge 0 [vs ([] : Str), vi 0, .slice none 0 0, .slice none 0 0] [vs r34.Id, vi r34.Shape.Kind, .slice ew mo mp, .slice ex mq mr] [vs r34.Id, vi r34.Shape.Kind, .slice ew mo mp, .slice ex mq mr] rfl ail rfl sz71 rfl rfl rfl fun aim ci uy => ?_
                     have ain := hc.wr 0 rfl ci
                     have zd := Gm.tq k5 ci (hv_new om (oge ig))
                     refine L_nil ⟨zd, ?_⟩
                     refine M_pu 12 rfl (by kernel_rfl) zd (P_assign (.slice az dt du) rfl) ?_
                     refine M_nil (by kernel_rfl) ?_
                     have iw : ([some ge, bk ew, bk ex, bk az, bk bf, bk bg, bk a2, bk a1, bk av, bk aw, some ah, bk af, bk ag, bk ae, some ad, bk ac, bk ab, bk aa] : Ob).Perm ((bk bf :: bk bg :: bk a2 :: bk a1 :: bk av :: bk aw :: []) ++ [some ge, bk ew, bk ex, bk az, some ah, bk af, bk ag, bk ae, some ad, bk ac, bk ab, bk aa]) := (by rw [List.perm_iff_count]; intro a; (try simp only [List.count_append, List.count_cons, List.count_nil, Nat.add_zero, Nat.zero_add]); first | done | ac_rfl)
                     have aio := ain.drops iw
                     have aip := (Ow.drops (L := [some ge, bk ew, bk ex, bk az, bk bf, bk bg, bk a2, bk a1, bk av, bk aw, some ah, bk af, bk ag, bk ae, some ad, bk ac, bk ab, bk aa]) (O := O) (hc.sw ((((((pw.sn a6).sos be cg).sos bi ch).sos co dz).sos ie k4).so _ gu (oge ig)) 17 0 rfl rfl rfl ci) iw (memi 11 rfl))
                     have aiq := (Ow.drops (L := [some ge, bk ew, bk ex, bk az, bk bf, bk bg, bk a2, bk a1, bk av, bk aw, some ah, bk af, bk ag, bk ae, some ad, bk ac, bk ab, bk aa]) (O := O) (hc.sw ((((((ps.sn a6).sos be cg).sos bi ch).sos co dz).sos ie k4).so _ gu (oge ig)) 13 0 rfl rfl rfl ci) iw (memi 7 rfl))
                     have air := (Ow.drops (L := [some ge, bk ew, bk ex, bk az, bk bf, bk bg, bk a2, bk a1, bk av, bk aw, some ah, bk af, bk ag, bk ae, some ad, bk ac, bk ab, bk aa]) (O := O) (hc.sw (ux.so _ gu (oge ig)) 3 0 rfl rfl rfl ci) iw (memi 3 rfl))
                     have uz := (Ow.drops (L := [some ge, bk ew, bk ex, bk az, bk bf, bk bg, bk a2, bk a1, bk av, bk aw, some ah, bk af, bk ag, bk ae, some ad, bk ac, bk ab, bk aa]) (O := O) (hc.sw (uw.so _ gu (oge ig)) 1 0 rfl rfl rfl ci) iw (memi 1 rfl))
                     have mt := (Ow.drops (L := [some ge, bk ew, bk ex, bk az, bk bf, bk bg, bk a2, bk a1, bk av, bk aw, some ah, bk af, bk ag, bk ae, some ad, bk ac, bk ab, bk aa]) (O := O) (hc.sw (aij.so _ gu (oge ig)) 2 0 rfl rfl rfl ci) iw (memi 2 rfl))
                     have mu := (Ow.drops (L := [some ge, bk ew, bk ex, bk az, bk bf, bk bg, bk a2, bk a1, bk av, bk aw, some ah, bk af, bk ag, bk ae, some ad, bk ac, bk ab, bk aa]) (O := O) (hc.sw ((((((pu.sn a6).sos be cg).sos bi ch).sos co dz).sos ie k4).so _ gu (oge ig)) 15 0 rfl rfl rfl ci) iw (memi 9 rfl))
                     have kb := (Ow.drops (L := [some ge, bk ew, bk ex, bk az, bk bf, bk bg, bk a2, bk a1, bk av, bk aw, some ah, bk af, bk ag, bk ae, some ad, bk ac, bk ab, bk aa]) (O := O) (hc.sw ((((((pv.sn a6).sos be cg).sos bi ch).sos co dz).sos ie k4).so _ gu (oge ig)) 16 0 rfl rfl rfl ci) iw (memi 10 rfl))
                     have kc := (Ow.drops (L := [some ge, bk ew, bk ex, bk az, bk bf, bk bg, bk a2, bk a1, bk av, bk aw, some ah, bk af, bk ag, bk ae, some ad, bk ac, bk ab, bk aa]) (O := O) (hc.sw ((((((pq.sn a6).sos be cg).sos bi ch).sos co dz).sos ie k4).so _ gu (oge ig)) 11 0 rfl rfl rfl ci) iw (memi 5 rfl))
                     have kd := (Ow.drops (L := [some ge, bk ew, bk ex, bk az, bk bf, bk bg, bk a2, bk a1, bk av, bk aw, some ah, bk af, bk ag, bk ae, some ad, bk ac, bk ab, bk aa]) (O := O) (hc.sw ((((((pr.sn a6).sos be cg).sos bi ch).sos co dz).sos ie k4).so _ gu (oge ig)) 12 0 rfl rfl rfl ci) iw (memi 6 rfl))
                     have ke := (hc.bm ((((((pt.k0 a6).k0 be).k0 bi).k0 co).k0 ie).k0 gu) 14 0 rfl rfl rfl ci)
                     have kf := (hc.bm ((((((pp.k0 a6).k0 be).k0 bi).k0 co).k0 ie).k0 gu) 10 0 rfl rfl rfl ci)
                     have kg := uy
                     exact ⟨r34, r35, az, dt, du, ew, mo, mp, ex, mq, mr, ge, ⟨rfl, rfl, rfl, rfl, rfl, rfl, rfl, trivial⟩, aio, aip, aiq, air, uz, mt, mu, kb, kc, kd, ke, kf, kg, aih, H⟩
                    ·refine L_alloc [vs [], .int .i64 0, .slice none 0 0, .slice none 0 0] ze71 fun u0 cp gf hu2831 fn ais => ?_
                     have fm := iv.own fn (some cp) (oglt gf hu2831)
                     have ze := Gm.tm rq fn
                     refine L_nil ⟨ze, ?_⟩
                     refine M_any1 6 (by kernel_rfl) rfl ?_
                     have ait := (((rh.sos bi ch).sos co dz).so _ fn (oge gf))
                     have mi := fm.gv ait 5 rfl
                     have mv := fm.drop 5 rfl
                     have aiu := (fm.sd (((od.sos bi ch).sos co dz).so _ fn (oge gf)) 6 5 rfl rfl rfl)
                     have mj := mv.gv aiu 5 rfl
                     have on := mv.drop 5 rfl
                     have aiv := (mv.sd (fm.sd ((uo.sos co dz).so _ fn (oge gf)) 3 5 rfl rfl rfl) 3 5 rfl rfl rfl)
                     have ml := on.gv aiv 3 rfl
                     have p5 : Ct [] w0 u0 [some cp, bk bf, bk bg, bk a1, some ah, bk af, bk ag, bk ae, some ad, bk ac, bk ab, bk aa] O := on.drop 3 rfl
                     have aiw := (on.sd (mv.sd (fm.sd ((px.sos co dz).so _ fn (oge gf)) 4 5 rfl rfl rfl) 4 5 rfl rfl rfl) 4 3 rfl rfl rfl)
                     have mm := p5.gv aiw 3 rfl
                     have rs := p5.drop 3 rfl
                     have aix := (p5.sd (on.sd (mv.sd (fm.sd (zb.so _ fn (oge gf)) 1 5 rfl rfl rfl) 1 5 rfl rfl rfl) 1 3 rfl rfl rfl) 1 3 rfl rfl rfl)
                     have p6 := rs.gv aix 1 rfl
                     have u1 := rs.drop 1 rfl
                     have aiy := (rs.sd (p5.sd (on.sd (mv.sd (fm.sd (rp.so _ fn (oge gf)) 2 5 rfl rfl rfl) 2 5 rfl rfl rfl) 2 3 rfl rfl rfl) 2 3 rfl rfl rfl) 2 1 rfl rfl rfl)
                     have mn := u1.gv aiy 1 rfl
                     have aiz : Ct [] w0 u0 [some cp, some ah, bk af, bk ag, bk ae, some ad, bk ac, bk ab, bk aa] O := u1.drop 1 rfl
                     have ai0 := mv.std 5 rfl
                     have oo := on.std 3 rfl
                     have kh := p5.std 3 rfl
                     have gg := rs.std 1 rfl
                     have ey := u1.std 1 rfl
                     have ai1 := (((((mi.st ai0).st oo).st kh).st gg).st ey)
                     have ms := ((((mj.st oo).st kh).st gg).st ey)
                     have p7 := (((ml.st kh).st gg).st ey)
                     have mw := ((mm.st gg).st ey)
                     refine L_call go36 [.agg #[vs r31.Id, vi r31.Shape.Kind, .slice av kz k1, .slice aw k2 k3], .agg #[vs r32.Id, vi r32.Shape.Kind, .slice a2 oh oi, .slice a1 oj ol], .agg #[vs r33.Id, vi r33.Shape.Kind, .slice bf rl rm, .slice bg rn ro]] rfl ((impl_FeatJoin.calls u0 aiz.ok r31 av kz k1 aw k2 k3 rg ai1 ms r32 a2 oh oi a1 oj ol un p7 mw r33 bf rl rm bg rn ro za (p6.st ey) mn _ H).mono ?_)
                     rintro _ amw ⟨r34, r35, ed, mx, my, ee, mz, m0, ep, op, oq, rfl, H, hd, ai2, he, ai3, ai4, ai5, ux⟩
                     have u2 := Ok.unl (L := [some cp, bk bf, bk bg, bk a2, bk a1, bk av, bk aw, some ah, bk af, bk ag, bk ae, some ad, bk ac, bk ab, bk aa]) (L' := [some cp, some ah, bk af, bk ag, bk ae, some ad, bk ac, bk ab, bk aa]) (O := O) fm hd ai2 he
                     have ai6 := Ow.unl (L := [some cp, bk bf, bk bg, bk a2, bk a1, bk av, bk aw, some ah, bk af, bk ag, bk ae, some ad, bk ac, bk ab, bk aa]) (L' := [some cp, some ah, bk af, bk ag, bk ae, some ad, bk ac, bk ab, bk aa]) (O := O) (fun _ _ _ _ _ _ h => h) (.cons_cons _ (.cons _ (.cons _ (.cons _ (.cons _ (.cons _ (.cons _ (.cons_cons _ (.cons_cons _ (.cons_cons _ (.cons_cons _ (.cons_cons _ (.cons_cons _ (.cons_cons _ (.cons_cons _ (.slnil)))))))))))))))) ai4
                     have p8 := Ow.unl (L := [some cp, bk bf, bk bg, bk a2, bk a1, bk av, bk aw, some ah, bk af, bk ag, bk ae, some ad, bk ac, bk ab, bk aa]) (L' := [some cp, some ah, bk af, bk ag, bk ae, some ad, bk ac, bk ab, bk aa]) (O := O) (fun _ _ _ _ _ _ h => h) (.cons_cons _ (.cons _ (.cons _ (.cons _ (.cons _ (.cons _ (.cons _ (.cons_cons _ (.cons_cons _ (.cons_cons _ (.cons_cons _ (.cons_cons _ (.cons_cons _ (.cons_cons _ (.cons_cons _ (.slnil)))))))))))))))) ai5
                     have p9 := Ow.unl (L := [some cp, bk bf, bk bg, bk a2, bk a1, bk av, bk aw, some ah, bk af, bk ag, bk ae, some ad, bk ac, bk ab, bk aa]) (L' := [some cp, some ah, bk af, bk ag, bk ae, some ad, bk ac, bk ab, bk aa]) (O := O) (fun _ _ _ _ _ _ h => h) (.cons_cons _ (.cons _ (.cons _ (.cons _ (.cons _ (.cons _ (.cons _ (.cons_cons _ (.cons_cons _ (.cons_cons _ (.cons_cons _ (.cons_cons _ (.cons_cons _ (.cons_cons _ (.cons_cons _ (.slnil)))))))))))))))) ux
                     have hf := fm.owns hd u2 he
                     have k5 := Gm.tm ze hd
                     refine L_nil ⟨k5, ?_⟩
                     refine M_pu 7 rfl (by kernel_rfl) k5 (P_move (.tuple #[.agg #[vs r34.Id, vi r34.Shape.Kind, .slice ed mx my, .slice ee mz m0], .slice ep op oq]) rfl) ?_
                     refine M_pu 8 rfl (by kernel_rfl) k5 (P_ext [.agg #[vs r34.Id, vi r34.Shape.Kind, .slice ed mx my, .slice ee mz m0], .slice ep op oq] 0 (.agg #[vs r34.Id, vi r34.Shape.Kind, .slice ed mx my, .slice ee mz m0]) rfl rfl) ?_
                     refine M_pu 9 rfl (by kernel_rfl) k5 (P_ext [.agg #[vs r34.Id, vi r34.Shape.Kind, .slice ed mx my, .slice ee mz m0], .slice ep op oq] 1 (.slice ep op oq) rfl rfl) ?_
                     refine M_any1 11 (by kernel_rfl) rfl ?_
                     have ai7 := (ais.k0 hd)
                     refine L_stb cp 0 [vs ([] : Str), vi 0, .slice none 0 0, .slice none 0 0] [vs r34.Id, vi r34.Shape.Kind, .slice ed mx my, .slice ee mz m0] [vs r34.Id, vi r34.Shape.Kind, .slice ed mx my, .slice ee mz m0] rfl ai7 rfl sz71 rfl rfl rfl fun aim ci uy => ?_
                     have ai8 := hf.wr 3 rfl ci
                     have zf := Gm.tq k5 ci (hv_new rq (oge gf))
                     refine L_nil ⟨zf, ?_⟩
                     refine M_pu 12 rfl (by kernel_rfl) zf (P_assign (.slice ep op oq) rfl) ?_
                     refine M_nil (by kernel_rfl) ?_
                     have ix : ([bk ed, bk ee, bk ep, some cp, bk bf, bk bg, bk a2, bk a1, bk av, bk aw, some ah, bk af, bk ag, bk ae, some ad, bk ac, bk ab, bk aa] : Ob).Perm ((bk bf :: bk bg :: bk a2 :: bk a1 :: bk av :: bk aw :: []) ++ [bk ed, bk ee, bk ep, some cp, some ah, bk af, bk ag, bk ae, some ad, bk ac, bk ab, bk aa]) := (by rw [List.perm_iff_count]; intro a; (try simp only [List.count_append, List.count_cons, List.count_nil, Nat.add_zero, Nat.zero_add]); first | done | ac_rfl)
                     have hg := ai8.drops ix
                     have iy : ([bk ed, bk ee, bk ep, some cp, some ah, bk af, bk ag, bk ae, some ad, bk ac, bk ab, bk aa] : Ob).Perm [some cp, bk ed, bk ee, bk ep, some ah, bk af, bk ag, bk ae, some ad, bk ac, bk ab, bk aa] := (by rw [List.perm_iff_count]; intro a; (try simp only [List.count_append, List.count_cons, List.count_nil, Nat.add_zero, Nat.zero_add]); first | done | ac_rfl)
                     have ai9 := hg.perm iy
                     have uz := (hg.sp (Ow.drops (L := [bk ed, bk ee, bk ep, some cp, bk bf, bk bg, bk a2, bk a1, bk av, bk aw, some ah, bk af, bk ag, bk ae, some ad, bk ac, bk ab, bk aa]) (O := O) (hf.sw ((((((pw.sn a6).sos be cg).sos bi ch).sos co dz).so _ fn (oge gf)).sos hd he) 17 3 rfl rfl rfl ci) ix (memi 11 rfl)) iy)
                     have mt := (hg.sp (Ow.drops (L := [bk ed, bk ee, bk ep, some cp, bk bf, bk bg, bk a2, bk a1, bk av, bk aw, some ah, bk af, bk ag, bk ae, some ad, bk ac, bk ab, bk aa]) (O := O) (hf.sw ((((((ps.sn a6).sos be cg).sos bi ch).sos co dz).so _ fn (oge gf)).sos hd he) 13 3 rfl rfl rfl ci) ix (memi 7 rfl)) iy)
                     have mu := (hg.sp (Ow.drops (L := [bk ed, bk ee, bk ep, some cp, bk bf, bk bg, bk a2, bk a1, bk av, bk aw, some ah, bk af, bk ag, bk ae, some ad, bk ac, bk ab, bk aa]) (O := O) (hf.sw p9 2 3 rfl rfl rfl ci) ix (memi 2 rfl)) iy)
                     have kb := (hg.sp (Ow.drops (L := [bk ed, bk ee, bk ep, some cp, bk bf, bk bg, bk a2, bk a1, bk av, bk aw, some ah, bk af, bk ag, bk ae, some ad, bk ac, bk ab, bk aa]) (O := O) (hf.sw ai6 0 3 rfl rfl rfl ci) ix (memi 0 rfl)) iy)
                     have kc := (hg.sp (Ow.drops (L := [bk ed, bk ee, bk ep, some cp, bk bf, bk bg, bk a2, bk a1, bk av, bk aw, some ah, bk af, bk ag, bk ae, some ad, bk ac, bk ab, bk aa]) (O := O) (hf.sw p8 1 3 rfl rfl rfl ci) ix (memi 1 rfl)) iy)
                     have kd := (hg.sp (Ow.drops (L := [bk ed, bk ee, bk ep, some cp, bk bf, bk bg, bk a2, bk a1, bk av, bk aw, some ah, bk af, bk ag, bk ae, some ad, bk ac, bk ab, bk aa]) (O := O) (hf.sw ((((((pu.sn a6).sos be cg).sos bi ch).sos co dz).so _ fn (oge gf)).sos hd he) 15 3 rfl rfl rfl ci) ix (memi 9 rfl)) iy)
                     have ke := (hg.sp (Ow.drops (L := [bk ed, bk ee, bk ep, some cp, bk bf, bk bg, bk a2, bk a1, bk av, bk aw, some ah, bk af, bk ag, bk ae, some ad, bk ac, bk ab, bk aa]) (O := O) (hf.sw ((((((pv.sn a6).sos be cg).sos bi ch).sos co dz).so _ fn (oge gf)).sos hd he) 16 3 rfl rfl rfl ci) ix (memi 10 rfl)) iy)
                     have kf := (hg.sp (Ow.drops (L := [bk ed, bk ee, bk ep, some cp, bk bf, bk bg, bk a2, bk a1, bk av, bk aw, some ah, bk af, bk ag, bk ae, some ad, bk ac, bk ab, bk aa]) (O := O) (hf.sw ((((((pq.sn a6).sos be cg).sos bi ch).sos co dz).so _ fn (oge gf)).sos hd he) 11 3 rfl rfl rfl ci) ix (memi 5 rfl)) iy)
                     have kg := (hg.sp (Ow.drops (L := [bk ed, bk ee, bk ep, some cp, bk bf, bk bg, bk a2, bk a1, bk av, bk aw, some ah, bk af, bk ag, bk ae, some ad, bk ac, bk ab, bk aa]) (O := O) (hf.sw ((((((pr.sn a6).sos be cg).sos bi ch).sos co dz).so _ fn (oge gf)).sos hd he) 12 3 rfl rfl rfl ci) ix (memi 6 rfl)) iy)
                     have m1 := (hf.bm ((((((pt.k0 a6).k0 be).k0 bi).k0 co).k0 fn).k0 hd) 14 3 rfl rfl rfl ci)
                     have na := (hf.bm ((((((pp.k0 a6).k0 be).k0 bi).k0 co).k0 fn).k0 hd) 10 3 rfl rfl rfl ci)
                     have nb := uy
                     exact ⟨r34, r35, ep, op, oq, ed, mx, my, ee, mz, m0, cp, ⟨rfl, rfl, rfl, rfl, rfl, rfl, rfl, trivial⟩, ai9, uz, mt, mu, kb, kc, kd, ke, kf, kg, m1, na, nb, ai3, H⟩
                   ·refine L_alloc [vs [], .int .i64 0, .slice none 0 0, .slice none 0 0] ze71 fun aja cq gw hu2810 f0 ajb => ?_
                    have zg := rj.own f0 (some cq) (oglt gw hu2810)
                    have zh := Gm.tm rk f0
                    refine L_nil ⟨zh, ?_⟩
                    refine M_any1 5 (by kernel_rfl) rfl ?_
                    have zi := oe.stos bi ch
                    have qa := rj.stown _ f0 (oge gw)
                    have u3 := ((((re.st dy).st og).st zi).st qa)
                    have u4 := ((((rf.st dy).st og).st zi).st qa)
                    refine L_call go35 [.agg #[vs aB.Id, vi aB.Shape.Kind, .slice bl bn bo, .slice bp bq br]] rfl ((laws_toFeat.calls aja zg.ok aB bl bn bo bp bq br hl u3 u4 _ H).mono ?_)
                    rintro _ nc ⟨r33, bb, qb, qc, bc, qd, qe, rfl, H, b1, u5, dl, u6, u7, u8⟩
                    have eq := zg.owns b1 u5 dl
                    have qf := Gm.tm zh b1
                    refine L_nil ⟨qf, ?_⟩
                    refine M_any1 6 (by kernel_rfl) rfl ?_
                    have mi := (((rh.sos bi ch).so _ f0 (oge gw)).sos b1 dl)
                    have py := eq.gv mi 5 rfl
                    have d0 := eq.drop 5 rfl
                    have mj := (eq.sd (((od.sos bi ch).so _ f0 (oge gw)).sos b1 dl) 6 5 rfl rfl rfl)
                    have pz := d0.gv mj 5 rfl
                    have ev := d0.drop 5 rfl
                    have ml := (d0.sd (eq.sd ((uo.so _ f0 (oge gw)).sos b1 dl) 3 5 rfl rfl rfl) 3 5 rfl rfl rfl)
                    have p0 := ev.gv ml 3 rfl
                    have fz : Ct [] w0 nc [bk bb, bk bc, some cq, bk a1, some ah, bk af, bk ag, bk ae, some ad, bk ac, bk ab, bk aa] O := ev.drop 3 rfl
                    have mm := (ev.sd (d0.sd (eq.sd ((px.so _ f0 (oge gw)).sos b1 dl) 4 5 rfl rfl rfl) 4 5 rfl rfl rfl) 4 3 rfl rfl rfl)
                    have p1 := fz.gv mm 3 rfl
                    have id := fz.drop 3 rfl
                    have p6 := (fz.sd (ev.sd (d0.sd (eq.sd u7 0 5 rfl rfl rfl) 0 5 rfl rfl rfl) 0 3 rfl rfl rfl) 0 3 rfl rfl rfl)
                    have u9 := id.gv p6 0 rfl
                    have nd := id.drop 0 rfl
                    have mn := (id.sd (fz.sd (ev.sd (d0.sd (eq.sd u8 1 5 rfl rfl rfl) 1 5 rfl rfl rfl) 1 3 rfl rfl rfl) 1 3 rfl rfl rfl) 1 0 rfl rfl rfl)
                    have p3 := nd.gv mn 0 rfl
                    have va : Ct [] w0 nc [some cq, some ah, bk af, bk ag, bk ae, some ad, bk ac, bk ab, bk aa] O := nd.drop 0 rfl
                    have oo := d0.std 5 rfl
                    have kh := ev.std 3 rfl
                    have gg := fz.std 3 rfl
                    have ey := id.std 0 rfl
                    have f1 := nd.std 0 rfl
                    have ms := (((((py.st oo).st kh).st gg).st ey).st f1)
                    have p7 := ((((pz.st kh).st gg).st ey).st f1)
                    have mw := (((p0.st gg).st ey).st f1)
                    have qg := ((p1.st ey).st f1)
                    refine L_call go36 [.agg #[vs r31.Id, vi r31.Shape.Kind, .slice av kz k1, .slice aw k2 k3], .agg #[vs r32.Id, vi r32.Shape.Kind, .slice a2 oh oi, .slice a1 oj ol], .agg #[vs r33.Id, vi r33.Shape.Kind, .slice bb qb qc, .slice bc qd qe]] rfl ((impl_FeatJoin.calls nc va.ok r31 av kz k1 aw k2 k3 rg ms p7 r32 a2 oh oi a1 oj ol un mw qg r33 bb qb qc bc qd qe u6 (u9.st f1) p3 _ H).mono ?_)
                    rintro _ ajc ⟨r34, r35, az, dt, du, a7, f2, f3, a8, gx, gy, rfl, H, cu, he, e6, vc, p4, vd, ve⟩
                    have hh := Ok.unl (L := [bk bb, bk bc, some cq, bk a2, bk a1, bk av, bk aw, some ah, bk af, bk ag, bk ae, some ad, bk ac, bk ab, bk aa]) (L' := [some cq, some ah, bk af, bk ag, bk ae, some ad, bk ac, bk ab, bk aa]) (O := O) eq cu he e6
                    have p8 := Ow.unl (L := [bk bb, bk bc, some cq, bk a2, bk a1, bk av, bk aw, some ah, bk af, bk ag, bk ae, some ad, bk ac, bk ab, bk aa]) (L' := [some cq, some ah, bk af, bk ag, bk ae, some ad, bk ac, bk ab, bk aa]) (O := O) (fun _ _ _ _ _ _ h => h) (.cons _ (.cons _ (.cons_cons _ (.cons _ (.cons _ (.cons _ (.cons _ (.cons_cons _ (.cons_cons _ (.cons_cons _ (.cons_cons _ (.cons_cons _ (.cons_cons _ (.cons_cons _ (.cons_cons _ (.slnil)))))))))))))))) p4
                    have p9 := Ow.unl (L := [bk bb, bk bc, some cq, bk a2, bk a1, bk av, bk aw, some ah, bk af, bk ag, bk ae, some ad, bk ac, bk ab, bk aa]) (L' := [some cq, some ah, bk af, bk ag, bk ae, some ad, bk ac, bk ab, bk aa]) (O := O) (fun _ _ _ _ _ _ h => h) (.cons _ (.cons _ (.cons_cons _ (.cons _ (.cons _ (.cons _ (.cons _ (.cons_cons _ (.cons_cons _ (.cons_cons _ (.cons_cons _ (.cons_cons _ (.cons_cons _ (.cons_cons _ (.cons_cons _ (.slnil)))))))))))))))) vd
                    have qh := Ow.unl (L := [bk bb, bk bc, some cq, bk a2, bk a1, bk av, bk aw, some ah, bk af, bk ag, bk ae, some ad, bk ac, bk ab, bk aa]) (L' := [some cq, some ah, bk af, bk ag, bk ae, some ad, bk ac, bk ab, bk aa]) (O := O) (fun _ _ _ _ _ _ h => h) (.cons _ (.cons _ (.cons_cons _ (.cons _ (.cons _ (.cons _ (.cons _ (.cons_cons _ (.cons_cons _ (.cons_cons _ (.cons_cons _ (.cons_cons _ (.cons_cons _ (.cons_cons _ (.cons_cons _ (.slnil)))))))))))))))) ve
                    have cv := eq.owns cu hh e6
                    have ih := Gm.tm qf cu
                    refine L_nil ⟨ih, ?_⟩
                    refine M_pu 7 rfl (by kernel_rfl) ih (P_move (.tuple #[.agg #[vs r34.Id, vi r34.Shape.Kind, .slice az dt du, .slice a7 f2 f3], .slice a8 gx gy]) rfl) ?_
                    refine M_pu 8 rfl (by kernel_rfl) ih (P_ext [.agg #[vs r34.Id, vi r34.Shape.Kind, .slice az dt du, .slice a7 f2 f3], .slice a8 gx gy] 0 (.agg #[vs r34.Id, vi r34.Shape.Kind, .slice az dt du, .slice a7 f2 f3]) rfl rfl) ?_
                    refine M_pu 9 rfl (by kernel_rfl) ih (P_ext [.agg #[vs r34.Id, vi r34.Shape.Kind, .slice az dt du, .slice a7 f2 f3], .slice a8 gx gy] 1 (.slice a8 gx gy) rfl rfl) ?_
                    refine M_any1 11 (by kernel_rfl) rfl ?_
                    have vf := ((ajb.k0 b1).k0 cu)
                    refine L_stb cq 0 [vs ([] : Str), vi 0, .slice none 0 0, .slice none 0 0] [vs r34.Id, vi r34.Shape.Kind, .slice az dt du, .slice a7 f2 f3] [vs r34.Id, vi r34.Shape.Kind, .slice az dt du, .slice a7 f2 f3] rfl vf rfl sz71 rfl rfl rfl fun ajd cj vg => ?_
                    have vh := cv.wr 5 rfl cj
                    have qi := Gm.tq ih cj (hv_new rk (oge gw))
                    refine L_nil ⟨qi, ?_⟩
                    refine M_pu 12 rfl (by kernel_rfl) qi (P_assign (.slice a8 gx gy) rfl) ?_
                    refine M_nil (by kernel_rfl) ?_
                    have d1 : ([bk az, bk a7, bk a8, bk bb, bk bc, some cq, bk a2, bk a1, bk av, bk aw, some ah, bk af, bk ag, bk ae, some ad, bk ac, bk ab, bk aa] : Ob).Perm ((bk bb :: bk bc :: bk a2 :: bk a1 :: bk av :: bk aw :: []) ++ [bk az, bk a7, bk a8, some cq, some ah, bk af, bk ag, bk ae, some ad, bk ac, bk ab, bk aa]) := (by rw [List.perm_iff_count]; intro a; (try simp only [List.count_append, List.count_cons, List.count_nil, Nat.add_zero, Nat.zero_add]); first | done | ac_rfl)
                    have d2 := vh.drops d1
                    have bs : ([bk az, bk a7, bk a8, some cq, some ah, bk af, bk ag, bk ae, some ad, bk ac, bk ab, bk aa] : Ob).Perm [some cq, bk az, bk a7, bk a8, some ah, bk af, bk ag, bk ae, some ad, bk ac, bk ab, bk aa] := (by rw [List.perm_iff_count]; intro a; (try simp only [List.count_append, List.count_cons, List.count_nil, Nat.add_zero, Nat.zero_add]); first | done | ac_rfl)
                    have gh := d2.perm bs
                    have mt := (d2.sp (Ow.drops (L := [bk az, bk a7, bk a8, bk bb, bk bc, some cq, bk a2, bk a1, bk av, bk aw, some ah, bk af, bk ag, bk ae, some ad, bk ac, bk ab, bk aa]) (O := O) (cv.sw ((((((pw.sn a6).sos be cg).sos bi ch).so _ f0 (oge gw)).sos b1 dl).sos cu e6) 17 5 rfl rfl rfl cj) d1 (memi 11 rfl)) bs)
                    have mu := (d2.sp (Ow.drops (L := [bk az, bk a7, bk a8, bk bb, bk bc, some cq, bk a2, bk a1, bk av, bk aw, some ah, bk af, bk ag, bk ae, some ad, bk ac, bk ab, bk aa]) (O := O) (cv.sw ((((((ps.sn a6).sos be cg).sos bi ch).so _ f0 (oge gw)).sos b1 dl).sos cu e6) 13 5 rfl rfl rfl cj) d1 (memi 7 rfl)) bs)
                    have kb := (d2.sp (Ow.drops (L := [bk az, bk a7, bk a8, bk bb, bk bc, some cq, bk a2, bk a1, bk av, bk aw, some ah, bk af, bk ag, bk ae, some ad, bk ac, bk ab, bk aa]) (O := O) (cv.sw qh 2 5 rfl rfl rfl cj) d1 (memi 2 rfl)) bs)
                    have kc := (d2.sp (Ow.drops (L := [bk az, bk a7, bk a8, bk bb, bk bc, some cq, bk a2, bk a1, bk av, bk aw, some ah, bk af, bk ag, bk ae, some ad, bk ac, bk ab, bk aa]) (O := O) (cv.sw p8 0 5 rfl rfl rfl cj) d1 (memi 0 rfl)) bs)
                    have kd := (d2.sp (Ow.drops (L := [bk az, bk a7, bk a8, bk bb, bk bc, some cq, bk a2, bk a1, bk av, bk aw, some ah, bk af, bk ag, bk ae, some ad, bk ac, bk ab, bk aa]) (O := O) (cv.sw p9 1 5 rfl rfl rfl cj) d1 (memi 1 rfl)) bs)
                    have ke := (d2.sp (Ow.drops (L := [bk az, bk a7, bk a8, bk bb, bk bc, some cq, bk a2, bk a1, bk av, bk aw, some ah, bk af, bk ag, bk ae, some ad, bk ac, bk ab, bk aa]) (O := O) (cv.sw ((((((pu.sn a6).sos be cg).sos bi ch).so _ f0 (oge gw)).sos b1 dl).sos cu e6) 15 5 rfl rfl rfl cj) d1 (memi 9 rfl)) bs)
                    have kf := (d2.sp (Ow.drops (L := [bk az, bk a7, bk a8, bk bb, bk bc, some cq, bk a2, bk a1, bk av, bk aw, some ah, bk af, bk ag, bk ae, some ad, bk ac, bk ab, bk aa]) (O := O) (cv.sw ((((((pv.sn a6).sos be cg).sos bi ch).so _ f0 (oge gw)).sos b1 dl).sos cu e6) 16 5 rfl rfl rfl cj) d1 (memi 10 rfl)) bs)
                    have kg := (d2.sp (Ow.drops (L := [bk az, bk a7, bk a8, bk bb, bk bc, some cq, bk a2, bk a1, bk av, bk aw, some ah, bk af, bk ag, bk ae, some ad, bk ac, bk ab, bk aa]) (O := O) (cv.sw ((((((pq.sn a6).sos be cg).sos bi ch).so _ f0 (oge gw)).sos b1 dl).sos cu e6) 11 5 rfl rfl rfl cj) d1 (memi 5 rfl)) bs)
                    have m1 := (d2.sp (Ow.drops (L := [bk az, bk a7, bk a8, bk bb, bk bc, some cq, bk a2, bk a1, bk av, bk aw, some ah, bk af, bk ag, bk ae, some ad, bk ac, bk ab, bk aa]) (O := O) (cv.sw ((((((pr.sn a6).sos be cg).sos bi ch).so _ f0 (oge gw)).sos b1 dl).sos cu e6) 12 5 rfl rfl rfl cj) d1 (memi 6 rfl)) bs)
                    have na := (cv.bm ((((((pt.k0 a6).k0 be).k0 bi).k0 f0).k0 b1).k0 cu) 14 5 rfl rfl rfl cj)
                    have nb := (cv.bm ((((((pp.k0 a6).k0 be).k0 bi).k0 f0).k0 b1).k0 cu) 10 5 rfl rfl rfl cj)
                    have qj := vg
                    exact ⟨r34, r35, a8, gx, gy, az, dt, du, a7, f2, f3, cq, ⟨rfl, rfl, rfl, rfl, rfl, rfl, rfl, trivial⟩, gh, mt, mu, kb, kc, kd, ke, kf, kg, m1, na, nb, qj, vc, H⟩
                  ·refine L_alloc [vs [], .int .i64 0, .slice none 0 0, .slice none 0 0] ze71 fun aje cr ii hu2789 gz ajf => ?_
                   have vj := oe.own gz (some cr) (oglt ii hu2789)
                   have zj := Gm.tm ri gz
                   refine L_nil ⟨zj, ?_⟩
                   refine M_any1 3 (by kernel_rfl) rfl ?_
                   have rt := oc.stos be cg
                   have ru := oe.stown _ gz (oge ii)
                   have ajg := (((uk.st dy).st rt).st ru)
                   have ajh := (((ul.st dy).st rt).st ru)
                   refine L_call go35 [.agg #[vs aA.Id, vi aA.Shape.Kind, .slice b3 b4 b5, .slice b6 b7 b8]] rfl ((laws_toFeat.calls aje vj.ok aA b3 b4 b5 b6 b7 b8 i2 ajg ajh _ H).mono ?_)
                   rintro _ aji ⟨r32, e7, zk, zl, ez, zm, zn, rfl, H, gi, ajj, iz, ajk, ajl, ajm⟩
                   have zo := vj.owns gi ajj iz
                   have zp := Gm.tm zj gi
                   refine L_nil ⟨zp, ?_⟩
                   refine M_any1 5 (by kernel_rfl) rfl ?_
                   have qa := vj.stos gi iz
                   have u3 := ((((re.st dy).st rt).st ru).st qa)
                   have u4 := ((((rf.st dy).st rt).st ru).st qa)
                   refine L_call go35 [.agg #[vs aB.Id, vi aB.Shape.Kind, .slice bl bn bo, .slice bp bq br]] rfl ((laws_toFeat.calls aji zo.ok aB bl bn bo bp bq br hl u3 u4 _ H).mono ?_)
                   rintro _ nc ⟨r33, bb, qb, qc, bc, qd, qe, rfl, H, b1, u5, dl, u6, u7, u8⟩
                   have eq := zo.owns b1 u5 dl
                   have qf := Gm.tm zp b1
                   refine L_nil ⟨qf, ?_⟩
                   refine M_any1 6 (by kernel_rfl) rfl ?_
                   have mi := (((rh.so _ gz (oge ii)).sos gi iz).sos b1 dl)
                   have py := eq.gv mi 5 rfl
                   have d0 := eq.drop 5 rfl
                   have mj := (eq.sd (((od.so _ gz (oge ii)).sos gi iz).sos b1 dl) 6 5 rfl rfl rfl)
                   have pz := d0.gv mj 5 rfl
                   have ev := d0.drop 5 rfl
                   have ml := (d0.sd (eq.sd (ajl.sos b1 dl) 2 5 rfl rfl rfl) 2 5 rfl rfl rfl)
                   have p0 := ev.gv ml 2 rfl
                   have fz : Ct [] w0 nc [bk bb, bk bc, bk ez, some cr, some ah, bk af, bk ag, bk ae, some ad, bk ac, bk ab, bk aa] O := ev.drop 2 rfl
                   have mm := (ev.sd (d0.sd (eq.sd (ajm.sos b1 dl) 3 5 rfl rfl rfl) 3 5 rfl rfl rfl) 3 2 rfl rfl rfl)
                   have p1 := fz.gv mm 2 rfl
                   have id := fz.drop 2 rfl
                   have p6 := (fz.sd (ev.sd (d0.sd (eq.sd u7 0 5 rfl rfl rfl) 0 5 rfl rfl rfl) 0 2 rfl rfl rfl) 0 2 rfl rfl rfl)
                   have u9 := id.gv p6 0 rfl
                   have nd := id.drop 0 rfl
                   have mn := (id.sd (fz.sd (ev.sd (d0.sd (eq.sd u8 1 5 rfl rfl rfl) 1 5 rfl rfl rfl) 1 2 rfl rfl rfl) 1 2 rfl rfl rfl) 1 0 rfl rfl rfl)
                   have p3 := nd.gv mn 0 rfl
                   have va : Ct [] w0 nc [some cr, some ah, bk af, bk ag, bk ae, some ad, bk ac, bk ab, bk aa] O := nd.drop 0 rfl
                   have oo := d0.std 5 rfl
                   have kh := ev.std 2 rfl
                   have gg := fz.std 2 rfl
                   have ey := id.std 0 rfl
                   have f1 := nd.std 0 rfl
                   have ms := (((((py.st oo).st kh).st gg).st ey).st f1)
                   have p7 := ((((pz.st kh).st gg).st ey).st f1)
                   have mw := (((p0.st gg).st ey).st f1)
                   have qg := ((p1.st ey).st f1)
                   refine L_call go36 [.agg #[vs r31.Id, vi r31.Shape.Kind, .slice av kz k1, .slice aw k2 k3], .agg #[vs r32.Id, vi r32.Shape.Kind, .slice e7 zk zl, .slice ez zm zn], .agg #[vs r33.Id, vi r33.Shape.Kind, .slice bb qb qc, .slice bc qd qe]] rfl ((impl_FeatJoin.calls nc va.ok r31 av kz k1 aw k2 k3 rg ms p7 r32 e7 zk zl ez zm zn ajk mw qg r33 bb qb qc bc qd qe u6 (u9.st f1) p3 _ H).mono ?_)
                   rintro _ ajc ⟨r34, r35, az, dt, du, a7, f2, f3, a8, gx, gy, rfl, H, cu, he, e6, vc, p4, vd, ve⟩
                   have hh := Ok.unl (L := [bk bb, bk bc, bk e7, bk ez, some cr, bk av, bk aw, some ah, bk af, bk ag, bk ae, some ad, bk ac, bk ab, bk aa]) (L' := [some cr, some ah, bk af, bk ag, bk ae, some ad, bk ac, bk ab, bk aa]) (O := O) eq cu he e6
                   have p8 := Ow.unl (L := [bk bb, bk bc, bk e7, bk ez, some cr, bk av, bk aw, some ah, bk af, bk ag, bk ae, some ad, bk ac, bk ab, bk aa]) (L' := [some cr, some ah, bk af, bk ag, bk ae, some ad, bk ac, bk ab, bk aa]) (O := O) (fun _ _ _ _ _ _ h => h) (.cons _ (.cons _ (.cons _ (.cons _ (.cons_cons _ (.cons _ (.cons _ (.cons_cons _ (.cons_cons _ (.cons_cons _ (.cons_cons _ (.cons_cons _ (.cons_cons _ (.cons_cons _ (.cons_cons _ (.slnil)))))))))))))))) p4
                   have p9 := Ow.unl (L := [bk bb, bk bc, bk e7, bk ez, some cr, bk av, bk aw, some ah, bk af, bk ag, bk ae, some ad, bk ac, bk ab, bk aa]) (L' := [some cr, some ah, bk af, bk ag, bk ae, some ad, bk ac, bk ab, bk aa]) (O := O) (fun _ _ _ _ _ _ h => h) (.cons _ (.cons _ (.cons _ (.cons _ (.cons_cons _ (.cons _ (.cons _ (.cons_cons _ (.cons_cons _ (.cons_cons _ (.cons_cons _ (.cons_cons _ (.cons_cons _ (.cons_cons _ (.cons_cons _ (.slnil)))))))))))))))) vd
                   have qh := Ow.unl (L := [bk bb, bk bc, bk e7, bk ez, some cr, bk av, bk aw, some ah, bk af, bk ag, bk ae, some ad, bk ac, bk ab, bk aa]) (L' := [some cr, some ah, bk af, bk ag, bk ae, some ad, bk ac, bk ab, bk aa]) (O := O) (fun _ _ _ _ _ _ h => h) (.cons _ (.cons _ (.cons _ (.cons _ (.cons_cons _ (.cons _ (.cons _ (.cons_cons _ (.cons_cons _ (.cons_cons _ (.cons_cons _ (.cons_cons _ (.cons_cons _ (.cons_cons _ (.cons_cons _ (.slnil)))))))))))))))) ve
                   have cv := eq.owns cu hh e6
                   have ih := Gm.tm qf cu
                   refine L_nil ⟨ih, ?_⟩
                   refine M_pu 7 rfl (by kernel_rfl) ih (P_move (.tuple #[.agg #[vs r34.Id, vi r34.Shape.Kind, .slice az dt du, .slice a7 f2 f3], .slice a8 gx gy]) rfl) ?_
                   refine M_pu 8 rfl (by kernel_rfl) ih (P_ext [.agg #[vs r34.Id, vi r34.Shape.Kind, .slice az dt du, .slice a7 f2 f3], .slice a8 gx gy] 0 (.agg #[vs r34.Id, vi r34.Shape.Kind, .slice az dt du, .slice a7 f2 f3]) rfl rfl) ?_
                   refine M_pu 9 rfl (by kernel_rfl) ih (P_ext [.agg #[vs r34.Id, vi r34.Shape.Kind, .slice az dt du, .slice a7 f2 f3], .slice a8 gx gy] 1 (.slice a8 gx gy) rfl rfl) ?_
                   refine M_any1 11 (by kernel_rfl) rfl ?_
                   have vf := (((ajf.k0 gi).k0 b1).k0 cu)
                   refine L_stb cr 0 [vs ([] : Str), vi 0, .slice none 0 0, .slice none 0 0] [vs r34.Id, vi r34.Shape.Kind, .slice az dt du, .slice a7 f2 f3] [vs r34.Id, vi r34.Shape.Kind, .slice az dt du, .slice a7 f2 f3] rfl vf rfl sz71 rfl rfl rfl fun ajd cj vg => ?_
                   have vh := cv.wr 7 rfl cj
                   have qi := Gm.tq ih cj (hv_new ri (oge ii))
                   refine L_nil ⟨qi, ?_⟩
                   refine M_pu 12 rfl (by kernel_rfl) qi (P_assign (.slice a8 gx gy) rfl) ?_
                   refine M_nil (by kernel_rfl) ?_
                   have d1 : ([bk az, bk a7, bk a8, bk bb, bk bc, bk e7, bk ez, some cr, bk av, bk aw, some ah, bk af, bk ag, bk ae, some ad, bk ac, bk ab, bk aa] : Ob).Perm ((bk bb :: bk bc :: bk e7 :: bk ez :: bk av :: bk aw :: []) ++ [bk az, bk a7, bk a8, some cr, some ah, bk af, bk ag, bk ae, some ad, bk ac, bk ab, bk aa]) := (by rw [List.perm_iff_count]; intro a; (try simp only [List.count_append, List.count_cons, List.count_nil, Nat.add_zero, Nat.zero_add]); first | done | ac_rfl)
                   have d2 := vh.drops d1
                   have bs : ([bk az, bk a7, bk a8, some cr, some ah, bk af, bk ag, bk ae, some ad, bk ac, bk ab, bk aa] : Ob).Perm [some cr, bk az, bk a7, bk a8, some ah, bk af, bk ag, bk ae, some ad, bk ac, bk ab, bk aa] := (by rw [List.perm_iff_count]; intro a; (try simp only [List.count_append, List.count_cons, List.count_nil, Nat.add_zero, Nat.zero_add]); first | done | ac_rfl)
                   have gh := d2.perm bs
                   have mt := (d2.sp (Ow.drops (L := [bk az, bk a7, bk a8, bk bb, bk bc, bk e7, bk ez, some cr, bk av, bk aw, some ah, bk af, bk ag, bk ae, some ad, bk ac, bk ab, bk aa]) (O := O) (cv.sw ((((((pw.sn a6).sos be cg).so _ gz (oge ii)).sos gi iz).sos b1 dl).sos cu e6) 17 7 rfl rfl rfl cj) d1 (memi 11 rfl)) bs)
                   have mu := (d2.sp (Ow.drops (L := [bk az, bk a7, bk a8, bk bb, bk bc, bk e7, bk ez, some cr, bk av, bk aw, some ah, bk af, bk ag, bk ae, some ad, bk ac, bk ab, bk aa]) (O := O) (cv.sw ((((((ps.sn a6).sos be cg).so _ gz (oge ii)).sos gi iz).sos b1 dl).sos cu e6) 13 7 rfl rfl rfl cj) d1 (memi 7 rfl)) bs)
                   have kb := (d2.sp (Ow.drops (L := [bk az, bk a7, bk a8, bk bb, bk bc, bk e7, bk ez, some cr, bk av, bk aw, some ah, bk af, bk ag, bk ae, some ad, bk ac, bk ab, bk aa]) (O := O) (cv.sw qh 2 7 rfl rfl rfl cj) d1 (memi 2 rfl)) bs)
                   have kc := (d2.sp (Ow.drops (L := [bk az, bk a7, bk a8, bk bb, bk bc, bk e7, bk ez, some cr, bk av, bk aw, some ah, bk af, bk ag, bk ae, some ad, bk ac, bk ab, bk aa]) (O := O) (cv.sw p8 0 7 rfl rfl rfl cj) d1 (memi 0 rfl)) bs)
                   have kd := (d2.sp (Ow.drops (L := [bk az, bk a7, bk a8, bk bb, bk bc, bk e7, bk ez, some cr, bk av, bk aw, some ah, bk af, bk ag, bk ae, some ad, bk ac, bk ab, bk aa]) (O := O) (cv.sw p9 1 7 rfl rfl rfl cj) d1 (memi 1 rfl)) bs)
                   have ke := (d2.sp (Ow.drops (L := [bk az, bk a7, bk a8, bk bb, bk bc, bk e7, bk ez, some cr, bk av, bk aw, some ah, bk af, bk ag, bk ae, some ad, bk ac, bk ab, bk aa]) (O := O) (cv.sw ((((((pu.sn a6).sos be cg).so _ gz (oge ii)).sos gi iz).sos b1 dl).sos cu e6) 15 7 rfl rfl rfl cj) d1 (memi 9 rfl)) bs)
                   have kf := (d2.sp (Ow.drops (L := [bk az, bk a7, bk a8, bk bb, bk bc, bk e7, bk ez, some cr, bk av, bk aw, some ah, bk af, bk ag, bk ae, some ad, bk ac, bk ab, bk aa]) (O := O) (cv.sw ((((((pv.sn a6).sos be cg).so _ gz (oge ii)).sos gi iz).sos b1 dl).sos cu e6) 16 7 rfl rfl rfl cj) d1 (memi 10 rfl)) bs)
                   have kg := (d2.sp (Ow.drops (L := [bk az, bk a7, bk a8, bk bb, bk bc, bk e7, bk ez, some cr, bk av, bk aw, some ah, bk af, bk ag, bk ae, some ad, bk ac, bk ab, bk aa]) (O := O) (cv.sw ((((((pq.sn a6).sos be cg).so _ gz (oge ii)).sos gi iz).sos b1 dl).sos cu e6) 11 7 rfl rfl rfl cj) d1 (memi 5 rfl)) bs)
                   have m1 := (d2.sp (Ow.drops (L := [bk az, bk a7, bk a8, bk bb, bk bc, bk e7, bk ez, some cr, bk av, bk aw, some ah, bk af, bk ag, bk ae, some ad, bk ac, bk ab, bk aa]) (O := O) (cv.sw ((((((pr.sn a6).sos be cg).so _ gz (oge ii)).sos gi iz).sos b1 dl).sos cu e6) 12 7 rfl rfl rfl cj) d1 (memi 6 rfl)) bs)
                   have na := (cv.bm ((((((pt.k0 a6).k0 be).k0 gz).k0 gi).k0 b1).k0 cu) 14 7 rfl rfl rfl cj)
                   have nb := (cv.bm ((((((pp.k0 a6).k0 be).k0 gz).k0 gi).k0 b1).k0 cu) 10 7 rfl rfl rfl cj)
                   have qj := vg
                   exact ⟨r34, r35, a8, gx, gy, az, dt, du, a7, f2, f3, cr, ⟨rfl, rfl, rfl, rfl, rfl, rfl, rfl, trivial⟩, gh, mt, mu, kb, kc, kd, ke, kf, kg, m1, na, nb, qj, vc, H⟩
                 ·refine L_alloc [vs [], .int .i64 0, .slice none 0 0, .slice none 0 0] ze71 fun um cs ki hu2771 ij ajn => ?_
                  have vk := oc.own ij (some cs) (oglt ki hu2771)
                  have zq := Gm.tm ob ij
                  refine L_nil ⟨zq, ?_⟩
                  refine M_any1 1 (by kernel_rfl) rfl ?_
                  have os := oc.stown _ ij (oge ki)
                  have ajo := ((y7.st dy).st os)
                  have od := ((y8.st dy).st os)
                  refine L_call go35 [.agg #[vs aBase.Id, vi aBase.Shape.Kind, .slice A2 n3 c4, .slice A7 n8 c9]] rfl ((laws_toFeat.calls um vk.ok aBase A2 n3 c4 A7 n8 c9 hs1 ajo od _ H).mono ?_)
                  rintro _ ajp ⟨r31, e8, zr, zs, e9, zt, zu, rfl, H, hi, ajq, k6, ajr, ajs, ajt⟩
                  have vl := vk.owns hi ajq k6
                  have zv := Gm.tm zq hi
                  refine L_nil ⟨zv, ?_⟩
                  refine M_any1 3 (by kernel_rfl) rfl ?_
                  have rv := vk.stos hi k6
                  have aju := (((uk.st dy).st os).st rv)
                  have px := (((ul.st dy).st os).st rv)
                  refine L_call go35 [.agg #[vs aA.Id, vi aA.Shape.Kind, .slice b3 b4 b5, .slice b6 b7 b8]] rfl ((laws_toFeat.calls ajp vl.ok aA b3 b4 b5 b6 b7 b8 i2 aju px _ H).mono ?_)
                  rintro _ ajv ⟨r32, fa, zw, zx, e0, zy, zz, rfl, H, gj, ajw, i0, ajx, ajy, ajz⟩
                  have z0 := vl.owns gj ajw i0
                  have z1 := Gm.tm zv gj
                  refine L_nil ⟨z1, ?_⟩
                  refine M_any1 5 (by kernel_rfl) rfl ?_
                  have z2 := vl.stos gj i0
                  have aj0 := ((((re.st dy).st os).st rv).st z2)
                  have rp := ((((rf.st dy).st os).st rv).st z2)
                  refine L_call go35 [.agg #[vs aB.Id, vi aB.Shape.Kind, .slice bl bn bo, .slice bp bq br]] rfl ((laws_toFeat.calls ajv z0.ok aB bl bn bo bp bq br hl aj0 rp _ H).mono ?_)
                  rintro _ vm ⟨r33, e1, z3, z4, e2, z5, z6, rfl, H, f4, aj1, ik, aj2, uq, ur⟩
                  have kj := z0.owns f4 aj1 ik
                  have z7 := Gm.tm z1 f4
                  refine L_nil ⟨z7, ?_⟩
                  refine M_any1 6 (by kernel_rfl) rfl ?_
                  have aj3 := ((ajs.sos gj i0).sos f4 ik)
                  have aj4 := kj.gv aj3 4 rfl
                  have ne := kj.drop 4 rfl
                  have aj5 := (kj.sd ((ajt.sos gj i0).sos f4 ik) 5 4 rfl rfl rfl)
                  have aj6 := ne.gv aj5 4 rfl
                  have ot := ne.drop 4 rfl
                  have aj7 := (ne.sd (kj.sd (ajy.sos f4 ik) 2 4 rfl rfl rfl) 2 4 rfl rfl rfl)
                  have aj8 := ot.gv aj7 2 rfl
                  have qk : Ct [] w0 vm [bk e1, bk e2, bk e0, some cs, some ah, bk af, bk ag, bk ae, some ad, bk ac, bk ab, bk aa] O := ot.drop 2 rfl
                  have aj9 := (ot.sd (ne.sd (kj.sd (ajz.sos f4 ik) 3 4 rfl rfl rfl) 3 4 rfl rfl rfl) 3 2 rfl rfl rfl)
                  have aka := qk.gv aj9 2 rfl
                  have rx := qk.drop 2 rfl
                  have akb := (qk.sd (ot.sd (ne.sd (kj.sd uq 0 4 rfl rfl rfl) 0 4 rfl rfl rfl) 0 2 rfl rfl rfl) 0 2 rfl rfl rfl)
                  have akc := rx.gv akb 0 rfl
                  have vn := rx.drop 0 rfl
                  have ut := (rx.sd (qk.sd (ot.sd (ne.sd (kj.sd ur 1 4 rfl rfl rfl) 1 4 rfl rfl rfl) 1 2 rfl rfl rfl) 1 2 rfl rfl rfl) 1 0 rfl rfl rfl)
                  have uu := vn.gv ut 0 rfl
                  have akd : Ct [] w0 vm [some cs, some ah, bk af, bk ag, bk ae, some ad, bk ac, bk ab, bk aa] O := vn.drop 0 rfl
                  have gg := ne.std 4 rfl
                  have ey := ot.std 2 rfl
                  have f1 := qk.std 2 rfl
                  have ry := rx.std 0 rfl
                  have ql := vn.std 0 rfl
                  have mw := (((((aj4.st gg).st ey).st f1).st ry).st ql)
                  have qg := ((((aj6.st ey).st f1).st ry).st ql)
                  have ake := (((aj8.st f1).st ry).st ql)
                  have uv := ((aka.st ry).st ql)
                  refine L_call go36 [.agg #[vs r31.Id, vi r31.Shape.Kind, .slice e8 zr zs, .slice e9 zt zu], .agg #[vs r32.Id, vi r32.Shape.Kind, .slice fa zw zx, .slice e0 zy zz], .agg #[vs r33.Id, vi r33.Shape.Kind, .slice e1 z3 z4, .slice e2 z5 z6]] rfl ((impl_FeatJoin.calls vm akd.ok r31 e8 zr zs e9 zt zu ajr mw qg r32 fa zw zx e0 zy zz ajx ake uv r33 e1 z3 z4 e2 z5 z6 aj2 (akc.st ql) uu _ H).mono ?_)
                  rintro _ amx ⟨r34, r35, ef, nf, ng, eg, nh, ni, er, ou, ov, rfl, H, hj, u2, hh, akf, akg, uw, akh⟩
                  have aki := Ok.unl (L := [bk e1, bk e2, bk fa, bk e0, bk e8, bk e9, some cs, some ah, bk af, bk ag, bk ae, some ad, bk ac, bk ab, bk aa]) (L' := [some cs, some ah, bk af, bk ag, bk ae, some ad, bk ac, bk ab, bk aa]) (O := O) kj hj u2 hh
                  have qh := Ow.unl (L := [bk e1, bk e2, bk fa, bk e0, bk e8, bk e9, some cs, some ah, bk af, bk ag, bk ae, some ad, bk ac, bk ab, bk aa]) (L' := [some cs, some ah, bk af, bk ag, bk ae, some ad, bk ac, bk ab, bk aa]) (O := O) (fun _ _ _ _ _ _ h => h) (.cons _ (.cons _ (.cons _ (.cons _ (.cons _ (.cons _ (.cons_cons _ (.cons_cons _ (.cons_cons _ (.cons_cons _ (.cons_cons _ (.cons_cons _ (.cons_cons _ (.cons_cons _ (.cons_cons _ (.slnil)))))))))))))))) akg
                  have akj := Ow.unl (L := [bk e1, bk e2, bk fa, bk e0, bk e8, bk e9, some cs, some ah, bk af, bk ag, bk ae, some ad, bk ac, bk ab, bk aa]) (L' := [some cs, some ah, bk af, bk ag, bk ae, some ad, bk ac, bk ab, bk aa]) (O := O) (fun _ _ _ _ _ _ h => h) (.cons _ (.cons _ (.cons _ (.cons _ (.cons _ (.cons _ (.cons_cons _ (.cons_cons _ (.cons_cons _ (.cons_cons _ (.cons_cons _ (.cons_cons _ (.cons_cons _ (.cons_cons _ (.cons_cons _ (.slnil)))))))))))))))) uw
                  have akk := Ow.unl (L := [bk e1, bk e2, bk fa, bk e0, bk e8, bk e9, some cs, some ah, bk af, bk ag, bk ae, some ad, bk ac, bk ab, bk aa]) (L' := [some cs, some ah, bk af, bk ag, bk ae, some ad, bk ac, bk ab, bk aa]) (O := O) (fun _ _ _ _ _ _ h => h) (.cons _ (.cons _ (.cons _ (.cons _ (.cons _ (.cons _ (.cons_cons _ (.cons_cons _ (.cons_cons _ (.cons_cons _ (.cons_cons _ (.cons_cons _ (.cons_cons _ (.cons_cons _ (.cons_cons _ (.slnil)))))))))))))))) akh
                  have hk := kj.owns hj aki hh
                  have qm := Gm.tm z7 hj
                  refine L_nil ⟨qm, ?_⟩
                  refine M_pu 7 rfl (by kernel_rfl) qm (P_move (.tuple #[.agg #[vs r34.Id, vi r34.Shape.Kind, .slice ef nf ng, .slice eg nh ni], .slice er ou ov]) rfl) ?_
                  refine M_pu 8 rfl (by kernel_rfl) qm (P_ext [.agg #[vs r34.Id, vi r34.Shape.Kind, .slice ef nf ng, .slice eg nh ni], .slice er ou ov] 0 (.agg #[vs r34.Id, vi r34.Shape.Kind, .slice ef nf ng, .slice eg nh ni]) rfl rfl) ?_
                  refine M_pu 9 rfl (by kernel_rfl) qm (P_ext [.agg #[vs r34.Id, vi r34.Shape.Kind, .slice ef nf ng, .slice eg nh ni], .slice er ou ov] 1 (.slice er ou ov) rfl rfl) ?_
                  refine M_any1 11 (by kernel_rfl) rfl ?_
                  have akl := ((((ajn.k0 hi).k0 gj).k0 f4).k0 hj)
                  refine L_stb cs 0 [vs ([] : Str), vi 0, .slice none 0 0, .slice none 0 0] [vs r34.Id, vi r34.Shape.Kind, .slice ef nf ng, .slice eg nh ni] [vs r34.Id, vi r34.Shape.Kind, .slice ef nf ng, .slice eg nh ni] rfl akl rfl sz71 rfl rfl rfl fun amy g1 akm => ?_
                  have hg := hk.wr 9 rfl g1
                  have z8 := Gm.tq qm g1 (hv_new ob (oge ki))
                  refine L_nil ⟨z8, ?_⟩
                  refine M_pu 12 rfl (by kernel_rfl) z8 (P_assign (.slice er ou ov) rfl) ?_
                  refine M_nil (by kernel_rfl) ?_
                  have bs : ([bk ef, bk eg, bk er, bk e1, bk e2, bk fa, bk e0, bk e8, bk e9, some cs, some ah, bk af, bk ag, bk ae, some ad, bk ac, bk ab, bk aa] : Ob).Perm ((bk e1 :: bk e2 :: bk fa :: bk e0 :: bk e8 :: bk e9 :: []) ++ [bk ef, bk eg, bk er, some cs, some ah, bk af, bk ag, bk ae, some ad, bk ac, bk ab, bk aa]) := (by rw [List.perm_iff_count]; intro a; (try simp only [List.count_append, List.count_cons, List.count_nil, Nat.add_zero, Nat.zero_add]); first | done | ac_rfl)
                  have gh := hg.drops bs
                  have i1 : ([bk ef, bk eg, bk er, some cs, some ah, bk af, bk ag, bk ae, some ad, bk ac, bk ab, bk aa] : Ob).Perm [some cs, bk ef, bk eg, bk er, some ah, bk af, bk ag, bk ae, some ad, bk ac, bk ab, bk aa] := (by rw [List.perm_iff_count]; intro a; (try simp only [List.count_append, List.count_cons, List.count_nil, Nat.add_zero, Nat.zero_add]); first | done | ac_rfl)
                  have akn := gh.perm i1
                  have kb := (gh.sp (Ow.drops (L := [bk ef, bk eg, bk er, bk e1, bk e2, bk fa, bk e0, bk e8, bk e9, some cs, some ah, bk af, bk ag, bk ae, some ad, bk ac, bk ab, bk aa]) (O := O) (hk.sw ((((((pw.sn a6).so _ ij (oge ki)).sos hi k6).sos gj i0).sos f4 ik).sos hj hh) 17 9 rfl rfl rfl g1) bs (memi 11 rfl)) i1)
                  have kc := (gh.sp (Ow.drops (L := [bk ef, bk eg, bk er, bk e1, bk e2, bk fa, bk e0, bk e8, bk e9, some cs, some ah, bk af, bk ag, bk ae, some ad, bk ac, bk ab, bk aa]) (O := O) (hk.sw ((((((ps.sn a6).so _ ij (oge ki)).sos hi k6).sos gj i0).sos f4 ik).sos hj hh) 13 9 rfl rfl rfl g1) bs (memi 7 rfl)) i1)
                  have kd := (gh.sp (Ow.drops (L := [bk ef, bk eg, bk er, bk e1, bk e2, bk fa, bk e0, bk e8, bk e9, some cs, some ah, bk af, bk ag, bk ae, some ad, bk ac, bk ab, bk aa]) (O := O) (hk.sw akk 2 9 rfl rfl rfl g1) bs (memi 2 rfl)) i1)
                  have ke := (gh.sp (Ow.drops (L := [bk ef, bk eg, bk er, bk e1, bk e2, bk fa, bk e0, bk e8, bk e9, some cs, some ah, bk af, bk ag, bk ae, some ad, bk ac, bk ab, bk aa]) (O := O) (hk.sw qh 0 9 rfl rfl rfl g1) bs (memi 0 rfl)) i1)
                  have kf := (gh.sp (Ow.drops (L := [bk ef, bk eg, bk er, bk e1, bk e2, bk fa, bk e0, bk e8, bk e9, some cs, some ah, bk af, bk ag, bk ae, some ad, bk ac, bk ab, bk aa]) (O := O) (hk.sw akj 1 9 rfl rfl rfl g1) bs (memi 1 rfl)) i1)
                  have kg := (gh.sp (Ow.drops (L := [bk ef, bk eg, bk er, bk e1, bk e2, bk fa, bk e0, bk e8, bk e9, some cs, some ah, bk af, bk ag, bk ae, some ad, bk ac, bk ab, bk aa]) (O := O) (hk.sw ((((((pu.sn a6).so _ ij (oge ki)).sos hi k6).sos gj i0).sos f4 ik).sos hj hh) 15 9 rfl rfl rfl g1) bs (memi 9 rfl)) i1)
                  have m1 := (gh.sp (Ow.drops (L := [bk ef, bk eg, bk er, bk e1, bk e2, bk fa, bk e0, bk e8, bk e9, some cs, some ah, bk af, bk ag, bk ae, some ad, bk ac, bk ab, bk aa]) (O := O) (hk.sw ((((((pv.sn a6).so _ ij (oge ki)).sos hi k6).sos gj i0).sos f4 ik).sos hj hh) 16 9 rfl rfl rfl g1) bs (memi 10 rfl)) i1)
                  have na := (gh.sp (Ow.drops (L := [bk ef, bk eg, bk er, bk e1, bk e2, bk fa, bk e0, bk e8, bk e9, some cs, some ah, bk af, bk ag, bk ae, some ad, bk ac, bk ab, bk aa]) (O := O) (hk.sw ((((((pq.sn a6).so _ ij (oge ki)).sos hi k6).sos gj i0).sos f4 ik).sos hj hh) 11 9 rfl rfl rfl g1) bs (memi 5 rfl)) i1)
                  have nb := (gh.sp (Ow.drops (L := [bk ef, bk eg, bk er, bk e1, bk e2, bk fa, bk e0, bk e8, bk e9, some cs, some ah, bk af, bk ag, bk ae, some ad, bk ac, bk ab, bk aa]) (O := O) (hk.sw ((((((pr.sn a6).so _ ij (oge ki)).sos hi k6).sos gj i0).sos f4 ik).sos hj hh) 12 9 rfl rfl rfl g1) bs (memi 6 rfl)) i1)
                  have qj := (hk.bm ((((((pt.k0 a6).k0 ij).k0 hi).k0 gj).k0 f4).k0 hj) 14 9 rfl rfl rfl g1)
                  have ako := (hk.bm ((((((pp.k0 a6).k0 ij).k0 hi).k0 gj).k0 f4).k0 hj) 10 9 rfl rfl rfl g1)
                  have akp := akm
                  exact ⟨r34, r35, er, ou, ov, ef, nf, ng, eg, nh, ni, cs, ⟨rfl, rfl, rfl, rfl, rfl, rfl, rfl, trivial⟩, akn, kb, kc, kd, ke, kf, kg, m1, na, nb, qj, ako, akp, akf, H⟩
                ·rintro amz fj ⟨r34, r35, e5, n4, n5, fk, n6, n7, fl, n9, oa, fy, akq, ow, akr, aks, akt, aku, akv, akw, akx, aky, akz, ak0, ak1, ak2, ak3, H⟩
                 obtain ⟨am0, rfl⟩ := Has.ins akq
                 refine W_seq ?_
                 refine W_seq ?_
                 refine W_reg ?_
                 refine L_pu (P_lda ag71 sz71 cL ⟨fy, 0, none⟩ [vs r34.Id, vi r34.Shape.Kind, .slice fk n6 n7, .slice fl n9 oa] rfl rfl (ak2.cells (off := 0) rfl)) ?_
                 refine L_pu (P_lda ag71 sz71 cL ⟨ad, 0, none⟩ [vs r7.Id, vi r7.Shape.Kind, .slice ac f7 f8, .slice ab f9 ga] rfl rfl (ak0.cells (off := 0) rfl)) ?_
                 have ak4 := ow.gv aku 1 rfl
                 have qn := ow.drop 1 rfl
                 have ak5 := (ow.sd akv 2 1 rfl rfl rfl)
                 have ak6 := qn.gv ak5 1 rfl
                 have rz := qn.drop 1 rfl
                 have ak7 := (qn.sd (ow.sd akw 9 1 rfl rfl rfl) 8 1 rfl rfl rfl)
                 have ak8 := rz.gv ak7 7 rfl
                 have vo : Ct [] w0 fj [some fy, bk e5, some ah, bk af, bk ag, bk ae, some ad, bk ab, bk aa] O := rz.drop 7 rfl
                 have ak9 := (rz.sd (qn.sd (ow.sd akx 10 1 rfl rfl rfl) 9 1 rfl rfl rfl) 8 7 rfl rfl rfl)
                 have ala := vo.gv ak9 7 rfl
                 have alb := vo.drop 7 rfl
                 have alc := qn.std 1 rfl
                 have z9 := rz.std 7 rfl
                 have vp := vo.std 7 rfl
                 have ald := (((ak4.st alc).st z9).st vp)
                 have ale := ((ak6.st z9).st vp)
                 refine L_call go37 [.agg #[vs r34.Id, vi r34.Shape.Kind, .slice fk n6 n7, .slice fl n9 oa], .agg #[vs r7.Id, vi r7.Shape.Kind, .slice ac f7 f8, .slice ab f9 ga]] rfl ((laws_eqFeat.calls fj alb.ok r34 fk n6 n7 fl n9 oa ak3 ald ale r7 ac f7 f8 ab f9 ga tb (ak8.st vp) ala _ H).mono ?_)
                 rintro _ alf ⟨r36, rfl, H, nj⟩
                 have qo := ow.k0 nj
                 refine L_pu (P_not r36 rfl) ?_
                 refine L_pu (P_move (vb (!r36)) rfl) ?_
                 rcases bool_or (!r36) with g2 | g2
                 ·have H := ite_t H g2
                  refine L_pass (dj := 139) rfl rfl (.inl (by exact congrArg Value.bool g2)) ?_
                  refine L_pass (dj := 139) rfl rfl (.inl (by exact congrArg Value.bool g2)) ?_
                  refine L_pass (dj := 139) rfl rfl (.inl (by exact congrArg Value.bool g2)) ?_
                  refine L_pass (dj := 139) rfl rfl (.inl (by exact congrArg Value.bool g2)) ?_
                  refine L_pu (P_pick true (vb true) (by exact congrArg Value.bool g2) rfl) ?_
                  refine L_nil ?_
                  refine W_ct (b := true) rfl rfl ?_
                  refine W_seq ?_
                  refine W_reg ?_
                  refine L_pu (P_assign (vb false) rfl) ?_
                  refine L_nil ?_
                  refine W_ret ?_
                  have alg := qo.clear
                  exact ⟨[vb false], ⟨_, rfl, rfl⟩, false, rfl, H, alg.gr.g0⟩
                 ·have H := ite_f H g2
                  refine L_run (dj := 139) rfl rfl (by exact congrArg Value.bool g2) ?_
                  refine L_pu (P_move (.slice e5 n4 n5) rfl) ?_
                  refine L_run (dj := 139) rfl rfl (by exact congrArg Value.bool g2) ?_
                  refine L_pu (P_move (.slice aa f5 f6) rfl) ?_
                  refine L_run (dj := 139) rfl rfl (by exact congrArg Value.bool g2) ?_
                  have alh := (akt.sn nj)
                  have ali := qo.gv alh 3 rfl
                  have vq := qo.drop 3 rfl
                  have alj := (qo.sd (akr.sn nj) 11 3 rfl rfl rfl)
                  have alk := vq.gv alj 10 rfl
                  have all := vq.drop 10 rfl
                  have alm := vq.std 10 rfl
                  refine L_call go38 [.slice e5 n4 n5, .slice aa f5 f6] rfl ((laws_eqStringS.calls alf all.ok r35 e5 n4 n5 (ali.st alm) r8 aa f5 f6 alk _ H).mono ?_)
                  rintro _ aln ⟨r37, rfl, H, qp⟩
                  have qq := qo.k0 qp
                  refine L_run (dj := 139) rfl rfl (by exact congrArg Value.bool g2) ?_
                  refine L_pu (P_not r37 rfl) ?_
                  refine L_pu (P_pick false (vb (!r37)) (by exact congrArg Value.bool g2) rfl) ?_
                  refine L_nil ?_
                  refine W_cond (!r37) rfl (fun vr => ?_) (fun vr => ?_)
                  ·have H := ite_t H vr
                   refine W_seq ?_
                   refine W_reg ?_
                   refine L_pu (P_assign (vb false) rfl) ?_
                   refine L_nil ?_
                   refine W_ret ?_
                   have alo := qq.clear
                   exact ⟨[vb false], ⟨_, rfl, rfl⟩, false, rfl, H, alo.gr.g0⟩
                  ·have H := ite_f H vr
                   refine W_skip ?_
                   refine W_seq ?_
                   refine W_reg ?_
                   refine L_pu (P_assign (vi 1) rfl) ?_
                   refine L_nil ?_
                   refine W_seq ?_
                   refine W_reg ?_
                   have alp := ((ak1.k0 nj).k0 qp)
                   refine L_pu (P_lda ag71 sz71 cL ⟨ah, 0, none⟩ [vs r12.Id, vi r12.Shape.Kind, .slice af dg dh, .slice ag di dk] rfl rfl (alp.cells (off := 0) rfl)) ?_
                   refine L_pu (P_move (vi 1) rfl) ?_
                   have alq := ((aky.sn nj).sn qp)
                   have alr := qq.gv alq 5 rfl
                   have vt := qq.drop 5 rfl
                   have als := (qq.sd ((akz.sn nj).sn qp) 6 5 rfl rfl rfl)
                   have alt := vt.gv als 5 rfl
                   have alu := vt.drop 5 rfl
                   have alv := vt.std 5 rfl
                   refine L_call go41 [.agg #[vs r12.Id, vi r12.Shape.Kind, .slice af dg dh, .slice ag di dk], vi 1] rfl ((laws_heldFeat.calls aln alu.ok (⟨r12.Id, (⟨r12.Shape.Kind, m7⟩ : Shape), m8⟩ : Feat) af dg dh ag di dk ph (alr.st alv) alt 1 _ H).mono ?_)
                   rintro _ alw ⟨r38, rfl, H, aaa⟩
                   have r1 := qq.k0 aaa
                   refine L_pu (P_assign (vi r38) rfl) ?_
                   refine L_nil ?_
                   refine W_seq ?_
                   refine W_seq ?_
                   refine W_reg ?_
                   refine L_pu (P_move (vi r38) rfl) ?_
                   refine L_pu (P_cmp r38 0 (decide (r38 < 0)) rfl rfl rfl) ?_
                   refine L_nil ?_
                   refine W_cond (decide (r38 < 0)) rfl (fun vu => ?_) (fun vu => ?_)
                   ·have H := ite_t H vu
                    refine W_seq ?_
                    refine W_reg ?_
                    refine L_pu (P_assign (vb false) rfl) ?_
                    refine L_nil ?_
                    refine W_ret ?_
                    have alx := r1.clear
                    exact ⟨[vb false], ⟨_, rfl, rfl⟩, false, rfl, H, alx.gr.g0⟩
                   ·have H := ite_f H vu
                    refine W_skip ?_
                    refine W_seq ?_
                    refine W_reg ?_
                    refine L_pu (P_move (.slice ae dn dp) rfl) ?_
                    refine L_pu (P_move (vi r38) rfl) ?_
                    have aly := (((aks.sn nj).sn qp).sn aaa)
                    have alz := r1.gv aly 7 rfl
                    have al0 := r1.drop 7 rfl
                    refine L_call go42 [.slice ae dn dp, vi r38] rfl ((laws_heldStringS.calls alw al0.ok m9 ae dn dp alz r38 _ H).mono ?_)
                    rintro _ am1 ⟨r39, rfl, H, al1⟩
                    have vv := r1.k0 al1
                    refine L_pu (P_assign (vi r39) rfl) ?_
                    refine L_nil ?_
                    refine W_seq ?_
                    refine W_seq ?_
                    refine W_reg ?_
                    refine L_pu (P_move (vi r39) rfl) ?_
                    refine L_pu (P_cmp r39 0 (decide (r39 < 0)) rfl rfl rfl) ?_
                    refine L_nil ?_
                    refine W_cond (decide (r39 < 0)) rfl (fun vw => ?_) (fun vw => ?_)
                    ·have H := ite_t H vw
                     refine W_seq ?_
                     refine W_reg ?_
                     refine L_pu (P_assign (vb false) rfl) ?_
                     refine L_nil ?_
                     refine W_ret ?_
                     have al2 := vv.clear
                     exact ⟨[vb false], ⟨_, rfl, rfl⟩, false, rfl, H, al2.gr.g0⟩
                    ·have H := ite_f H vw
                     refine W_skip ?_
                     refine W_seq ?_
                     refine W_seq ?_
                     refine W_reg ?_
                     refine L_pu (P_move (vi r39) rfl) ?_
                     refine L_pu (P_move (vi r28) rfl) ?_
                     refine L_pu (P_cmp r39 r28 (r39 != r28) rfl rfl rfl) ?_
                     refine L_nil ?_
                     refine W_cond (r39 != r28) rfl (fun vx => ?_) (fun vx => ?_)
                     ·have H := ite_t H vx
                      refine W_seq ?_
                      refine W_reg ?_
                      refine L_pu (P_assign (vb false) rfl) ?_
                      refine L_nil ?_
                      refine W_ret ?_
                      have al3 := vv.clear
                      exact ⟨[vb false], ⟨_, rfl, rfl⟩, false, rfl, H, al3.gr.g0⟩
                     ·have H := ite_f H vx
                      refine W_skip ?_
                      refine W_seq ?_
                      refine W_reg ?_
                      refine L_pu (P_assign (vb true) rfl) ?_
                      refine L_nil ?_
                      refine W_ret ?_
                      have al4 := vv.clear
                      exact ⟨[vb true], ⟨_, rfl, rfl⟩, true, rfl, H, al4.gr.g0⟩
end Go.Proofs.Ytndjggncgpjolaa

namespace Go.Proofs.Ytndjggncgpjolaa
set_option linter.unusedSimpArgs false
set_option linter.unusedVariables false
set_option linter.unusedSectionVars false
section
variable {α : Type} [DecidableEq α]
def lcsR (x : α) (p : List α → Nat) : List α → Nat
  | [] => 0
  | y :: b => if x = y then p b + 1 else max (p (y :: b)) (lcsR x p b)
def lcs : List α → List α → Nat
  | [] => fun _ => 0
  | x :: a => lcsR x (lcs a)
@[simp] theorem lcs_nil (b : List α) : lcs [] b = 0 := rfl
@[simp] theorem lcs_nil2 (a : List α) : lcs a [] = 0 := by cases a <;> rfl
theorem lcs_cons (x y : α) (a b : List α) : lcs (x :: a) (y :: b) = if x = y then lcs a b + 1 else max (lcs a (y :: b)) (lcs (x :: a) b) := rfl
theorem lcs_sub (a b : List α) : ∃ s : List α, s.Sublist a ∧ s.Sublist b ∧ s.length = lcs a b := by
  induction a generalizing b with
  | nil => exact ⟨[], List.nil_sublist _, List.nil_sublist _, rfl⟩
  | cons x a ih =>
    induction b with
    | nil => exact ⟨[], List.nil_sublist _, List.nil_sublist _, rfl⟩
    | cons y b ihb =>
      rw [lcs_cons]
      by_cases h : x = y
      · subst h
        obtain ⟨s, h1, h2, h3⟩ := ih b
        exact ⟨x :: s, h1.cons_cons x, h2.cons_cons x, by rw [if_pos rfl, ← h3]; rfl⟩
      · rw [if_neg h]
        by_cases hm : lcs (x :: a) b ≤ lcs a (y :: b)
        · obtain ⟨s, h1, h2, h3⟩ := ih (y :: b)
          exact ⟨s, h1.cons x, h2, by omega⟩
        · obtain ⟨s, h1, h2, h3⟩ := ihb
          exact ⟨s, h1, h2.cons y, by omega⟩
theorem lcs_le1 (a b : List α) : lcs a b ≤ a.length := by
  obtain ⟨s, h1, h2, h3⟩ := lcs_sub a b; rw [← h3]; exact h1.length_le
theorem lcs_le2 (a b : List α) : lcs a b ≤ b.length := by
  obtain ⟨s, h1, h2, h3⟩ := lcs_sub a b; rw [← h3]; exact h2.length_le
theorem pp {a b c d : Nat} (h : a = c) (k : b = d) : (a, b) = (c, d) := by rw [h, k]
def pairs (i j : Nat) : List α → List α → List (Nat × Nat)
  | x :: a, y :: b => if x = y then (i, j) :: pairs (i + 1) (j + 1) a b else if lcs (x :: a) b ≤ lcs a (y :: b) then pairs (i + 1) j a (y :: b) else pairs i (j + 1) (x :: a) b
  | [], _ => []
  | _ :: _, [] => []
  termination_by a b => a.length + b.length
theorem pairs_nil (i j : Nat) (b : List α) : pairs i j [] b = [] := by rw [pairs]
theorem pairs_nil2 (i j : Nat) (a : List α) : pairs i j a [] = [] := by cases a <;> rw [pairs]
theorem pairs_cons (i j : Nat) (x y : α) (a b : List α) : pairs i j (x :: a) (y :: b) = if x = y then (i, j) :: pairs (i + 1) (j + 1) a b else if lcs (x :: a) b ≤ lcs a (y :: b) then pairs (i + 1) j a (y :: b) else pairs i (j + 1) (x :: a) b := by rw [pairs]
theorem pairs_ind {C : Nat → Nat → List α → List α → Prop} (h0 : ∀ i j b, C i j [] b) (h1 : ∀ i j a, C i j a [])
    (he : ∀ i j x a b, C (i + 1) (j + 1) a b → C i j (x :: a) (x :: b))
    (ha : ∀ i j x y a b, x ≠ y → lcs (x :: a) b ≤ lcs a (y :: b) → C (i + 1) j a (y :: b) → C i j (x :: a) (y :: b))
    (hb : ∀ i j x y a b, x ≠ y → ¬ lcs (x :: a) b ≤ lcs a (y :: b) → C i (j + 1) (x :: a) b → C i j (x :: a) (y :: b)) : ∀ i j (a b : List α), C i j a b := by
  have : ∀ n i j (a b : List α), a.length + b.length ≤ n → C i j a b := by
    intro n
    induction n with
    | zero => intro i j a b h; cases a with
      | nil => exact h0 _ _ _
      | cons _ _ => simp at h
    | succ n ih =>
      intro i j a b h
      cases a with
      | nil => exact h0 _ _ _
      | cons x a => cases b with
        | nil => exact h1 _ _ _
        | cons y b =>
          simp only [List.length_cons] at h
          by_cases e : x = y
          · subst e; exact he _ _ _ _ _ (ih _ _ _ _ (by omega))
          · by_cases l : lcs (x :: a) b ≤ lcs a (y :: b)
            · exact ha _ _ _ _ _ _ e l (ih _ _ _ _ (by simp only [List.length_cons]; omega))
            · exact hb _ _ _ _ _ _ e l (ih _ _ _ _ (by simp only [List.length_cons]; omega))
  exact fun i j a b => this _ i j a b (Nat.le_refl _)
theorem pairs_len (i j : Nat) (a b : List α) : (pairs i j a b).length = lcs a b := by
  refine pairs_ind (C := fun i j a b => (pairs i j a b).length = lcs a b) ?_ ?_ ?_ ?_ ?_ i j a b
  · intros; rw [pairs_nil]; rfl
  · intros; rw [pairs_nil2, lcs_nil2]; rfl
  · intro i j x a b h; rw [pairs_cons, if_pos rfl, lcs_cons, if_pos rfl, List.length_cons, h]
  · intro i j x y a b e l h; rw [pairs_cons, if_neg e, if_pos l, lcs_cons, if_neg e, h]; exact (Nat.max_eq_left l).symm
  · intro i j x y a b e l h; rw [pairs_cons, if_neg e, if_neg l, lcs_cons, if_neg e, h]; exact (Nat.max_eq_right (by omega)).symm
theorem pairs_mem (i j : Nat) (a b : List α) : ∀ p ∈ pairs i j a b, ∃ k l, p = (i + k, j + l) ∧ ∃ x, a[k]? = some x ∧ b[l]? = some x := by
  refine pairs_ind (C := fun i j a b => ∀ p ∈ pairs i j a b, ∃ k l, p = (i + k, j + l) ∧ ∃ x, a[k]? = some x ∧ b[l]? = some x) ?_ ?_ ?_ ?_ ?_ i j a b
  · intro i j b p h; rw [pairs_nil] at h; cases h
  · intro i j a p h; rw [pairs_nil2] at h; cases h
  · intro i j x a b ih p h
    rw [pairs_cons, if_pos rfl] at h
    rcases List.mem_cons.1 h with rfl | h
    · exact ⟨0, 0, rfl, x, rfl, rfl⟩
    · obtain ⟨k, l, rfl, z, h1, h2⟩ := ih p h
      exact ⟨k + 1, l + 1, pp (by omega) (by omega), z, h1, h2⟩
  · intro i j x y a b e l ih p h
    rw [pairs_cons, if_neg e, if_pos l] at h
    obtain ⟨k, l, rfl, z, h1, h2⟩ := ih p h
    exact ⟨k + 1, l, pp (by omega) (by omega), z, h1, h2⟩
  · intro i j x y a b e l ih p h
    rw [pairs_cons, if_neg e, if_neg l] at h
    obtain ⟨k, l, rfl, z, h1, h2⟩ := ih p h
    exact ⟨k, l + 1, pp (by omega) (by omega), z, h1, h2⟩
theorem pairs_ord (i j : Nat) (a b : List α) : (pairs i j a b).Pairwise (fun p q => p.1 < q.1 ∧ p.2 < q.2) := by
  refine pairs_ind (C := fun i j a b => (pairs i j a b).Pairwise (fun p q => p.1 < q.1 ∧ p.2 < q.2)) ?_ ?_ ?_ ?_ ?_ i j a b
  · intros; rw [pairs_nil]; exact List.Pairwise.nil
  · intros; rw [pairs_nil2]; exact List.Pairwise.nil
  · intro i j x a b h; rw [pairs_cons, if_pos rfl]
    refine List.Pairwise.cons (fun p hp => ?_) h
    obtain ⟨k, l, rfl, _⟩ := pairs_mem _ _ _ _ p hp
    exact ⟨by dsimp only; omega, by dsimp only; omega⟩
  · intro i j x y a b e l h; rw [pairs_cons, if_neg e, if_pos l]; exact h
  · intro i j x y a b e l h; rw [pairs_cons, if_neg e, if_neg l]; exact h
end
section
variable {α : Type} [Inhabited α]
theorem nth_set (l : List α) {k : Nat} (h : k < l.length) (m : Nat) (v : α) : nth (l.set k v) (m : Int) = if m = k then v else nth l (m : Int) := by
  unfold nth
  rw [Int.toNat_natCast, List.getD_eq_getElem?_getD, List.getD_eq_getElem?_getD, List.getElem?_set]
  by_cases e : m = k
  · subst e; rw [if_pos rfl, if_pos rfl, if_pos h]; rfl
  · rw [if_neg (fun x => e x.symm), if_neg e]
theorem nth_rep (n m : Nat) (v : α) (h : m < n) : nth (List.replicate n v) (m : Int) = v := by
  rw [nth_nat _ (by simpa using h)]; simp
theorem drop_nth (l : List α) {k : Nat} (h : k < l.length) : l.drop k = nth l (k : Int) :: l.drop (k + 1) := by
  rw [nth_nat l h]; exact List.drop_eq_getElem_cons h
def seg (l : List α) (i j : Nat) : List α := (l.drop i).take (j - i)
theorem seg_len (l : List α) (i j : Nat) (h : j ≤ l.length) : (seg l i j).length = j - i := by
  unfold seg; rw [List.length_take, List.length_drop]; omega
theorem seg_end (l : List α) (i : Nat) : seg l i l.length = l.drop i := List.take_of_length_le (by simp)
theorem seg_app (l : List α) {i j : Nat} (h : i ≤ j) : seg l i j ++ l.drop j = l.drop i := by
  unfold seg
  have : l.drop j = (l.drop i).drop (j - i) := by rw [List.drop_drop]; congr 1; omega
  rw [this, List.take_append_drop]
variable [DecidableEq α]
theorem lcs_drop (a b : List α) {i j : Nat} (hi : i < a.length) (hj : j < b.length) : lcs (a.drop i) (b.drop j) = if nth a (i : Int) = nth b (j : Int) then lcs (a.drop (i + 1)) (b.drop (j + 1)) + 1 else max (lcs (a.drop (i + 1)) (b.drop j)) (lcs (a.drop i) (b.drop (j + 1))) := by
  rw [drop_nth a hi, drop_nth b hj, lcs_cons, ← drop_nth a hi, ← drop_nth b hj]
theorem pairs_drop (a b : List α) {i j : Nat} (hi : i < a.length) (hj : j < b.length) : pairs i j (a.drop i) (b.drop j) = if nth a (i : Int) = nth b (j : Int) then (i, j) :: pairs (i + 1) (j + 1) (a.drop (i + 1)) (b.drop (j + 1)) else if lcs (a.drop i) (b.drop (j + 1)) ≤ lcs (a.drop (i + 1)) (b.drop j) then pairs (i + 1) j (a.drop (i + 1)) (b.drop j) else pairs i (j + 1) (a.drop i) (b.drop (j + 1)) := by
  rw [drop_nth a hi, drop_nth b hj, pairs_cons, ← drop_nth a hi, ← drop_nth b hj]

def pickL (o a b : List α) : Option (List α) := if a = o then some b else if b = o then some a else if a = b then some a else none
theorem pickL_mem {o a b r : List α} (h : pickL o a b = some r) : (∀ z ∈ r, z ∈ a ∨ z ∈ b) ∧ (∀ z ∈ a, z ∈ o ∨ z ∈ r) ∧ (∀ z ∈ b, z ∈ o ∨ z ∈ r) ∧ r.length ≤ a.length + b.length := by
  unfold pickL at h
  by_cases h1 : a = o
  · rw [if_pos h1] at h; cases h; subst h1
    exact ⟨fun z hz => .inr hz, fun z hz => .inl hz, fun z hz => .inr hz, by omega⟩
  · rw [if_neg h1] at h
    by_cases h2 : b = o
    · rw [if_pos h2] at h; cases h; subst h2
      exact ⟨fun z hz => .inl hz, fun z hz => .inr hz, fun z hz => .inl hz, by omega⟩
    · rw [if_neg h2] at h
      by_cases h3 : a = b
      · rw [if_pos h3] at h; cases h; subst h3
        exact ⟨fun z hz => .inl hz, fun z hz => .inr hz, fun z hz => .inr hz, by omega⟩
      · rw [if_neg h3] at h; cases h
def mloop (o a b : List α) (f g : Nat → Option Nat) : Nat → Nat → Nat → Nat → Nat → Option (List α)
  | 0, _, i, j, k => pickL (o.drop i) (a.drop j) (b.drop k)
  | n + 1, at_, i, j, k => match f at_, g at_ with
    | some x, some y => (pickL (seg o i at_) (seg a j x) (seg b k y)).bind fun p => (mloop o a b f g n (at_ + 1) (at_ + 1) (x + 1) (y + 1)).map fun r => p ++ nth o (at_ : Int) :: r
    | _, _ => mloop o a b f g n (at_ + 1) i j k
theorem mloop_zero (o a b : List α) (f g : Nat → Option Nat) (t i j k : Nat) : mloop o a b f g 0 t i j k = pickL (o.drop i) (a.drop j) (b.drop k) := rfl
theorem mloop_some {o a b : List α} {f g : Nat → Option Nat} {n t i j k x y : Nat} (hf : f t = some x) (hg : g t = some y) : mloop o a b f g (n + 1) t i j k = (pickL (seg o i t) (seg a j x) (seg b k y)).bind fun p => (mloop o a b f g n (t + 1) (t + 1) (x + 1) (y + 1)).map fun r => p ++ nth o (t : Int) :: r := by
  rw [mloop, hf, hg]
theorem mloop_none {o a b : List α} {f g : Nat → Option Nat} {n t i j k : Nat} (h : f t = none ∨ g t = none) : mloop o a b f g (n + 1) t i j k = mloop o a b f g n (t + 1) i j k := by
  rw [mloop]
  rcases h with h | h
  · rw [h]
  · rw [h]; cases f t <;> rfl
structure Mates (o a : List α) (f : Nat → Option Nat) : Prop where
  lt : ∀ {t x}, f t = some x → t < o.length ∧ x < a.length
  eq : ∀ {t x}, f t = some x → nth o (t : Int) = nth a (x : Int)
  mono : ∀ {t x u y}, f t = some x → f u = some y → t < u → x < y
def From (f : Nat → Option Nat) (t j : Nat) : Prop := ∀ u x, t ≤ u → f u = some x → j ≤ x
theorem From.zero (f : Nat → Option Nat) (t : Nat) : From f t 0 := fun _ _ _ _ => Nat.zero_le _
theorem From.skip {f : Nat → Option Nat} {t j : Nat} (h : From f t j) : From f (t + 1) j := fun u x hu hx => h u x (by omega) hx
theorem From.step {o a : List α} {f : Nat → Option Nat} (m : Mates o a f) {t x : Nat} (h : f t = some x) : From f (t + 1) (x + 1) := fun u y hu hy => m.mono h hy (by omega)
theorem mem_seg {l : List α} {i j : Nat} {z : α} (h : z ∈ seg l i j) : z ∈ l := List.mem_of_mem_drop (List.mem_of_mem_take h)
theorem mem_split {l : List α} {i j : Nat} (hij : i ≤ j) (hj : j < l.length) {z : α} (h : z ∈ l.drop i) : z ∈ seg l i j ∨ z = nth l (j : Int) ∨ z ∈ l.drop (j + 1) := by
  rw [← seg_app l hij, drop_nth l hj] at h
  rcases List.mem_append.1 h with h | h
  · exact .inl h
  · rcases List.mem_cons.1 h with h | h
    · exact .inr (.inl h)
    · exact .inr (.inr h)
theorem mloop_keep {o a b : List α} {f g : Nat → Option Nat} (mf : Mates o a f) (mg : Mates o b g) (n t i j k : Nat) (hn : t + n = o.length) (hj : From f t j) (hk : From g t k) (r : List α) (h : mloop o a b f g n t i j k = some r) :
    (∀ z ∈ r, z ∈ a ∨ z ∈ b) ∧ (∀ z ∈ a.drop j, z ∈ o ∨ z ∈ r) ∧ (∀ z ∈ b.drop k, z ∈ o ∨ z ∈ r) ∧ r.length ≤ (a.drop j).length + (b.drop k).length := by
  induction n generalizing t i j k r with
  | zero =>
    rw [mloop_zero] at h
    obtain ⟨h1, h2, h3, h4⟩ := pickL_mem h
    exact ⟨fun z hz => (h1 z hz).imp List.mem_of_mem_drop List.mem_of_mem_drop, fun z hz => (h2 z hz).imp List.mem_of_mem_drop id, fun z hz => (h3 z hz).imp List.mem_of_mem_drop id, h4⟩
  | succ n ih =>
    cases hf : f t with
    | none => rw [mloop_none (.inl hf)] at h; exact ih _ _ _ _ (by omega) hj.skip hk.skip _ h
    | some x => cases hg : g t with
      | none => rw [mloop_none (.inr hg)] at h; exact ih _ _ _ _ (by omega) hj.skip hk.skip _ h
      | some y =>
        rw [mloop_some hf hg] at h
        cases hp : pickL (seg o i t) (seg a j x) (seg b k y) with
        | none => rw [hp] at h; cases h
        | some p =>
          rw [hp, Option.bind_some] at h
          cases hr : mloop o a b f g n (t + 1) (t + 1) (x + 1) (y + 1) with
          | none => rw [hr] at h; cases h
          | some q =>
            rw [hr, Option.map_some] at h; cases h
            obtain ⟨h1, h2, h3, h4⟩ := pickL_mem hp
            obtain ⟨g1, g2, g3, g4⟩ := ih _ _ _ _ (by omega) (.step mf hf) (.step mg hg) _ hr
            have hjx := hj t x (Nat.le_refl _) hf
            have hky := hk t y (Nat.le_refl _) hg
            have hx := (mf.lt hf).2
            have hy := (mg.lt hg).2
            have ex := mf.eq hf
            have ey := mg.eq hg
            refine ⟨fun z hz => ?_, fun z hz => ?_, fun z hz => ?_, ?_⟩
            · rcases List.mem_append.1 hz with hz | hz
              · exact (h1 z hz).imp mem_seg mem_seg
              · rcases List.mem_cons.1 hz with rfl | hz
                · rw [ex]; exact .inl (nth_mem a hx)
                · exact g1 z hz
            · rcases mem_split hjx hx hz with hz | rfl | hz
              · exact (h2 z hz).imp mem_seg (fun h => List.mem_append_left _ h)
              · exact .inr (List.mem_append_right _ (by rw [ex]; exact List.mem_cons_self))
              · exact (g2 z hz).imp id (fun h => List.mem_append_right _ (List.mem_cons_of_mem _ h))
            · rcases mem_split hky hy hz with hz | rfl | hz
              · exact (h3 z hz).imp mem_seg (fun h => List.mem_append_left _ h)
              · exact .inr (List.mem_append_right _ (by rw [ey]; exact List.mem_cons_self))
              · exact (g3 z hz).imp id (fun h => List.mem_append_right _ (List.mem_cons_of_mem _ h))
            · rw [seg_len a _ _ (by omega), seg_len b _ _ (by omega)] at h4
              simp only [List.length_append, List.length_cons, List.length_drop] at g4 ⊢
              omega
end
end Go.Proofs.Ytndjggncgpjolaa

namespace Go.Proofs.Ytndjggncgpjolaa
set_option linter.unusedVariables false
set_option linter.unusedSimpArgs false
set_option linter.unusedSectionVars false
def few (a b : List Pt) : Bool := decide (a.length ≤ 12) && decide (b.length ≤ 12)
theorem few_iff {a b : List Pt} : few a b = true ↔ a.length ≤ 12 ∧ b.length ≤ 12 := by simp [few]
theorem few_not {a b : List Pt} : few a b = false ↔ ¬ (a.length ≤ 12 ∧ b.length ≤ 12) := by rw [← few_iff]; simp
def slen (a b : List Pt) : Int := if few a b then (lcs a b : Nat) else 0
def mkP (p : Nat × Nat) : Pair := ⟨p.1, p.2⟩
def spairs (a b : List Pt) : List Pair := if few a b then (pairs 0 0 a b).map mkP else []
theorem spairs_few {a b : List Pt} (h : few a b = true) : spairs a b = (pairs 0 0 a b).map mkP := by unfold spairs; rw [if_pos h]
theorem spairs_len (a b : List Pt) : ((spairs a b).length : Int) = slen a b := by
  unfold spairs slen
  by_cases h : few a b = true
  · rw [if_pos h, if_pos h, List.length_map, pairs_len]
  · rw [if_neg h, if_neg h]; rfl
theorem slen_le (a b : List Pt) : 0 ≤ slen a b ∧ slen a b ≤ a.length ∧ slen a b ≤ b.length ∧ slen a b ≤ 12 := by
  unfold slen
  by_cases h : few a b = true
  · have := few_iff.1 h
    have h1 := lcs_le1 a b; have h2 := lcs_le2 a b
    rw [if_pos h]; omega
  · rw [if_neg h]; omega
def RowOk (a b : List Pt) (i : Nat) (j : Nat) (xs : List Int) : Prop := xs.length = b.length + 1 ∧ ∀ m : Nat, j ≤ m → m ≤ b.length → nth xs (m : Int) = (lcs (a.drop i) (b.drop m) : Nat)
def Tab (a b : List Pt) (D : Nat → Nat → Prop) (t : List (List Int)) : Prop := t.length = a.length + 1 ∧ ∀ r : Nat, r ≤ a.length → (nth t (r : Int)).length = b.length + 1 ∧ ∀ m : Nat, m ≤ b.length → D r m → nth (nth t (r : Int)) (m : Int) = (lcs (a.drop r) (b.drop m) : Nat)
theorem Tab.set {a b : List Pt} {D : Nat → Nat → Prop} {t : List (List Int)} (h : Tab a b D t) {i j : Nat} (hi : i ≤ a.length) (hj : j ≤ b.length) {v : Int} (hv : v = (lcs (a.drop i) (b.drop j) : Nat)) {D' : Nat → Nat → Prop} (hD : ∀ r m, D' r m → D r m ∨ (r = i ∧ m = j)) :
    Tab a b D' (t.set i ((nth t (i : Int)).set j v)) := by
  obtain ⟨h1, h2⟩ := h
  refine ⟨by rw [List.length_set]; exact h1, fun r hr => ?_⟩
  rw [nth_set _ (by omega)]
  by_cases e : r = i
  · subst e
    rw [if_pos rfl]
    refine ⟨by rw [List.length_set]; exact (h2 r hr).1, fun m hm hd => ?_⟩
    rw [nth_set _ (by rw [(h2 r hr).1]; omega)]
    by_cases f : m = j
    · subst f; rw [if_pos rfl, hv]
    · rw [if_neg f]
      exact (h2 r hr).2 m hm ((hD r m hd).resolve_right fun x => f x.2)
  · rw [if_neg e]
    exact ⟨(h2 r hr).1, fun m hm hd => (h2 r hr).2 m hm ((hD r m hd).resolve_right fun x => e x.1)⟩
def mateI (l : List Pair) (k : Int) : Int := match l with
  | [] => -1
  | p :: l => if p.A == k then p.B else mateI l k
theorem mateI_nil (k : Int) : mateI [] k = -1 := rfl
theorem mateI_cons (p : Pair) (l : List Pair) (k : Int) : mateI (p :: l) k = if p.A == k then p.B else mateI l k := rfl
def mateN (l : List (Nat × Nat)) (k : Nat) : Option Nat := match l with
  | [] => none
  | p :: l => if p.1 = k then some p.2 else mateN l k
theorem mateI_mk (l : List (Nat × Nat)) (k : Nat) : mateI (l.map mkP) (k : Int) = match mateN l k with | some x => (x : Int) | none => -1 := by
  induction l with
  | nil => rfl
  | cons p l ih =>
    rw [List.map_cons, mateI_cons, mateN]
    by_cases h : p.1 = k
    · rw [if_pos (by simp [mkP, h]), if_pos h]; rfl
    · rw [if_neg (by simp [mkP]; omega), if_neg h, ih]
theorem mateN_mem {l : List (Nat × Nat)} {k x : Nat} (h : mateN l k = some x) : (k, x) ∈ l := by
  induction l with
  | nil => cases h
  | cons p l ih =>
    rw [mateN] at h
    by_cases e : p.1 = k
    · rw [if_pos e] at h; cases h; subst e; exact List.mem_cons_self
    · rw [if_neg e] at h; exact List.mem_cons_of_mem _ (ih h)
def part (o a : List Pt) : Nat → Option Nat := mateN (pairs 0 0 o a)
theorem part_mates (o a : List Pt) : Mates o a (part o a) := by
  have hm : ∀ {t x}, part o a t = some x → ∃ z, o[t]? = some z ∧ a[x]? = some z := fun {t x} h => by
    obtain ⟨k, l, e, z, h1, h2⟩ := pairs_mem 0 0 o a _ (mateN_mem h)
    rw [Nat.zero_add, Nat.zero_add] at e; cases e
    exact ⟨z, h1, h2⟩
  refine ⟨fun {t x} h => ?_, fun {t x} h => ?_, fun {t x u y} h1 h2 hu => ?_⟩
  · obtain ⟨z, h1, h2⟩ := hm h
    exact ⟨(List.getElem?_eq_some_iff.1 h1).1, (List.getElem?_eq_some_iff.1 h2).1⟩
  · obtain ⟨z, h1, h2⟩ := hm h
    obtain ⟨e1, e2⟩ := List.getElem?_eq_some_iff.1 h1
    obtain ⟨e3, e4⟩ := List.getElem?_eq_some_iff.1 h2
    rw [nth_nat _ e1, nth_nat _ e3, e2, e4]
  · have ho := pairs_ord 0 0 o a
    have m1 := mateN_mem h1; have m2 := mateN_mem h2
    generalize pairs 0 0 o a = l at ho m1 m2
    induction l with
    | nil => cases m1
    | cons p l ih =>
      obtain ⟨q1, q2⟩ := List.pairwise_cons.1 ho
      rcases List.mem_cons.1 m1 with e1 | n1
      · rcases List.mem_cons.1 m2 with e2 | n2
        · subst e1; cases e2; omega
        · subst e1; exact (q1 _ n2).2
      · rcases List.mem_cons.1 m2 with e2 | n2
        · subst e2; have := (q1 _ n1).1; dsimp only at this; omega
        · exact ih q2 n1 n2
def smerge (o a b : List Pt) : Option (List Pt) := if few o a && few o b then mloop o a b (part o a) (part o b) o.length 0 0 0 0 else none
theorem smerge_few {o a b : List Pt} (h1 : few o a = true) (h2 : few o b = true) : smerge o a b = mloop o a b (part o a) (part o b) o.length 0 0 0 0 := by unfold smerge; rw [h1, h2]; rfl
theorem smerge_not {o a b : List Pt} (h : few o a = false ∨ few o b = false) : smerge o a b = none := by
  unfold smerge; rcases h with h | h <;> rw [h] <;> simp
theorem smerge_keep {o a b r : List Pt} (h : smerge o a b = some r) : (∀ z ∈ r, z ∈ a ∨ z ∈ b) ∧ (∀ z ∈ a, z ∈ o ∨ z ∈ r) ∧ (∀ z ∈ b, z ∈ o ∨ z ∈ r) ∧ r.length ≤ a.length + b.length := by
  unfold smerge at h
  by_cases hf : (few o a && few o b) = true
  · rw [if_pos hf] at h
    exact mloop_keep (part_mates o a) (part_mates o b) _ _ _ _ _ (by omega) (From.zero _ _) (From.zero _ _) _ h
  · rw [if_neg hf] at h; cases h
theorem smerge_len {o a b r : List Pt} (h : smerge o a b = some r) : r.length ≤ 24 := by
  have h1 := (smerge_keep h).2.2.2
  unfold smerge at h
  by_cases hf : (few o a && few o b) = true
  · rw [Bool.and_eq_true, few_iff, few_iff] at hf; omega
  · rw [if_neg hf] at h; cases h
end Go.Proofs.Ytndjggncgpjolaa

namespace Go.Proofs.Ytndjggncgpjolaa
set_option linter.unusedVariables false
set_option linter.unusedSimpArgs false
set_option linter.unusedSectionVars false
def allN (n : Nat) (c : Nat → Bool) : Bool := (List.range n).all c
theorem allN_true {n : Nat} {c : Nat → Bool} (h : ∀ j, j < n → c j = true) : allN n c = true := by
  unfold allN; rw [List.all_eq_true]; intro j hj; exact h j (List.mem_range.1 hj)
theorem allN_false {n k : Nat} {c : Nat → Bool} (hk : k < n) (h : c k = false) : allN n c = false := by
  unfold allN
  rw [Bool.eq_false_iff]; intro ha
  rw [List.all_eq_true] at ha
  rw [ha k (List.mem_range.2 hk)] at h; cases h
theorem allN_iff {n : Nat} {c : Nat → Bool} : allN n c = true ↔ ∀ j, j < n → c j = true := by
  unfold allN; rw [List.all_eq_true]; exact ⟨fun h j hj => h j (List.mem_range.2 hj), fun h j hj => h j (List.mem_range.1 hj)⟩
theorem loop_all (n : Nat) (c : Nat → Bool) {B : (Int → Prop) → (Int → Nat) → Int → Prop} {F : Prop}
    (hs : ∀ (I : Int → Prop) (mu : Int → Nat) (k : Nat), k < n → (∀ j, j < k → c j = true) → (c k = true → I ((k : Int) + 1) ∧ mu ((k : Int) + 1) < mu (k : Int)) → B I mu (k : Int))
    (hF : (∀ j, j < n → c j = true) → F) :
    ∃ (I : Int → Prop) (mu : Int → Nat), I 0 ∧ ∀ (i : Int), I i → (if decide (i < (n : Int)) then B I mu i else F) := by
  refine ⟨fun i => ∃ k : Nat, i = k ∧ k ≤ n ∧ ∀ j, j < k → c j = true, fun i => ((n : Int) - i).toNat, ⟨0, rfl, Nat.zero_le _, fun j hj => absurd hj (Nat.not_lt_zero _)⟩, ?_⟩
  rintro _ ⟨k, rfl, hk, ha⟩
  by_cases h : (k : Int) < (n : Int)
  · rw [if_pos (by simpa using h)]
    refine hs _ _ k (by omega) ha fun hc => ⟨⟨k + 1, by omega, by omega, fun j hj => ?_⟩, by omega⟩
    by_cases e : j = k
    · subst e; exact hc
    · exact ha j (by omega)
  · rw [if_neg (by simpa using h)]
    exact hF fun j hj => ha j (by omega)
theorem less_irr : ∀ a : Str, Op.bytesLess a a = false
  | [] => rfl
  | x :: a => by rw [Op.bytesLess]; simp [less_irr a]
theorem less_tri : ∀ a b : Str, (!(Op.bytesLess a b)) = (Op.bytesLess b a || b == a)
  | [], [] => rfl
  | [], y :: b => rfl
  | x :: a, [] => rfl
  | x :: a, y :: b => by
    rw [Op.bytesLess, Op.bytesLess]
    have h := less_tri a b
    by_cases h1 : x < y
    · have h2 : ¬ y < x := fun h => absurd (UInt8.lt_trans h1 h) (UInt8.lt_irrefl _)
      have h3 : ¬ y = x := fun e => by subst e; exact UInt8.lt_irrefl _ h1
      simp [h1, h2, h3]
    · by_cases h2 : y < x
      · have h3 : ¬ x = y := fun e => by subst e; exact UInt8.lt_irrefl _ h2
        simp [h1, h2, h3]
      · have h3 : x = y := UInt8.le_antisymm (UInt8.not_lt.1 h2) (UInt8.not_lt.1 h1)
        subst h3
        simp only [h1, decide_false, Bool.false_or, beq_self_eq_true, Bool.true_and]
        rw [h]
        congr 1
        rw [Bool.eq_iff_iff, beq_iff_eq, beq_iff_eq]
        simp
end Go.Proofs.Ytndjggncgpjolaa

namespace Go.Proofs.Ytndjggncgpjolaa
set_option linter.unusedVariables false
set_option linter.unusedSimpArgs false
set_option linter.unusedSectionVars false
def byteOk (b : UInt8) : Bool := !(decide ((b.toNat : Int) < 97)) && !(decide ((b.toNat : Int) > 122))
def wordOk (s : Str) : Bool := allN s.length (fun k => byteOk (nth s (k : Int))) && (decide (1 ≤ s.length) && decide (s.length ≤ 6))
def inR (x : Int) : Bool := decide (-1000 ≤ x) && decide (x ≤ 1000)
def ptOk (p : Pt) : Bool := inR p.X && inR p.Y
def ptsOk (p : List Pt) : Bool := allN p.length fun k => ptOk (nth p (k : Int)) && (decide (k = 0) || !(decide (nth p ((k : Int) - 1) = nth p (k : Int))))
def kindOk (kind : Int) (p : List Pt) : Bool :=
  if kind = 1 then decide (p.length = 1) else if kind = 2 then decide (2 ≤ p.length) && decide (p.length ≤ 6)
  else if kind = 3 then decide (3 ≤ p.length) && decide (p.length ≤ 6) && !(decide (nth p 0 = nth p ((p.length : Int) - 1))) else false
def shapeOk (s : Shape) : Bool := ptsOk s.Pts && kindOk s.Kind s.Pts
def tagsOk (t : List Tag) : Bool := allN t.length fun k => wordOk (nth t (k : Int)).Key && wordOk (nth t (k : Int)).Val && (decide (k = 0) || Op.bytesLess (nth t ((k : Int) - 1)).Key (nth t (k : Int)).Key)
def featOk (f : Feat) : Bool := tagsOk f.Tags && decide (f.Tags.length ≤ 4) && wordOk f.Id && shapeOk f.Shape
theorem Feat.ext_iff' (a b : Feat) : a = b ↔ a.Id = b.Id ∧ a.Shape = b.Shape ∧ a.Tags = b.Tags := by cases a; cases b; simp
theorem Shape.ext_iff' (a b : Shape) : a = b ↔ a.Kind = b.Kind ∧ a.Pts = b.Pts := by cases a; cases b; simp
end Go.Proofs.Ytndjggncgpjolaa

namespace Go.Proofs.Ytndjggncgpjolaa
set_option linter.unusedVariables false
set_option linter.unusedSimpArgs false
set_option linter.unusedSectionVars false
def findN (n : Nat) (c : Nat → Bool) : Int := match (List.range n).find? c with | some k => (k : Int) | none => -1
theorem findN_hit {n k : Nat} {c : Nat → Bool} (hk : k < n) (h : c k = true) (hp : ∀ j, j < k → c j = false) : findN n c = (k : Int) := by
  unfold findN
  have : (List.range n).find? c = some k := by
    rw [List.find?_range_eq_some]
    exact ⟨h, List.mem_range.2 hk, fun j hj => by rw [hp j hj]; rfl⟩
  rw [this]
theorem findN_none {n : Nat} {c : Nat → Bool} (h : ∀ j, j < n → c j = false) : findN n c = -1 := by
  unfold findN
  have : (List.range n).find? c = none := by
    rw [List.find?_eq_none]; intro j hj; rw [h j (List.mem_range.1 hj)]; exact Bool.false_ne_true
  rw [this]
theorem findN_le (n : Nat) (c : Nat → Bool) : -1 ≤ findN n c ∧ findN n c < n := by
  unfold findN
  cases h : (List.range n).find? c with
  | none => exact ⟨Int.le_refl _, by dsimp only; omega⟩
  | some k => have := List.mem_range.1 (List.mem_of_find?_eq_some h); exact ⟨by dsimp only; omega, by dsimp only; omega⟩
theorem loop_find (n : Nat) (c : Nat → Bool) {B : (Int → Prop) → (Int → Nat) → Int → Prop} {Q : Int → Prop} (hq : Q (findN n c))
    (hs : ∀ (I : Int → Prop) (mu : Int → Nat) (k : Nat), k < n → (c k = true → Q (k : Int)) → (c k = false → I ((k : Int) + 1) ∧ mu ((k : Int) + 1) < mu (k : Int)) → B I mu (k : Int)) :
    ∃ (I : Int → Prop) (mu : Int → Nat), I 0 ∧ ∀ (i : Int), I i → (if decide (i < (n : Int)) then B I mu i else Q (-1)) := by
  refine loop_all n (fun k => !(c k)) (fun I mu k hk hp hn => hs I mu k hk (fun h => ?_) (fun h => hn (by rw [h]; rfl))) (fun ha => ?_)
  · rw [findN_hit hk h (fun j hj => by have := hp j hj; rwa [Bool.not_eq_true'] at this)] at hq; exact hq
  · rw [findN_none (fun j hj => by have := ha j hj; rwa [Bool.not_eq_true'] at this)] at hq; exact hq
section
variable {α : Type} [Inhabited α] [DecidableEq α]
end
end Go.Proofs.Ytndjggncgpjolaa

namespace Go.Proofs.Ytndjggncgpjolaa
set_option linter.unusedVariables false
set_option linter.unusedSimpArgs false
set_option linter.unusedSectionVars false
theorem less_trans : ∀ {a b c : Str}, Op.bytesLess a b = true → Op.bytesLess b c = true → Op.bytesLess a c = true
  | _, _, [], _, h => by rename_i b _; cases b <;> simp [Op.bytesLess] at h
  | _, [], _ :: _, h, _ => by rename_i a _ _ _; cases a <;> simp [Op.bytesLess] at h
  | [], _ :: _, _ :: _, _, _ => by simp [Op.bytesLess]
  | x :: a, y :: b, z :: c, h1, h2 => by
    rw [Op.bytesLess] at h1 h2 ⊢
    simp only [Bool.or_eq_true, Bool.and_eq_true, decide_eq_true_eq, beq_iff_eq] at h1 h2 ⊢
    rcases h1 with h1 | ⟨rfl, h1⟩
    · rcases h2 with h2 | ⟨rfl, h2⟩
      · exact .inl (UInt8.lt_trans h1 h2)
      · exact .inl h1
    · rcases h2 with h2 | ⟨rfl, h2⟩
      · exact .inl h2
      · exact .inr ⟨rfl, less_trans h1 h2⟩
theorem less_asym {a b : Str} (h : Op.bytesLess a b = true) : Op.bytesLess b a = false := by
  cases e : Op.bytesLess b a with
  | false => rfl
  | true => have := less_trans h e; rw [less_irr] at this; cases this
theorem less_or {a b : Str} (h : Op.bytesLess a b = false) : Op.bytesLess b a = true ∨ b = a := by
  have := less_tri a b
  rw [h] at this
  simpa using this.symm
def SS (l : List Str) : Prop := l.Pairwise fun x y => Op.bytesLess x y = true
theorem SS.ext : ∀ {l m : List Str}, SS l → SS m → (∀ x, x ∈ l ↔ x ∈ m) → l = m
  | [], [], _, _, _ => rfl
  | [], y :: m, _, _, h => by have := (h y).2 List.mem_cons_self; cases this
  | x :: l, [], _, _, h => by have := (h x).1 List.mem_cons_self; cases this
  | x :: l, y :: m, hl, hm, h => by
    obtain ⟨l1, l2⟩ := List.pairwise_cons.1 hl
    obtain ⟨m1, m2⟩ := List.pairwise_cons.1 hm
    have e : x = y := by
      rcases List.mem_cons.1 ((h x).1 List.mem_cons_self) with e | e
      · exact e
      · rcases List.mem_cons.1 ((h y).2 List.mem_cons_self) with e' | e'
        · exact e'.symm
        · have := less_trans (m1 x e) (l1 y e'); rw [less_irr] at this; cases this
    subst e
    rw [SS.ext l2 m2 fun z => ⟨fun hz => ?_, fun hz => ?_⟩]
    · rcases List.mem_cons.1 ((h z).1 (List.mem_cons_of_mem _ hz)) with e | e
      · subst e; have := l1 z hz; rw [less_irr] at this; cases this
      · exact e
    · rcases List.mem_cons.1 ((h z).2 (List.mem_cons_of_mem _ hz)) with e | e
      · subst e; have := m1 z hz; rw [less_irr] at this; cases this
      · exact e
theorem le_less (x y : Str) : decide (x ≤ y) = !(Op.bytesLess y x) := by
  rw [bytesLess_eq]
  by_cases h : y < x
  · rw [decide_eq_true h, decide_eq_false (by rw [List.not_le]; exact h)]; rfl
  · rw [decide_eq_false h, decide_eq_true (List.not_lt.1 h)]; rfl
theorem sortS_le (l : List Str) : (sortS l).Pairwise fun x y => Op.bytesLess y x = false := by
  have h := List.pairwise_mergeSort (le := fun x y : Str => decide (x ≤ y)) (fun a b c h1 h2 => by
    rw [le_less, Bool.not_eq_true'] at h1 h2 ⊢
    cases e : Op.bytesLess c a with
    | false => rfl
    | true =>
      rcases less_or h1 with h3 | h3
      · have := less_trans e h3; rw [h2] at this; cases this
      · subst h3; rw [h2] at e; cases e) (fun a b => by
    rw [le_less, le_less]
    cases e : Op.bytesLess b a with
    | false => rfl
    | true => rw [less_asym e]; rfl) l
  exact h.imp fun {x y} h => by rw [le_less, Bool.not_eq_true'] at h; exact h
theorem sortS_mem {l : List Str} {x : Str} : x ∈ sortS l ↔ x ∈ l := List.mem_mergeSort
section
open Go.Lib
theorem compact_of (l : List Str) (h : l.Pairwise fun x y => Op.bytesLess y x = false) : SS (compact l) ∧ ∀ x, x ∈ compact l ↔ x ∈ l := by
  have hle : ∀ i j, i ≤ j → j < l.length → Op.bytesLess (l.toArray[j]!) (l.toArray[i]!) = false := fun i j hij hj => by
    have hi : i < l.length := by omega
    simp only [List.getElem!_toArray, getElem!_pos l i hi, getElem!_pos l j hj]
    rcases Nat.lt_or_eq_of_le hij with hlt | rfl
    · exact List.pairwise_iff_getElem.1 h i j hi hj hlt
    · exact less_irr _
  constructor
  · unfold compact compactUpTo SS
    rw [List.pairwise_map, List.pairwise_filter]
    refine List.pairwise_iff_getElem.2 fun i j hi hj hij => ?_
    simp only [List.length_range] at hi hj
    simp only [List.getElem_range]
    intro _ hk
    have hj0 : 0 < j := by omega
    have hne : l.toArray[j]! ≠ l.toArray[j - 1]! := fun e => by rw [keeps_neg hj0 e] at hk; cases hk
    have h1 : Op.bytesLess (l.toArray[j - 1]!) (l.toArray[j]!) = true := by
      rcases less_or (hle (j - 1) j (by omega) hj) with h2 | h2
      · exact h2
      · exact absurd h2.symm hne
    rcases less_or (hle i (j - 1) (by omega) (by omega)) with h3 | h3
    · exact less_trans h3 h1
    · rw [h3]; exact h1
  · intro x
    constructor
    · exact compact_mem
    · intro hx
      obtain ⟨k, hk, rfl⟩ := List.getElem_of_mem hx
      have key : ∀ k, k < l.length → l.toArray[k]! ∈ compact l := by
        intro k
        induction k using Nat.strongRecOn with
        | _ k ih =>
          intro hk
          cases e : keeps l.toArray k with
          | true =>
            unfold compact compactUpTo
            exact List.mem_map.2 ⟨k, List.mem_filter.2 ⟨List.mem_range.2 hk, e⟩, rfl⟩
          | false =>
            have hk0 : 0 < k := by
              rcases Nat.eq_zero_or_pos k with h0 | h0
              · subst h0; rw [keeps_lt_one _ 0 (by omega)] at e; cases e
              · exact h0
            have he : l.toArray[k]! = l.toArray[k - 1]! := Classical.byContradiction fun hne => by rw [keeps_pos hne] at e; cases e
            rw [he]; exact ih (k - 1) (by omega) (by omega)
      have := key k hk
      simpa [getElem!_pos l k hk] using this
end
def uniq (l : List Str) : List Str := Lib.compact (sortS l)
theorem uniq_ss (l : List Str) : SS (uniq l) := (compact_of _ (sortS_le l)).1
theorem uniq_mem {l : List Str} {x : Str} : x ∈ uniq l ↔ x ∈ l := ((compact_of _ (sortS_le l)).2 x).trans sortS_mem
theorem word_len {s : Str} (h : wordOk s = true) : s.length ≤ 6 := by
  unfold wordOk at h
  simp only [Bool.and_eq_true, decide_eq_true_eq] at h
  exact h.2.2
theorem bulk_small {α : Type} [Bulk α] (l : List α) (m : Nat) (h : ∀ x ∈ l, bulk x ≤ m) : bulk l ≤ l.length * (m + 1) := by
  induction l with
  | nil => exact Nat.zero_le _
  | cons x l ih =>
    have h1 := h x List.mem_cons_self
    have h2 := ih fun y hy => h y (List.mem_cons_of_mem _ hy)
    rw [bulk_cons, List.length_cons, Nat.add_mul]
    omega
theorem feat_small {f : Feat} (h : featOk f = true) : bulk f ≤ 100 ∧ f.Id.length ≤ 6 := by
  unfold featOk at h
  simp only [Bool.and_eq_true, decide_eq_true_eq] at h
  obtain ⟨⟨⟨h1, h2⟩, h3⟩, h4⟩ := h
  have hi := word_len h3
  have e1 : bulk f = bulk f.Id + (bulk f.Shape.Kind + bulk f.Shape.Pts) + bulk f.Tags := rfl
  have e2 : bulk f.Id = f.Id.length := bulk_str _
  have e3 : bulk f.Shape.Kind = 0 := rfl
  have e4 : bulk f.Shape.Pts = f.Shape.Pts.length := bulk_flat (fun _ => rfl) _
  have ht : bulk f.Tags ≤ f.Tags.length * (12 + 1) := bulk_small _ 12 fun t hm => by
    unfold tagsOk at h1
    obtain ⟨k, hk, rfl⟩ := List.getElem_of_mem hm
    have := allN_iff.1 h1 k hk
    rw [nth_nat _ hk] at this
    simp only [Bool.and_eq_true] at this
    have a1 := word_len this.1.1
    have a2 := word_len this.1.2
    have b0 : bulk f.Tags[k] = bulk f.Tags[k].Key + bulk f.Tags[k].Val := rfl
    have b1 : bulk f.Tags[k].Key = f.Tags[k].Key.length := bulk_str _
    have b2 : bulk f.Tags[k].Val = f.Tags[k].Val.length := bulk_str _
    omega
  have hp : f.Shape.Pts.length ≤ 6 := by
    unfold shapeOk kindOk at h4
    simp only [Bool.and_eq_true] at h4
    have := h4.2
    split at this
    · simp only [decide_eq_true_eq] at this; omega
    · split at this
      · simp only [Bool.and_eq_true, decide_eq_true_eq] at this; omega
      · split at this
        · simp only [Bool.and_eq_true, decide_eq_true_eq] at this; omega
        · cases this
  have : f.Tags.length * (12 + 1) ≤ 52 := by omega
  omega
def zeroF : Feat := ⟨[], ⟨0, []⟩, []⟩
theorem uniq_len (l : List Str) : (uniq l).length ≤ l.length := by
  unfold uniq
  have := compact_le (sortS l)
  have h2 : (sortS l).length = l.length := List.length_mergeSort _
  omega
end Go.Proofs.Ytndjggncgpjolaa
