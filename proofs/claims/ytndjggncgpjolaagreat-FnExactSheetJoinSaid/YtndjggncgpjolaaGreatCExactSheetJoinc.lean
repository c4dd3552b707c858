/- It is proved here that the law FnExactSheetJoin of the given program holds whatever it is handed: the walks through the code, the plain laws and the row, in this order.
   Conditions: none. -/
import Derived.Below
import Derived.ChangeArms
import Derived.ChangeOld
import Derived.ChangeSlices
import Derived.DataReads
import Derived.Deep.Quiet
import Derived.KernelRfl
import Derived.Laws.Build
import Derived.Laws.IdiomStrings
import Derived.Laws.OwnMore
import Derived.Laws.Slices
import Derived.Laws.StructEq
import Derived.OpenShut
import Derived.ProofKit
import Derived.Shelf.Slices.Cells
import Derived.Shelf.Slices.CompactS
import Derived.Shelf.Slices.In.SortNone
import Derived.Shelf.Small.Bits
import Derived.Shelf.Sort.Plain
import Derived.Shelf.Strconv.Itoa0
import Derived.ShutString
import Derived.SizedLaws
import Derived.StillTail
import Derived.Test.YtndjggncgpjolaaGreatProg
import Derived.Test.YtndjggncgpjolaaGreatRows
import Derived.WalkKit
import Derived.Test.YtndjggncgpjolaaGreatCExactSheetJoina
import Derived.Test.YtndjggncgpjolaaGreatCExactSheetJoinb
namespace Go.Proofs.YtndjggncgpjolaaGreat
set_option linter.unusedVariables false
set_option linter.unusedSimpArgs false
set_option linter.unusedSectionVars false
set_option maxHeartbeats 8000000
set_option maxRecDepth 100000
section
open Go.RowKit
def F98.E (o : Feat) (a : Feat) (b : Feat) (Q : Feat → List Str → Prop) : Prop :=
 F63.E o.Shape a.Shape b.Shape (fun r r2 => (∃ (J134 : (List Str) → Prop), ((if !r2 then (([] : List Str).length + ([([115, 104, 97, 112, 101] : Str)] : List Str).length ≤ 268435456) ∧ J134 (([] : List Str) ++ ([([115, 104, 97, 112, 101] : Str)] : List Str)) else J134 ([] : List Str))) ∧ ∀ (xs : List Str), J134 xs → F80.E r (fun r3 => F97.E o.Tags a.Tags b.Tags (fun r4 => (∃ (I2328 : (List Str) → Int → (List Tag) → Prop) (mu2329 : (List Str) → Int → (List Tag) → Nat), I2328 xs 0 ([] : List Tag) ∧ ∀ (xs4 : List Str) (i2 : Int) (xs5 : List Tag), I2328 xs4 i2 xs5 → (if decide (i2 < (r4.length : Int)) then ((0 : Int) ≤ i2 ∧ i2 < (r4.length : Int)) ∧ F117.E o.Tags a.Tags b.Tags (nth r4 i2) (fun r5 r6 r7 => (∃ (J2411 : (List Str) → Prop), ((if !r7 then ((0 : Int) ≤ i2 ∧ i2 < (r4.length : Int)) ∧ (([116, 97, 103, 32] : Str).length + (nth r4 i2).length ≤ 9223372036854775807) ∧ (xs4.length + ([(([116, 97, 103, 32] : Str) ++ (nth r4 i2))] : List Str).length ≤ 268435456) ∧ J2411 (xs4 ++ ([(([116, 97, 103, 32] : Str) ++ (nth r4 i2))] : List Str)) else J2411 xs4)) ∧ ∀ (xs6 : List Str), J2411 xs6 → (∃ (J2516 : (List Tag) → Prop), ((if r6 then ((0 : Int) ≤ i2 ∧ i2 < (r4.length : Int)) ∧ (xs5.length + ([(⟨(nth r4 i2), r5⟩ : Tag)] : List Tag).length ≤ 268435456) ∧ J2516 (xs5 ++ ([(⟨(nth r4 i2), r5⟩ : Tag)] : List Tag)) else J2516 xs5)) ∧ ∀ (xs7 : List Tag), J2516 xs7 → (I64 (i2 + 1)) ∧ I2328 xs6 (i2 + 1) xs7 ∧ mu2329 xs6 (i2 + 1) xs7 < mu2329 xs4 i2 xs5))) else F75.E (⟨a.Id, r3, xs5⟩ : Feat) (fun r8 => (if !r8 then F81.E a (fun r9 => Q r9 ([([109, 117, 99, 104] : Str)] : List Str)) else Q (⟨a.Id, r3, xs5⟩ : Feat) xs4))))))))
theorem F98.calls {O : Ob} (w0 : World) (hO : Ok w0 O) (o : Feat) (A2 : Option Addr) (n3 c4 : Nat) (A7 : Option Addr) (n8 c9 : Nat) (hs1 : Lim o.Id) (hp5 : Sl kPt w0 (Fr O) (.slice A2 n3 c4) o.Shape.Pts) (hw : Sl kTag w0 (Fr O) (.slice A7 n8 c9) o.Tags) (a : Feat) (a2 : Option Addr) (a3 a4 : Nat) (am : Option Addr) (an ao : Nat) (e5 : Lim a.Id) (e6 : Sl kPt w0 (Fr O) (.slice a2 a3 a4) a.Shape.Pts) (hx : Sl kTag w0 (Fr O) (.slice am an ao) a.Tags) (b : Feat) (bp : Option Addr) (bq br : Nat) (a5 : Option Addr) (a6 a7 : Nat) (qy : Lim b.Id) (e7 : Sl kPt w0 (Fr O) (.slice bp bq br) b.Shape.Pts) (hy : Sl kTag w0 (Fr O) (.slice a5 a6 a7) b.Tags) (Q : Feat → List Str → Prop) (h : F98.E o a b Q) :
  Ret Tryz.prog 115 [.agg #[vs o.Id, vi o.Shape.Kind, .slice A2 n3 c4, .slice A7 n8 c9], .agg #[vs a.Id, vi a.Shape.Kind, .slice a2 a3 a4, .slice am an ao], .agg #[vs b.Id, vi b.Shape.Kind, .slice bp bq br, .slice a5 a6 a7]] w0 (fun v w' => ∃ (r0 : Feat) (r1 : List Str) (A0 : Option Addr) (n0 c0 : Nat) (A2 : Option Addr) (n2 c2 : Nat) (A4 : Option Addr) (n4 c4 : Nat), v = .tuple #[.agg #[vs r0.Id, vi r0.Shape.Kind, .slice A0 n0 c0, .slice A2 n2 c2], .slice A4 n4 c4] ∧ Q r0 r1 ∧ Gr w0 w' none ∧ Ok w' ([bk A0, bk A2, bk A4] ++ O) ∧ (∀ b, some b ∈ [bk A0, bk A2, bk A4] → w0.heap.size ≤ b) ∧ Lim r0.Id ∧ Ow kPt 114 w' ([bk A0, bk A2, bk A4] ++ O) (.slice A0 n0 c0) r0.Shape.Pts ∧ Ow kTag 106 w' ([bk A0, bk A2, bk A4] ++ O) (.slice A2 n2 c2) r0.Tags ∧ Ow Kd.str 9 w' ([bk A0, bk A2, bk A4] ++ O) (.slice A4 n4 c4) r1) := by
 unfold F98.E at h
 have H := h
 clear h
 have hc0 := Ct.init hO
 refine Ret_enter Tryz.func115 rfl 96 rfl [.cell 6 61, .tmp 7] rfl rfl ?_
 refine W_seq (W_reg (L_box [vs o.Id, vi o.Shape.Kind, .slice A2 n3 c4, .slice A7 n8 c9] rfl fun qz au jv hu38 jw jx => ?_))
 have jy := Fb.mk hc0.ok jv jx
 have e8 := hc0.k0 jw
 refine L_box [vs a.Id, vi a.Shape.Kind, .slice a2 a3 a4, .slice am an ao] rfl fun q0 ai jz hu47 hz j0 => ?_
 have j1 := Fb.mk e8.ok jz j0
 have e9 := e8.k0 hz
 refine L_box [vs b.Id, vi b.Shape.Kind, .slice bp bq br, .slice a5 a6 a7] rfl fun q1 av j2 hu56 h0 j3 => ?_
 have j4 := Fb.mk e9.ok j2 j3
 have h1 := e9.k0 h0
 refine L_alloc [vs [], .int .i64 0, .slice none 0 0, .slice none 0 0] ze61 fun q2 aa h2 hu65 h3 h4 => ?_
 have h5 := h1.own h3 (some aa) (oglt h2 hu65)
 refine L_as (.slice none 0 0) rfl (L_nil (W_seq (W_reg (L_lit (kd := Kd.str) ei81 h5 ([] : List Str) (cells := []) rfl (fun _ => by kernel_rfl) fun j5 dv dw dx fa hr74 cp h6 => ?_))))
 refine L_as (.slice dv dw dx) rfl (L_nil (W_seq (W_reg (L_pu (P_fa fa61_1 ⟨au, 0, none⟩ ⟨au, 1, none⟩ rfl rfl) ?_))))
 have j6 := e8.stn hz
 have h7 := e9.stn h0
 have fb := h1.stown _ h3 (oge h2)
 have fc := h5.stown _ fa hr74
 have fd := ((((jy.st j6).st h7).st fb).st fc)
 refine L_pu (P_lda ag58 sz58 cL ⟨au, 1, none⟩ [vi o.Shape.Kind, .slice A2 n3 c4] rfl rfl (fd.cells (off := 1) rfl)) (L_pu (P_fa fa61_1 ⟨ai, 0, none⟩ ⟨ai, 1, none⟩ rfl rfl) ?_)
 have fe := (((j1.st h7).st fb).st fc)
 refine L_pu (P_lda ag58 sz58 cL ⟨ai, 1, none⟩ [vi a.Shape.Kind, .slice a2 a3 a4] rfl rfl (fe.cells (off := 1) rfl)) (L_pu (P_fa fa61_1 ⟨av, 0, none⟩ ⟨av, 1, none⟩ rfl rfl) ?_)
 have ff := ((j4.st fb).st fc)
 refine L_pu (P_lda ag58 sz58 cL ⟨av, 1, none⟩ [vi b.Shape.Kind, .slice bp bq br] rfl rfl (ff.cells (off := 1) rfl)) ?_
 refine L_call go131 [.agg #[vi o.Shape.Kind, .slice A2 n3 c4], .agg #[vi a.Shape.Kind, .slice a2 a3 a4], .agg #[vi b.Shape.Kind, .slice bp bq br]] rfl ((F63.calls j5 cp.ok o.Shape A2 n3 c4 (hp5.st cp.st) a.Shape a2 a3 a4 (e6.st cp.st) b.Shape bp bq br (e7.st cp.st) _ H).mono ?_)
 rintro _ q3 ⟨r, r2, bt, bu, bv, rfl, H, cq, h8⟩
 have fg := cp.k0 cq
 refine L_mv (.tuple #[.agg #[vi r.Kind, .slice bt bu bv], vb r2]) rfl (L_pu (P_ext [.agg #[vi r.Kind, .slice bt bu bv], vb r2] 0 (.agg #[vi r.Kind, .slice bt bu bv]) rfl rfl) (L_pu (P_ext [.agg #[vi r.Kind, .slice bt bu bv], vb r2] 1 (vb r2) rfl rfl) (L_alloc [.int .i64 0, .slice none 0 0] ze58 fun q4 aw da hu100 cr j7 => ?_)))
 have cs := fg.own cr (some aw) (oglt da hu100)
 refine L_stb aw 0 [vi 0, .slice none 0 0] [vi r.Kind, .slice bt bu bv] [vi r.Kind, .slice bt bu bv] rfl j7 rfl sz58 rfl rfl rfl fun q5 ct h9 => ?_
 have b4 := cs.wr 0 rfl ct
 refine L_as (vb r2) rfl (L_nil (W_seq (W_seq (W_reg (L_mv (vb r2) rfl (L_pu (P_not r2 rfl) (L_nil ?_)))))))
 obtain ⟨j8, H, j9⟩ := H
 refine W_join (J := (fun t bh => ∃ (xs : List Str) (aj : Option Addr) (db : Nat) (dc : Nat), j8 xs ∧ Has t [(3, .pointer (some ⟨au, 0, none⟩)), (4, .pointer (some ⟨ai, 0, none⟩)), (5, .pointer (some ⟨av, 0, none⟩)), (6, .pointer (some ⟨aa, 0, none⟩)), (8, .slice aj db dc), (9, .pointer (some ⟨aw, 0, none⟩))] ∧ Ct [] w0 bh [some aw, bk aj, some aa] O ∧ Sl kPt bh (Fr ([some aw, bk aj, some aa] ++ O)) (.slice a2 a3 a4) a.Shape.Pts ∧ Sl kTag bh (Fr ([some aw, bk aj, some aa] ++ O)) (.slice am an ao) a.Tags ∧ Sl kPt bh (Fr ([some aw, bk aj, some aa] ++ O)) (.slice bt bu bv) r.Pts ∧ Sl kPt bh (Fr ([some aw, bk aj, some aa] ++ O)) (.slice bp bq br) b.Shape.Pts ∧ Sl kTag bh (Fr ([some aw, bk aj, some aa] ++ O)) (.slice a5 a6 a7) b.Tags ∧ Sl kPt bh (Fr ([some aw, bk aj, some aa] ++ O)) (.slice A2 n3 c4) o.Shape.Pts ∧ Sl kTag bh (Fr ([some aw, bk aj, some aa] ++ O)) (.slice A7 n8 c9) o.Tags ∧ Ow Kd.str 9 bh ([some aw, bk aj, some aa] ++ O) (.slice aj db dc) xs ∧ Fb bh ([some aw, bk aj, some aa] ++ O) au [vs o.Id, vi o.Shape.Kind, .slice A2 n3 c4, .slice A7 n8 c9] ∧ Fb bh ([some aw, bk aj, some aa] ++ O) ai [vs a.Id, vi a.Shape.Kind, .slice a2 a3 a4, .slice am an ao] ∧ Fb bh ([some aw, bk aj, some aa] ++ O) av [vs b.Id, vi b.Shape.Kind, .slice bp bq br, .slice a5 a6 a7] ∧ Bx bh aa [vs ([] : Str), vi 0, .slice none 0 0, .slice none 0 0] ∧ Bx bh aw [vi r.Kind, .slice bt bu bv])) ?_ ?_
 ·refine W_cond (!r2) rfl (fun fh => ?_) (fun fh => ?_)
  ·have H := ite_t H fh
   refine W_reg (L_mv (.slice dv dw dx) rfl (L_lit (kd := Kd.str) ei81 b4 ([([115, 104, 97, 112, 101] : Str)] : List Str) (cells := [vs ([115, 104, 97, 112, 101] : Str)]) ⟨[vs ([115, 104, 97, 112, 101] : Str)], _, rfl, ⟨rfl, (by decide : Lim ([115, 104, 97, 112, 101] : Str))⟩, rfl⟩ (fun _ => by kernel_rfl) fun q6 ka kb kc dy hr143 fi ke => ?_))
   obtain ⟨kf, H⟩ := H
   have kg := ((cs.sw ((h6.sn cq).so _ cr (oge da)) 1 0 rfl rfl rfl ct).so _ dy hr143)
   refine L_app ei81 fi (.slice dv dw dx) ([] : List Str) ([([115, 104, 97, 112, 101] : Str)] : List Str) rfl kg (.slice ka kb kc) rfl ke.sx 2 rfl kf fun q7 ia ib ic id dz fj kh => ?_
   refine L_as (.slice ia ib ic) rfl (L_nil ?_)
   have cu := fj.drop 0 rfl
   have d0 := fg.stown _ cr (oge da)
   have d1 := cs.stw 0 rfl ct
   have d2 := b4.stown _ dy hr143
   have d3 := fj.std 0 rfl
   have ki := (((((h8.st d0).st d1).st d2).st dz).st d3)
   have kj := (fj.sd kh 2 0 rfl rfl rfl)
   have fk := cp.stn cq
   have kk := ((((((fd.st fk).st d0).st d1).st d2).st dz).st d3)
   have kl := ((((((fe.st fk).st d0).st d1).st d2).st dz).st d3)
   have km := ((((((ff.st fk).st d0).st d1).st d2).st dz).st d3)
   have kn := (fi.bm ((cs.bm (((h4.k0 fa).k0 cq).k0 cr) 2 0 rfl rfl rfl ct).k0 dy) 3 2 rfl rfl rfl id)
   have ko := (fi.bm (h9.k0 dy) 1 2 rfl rfl rfl id)
   exact ⟨(([] : List Str) ++ ([([115, 104, 97, 112, 101] : Str)] : List Str)), ia, ib, ic, H, (hasI rfl), cu, (e6.st cu.st), (hx.st cu.st), ki, (e7.st cu.st), (hy.st cu.st), (hp5.st cu.st), (hw.st cu.st), kj, kk, kl, km, kn, ko⟩
  have H := ite_f H fh
  refine W_skip ?_
  have d4 := fg.stown _ cr (oge da)
  have d5 := cs.stw 0 rfl ct
  have kp := ((h8.st d4).st d5)
  have kq := (cs.sw ((h6.sn cq).so _ cr (oge da)) 1 0 rfl rfl rfl ct)
  have fl := cp.stn cq
  have kr := (((fd.st fl).st d4).st d5)
  have ks := (((fe.st fl).st d4).st d5)
  have kt := (((ff.st fl).st d4).st d5)
  have ku := (cs.bm (((h4.k0 fa).k0 cq).k0 cr) 2 0 rfl rfl rfl ct)
  exact ⟨([] : List Str), dv, dw, dx, H, (hasI rfl), b4, (e6.st b4.st), (hx.st b4.st), kp, (e7.st b4.st), (hy.st b4.st), (hp5.st b4.st), (hw.st b4.st), kq, kr, ks, kt, ku, h9⟩
 rintro q8 bh ⟨xs, aj, db, dc, kv, kx, fm, ky, ie, ig, kz, ih, k1, ii, k2, k3, ij, k4, k5, k6⟩
 obtain ⟨q9, rfl⟩ := Has.ins kx
 have H := j9 xs kv
 refine W_seq ?_
 refine W_join (J := (fun t c3 => ∃ (r3 : Shape) (ab : Nat) (ac : Option Addr) (ak : Nat) (al : Nat), Has t [(3, .pointer (some ⟨au, 0, none⟩)), (4, .pointer (some ⟨ai, 0, none⟩)), (5, .pointer (some ⟨av, 0, none⟩)), (6, .pointer (some ⟨aa, 0, none⟩)), (8, .slice aj db dc), (11, .pointer (some ⟨ab, 0, none⟩))] ∧ Gr bh c3 none ∧ Ct [] w0 c3 [some ab, bk ac, some aw, bk aj, some aa] O ∧ (∀ b, some b ∈ ([some ab, bk ac] : Ob) → bh.heap.size ≤ b) ∧ Ow kPt 114 c3 ([some ab, bk ac, some aw, bk aj, some aa] ++ O) (.slice ac ak al) r3.Pts ∧ Bx c3 ab [vs a.Id, vi r3.Kind, .slice ac ak al, .slice none 0 0] ∧ F97.E o.Tags a.Tags b.Tags (fun r4 => (∃ (dd : (List Str) → Int → (List Tag) → Prop) (d6 : (List Str) → Int → (List Tag) → Nat), dd xs 0 ([] : List Tag) ∧ ∀ (xs4 : List Str) (i2 : Int) (xs5 : List Tag), dd xs4 i2 xs5 → (if decide (i2 < (r4.length : Int)) then ((0 : Int) ≤ i2 ∧ i2 < (r4.length : Int)) ∧ F117.E o.Tags a.Tags b.Tags (nth r4 i2) (fun r5 r6 r7 => (∃ (de : (List Str) → Prop), ((if !r7 then ((0 : Int) ≤ i2 ∧ i2 < (r4.length : Int)) ∧ (([116, 97, 103, 32] : Str).length + (nth r4 i2).length ≤ 9223372036854775807) ∧ (xs4.length + ([(([116, 97, 103, 32] : Str) ++ (nth r4 i2))] : List Str).length ≤ 268435456) ∧ de (xs4 ++ ([(([116, 97, 103, 32] : Str) ++ (nth r4 i2))] : List Str)) else de xs4)) ∧ ∀ (xs6 : List Str), de xs6 → (∃ (df : (List Tag) → Prop), ((if r6 then ((0 : Int) ≤ i2 ∧ i2 < (r4.length : Int)) ∧ (xs5.length + ([(⟨(nth r4 i2), r5⟩ : Tag)] : List Tag).length ≤ 268435456) ∧ df (xs5 ++ ([(⟨(nth r4 i2), r5⟩ : Tag)] : List Tag)) else df xs5)) ∧ ∀ (xs7 : List Tag), df xs7 → (I64 (i2 + 1)) ∧ dd xs6 (i2 + 1) xs7 ∧ d6 xs6 (i2 + 1) xs7 < d6 xs4 i2 xs5))) else F75.E (⟨a.Id, r3, xs5⟩ : Feat) (fun r8 => (if !r8 then F81.E a (fun r9 => Q r9 ([([109, 117, 99, 104] : Str)] : List Str)) else Q (⟨a.Id, r3, xs5⟩ : Feat) xs4))))))) ?_ ?_
 ·refine W_mixr 7 [] (by kernel_rfl) rfl fun k7 b5 cg => ?_
  have d7 := fm.k0 b5
  refine M_pu 0 rfl (by kernel_rfl) cg (P_fa fa61_0 ⟨ai, 0, none⟩ ⟨ai, 0, none⟩ rfl rfl) ?_
  have fn := fm.stn b5
  have k8 := (ij.st fn)
  refine M_pu 1 rfl (by kernel_rfl) cg (P_ldr ag9 cR ⟨ai, 0, none⟩ (vs a.Id) rfl (k8.cell rfl) nm_nil) ?_
  have k9 := (k6.k0 b5)
  refine M_pu 2 rfl (by kernel_rfl) cg (P_ldar ag58 sz58 cR ⟨aw, 0, none⟩ [vi r.Kind, .slice bt bu bv] rfl rfl (k9.cells (off := 0) rfl) nm_nil) ?_
  refine M_any2 3 5 (by kernel_rfl) rfl rfl ?_ ?_
  ·refine L_call go96 [.agg #[vi r.Kind, .slice bt bu bv]] rfl ((F80.calls k7 d7.ok r bt bu bv (ig.st fn) _ H).mono ?_)
   rintro _ ik ⟨r3, d8, d9, ea, rfl, H, il, la, im, lb⟩
   have lc := d7.owns il la im
   have dg := Gm.tm cg il
   refine L_nil ⟨dg, ?_⟩
   refine M_pu 4 rfl (by kernel_rfl) dg (P_build (.agg #[vs a.Id, vi r3.Kind, .slice d8 d9 ea, .slice none 0 0]) (fun _ => by kernel_rfl)) ?_
   refine M_any1 5 (by kernel_rfl) rfl ?_
   refine L_alloc [vs [], .int .i64 0, .slice none 0 0, .slice none 0 0] ze61 fun ra fo eb hu206 fp ld => ?_
   have io := lc.own fp (some fo) (oglt eb hu206)
   have ip := Gm.tm dg fp
   refine L_nil ⟨ip, ?_⟩
   refine M_any1 6 (by kernel_rfl) rfl ?_
   refine L_stb fo 0 [vs ([] : Str), vi 0, .slice none 0 0, .slice none 0 0] [vs a.Id, vi r3.Kind, .slice d8 d9 ea, .slice none 0 0] [vs a.Id, vi r3.Kind, .slice d8 d9 ea, .slice none 0 0] rfl ld rfl sz61 rfl rfl rfl fun rb fq lf => ?_
   have lg := io.wr 0 rfl fq
   have iq := Gm.tq ip fq (hv_new dg (oge eb))
   refine L_nil ⟨iq, ?_⟩
   refine M_nil (by kernel_rfl) ?_
   have fr := (io.sw (lb.so _ fp (oge eb)) 1 0 rfl rfl rfl fq)
   exact ⟨r3, fo, d8, d9, ea, (hasI rfl), (Gr.t0 b5 iq.g0), lg, (jg_cons b5.size (hv_new dg (oge eb)) (jg_cons b5.size (hv_hge cg im (q := 0) rfl) jg_nil)), fr, lf, H⟩
  refine L_alloc [vs [], .int .i64 0, .slice none 0 0, .slice none 0 0] ze61 fun ik fs ec hu194 ft lh => ?_
  have ir := d7.own ft (some fs) (oglt ec hu194)
  have fu := Gm.tm cg ft
  refine L_nil ⟨fu, ?_⟩
  refine M_any1 3 (by kernel_rfl) rfl ?_
  have li := d7.stown _ ft (oge ec)
  have lj := ((ig.st fn).st li)
  refine L_call go96 [.agg #[vi r.Kind, .slice bt bu bv]] rfl ((F80.calls ik ir.ok r bt bu bv lj _ H).mono ?_)
  rintro _ rc ⟨r3, ed, ee, ef, rfl, H, fv, lk, it, ll⟩
  have iu := ir.owns fv lk it
  have fw := Gm.tm fu fv
  refine L_nil ⟨fw, ?_⟩
  refine M_pu 4 rfl (by kernel_rfl) fw (P_build (.agg #[vs a.Id, vi r3.Kind, .slice ed ee ef, .slice none 0 0]) (fun _ => by kernel_rfl)) ?_
  refine M_any1 6 (by kernel_rfl) rfl ?_
  have fr := (lh.k0 fv)
  refine L_stb fs 0 [vs ([] : Str), vi 0, .slice none 0 0, .slice none 0 0] [vs a.Id, vi r3.Kind, .slice ed ee ef, .slice none 0 0] [vs a.Id, vi r3.Kind, .slice ed ee ef, .slice none 0 0] rfl fr rfl sz61 rfl rfl rfl fun rd fx lm => ?_
  have iv := iu.wr 1 rfl fx
  have iw := Gm.tq fw fx (hv_new cg (oge ec))
  refine L_nil ⟨iw, ?_⟩
  refine M_nil (by kernel_rfl) ?_
  have ln := iv.perm (.swap _ _ _)
  have lo := (iv.sp (iu.sw ll 0 1 rfl rfl rfl fx) (.swap _ _ _))
  have lp := lm
  exact ⟨r3, fs, ed, ee, ef, (hasI rfl), (Gr.t0 b5 iw.g0), ln, (jg_cons b5.size (hv_new cg (oge ec)) (jg_cons b5.size (hv_hge fu it (q := 0) rfl) jg_nil)), lo, lp, H⟩
 rintro re c3 ⟨r3, ab, ac, ak, al, lq, fy, fz, ix, lr, ls, H⟩
 obtain ⟨rf, rfl⟩ := Has.ins lq
 refine W_seq (W_reg (L_pu (P_fa fa61_2 ⟨au, 0, none⟩ ⟨au, 3, none⟩ rfl rfl) ?_))
 have bw := fm.stos fy ix
 have iy := (k3.st bw)
 refine L_pu (P_ld ag59 cL ⟨au, 3, none⟩ (.slice A7 n8 c9) rfl (iy.cell rfl)) (L_pu (P_fa fa61_2 ⟨ai, 0, none⟩ ⟨ai, 3, none⟩ rfl rfl) ?_)
 have iz := (ij.st bw)
 refine L_pu (P_ld ag59 cL ⟨ai, 3, none⟩ (.slice am an ao) rfl (iz.cell rfl)) (L_pu (P_fa fa61_2 ⟨av, 0, none⟩ ⟨av, 3, none⟩ rfl rfl) ?_)
 have i0 := (k4.st bw)
 refine L_pu (P_ld ag59 cL ⟨av, 3, none⟩ (.slice a5 a6 a7) rfl (i0.cell rfl)) ?_
 refine L_call go132 [.slice A7 n8 c9, .slice am an ao, .slice a5 a6 a7] rfl ((F97.calls c3 fz.ok o.Tags A7 n8 c9 (ii.st bw) a.Tags am an ao (ie.st bw) b.Tags a5 a6 a7 (ih.st bw) _ H).mono ?_)
 rintro _ eg ⟨r4, ad, bi, bj, rfl, H, c5, lt, eh, lu⟩
 have dh : Ct [] w0 eg [bk ad, some ab, bk ac, some aw, bk aj, some aa] O := fz.owns c5 lt eh
 refine L_as (.slice ad bi bj) rfl (L_nil (W_seq (W_seq (W_reg (L_as (vi 0) rfl (L_nil (W_block ?_)))))))
 have i1 := dh.drop 3 rfl
 have i3 := i1.own (Gr.refl _ none) none (by simp)
 have lv : Ow kTag 106 eg ([bk none, bk ad, some ab, bk ac, bk aj, some aa] ++ O) (.slice none 0 0) [] := Ow.nil _ _ _ _
 have i4 := i3.own (Gr.refl _ none) none (by simp)
 have lw : Ow kPt 114 eg ([bk none, bk none, bk ad, some ab, bk ac, bk aj, some aa] ++ O) (.slice none 0 0) [] := Ow.nil _ _ _ _
 have lx := i4.own (Gr.refl _ none) none (by simp)
 have ly : Ow kTag 106 eg ([bk none, bk none, bk none, bk ad, some ab, bk ac, bk aj, some aa] ++ O) (.slice none 0 0) [] := Ow.nil _ _ _ _
 obtain ⟨dd, d6, f0, H⟩ := H
 have b6 := fz.stos c5 eh
 have b7 := dh.std 3 rfl
 have b8 := i1.st0n
 have b9 := i3.st0n
 have ca := i4.st0n
 have lz := ((((((ky.st bw).st b6).st b7).st b8).st b9).st ca)
 have l0 := ((((((ie.st bw).st b6).st b7).st b8).st b9).st ca)
 have l1 := ((((((kz.st bw).st b6).st b7).st b8).st b9).st ca)
 have l2 := ((((((ih.st bw).st b6).st b7).st b8).st b9).st ca)
 have l3 := ((((((k1.st bw).st b6).st b7).st b8).st b9).st ca)
 have l4 := ((((((ii.st bw).st b6).st b7).st b8).st b9).st ca)
 have l5 := ((((dh.sd ((k2.sos fy ix).sos c5 eh) 4 3 rfl rfl rfl).so none (Gr.refl _ none) (by simp)).so none (Gr.refl _ none) (by simp)).so none (Gr.refl _ none) (by simp))
 have l6 := ((((dh.sd lu 0 3 rfl rfl rfl).so none (Gr.refl _ none) (by simp)).so none (Gr.refl _ none) (by simp)).so none (Gr.refl _ none) (by simp))
 have l7 := ((((dh.sd (lr.sos c5 eh) 2 3 rfl rfl rfl).so none (Gr.refl _ none) (by simp)).so none (Gr.refl _ none) (by simp)).so none (Gr.refl _ none) (by simp))
 have l8 := ((lv.so none (Gr.refl _ none) (by simp)).so none (Gr.refl _ none) (by simp))
 have l9 := (lw.so none (Gr.refl _ none) (by simp))
 have ma := (((((iy.st b6).st b7).st b8).st b9).st ca)
 have mb := (((((iz.st b6).st b7).st b8).st b9).st ca)
 have mc := (((((i0.st b6).st b7).st b8).st b9).st ca)
 have md := ((k5.k0 fy).k0 c5)
 have me := (ls.k0 c5)
 refine W_loop (α := (List Str) × (Option Addr) × Nat × Nat × Int × (List Tag) × (Option Addr) × Nat × Nat) (fun (sv__ : (List Str) × (Option Addr) × Nat × Nat × Int × (List Tag) × (Option Addr) × Nat × Nat) t ap => match sv__ with | (xs4, ag, bz, b0, i2, xs5, ae, ax, ay) => dd xs4 i2 xs5 ∧ Has t [(3, .pointer (some ⟨au, 0, none⟩)), (4, .pointer (some ⟨ai, 0, none⟩)), (5, .pointer (some ⟨av, 0, none⟩)), (6, .pointer (some ⟨aa, 0, none⟩)), (8, .slice ag bz b0), (11, .pointer (some ⟨ab, 0, none⟩)), (12, .slice ad bi bj), (13, vi i2)] ∧ Ct [] w0 ap [bk none, bk none, bk ae, bk ad, some ab, bk ac, bk ag, some aa] O ∧ Sl kPt ap (Fr ([bk none, bk none, bk ae, bk ad, some ab, bk ac, bk ag, some aa] ++ O)) (.slice a2 a3 a4) a.Shape.Pts ∧ Sl kTag ap (Fr ([bk none, bk none, bk ae, bk ad, some ab, bk ac, bk ag, some aa] ++ O)) (.slice am an ao) a.Tags ∧ Sl kPt ap (Fr ([bk none, bk none, bk ae, bk ad, some ab, bk ac, bk ag, some aa] ++ O)) (.slice bp bq br) b.Shape.Pts ∧ Sl kTag ap (Fr ([bk none, bk none, bk ae, bk ad, some ab, bk ac, bk ag, some aa] ++ O)) (.slice a5 a6 a7) b.Tags ∧ Sl kPt ap (Fr ([bk none, bk none, bk ae, bk ad, some ab, bk ac, bk ag, some aa] ++ O)) (.slice A2 n3 c4) o.Shape.Pts ∧ Sl kTag ap (Fr ([bk none, bk none, bk ae, bk ad, some ab, bk ac, bk ag, some aa] ++ O)) (.slice A7 n8 c9) o.Tags ∧ Ow Kd.str 9 ap ([bk none, bk none, bk ae, bk ad, some ab, bk ac, bk ag, some aa] ++ O) (.slice ag bz b0) xs4 ∧ Ow Kd.str 9 ap ([bk none, bk none, bk ae, bk ad, some ab, bk ac, bk ag, some aa] ++ O) (.slice ad bi bj) r4 ∧ Ow kPt 114 ap ([bk none, bk none, bk ae, bk ad, some ab, bk ac, bk ag, some aa] ++ O) (.slice ac ak al) r3.Pts ∧ Ow kTag 106 ap ([bk none, bk none, bk ae, bk ad, some ab, bk ac, bk ag, some aa] ++ O) (.slice ae ax ay) xs5 ∧ Ow kPt 114 ap ([bk none, bk none, bk ae, bk ad, some ab, bk ac, bk ag, some aa] ++ O) (.slice none 0 0) ([] : List Pt) ∧ Ow kTag 106 ap ([bk none, bk none, bk ae, bk ad, some ab, bk ac, bk ag, some aa] ++ O) (.slice none 0 0) ([] : List Tag) ∧ Fb ap ([bk none, bk none, bk ae, bk ad, some ab, bk ac, bk ag, some aa] ++ O) au [vs o.Id, vi o.Shape.Kind, .slice A2 n3 c4, .slice A7 n8 c9] ∧ Fb ap ([bk none, bk none, bk ae, bk ad, some ab, bk ac, bk ag, some aa] ++ O) ai [vs a.Id, vi a.Shape.Kind, .slice a2 a3 a4, .slice am an ao] ∧ Fb ap ([bk none, bk none, bk ae, bk ad, some ab, bk ac, bk ag, some aa] ++ O) av [vs b.Id, vi b.Shape.Kind, .slice bp bq br, .slice a5 a6 a7] ∧ Bx ap aa [vs ([] : Str), vi 0, .slice none 0 0, .slice none 0 0] ∧ Bx ap ab [vs a.Id, vi r3.Kind, .slice ac ak al, .slice ae ax ay]) (fun (sv__ : (List Str) × (Option Addr) × Nat × Nat × Int × (List Tag) × (Option Addr) × Nat × Nat) => match sv__ with | (xs4, _, _, _, i2, xs5, _, _, _) => d6 xs4 i2 xs5) (xs, aj, db, dc, 0, ([] : List Tag), none, 0, 0) ⟨f0, (hasI rfl), lx, lz, l0, l1, l2, l3, l4, l5, l6, l7, l8, l9, ly, ma, mb, mc, md, me⟩ ?_
 rintro ⟨xs4, ag, bz, b0, i2, xs5, ae, ax, ay⟩ _ ap ⟨f0, mf, cv, f1, ei, i5, f2, i6, f3, f4, f5, ej, ek, i7, i8, mg, i9, mh, el, em⟩
 obtain ⟨rg, rfl⟩ := Has.ins mf
 have H := H xs4 i2 xs5 f0
 refine W_seq (W_seq (W_reg (L_mv (vi i2) rfl (L_mv (.slice ad bi bj) rfl ?_))))
 have rh := f5.le
 refine L_pu (P_len Tryz.underlying81 ad bi bj f5.len rfl) (L_pu (P_cmp i2 (r4.length : Int) (decide (i2 < (r4.length : Int))) rfl rfl rfl) (L_nil ?_))
 refine W_cond (decide (i2 < (r4.length : Int))) rfl (fun f6 => ?_) (fun f6 => ?_)
 ·have H := ite_t H f6
  refine W_skip (W_seq (W_block (W_seq (W_mixr 18 [] (by kernel_rfl) rfl fun mi bl bx => ?_))))
  have en := cv.k0 bl
  refine M_pu 0 rfl (by kernel_rfl) bx (P_fa fa61_2 ⟨au, 0, none⟩ ⟨au, 3, none⟩ rfl rfl) ?_
  have bf := cv.stn bl
  have f7 := (mg.st bf)
  refine M_pu 1 rfl (by kernel_rfl) bx (P_ldr ag59 cR ⟨au, 3, none⟩ (.slice A7 n8 c9) rfl (f7.cell rfl) nm_nil) ?_
  refine M_pu 2 rfl (by kernel_rfl) bx (P_fa fa61_2 ⟨ai, 0, none⟩ ⟨ai, 3, none⟩ rfl rfl) ?_
  have f8 := (i9.st bf)
  refine M_pu 3 rfl (by kernel_rfl) bx (P_ldr ag59 cR ⟨ai, 3, none⟩ (.slice am an ao) rfl (f8.cell rfl) nm_nil) ?_
  refine M_pu 4 rfl (by kernel_rfl) bx (P_fa fa61_2 ⟨av, 0, none⟩ ⟨av, 3, none⟩ rfl rfl) ?_
  have f9 := (mh.st bf)
  refine M_pu 5 rfl (by kernel_rfl) bx (P_ldr ag59 cR ⟨av, 3, none⟩ (.slice a5 a6 a7) rfl (f9.cell rfl) nm_nil) ?_
  refine M_pu 6 rfl (by kernel_rfl) bx (P_move (.slice ad bi bj) rfl) ?_
  refine M_pu 7 rfl (by kernel_rfl) bx (P_move (vi i2) rfl) ?_
  obtain ⟨ja, H⟩ := H
  have eo := (f5.sn bl)
  obtain ⟨jb, ri, mj, ml, mm⟩ := eo.get default (by decide) i2 ja
  obtain ⟨rfl, mn⟩ := Kd.str.op ml
  refine M_pu 8 rfl (by kernel_rfl) bx (P_ia Tryz.underlying81 se81 ad jb bi bj eo.len i2 rfl mj rfl ja) ?_
  refine M_pu 9 rfl (by kernel_rfl) bx (P_ldr ag9 cR (jb.add (i2.toNat * 1)) (vs (nth r4 i2)) rfl (mm 0 _ rfl) nm_nil) ?_
  refine M_any1 10 (by kernel_rfl) rfl ?_
  refine L_call go133 [.slice A7 n8 c9, .slice am an ao, .slice a5 a6 a7, vs (nth r4 i2)] rfl ((F117.calls mi en.ok o.Tags A7 n8 c9 (f3.st bf) a.Tags am an ao (ei.st bf) b.Tags a5 a6 a7 (f2.st bf) (nth r4 i2) mn _ H).mono ?_)
  rintro _ rj ⟨r5, r6, r7, rfl, H, az, jc⟩
  have ga := en.k0 az
  have ch := Gm.tm bx az
  refine L_nil ⟨ch, ?_⟩
  refine M_pu 11 rfl (by kernel_rfl) ch (P_move (.tuple #[vs r5, vb r6, vb r7]) rfl) ?_
  refine M_pu 12 rfl (by kernel_rfl) ch (P_ext [vs r5, vb r6, vb r7] 0 (vs r5) rfl rfl) ?_
  refine M_pu 13 rfl (by kernel_rfl) ch (P_ext [vs r5, vb r6, vb r7] 1 (vb r6) rfl rfl) ?_
  refine M_pu 14 rfl (by kernel_rfl) ch (P_ext [vs r5, vb r6, vb r7] 2 (vb r7) rfl rfl) ?_
  refine M_pu 15 rfl (by kernel_rfl) ch (P_assign (vs r5) rfl) ?_
  refine M_pu 16 rfl (by kernel_rfl) ch (P_assign (vb r6) rfl) ?_
  refine M_pu 17 rfl (by kernel_rfl) ch (P_assign (vb r7) rfl) ?_
  refine M_nil (by kernel_rfl) ?_
  refine W_seq (W_seq (W_reg (L_mv (vb r7) rfl (L_pu (P_not r7 rfl) (L_nil ?_)))))
  obtain ⟨de, H, mo⟩ := H
  refine W_join (J := (fun t a8 => ∃ (xs6 : List Str) (af : Option Addr) (ci : Nat) (cj : Nat), de xs6 ∧ Has t [(3, .pointer (some ⟨au, 0, none⟩)), (4, .pointer (some ⟨ai, 0, none⟩)), (5, .pointer (some ⟨av, 0, none⟩)), (6, .pointer (some ⟨aa, 0, none⟩)), (8, .slice af ci cj), (11, .pointer (some ⟨ab, 0, none⟩)), (12, .slice ad bi bj), (13, vi i2), (14, vs r5), (15, vb r6)] ∧ Ct [] w0 a8 [bk none, bk none, bk ae, bk ad, some ab, bk ac, bk af, some aa] O ∧ Sl kPt a8 (Fr ([bk none, bk none, bk ae, bk ad, some ab, bk ac, bk af, some aa] ++ O)) (.slice a2 a3 a4) a.Shape.Pts ∧ Sl kTag a8 (Fr ([bk none, bk none, bk ae, bk ad, some ab, bk ac, bk af, some aa] ++ O)) (.slice am an ao) a.Tags ∧ Sl kPt a8 (Fr ([bk none, bk none, bk ae, bk ad, some ab, bk ac, bk af, some aa] ++ O)) (.slice bp bq br) b.Shape.Pts ∧ Sl kTag a8 (Fr ([bk none, bk none, bk ae, bk ad, some ab, bk ac, bk af, some aa] ++ O)) (.slice a5 a6 a7) b.Tags ∧ Sl kPt a8 (Fr ([bk none, bk none, bk ae, bk ad, some ab, bk ac, bk af, some aa] ++ O)) (.slice A2 n3 c4) o.Shape.Pts ∧ Sl kTag a8 (Fr ([bk none, bk none, bk ae, bk ad, some ab, bk ac, bk af, some aa] ++ O)) (.slice A7 n8 c9) o.Tags ∧ Ow Kd.str 9 a8 ([bk none, bk none, bk ae, bk ad, some ab, bk ac, bk af, some aa] ++ O) (.slice af ci cj) xs6 ∧ Ow Kd.str 9 a8 ([bk none, bk none, bk ae, bk ad, some ab, bk ac, bk af, some aa] ++ O) (.slice ad bi bj) r4 ∧ Ow kPt 114 a8 ([bk none, bk none, bk ae, bk ad, some ab, bk ac, bk af, some aa] ++ O) (.slice ac ak al) r3.Pts ∧ Ow kTag 106 a8 ([bk none, bk none, bk ae, bk ad, some ab, bk ac, bk af, some aa] ++ O) (.slice ae ax ay) xs5 ∧ Ow kPt 114 a8 ([bk none, bk none, bk ae, bk ad, some ab, bk ac, bk af, some aa] ++ O) (.slice none 0 0) ([] : List Pt) ∧ Ow kTag 106 a8 ([bk none, bk none, bk ae, bk ad, some ab, bk ac, bk af, some aa] ++ O) (.slice none 0 0) ([] : List Tag) ∧ Fb a8 ([bk none, bk none, bk ae, bk ad, some ab, bk ac, bk af, some aa] ++ O) au [vs o.Id, vi o.Shape.Kind, .slice A2 n3 c4, .slice A7 n8 c9] ∧ Fb a8 ([bk none, bk none, bk ae, bk ad, some ab, bk ac, bk af, some aa] ++ O) ai [vs a.Id, vi a.Shape.Kind, .slice a2 a3 a4, .slice am an ao] ∧ Fb a8 ([bk none, bk none, bk ae, bk ad, some ab, bk ac, bk af, some aa] ++ O) av [vs b.Id, vi b.Shape.Kind, .slice bp bq br, .slice a5 a6 a7] ∧ Bx a8 aa [vs ([] : Str), vi 0, .slice none 0 0, .slice none 0 0] ∧ Bx a8 ab [vs a.Id, vi r3.Kind, .slice ac ak al, .slice ae ax ay])) ?_ ?_
  ·refine W_cond (!r7) rfl (fun gb => ?_) (fun gb => ?_)
   ·have H := ite_t H gb
    refine W_reg (L_mv (.slice ag bz b0) rfl (L_mv (.slice ad bi bj) rfl (L_mv (vi i2) rfl ?_)))
    obtain ⟨jd, H⟩ := H
    have gc := (eo.sn az)
    obtain ⟨je, rk, mp, mq, mr⟩ := gc.get default (by decide) i2 jd
    obtain ⟨rfl, rl⟩ := Kd.str.op mq
    refine L_pu (P_ia Tryz.underlying81 se81 ad je bi bj gc.len i2 rfl mp rfl jd) (L_pu (P_ld ag9 cL (je.add (i2.toNat * 1)) (vs (nth r4 i2)) rfl (mr 0 _ rfl)) ?_)
    obtain ⟨jf, H⟩ := H
    refine L_pu (P_cat ([116, 97, 103, 32] : Str) (nth r4 i2) rfl rfl jf) (L_lit (kd := Kd.str) ei81 ga ([(([116, 97, 103, 32] : Str) ++ (nth r4 i2))] : List Str) (cells := [vs (([116, 97, 103, 32] : Str) ++ (nth r4 i2))]) ⟨[vs (([116, 97, 103, 32] : Str) ++ (nth r4 i2))], _, rfl, ⟨rfl, (lim_cat jf)⟩, rfl⟩ (fun _ => by kernel_rfl) fun rm ms mt mu cb hr2430 ck mv => ?_)
    obtain ⟨mw, H⟩ := H
    have mx := (((f4.sn bl).sn az).so _ cb hr2430)
    refine L_app ei81 ck (.slice ag bz b0) xs4 ([(([116, 97, 103, 32] : Str) ++ (nth r4 i2))] : List Str) rfl mx (.slice ms mt mu) rfl mv.sx 7 rfl mw fun rn jg jh ji cw bs cl my => ?_
    refine L_as (.slice jg jh ji) rfl (L_nil ?_)
    have mz := cl.drop 0 rfl
    have cc := en.stn az
    have cd := ga.stown _ cb hr2430
    have ce := cl.std 0 rfl
    have m0 := (((((f1.st bf).st cc).st cd).st bs).st ce)
    have m1 := (((((ei.st bf).st cc).st cd).st bs).st ce)
    have m2 := (((((i5.st bf).st cc).st cd).st bs).st ce)
    have m3 := (((((f2.st bf).st cc).st cd).st bs).st ce)
    have m4 := (((((i6.st bf).st cc).st cd).st bs).st ce)
    have m5 := (((((f3.st bf).st cc).st cd).st bs).st ce)
    have m6 := (cl.sd my 7 0 rfl rfl rfl)
    have m7 := (cl.sd (ck.sm (gc.so _ cb hr2430) 4 7 rfl rfl rfl cw bs) 4 0 rfl rfl rfl)
    have m8 := (cl.sd (ck.sm (((ej.sn bl).sn az).so _ cb hr2430) 6 7 rfl rfl rfl cw bs) 6 0 rfl rfl rfl)
    have m9 := (cl.sd (ck.sm (((ek.sn bl).sn az).so _ cb hr2430) 3 7 rfl rfl rfl cw bs) 3 0 rfl rfl rfl)
    have na := (cl.sd (ck.sm (((i7.sn bl).sn az).so _ cb hr2430) 2 7 rfl rfl rfl cw bs) 2 0 rfl rfl rfl)
    have nb := (cl.sd (ck.sm (((i8.sn bl).sn az).so _ cb hr2430) 1 7 rfl rfl rfl cw bs) 1 0 rfl rfl rfl)
    have nc := ((((f7.st cc).st cd).st bs).st ce)
    have nd := ((((f8.st cc).st cd).st bs).st ce)
    have ne := ((((f9.st cc).st cd).st bs).st ce)
    have nf := (ck.bm (((el.k0 bl).k0 az).k0 cb) 8 7 rfl rfl rfl cw)
    have ng := (ck.bm (((em.k0 bl).k0 az).k0 cb) 5 7 rfl rfl rfl cw)
    exact ⟨(xs4 ++ ([(([116, 97, 103, 32] : Str) ++ (nth r4 i2))] : List Str)), jg, jh, ji, H, (hasI rfl), mz, m0, m1, m2, m3, m4, m5, m6, m7, m8, m9, na, nb, nc, nd, ne, nf, ng⟩
   have H := ite_f H gb
   refine W_skip ?_
   have cf := en.stn az
   have nh := ((f1.st bf).st cf)
   have ni := ((ei.st bf).st cf)
   have nj := ((i5.st bf).st cf)
   have nk := ((f2.st bf).st cf)
   have nl := ((i6.st bf).st cf)
   have nm := ((f3.st bf).st cf)
   have nn := ((f4.sn bl).sn az)
   have no := (eo.sn az)
   have np := ((ej.sn bl).sn az)
   have nq := ((ek.sn bl).sn az)
   have nr := ((i7.sn bl).sn az)
   have ns := ((i8.sn bl).sn az)
   have nt := (f7.st cf)
   have nu := (f8.st cf)
   have nv := (f9.st cf)
   have nw := ((el.k0 bl).k0 az)
   have nx := ((em.k0 bl).k0 az)
   exact ⟨xs4, ag, bz, b0, H, (hasI rfl), ga, nh, ni, nj, nk, nl, nm, nn, no, np, nq, nr, ns, nt, nu, nv, nw, nx⟩
  rintro ro a8 ⟨xs6, af, ci, cj, ny, nz, ep, gd, gf, gg, gh, gi, gj, gk, jj, gl, gm, gn, gp, gq, gs, gt, gu, gw⟩
  obtain ⟨rp, rfl⟩ := Has.ins nz
  have H := mo xs6 ny
  refine W_seq (W_reg (L_mv (vb r6) rfl (L_nil ?_)))
  obtain ⟨df, H, n1⟩ := H
  refine W_join (J := (fun t a9 => ∃ (xs7 : List Tag) (a0 : Option Addr) (eq : Nat) (er : Nat), df xs7 ∧ Has t [(3, .pointer (some ⟨au, 0, none⟩)), (4, .pointer (some ⟨ai, 0, none⟩)), (5, .pointer (some ⟨av, 0, none⟩)), (6, .pointer (some ⟨aa, 0, none⟩)), (8, .slice af ci cj), (11, .pointer (some ⟨ab, 0, none⟩)), (12, .slice ad bi bj), (13, vi i2)] ∧ Ct [] w0 a9 [bk none, bk none, bk a0, bk ad, some ab, bk ac, bk af, some aa] O ∧ Sl kPt a9 (Fr ([bk none, bk none, bk a0, bk ad, some ab, bk ac, bk af, some aa] ++ O)) (.slice a2 a3 a4) a.Shape.Pts ∧ Sl kTag a9 (Fr ([bk none, bk none, bk a0, bk ad, some ab, bk ac, bk af, some aa] ++ O)) (.slice am an ao) a.Tags ∧ Sl kPt a9 (Fr ([bk none, bk none, bk a0, bk ad, some ab, bk ac, bk af, some aa] ++ O)) (.slice bp bq br) b.Shape.Pts ∧ Sl kTag a9 (Fr ([bk none, bk none, bk a0, bk ad, some ab, bk ac, bk af, some aa] ++ O)) (.slice a5 a6 a7) b.Tags ∧ Sl kPt a9 (Fr ([bk none, bk none, bk a0, bk ad, some ab, bk ac, bk af, some aa] ++ O)) (.slice A2 n3 c4) o.Shape.Pts ∧ Sl kTag a9 (Fr ([bk none, bk none, bk a0, bk ad, some ab, bk ac, bk af, some aa] ++ O)) (.slice A7 n8 c9) o.Tags ∧ Ow Kd.str 9 a9 ([bk none, bk none, bk a0, bk ad, some ab, bk ac, bk af, some aa] ++ O) (.slice af ci cj) xs6 ∧ Ow Kd.str 9 a9 ([bk none, bk none, bk a0, bk ad, some ab, bk ac, bk af, some aa] ++ O) (.slice ad bi bj) r4 ∧ Ow kPt 114 a9 ([bk none, bk none, bk a0, bk ad, some ab, bk ac, bk af, some aa] ++ O) (.slice ac ak al) r3.Pts ∧ Ow kTag 106 a9 ([bk none, bk none, bk a0, bk ad, some ab, bk ac, bk af, some aa] ++ O) (.slice a0 eq er) xs7 ∧ Ow kPt 114 a9 ([bk none, bk none, bk a0, bk ad, some ab, bk ac, bk af, some aa] ++ O) (.slice none 0 0) ([] : List Pt) ∧ Ow kTag 106 a9 ([bk none, bk none, bk a0, bk ad, some ab, bk ac, bk af, some aa] ++ O) (.slice none 0 0) ([] : List Tag) ∧ Fb a9 ([bk none, bk none, bk a0, bk ad, some ab, bk ac, bk af, some aa] ++ O) au [vs o.Id, vi o.Shape.Kind, .slice A2 n3 c4, .slice A7 n8 c9] ∧ Fb a9 ([bk none, bk none, bk a0, bk ad, some ab, bk ac, bk af, some aa] ++ O) ai [vs a.Id, vi a.Shape.Kind, .slice a2 a3 a4, .slice am an ao] ∧ Fb a9 ([bk none, bk none, bk a0, bk ad, some ab, bk ac, bk af, some aa] ++ O) av [vs b.Id, vi b.Shape.Kind, .slice bp bq br, .slice a5 a6 a7] ∧ Bx a9 aa [vs ([] : Str), vi 0, .slice none 0 0, .slice none 0 0] ∧ Bx a9 ab [vs a.Id, vi r3.Kind, .slice ac ak al, .slice a0 eq er])) ?_ ?_
  ·refine W_cond r6 rfl (fun gx => ?_) (fun gx => ?_)
   ·have H := ite_t H gx
    obtain ⟨jk, H⟩ := H
    obtain ⟨jl, H⟩ := H
    refine W_join (J := (fun t ba => ∃ (a1 : Option Addr) (es : Nat) (et : Nat), Has t [(3, .pointer (some ⟨au, 0, none⟩)), (4, .pointer (some ⟨ai, 0, none⟩)), (5, .pointer (some ⟨av, 0, none⟩)), (6, .pointer (some ⟨aa, 0, none⟩)), (8, .slice af ci cj), (11, .pointer (some ⟨ab, 0, none⟩)), (12, .slice ad bi bj), (13, vi i2)] ∧ Ct [] w0 ba [bk none, bk none, bk a1, bk ad, some ab, bk ac, bk af, some aa] O ∧ Sl kPt ba (Fr ([bk none, bk none, bk a1, bk ad, some ab, bk ac, bk af, some aa] ++ O)) (.slice a2 a3 a4) a.Shape.Pts ∧ Sl kTag ba (Fr ([bk none, bk none, bk a1, bk ad, some ab, bk ac, bk af, some aa] ++ O)) (.slice am an ao) a.Tags ∧ Sl kPt ba (Fr ([bk none, bk none, bk a1, bk ad, some ab, bk ac, bk af, some aa] ++ O)) (.slice bp bq br) b.Shape.Pts ∧ Sl kTag ba (Fr ([bk none, bk none, bk a1, bk ad, some ab, bk ac, bk af, some aa] ++ O)) (.slice a5 a6 a7) b.Tags ∧ Sl kPt ba (Fr ([bk none, bk none, bk a1, bk ad, some ab, bk ac, bk af, some aa] ++ O)) (.slice A2 n3 c4) o.Shape.Pts ∧ Sl kTag ba (Fr ([bk none, bk none, bk a1, bk ad, some ab, bk ac, bk af, some aa] ++ O)) (.slice A7 n8 c9) o.Tags ∧ Ow Kd.str 9 ba ([bk none, bk none, bk a1, bk ad, some ab, bk ac, bk af, some aa] ++ O) (.slice af ci cj) xs6 ∧ Ow Kd.str 9 ba ([bk none, bk none, bk a1, bk ad, some ab, bk ac, bk af, some aa] ++ O) (.slice ad bi bj) r4 ∧ Ow kPt 114 ba ([bk none, bk none, bk a1, bk ad, some ab, bk ac, bk af, some aa] ++ O) (.slice ac ak al) r3.Pts ∧ Ow kTag 106 ba ([bk none, bk none, bk a1, bk ad, some ab, bk ac, bk af, some aa] ++ O) (.slice a1 es et) (xs5 ++ ([(⟨(nth r4 i2), r5⟩ : Tag)] : List Tag)) ∧ Ow kPt 114 ba ([bk none, bk none, bk a1, bk ad, some ab, bk ac, bk af, some aa] ++ O) (.slice none 0 0) ([] : List Pt) ∧ Ow kTag 106 ba ([bk none, bk none, bk a1, bk ad, some ab, bk ac, bk af, some aa] ++ O) (.slice none 0 0) ([] : List Tag) ∧ Fb ba ([bk none, bk none, bk a1, bk ad, some ab, bk ac, bk af, some aa] ++ O) au [vs o.Id, vi o.Shape.Kind, .slice A2 n3 c4, .slice A7 n8 c9] ∧ Fb ba ([bk none, bk none, bk a1, bk ad, some ab, bk ac, bk af, some aa] ++ O) ai [vs a.Id, vi a.Shape.Kind, .slice a2 a3 a4, .slice am an ao] ∧ Fb ba ([bk none, bk none, bk a1, bk ad, some ab, bk ac, bk af, some aa] ++ O) av [vs b.Id, vi b.Shape.Kind, .slice bp bq br, .slice a5 a6 a7] ∧ Bx ba aa [vs ([] : Str), vi 0, .slice none 0 0, .slice none 0 0] ∧ Bx ba ab [vs a.Id, vi r3.Kind, .slice ac ak al, .slice a1 es et])) ?_ ?_
    ·refine W_mixr 12 [bk ae, some ab] (by kernel_rfl) rfl fun rq bg b1 => ?_
     have c6 := ep.k0 bg
     refine M_pu 0 rfl (by kernel_rfl) b1 (P_fa fa61_2 ⟨ab, 0, none⟩ ⟨ab, 3, none⟩ rfl rfl) ?_
     refine M_pu 2 rfl (by kernel_rfl) b1 (P_move (.slice ad bi bj) rfl) ?_
     refine M_pu 3 rfl (by kernel_rfl) b1 (P_move (vi i2) rfl) ?_
     have eu := (jj.sn bg)
     obtain ⟨jm, rr, gy, n5, n6⟩ := eu.get default (by decide) i2 jk
     obtain ⟨rfl, jn⟩ := Kd.str.op n5
     refine M_pu 4 rfl (by kernel_rfl) b1 (P_ia Tryz.underlying81 se81 ad jm bi bj eu.len i2 rfl gy rfl jk) ?_
     refine M_pu 5 rfl (by kernel_rfl) b1 (P_ldr ag9 cR (jm.add (i2.toNat * 1)) (vs (nth r4 i2)) rfl (n6 0 _ rfl) (nm_cons (by simp only [add_block]; exact (ow_ne c6 (j := 3) (i := 2) rfl gy rfl (by decide))) (nm_cons (by simp only [add_block]; exact (ow_ne c6 (j := 3) (i := 4) rfl gy rfl (by decide))) nm_nil))) ?_
     refine M_pu 6 rfl (by kernel_rfl) b1 (P_move (vs r5) rfl) ?_
     refine M_pu 7 rfl (by kernel_rfl) b1 (P_build (.agg #[vs (nth r4 i2), vs r5]) (fun _ => by kernel_rfl)) ?_
     refine M_any2 1 8 (by kernel_rfl) rfl rfl ?_ ?_
     ·have jo := (gw.k0 bg)
      refine L_pu (P_ld ag59 cL ⟨ab, 3, none⟩ (.slice ae ax ay) rfl (jo.cell rfl)) ?_
      refine L_nil ⟨b1, ?_⟩
      refine M_any1 8 (by kernel_rfl) rfl ?_
      refine L_lit (kd := kTag) ei59 c6 ([(⟨(nth r4 i2), r5⟩ : Tag)] : List Tag) (cells := [vs (nth r4 i2), vs r5]) ⟨[vs (nth r4 i2), vs r5], _, rfl, (kTag.mk _ _ (⟨(nth r4 i2), r5⟩ : Tag) jn jc), rfl⟩ (fun _ => by kernel_rfl) fun rs jp n7 n9 b2 hr2540 cm oa => ?_
      have gz := Gm.tm b1 b2
      refine L_nil ⟨gz, ?_⟩
      refine M_any1 9 (by kernel_rfl) rfl ?_
      have g1 := ((gm.sn bg).so _ b2 hr2540)
      refine L_app ei59 cm (.slice ae ax ay) xs5 ([(⟨(nth r4 i2), r5⟩ : Tag)] : List Tag) rfl g1 (.slice jp n7 n9) rfl oa.sx 3 rfl jl fun ob cx cy cz bn ah aq g2 => ?_
      have c1 := Gm.tq gz bn (hv_mem 0 rfl)
      have oc := hv_app (L := [bk jp, bk none, bk none, bk ae, bk ad, some ab, bk ac, bk af, some aa]) (O := O) (i := 3) gz rfl (hv_mem 0 rfl) ah aq
      refine L_nil ⟨c1, ?_⟩
      refine M_pu 10 rfl (by kernel_rfl) c1 (P_fa fa61_2 ⟨ab, 0, none⟩ ⟨ab, 3, none⟩ rfl rfl) ?_
      refine M_any1 11 (by kernel_rfl) rfl ?_
      have g3 := (cm.bm (jo.k0 b2) 5 3 rfl rfl rfl bn)
      refine L_stb ab 3 [vs a.Id, vi r3.Kind, .slice ac ak al, .slice ae ax ay] [.slice cx cy cz] [vs a.Id, vi r3.Kind, .slice ac ak al, .slice cx cy cz] rfl g3 rfl sz59 rfl rfl rfl fun od ar g4 => ?_
      have bo := aq.wr 5 rfl ar
      have g5 := Gm.tq c1 ar (hv_mem 1 rfl)
      refine L_nil ⟨g5, ?_⟩
      refine M_nil (by kernel_rfl) ?_
      have g6 := bo.drop 0 rfl
      have bb := ep.stn bg
      have bc := c6.stown _ b2 hr2540
      have bd := aq.stw 5 rfl ar
      have be := bo.std 0 rfl
      have g7 := (((((gd.st bb).st bc).st ah).st bd).st be)
      have g8 := (((((gf.st bb).st bc).st ah).st bd).st be)
      have g9 := (((((gg.st bb).st bc).st ah).st bd).st be)
      have ha := (((((gh.st bb).st bc).st ah).st bd).st be)
      have hb := (((((gi.st bb).st bc).st ah).st bd).st be)
      have hc := (((((gj.st bb).st bc).st ah).st bd).st be)
      have hd := (bo.sd (aq.sw (cm.sm ((gk.sn bg).so _ b2 hr2540) 7 3 rfl rfl rfl bn ah) 7 5 rfl rfl rfl ar) 7 0 rfl rfl rfl)
      have he := (bo.sd (aq.sw (cm.sm (eu.so _ b2 hr2540) 4 3 rfl rfl rfl bn ah) 4 5 rfl rfl rfl ar) 4 0 rfl rfl rfl)
      have hf := (bo.sd (aq.sw (cm.sm ((gl.sn bg).so _ b2 hr2540) 6 3 rfl rfl rfl bn ah) 6 5 rfl rfl rfl ar) 6 0 rfl rfl rfl)
      have hg := (bo.sd (aq.sw g2 3 5 rfl rfl rfl ar) 3 0 rfl rfl rfl)
      have hh := (bo.sd (aq.sw (cm.sm ((gn.sn bg).so _ b2 hr2540) 2 3 rfl rfl rfl bn ah) 2 5 rfl rfl rfl ar) 2 0 rfl rfl rfl)
      have hi := (bo.sd (aq.sw (cm.sm ((gp.sn bg).so _ b2 hr2540) 1 3 rfl rfl rfl bn ah) 1 5 rfl rfl rfl ar) 1 0 rfl rfl rfl)
      have hj := (((((gq.st bb).st bc).st ah).st bd).st be)
      have hk := (((((gs.st bb).st bc).st ah).st bd).st be)
      have hl := (((((gt.st bb).st bc).st ah).st bd).st be)
      have hm := (aq.bm (cm.bm ((gu.k0 bg).k0 b2) 8 3 rfl rfl rfl bn) 8 5 rfl rfl rfl ar)
      have hn := g4
      exact ⟨cx, cy, cz, (hasI rfl), g6, g7, g8, g9, ha, hb, hc, hd, he, hf, hg, hh, hi, hj, hk, hl, hm, hn⟩
     refine L_lit (kd := kTag) ei59 c6 ([(⟨(nth r4 i2), r5⟩ : Tag)] : List Tag) (cells := [vs (nth r4 i2), vs r5]) ⟨[vs (nth r4 i2), vs r5], _, rfl, (kTag.mk _ _ (⟨(nth r4 i2), r5⟩ : Tag) jn jc), rfl⟩ (fun _ => by kernel_rfl) fun rt jq oe og b3 hr2539 cn oh => ?_
     have ev := Gm.tm b1 b3
     refine L_nil ⟨ev, ?_⟩
     refine M_any1 1 (by kernel_rfl) rfl ?_
     have jr := ((gw.k0 bg).k0 b3)
     refine L_pu (P_ld ag59 cL ⟨ab, 3, none⟩ (.slice ae ax ay) rfl (jr.cell rfl)) ?_
     refine L_nil ⟨ev, ?_⟩
     refine M_any1 9 (by kernel_rfl) rfl ?_
     have g1 := ((gm.sn bg).so _ b3 hr2539)
     refine L_app ei59 cn (.slice ae ax ay) xs5 ([(⟨(nth r4 i2), r5⟩ : Tag)] : List Tag) rfl g1 (.slice jq oe og) rfl oh.sx 3 rfl jl fun ob cx cy cz bn ah aq g2 => ?_
     have c1 := Gm.tq ev bn (hv_mem 0 rfl)
     have oc := hv_app (L := [bk jq, bk none, bk none, bk ae, bk ad, some ab, bk ac, bk af, some aa]) (O := O) (i := 3) ev rfl (hv_mem 0 rfl) ah aq
     refine L_nil ⟨c1, ?_⟩
     refine M_pu 10 rfl (by kernel_rfl) c1 (P_fa fa61_2 ⟨ab, 0, none⟩ ⟨ab, 3, none⟩ rfl rfl) ?_
     refine M_any1 11 (by kernel_rfl) rfl ?_
     have g3 := (cn.bm jr 5 3 rfl rfl rfl bn)
     refine L_stb ab 3 [vs a.Id, vi r3.Kind, .slice ac ak al, .slice ae ax ay] [.slice cx cy cz] [vs a.Id, vi r3.Kind, .slice ac ak al, .slice cx cy cz] rfl g3 rfl sz59 rfl rfl rfl fun od ar g4 => ?_
     have bo := aq.wr 5 rfl ar
     have g5 := Gm.tq c1 ar (hv_mem 1 rfl)
     refine L_nil ⟨g5, ?_⟩
     refine M_nil (by kernel_rfl) ?_
     have g6 := bo.drop 0 rfl
     have bb := ep.stn bg
     have bc := c6.stown _ b3 hr2539
     have bd := aq.stw 5 rfl ar
     have be := bo.std 0 rfl
     have g7 := (((((gd.st bb).st bc).st ah).st bd).st be)
     have g8 := (((((gf.st bb).st bc).st ah).st bd).st be)
     have g9 := (((((gg.st bb).st bc).st ah).st bd).st be)
     have ha := (((((gh.st bb).st bc).st ah).st bd).st be)
     have hb := (((((gi.st bb).st bc).st ah).st bd).st be)
     have hc := (((((gj.st bb).st bc).st ah).st bd).st be)
     have hd := (bo.sd (aq.sw (cn.sm ((gk.sn bg).so _ b3 hr2539) 7 3 rfl rfl rfl bn ah) 7 5 rfl rfl rfl ar) 7 0 rfl rfl rfl)
     have he := (bo.sd (aq.sw (cn.sm (eu.so _ b3 hr2539) 4 3 rfl rfl rfl bn ah) 4 5 rfl rfl rfl ar) 4 0 rfl rfl rfl)
     have hf := (bo.sd (aq.sw (cn.sm ((gl.sn bg).so _ b3 hr2539) 6 3 rfl rfl rfl bn ah) 6 5 rfl rfl rfl ar) 6 0 rfl rfl rfl)
     have hg := (bo.sd (aq.sw g2 3 5 rfl rfl rfl ar) 3 0 rfl rfl rfl)
     have hh := (bo.sd (aq.sw (cn.sm ((gn.sn bg).so _ b3 hr2539) 2 3 rfl rfl rfl bn ah) 2 5 rfl rfl rfl ar) 2 0 rfl rfl rfl)
     have hi := (bo.sd (aq.sw (cn.sm ((gp.sn bg).so _ b3 hr2539) 1 3 rfl rfl rfl bn ah) 1 5 rfl rfl rfl ar) 1 0 rfl rfl rfl)
     have hj := (((((gq.st bb).st bc).st ah).st bd).st be)
     have hk := (((((gs.st bb).st bc).st ah).st bd).st be)
     have hl := (((((gt.st bb).st bc).st ah).st bd).st be)
     have hm := (aq.bm (cn.bm ((gu.k0 bg).k0 b3) 8 3 rfl rfl rfl bn) 8 5 rfl rfl rfl ar)
     have hn := g4
     exact ⟨cx, cy, cz, (hasI rfl), g6, g7, g8, g9, ha, hb, hc, hd, he, hf, hg, hh, hi, hj, hk, hl, hm, hn⟩
    rintro ru ba ⟨a1, es, et, oi, oj, ol, om, on, oo, oq, os, ot, ou, ov, ow, ox, oy, oz, o0, o1, o2, o3⟩
    obtain ⟨rv, rfl⟩ := Has.ins oi
    exact ⟨(xs5 ++ ([(⟨(nth r4 i2), r5⟩ : Tag)] : List Tag)), a1, es, et, H, (hasI rfl), oj, ol, om, on, oo, oq, os, ot, ou, ov, ow, ox, oy, oz, o0, o1, o2, o3⟩
   have H := ite_f H gx
   exact W_skip ⟨xs5, ae, ax, ay, H, (hasI rfl), ep, gd, gf, gg, gh, gi, gj, gk, jj, gl, gm, gn, gp, gq, gs, gt, gu, gw⟩
  rintro rw a9 ⟨xs7, a0, eq, er, o4, o5, o6, o7, o8, o9, pa, pb, pd, pe, pf, pg, ph, pi, pj, pk, pl, pm, pn, po⟩
  obtain ⟨rx, rfl⟩ := Has.ins o5
  have H := n1 xs7 o4
  refine W_reg (L_mv (vi i2) rfl ?_)
  obtain ⟨pp, H⟩ := H
  refine L_pu (P_add i2 1 rfl rfl pp) (L_as (vi (i2 + 1)) rfl (L_nil ?_))
  obtain ⟨pq, pr⟩ := H
  exact ⟨(xs6, af, ci, cj, i2 + 1, xs7, a0, eq, er), pr, pq, (hasI rfl), o6, o7, o8, o9, pa, pb, pd, pe, pf, pg, ph, pi, pj, pk, pl, pm, pn, po⟩
 have H := ite_f H f6
 refine W_exit (xin_hit ?_)
 refine W_seq (W_seq (W_reg (L_pu (P_lda ag61 sz61 cL ⟨ab, 0, none⟩ [vs a.Id, vi r3.Kind, .slice ac ak al, .slice ae ax ay] rfl rfl (em.cells (off := 0) rfl)) ?_)))
 have ps := cv.gv ej 5 rfl
 have ho := cv.drop 5 rfl
 have pt := (cv.sd ek 2 5 rfl rfl rfl)
 have pu := ho.gv pt 2 rfl
 have pv : Ct [] w0 ap [bk none, bk none, bk ad, some ab, bk ag, some aa] O := ho.drop 2 rfl
 have pw := ho.std 2 rfl
 refine L_call go57 [.agg #[vs a.Id, vi r3.Kind, .slice ac ak al, .slice ae ax ay]] rfl ((F75.calls ap pv.ok (⟨a.Id, r3, xs5⟩ : Feat) ac ak al ae ax ay e5 (ps.st pw) pu _ H).mono ?_)
 rintro _ px ⟨r8, rfl, H, co⟩
 have di := cv.k0 co
 refine L_pu (P_not r8 rfl) (L_nil ?_)
 refine W_cond (!r8) rfl (fun hp => ?_) (fun hp => ?_)
 ·have H := ite_t H hp
  refine W_seq ?_
  have ew : ([bk none, bk none, bk ae, bk ad, some ab, bk ac, bk ag, some aa] : Ob).Perm ((bk ae :: bk ad :: some ab :: bk ac :: bk ag :: []) ++ [bk none, bk none, some aa]) := (pc fun a => by (try simp only [pca, pcc, pcn, Nat.add_zero, Nat.zero_add]); first | done | ac_rfl)
  have js := di.drops ew
  refine W_reg ?_
  have hq := cv.stn co
  have py := ((i9.st hq).st (St.drops _ O ew))
  refine L_pu (P_lda ag61 sz61 cL ⟨ai, 0, none⟩ [vs a.Id, vi a.Shape.Kind, .slice a2 a3 a4, .slice am an ao] rfl rfl (py.cells (off := 0) rfl)) ?_
  have pz := ((f1.st hq).st (St.drops _ O ew))
  have p0 := ((ei.st hq).st (St.drops _ O ew))
  refine L_call go61 [.agg #[vs a.Id, vi a.Shape.Kind, .slice a2 a3 a4, .slice am an ao]] rfl ((F81.calls px js.ok a a2 a3 a4 am an ao e5 pz p0 _ H).mono ?_)
  rintro _ p1 ⟨r9, c7, ex, ey, c8, ez, e0, rfl, H, jt, p2, p3, p4, p5, p6⟩
  have p7 : Ct [] w0 p1 [bk c7, bk c8, bk none, bk none, some aa] O := js.owns jt p2 p3
  refine L_lit (kd := Kd.str) ei81 p7 ([([109, 117, 99, 104] : Str)] : List Str) (cells := [vs ([109, 117, 99, 104] : Str)]) ⟨[vs ([109, 117, 99, 104] : Str)], _, rfl, ⟨rfl, (by decide : Lim ([109, 117, 99, 104] : Str))⟩, rfl⟩ (fun _ => by kernel_rfl) fun ry e1 hr hs ht hr4606 e2 p8 => ?_
  have p9 := (((el.k0 co).k0 jt).k0 ht)
  refine L_stb aa 0 [vs ([] : Str), vi 0, .slice none 0 0, .slice none 0 0] [vs r9.Id, vi r9.Shape.Kind, .slice c7 ex ey, .slice c8 ez e0] [vs r9.Id, vi r9.Shape.Kind, .slice c7 ex ey, .slice c8 ez e0] rfl p9 rfl sz61 rfl rfl rfl fun qa e3 qb => ?_
  have dj := e2.wr 5 rfl e3
  refine L_as (.slice e1 hr hs) rfl (L_nil (W_ret ?_))
  have qc := dj.bgv qb 5 rfl
  have dk := dj.drop 5 rfl
  have dl := dk.drop 3 rfl
  have dm : Ct [] w0 qa [bk e1, bk c7, bk c8] O := dl.drop 3 rfl
  have dn := dm.perm (.swap _ _ _)
  have hu := dn.perm (.cons _ (.swap _ _ _))
  have qd := dk.std 3 rfl
  have qe := dl.std 3 rfl
  have qf := dm.stp (.swap _ _ _)
  have qg := dn.stp (.cons _ (.swap _ _ _))
  have qh := ((((qc.st qd).st qe).st qf).st qg)
  have qi := (dn.sp (dm.sp (dl.sd (dk.sd (dj.sd (e2.sw (p5.so _ ht hr4606) 1 5 rfl rfl rfl e3) 1 5 rfl rfl rfl) 1 3 rfl rfl rfl) 1 3 rfl rfl rfl) (.swap _ _ _)) (.cons _ (.swap _ _ _)))
  have qj := (dn.sp (dm.sp (dl.sd (dk.sd (dj.sd (e2.sw (p6.so _ ht hr4606) 2 5 rfl rfl rfl e3) 2 5 rfl rfl rfl) 2 3 rfl rfl rfl) 2 3 rfl rfl rfl) (.swap _ _ _)) (.cons _ (.swap _ _ _)))
  have qk := (dn.sp (dm.sp (dl.sd (dk.sd (dj.sd (e2.sw p8 0 5 rfl rfl rfl e3) 0 5 rfl rfl rfl) 0 3 rfl rfl rfl) 0 3 rfl rfl rfl) (.swap _ _ _)) (.cons _ (.swap _ _ _)))
  exact ⟨[.agg #[vs r9.Id, vi r9.Shape.Kind, .slice c7 ex ey, .slice c8 ez e0], .slice e1 hr hs], ⟨_, _, rfl, qh.1.res rfl ag61 sz61, ⟨_, rfl, rfl⟩⟩, r9, ([([109, 117, 99, 104] : Str)] : List Str), c7, ex, ey, c8, ez, e0, e1, hr, hs, rfl, H, hu.gr.g0, hu.ok, hu.ge, p4, qi, qj, qk⟩
 have H := ite_f H hp
 refine W_skip (W_seq (W_reg ?_))
 have ql := (em.k0 co)
 refine L_pu (P_lda ag61 sz61 cL ⟨ab, 0, none⟩ [vs a.Id, vi r3.Kind, .slice ac ak al, .slice ae ax ay] rfl rfl (ql.cells (off := 0) rfl)) (L_mv (.slice ag bz b0) rfl ?_)
 have qm := (el.k0 co)
 refine L_stb aa 0 [vs ([] : Str), vi 0, .slice none 0 0, .slice none 0 0] [vs a.Id, vi r3.Kind, .slice ac ak al, .slice ae ax ay] [vs a.Id, vi r3.Kind, .slice ac ak al, .slice ae ax ay] rfl qm rfl sz61 rfl rfl rfl fun ju e4 qn => ?_
 have dp := di.wr 7 rfl e4
 refine L_as (.slice ag bz b0) rfl (L_nil (W_ret ?_))
 have qo := dp.bgv qn 7 rfl
 have dq := dp.drop 7 rfl
 have dr : Ct [] w0 ju [bk none, bk ae, bk ad, some ab, bk ac, bk ag] O := dq.drop 0 rfl
 have ds := dr.drop 0 rfl
 have dt := ds.drop 1 rfl
 have du : Ct [] w0 ju [bk ae, bk ac, bk ag] O := dt.drop 1 rfl
 have hv := du.perm (.swap _ _ _)
 have qp := dq.std 0 rfl
 have qq := dr.std 0 rfl
 have qr := ds.std 1 rfl
 have qs := dt.std 1 rfl
 have qt := du.stp (.swap _ _ _)
 have qu := (((((qo.st qp).st qq).st qr).st qs).st qt)
 have qv := (du.sp (dt.sd (ds.sd (dr.sd (dq.sd (dp.sd (di.sw (ej.sn co) 5 7 rfl rfl rfl e4) 5 7 rfl rfl rfl) 5 0 rfl rfl rfl) 4 0 rfl rfl rfl) 3 1 rfl rfl rfl) 2 1 rfl rfl rfl) (.swap _ _ _))
 have qw := (du.sp (dt.sd (ds.sd (dr.sd (dq.sd (dp.sd (di.sw (ek.sn co) 2 7 rfl rfl rfl e4) 2 7 rfl rfl rfl) 2 0 rfl rfl rfl) 1 0 rfl rfl rfl) 0 1 rfl rfl rfl) 0 1 rfl rfl rfl) (.swap _ _ _))
 have qx := (du.sp (dt.sd (ds.sd (dr.sd (dq.sd (dp.sd (di.sw (f4.sn co) 6 7 rfl rfl rfl e4) 6 7 rfl rfl rfl) 6 0 rfl rfl rfl) 5 0 rfl rfl rfl) 4 1 rfl rfl rfl) 3 1 rfl rfl rfl) (.swap _ _ _))
 exact ⟨[.agg #[vs a.Id, vi r3.Kind, .slice ac ak al, .slice ae ax ay], .slice ag bz b0], ⟨_, _, rfl, qu.1.res rfl ag61 sz61, ⟨_, rfl, rfl⟩⟩, (⟨a.Id, r3, xs5⟩ : Feat), xs4, ac, ak, al, ae, ax, ay, ag, bz, b0, rfl, H, hv.gr.g0, hv.ok, hv.ge, e5, qv, qw, qx⟩
end
section
open Go.RowKit
def F118.E (o : List Feat) (a : List Feat) (b : List Feat) (id : Str) (Q : Feat → Bool → List Str → Prop) : Prop :=
 F82.E o id (fun r r2 => F82.E a id (fun r3 r4 => F82.E b id (fun r5 r6 => (∃ (J134 : Bool → Prop), ((if r4 == r2 then F36.E r3 r (fun r7 => J134 r7) else J134 false)) ∧ ∀ (v : Bool), J134 v → (if v then Q r5 r6 ([] : List Str) else (∃ (J225 : Bool → Prop), ((if r6 == r2 then F36.E r5 r (fun r8 => (if r8 then J225 true else (if r4 == r6 then F36.E r3 r5 (fun r9 => J225 r9) else J225 false))) else (if r4 == r6 then F36.E r3 r5 (fun r10 => J225 r10) else J225 false))) ∧ ∀ (v2 : Bool), J225 v2 → (if v2 then Q r3 r4 ([] : List Str) else (if !r4 then Q r5 true ([([103, 111, 110, 101] : Str)] : List Str) else (if !r6 then Q r3 true ([([103, 111, 110, 101] : Str)] : List Str) else (if !r2 then Q r3 true ([([98, 111, 116, 104] : Str)] : List Str) else F98.E r r3 r5 (fun r11 r12 => Q r11 true r12)))))))))))
theorem F118.calls {O : Ob} (w0 : World) (hO : Ok w0 O) (o : List Feat) (A1 : Option Addr) (n2 c3 : Nat) (hp4 : Sl kFeat w0 (Fr O) (.slice A1 n2 c3) o) (a : List Feat) (A6 : Option Addr) (n7 c8 : Nat) (hp9 : Sl kFeat w0 (Fr O) (.slice A6 n7 c8) a) (b : List Feat) (co : Option Addr) (cp cq : Nat) (gj : Sl kFeat w0 (Fr O) (.slice co cp cq) b) (id : Str) (el : Lim id) (Q : Feat → Bool → List Str → Prop) (h : F118.E o a b id Q) :
  Ret Tryz.prog 78 [.slice A1 n2 c3, .slice A6 n7 c8, .slice co cp cq, vs id] w0 (fun v w' => ∃ (r0 : Feat) (r1 : Bool) (r2 : List Str) (A0 : Option Addr) (n0 c0 : Nat) (A2 : Option Addr) (n2 c2 : Nat) (A4 : Option Addr) (n4 c4 : Nat), v = .tuple #[.agg #[vs r0.Id, vi r0.Shape.Kind, .slice A0 n0 c0, .slice A2 n2 c2], vb r1, .slice A4 n4 c4] ∧ Q r0 r1 r2 ∧ Gr w0 w' none ∧ Ok w' ([bk A0, bk A2, bk A4] ++ O) ∧ (∀ b, some b ∈ [bk A0, bk A2, bk A4] → w0.heap.size ≤ b) ∧ Lim r0.Id ∧ Ow kPt 114 w' ([bk A0, bk A2, bk A4] ++ O) (.slice A0 n0 c0) r0.Shape.Pts ∧ Ow kTag 106 w' ([bk A0, bk A2, bk A4] ++ O) (.slice A2 n2 c2) r0.Tags ∧ Ow Kd.str 9 w' ([bk A0, bk A2, bk A4] ++ O) (.slice A4 n4 c4) r2) := by
 unfold F118.E at h
 have H := h
 clear h
 have hc0 := Ct.init hO
 refine Ret_enter Tryz.func78 rfl 97 rfl [.cell 8 61, .tmp 9, .tmp 10] rfl rfl ?_
 refine W_seq (W_reg (L_alloc [vs [], .int .i64 0, .slice none 0 0, .slice none 0 0] ze61 fun gk ai gl hu21 gm fw => ?_))
 have em := hc0.own gm (some ai) (oglt gl hu21)
 refine L_as (vb false) rfl (L_as (.slice none 0 0) rfl (L_nil (W_seq (W_reg (L_mv (.slice A1 n2 c3) rfl (L_mv (vs id) rfl ?_))))))
 refine L_call go59 [.slice A1 n2 c3, vs id] rfl ((F82.calls gk em.ok o A1 n2 c3 (hp4.st em.st) id el _ H).mono ?_)
 rintro _ nk ⟨r, r2, aj, a1, a2, ae, a3, a4, rfl, H, en, gn, gp, eo, ep, eq⟩
 have gq := em.owns en gn gp
 refine L_mv (.tuple #[.agg #[vs r.Id, vi r.Shape.Kind, .slice aj a1 a2, .slice ae a3 a4], vb r2]) rfl (L_pu (P_ext [.agg #[vs r.Id, vi r.Shape.Kind, .slice aj a1 a2, .slice ae a3 a4], vb r2] 0 (.agg #[vs r.Id, vi r.Shape.Kind, .slice aj a1 a2, .slice ae a3 a4]) rfl rfl) (L_pu (P_ext [.agg #[vs r.Id, vi r.Shape.Kind, .slice aj a1 a2, .slice ae a3 a4], vb r2] 1 (vb r2) rfl rfl) (L_alloc [vs [], .int .i64 0, .slice none 0 0, .slice none 0 0] ze61 fun nl ak b9 hu46 b0 gs => ?_)))
 have b1 := gq.own b0 (some ak) (oglt b9 hu46)
 refine L_stb ak 0 [vs ([] : Str), vi 0, .slice none 0 0, .slice none 0 0] [vs r.Id, vi r.Shape.Kind, .slice aj a1 a2, .slice ae a3 a4] [vs r.Id, vi r.Shape.Kind, .slice aj a1 a2, .slice ae a3 a4] rfl gs rfl sz61 rfl rfl rfl fun gt b2 fx => ?_
 have er := b1.wr 0 rfl b2
 refine L_as (vb r2) rfl (L_nil (W_seq (W_reg (L_mv (.slice A6 n7 c8) rfl (L_mv (vs id) rfl ?_)))))
 refine L_call go59 [.slice A6 n7 c8, vs id] rfl ((F82.calls gt er.ok a A6 n7 c8 (hp9.st er.st) id el _ H).mono ?_)
 rintro _ nm ⟨r3, r4, ab, am, an, aa, ao, ap, rfl, H, bp, gu, ca, cb, es, et⟩
 have gw := er.owns bp gu ca
 refine L_mv (.tuple #[.agg #[vs r3.Id, vi r3.Shape.Kind, .slice ab am an, .slice aa ao ap], vb r4]) rfl (L_pu (P_ext [.agg #[vs r3.Id, vi r3.Shape.Kind, .slice ab am an, .slice aa ao ap], vb r4] 0 (.agg #[vs r3.Id, vi r3.Shape.Kind, .slice ab am an, .slice aa ao ap]) rfl rfl) (L_pu (P_ext [.agg #[vs r3.Id, vi r3.Shape.Kind, .slice ab am an, .slice aa ao ap], vb r4] 1 (vb r4) rfl rfl) (L_alloc [vs [], .int .i64 0, .slice none 0 0, .slice none 0 0] ze61 fun nn af be hu75 a6 gx => ?_)))
 have a7 := gw.own a6 (some af) (oglt be hu75)
 refine L_stb af 0 [vs ([] : Str), vi 0, .slice none 0 0, .slice none 0 0] [vs r3.Id, vi r3.Shape.Kind, .slice ab am an, .slice aa ao ap] [vs r3.Id, vi r3.Shape.Kind, .slice ab am an, .slice aa ao ap] rfl gx rfl sz61 rfl rfl rfl fun gy a8 fy => ?_
 have eu := a7.wr 0 rfl a8
 refine L_as (vb r4) rfl (L_nil (W_seq (W_reg (L_mv (.slice co cp cq) rfl (L_mv (vs id) rfl ?_)))))
 refine L_call go59 [.slice co cp cq, vs id] rfl ((F82.calls gy eu.ok b co cp cq (gj.st eu.st) id el _ H).mono ?_)
 rintro _ no ⟨r5, r6, ad, aq, ar, ac, au, av, rfl, H, a5, gz, bf, cg, fz, f0⟩
 have g1 := eu.owns a5 gz bf
 refine L_mv (.tuple #[.agg #[vs r5.Id, vi r5.Shape.Kind, .slice ad aq ar, .slice ac au av], vb r6]) rfl (L_pu (P_ext [.agg #[vs r5.Id, vi r5.Shape.Kind, .slice ad aq ar, .slice ac au av], vb r6] 0 (.agg #[vs r5.Id, vi r5.Shape.Kind, .slice ad aq ar, .slice ac au av]) rfl rfl) (L_pu (P_ext [.agg #[vs r5.Id, vi r5.Shape.Kind, .slice ad aq ar, .slice ac au av], vb r6] 1 (vb r6) rfl rfl) (L_alloc [vs [], .int .i64 0, .slice none 0 0, .slice none 0 0] ze61 fun np ah a9 hu104 ax g2 => ?_)))
 have ay := g1.own ax (some ah) (oglt a9 hu104)
 refine L_stb ah 0 [vs ([] : Str), vi 0, .slice none 0 0, .slice none 0 0] [vs r5.Id, vi r5.Shape.Kind, .slice ad aq ar, .slice ac au av] [vs r5.Id, vi r5.Shape.Kind, .slice ad aq ar, .slice ac au av] rfl g2 rfl sz61 rfl rfl rfl fun nq az f1 => ?_
 have g3 := ay.wr 0 rfl az
 refine L_as (vb r6) rfl (L_nil (W_seq (W_reg (L_lit (kd := Kd.str) ei81 g3 ([] : List Str) (cells := []) rfl (fun _ => by kernel_rfl) fun f2 ag bg bh aw hr117 cc f3 => ?_))))
 refine L_as (.slice ag bg bh) rfl (L_nil (W_seq (W_block (W_seq ?_))))
 obtain ⟨g4, H, g5⟩ := H
 refine W_join (J := (fun t ba => ∃ (v : Bool), g4 v ∧ Has t [(8, .pointer (some ⟨ai, 0, none⟩)), (11, .pointer (some ⟨ak, 0, none⟩)), (12, vb r2), (13, .pointer (some ⟨af, 0, none⟩)), (14, vb r4), (15, .pointer (some ⟨ah, 0, none⟩)), (16, vb r6), (17, .slice ag bg bh), (39, vb v)] ∧ Ct [] w0 ba [bk ag, some ah, bk ad, bk ac, some af, bk ab, bk aa, some ak, bk aj, bk ae, some ai] O ∧ Ow Kd.str 9 ba ([bk ag, some ah, bk ad, bk ac, some af, bk ab, bk aa, some ak, bk aj, bk ae, some ai] ++ O) (.slice ag bg bh) ([] : List Str) ∧ Ow kPt 114 ba ([bk ag, some ah, bk ad, bk ac, some af, bk ab, bk aa, some ak, bk aj, bk ae, some ai] ++ O) (.slice aj a1 a2) r.Shape.Pts ∧ Ow kTag 106 ba ([bk ag, some ah, bk ad, bk ac, some af, bk ab, bk aa, some ak, bk aj, bk ae, some ai] ++ O) (.slice ae a3 a4) r.Tags ∧ Ow kPt 114 ba ([bk ag, some ah, bk ad, bk ac, some af, bk ab, bk aa, some ak, bk aj, bk ae, some ai] ++ O) (.slice ad aq ar) r5.Shape.Pts ∧ Ow kTag 106 ba ([bk ag, some ah, bk ad, bk ac, some af, bk ab, bk aa, some ak, bk aj, bk ae, some ai] ++ O) (.slice ac au av) r5.Tags ∧ Ow kPt 114 ba ([bk ag, some ah, bk ad, bk ac, some af, bk ab, bk aa, some ak, bk aj, bk ae, some ai] ++ O) (.slice ab am an) r3.Shape.Pts ∧ Ow kTag 106 ba ([bk ag, some ah, bk ad, bk ac, some af, bk ab, bk aa, some ak, bk aj, bk ae, some ai] ++ O) (.slice aa ao ap) r3.Tags ∧ Bx ba ai [vs ([] : Str), vi 0, .slice none 0 0, .slice none 0 0] ∧ Bx ba ak [vs r.Id, vi r.Shape.Kind, .slice aj a1 a2, .slice ae a3 a4] ∧ Bx ba af [vs r3.Id, vi r3.Shape.Kind, .slice ab am an, .slice aa ao ap] ∧ Bx ba ah [vs r5.Id, vi r5.Shape.Kind, .slice ad aq ar, .slice ac au av])) ?_ ?_
 ·refine W_reg (L_mv (vb r4) rfl (L_mv (vb r2) rfl (L_pu (P_bcmp Tryz.underlying4 r4 r2 (r4 == r2) rfl rfl rfl) (L_mv (vb (r4 == r2)) rfl ?_))))
  rcases bool_or (r4 == r2) with bq | bq
  ·have H := ite_t H bq
   refine L_rb bq rfl ?_
   have f4 := ((ay.bm ((fy.k0 a5).k0 ax) 3 0 rfl rfl rfl az).k0 aw)
   refine L_pu (P_lda ag61 sz61 cL ⟨af, 0, none⟩ [vs r3.Id, vi r3.Shape.Kind, .slice ab am an, .slice aa ao ap] rfl rfl (f4.cells (off := 0) rfl)) (L_rb bq rfl ?_)
   have f5 := ((ay.bm (((a7.bm ((fx.k0 bp).k0 a6) 3 0 rfl rfl rfl a8).k0 a5).k0 ax) 6 0 rfl rfl rfl az).k0 aw)
   refine L_pu (P_lda ag61 sz61 cL ⟨ak, 0, none⟩ [vs r.Id, vi r.Shape.Kind, .slice aj a1 a2, .slice ae a3 a4] rfl rfl (f5.cells (off := 0) rfl)) (L_rb bq rfl ?_)
   have g6 := ((ay.sw (((a7.sw (es.so _ a6 (oge be)) 1 0 rfl rfl rfl a8).sos a5 bf).so _ ax (oge a9)) 4 0 rfl rfl rfl az).so _ aw hr117)
   have g7 := cc.gv g6 5 rfl
   have cr := cc.drop 5 rfl
   have g8 := (cc.sd ((ay.sw (((a7.sw (et.so _ a6 (oge be)) 2 0 rfl rfl rfl a8).sos a5 bf).so _ ax (oge a9)) 5 0 rfl rfl rfl az).so _ aw hr117) 6 5 rfl rfl rfl)
   have g9 := cr.gv g8 5 rfl
   have dv := cr.drop 5 rfl
   have ha := (cr.sd (cc.sd ((ay.sw (((a7.sw (((b1.sw (ep.so _ b0 (oge b9)) 1 0 rfl rfl rfl b2).sos bp ca).so _ a6 (oge be)) 4 0 rfl rfl rfl a8).sos a5 bf).so _ ax (oge a9)) 7 0 rfl rfl rfl az).so _ aw hr117) 8 5 rfl rfl rfl) 7 5 rfl rfl rfl)
   have hb := dv.gv ha 6 rfl
   have ev : Ct [] w0 f2 [bk ag, some ah, bk ad, bk ac, some af, some ak, bk ae, some ai] O := dv.drop 6 rfl
   have hc := (dv.sd (cr.sd (cc.sd ((ay.sw (((a7.sw (((b1.sw (eq.so _ b0 (oge b9)) 2 0 rfl rfl rfl b2).sos bp ca).so _ a6 (oge be)) 5 0 rfl rfl rfl a8).sos a5 bf).so _ ax (oge a9)) 8 0 rfl rfl rfl az).so _ aw hr117) 9 5 rfl rfl rfl) 8 5 rfl rfl rfl) 7 6 rfl rfl rfl)
   have hd := ev.gv hc 6 rfl
   have he := ev.drop 6 rfl
   have hf := cr.std 5 rfl
   have f6 := dv.std 6 rfl
   have ew := ev.std 6 rfl
   have hg := (((g7.st hf).st f6).st ew)
   have hh := ((g9.st f6).st ew)
   refine L_call go60 [.agg #[vs r3.Id, vi r3.Shape.Kind, .slice ab am an, .slice aa ao ap], .agg #[vs r.Id, vi r.Shape.Kind, .slice aj a1 a2, .slice ae a3 a4]] rfl ((F36.calls f2 he.ok r3 ab am an aa ao ap cb hg hh r aj a1 a2 ae a3 a4 eo (hb.st ew) hd _ H).mono ?_)
   rintro _ nr ⟨r7, rfl, H, bl⟩
   have hi := cc.k0 bl
   refine L_pu (P_pick true (vb r7) (by exact congrArg Value.bool bq) rfl) (L_as (vb r7) rfl (L_nil ?_))
   have hj := (f3.sn bl)
   have hk := (((ay.sw (((a7.sw (((b1.sw (ep.so _ b0 (oge b9)) 1 0 rfl rfl rfl b2).sos bp ca).so _ a6 (oge be)) 4 0 rfl rfl rfl a8).sos a5 bf).so _ ax (oge a9)) 7 0 rfl rfl rfl az).so _ aw hr117).sn bl)
   have hl := (((ay.sw (((a7.sw (((b1.sw (eq.so _ b0 (oge b9)) 2 0 rfl rfl rfl b2).sos bp ca).so _ a6 (oge be)) 5 0 rfl rfl rfl a8).sos a5 bf).so _ ax (oge a9)) 8 0 rfl rfl rfl az).so _ aw hr117).sn bl)
   have hm := (((ay.sw (fz.so _ ax (oge a9)) 1 0 rfl rfl rfl az).so _ aw hr117).sn bl)
   have hn := (((ay.sw (f0.so _ ax (oge a9)) 2 0 rfl rfl rfl az).so _ aw hr117).sn bl)
   have ho := (((ay.sw (((a7.sw (es.so _ a6 (oge be)) 1 0 rfl rfl rfl a8).sos a5 bf).so _ ax (oge a9)) 4 0 rfl rfl rfl az).so _ aw hr117).sn bl)
   have hp := (((ay.sw (((a7.sw (et.so _ a6 (oge be)) 2 0 rfl rfl rfl a8).sos a5 bf).so _ ax (oge a9)) 5 0 rfl rfl rfl az).so _ aw hr117).sn bl)
   have hq := (((ay.bm (((a7.bm (((b1.bm ((fw.k0 en).k0 b0) 3 0 rfl rfl rfl b2).k0 bp).k0 a6) 6 0 rfl rfl rfl a8).k0 a5).k0 ax) 9 0 rfl rfl rfl az).k0 aw).k0 bl)
   have hr := (f5.k0 bl)
   have hs := (f4.k0 bl)
   have ht := ((f1.k0 aw).k0 bl)
   exact ⟨r7, H, (hasI rfl), hi, hj, hk, hl, hm, hn, ho, hp, hq, hr, hs, ht⟩
  have H := ite_f H bq
  refine L_pb bq rfl (L_pb bq rfl (L_pb bq rfl (L_pu (P_pick false (vb false) (by exact congrArg Value.bool bq) rfl) (L_as (vb false) rfl (L_nil ?_)))))
  have hu := ((ay.sw (((a7.sw (((b1.sw (ep.so _ b0 (oge b9)) 1 0 rfl rfl rfl b2).sos bp ca).so _ a6 (oge be)) 4 0 rfl rfl rfl a8).sos a5 bf).so _ ax (oge a9)) 7 0 rfl rfl rfl az).so _ aw hr117)
  have hv := ((ay.sw (((a7.sw (((b1.sw (eq.so _ b0 (oge b9)) 2 0 rfl rfl rfl b2).sos bp ca).so _ a6 (oge be)) 5 0 rfl rfl rfl a8).sos a5 bf).so _ ax (oge a9)) 8 0 rfl rfl rfl az).so _ aw hr117)
  have hw := ((ay.sw (fz.so _ ax (oge a9)) 1 0 rfl rfl rfl az).so _ aw hr117)
  have hx := ((ay.sw (f0.so _ ax (oge a9)) 2 0 rfl rfl rfl az).so _ aw hr117)
  have hy := ((ay.sw (((a7.sw (es.so _ a6 (oge be)) 1 0 rfl rfl rfl a8).sos a5 bf).so _ ax (oge a9)) 4 0 rfl rfl rfl az).so _ aw hr117)
  have hz := ((ay.sw (((a7.sw (et.so _ a6 (oge be)) 2 0 rfl rfl rfl a8).sos a5 bf).so _ ax (oge a9)) 5 0 rfl rfl rfl az).so _ aw hr117)
  have h0 := ((ay.bm (((a7.bm (((b1.bm ((fw.k0 en).k0 b0) 3 0 rfl rfl rfl b2).k0 bp).k0 a6) 6 0 rfl rfl rfl a8).k0 a5).k0 ax) 9 0 rfl rfl rfl az).k0 aw)
  have h1 := ((ay.bm (((a7.bm ((fx.k0 bp).k0 a6) 3 0 rfl rfl rfl a8).k0 a5).k0 ax) 6 0 rfl rfl rfl az).k0 aw)
  have h2 := ((ay.bm ((fy.k0 a5).k0 ax) 3 0 rfl rfl rfl az).k0 aw)
  have h3 := (f1.k0 aw)
  exact ⟨false, H, (hasI rfl), cc, f3, hu, hv, hw, hx, hy, hz, h0, h1, h2, h3⟩
 rintro ns ba ⟨v, h4, h5, bb, ch, ci, cj, b3, b4, cd, ce, ck, cl, cm, b7⟩
 obtain ⟨nt, rfl⟩ := Has.ins h5
 have H := g5 v h4
 refine W_cond v rfl (fun ex => ?_) (fun ex => ?_)
 ·have H := ite_t H ex
  refine W_seq ?_
  have dw : ([bk ag, some ah, bk ad, bk ac, some af, bk ab, bk aa, some ak, bk aj, bk ae, some ai] : Ob).Perm ((some af :: bk ab :: bk aa :: some ak :: bk aj :: bk ae :: []) ++ [bk ag, some ah, bk ad, bk ac, some ai]) := (pc fun a => by (try simp only [pca, pcc, pcn, Nat.add_zero, Nat.zero_add]); first | done | ac_rfl)
  have dx := bb.drops dw
  refine W_reg ?_
  have h6 := b7
  refine L_pu (P_lda ag61 sz61 cL ⟨ah, 0, none⟩ [vs r5.Id, vi r5.Shape.Kind, .slice ad aq ar, .slice ac au av] rfl rfl (h6.cells (off := 0) rfl)) (L_mv (vb r6) rfl (L_mv (.slice ag bg bh) rfl ?_))
  have h7 := ck
  refine L_stb ai 0 [vs ([] : Str), vi 0, .slice none 0 0, .slice none 0 0] [vs r5.Id, vi r5.Shape.Kind, .slice ad aq ar, .slice ac au av] [vs r5.Id, vi r5.Shape.Kind, .slice ad aq ar, .slice ac au av] rfl h7 rfl sz61 rfl rfl rfl fun nu dy h8 => ?_
  have cs := dx.wr 4 rfl dy
  refine L_as (vb r6) rfl (L_as (.slice ag bg bh) rfl (L_nil (W_ret ?_)))
  have h9 := cs.bgv h8 4 rfl
  have ct := cs.drop 4 rfl
  have cu := ct.drop 1 rfl
  have cv := cu.perm (.swap _ _ _)
  have ey := cv.perm (.cons _ (.swap _ _ _))
  have ia := ct.std 1 rfl
  have ib := cu.stp (.swap _ _ _)
  have ic := cv.stp (.cons _ (.swap _ _ _))
  have ie := (((h9.st ia).st ib).st ic)
  have ig := (cv.sp (cu.sp (ct.sd (cs.sd (dx.sw (bb.odr b3 dw 2 rfl) 2 4 rfl rfl rfl dy) 2 4 rfl rfl rfl) 2 1 rfl rfl rfl) (.swap _ _ _)) (.cons _ (.swap _ _ _)))
  have ih := (cv.sp (cu.sp (ct.sd (cs.sd (dx.sw (bb.odr b4 dw 3 rfl) 3 4 rfl rfl rfl dy) 3 4 rfl rfl rfl) 3 1 rfl rfl rfl) (.swap _ _ _)) (.cons _ (.swap _ _ _)))
  have ii := (cv.sp (cu.sp (ct.sd (cs.sd (dx.sw (bb.odr ch dw 0 rfl) 0 4 rfl rfl rfl dy) 0 4 rfl rfl rfl) 0 1 rfl rfl rfl) (.swap _ _ _)) (.cons _ (.swap _ _ _)))
  exact ⟨[.agg #[vs r5.Id, vi r5.Shape.Kind, .slice ad aq ar, .slice ac au av], vb r6, .slice ag bg bh], ⟨_, _, rfl, ie.1.res rfl ag61 sz61, ⟨_, rfl, ⟨_, rfl, rfl⟩⟩⟩, r5, r6, ([] : List Str), ad, aq, ar, ac, au, av, ag, bg, bh, rfl, H, ey.gr.g0, ey.ok, ey.ge, cg, ig, ih, ii⟩
 have H := ite_f H ex
 refine W_seq ?_
 obtain ⟨ij, H, ik⟩ := H
 refine W_join (J := (fun t bd => ∃ (v2 : Bool), ij v2 ∧ Has t [(8, .pointer (some ⟨ai, 0, none⟩)), (11, .pointer (some ⟨ak, 0, none⟩)), (12, vb r2), (13, .pointer (some ⟨af, 0, none⟩)), (14, vb r4), (15, .pointer (some ⟨ah, 0, none⟩)), (16, vb r6), (17, .slice ag bg bh), (51, vb v2)] ∧ Ct [] w0 bd [bk ag, some ah, bk ad, bk ac, some af, bk ab, bk aa, some ak, bk aj, bk ae, some ai] O ∧ Ow Kd.str 9 bd ([bk ag, some ah, bk ad, bk ac, some af, bk ab, bk aa, some ak, bk aj, bk ae, some ai] ++ O) (.slice ag bg bh) ([] : List Str) ∧ Ow kPt 114 bd ([bk ag, some ah, bk ad, bk ac, some af, bk ab, bk aa, some ak, bk aj, bk ae, some ai] ++ O) (.slice aj a1 a2) r.Shape.Pts ∧ Ow kTag 106 bd ([bk ag, some ah, bk ad, bk ac, some af, bk ab, bk aa, some ak, bk aj, bk ae, some ai] ++ O) (.slice ae a3 a4) r.Tags ∧ Ow kPt 114 bd ([bk ag, some ah, bk ad, bk ac, some af, bk ab, bk aa, some ak, bk aj, bk ae, some ai] ++ O) (.slice ad aq ar) r5.Shape.Pts ∧ Ow kTag 106 bd ([bk ag, some ah, bk ad, bk ac, some af, bk ab, bk aa, some ak, bk aj, bk ae, some ai] ++ O) (.slice ac au av) r5.Tags ∧ Ow kPt 114 bd ([bk ag, some ah, bk ad, bk ac, some af, bk ab, bk aa, some ak, bk aj, bk ae, some ai] ++ O) (.slice ab am an) r3.Shape.Pts ∧ Ow kTag 106 bd ([bk ag, some ah, bk ad, bk ac, some af, bk ab, bk aa, some ak, bk aj, bk ae, some ai] ++ O) (.slice aa ao ap) r3.Tags ∧ Bx bd ai [vs ([] : Str), vi 0, .slice none 0 0, .slice none 0 0] ∧ Bx bd ak [vs r.Id, vi r.Shape.Kind, .slice aj a1 a2, .slice ae a3 a4] ∧ Bx bd af [vs r3.Id, vi r3.Shape.Kind, .slice ab am an, .slice aa ao ap] ∧ Bx bd ah [vs r5.Id, vi r5.Shape.Kind, .slice ad aq ar, .slice ac au av])) ?_ ?_
 ·refine W_reg (L_mv (vb r6) rfl (L_mv (vb r2) rfl (L_pu (P_bcmp Tryz.underlying4 r6 r2 (r6 == r2) rfl rfl rfl) (L_mv (vb (r6 == r2)) rfl ?_))))
  rcases bool_or (r6 == r2) with br | br
  ·have H := ite_t H br
   refine L_rb br rfl (L_pu (P_lda ag61 sz61 cL ⟨ah, 0, none⟩ [vs r5.Id, vi r5.Shape.Kind, .slice ad aq ar, .slice ac au av] rfl rfl (b7.cells (off := 0) rfl)) (L_rb br rfl (L_pu (P_lda ag61 sz61 cL ⟨ak, 0, none⟩ [vs r.Id, vi r.Shape.Kind, .slice aj a1 a2, .slice ae a3 a4] rfl rfl (cl.cells (off := 0) rfl)) (L_rb br rfl ?_))))
   have il := bb.gv b3 2 rfl
   have cw := bb.drop 2 rfl
   have im := (bb.sd b4 3 2 rfl rfl rfl)
   have io := cw.gv im 2 rfl
   have dz := cw.drop 2 rfl
   have ip := (cw.sd (bb.sd ci 8 2 rfl rfl rfl) 7 2 rfl rfl rfl)
   have iq := dz.gv ip 6 rfl
   have ez : Ct [] w0 ba [bk ag, some ah, some af, bk ab, bk aa, some ak, bk ae, some ai] O := dz.drop 6 rfl
   have ir := (dz.sd (cw.sd (bb.sd cj 9 2 rfl rfl rfl) 8 2 rfl rfl rfl) 7 6 rfl rfl rfl)
   have it := ez.gv ir 6 rfl
   have iu := ez.drop 6 rfl
   have iv := cw.std 2 rfl
   have f7 := dz.std 6 rfl
   have e0 := ez.std 6 rfl
   have iw := (((il.st iv).st f7).st e0)
   have ix := ((io.st f7).st e0)
   refine L_call go60 [.agg #[vs r5.Id, vi r5.Shape.Kind, .slice ad aq ar, .slice ac au av], .agg #[vs r.Id, vi r.Shape.Kind, .slice aj a1 a2, .slice ae a3 a4]] rfl ((F36.calls ba iu.ok r5 ad aq ar ac au av cg iw ix r aj a1 a2 ae a3 a4 eo (iq.st e0) it _ H).mono ?_)
   rintro _ f8 ⟨r8, rfl, H, al⟩
   have b8 := bb.k0 al
   refine L_pu (P_pick true (vb r8) (by exact congrArg Value.bool br) rfl) (L_mv (vb r8) rfl ?_)
   rcases bool_or r8 with bc | bc
   ·have H := ite_t H bc
    refine L_pb bc rfl (L_pb bc rfl (L_pb bc rfl (L_pb bc rfl (L_pn rfl (L_pn rfl (L_pn rfl (L_pb bc rfl (L_pu (P_pick true (vb true) (by exact congrArg Value.bool bc) rfl) ?_))))))))
    refine L_as (vb true) rfl (L_nil ?_)
    have iy := (ch.sn al)
    have iz := (ci.sn al)
    have i0 := (cj.sn al)
    have i1 := (b3.sn al)
    have i2 := (b4.sn al)
    have i3 := (cd.sn al)
    have i4 := (ce.sn al)
    have i5 := (ck.k0 al)
    have i6 := (cl.k0 al)
    have i7 := (cm.k0 al)
    have i8 := (b7.k0 al)
    exact ⟨true, H, (hasI rfl), b8, iy, iz, i0, i1, i2, i3, i4, i5, i6, i7, i8⟩
   have H := ite_f H bc
   refine L_rb bc rfl (L_mv (vb r4) rfl (L_rb bc rfl (L_mv (vb r6) rfl (L_rb bc rfl (L_pu (P_bcmp Tryz.underlying4 r4 r6 (r4 == r6) rfl rfl rfl) (L_rb bc rfl (L_mv (vb (r4 == r6)) rfl ?_)))))))
   rcases bool_or (r4 == r6) with bs | bs
   ·have H := ite_t H bs
    refine L_rb bs rfl ?_
    have f9 := (cm.k0 al)
    refine L_pu (P_lda ag61 sz61 cL ⟨af, 0, none⟩ [vs r3.Id, vi r3.Shape.Kind, .slice ab am an, .slice aa ao ap] rfl rfl (f9.cells (off := 0) rfl)) (L_rb bs rfl ?_)
    have ga := (b7.k0 al)
    refine L_pu (P_lda ag61 sz61 cL ⟨ah, 0, none⟩ [vs r5.Id, vi r5.Shape.Kind, .slice ad aq ar, .slice ac au av] rfl rfl (ga.cells (off := 0) rfl)) (L_rb bs rfl ?_)
    have i9 := (cd.sn al)
    have ja := b8.gv i9 5 rfl
    have cx := b8.drop 5 rfl
    have jb := (b8.sd (ce.sn al) 6 5 rfl rfl rfl)
    have jc := cx.gv jb 5 rfl
    have d0 := cx.drop 5 rfl
    have jd := (cx.sd (b8.sd (b3.sn al) 2 5 rfl rfl rfl) 2 5 rfl rfl rfl)
    have je := d0.gv jd 2 rfl
    have e1 : Ct [] w0 f8 [bk ag, some ah, bk ac, some af, some ak, bk aj, bk ae, some ai] O := d0.drop 2 rfl
    have jf := (d0.sd (cx.sd (b8.sd (b4.sn al) 3 5 rfl rfl rfl) 3 5 rfl rfl rfl) 3 2 rfl rfl rfl)
    have jg := e1.gv jf 2 rfl
    have jh := e1.drop 2 rfl
    have ji := cx.std 5 rfl
    have gb := d0.std 2 rfl
    have e2 := e1.std 2 rfl
    have jj := (((ja.st ji).st gb).st e2)
    have jk := ((jc.st gb).st e2)
    refine L_call go60 [.agg #[vs r3.Id, vi r3.Shape.Kind, .slice ab am an, .slice aa ao ap], .agg #[vs r5.Id, vi r5.Shape.Kind, .slice ad aq ar, .slice ac au av]] rfl ((F36.calls f8 jh.ok r3 ab am an aa ao ap cb jj jk r5 ad aq ar ac au av cg (je.st e2) jg _ H).mono ?_)
    rintro _ nv ⟨r9, rfl, H, bn⟩
    have jl := b8.k0 bn
    refine L_rb bc rfl (L_pu (P_pick true (vb r9) (by exact congrArg Value.bool bs) rfl) (L_pu (P_pick false (vb r9) (by exact congrArg Value.bool bc) rfl) (L_as (vb r9) rfl (L_nil ?_))))
    have jm := ((ch.sn al).sn bn)
    have jn := ((ci.sn al).sn bn)
    have jo := ((cj.sn al).sn bn)
    have jp := ((b3.sn al).sn bn)
    have jq := ((b4.sn al).sn bn)
    have jr := ((cd.sn al).sn bn)
    have js := ((ce.sn al).sn bn)
    have jt := ((ck.k0 al).k0 bn)
    have ju := ((cl.k0 al).k0 bn)
    have jv := (f9.k0 bn)
    have jw := (ga.k0 bn)
    exact ⟨r9, H, (hasI rfl), jl, jm, jn, jo, jp, jq, jr, js, jt, ju, jv, jw⟩
   have H := ite_f H bs
   refine L_pb bs rfl (L_pb bs rfl (L_pb bs rfl (L_rb bc rfl (L_pu (P_pick false (vb false) (by exact congrArg Value.bool bs) rfl) (L_pu (P_pick false (vb false) (by exact congrArg Value.bool bc) rfl) (L_as (vb false) rfl (L_nil ?_)))))))
   have jx := (ch.sn al)
   have jy := (ci.sn al)
   have jz := (cj.sn al)
   have j0 := (b3.sn al)
   have j1 := (b4.sn al)
   have j2 := (cd.sn al)
   have j3 := (ce.sn al)
   have j4 := (ck.k0 al)
   have j5 := (cl.k0 al)
   have j6 := (cm.k0 al)
   have j7 := (b7.k0 al)
   exact ⟨false, H, (hasI rfl), b8, jx, jy, jz, j0, j1, j2, j3, j4, j5, j6, j7⟩
  have H := ite_f H br
  refine L_pb br rfl (L_pb br rfl (L_pb br rfl (L_pu (P_pick false (vb false) (by exact congrArg Value.bool br) rfl) (L_mv (vb false) rfl (L_run (dj := 60) rfl rfl rfl (L_mv (vb r4) rfl (L_run (dj := 60) rfl rfl rfl (L_mv (vb r6) rfl ?_))))))))
  refine L_run (dj := 60) rfl rfl rfl (L_pu (P_bcmp Tryz.underlying4 r4 r6 (r4 == r6) rfl rfl rfl) (L_run (dj := 60) rfl rfl rfl (L_mv (vb (r4 == r6)) rfl ?_)))
  rcases bool_or (r4 == r6) with bt | bt
  ·have H := ite_t H bt
   refine L_rb bt rfl (L_pu (P_lda ag61 sz61 cL ⟨af, 0, none⟩ [vs r3.Id, vi r3.Shape.Kind, .slice ab am an, .slice aa ao ap] rfl rfl (cm.cells (off := 0) rfl)) (L_rb bt rfl (L_pu (P_lda ag61 sz61 cL ⟨ah, 0, none⟩ [vs r5.Id, vi r5.Shape.Kind, .slice ad aq ar, .slice ac au av] rfl rfl (b7.cells (off := 0) rfl)) (L_rb bt rfl ?_))))
   have j8 := bb.gv cd 5 rfl
   have cy := bb.drop 5 rfl
   have j9 := (bb.sd ce 6 5 rfl rfl rfl)
   have ka := cy.gv j9 5 rfl
   have d1 := cy.drop 5 rfl
   have kb := (cy.sd (bb.sd b3 2 5 rfl rfl rfl) 2 5 rfl rfl rfl)
   have kc := d1.gv kb 2 rfl
   have e3 : Ct [] w0 ba [bk ag, some ah, bk ac, some af, some ak, bk aj, bk ae, some ai] O := d1.drop 2 rfl
   have ke := (d1.sd (cy.sd (bb.sd b4 3 5 rfl rfl rfl) 3 5 rfl rfl rfl) 3 2 rfl rfl rfl)
   have kf := e3.gv ke 2 rfl
   have kg := e3.drop 2 rfl
   have kh := cy.std 5 rfl
   have gc := d1.std 2 rfl
   have e4 := e3.std 2 rfl
   have ki := (((j8.st kh).st gc).st e4)
   have kj := ((ka.st gc).st e4)
   refine L_call go60 [.agg #[vs r3.Id, vi r3.Shape.Kind, .slice ab am an, .slice aa ao ap], .agg #[vs r5.Id, vi r5.Shape.Kind, .slice ad aq ar, .slice ac au av]] rfl ((F36.calls ba kg.ok r3 ab am an aa ao ap cb ki kj r5 ad aq ar ac au av cg (kc.st e4) kf _ H).mono ?_)
   rintro _ nw ⟨r10, rfl, H, bo⟩
   have kk := bb.k0 bo
   refine L_run (dj := 60) rfl rfl rfl (L_pu (P_pick true (vb r10) (by exact congrArg Value.bool bt) rfl) (L_pu (P_pick false (vb r10) (by exact congrArg Value.bool rfl) rfl) (L_as (vb r10) rfl (L_nil ?_))))
   have kl := (ch.sn bo)
   have km := (ci.sn bo)
   have kn := (cj.sn bo)
   have ko := (b3.sn bo)
   have kp := (b4.sn bo)
   have kq := (cd.sn bo)
   have kr := (ce.sn bo)
   have ks := (ck.k0 bo)
   have kt := (cl.k0 bo)
   have ku := (cm.k0 bo)
   have kv := (b7.k0 bo)
   exact ⟨r10, H, (hasI rfl), kk, kl, km, kn, ko, kp, kq, kr, ks, kt, ku, kv⟩
  have H := ite_f H bt
  exact L_pb bt rfl (L_pb bt rfl (L_pb bt rfl (L_run (dj := 60) rfl rfl rfl (L_pu (P_pick false (vb false) (by exact congrArg Value.bool bt) rfl) (L_pu (P_pick false (vb false) (by exact congrArg Value.bool rfl) rfl) (L_as (vb false) rfl (L_nil ⟨false, H, (hasI rfl), bb, ch, ci, cj, b3, b4, cd, ce, ck, cl, cm, b7⟩)))))))
 rintro nx bd ⟨v2, kx, ky, a0, kz, k1, k2, gd, gf, d2, d3, cz, k3, d4, gg⟩
 obtain ⟨ny, rfl⟩ := Has.ins ky
 have H := ik v2 kx
 refine W_cond v2 rfl (fun e5 => ?_) (fun e5 => ?_)
 ·have H := ite_t H e5
  refine W_seq ?_
  have d5 : ([bk ag, some ah, bk ad, bk ac, some af, bk ab, bk aa, some ak, bk aj, bk ae, some ai] : Ob).Perm ((some ah :: bk ad :: bk ac :: some ak :: bk aj :: bk ae :: []) ++ [bk ag, some af, bk ab, bk aa, some ai]) := (pc fun a => by (try simp only [pca, pcc, pcn, Nat.add_zero, Nat.zero_add]); first | done | ac_rfl)
  have d6 := a0.drops d5
  refine W_reg ?_
  have k4 := d4
  refine L_pu (P_lda ag61 sz61 cL ⟨af, 0, none⟩ [vs r3.Id, vi r3.Shape.Kind, .slice ab am an, .slice aa ao ap] rfl rfl (k4.cells (off := 0) rfl)) (L_mv (vb r4) rfl (L_mv (.slice ag bg bh) rfl ?_))
  have k5 := cz
  refine L_stb ai 0 [vs ([] : Str), vi 0, .slice none 0 0, .slice none 0 0] [vs r3.Id, vi r3.Shape.Kind, .slice ab am an, .slice aa ao ap] [vs r3.Id, vi r3.Shape.Kind, .slice ab am an, .slice aa ao ap] rfl k5 rfl sz61 rfl rfl rfl fun nz d7 k6 => ?_
  have c1 := d6.wr 4 rfl d7
  refine L_as (vb r4) rfl (L_as (.slice ag bg bh) rfl (L_nil (W_ret ?_)))
  have k7 := c1.bgv k6 4 rfl
  have c5 := c1.drop 4 rfl
  have c6 := c5.drop 1 rfl
  have c7 := c6.perm (.swap _ _ _)
  have e6 := c7.perm (.cons _ (.swap _ _ _))
  have k8 := c5.std 1 rfl
  have k9 := c6.stp (.swap _ _ _)
  have la := c7.stp (.cons _ (.swap _ _ _))
  have lb := (((k7.st k8).st k9).st la)
  have lc := (c7.sp (c6.sp (c5.sd (c1.sd (d6.sw (a0.odr d2 d5 2 rfl) 2 4 rfl rfl rfl d7) 2 4 rfl rfl rfl) 2 1 rfl rfl rfl) (.swap _ _ _)) (.cons _ (.swap _ _ _)))
  have ld := (c7.sp (c6.sp (c5.sd (c1.sd (d6.sw (a0.odr d3 d5 3 rfl) 3 4 rfl rfl rfl d7) 3 4 rfl rfl rfl) 3 1 rfl rfl rfl) (.swap _ _ _)) (.cons _ (.swap _ _ _)))
  have le := (c7.sp (c6.sp (c5.sd (c1.sd (d6.sw (a0.odr kz d5 0 rfl) 0 4 rfl rfl rfl d7) 0 4 rfl rfl rfl) 0 1 rfl rfl rfl) (.swap _ _ _)) (.cons _ (.swap _ _ _)))
  exact ⟨[.agg #[vs r3.Id, vi r3.Shape.Kind, .slice ab am an, .slice aa ao ap], vb r4, .slice ag bg bh], ⟨_, _, rfl, lb.1.res rfl ag61 sz61, ⟨_, rfl, ⟨_, rfl, rfl⟩⟩⟩, r3, r4, ([] : List Str), ab, am, an, aa, ao, ap, ag, bg, bh, rfl, H, e6.gr.g0, e6.ok, e6.ge, cb, lc, ld, le⟩
 have H := ite_f H e5
 refine W_seq (W_reg (L_mv (vb r4) rfl (L_pu (P_not r4 rfl) (L_as (vb (!r4)) rfl (L_nil ?_)))))
 refine W_cond (!r4) rfl (fun e7 => ?_) (fun e7 => ?_)
 ·have H := ite_t H e7
  refine W_seq ?_
  have e8 : ([bk ag, some ah, bk ad, bk ac, some af, bk ab, bk aa, some ak, bk aj, bk ae, some ai] : Ob).Perm ((bk ag :: some af :: bk ab :: bk aa :: some ak :: bk aj :: bk ae :: []) ++ [some ah, bk ad, bk ac, some ai]) := (pc fun a => by (try simp only [pca, pcc, pcn, Nat.add_zero, Nat.zero_add]); first | done | ac_rfl)
  have lf := a0.drops e8
  refine W_reg ?_
  have lg := gg
  refine L_pu (P_lda ag61 sz61 cL ⟨ah, 0, none⟩ [vs r5.Id, vi r5.Shape.Kind, .slice ad aq ar, .slice ac au av] rfl rfl (lg.cells (off := 0) rfl)) (L_lit (kd := Kd.str) ei81 lf ([([103, 111, 110, 101] : Str)] : List Str) (cells := [vs ([103, 111, 110, 101] : Str)]) ⟨[vs ([103, 111, 110, 101] : Str)], _, rfl, ⟨rfl, (by decide : Lim ([103, 111, 110, 101] : Str))⟩, rfl⟩ (fun _ => by kernel_rfl) fun n1 e9 fa fb fc hr390 d8 lh => ?_)
  have li := (cz.k0 fc)
  refine L_stb ai 0 [vs ([] : Str), vi 0, .slice none 0 0, .slice none 0 0] [vs r5.Id, vi r5.Shape.Kind, .slice ad aq ar, .slice ac au av] [vs r5.Id, vi r5.Shape.Kind, .slice ad aq ar, .slice ac au av] rfl li rfl sz61 rfl rfl rfl fun n3 d9 lj => ?_
  have c9 := d8.wr 4 rfl d9
  refine L_as (vb true) rfl (L_as (.slice e9 fa fb) rfl (L_nil (W_ret ?_)))
  have lk := c9.bgv lj 4 rfl
  have da := c9.drop 4 rfl
  have db := da.drop 1 rfl
  have dc := db.perm (.swap _ _ _)
  have fd := dc.perm (.cons _ (.swap _ _ _))
  have ll := da.std 1 rfl
  have lm := db.stp (.swap _ _ _)
  have ln := dc.stp (.cons _ (.swap _ _ _))
  have lo := (((lk.st ll).st lm).st ln)
  have lp := (dc.sp (db.sp (da.sd (c9.sd (d8.sw ((a0.odr gd e8 1 rfl).so _ fc hr390) 2 4 rfl rfl rfl d9) 2 4 rfl rfl rfl) 2 1 rfl rfl rfl) (.swap _ _ _)) (.cons _ (.swap _ _ _)))
  have lq := (dc.sp (db.sp (da.sd (c9.sd (d8.sw ((a0.odr gf e8 2 rfl).so _ fc hr390) 3 4 rfl rfl rfl d9) 3 4 rfl rfl rfl) 3 1 rfl rfl rfl) (.swap _ _ _)) (.cons _ (.swap _ _ _)))
  have lr := (dc.sp (db.sp (da.sd (c9.sd (d8.sw lh 0 4 rfl rfl rfl d9) 0 4 rfl rfl rfl) 0 1 rfl rfl rfl) (.swap _ _ _)) (.cons _ (.swap _ _ _)))
  exact ⟨[.agg #[vs r5.Id, vi r5.Shape.Kind, .slice ad aq ar, .slice ac au av], vb true, .slice e9 fa fb], ⟨_, _, rfl, lo.1.res rfl ag61 sz61, ⟨_, rfl, ⟨_, rfl, rfl⟩⟩⟩, r5, true, ([([103, 111, 110, 101] : Str)] : List Str), ad, aq, ar, ac, au, av, e9, fa, fb, rfl, H, fd.gr.g0, fd.ok, fd.ge, cg, lp, lq, lr⟩
 have H := ite_f H e7
 refine W_seq (W_reg (L_mv (vb r6) rfl (L_pu (P_not r6 rfl) (L_as (vb (!r6)) rfl (L_nil ?_)))))
 refine W_cond (!r6) rfl (fun fe => ?_) (fun fe => ?_)
 ·have H := ite_t H fe
  refine W_seq ?_
  have ff : ([bk ag, some ah, bk ad, bk ac, some af, bk ab, bk aa, some ak, bk aj, bk ae, some ai] : Ob).Perm ((bk ag :: some ah :: bk ad :: bk ac :: some ak :: bk aj :: bk ae :: []) ++ [some af, bk ab, bk aa, some ai]) := (pc fun a => by (try simp only [pca, pcc, pcn, Nat.add_zero, Nat.zero_add]); first | done | ac_rfl)
  have ls := a0.drops ff
  refine W_reg ?_
  have lt := d4
  refine L_pu (P_lda ag61 sz61 cL ⟨af, 0, none⟩ [vs r3.Id, vi r3.Shape.Kind, .slice ab am an, .slice aa ao ap] rfl rfl (lt.cells (off := 0) rfl)) (L_lit (kd := Kd.str) ei81 ls ([([103, 111, 110, 101] : Str)] : List Str) (cells := [vs ([103, 111, 110, 101] : Str)]) ⟨[vs ([103, 111, 110, 101] : Str)], _, rfl, ⟨rfl, (by decide : Lim ([103, 111, 110, 101] : Str))⟩, rfl⟩ (fun _ => by kernel_rfl) fun n5 fg fh fi fj hr420 ea lu => ?_)
  have lv := (cz.k0 fj)
  refine L_stb ai 0 [vs ([] : Str), vi 0, .slice none 0 0, .slice none 0 0] [vs r3.Id, vi r3.Shape.Kind, .slice ab am an, .slice aa ao ap] [vs r3.Id, vi r3.Shape.Kind, .slice ab am an, .slice aa ao ap] rfl lv rfl sz61 rfl rfl rfl fun n6 eb lw => ?_
  have dd := ea.wr 4 rfl eb
  refine L_as (vb true) rfl (L_as (.slice fg fh fi) rfl (L_nil (W_ret ?_)))
  have lx := dd.bgv lw 4 rfl
  have de := dd.drop 4 rfl
  have df := de.drop 1 rfl
  have dg := df.perm (.swap _ _ _)
  have fk := dg.perm (.cons _ (.swap _ _ _))
  have ly := de.std 1 rfl
  have lz := df.stp (.swap _ _ _)
  have l0 := dg.stp (.cons _ (.swap _ _ _))
  have l1 := (((lx.st ly).st lz).st l0)
  have l2 := (dg.sp (df.sp (de.sd (dd.sd (ea.sw ((a0.odr d2 ff 1 rfl).so _ fj hr420) 2 4 rfl rfl rfl eb) 2 4 rfl rfl rfl) 2 1 rfl rfl rfl) (.swap _ _ _)) (.cons _ (.swap _ _ _)))
  have l3 := (dg.sp (df.sp (de.sd (dd.sd (ea.sw ((a0.odr d3 ff 2 rfl).so _ fj hr420) 3 4 rfl rfl rfl eb) 3 4 rfl rfl rfl) 3 1 rfl rfl rfl) (.swap _ _ _)) (.cons _ (.swap _ _ _)))
  have l4 := (dg.sp (df.sp (de.sd (dd.sd (ea.sw lu 0 4 rfl rfl rfl eb) 0 4 rfl rfl rfl) 0 1 rfl rfl rfl) (.swap _ _ _)) (.cons _ (.swap _ _ _)))
  exact ⟨[.agg #[vs r3.Id, vi r3.Shape.Kind, .slice ab am an, .slice aa ao ap], vb true, .slice fg fh fi], ⟨_, _, rfl, l1.1.res rfl ag61 sz61, ⟨_, rfl, ⟨_, rfl, rfl⟩⟩⟩, r3, true, ([([103, 111, 110, 101] : Str)] : List Str), ab, am, an, aa, ao, ap, fg, fh, fi, rfl, H, fk.gr.g0, fk.ok, fk.ge, cb, l2, l3, l4⟩
 have H := ite_f H fe
 refine W_seq (W_reg (L_mv (vb r2) rfl (L_pu (P_not r2 rfl) (L_as (vb (!r2)) rfl (L_nil ?_)))))
 refine W_cond (!r2) rfl (fun fl => ?_) (fun fl => ?_)
 ·have H := ite_t H fl
  refine W_seq ?_
  have fm : ([bk ag, some ah, bk ad, bk ac, some af, bk ab, bk aa, some ak, bk aj, bk ae, some ai] : Ob).Perm ((bk ag :: some ah :: bk ad :: bk ac :: some ak :: bk aj :: bk ae :: []) ++ [some af, bk ab, bk aa, some ai]) := (pc fun a => by (try simp only [pca, pcc, pcn, Nat.add_zero, Nat.zero_add]); first | done | ac_rfl)
  have l5 := a0.drops fm
  refine W_reg ?_
  have l6 := d4
  refine L_pu (P_lda ag61 sz61 cL ⟨af, 0, none⟩ [vs r3.Id, vi r3.Shape.Kind, .slice ab am an, .slice aa ao ap] rfl rfl (l6.cells (off := 0) rfl)) (L_lit (kd := Kd.str) ei81 l5 ([([98, 111, 116, 104] : Str)] : List Str) (cells := [vs ([98, 111, 116, 104] : Str)]) ⟨[vs ([98, 111, 116, 104] : Str)], _, rfl, ⟨rfl, (by decide : Lim ([98, 111, 116, 104] : Str))⟩, rfl⟩ (fun _ => by kernel_rfl) fun n8 fn fo fp fq hr450 ec l7 => ?_)
  have l8 := (cz.k0 fq)
  refine L_stb ai 0 [vs ([] : Str), vi 0, .slice none 0 0, .slice none 0 0] [vs r3.Id, vi r3.Shape.Kind, .slice ab am an, .slice aa ao ap] [vs r3.Id, vi r3.Shape.Kind, .slice ab am an, .slice aa ao ap] rfl l8 rfl sz61 rfl rfl rfl fun n9 ed l9 => ?_
  have dh := ec.wr 4 rfl ed
  refine L_as (vb true) rfl (L_as (.slice fn fo fp) rfl (L_nil (W_ret ?_)))
  have ma := dh.bgv l9 4 rfl
  have di := dh.drop 4 rfl
  have dk := di.drop 1 rfl
  have dl := dk.perm (.swap _ _ _)
  have fr := dl.perm (.cons _ (.swap _ _ _))
  have mb := di.std 1 rfl
  have mc := dk.stp (.swap _ _ _)
  have md := dl.stp (.cons _ (.swap _ _ _))
  have me := (((ma.st mb).st mc).st md)
  have mf := (dl.sp (dk.sp (di.sd (dh.sd (ec.sw ((a0.odr d2 fm 1 rfl).so _ fq hr450) 2 4 rfl rfl rfl ed) 2 4 rfl rfl rfl) 2 1 rfl rfl rfl) (.swap _ _ _)) (.cons _ (.swap _ _ _)))
  have mg := (dl.sp (dk.sp (di.sd (dh.sd (ec.sw ((a0.odr d3 fm 2 rfl).so _ fq hr450) 3 4 rfl rfl rfl ed) 3 4 rfl rfl rfl) 3 1 rfl rfl rfl) (.swap _ _ _)) (.cons _ (.swap _ _ _)))
  have mh := (dl.sp (dk.sp (di.sd (dh.sd (ec.sw l7 0 4 rfl rfl rfl ed) 0 4 rfl rfl rfl) 0 1 rfl rfl rfl) (.swap _ _ _)) (.cons _ (.swap _ _ _)))
  exact ⟨[.agg #[vs r3.Id, vi r3.Shape.Kind, .slice ab am an, .slice aa ao ap], vb true, .slice fn fo fp], ⟨_, _, rfl, me.1.res rfl ag61 sz61, ⟨_, rfl, ⟨_, rfl, rfl⟩⟩⟩, r3, true, ([([98, 111, 116, 104] : Str)] : List Str), ab, am, an, aa, ao, ap, fn, fo, fp, rfl, H, fr.gr.g0, fr.ok, fr.ge, cb, mf, mg, mh⟩
 have H := ite_f H fl
 refine W_skip (W_seq (W_reg (L_pu (P_lda ag61 sz61 cL ⟨ak, 0, none⟩ [vs r.Id, vi r.Shape.Kind, .slice aj a1 a2, .slice ae a3 a4] rfl rfl (k3.cells (off := 0) rfl)) (L_pu (P_lda ag61 sz61 cL ⟨af, 0, none⟩ [vs r3.Id, vi r3.Shape.Kind, .slice ab am an, .slice aa ao ap] rfl rfl (d4.cells (off := 0) rfl)) (L_pu (P_lda ag61 sz61 cL ⟨ah, 0, none⟩ [vs r5.Id, vi r5.Shape.Kind, .slice ad aq ar, .slice ac au av] rfl rfl (gg.cells (off := 0) rfl)) ?_)))))
 have mi := a0.gv k1 8 rfl
 have cf := a0.drop 8 rfl
 have mj := (a0.sd k2 9 8 rfl rfl rfl)
 have mk := cf.gv mj 8 rfl
 have cn := cf.drop 8 rfl
 have ml := (cf.sd (a0.sd d2 5 8 rfl rfl rfl) 5 8 rfl rfl rfl)
 have mm := cn.gv ml 5 rfl
 have dm : Ct [] w0 bd [bk ag, some ah, bk ad, bk ac, some af, bk aa, some ak, some ai] O := cn.drop 5 rfl
 have mn := (cn.sd (cf.sd (a0.sd d3 6 8 rfl rfl rfl) 6 8 rfl rfl rfl) 6 5 rfl rfl rfl)
 have mo := dm.gv mn 5 rfl
 have ee := dm.drop 5 rfl
 have mp := (dm.sd (cn.sd (cf.sd (a0.sd gd 2 8 rfl rfl rfl) 2 8 rfl rfl rfl) 2 5 rfl rfl rfl) 2 5 rfl rfl rfl)
 have mq := ee.gv mp 2 rfl
 have fs := ee.drop 2 rfl
 have mr := (ee.sd (dm.sd (cn.sd (cf.sd (a0.sd gf 3 8 rfl rfl rfl) 3 8 rfl rfl rfl) 3 5 rfl rfl rfl) 3 5 rfl rfl rfl) 3 2 rfl rfl rfl)
 have ms := fs.gv mr 2 rfl
 have mt : Ct [] w0 bd [bk ag, some ah, some af, some ak, some ai] O := fs.drop 2 rfl
 have mu := cf.std 8 rfl
 have gh := cn.std 5 rfl
 have ft := dm.std 5 rfl
 have ef := ee.std 2 rfl
 have dn := fs.std 2 rfl
 have mv := (((((mi.st mu).st gh).st ft).st ef).st dn)
 have mw := ((((mk.st gh).st ft).st ef).st dn)
 have mx := (((mm.st ft).st ef).st dn)
 have my := ((mo.st ef).st dn)
 refine L_call go115 [.agg #[vs r.Id, vi r.Shape.Kind, .slice aj a1 a2, .slice ae a3 a4], .agg #[vs r3.Id, vi r3.Shape.Kind, .slice ab am an, .slice aa ao ap], .agg #[vs r5.Id, vi r5.Shape.Kind, .slice ad aq ar, .slice ac au av]] rfl ((F98.calls bd mt.ok r aj a1 a2 ae a3 a4 eo mv mw r3 ab am an aa ao ap cb mx my r5 ad aq ar ac au av cg (mq.st dn) ms _ H).mono ?_)
 rintro _ oa ⟨r11, r12, bi, bu, bv, bj, bw, bx, bz, b5, b6, rfl, H, fu, mz, gi, m0, m1, m2, m3⟩
 have m4 := Ok.unl (L := [bk ag, some ah, bk ad, bk ac, some af, bk ab, bk aa, some ak, bk aj, bk ae, some ai]) (L' := [bk ag, some ah, some af, some ak, some ai]) (O := O) a0 fu mz gi
 have m5 := Ow.unl (L := [bk ag, some ah, bk ad, bk ac, some af, bk ab, bk aa, some ak, bk aj, bk ae, some ai]) (L' := [bk ag, some ah, some af, some ak, some ai]) (O := O) (fun _ _ _ _ _ _ h => h) (.cons_cons _ (.cons_cons _ (.cons _ (.cons _ (.cons_cons _ (.cons _ (.cons _ (.cons_cons _ (.cons _ (.cons _ (.cons_cons _ (.slnil)))))))))))) m1
 have m6 := Ow.unl (L := [bk ag, some ah, bk ad, bk ac, some af, bk ab, bk aa, some ak, bk aj, bk ae, some ai]) (L' := [bk ag, some ah, some af, some ak, some ai]) (O := O) (fun _ _ _ _ _ _ h => h) (.cons_cons _ (.cons_cons _ (.cons _ (.cons _ (.cons_cons _ (.cons _ (.cons _ (.cons_cons _ (.cons _ (.cons _ (.cons_cons _ (.slnil)))))))))))) m2
 have m7 := Ow.unl (L := [bk ag, some ah, bk ad, bk ac, some af, bk ab, bk aa, some ak, bk aj, bk ae, some ai]) (L' := [bk ag, some ah, some af, some ak, some ai]) (O := O) (fun _ _ _ _ _ _ h => h) (.cons_cons _ (.cons_cons _ (.cons _ (.cons _ (.cons_cons _ (.cons _ (.cons _ (.cons_cons _ (.cons _ (.cons _ (.cons_cons _ (.slnil)))))))))))) m3
 have m8 := a0.owns fu m4 gi
 refine L_mv (.tuple #[.agg #[vs r11.Id, vi r11.Shape.Kind, .slice bi bu bv, .slice bj bw bx], .slice bz b5 b6]) rfl (L_pu (P_ext [.agg #[vs r11.Id, vi r11.Shape.Kind, .slice bi bu bv, .slice bj bw bx], .slice bz b5 b6] 0 (.agg #[vs r11.Id, vi r11.Shape.Kind, .slice bi bu bv, .slice bj bw bx]) rfl rfl) (L_pu (P_ext [.agg #[vs r11.Id, vi r11.Shape.Kind, .slice bi bu bv, .slice bj bw bx], .slice bz b5 b6] 1 (.slice bz b5 b6) rfl rfl) (L_alloc [vs [], .int .i64 0, .slice none 0 0, .slice none 0 0] ze61 fun ob dp eg hu533 dq m9 => ?_)))
 have dr := m8.own dq (some dp) (oglt eg hu533)
 refine L_stb dp 0 [vs ([] : Str), vi 0, .slice none 0 0, .slice none 0 0] [vs r11.Id, vi r11.Shape.Kind, .slice bi bu bv, .slice bj bw bx] [vs r11.Id, vi r11.Shape.Kind, .slice bi bu bv, .slice bj bw bx] rfl m9 rfl sz61 rfl rfl rfl fun oc ds na => ?_
 have eh := dr.wr 0 rfl ds
 refine L_as (.slice bz b5 b6) rfl (L_nil (W_seq ?_))
 have ei : ([some dp, bk bi, bk bj, bk bz, bk ag, some ah, bk ad, bk ac, some af, bk ab, bk aa, some ak, bk aj, bk ae, some ai] : Ob).Perm ((bk ag :: some ah :: bk ad :: bk ac :: some af :: bk ab :: bk aa :: some ak :: bk aj :: bk ae :: []) ++ [some dp, bk bi, bk bj, bk bz, some ai]) := (pc fun a => by (try simp only [pca, pcc, pcn, Nat.add_zero, Nat.zero_add]); first | done | ac_rfl)
 have ej := eh.drops ei
 refine W_reg ?_
 have nb := na
 refine L_pu (P_lda ag61 sz61 cL ⟨dp, 0, none⟩ [vs r11.Id, vi r11.Shape.Kind, .slice bi bu bv, .slice bj bw bx] rfl rfl (nb.cells (off := 0) rfl)) (L_mv (.slice bz b5 b6) rfl ?_)
 have nc := (dr.bm ((cz.k0 fu).k0 dq) 14 0 rfl rfl rfl ds)
 refine L_stb ai 0 [vs ([] : Str), vi 0, .slice none 0 0, .slice none 0 0] [vs r11.Id, vi r11.Shape.Kind, .slice bi bu bv, .slice bj bw bx] [vs r11.Id, vi r11.Shape.Kind, .slice bi bu bv, .slice bj bw bx] rfl nc rfl sz61 rfl rfl rfl fun od ek nd => ?_
 have dt := ej.wr 4 rfl ek
 refine L_as (vb true) rfl (L_as (.slice bz b5 b6) rfl (L_nil (W_ret ?_)))
 have ne := dt.bgv nd 4 rfl
 have du := dt.drop 4 rfl
 have fv := du.drop 0 rfl
 have nf := du.std 0 rfl
 have ng := (ne.st nf)
 have nh := (du.sd (dt.sd (ej.sw (eh.odr (dr.sw (m5.so _ dq (oge eg)) 1 0 rfl rfl rfl ds) ei 1 rfl) 1 4 rfl rfl rfl ek) 1 4 rfl rfl rfl) 1 0 rfl rfl rfl)
 have ni := (du.sd (dt.sd (ej.sw (eh.odr (dr.sw (m6.so _ dq (oge eg)) 2 0 rfl rfl rfl ds) ei 2 rfl) 2 4 rfl rfl rfl ek) 2 4 rfl rfl rfl) 2 0 rfl rfl rfl)
 have nj := (du.sd (dt.sd (ej.sw (eh.odr (dr.sw (m7.so _ dq (oge eg)) 3 0 rfl rfl rfl ds) ei 3 rfl) 3 4 rfl rfl rfl ek) 3 4 rfl rfl rfl) 3 0 rfl rfl rfl)
 exact ⟨[.agg #[vs r11.Id, vi r11.Shape.Kind, .slice bi bu bv, .slice bj bw bx], vb true, .slice bz b5 b6], ⟨_, _, rfl, ng.1.res rfl ag61 sz61, ⟨_, rfl, ⟨_, rfl, rfl⟩⟩⟩, r11, true, r12, bi, bu, bv, bj, bw, bx, bz, b5, b6, rfl, H, fv.gr.g0, fv.ok, fv.ge, m0, nh, ni, nj⟩
end
section
open Go.RowKit
def F84.E (s : List Feat) (Q : List Feat → Prop) : Prop :=
 (∃ (I39 : (List Feat) → Int → Prop) (mu40 : (List Feat) → Int → Nat), I39 ([] : List Feat) 0 ∧ ∀ (xs2 : List Feat) (i2 : Int), I39 xs2 i2 → (if decide (i2 < (s.length : Int)) then ((0 : Int) ≤ i2 ∧ i2 < (s.length : Int)) ∧ F81.E (nth s i2) (fun r => (xs2.length + ([r] : List Feat).length ≤ 268435456) ∧ (-9223372036854775808 ≤ i2) ∧ I39 (xs2 ++ ([r] : List Feat)) (i2 + 1) ∧ mu40 (xs2 ++ ([r] : List Feat)) (i2 + 1) < mu40 xs2 i2) else Q xs2))
theorem F84.calls {O : Ob} (w0 : World) (hO : Ok w0 O) (s : List Feat) (A1 : Option Addr) (n2 c3 : Nat) (hp4 : Sl kFeat w0 (Fr O) (.slice A1 n2 c3) s) (Q : List Feat → Prop) (h : F84.E s Q) :
  Ret Tryz.prog 28 [.slice A1 n2 c3] w0 (fun v w' => ∃ (r0 : List Feat) (A0 : Option Addr) (n0 c0 : Nat), v = .slice A0 n0 c0 ∧ Q r0 ∧ Gr w0 w' none ∧ Ok w' ([bk A0] ++ O) ∧ (∀ b, some b ∈ [bk A0] → w0.heap.size ≤ b) ∧ Ow kFeat 61 w' ([bk A0] ++ O) (.slice A0 n0 c0) r0) := by
 unfold F84.E at h
 have H := h
 clear h
 have hc0 := Ct.init hO
 refine Ret_enter Tryz.func28 rfl 21 rfl [.tmp 2] rfl rfl ?_
 refine W_seq (W_reg (L_as (.slice none 0 0) rfl (L_nil (W_seq (W_reg (L_lit (kd := kFeat) ei26 hc0 ([] : List Feat) (cells := []) rfl (fun _ => by kernel_rfl) fun w6 A7 n8 c9 cg hr11 aw bb => ?_))))))
 refine L_as (.slice A7 n8 c9) rfl (L_nil (W_seq (W_seq (W_reg (L_as (vi 0) rfl (L_nil (W_block ?_)))))))
 obtain ⟨bc, bd, aj, H⟩ := H
 refine W_loop (α := (List Feat) × (Option Addr) × Nat × Nat × Int) (fun (sv__ : (List Feat) × (Option Addr) × Nat × Nat × Int) t ae => match sv__ with | (xs2, aa, ab, ac, i2) => bc xs2 i2 ∧ Has t [(0, .slice A1 n2 c3), (3, .slice aa ab ac), (4, vi i2)] ∧ Ct [] w0 ae [bk aa] O ∧ Sl kFeat ae (Fr ([bk aa] ++ O)) (.slice A1 n2 c3) s ∧ Ow kFeat 61 ae ([bk aa] ++ O) (.slice aa ab ac) xs2) (fun (sv__ : (List Feat) × (Option Addr) × Nat × Nat × Int) => match sv__ with | (xs2, _, _, _, i2) => bd xs2 i2) (([] : List Feat), A7, n8, c9, 0) ⟨aj, (hasI rfl), aw, (hp4.st aw.st), bb⟩ ?_
 rintro ⟨xs2, aa, ab, ac, i2⟩ _ ae ⟨aj, be, ad, af, ax⟩
 obtain ⟨ch, rfl⟩ := Has.ins be
 have H := H xs2 i2 aj
 refine W_seq (W_seq (W_reg (L_mv (vi i2) rfl (L_mv (.slice A1 n2 c3) rfl ?_))))
 have bf := af.le
 refine L_pu (P_len Tryz.underlying26 A1 n2 c3 af.len rfl) (L_pu (P_cmp i2 (s.length : Int) (decide (i2 < (s.length : Int))) rfl rfl rfl) (L_nil ?_))
 refine W_cond (decide (i2 < (s.length : Int))) rfl (fun ah => ?_) (fun ah => ?_)
 ·have H := ite_t H ah
  refine W_skip (W_seq (W_block (W_reg (L_mv (.slice aa ab ac) rfl (L_mv (.slice A1 n2 c3) rfl (L_mv (vi i2) rfl ?_))))))
  obtain ⟨ay, H⟩ := H
  obtain ⟨az, ci, bg, cj, bh, bi⟩ := af.get default (by decide) i2 ay
  obtain ⟨ak, al, am, an, ao, ap, rfl, bj, bl, bm⟩ := kFeat.op bh
  refine L_pu (P_ia Tryz.underlying26 se26 A1 az n2 c3 af.len i2 rfl bg rfl ay) (L_pu (P_lda ag61 sz61 cL (az.add (i2.toNat * 4)) [vs ((nth s i2).Id), vi ((nth s i2).Shape.Kind), .slice ak al am, .slice an ao ap] rfl rfl bi) ?_)
  refine L_call go61 [.agg #[vs ((nth s i2).Id), vi ((nth s i2).Shape.Kind), .slice ak al am, .slice an ao ap]] rfl ((F81.calls ae ad.ok (nth s i2) ak al am an ao ap bj bl bm _ H).mono ?_)
  rintro _ ck ⟨r, a0, a1, a2, a3, a4, a5, rfl, H, aq, bn, ar, bo, bp, bq⟩
  have ag := ad.owns aq bn ar
  have br := ag.gv bp 0 rfl
  have ai := ag.drop 0 rfl
  have bs := (ag.sd bq 1 0 rfl rfl rfl)
  have bt := ai.gv bs 0 rfl
  have a6 := ai.drop 0 rfl
  have a7 := ai.std 0 rfl
  refine L_lit (kd := kFeat) ei26 a6 ([r] : List Feat) (cells := [vs r.Id, vi r.Shape.Kind, .slice a0 a1 a2, .slice a3 a4 a5]) ⟨[vs r.Id, vi r.Shape.Kind, .slice a0 a1 a2, .slice a3 a4 a5], _, rfl, (kFeat.mk _ _ r bo (br.st a7) bt), rfl⟩ (fun _ => by kernel_rfl) fun cl bu bv bw a8 hr94 bx bz => ?_
  obtain ⟨b0, H⟩ := H
  have b1 := ((ai.sd (ag.sd (ax.sos aq ar) 2 0 rfl rfl rfl) 1 0 rfl rfl rfl).so _ a8 hr94)
  refine L_app ei26 bx (.slice aa ab ac) xs2 ([r] : List Feat) rfl b1 (.slice bu bv bw) rfl bz.sx 1 rfl b0 fun b2 au a9 ba cm b3 av b4 => ?_
  refine L_as (.slice au a9 ba) rfl (L_nil (W_reg (L_mv (vi i2) rfl ?_)))
  obtain ⟨b5, H⟩ := H
  have b6 : I64 (i2 + 1) := i64_succ (of_decide_eq_true ah) bf b5
  refine L_pu (P_add i2 1 rfl rfl b6) (L_as (vi (i2 + 1)) rfl (L_nil ?_))
  have b7 : Ct [] w0 b2 [bk au] O := av.drop 0 rfl
  obtain ⟨b8, b9⟩ := H
  have ca := ad.stos aq ar
  have cb := ag.std 0 rfl
  have cc := a6.stown _ a8 hr94
  have cd := av.std 0 rfl
  have ce := ((((((af.st ca).st cb).st a7).st cc).st b3).st cd)
  have cf := (av.sd b4 1 0 rfl rfl rfl)
  exact ⟨((xs2 ++ ([r] : List Feat)), au, a9, ba, i2 + 1), b9, b8, (hasI rfl), b7, ce, cf⟩
 have H := ite_f H ah
 refine W_exit (xin_hit ?_)
 exact W_seq (W_reg (L_mv (.slice aa ab ac) rfl (L_as (.slice aa ab ac) rfl (L_nil (W_ret ⟨[.slice aa ab ac], ⟨_, rfl, rfl⟩, xs2, aa, ab, ac, rfl, H, ad.gr.g0, ad.ok, ad.ge, ax⟩)))))
end
section
open Go.RowKit
def F99.E (o : List Feat) (a : List Feat) (b : List Feat) (Q : List Feat → List Clash → Bool → Prop) : Prop :=
 F112.E o a b (fun r => (∃ (I105 : (List Feat) → (List Clash) → (List Str) → Int → Prop) (mu106 : (List Feat) → (List Clash) → (List Str) → Int → Nat), I105 ([] : List Feat) ([] : List Clash) r 0 ∧ ∀ (xs4 : List Feat) (xs5 : List Clash) (xs6 : List Str) (i2 : Int), I105 xs4 xs5 xs6 i2 → (if decide (i2 < (xs6.length : Int)) then ((0 : Int) ≤ i2 ∧ i2 < (xs6.length : Int)) ∧ F118.E o a b (nth xs6 i2) (fun r2 r3 r4 => (if r3 then (xs4.length + ([r2] : List Feat).length ≤ 268435456) ∧ (∃ (I243 : (List Clash) → Int → Prop) (mu244 : (List Clash) → Int → Nat), I243 xs5 0 ∧ ∀ (xs8 : List Clash) (k2 : Int), I243 xs8 k2 → (if decide (k2 < (r4.length : Int)) then ((0 : Int) ≤ i2 ∧ i2 < (xs6.length : Int)) ∧ ((0 : Int) ≤ k2 ∧ k2 < (r4.length : Int)) ∧ (xs8.length + ([(⟨(nth xs6 i2), (nth r4 k2)⟩ : Clash)] : List Clash).length ≤ 268435456) ∧ (-9223372036854775808 ≤ k2) ∧ I243 (xs8 ++ ([(⟨(nth xs6 i2), (nth r4 k2)⟩ : Clash)] : List Clash)) (k2 + 1) ∧ mu244 (xs8 ++ ([(⟨(nth xs6 i2), (nth r4 k2)⟩ : Clash)] : List Clash)) (k2 + 1) < mu244 xs8 k2 else ((r4.length : Int) ≤ 9223372036854775807 → I64 (i2 + 1)) ∧ I105 (xs4 ++ ([r2] : List Feat)) xs8 xs6 (i2 + 1) ∧ mu106 (xs4 ++ ([r2] : List Feat)) xs8 xs6 (i2 + 1) < mu106 xs4 xs5 xs6 i2)) else (∃ (I390 : (List Clash) → Int → Prop) (mu391 : (List Clash) → Int → Nat), I390 xs5 0 ∧ ∀ (xs10 : List Clash) (k4 : Int), I390 xs10 k4 → (if decide (k4 < (r4.length : Int)) then ((0 : Int) ≤ i2 ∧ i2 < (xs6.length : Int)) ∧ ((0 : Int) ≤ k4 ∧ k4 < (r4.length : Int)) ∧ (xs10.length + ([(⟨(nth xs6 i2), (nth r4 k4)⟩ : Clash)] : List Clash).length ≤ 268435456) ∧ (-9223372036854775808 ≤ k4) ∧ I390 (xs10 ++ ([(⟨(nth xs6 i2), (nth r4 k4)⟩ : Clash)] : List Clash)) (k4 + 1) ∧ mu391 (xs10 ++ ([(⟨(nth xs6 i2), (nth r4 k4)⟩ : Clash)] : List Clash)) (k4 + 1) < mu391 xs10 k4 else ((r4.length : Int) ≤ 9223372036854775807 → I64 (i2 + 1)) ∧ I105 xs4 xs10 xs6 (i2 + 1) ∧ mu106 xs4 xs10 xs6 (i2 + 1) < mu106 xs4 xs5 xs6 i2)))) else F84.E xs4 (fun r5 => F55.E xs4 (fun r6 => Q r5 xs5 r6)))))
theorem F99.calls {O : Ob} (w0 : World) (hO : Ok w0 O) (o : List Feat) (A1 : Option Addr) (n2 c3 : Nat) (hp4 : Sl kFeat w0 (Fr O) (.slice A1 n2 c3) o) (a : List Feat) (A6 : Option Addr) (n7 c8 : Nat) (hp9 : Sl kFeat w0 (Fr O) (.slice A6 n7 c8) a) (b : List Feat) (ak : Option Addr) (al am : Nat) (dx : Sl kFeat w0 (Fr O) (.slice ak al am) b) (Q : List Feat → List Clash → Bool → Prop) (h : F99.E o a b Q) :
  Ret Tryz.prog 48 [.slice A1 n2 c3, .slice A6 n7 c8, .slice ak al am] w0 (fun v w' => ∃ (r0 : List Feat) (r1 : List Clash) (r2 : Bool) (A0 : Option Addr) (n0 c0 : Nat) (A2 : Option Addr) (n2 c2 : Nat), v = .tuple #[.slice A0 n0 c0, .slice A2 n2 c2, vb r2] ∧ Q r0 r1 r2 ∧ Gr w0 w' none ∧ Ok w' ([bk A0, bk A2] ++ O) ∧ (∀ b, some b ∈ [bk A0, bk A2] → w0.heap.size ≤ b) ∧ Ow kFeat 61 w' ([bk A0, bk A2] ++ O) (.slice A0 n0 c0) r0 ∧ Ow kClash 90 w' ([bk A0, bk A2] ++ O) (.slice A2 n2 c2) r1) := by
 unfold F99.E at h
 have H := h
 clear h
 have hc0 := Ct.init hO
 refine Ret_enter Tryz.func48 rfl 69 rfl [.tmp 6, .tmp 7, .tmp 8] rfl rfl ?_
 refine W_seq (W_reg (L_as (.slice none 0 0) rfl (L_as (.slice none 0 0) rfl (L_as (vb false) rfl (L_nil (W_seq (W_reg (L_lit (kd := kFeat) ei26 hc0 ([] : List Feat) (cells := []) rfl (fun _ => by kernel_rfl) fun i4 dy dz d0 i5 hr21 fe ff => ?_))))))))
 refine L_as (.slice dy dz d0) rfl (L_nil (W_seq (W_reg (L_lit (kd := kClash) ei37 fe ([] : List Clash) (cells := []) rfl (fun _ => by kernel_rfl) fun fg d1 d2 d3 fh hr30 b0 fi => ?_))))
 refine L_as (.slice d1 d2 d3) rfl (L_nil (W_seq (W_reg (L_mv (.slice A1 n2 c3) rfl (L_mv (.slice A6 n7 c8) rfl (L_mv (.slice ak al am) rfl ?_))))))
 refine L_call go77 [.slice A1 n2 c3, .slice A6 n7 c8, .slice ak al am] rfl ((F112.calls fg b0.ok o A1 n2 c3 (hp4.st b0.st) a A6 n7 c8 (hp9.st b0.st) b ak al am (dx.st b0.st) _ H).mono ?_)
 rintro _ i6 ⟨r, d4, d5, d6, rfl, H, cg, fj, ch, fk⟩
 have b2 := b0.owns cg fj ch
 refine L_as (.slice d4 d5 d6) rfl (L_nil (W_seq (W_seq (W_reg (L_as (vi 0) rfl (L_nil (W_block ?_)))))))
 obtain ⟨fl, fm, ci, H⟩ := H
 have fn := ((ff.so _ fh hr30).sos cg ch)
 have fo := (fi.sos cg ch)
 refine W_loop (α := (List Feat) × (Option Addr) × Nat × Nat × (List Clash) × (Option Addr) × Nat × Nat × (List Str) × (Option Addr) × Nat × Nat × Int) (fun (sv__ : (List Feat) × (Option Addr) × Nat × Nat × (List Clash) × (Option Addr) × Nat × Nat × (List Str) × (Option Addr) × Nat × Nat × Int) t a1 => match sv__ with | (xs4, ac, an, ao, xs5, ad, a6, a7, xs6, aa, ag, ah, i2) => fl xs4 xs5 xs6 i2 ∧ Has t [(0, .slice A1 n2 c3), (1, .slice A6 n7 c8), (2, .slice ak al am), (9, .slice ac an ao), (10, .slice ad a6 a7), (11, .slice aa ag ah), (12, vi i2)] ∧ Ct [] w0 a1 [bk aa, bk ad, bk ac] O ∧ Sl kFeat a1 (Fr ([bk aa, bk ad, bk ac] ++ O)) (.slice A1 n2 c3) o ∧ Sl kFeat a1 (Fr ([bk aa, bk ad, bk ac] ++ O)) (.slice A6 n7 c8) a ∧ Sl kFeat a1 (Fr ([bk aa, bk ad, bk ac] ++ O)) (.slice ak al am) b ∧ Ow kFeat 61 a1 ([bk aa, bk ad, bk ac] ++ O) (.slice ac an ao) xs4 ∧ Ow kClash 90 a1 ([bk aa, bk ad, bk ac] ++ O) (.slice ad a6 a7) xs5 ∧ Ow Kd.str 9 a1 ([bk aa, bk ad, bk ac] ++ O) (.slice aa ag ah) xs6) (fun (sv__ : (List Feat) × (Option Addr) × Nat × Nat × (List Clash) × (Option Addr) × Nat × Nat × (List Str) × (Option Addr) × Nat × Nat × Int) => match sv__ with | (xs4, _, _, _, xs5, _, _, _, xs6, _, _, _, i2) => fm xs4 xs5 xs6 i2) (([] : List Feat), dy, dz, d0, ([] : List Clash), d1, d2, d3, r, d4, d5, d6, 0) ⟨ci, (hasI rfl), b2, (hp4.st b2.st), (hp9.st b2.st), (dx.st b2.st), fn, fo, fk⟩ ?_
 rintro ⟨xs4, ac, an, ao, xs5, ad, a6, a7, xs6, aa, ag, ah, i2⟩ _ a1 ⟨ci, fp, bd, cj, ck, cl, cm, cn, bm⟩
 obtain ⟨i7, rfl⟩ := Has.ins fp
 have H := H xs4 xs5 xs6 i2 ci
 refine W_seq (W_seq (W_reg (L_mv (vi i2) rfl (L_mv (.slice aa ag ah) rfl ?_))))
 have i8 := bm.le
 refine L_pu (P_len Tryz.underlying81 aa ag ah bm.len rfl) (L_pu (P_cmp i2 (xs6.length : Int) (decide (i2 < (xs6.length : Int))) rfl rfl rfl) (L_nil ?_))
 refine W_cond (decide (i2 < (xs6.length : Int))) rfl (fun co => ?_) (fun co => ?_)
 ·have H := ite_t H co
  refine W_skip (W_seq (W_block (W_seq (W_reg (L_mv (.slice A1 n2 c3) rfl (L_mv (.slice A6 n7 c8) rfl (L_mv (.slice ak al am) rfl (L_mv (.slice aa ag ah) rfl ?_))))))))
  refine L_mv (vi i2) rfl ?_
  obtain ⟨d7, H⟩ := H
  obtain ⟨d8, i9, fq, fr, fs⟩ := bm.get default (by decide) i2 d7
  obtain ⟨rfl, ft⟩ := Kd.str.op fr
  refine L_pu (P_ia Tryz.underlying81 se81 aa d8 ag ah bm.len i2 rfl fq rfl d7) (L_pu (P_ld ag9 cL (d8.add (i2.toNat * 1)) (vs (nth xs6 i2)) rfl (fs 0 _ rfl)) ?_)
  refine L_call go78 [.slice A1 n2 c3, .slice A6 n7 c8, .slice ak al am, vs (nth xs6 i2)] rfl ((F118.calls a1 bd.ok o A1 n2 c3 cj a A6 n7 c8 ck b ak al am cl (nth xs6 i2) ft _ H).mono ?_)
  rintro _ ja ⟨r2, r3, r4, ax, a2, a3, ay, a4, a5, ab, ae, af, rfl, H, a8, fu, a9, fv, fw, fx, d9⟩
  have cp := bd.owns a8 fu a9
  refine L_mv (.tuple #[.agg #[vs r2.Id, vi r2.Shape.Kind, .slice ax a2 a3, .slice ay a4 a5], vb r3, .slice ab ae af]) rfl (L_pu (P_ext [.agg #[vs r2.Id, vi r2.Shape.Kind, .slice ax a2 a3, .slice ay a4 a5], vb r3, .slice ab ae af] 0 (.agg #[vs r2.Id, vi r2.Shape.Kind, .slice ax a2 a3, .slice ay a4 a5]) rfl rfl) (L_pu (P_ext [.agg #[vs r2.Id, vi r2.Shape.Kind, .slice ax a2 a3, .slice ay a4 a5], vb r3, .slice ab ae af] 1 (vb r3) rfl rfl) (L_pu (P_ext [.agg #[vs r2.Id, vi r2.Shape.Kind, .slice ax a2 a3, .slice ay a4 a5], vb r3, .slice ab ae af] 2 (.slice ab ae af) rfl rfl) (L_alloc [vs [], .int .i64 0, .slice none 0 0, .slice none 0 0] ze61 fun jb bn aq hu149 ar fy => ?_))))
  have au := cp.own ar (some bn) (oglt aq hu149)
  refine L_stb bn 0 [vs ([] : Str), vi 0, .slice none 0 0, .slice none 0 0] [vs r2.Id, vi r2.Shape.Kind, .slice ax a2 a3, .slice ay a4 a5] [vs r2.Id, vi r2.Shape.Kind, .slice ax a2 a3, .slice ay a4 a5] rfl fy rfl sz61 rfl rfl rfl fun jc av fz => ?_
  have aw := au.wr 0 rfl av
  refine L_as (vb r3) rfl (L_as (.slice ab ae af) rfl (L_nil (W_seq (W_seq (W_reg (L_mv (vb r3) rfl (L_nil ?_)))))))
  refine W_cond r3 rfl (fun cq => ?_) (fun cq => ?_)
  ·have H := ite_t H cq
   refine W_reg (L_mv (.slice ac an ao) rfl (L_pu (P_lda ag61 sz61 cL ⟨bn, 0, none⟩ [vs r2.Id, vi r2.Shape.Kind, .slice ax a2 a3, .slice ay a4 a5] rfl rfl (fz.cells (off := 0) rfl)) ?_))
   have f0 := (au.sw (fw.so _ ar (oge aq)) 1 0 rfl rfl rfl av)
   have f1 := aw.gv f0 1 rfl
   have be := aw.drop 1 rfl
   have f2 := (aw.sd (au.sw (fx.so _ ar (oge aq)) 2 0 rfl rfl rfl av) 2 1 rfl rfl rfl)
   have f3 := be.gv f2 1 rfl
   have ea := be.drop 1 rfl
   have b3 := be.std 1 rfl
   refine L_lit (kd := kFeat) ei26 ea ([r2] : List Feat) (cells := [vs r2.Id, vi r2.Shape.Kind, .slice ax a2 a3, .slice ay a4 a5]) ⟨[vs r2.Id, vi r2.Shape.Kind, .slice ax a2 a3, .slice ay a4 a5], _, rfl, (kFeat.mk _ _ r2 fv (f1.st b3) f3), rfl⟩ (fun _ => by kernel_rfl) fun jd f4 f5 f6 b1 hr171 b4 f7 => ?_
   obtain ⟨f8, H⟩ := H
   have f9 := ((be.sd (aw.sd (au.sw ((cm.sos a8 a9).so _ ar (oge aq)) 6 0 rfl rfl rfl av) 6 1 rfl rfl rfl) 5 1 rfl rfl rfl).so _ b1 hr171)
   refine L_app ei26 b4 (.slice ac an ao) xs4 ([r2] : List Feat) rfl f9 (.slice f4 f5 f6) rfl f7.sx 5 rfl f8 fun ga ap b5 b6 cr bo bp gb => ?_
   refine L_as (.slice ap b5 b6) rfl (L_nil (W_seq (W_reg (L_as (vi 0) rfl (L_nil (W_block ?_))))))
   have bq : Ct [] w0 ga [some bn, bk ab, bk aa, bk ad, bk ap] O := bp.drop 0 rfl
   have gc := bq.drop 0 rfl
   obtain ⟨gd, gf, cs, H⟩ := H
   have ct := bd.stos a8 a9
   have cu := cp.stown _ ar (oge aq)
   have cv := au.stw 0 rfl av
   have cw := aw.std 1 rfl
   have cx := ea.stown _ b1 hr171
   have cy := bp.std 0 rfl
   have cz := bq.std 0 rfl
   have gg := (((((((((cj.st ct).st cu).st cv).st cw).st b3).st cx).st bo).st cy).st cz)
   have gh := (((((((((ck.st ct).st cu).st cv).st cw).st b3).st cx).st bo).st cy).st cz)
   have gi := (((((((((cl.st ct).st cu).st cv).st cw).st b3).st cx).st bo).st cy).st cz)
   have gj := (bq.sd (bp.sd gb 5 0 rfl rfl rfl) 4 0 rfl rfl rfl)
   have gk := (bq.sd (bp.sd (b4.sm ((be.sd (aw.sd (au.sw ((cn.sos a8 a9).so _ ar (oge aq)) 5 0 rfl rfl rfl av) 5 1 rfl rfl rfl) 4 1 rfl rfl rfl).so _ b1 hr171) 4 5 rfl rfl rfl cr bo) 4 0 rfl rfl rfl) 3 0 rfl rfl rfl)
   have gl := (bq.sd (bp.sd (b4.sm ((be.sd (aw.sd (au.sw ((bm.sos a8 a9).so _ ar (oge aq)) 4 0 rfl rfl rfl av) 4 1 rfl rfl rfl) 3 1 rfl rfl rfl).so _ b1 hr171) 3 5 rfl rfl rfl cr bo) 3 0 rfl rfl rfl) 2 0 rfl rfl rfl)
   have gm := (bq.sd (bp.sd (b4.sm ((be.sd (aw.sd (au.sw (d9.so _ ar (oge aq)) 3 0 rfl rfl rfl av) 3 1 rfl rfl rfl) 2 1 rfl rfl rfl).so _ b1 hr171) 2 5 rfl rfl rfl cr bo) 2 0 rfl rfl rfl) 1 0 rfl rfl rfl)
   refine W_loop (α := (List Clash) × (Option Addr) × Nat × Nat × Int) (fun (sv__ : (List Clash) × (Option Addr) × Nat × Nat × Int) t ba => match sv__ with | (xs8, ai, br, bs, k2) => gd xs8 k2 ∧ Has t [(0, .slice A1 n2 c3), (1, .slice A6 n7 c8), (2, .slice ak al am), (9, .slice ap b5 b6), (10, .slice ai br bs), (11, .slice aa ag ah), (12, vi i2), (15, .slice ab ae af), (16, vi k2)] ∧ Ct [] w0 ba [bk ab, bk aa, bk ai, bk ap] O ∧ Sl kFeat ba (Fr ([bk ab, bk aa, bk ai, bk ap] ++ O)) (.slice A1 n2 c3) o ∧ Sl kFeat ba (Fr ([bk ab, bk aa, bk ai, bk ap] ++ O)) (.slice A6 n7 c8) a ∧ Sl kFeat ba (Fr ([bk ab, bk aa, bk ai, bk ap] ++ O)) (.slice ak al am) b ∧ Ow kFeat 61 ba ([bk ab, bk aa, bk ai, bk ap] ++ O) (.slice ap b5 b6) (xs4 ++ ([r2] : List Feat)) ∧ Ow kClash 90 ba ([bk ab, bk aa, bk ai, bk ap] ++ O) (.slice ai br bs) xs8 ∧ Ow Kd.str 9 ba ([bk ab, bk aa, bk ai, bk ap] ++ O) (.slice aa ag ah) xs6 ∧ Ow Kd.str 9 ba ([bk ab, bk aa, bk ai, bk ap] ++ O) (.slice ab ae af) r4) (fun (sv__ : (List Clash) × (Option Addr) × Nat × Nat × Int) => match sv__ with | (xs8, _, _, _, k2) => gf xs8 k2) (xs5, ad, a6, a7, 0) ⟨cs, (hasI rfl), gc, gg, gh, gi, gj, gk, gl, gm⟩ ?_
   rintro ⟨xs8, ai, br, bs, k2⟩ _ ba ⟨cs, gn, bf, eb, ec, ed, ee, ef, eg, c1⟩
   obtain ⟨je, rfl⟩ := Has.ins gn
   have H := H xs8 k2 cs
   refine W_seq (W_seq (W_reg (L_mv (vi k2) rfl (L_mv (.slice ab ae af) rfl ?_))))
   have eh := c1.le
   refine L_pu (P_len Tryz.underlying81 ab ae af c1.len rfl) (L_pu (P_cmp k2 (r4.length : Int) (decide (k2 < (r4.length : Int))) rfl rfl rfl) (L_nil ?_))
   refine W_cond (decide (k2 < (r4.length : Int))) rfl (fun b7 => ?_) (fun b7 => ?_)
   ·have H := ite_t H b7
    refine W_skip (W_seq (W_block (W_mixr 13 [bk ai] (by kernel_rfl) rfl fun jf bt az => ?_)))
    have b8 := bf.k0 bt
    refine M_pu 0 rfl (by kernel_rfl) az (P_move (.slice ai br bs) rfl) ?_
    refine M_pu 1 rfl (by kernel_rfl) az (P_move (.slice aa ag ah) rfl) ?_
    refine M_pu 2 rfl (by kernel_rfl) az (P_move (vi i2) rfl) ?_
    obtain ⟨ei, H⟩ := H
    have c4 := (eg.sn bt)
    obtain ⟨ej, jg, ek, gp, gq⟩ := c4.get default (by decide) i2 ei
    obtain ⟨rfl, gs⟩ := Kd.str.op gp
    refine M_pu 3 rfl (by kernel_rfl) az (P_ia Tryz.underlying81 se81 aa ej ag ah c4.len i2 rfl ek rfl ei) ?_
    refine M_pu 4 rfl (by kernel_rfl) az (P_ldr ag9 cR (ej.add (i2.toNat * 1)) (vs (nth xs6 i2)) rfl (gq 0 _ rfl) (nm_cons (by simp only [add_block]; exact (ow_ne b8 (j := 1) (i := 2) rfl ek rfl (by decide))) nm_nil)) ?_
    refine M_pu 5 rfl (by kernel_rfl) az (P_move (.slice ab ae af) rfl) ?_
    refine M_pu 6 rfl (by kernel_rfl) az (P_move (vi k2) rfl) ?_
    obtain ⟨el, H⟩ := H
    have c5 := (c1.sn bt)
    obtain ⟨em, jh, en, gt, gu⟩ := c5.get default (by decide) k2 el
    obtain ⟨rfl, gw⟩ := Kd.str.op gt
    refine M_pu 7 rfl (by kernel_rfl) az (P_ia Tryz.underlying81 se81 ab em ae af c5.len k2 rfl en rfl el) ?_
    refine M_pu 8 rfl (by kernel_rfl) az (P_ldr ag9 cR (em.add (k2.toNat * 1)) (vs (nth r4 k2)) rfl (gu 0 _ rfl) (nm_cons (by simp only [add_block]; exact (ow_ne b8 (j := 0) (i := 2) rfl en rfl (by decide))) nm_nil)) ?_
    refine M_pu 9 rfl (by kernel_rfl) az (P_build (.agg #[vs (nth xs6 i2), vs (nth r4 k2)]) (fun _ => by kernel_rfl)) ?_
    refine M_any1 10 (by kernel_rfl) rfl ?_
    refine L_lit (kd := kClash) ei37 b8 ([(⟨(nth xs6 i2), (nth r4 k2)⟩ : Clash)] : List Clash) (cells := [vs (nth xs6 i2), vs (nth r4 k2)]) ⟨[vs (nth xs6 i2), vs (nth r4 k2)], _, rfl, (kClash.mk _ _ (⟨(nth xs6 i2), (nth r4 k2)⟩ : Clash) gs gw), rfl⟩ (fun _ => by kernel_rfl) fun ji eo gx gy bu hr292 b9 gz => ?_
    have c6 := Gm.tm az bu
    refine L_nil ⟨c6, ?_⟩
    refine M_any1 11 (by kernel_rfl) rfl ?_
    obtain ⟨g1, H⟩ := H
    have g2 := ((ef.sn bt).so _ bu hr292)
    refine L_app ei37 b9 (.slice ai br bs) xs8 ([(⟨(nth xs6 i2), (nth r4 k2)⟩ : Clash)] : List Clash) rfl g2 (.slice eo gx gy) rfl gz.sx 3 rfl g1 fun jj ep eq er ca bg bh g3 => ?_
    have es := Gm.tq c6 ca (hv_mem 0 rfl)
    have jk := hv_app (L := [bk eo, bk ab, bk aa, bk ai, bk ap]) (O := O) (i := 3) c6 rfl (hv_mem 0 rfl) bg bh
    refine L_nil ⟨es, ?_⟩
    refine M_pu 12 rfl (by kernel_rfl) es (P_assign (.slice ep eq er) rfl) ?_
    refine M_nil (by kernel_rfl) ?_
    refine W_reg (L_mv (vi k2) rfl ?_)
    obtain ⟨g4, H⟩ := H
    have g5 : I64 (k2 + 1) := i64_succ (of_decide_eq_true b7) eh g4
    refine L_pu (P_add k2 1 rfl rfl g5) (L_as (vi (k2 + 1)) rfl (L_nil ?_))
    have g6 := bh.drop 0 rfl
    obtain ⟨g7, g8⟩ := H
    have c7 := bf.stn bt
    have c9 := b8.stown _ bu hr292
    have da := bh.std 0 rfl
    have g9 := ((((eb.st c7).st c9).st bg).st da)
    have ha := ((((ec.st c7).st c9).st bg).st da)
    have hb := ((((ed.st c7).st c9).st bg).st da)
    have hc := (bh.sd (b9.sm ((ee.sn bt).so _ bu hr292) 4 3 rfl rfl rfl ca bg) 4 0 rfl rfl rfl)
    have hd := (bh.sd g3 3 0 rfl rfl rfl)
    have he := (bh.sd (b9.sm (c4.so _ bu hr292) 2 3 rfl rfl rfl ca bg) 2 0 rfl rfl rfl)
    have hf := (bh.sd (b9.sm (c5.so _ bu hr292) 1 3 rfl rfl rfl ca bg) 1 0 rfl rfl rfl)
    exact ⟨((xs8 ++ ([(⟨(nth xs6 i2), (nth r4 k2)⟩ : Clash)] : List Clash)), ep, eq, er, k2 + 1), g8, g7, (hasI rfl), g6, g9, ha, hb, hc, hd, he, hf⟩
   have H := ite_f H b7
   refine W_exit (xin_hit ?_)
   refine W_reg (L_mv (vi i2) rfl ?_)
   obtain ⟨hg, H⟩ := H
   have hh := hg (len_le eh)
   refine L_pu (P_add i2 1 rfl rfl hh) (L_as (vi (i2 + 1)) rfl (L_nil ?_))
   have hi := bf.drop 0 rfl
   obtain ⟨hj, hk⟩ := H
   have db := bf.std 0 rfl
   have hl := (bf.sd ee 3 0 rfl rfl rfl)
   have hm := (bf.sd ef 2 0 rfl rfl rfl)
   have hn := (bf.sd eg 1 0 rfl rfl rfl)
   exact ⟨((xs4 ++ ([r2] : List Feat)), ap, b5, b6, xs8, ai, br, bs, xs6, aa, ag, ah, i2 + 1), hk, hj, (hasI rfl), hi, (eb.st db), (ec.st db), (ed.st db), hl, hm, hn⟩
  have H := ite_f H cq
  refine W_skip (W_seq ?_)
  have bc : ([some bn, bk ax, bk ay, bk ab, bk aa, bk ad, bk ac] : Ob).Perm ((some bn :: bk ax :: bk ay :: []) ++ [bk ab, bk aa, bk ad, bk ac]) := (pc fun a => by (try simp only [pca, pcc, pcn, Nat.add_zero, Nat.zero_add]); first | done | ac_rfl)
  have ho := aw.drops bc
  refine W_reg (L_as (vi 0) rfl (L_nil (W_block ?_)))
  obtain ⟨hp, hq, dc, H⟩ := H
  have dd := bd.stos a8 a9
  have de := cp.stown _ ar (oge aq)
  have df := au.stw 0 rfl av
  have hr := ((((cj.st dd).st de).st df).st (St.drops _ O bc))
  have hs := ((((ck.st dd).st de).st df).st (St.drops _ O bc))
  have ht := ((((cl.st dd).st de).st df).st (St.drops _ O bc))
  have hu := (aw.odr (au.sw ((cm.sos a8 a9).so _ ar (oge aq)) 6 0 rfl rfl rfl av) bc 3 rfl)
  have hv := (aw.odr (au.sw ((cn.sos a8 a9).so _ ar (oge aq)) 5 0 rfl rfl rfl av) bc 2 rfl)
  have hw := (aw.odr (au.sw ((bm.sos a8 a9).so _ ar (oge aq)) 4 0 rfl rfl rfl av) bc 1 rfl)
  have hx := (aw.odr (au.sw (d9.so _ ar (oge aq)) 3 0 rfl rfl rfl av) bc 0 rfl)
  refine W_loop (α := (List Clash) × (Option Addr) × Nat × Nat × Int) (fun (sv__ : (List Clash) × (Option Addr) × Nat × Nat × Int) t bb => match sv__ with | (xs10, aj, bv, bw, k4) => hp xs10 k4 ∧ Has t [(0, .slice A1 n2 c3), (1, .slice A6 n7 c8), (2, .slice ak al am), (9, .slice ac an ao), (10, .slice aj bv bw), (11, .slice aa ag ah), (12, vi i2), (15, .slice ab ae af), (16, vi k4)] ∧ Ct [] w0 bb [bk ab, bk aa, bk aj, bk ac] O ∧ Sl kFeat bb (Fr ([bk ab, bk aa, bk aj, bk ac] ++ O)) (.slice A1 n2 c3) o ∧ Sl kFeat bb (Fr ([bk ab, bk aa, bk aj, bk ac] ++ O)) (.slice A6 n7 c8) a ∧ Sl kFeat bb (Fr ([bk ab, bk aa, bk aj, bk ac] ++ O)) (.slice ak al am) b ∧ Ow kFeat 61 bb ([bk ab, bk aa, bk aj, bk ac] ++ O) (.slice ac an ao) xs4 ∧ Ow kClash 90 bb ([bk ab, bk aa, bk aj, bk ac] ++ O) (.slice aj bv bw) xs10 ∧ Ow Kd.str 9 bb ([bk ab, bk aa, bk aj, bk ac] ++ O) (.slice aa ag ah) xs6 ∧ Ow Kd.str 9 bb ([bk ab, bk aa, bk aj, bk ac] ++ O) (.slice ab ae af) r4) (fun (sv__ : (List Clash) × (Option Addr) × Nat × Nat × Int) => match sv__ with | (xs10, _, _, _, k4) => hq xs10 k4) (xs5, ad, a6, a7, 0) ⟨dc, (hasI rfl), ho, hr, hs, ht, hu, hv, hw, hx⟩ ?_
  rintro ⟨xs10, aj, bv, bw, k4⟩ _ bb ⟨dc, hy, bi, et, eu, ev, ew, ex, ey, dg⟩
  obtain ⟨jl, rfl⟩ := Has.ins hy
  have H := H xs10 k4 dc
  refine W_seq (W_seq (W_reg (L_mv (vi k4) rfl (L_mv (.slice ab ae af) rfl ?_))))
  have ez := dg.le
  refine L_pu (P_len Tryz.underlying81 ab ae af dg.len rfl) (L_pu (P_cmp k4 (r4.length : Int) (decide (k4 < (r4.length : Int))) rfl rfl rfl) (L_nil ?_))
  refine W_cond (decide (k4 < (r4.length : Int))) rfl (fun cb => ?_) (fun cb => ?_)
  ·have H := ite_t H cb
   refine W_skip (W_seq (W_block (W_mixr 13 [bk aj] (by kernel_rfl) rfl fun jm bx a0 => ?_)))
   have cc := bi.k0 bx
   refine M_pu 0 rfl (by kernel_rfl) a0 (P_move (.slice aj bv bw) rfl) ?_
   refine M_pu 1 rfl (by kernel_rfl) a0 (P_move (.slice aa ag ah) rfl) ?_
   refine M_pu 2 rfl (by kernel_rfl) a0 (P_move (vi i2) rfl) ?_
   obtain ⟨e0, H⟩ := H
   have dh := (ey.sn bx)
   obtain ⟨e1, jn, e2, hz, h0⟩ := dh.get default (by decide) i2 e0
   obtain ⟨rfl, h1⟩ := Kd.str.op hz
   refine M_pu 3 rfl (by kernel_rfl) a0 (P_ia Tryz.underlying81 se81 aa e1 ag ah dh.len i2 rfl e2 rfl e0) ?_
   refine M_pu 4 rfl (by kernel_rfl) a0 (P_ldr ag9 cR (e1.add (i2.toNat * 1)) (vs (nth xs6 i2)) rfl (h0 0 _ rfl) (nm_cons (by simp only [add_block]; exact (ow_ne cc (j := 1) (i := 2) rfl e2 rfl (by decide))) nm_nil)) ?_
   refine M_pu 5 rfl (by kernel_rfl) a0 (P_move (.slice ab ae af) rfl) ?_
   refine M_pu 6 rfl (by kernel_rfl) a0 (P_move (vi k4) rfl) ?_
   obtain ⟨e3, H⟩ := H
   have di := (dg.sn bx)
   obtain ⟨e4, jo, e5, h2, h3⟩ := di.get default (by decide) k4 e3
   obtain ⟨rfl, h4⟩ := Kd.str.op h2
   refine M_pu 7 rfl (by kernel_rfl) a0 (P_ia Tryz.underlying81 se81 ab e4 ae af di.len k4 rfl e5 rfl e3) ?_
   refine M_pu 8 rfl (by kernel_rfl) a0 (P_ldr ag9 cR (e4.add (k4.toNat * 1)) (vs (nth r4 k4)) rfl (h3 0 _ rfl) (nm_cons (by simp only [add_block]; exact (ow_ne cc (j := 0) (i := 2) rfl e5 rfl (by decide))) nm_nil)) ?_
   refine M_pu 9 rfl (by kernel_rfl) a0 (P_build (.agg #[vs (nth xs6 i2), vs (nth r4 k4)]) (fun _ => by kernel_rfl)) ?_
   refine M_any1 10 (by kernel_rfl) rfl ?_
   refine L_lit (kd := kClash) ei37 cc ([(⟨(nth xs6 i2), (nth r4 k4)⟩ : Clash)] : List Clash) (cells := [vs (nth xs6 i2), vs (nth r4 k4)]) ⟨[vs (nth xs6 i2), vs (nth r4 k4)], _, rfl, (kClash.mk _ _ (⟨(nth xs6 i2), (nth r4 k4)⟩ : Clash) h1 h4), rfl⟩ (fun _ => by kernel_rfl) fun jp e6 h5 h6 bz hr435 cd h7 => ?_
   have dj := Gm.tm a0 bz
   refine L_nil ⟨dj, ?_⟩
   refine M_any1 11 (by kernel_rfl) rfl ?_
   obtain ⟨h8, H⟩ := H
   have h9 := ((ex.sn bx).so _ bz hr435)
   refine L_app ei37 cd (.slice aj bv bw) xs10 ([(⟨(nth xs6 i2), (nth r4 k4)⟩ : Clash)] : List Clash) rfl h9 (.slice e6 h5 h6) rfl h7.sx 3 rfl h8 fun jq e7 e8 e9 ce bj bl ia => ?_
   have fa := Gm.tq dj ce (hv_mem 0 rfl)
   have jr := hv_app (L := [bk e6, bk ab, bk aa, bk aj, bk ac]) (O := O) (i := 3) dj rfl (hv_mem 0 rfl) bj bl
   refine L_nil ⟨fa, ?_⟩
   refine M_pu 12 rfl (by kernel_rfl) fa (P_assign (.slice e7 e8 e9) rfl) ?_
   refine M_nil (by kernel_rfl) ?_
   refine W_reg (L_mv (vi k4) rfl ?_)
   obtain ⟨ib, H⟩ := H
   have ic : I64 (k4 + 1) := i64_succ (of_decide_eq_true cb) ez ib
   refine L_pu (P_add k4 1 rfl rfl ic) (L_as (vi (k4 + 1)) rfl (L_nil ?_))
   have id := bl.drop 0 rfl
   obtain ⟨ie, ig⟩ := H
   have dk := bi.stn bx
   have dl := cc.stown _ bz hr435
   have dm := bl.std 0 rfl
   have ih := ((((et.st dk).st dl).st bj).st dm)
   have ii := ((((eu.st dk).st dl).st bj).st dm)
   have ij := ((((ev.st dk).st dl).st bj).st dm)
   have ik := (bl.sd (cd.sm ((ew.sn bx).so _ bz hr435) 4 3 rfl rfl rfl ce bj) 4 0 rfl rfl rfl)
   have il := (bl.sd ia 3 0 rfl rfl rfl)
   have im := (bl.sd (cd.sm (dh.so _ bz hr435) 2 3 rfl rfl rfl ce bj) 2 0 rfl rfl rfl)
   have io := (bl.sd (cd.sm (di.so _ bz hr435) 1 3 rfl rfl rfl ce bj) 1 0 rfl rfl rfl)
   exact ⟨((xs10 ++ ([(⟨(nth xs6 i2), (nth r4 k4)⟩ : Clash)] : List Clash)), e7, e8, e9, k4 + 1), ig, ie, (hasI rfl), id, ih, ii, ij, ik, il, im, io⟩
  have H := ite_f H cb
  refine W_exit (xin_hit ?_)
  refine W_reg (L_mv (vi i2) rfl ?_)
  obtain ⟨ip, H⟩ := H
  have iq := ip (len_le ez)
  refine L_pu (P_add i2 1 rfl rfl iq) (L_as (vi (i2 + 1)) rfl (L_nil ?_))
  have ir := bi.drop 0 rfl
  obtain ⟨it, iu⟩ := H
  have dn := bi.std 0 rfl
  have iv := (bi.sd ew 3 0 rfl rfl rfl)
  have iw := (bi.sd ex 2 0 rfl rfl rfl)
  have ix := (bi.sd ey 1 0 rfl rfl rfl)
  exact ⟨(xs4, ac, an, ao, xs10, aj, bv, bw, xs6, aa, ag, ah, i2 + 1), iu, it, (hasI rfl), ir, (et.st dn), (eu.st dn), (ev.st dn), iv, iw, ix⟩
 have H := ite_f H co
 refine W_exit (xin_hit ?_)
 refine W_seq (W_reg (L_mv (.slice ac an ao) rfl ?_))
 have fb := bd.gv cm 2 rfl
 have dp := bd.drop 2 rfl
 refine L_call go28 [.slice ac an ao] rfl ((F84.calls a1 dp.ok xs4 ac an ao fb _ H).mono ?_)
 rintro _ fc ⟨r5, cf, dq, dr, rfl, H, ds, iy, dt, iz⟩
 have fd : Ct [] w0 fc [bk cf, bk aa, bk ad] O := dp.owns ds iy dt
 refine L_mv (.slice ad a6 a7) rfl (L_mv (.slice ac an ao) rfl ?_)
 have i0 := dp.stos ds dt
 refine L_call go23 [.slice ac an ao] rfl ((F55.calls fc fd.ok xs4 ac an ao (fb.st i0) _ H).mono ?_)
 rintro _ js ⟨r6, rfl, H, du⟩
 have dv := fd.k0 du
 refine L_as (.slice cf dq dr) rfl (L_as (.slice ad a6 a7) rfl (L_as (vb r6) rfl (L_nil (W_ret ?_))))
 have dw := dv.drop 1 rfl
 have i1 := (dv.sd (iz.sn du) 0 1 rfl rfl rfl)
 have i3 := (dv.sd (((bd.sd cn 1 2 rfl rfl rfl).sos ds dt).sn du) 2 1 rfl rfl rfl)
 exact ⟨[.slice cf dq dr, .slice ad a6 a7, vb r6], ⟨_, rfl, ⟨_, rfl, ⟨_, rfl, rfl⟩⟩⟩, r5, xs5, r6, cf, dq, dr, ad, a6, a7, rfl, H, dw.gr.g0, dw.ok, dw.ge, i1, i3⟩
end
section
open Go.RowKit
def F31.E (base_ : List Feat) (a : List Feat) (b : List Feat) (Q : List Feat → List Clash → Bool → Prop) : Prop :=
 F55.E base_ (fun r => (if !r then Q ([] : List Feat) ([] : List Clash) false else F55.E a (fun r2 => (if !r2 then Q ([] : List Feat) ([] : List Clash) false else F55.E b (fun r3 => (if !r3 then Q ([] : List Feat) ([] : List Clash) false else F99.E base_ a b (fun r4 r5 r6 => (if !r6 then Q ([] : List Feat) ([] : List Clash) false else Q r4 r5 true))))))))
theorem F31.calls {O : Ob} (w0 : World) (hO : Ok w0 O) (base_ : List Feat) (A1 : Option Addr) (n2 c3 : Nat) (hp4 : Sl kFeat w0 (Fr O) (.slice A1 n2 c3) base_) (a : List Feat) (A6 : Option Addr) (n7 c8 : Nat) (hp9 : Sl kFeat w0 (Fr O) (.slice A6 n7 c8) a) (b : List Feat) (ai : Option Addr) (aj ak : Nat) (bs : Sl kFeat w0 (Fr O) (.slice ai aj ak) b) (Q : List Feat → List Clash → Bool → Prop) (h : F31.E base_ a b Q) :
  Ret Tryz.prog 16 [.slice A1 n2 c3, .slice A6 n7 c8, .slice ai aj ak] w0 (fun v w' => ∃ (r0 : List Feat) (r1 : List Clash) (r2 : Bool) (A0 : Option Addr) (n0 c0 : Nat) (A2 : Option Addr) (n2 c2 : Nat), v = .tuple #[.slice A0 n0 c0, .slice A2 n2 c2, vb r2] ∧ Q r0 r1 r2 ∧ Gr w0 w' none ∧ Ok w' ([bk A0, bk A2] ++ O) ∧ (∀ b, some b ∈ [bk A0, bk A2] → w0.heap.size ≤ b) ∧ Ow kFeat 61 w' ([bk A0, bk A2] ++ O) (.slice A0 n0 c0) r0 ∧ Ow kClash 90 w' ([bk A0, bk A2] ++ O) (.slice A2 n2 c2) r1) := by
 unfold F31.E at h
 have H := h
 clear h
 have hc0 := Ct.init hO
 refine Ret_enter Tryz.func16 rfl 41 rfl [.tmp 6, .tmp 7, .tmp 8] rfl rfl ?_
 refine W_seq (W_reg (L_as (.slice none 0 0) rfl (L_as (.slice none 0 0) rfl (L_as (vb false) rfl (L_nil (W_seq (W_seq (W_reg ?_))))))))
 refine L_mv (.slice A1 n2 c3) rfl ?_
 refine L_call go23 [.slice A1 n2 c3] rfl ((F55.calls w0 hc0.ok base_ A1 n2 c3 hp4 _ H).mono ?_)
 rintro _ bt ⟨r, rfl, H, bu⟩
 have am := hc0.k0 bu
 refine L_pu (P_not r rfl) (L_mv (vb (!r)) rfl ?_)
 rcases bool_or (!r) with aa | aa
 ·have H := ite_t H aa
  refine L_pb aa rfl (L_pb aa rfl (L_pb aa rfl (L_pu (P_pick true (vb true) (by exact congrArg Value.bool aa) rfl) (L_mv (vb true) rfl (L_pass (dj := 20) rfl rfl (.inl rfl) (L_pass (dj := 20) rfl rfl (.inl rfl) (L_pass (dj := 20) rfl rfl (.inl rfl) (L_pu (P_pick true (vb true) (by exact congrArg Value.bool rfl) rfl) ?_))))))))
  refine L_nil (W_ct (b := true) rfl rfl ?_)
  refine W_seq (W_reg (L_lit (kd := kFeat) ei26 am ([] : List Feat) (cells := []) rfl (fun _ => by kernel_rfl) fun ct ap aq ar cu hr28 bv bw => ?_))
  refine L_lit (kd := kClash) ei37 bv ([] : List Clash) (cells := []) rfl (fun _ => by kernel_rfl) fun cv au av aw bx hr37 ax bz => ?_
  refine L_as (.slice ap aq ar) rfl (L_as (.slice au av aw) rfl (L_as (vb false) rfl (L_nil (W_ret ?_))))
  have ay := ax.perm (.swap _ _ _)
  have b0 := (ax.sp (bw.so _ bx hr37) (.swap _ _ _))
  have b1 := (ax.sp bz (.swap _ _ _))
  exact ⟨[.slice ap aq ar, .slice au av aw, vb false], ⟨_, rfl, ⟨_, rfl, ⟨_, rfl, rfl⟩⟩⟩, ([] : List Feat), ([] : List Clash), false, ap, aq, ar, au, av, aw, rfl, H, ay.gr.g0, ay.ok, ay.ge, b0, b1⟩
 have H := ite_f H aa
 refine L_rb aa rfl (L_mv (.slice A6 n7 c8) rfl (L_rb aa rfl ?_))
 refine L_call go23 [.slice A6 n7 c8] rfl ((F55.calls bt am.ok a A6 n7 c8 (hp9.st am.st) _ H).mono ?_)
 rintro _ b2 ⟨r2, rfl, H, b3⟩
 have an := am.k0 b3
 refine L_rb aa rfl (L_pu (P_not r2 rfl) (L_pu (P_pick false (vb (!r2)) (by exact congrArg Value.bool aa) rfl) (L_mv (vb (!r2)) rfl ?_)))
 rcases bool_or (!r2) with ab | ab
 ·have H := ite_t H ab
  refine L_pb ab rfl (L_pb ab rfl (L_pb ab rfl (L_pu (P_pick true (vb true) (by exact congrArg Value.bool ab) rfl) (L_nil (W_ct (b := true) rfl rfl ?_)))))
  refine W_seq (W_reg (L_lit (kd := kFeat) ei26 an ([] : List Feat) (cells := []) rfl (fun _ => by kernel_rfl) fun cw az a0 a1 cx hr56 b4 b5 => ?_))
  refine L_lit (kd := kClash) ei37 b4 ([] : List Clash) (cells := []) rfl (fun _ => by kernel_rfl) fun cy a2 a3 a4 b6 hr65 a5 b7 => ?_
  refine L_as (.slice az a0 a1) rfl (L_as (.slice a2 a3 a4) rfl (L_as (vb false) rfl (L_nil (W_ret ?_))))
  have a6 := a5.perm (.swap _ _ _)
  have b8 := (a5.sp (b5.so _ b6 hr65) (.swap _ _ _))
  have b9 := (a5.sp b7 (.swap _ _ _))
  exact ⟨[.slice az a0 a1, .slice a2 a3 a4, vb false], ⟨_, rfl, ⟨_, rfl, ⟨_, rfl, rfl⟩⟩⟩, ([] : List Feat), ([] : List Clash), false, az, a0, a1, a2, a3, a4, rfl, H, a6.gr.g0, a6.ok, a6.ge, b8, b9⟩
 have H := ite_f H ab
 refine L_rb ab rfl (L_mv (.slice ai aj ak) rfl (L_rb ab rfl ?_))
 refine L_call go23 [.slice ai aj ak] rfl ((F55.calls b2 an.ok b ai aj ak (bs.st an.st) _ H).mono ?_)
 rintro _ ca ⟨r3, rfl, H, cb⟩
 have al := an.k0 cb
 refine L_rb ab rfl (L_pu (P_not r3 rfl) (L_pu (P_pick false (vb (!r3)) (by exact congrArg Value.bool ab) rfl) (L_nil ?_)))
 refine W_cond (!r3) rfl (fun a7 => ?_) (fun a7 => ?_)
 ·have H := ite_t H a7
  refine W_seq (W_reg (L_lit (kd := kFeat) ei26 al ([] : List Feat) (cells := []) rfl (fun _ => by kernel_rfl) fun cz a8 a9 ba c1 hr84 cc cd => ?_))
  refine L_lit (kd := kClash) ei37 cc ([] : List Clash) (cells := []) rfl (fun _ => by kernel_rfl) fun c4 bb bc bd ce hr93 be cf => ?_
  refine L_as (.slice a8 a9 ba) rfl (L_as (.slice bb bc bd) rfl (L_as (vb false) rfl (L_nil (W_ret ?_))))
  have bf := be.perm (.swap _ _ _)
  have cg := (be.sp (cd.so _ ce hr93) (.swap _ _ _))
  have ch := (be.sp cf (.swap _ _ _))
  exact ⟨[.slice a8 a9 ba, .slice bb bc bd, vb false], ⟨_, rfl, ⟨_, rfl, ⟨_, rfl, rfl⟩⟩⟩, ([] : List Feat), ([] : List Clash), false, a8, a9, ba, bb, bc, bd, rfl, H, bf.gr.g0, bf.ok, bf.ge, cg, ch⟩
 have H := ite_f H a7
 refine W_skip (W_seq (W_reg (L_mv (.slice A1 n2 c3) rfl (L_mv (.slice A6 n7 c8) rfl (L_mv (.slice ai aj ak) rfl ?_)))))
 refine L_call go48 [.slice A1 n2 c3, .slice A6 n7 c8, .slice ai aj ak] rfl ((F99.calls ca al.ok base_ A1 n2 c3 (hp4.st al.st) a A6 n7 c8 (hp9.st al.st) b ai aj ak (bs.st al.st) _ H).mono ?_)
 rintro _ c5 ⟨r4, r5, r6, ac, ad, ae, af, ag, ah, rfl, H, ci, cj, ck, cl, cm⟩
 have ao := al.owns ci cj ck
 refine L_mv (.tuple #[.slice ac ad ae, .slice af ag ah, vb r6]) rfl (L_pu (P_ext [.slice ac ad ae, .slice af ag ah, vb r6] 0 (.slice ac ad ae) rfl rfl) (L_pu (P_ext [.slice ac ad ae, .slice af ag ah, vb r6] 1 (.slice af ag ah) rfl rfl) (L_pu (P_ext [.slice ac ad ae, .slice af ag ah, vb r6] 2 (vb r6) rfl rfl) (L_as (.slice ac ad ae) rfl (L_as (.slice af ag ah) rfl (L_as (vb r6) rfl (L_nil (W_seq ?_))))))))
 refine W_seq (W_reg (L_mv (vb r6) rfl (L_pu (P_not r6 rfl) (L_nil ?_))))
 refine W_cond (!r6) rfl (fun bg => ?_) (fun bg => ?_)
 ·have H := ite_t H bg
  refine W_seq (W_reg (L_lit (kd := kFeat) ei26 ao ([] : List Feat) (cells := []) rfl (fun _ => by kernel_rfl) fun c6 bh bi bj c7 hr122 cn co => ?_))
  refine L_lit (kd := kClash) ei37 cn ([] : List Clash) (cells := []) rfl (fun _ => by kernel_rfl) fun c9 bl bm bn cp hr131 bo cq => ?_
  refine L_as (.slice bh bi bj) rfl (L_as (.slice bl bm bn) rfl (L_as (vb false) rfl (L_nil (W_ret ?_))))
  have bp := bo.drop 2 rfl
  have bq := bp.drop 2 rfl
  have br := bq.perm (.swap _ _ _)
  have cr := (bq.sp (bp.sd (bo.sd (co.so _ cp hr131) 1 2 rfl rfl rfl) 1 2 rfl rfl rfl) (.swap _ _ _))
  have cs := (bq.sp (bp.sd (bo.sd cq 0 2 rfl rfl rfl) 0 2 rfl rfl rfl) (.swap _ _ _))
  exact ⟨[.slice bh bi bj, .slice bl bm bn, vb false], ⟨_, rfl, ⟨_, rfl, ⟨_, rfl, rfl⟩⟩⟩, ([] : List Feat), ([] : List Clash), false, bh, bi, bj, bl, bm, bn, rfl, H, br.gr.g0, br.ok, br.ge, cr, cs⟩
 have H := ite_f H bg
 refine W_skip (W_seq (W_reg (L_mv (.slice ac ad ae) rfl (L_mv (.slice af ag ah) rfl (L_as (.slice ac ad ae) rfl (L_as (.slice af ag ah) rfl (L_as (vb true) rfl (L_nil ?_))))))))
 exact W_ret ⟨[.slice ac ad ae, .slice af ag ah, vb true], ⟨_, rfl, ⟨_, rfl, ⟨_, rfl, rfl⟩⟩⟩, r4, r5, true, ac, ad, ae, af, ag, ah, rfl, H, ao.gr.g0, ao.ok, ao.ge, cl, cm⟩
end
section
open Go.RowKit
def F86.E (n : Int) (low : Int) (high : Int) (Q : Bool → Prop) : Prop :=
 (if decide (n ≥ low) then Q (decide (n ≤ high)) else Q false)
theorem F86.calls {O : Ob} (w0 : World) (hO : Ok w0 O) (n : Int) (low : Int) (high : Int) (Q : Bool → Prop) (h : F86.E n low high Q) :
  Ret Tryz.prog 99 [vi n, vi low, vi high] w0 (fun v w' => ∃ (r0 : Bool), v = vb r0 ∧ Q r0 ∧ Gr w0 w' none ∧ w' = w0) := by
 unfold F86.E at h
 have H := h
 clear h
 have hc0 := Ct.init hO
 refine Ret_enter Tryz.func99 rfl 15 rfl [.tmp 6] rfl rfl ?_
 refine W_seq (W_reg (L_as (vb false) rfl (L_nil (W_seq (W_reg (L_mv (vi n) rfl (L_mv (vi low) rfl (L_pu (P_cmp n low (decide (n ≥ low)) rfl rfl rfl) ?_))))))))
 refine L_mv (vb (decide (n ≥ low))) rfl ?_
 rcases bool_or (decide (n ≥ low)) with hq1 | hq1
 ·have H := ite_t H hq1
  refine L_rb hq1 rfl (L_mv (vi n) rfl (L_rb hq1 rfl (L_mv (vi high) rfl (L_rb hq1 rfl (L_pu (P_cmp n high (decide (n ≤ high)) rfl rfl rfl) (L_pu (P_pick true (vb (decide (n ≤ high))) (by exact congrArg Value.bool hq1) rfl) (L_as (vb (decide (n ≤ high))) rfl (L_nil ?_))))))))
  exact W_ret ⟨[vb (decide (n ≤ high))], ⟨_, rfl, rfl⟩, decide (n ≤ high), rfl, H, hc0.gr.g0, rfl⟩
 have H := ite_f H hq1
 exact L_pb hq1 rfl (L_pb hq1 rfl (L_pb hq1 rfl (L_pu (P_pick false (vb false) (by exact congrArg Value.bool hq1) rfl) (L_as (vb false) rfl (L_nil (W_ret ⟨[vb false], ⟨_, rfl, rfl⟩, false, rfl, H, hc0.gr.g0, rfl⟩))))))
def F86.m (n : Int) (low : Int) (high : Int) : Bool := (if decide (n ≥ low) then (decide (n ≤ high)) else false)
theorem F86.fn (n : Int) (low : Int) (high : Int) : F86.E n low high (fun r => r = F86.m n low high) := by
 unfold F86.E F86.m
 (repeat' split) <;> simp_all
end
section
open Go.RowKit
def F87.E (s : Str) (Q : Bool → Prop) : Prop :=
 (∃ (I9 : Int → Prop) (mu10 : Int → Nat), I9 0 ∧ ∀ (v2 : Int), I9 v2 → (if decide (v2 < (s.length : Int)) then ((0 : Int) ≤ v2 ∧ v2 < (s.length : Int)) ∧ (if decide (((nth s v2).toNat : Int) < 97) then Q false else ((0 : Int) ≤ v2 ∧ v2 < (s.length : Int)) ∧ (if decide (((nth s v2).toNat : Int) > 122) then Q false else (I64 (v2 + 1)) ∧ I9 (v2 + 1) ∧ mu10 (v2 + 1) < mu10 v2)) else F86.E (s.length : Int) 1 6 (fun r => Q r)))
theorem F87.calls {O : Ob} (w0 : World) (hO : Ok w0 O) (s : Str) (hs1 : Lim s) (Q : Bool → Prop) (h : F87.E s Q) :
  Ret Tryz.prog 65 [vs s] w0 (fun v w' => ∃ (r0 : Bool), v = vb r0 ∧ Q r0 ∧ Gr w0 w' none) := by
 unfold F87.E at h
 have H := h
 clear h
 have hc0 := Ct.init hO
 refine Ret_enter Tryz.func65 rfl 23 rfl [.tmp 2] rfl rfl ?_
 refine W_seq (W_reg (L_as (vb false) rfl (L_nil (W_seq (W_seq (W_reg (L_mv (vs s) rfl ?_)))))))
 have hl2 := hs1
 refine L_pu (P_lens Tryz.underlying9 s rfl) (L_mv (vi 0) rfl (L_nil (W_block ?_)))
 obtain ⟨I9, ae, ab, H⟩ := H
 refine W_loop (α := Int) (fun (sv__ : Int) t w7 => match sv__ with | v2 => I9 v2 ∧ Has t [(0, vs s), (5, vi (s.length : Int)), (6, vi v2)] ∧ Ct [] w0 w7 [] O) (fun (sv__ : Int) => match sv__ with | v2 => ae v2) 0 ⟨ab, (hasI rfl), hc0⟩ ?_
 rintro v2 _ w7 ⟨ab, af, hc8⟩
 obtain ⟨an, rfl⟩ := Has.ins af
 have H := H v2 ab
 refine W_seq (W_reg (L_pu (P_cmp v2 (s.length : Int) (decide (v2 < (s.length : Int))) rfl rfl rfl) (L_nil (W_seq ?_))))
 refine W_cond (decide (v2 < (s.length : Int))) rfl (fun ac => ?_) (fun ac => ?_)
 ·have H := ite_t H ac
  refine W_skip (W_seq (W_block (W_seq (W_reg (L_mv (vi v2) rfl (L_as (vi v2) rfl (L_nil (W_seq ?_))))))))
  refine W_reg (L_mv (vs s) rfl (L_mv (vi v2) rfl ?_))
  obtain ⟨ag, H⟩ := H
  refine L_pu (P_index Tryz.underlying9 s v2 rfl rfl ag) (L_pu (P_cmp ((nth s v2).toNat : Int) 97 (decide (((nth s v2).toNat : Int) < 97)) rfl rfl rfl) (L_mv (vb (decide (((nth s v2).toNat : Int) < 97))) rfl ?_))
  rcases bool_or (decide (((nth s v2).toNat : Int) < 97)) with aa | aa
  ·have H := ite_t H aa
   refine L_pb aa rfl (L_pb aa rfl (L_pb aa rfl (L_pb aa rfl (L_pu (P_pick true (vb true) (by exact congrArg Value.bool aa) rfl) (L_nil (W_ct (b := true) rfl rfl ?_))))))
   exact W_seq (W_reg (L_as (vb false) rfl (L_nil (W_ret ⟨[vb false], ⟨_, rfl, rfl⟩, false, rfl, H, hc8.gr.g0⟩))))
  have H := ite_f H aa
  refine L_rb aa rfl (L_mv (vs s) rfl (L_rb aa rfl (L_mv (vi v2) rfl (L_rb aa rfl ?_))))
  obtain ⟨ah, H⟩ := H
  refine L_pu (P_index Tryz.underlying9 s v2 rfl rfl ah) (L_rb aa rfl (L_pu (P_cmp ((nth s v2).toNat : Int) 122 (decide (((nth s v2).toNat : Int) > 122)) rfl rfl rfl) (L_pu (P_pick false (vb (decide (((nth s v2).toNat : Int) > 122))) (by exact congrArg Value.bool aa) rfl) (L_nil ?_))))
  refine W_cond (decide (((nth s v2).toNat : Int) > 122)) rfl (fun ad => ?_) (fun ad => ?_)
  ·have H := ite_t H ad
   exact W_seq (W_reg (L_as (vb false) rfl (L_nil (W_ret ⟨[vb false], ⟨_, rfl, rfl⟩, false, rfl, H, hc8.gr.g0⟩))))
  have H := ite_f H ad
  refine W_skip (W_reg ?_)
  obtain ⟨ai, H⟩ := H
  refine L_pu (P_add v2 1 rfl rfl ai) (L_mv (vi (v2 + 1)) rfl (L_nil ?_))
  obtain ⟨aj, ak⟩ := H
  exact ⟨v2 + 1, ak, aj, (hasI rfl), hc8⟩
 have H := ite_f H ac
 refine W_exit (xin_hit ?_)
 refine W_seq (W_reg (L_mv (vs s) rfl ?_))
 have ao := hs1
 refine L_pu (P_lens Tryz.underlying9 s rfl) ?_
 refine L_call go99 [vi (s.length : Int), vi 1, vi 6] rfl ((F86.calls w7 hc8.ok (s.length : Int) 1 6 _ H).mono ?_)
 rintro _ ap ⟨r, rfl, H, al, _⟩
 have am := hc8.k0 al
 exact L_as (vb r) rfl (L_nil (W_ret ⟨[vb r], ⟨_, rfl, rfl⟩, r, rfl, H, am.gr.g0⟩))
end
section
open Go.RowKit
def F121.E (p : Pt) (Q : Bool → Prop) : Prop :=
 F86.E p.X (-1000) 1000 (fun r => (if r then F86.E p.Y (-1000) 1000 (fun r2 => Q r2) else Q false))
theorem F121.calls {O : Ob} (w0 : World) (hO : Ok w0 O) (p : Pt) (Q : Bool → Prop) (h : F121.E p Q) :
  Ret Tryz.prog 119 [.agg #[vi p.X, vi p.Y]] w0 (fun v w' => ∃ (r0 : Bool), v = vb r0 ∧ Q r0 ∧ Gr w0 w' none) := by
 unfold F121.E at h
 have H := h
 clear h
 have hc0 := Ct.init hO
 refine Ret_enter Tryz.func119 rfl 11 rfl [.tmp 2] rfl rfl ?_
 refine W_seq (W_reg (L_box [vi p.X, vi p.Y] rfl fun w1 b2 hl4 hu5 g3 hx6 => ?_))
 have h8 := Fb.mk hc0.ok hl4 hx6
 have hc9 := hc0.k0 g3
 refine L_as (vb false) rfl (L_nil (W_seq (W_reg (L_pu (P_fa fa114_0 ⟨b2, 0, none⟩ ⟨b2, 0, none⟩ rfl rfl) (L_pu (P_ld ag3 cL ⟨b2, 0, none⟩ (vi p.X) rfl (h8.cell rfl)) ?_)))))
 refine L_call go99 [vi p.X, vi (-1000), vi 1000] rfl ((F86.calls w1 hc9.ok p.X (-1000) 1000 _ H).mono ?_)
 rintro _ ad ⟨r, rfl, H, ac, _⟩
 have ab := hc9.k0 ac
 refine L_mv (vb r) rfl ?_
 rcases bool_or r with aa | aa
 ·have H := ite_t H aa
  refine L_rb aa rfl (L_pu (P_fa fa114_1 ⟨b2, 0, none⟩ ⟨b2, 1, none⟩ rfl rfl) (L_rb aa rfl ?_))
  have ae := hc9.stn ac
  have af := (h8.st ae)
  refine L_pu (P_ld ag3 cL ⟨b2, 1, none⟩ (vi p.Y) rfl (af.cell rfl)) (L_rb aa rfl ?_)
  refine L_call go99 [vi p.Y, vi (-1000), vi 1000] rfl ((F86.calls ad ab.ok p.Y (-1000) 1000 _ H).mono ?_)
  rintro _ ai ⟨r2, rfl, H, ag, _⟩
  have ah := ab.k0 ag
  exact L_pu (P_pick true (vb r2) (by exact congrArg Value.bool aa) rfl) (L_as (vb r2) rfl (L_nil (W_ret ⟨[vb r2], ⟨_, rfl, rfl⟩, r2, rfl, H, ah.gr.g0⟩)))
 have H := ite_f H aa
 exact L_pb aa rfl (L_pb aa rfl (L_pb aa rfl (L_pu (P_pick false (vb false) (by exact congrArg Value.bool aa) rfl) (L_as (vb false) rfl (L_nil (W_ret ⟨[vb false], ⟨_, rfl, rfl⟩, false, rfl, H, ab.gr.g0⟩))))))
end
section
open Go.RowKit
def F56.E (s : Shape) (Q : Bool → Prop) : Prop :=
 (∃ (I31 : Int → Prop) (mu32 : Int → Nat), I31 0 ∧ ∀ (v2 : Int), I31 v2 → (if decide (v2 < (s.Pts.length : Int)) then ((0 : Int) ≤ v2 ∧ v2 < (s.Pts.length : Int)) ∧ (∃ q : Bool, F121.E (nth s.Pts v2) (fun x => x = q) ∧ (if !q then Q false else (if decide (v2 > 0) then (I64 (v2 - 1)) ∧ ((0 : Int) ≤ v2 - 1 ∧ v2 - 1 < (s.Pts.length : Int)) ∧ (if eqPt (nth s.Pts (v2 - 1)) (nth s.Pts v2) then Q false else (I64 (v2 + 1)) ∧ I31 (v2 + 1) ∧ mu32 (v2 + 1) < mu32 v2) else (I64 (v2 + 1)) ∧ I31 (v2 + 1) ∧ mu32 (v2 + 1) < mu32 v2))) else (if s.Kind == 1 then Q ((s.Pts.length : Int) == 1) else (if s.Kind == 2 then F86.E (s.Pts.length : Int) 2 6 (fun r2 => Q r2) else (if s.Kind == 3 then (if (F86.m (s.Pts.length : Int) 3 6) then ((0 : Int) ≤ 0 ∧ 0 < (s.Pts.length : Int)) ∧ ((s.Pts.length : Int) ≤ 9223372036854775807 → I64 ((s.Pts.length : Int) - 1)) ∧ ((0 : Int) ≤ (s.Pts.length : Int) - 1 ∧ (s.Pts.length : Int) - 1 < (s.Pts.length : Int)) ∧ Q (!(eqPt (nth s.Pts 0) (nth s.Pts ((s.Pts.length : Int) - 1)))) else Q false) else Q false)))))
theorem F56.calls {O : Ob} (w0 : World) (hO : Ok w0 O) (s : Shape) (A1 : Option Addr) (n2 c3 : Nat) (hp4 : Sl kPt w0 (Fr O) (.slice A1 n2 c3) s.Pts) (Q : Bool → Prop) (h : F56.E s Q) :
  Ret Tryz.prog 83 [.agg #[vi s.Kind, .slice A1 n2 c3]] w0 (fun v w' => ∃ (r0 : Bool), v = vb r0 ∧ Q r0 ∧ Gr w0 w' none) := by
 unfold F56.E at h
 have H := h
 clear h
 have hc0 := Ct.init hO
 refine Ret_enter Tryz.func83 rfl 62 rfl [.tmp 2] rfl rfl ?_
 refine W_seq (W_reg (L_box [vi s.Kind, .slice A1 n2 c3] rfl fun w6 b7 hl9 hu10 g8 bl => ?_))
 have ay := Fb.mk hc0.ok hl9 bl
 have ai := hc0.k0 g8
 refine L_as (vb false) rfl (L_nil (W_seq (W_seq (W_reg (L_pu (P_fa fa58_1 ⟨b7, 0, none⟩ ⟨b7, 1, none⟩ rfl rfl) (L_pu (P_ld ag56 cL ⟨b7, 1, none⟩ (.slice A1 n2 c3) rfl (ay.cell rfl)) ?_))))))
 have cw := (hp4.st ai.st).le
 refine L_pu (P_len Tryz.underlying56 A1 n2 c3 (hp4.st ai.st).len rfl) (L_mv (vi 0) rfl (L_nil (W_block ?_)))
 obtain ⟨bm, bn, ak, H⟩ := H
 refine W_loop (α := Int) (fun (sv__ : Int) t af => match sv__ with | v2 => bm v2 ∧ Has t [(1, .pointer (some ⟨b7, 0, none⟩)), (7, .slice A1 n2 c3), (8, vi (s.Pts.length : Int)), (9, vi v2)] ∧ Ct [] w0 af [] O ∧ Sl kPt af (Fr ([] ++ O)) (.slice A1 n2 c3) s.Pts ∧ Fb af ([] ++ O) b7 [vi s.Kind, .slice A1 n2 c3]) (fun (sv__ : Int) => match sv__ with | v2 => bn v2) 0 ⟨ak, (hasI rfl), ai, (hp4.st ai.st), ay⟩ ?_
 rintro v2 _ af ⟨ak, bo, ad, ae, ag⟩
 obtain ⟨cx, rfl⟩ := Has.ins bo
 have H := H v2 ak
 refine W_seq (W_reg (L_pu (P_cmp v2 (s.Pts.length : Int) (decide (v2 < (s.Pts.length : Int))) rfl rfl rfl) (L_nil (W_seq ?_))))
 refine W_cond (decide (v2 < (s.Pts.length : Int))) rfl (fun al => ?_) (fun al => ?_)
 ·have H := ite_t H al
  refine W_skip (W_seq (W_block (W_seq (W_reg (L_mv (vi v2) rfl ?_)))))
  obtain ⟨az, H⟩ := H
  obtain ⟨a0, cy, bp, cz, bq, br⟩ := ae.get default (by decide) v2 az
  obtain rfl := kPt.op bq
  refine L_pu (P_ia Tryz.underlying56 se56 A1 a0 n2 c3 ae.len v2 rfl bp rfl az) (L_pu (P_lda ag114 sz114 cL (a0.add (v2.toNat * 2)) [vi ((nth s.Pts v2).X), vi ((nth s.Pts v2).Y)] rfl rfl br) (L_alloc [.int .i64 0, .int .i64 0] ze114 fun c0 aj am hu49 an bs => ?_))
  have ao := ad.own an (some aj) (oglt am hu49)
  refine L_as (vi v2) rfl (L_stb aj 0 [vi 0, vi 0] [vi ((nth s.Pts v2).X), vi ((nth s.Pts v2).Y)] [vi ((nth s.Pts v2).X), vi ((nth s.Pts v2).Y)] rfl bs rfl sz114 rfl rfl rfl fun bt ap a1 => ?_)
  have ah := ao.wr 0 rfl ap
  refine L_nil (W_seq (W_draw (fun x => Gr bt x none) (by kernel_rfl) (by kernel_rfl) (Gr.drew _) ?_))
  refine Q_pu (P_lda ag114 sz114 cQ ⟨aj, 0, none⟩ [vi ((nth s.Pts v2).X), vi ((nth s.Pts v2).Y)] rfl rfl (a1.cells (off := 0) rfl)) ?_
  obtain ⟨q, bu, H⟩ := H
  refine Q_call go119 [.agg #[vi ((nth s.Pts v2).X), vi ((nth s.Pts v2).Y)]] rfl (vb q) (fun w g => (F121.calls w (ah.k0 g).ok (nth s.Pts v2) _ bu).mono ?_) ?_
  ·rintro _ w ⟨r, rfl, rfl, g2⟩
   exact ⟨rfl, Gr.t0 g g2⟩
  refine Q_pu (P_not q rfl) (Q_mv (vb (!q)) rfl ?_)
  rcases bool_or (!q) with ac | ac
  ·have H := ite_t H ac
   refine Q_pb ac rfl (Q_pb ac rfl (Q_pb ac rfl (Q_pn rfl (Q_pn rfl (Q_pn rfl (Q_pn rfl (Q_pn rfl (Q_pn rfl ?_))))))))
   refine Q_pn rfl (Q_pn rfl (Q_pb ac rfl (Q_pu (P_pick true (vb true) (by exact congrArg Value.bool ac) rfl) (Q_nil fun c1 bv => ?_))))
   have bw := ah.k0 bv
   refine W_ct (b := true) rfl rfl ?_
   refine W_seq (W_reg (L_as (vb false) rfl (L_nil (W_ret ?_))))
   have bx := bw.drop 0 rfl
   exact ⟨[vb false], ⟨_, rfl, rfl⟩, false, rfl, H, bx.gr.g0⟩
  have H := ite_f H ac
  refine Q_rb ac rfl (Q_mv (vi v2) rfl (Q_rb ac rfl (Q_pu (P_cmp v2 0 (decide (v2 > 0)) rfl rfl rfl) (Q_rb ac rfl (Q_mv (vb (decide (v2 > 0))) rfl ?_)))))
  rcases bool_or (decide (v2 > 0)) with ab | ab
  ·have H := ite_t H ab
   refine Q_rb ab rfl (Q_pu (P_fa fa58_1 ⟨b7, 0, none⟩ ⟨b7, 1, none⟩ rfl rfl) (Q_rb ab rfl ?_))
   have a2 := ad.stown _ an (oge am)
   have a3 := ao.stw 0 rfl ap
   have a4 := ((ag.st a2).st a3)
   refine Q_pu (P_ld ag56 cQ ⟨b7, 1, none⟩ (.slice A1 n2 c3) rfl (a4.cell rfl)) (Q_rb ab rfl (Q_mv (vi v2) rfl (Q_rb ab rfl ?_)))
   obtain ⟨bz, H⟩ := H
   refine Q_pu (P_sub v2 1 rfl rfl bz) (Q_rb ab rfl ?_)
   obtain ⟨a5, H⟩ := H
   have aq := ((ae.st a2).st a3)
   obtain ⟨a6, c2, b0, c4, b1, b2⟩ := aq.get default (by decide) (v2 - 1) a5
   obtain rfl := kPt.op b1
   refine Q_pu (P_ia Tryz.underlying56 se56 A1 a6 n2 c3 aq.len (v2 - 1) rfl b0 rfl a5) (Q_rb ab rfl (Q_pu (P_lda ag114 sz114 cQ (a6.add ((v2 - 1).toNat * 2)) [vi ((nth s.Pts (v2 - 1)).X), vi ((nth s.Pts (v2 - 1)).Y)] rfl rfl b2) (Q_rb ab rfl (Q_pu (P_lda ag114 sz114 cQ ⟨aj, 0, none⟩ [vi ((nth s.Pts v2).X), vi ((nth s.Pts v2).Y)] rfl rfl (a1.cells (off := 0) rfl)) (Q_rb ab rfl (Q_pu (P_eq _ _ (eqPt (nth s.Pts (v2 - 1)) (nth s.Pts v2)) (qt114 (nth s.Pts (v2 - 1)) (nth s.Pts v2)) rfl rfl) (Q_rb ac rfl (Q_pu (P_pick true (vb (eqPt (nth s.Pts (v2 - 1)) (nth s.Pts v2))) (by exact congrArg Value.bool ab) rfl) ?_))))))))
   refine Q_pu (P_pick false (vb (eqPt (nth s.Pts (v2 - 1)) (nth s.Pts v2))) (by exact congrArg Value.bool ac) rfl) (Q_nil fun c5 a7 => ?_)
   have ar := ah.k0 a7
   refine W_cond (eqPt (nth s.Pts (v2 - 1)) (nth s.Pts v2)) rfl (fun au => ?_) (fun au => ?_)
   ·have H := ite_t H au
    refine W_seq (W_reg (L_as (vb false) rfl (L_nil (W_ret ?_))))
    have b3 := ar.drop 0 rfl
    exact ⟨[vb false], ⟨_, rfl, rfl⟩, false, rfl, H, b3.gr.g0⟩
   have H := ite_f H au
   refine W_skip (W_reg ?_)
   obtain ⟨b4, H⟩ := H
   refine L_pu (P_add v2 1 rfl rfl b4) (L_mv (vi (v2 + 1)) rfl (L_nil ?_))
   have b5 := ar.drop 0 rfl
   obtain ⟨b6, b8⟩ := H
   have a8 := ah.stn a7
   have a9 := ar.std 0 rfl
   have b9 := ((aq.st a8).st a9)
   have ca := ((a4.st a8).st a9)
   exact ⟨v2 + 1, b8, b6, (hasI rfl), b5, b9, ca⟩
  have H := ite_f H ab
  refine Q_pb ab rfl (Q_pb ab rfl (Q_pb ab rfl (Q_pb ab rfl (Q_pb ab rfl (Q_pb ab rfl (Q_pb ab rfl (Q_pb ab rfl (Q_rb ac rfl ?_))))))))
  refine Q_pu (P_pick false (vb false) (by exact congrArg Value.bool ab) rfl) (Q_pu (P_pick false (vb false) (by exact congrArg Value.bool ac) rfl) (Q_nil fun c6 ba => ?_))
  have bb := ah.k0 ba
  refine W_cf (b := false) rfl rfl ?_
  refine W_skip (W_reg ?_)
  obtain ⟨cb, H⟩ := H
  refine L_pu (P_add v2 1 rfl rfl cb) (L_mv (vi (v2 + 1)) rfl (L_nil ?_))
  have cc := bb.drop 0 rfl
  obtain ⟨cd, ce⟩ := H
  have bc := ad.stown _ an (oge am)
  have bd := ao.stw 0 rfl ap
  have be := ah.stn ba
  have bf := bb.std 0 rfl
  have cf := ((((ae.st bc).st bd).st be).st bf)
  have cg := ((((ag.st bc).st bd).st be).st bf)
  exact ⟨v2 + 1, ce, cd, (hasI rfl), cc, cf, cg⟩
 have H := ite_f H al
 refine W_exit (xin_hit ?_)
 refine W_seq (W_reg (L_pu (P_fa fa58_1 ⟨b7, 0, none⟩ ⟨b7, 1, none⟩ rfl rfl) (L_pu (P_ld ag56 cL ⟨b7, 1, none⟩ (.slice A1 n2 c3) rfl (ag.cell rfl)) ?_)))
 have ch := ae.le
 refine L_pu (P_len Tryz.underlying56 A1 n2 c3 ae.len rfl) (L_as (vi (s.Pts.length : Int)) rfl (L_nil (W_seq (W_seq (W_reg (L_pu (P_fa fa58_0 ⟨b7, 0, none⟩ ⟨b7, 0, none⟩ rfl rfl) (L_pu (P_ld ag3 cL ⟨b7, 0, none⟩ (vi s.Kind) rfl (ag.cell rfl)) (L_nil ?_))))))))
 refine W_block (W_seq (W_reg (L_pu (P_cmp s.Kind 1 (s.Kind == 1) rfl rfl rfl) (L_as (vb (s.Kind == 1)) rfl (L_nil ?_)))))
 refine W_cond (s.Kind == 1) rfl (fun av => ?_) (fun av => ?_)
 ·have H := ite_t H av
  exact W_seq (W_reg (L_mv (vi (s.Pts.length : Int)) rfl (L_pu (P_cmp (s.Pts.length : Int) 1 ((s.Pts.length : Int) == 1) rfl rfl rfl) (L_as (vb ((s.Pts.length : Int) == 1)) rfl (L_nil (W_ret ⟨[vb ((s.Pts.length : Int) == 1)], ⟨_, rfl, rfl⟩, (s.Pts.length : Int) == 1, rfl, H, ad.gr.g0⟩))))))
 have H := ite_f H av
 refine W_seq (W_reg (L_pu (P_cmp s.Kind 2 (s.Kind == 2) rfl rfl rfl) (L_as (vb (s.Kind == 2)) rfl (L_nil ?_))))
 refine W_cond (s.Kind == 2) rfl (fun aw => ?_) (fun aw => ?_)
 ·have H := ite_t H aw
  refine W_seq (W_reg (L_mv (vi (s.Pts.length : Int)) rfl ?_))
  refine L_call go99 [vi (s.Pts.length : Int), vi 2, vi 6] rfl ((F86.calls af ad.ok (s.Pts.length : Int) 2 6 _ H).mono ?_)
  rintro _ c7 ⟨r2, rfl, H, ci, _⟩
  have cj := ad.k0 ci
  exact L_as (vb r2) rfl (L_nil (W_ret ⟨[vb r2], ⟨_, rfl, rfl⟩, r2, rfl, H, cj.gr.g0⟩))
 have H := ite_f H aw
 refine W_seq (W_reg (L_pu (P_cmp s.Kind 3 (s.Kind == 3) rfl rfl rfl) (L_as (vb (s.Kind == 3)) rfl (L_nil ?_))))
 refine W_cond (s.Kind == 3) rfl (fun ax => ?_) (fun ax => ?_)
 ·have H := ite_t H ax
  refine W_seq (W_draw (fun x => Gr af x none) (by kernel_rfl) (by kernel_rfl) (Gr.drew _) ?_)
  refine Q_mv (vi (s.Pts.length : Int)) rfl ?_
  refine Q_call go99 [vi (s.Pts.length : Int), vi 3, vi 6] rfl (vb (F86.m (s.Pts.length : Int) 3 6)) (fun w g => (F86.calls w (ad.k0 g).ok (s.Pts.length : Int) 3 6 _ (F86.fn (s.Pts.length : Int) 3 6)).mono ?_) ?_
  ·rintro _ w ⟨r, rfl, rfl, g2, _⟩
   exact ⟨rfl, Gr.t0 g g2⟩
  refine Q_mv (vb (F86.m (s.Pts.length : Int) 3 6)) rfl ?_
  rcases bool_or (F86.m (s.Pts.length : Int) 3 6) with aa | aa
  ·have H := ite_t H aa
   refine Q_rb aa rfl (Q_pu (P_fa fa58_1 ⟨b7, 0, none⟩ ⟨b7, 1, none⟩ rfl rfl) (Q_rb aa rfl (Q_pu (P_ld ag56 cQ ⟨b7, 1, none⟩ (.slice A1 n2 c3) rfl (ag.cell rfl)) (Q_rb aa rfl ?_))))
   obtain ⟨bg, H⟩ := H
   obtain ⟨bh, c8, ck, c9, cl, cm⟩ := ae.get default (by decide) 0 bg
   obtain rfl := kPt.op cl
   refine Q_pu (P_ia Tryz.underlying56 se56 A1 bh n2 c3 ae.len 0 rfl ck rfl bg) (Q_rb aa rfl (Q_pu (P_lda ag114 sz114 cQ (bh.add ((0 : Int).toNat * 2)) [vi ((nth s.Pts 0).X), vi ((nth s.Pts 0).Y)] rfl rfl cm) (Q_rb aa rfl (Q_pu (P_fa fa58_1 ⟨b7, 0, none⟩ ⟨b7, 1, none⟩ rfl rfl) (Q_rb aa rfl (Q_pu (P_ld ag56 cQ ⟨b7, 1, none⟩ (.slice A1 n2 c3) rfl (ag.cell rfl)) (Q_rb aa rfl (Q_mv (vi (s.Pts.length : Int)) rfl ?_))))))))
   refine Q_rb aa rfl ?_
   obtain ⟨cn, H⟩ := H
   have co := cn (len_le ch)
   refine Q_pu (P_sub (s.Pts.length : Int) 1 rfl rfl co) (Q_rb aa rfl ?_)
   obtain ⟨bi, H⟩ := H
   obtain ⟨bj, da, cp, db, cq, cr⟩ := ae.get default (by decide) ((s.Pts.length : Int) - 1) bi
   obtain rfl := kPt.op cq
   refine Q_pu (P_ia Tryz.underlying56 se56 A1 bj n2 c3 ae.len ((s.Pts.length : Int) - 1) rfl cp rfl bi) (Q_rb aa rfl (Q_pu (P_lda ag114 sz114 cQ (bj.add (((s.Pts.length : Int) - 1).toNat * 2)) [vi ((nth s.Pts ((s.Pts.length : Int) - 1)).X), vi ((nth s.Pts ((s.Pts.length : Int) - 1)).Y)] rfl rfl cr) (Q_rb aa rfl (Q_pu (P_ne _ _ (eqPt (nth s.Pts 0) (nth s.Pts ((s.Pts.length : Int) - 1))) (qt114 (nth s.Pts 0) (nth s.Pts ((s.Pts.length : Int) - 1))) rfl rfl) (Q_pu (P_pick true (vb (!(eqPt (nth s.Pts 0) (nth s.Pts ((s.Pts.length : Int) - 1))))) (by exact congrArg Value.bool aa) rfl) (Q_as (vb (!(eqPt (nth s.Pts 0) (nth s.Pts ((s.Pts.length : Int) - 1))))) rfl (Q_nil fun dc cs => ?_)))))))
   have ct := ad.k0 cs
   exact W_ret ⟨[vb (!(eqPt (nth s.Pts 0) (nth s.Pts ((s.Pts.length : Int) - 1))))], ⟨_, rfl, rfl⟩, !(eqPt (nth s.Pts 0) (nth s.Pts ((s.Pts.length : Int) - 1))), rfl, H, ct.gr.g0⟩
  have H := ite_f H aa
  refine Q_pb aa rfl (Q_pb aa rfl (Q_pb aa rfl (Q_pb aa rfl (Q_pb aa rfl (Q_pb aa rfl (Q_pb aa rfl (Q_pb aa rfl (Q_pb aa rfl ?_))))))))
  refine Q_pb aa rfl (Q_pb aa rfl (Q_pu (P_pick false (vb false) (by exact congrArg Value.bool aa) rfl) (Q_as (vb false) rfl (Q_nil fun dd cu => ?_))))
  have cv := ad.k0 cu
  exact W_ret ⟨[vb false], ⟨_, rfl, rfl⟩, false, rfl, H, cv.gr.g0⟩
 have H := ite_f H ax
 exact W_skip (W_seq (W_reg (L_as (vb false) rfl (L_nil (W_ret ⟨[vb false], ⟨_, rfl, rfl⟩, false, rfl, H, ad.gr.g0⟩)))))
end
section
open Go.RowKit
def F88.E (f : Feat) (Q : Bool → Prop) : Prop :=
 (∃ (I43 : Int → Prop) (mu44 : Int → Nat), I43 0 ∧ ∀ (v2 : Int), I43 v2 → (if decide (v2 < (f.Tags.length : Int)) then ((0 : Int) ≤ v2 ∧ v2 < (f.Tags.length : Int)) ∧ (∃ q : Bool, F87.E ((nth f.Tags v2).Key) (fun x => x = q) ∧ (if !q then Q false else (∃ q2 : Bool, F87.E ((nth f.Tags v2).Val) (fun x => x = q2) ∧ (if !q2 then Q false else (if decide (v2 > 0) then (I64 (v2 - 1)) ∧ ((0 : Int) ≤ v2 - 1 ∧ v2 - 1 < (f.Tags.length : Int)) ∧ (if !(Op.bytesLess ((nth f.Tags (v2 - 1)).Key) ((nth f.Tags v2).Key)) then Q false else (I64 (v2 + 1)) ∧ I43 (v2 + 1) ∧ mu44 (v2 + 1) < mu44 v2) else (I64 (v2 + 1)) ∧ I43 (v2 + 1) ∧ mu44 (v2 + 1) < mu44 v2))))) else F87.E f.Id (fun r3 => (if r3 then F56.E f.Shape (fun r4 => (if r4 then Q (decide ((f.Tags.length : Int) ≤ 4)) else Q false)) else Q false))))
theorem F88.calls {O : Ob} (w0 : World) (hO : Ok w0 O) (f : Feat) (A2 : Option Addr) (n3 c4 : Nat) (A7 : Option Addr) (n8 c9 : Nat) (hs1 : Lim f.Id) (hp5 : Sl kPt w0 (Fr O) (.slice A2 n3 c4) f.Shape.Pts) (ap : Sl kTag w0 (Fr O) (.slice A7 n8 c9) f.Tags) (Q : Bool → Prop) (h : F88.E f Q) :
  Ret Tryz.prog 64 [.agg #[vs f.Id, vi f.Shape.Kind, .slice A2 n3 c4, .slice A7 n8 c9]] w0 (fun v w' => ∃ (r0 : Bool), v = vb r0 ∧ Q r0 ∧ Gr w0 w' none) := by
 unfold F88.E at h
 have H := h
 clear h
 have hc0 := Ct.init hO
 refine Ret_enter Tryz.func64 rfl 54 rfl [.tmp 2] rfl rfl ?_
 refine W_seq (W_reg (L_box [vs f.Id, vi f.Shape.Kind, .slice A2 n3 c4, .slice A7 n8 c9] rfl fun cy ab br hu16 bs bt => ?_))
 have bc := Fb.mk hc0.ok br bt
 have ak := hc0.k0 bs
 refine L_as (vb false) rfl (L_nil (W_seq (W_seq (W_reg (L_pu (P_fa fa61_2 ⟨ab, 0, none⟩ ⟨ab, 3, none⟩ rfl rfl) (L_pu (P_ld ag59 cL ⟨ab, 3, none⟩ (.slice A7 n8 c9) rfl (bc.cell rfl)) ?_))))))
 have cz := (ap.st ak.st).le
 refine L_pu (P_len Tryz.underlying59 A7 n8 c9 (ap.st ak.st).len rfl) (L_mv (vi 0) rfl (L_nil (W_block ?_)))
 obtain ⟨bu, bv, aq, H⟩ := H
 refine W_loop (α := Int) (fun (sv__ : Int) t ai => match sv__ with | v2 => bu v2 ∧ Has t [(1, .pointer (some ⟨ab, 0, none⟩)), (6, .slice A7 n8 c9), (7, vi (f.Tags.length : Int)), (8, vi v2)] ∧ Ct [] w0 ai [] O ∧ Sl kTag ai (Fr ([] ++ O)) (.slice A7 n8 c9) f.Tags ∧ Sl kPt ai (Fr ([] ++ O)) (.slice A2 n3 c4) f.Shape.Pts ∧ Fb ai ([] ++ O) ab [vs f.Id, vi f.Shape.Kind, .slice A2 n3 c4, .slice A7 n8 c9]) (fun (sv__ : Int) => match sv__ with | v2 => bv v2) 0 ⟨aq, (hasI rfl), ak, (ap.st ak.st), (hp5.st ak.st), bc⟩ ?_
 rintro v2 _ ai ⟨aq, bw, aj, al, ar, am⟩
 obtain ⟨c0, rfl⟩ := Has.ins bw
 have H := H v2 aq
 refine W_seq (W_reg (L_pu (P_cmp v2 (f.Tags.length : Int) (decide (v2 < (f.Tags.length : Int))) rfl rfl rfl) (L_nil (W_seq ?_))))
 refine W_cond (decide (v2 < (f.Tags.length : Int))) rfl (fun au => ?_) (fun au => ?_)
 ·have H := ite_t H au
  refine W_skip (W_seq (W_block (W_seq (W_reg (L_mv (vi v2) rfl ?_)))))
  obtain ⟨bd, H⟩ := H
  obtain ⟨be, c1, bx, c2, bz, b0⟩ := al.get default (by decide) v2 bd
  obtain ⟨rfl, b1, b2⟩ := kTag.op bz
  refine L_pu (P_ia Tryz.underlying59 se59 A7 be n8 c9 al.len v2 rfl bx rfl bd) (L_pu (P_lda ag106 sz106 cL (be.add (v2.toNat * 2)) [vs ((nth f.Tags v2).Key), vs ((nth f.Tags v2).Val)] rfl rfl b0) (L_alloc [vs [], vs []] ze106 fun c3 af av hu63 aw b3 => ?_))
  have ax := aj.own aw (some af) (oglt av hu63)
  refine L_as (vi v2) rfl (L_stb af 0 [vs ([] : Str), vs ([] : Str)] [vs ((nth f.Tags v2).Key), vs ((nth f.Tags v2).Val)] [vs ((nth f.Tags v2).Key), vs ((nth f.Tags v2).Val)] rfl b3 rfl sz106 rfl rfl rfl fun b4 ay az => ?_)
  have ah := ax.wr 0 rfl ay
  refine L_nil (W_seq (W_draw (fun x => Gr b4 x none) (by kernel_rfl) (by kernel_rfl) (Gr.drew _) ?_))
  refine Q_pu (P_fa fa106_0 ⟨af, 0, none⟩ ⟨af, 0, none⟩ rfl rfl) (Q_pu (P_ld ag9 cQ ⟨af, 0, none⟩ (vs ((nth f.Tags v2).Key)) rfl (az.cell rfl)) ?_)
  obtain ⟨q, b5, H⟩ := H
  refine Q_call go65 [vs ((nth f.Tags v2).Key)] rfl (vb q) (fun w g => (F87.calls w (ah.k0 g).ok ((nth f.Tags v2).Key) b1 _ b5).mono ?_) ?_
  ·rintro _ w ⟨r, rfl, rfl, g2⟩
   exact ⟨rfl, Gr.t0 g g2⟩
  refine Q_pu (P_not q rfl) (Q_mv (vb (!q)) rfl ?_)
  rcases bool_or (!q) with ad | ad
  ·have H := ite_t H ad
   refine Q_pb ad rfl (Q_pb ad rfl (Q_pb ad rfl (Q_pb ad rfl (Q_pu (P_pick true (vb true) (by exact congrArg Value.bool ad) rfl) (Q_mv (vb true) rfl (Q_pass (dj := 23) rfl rfl (.inl rfl) (Q_pass (dj := 23) rfl rfl (.inl rfl) (Q_pass (dj := 23) rfl rfl (.inl rfl) ?_))))))))
   refine Q_pn rfl (Q_pn rfl (Q_pn rfl (Q_pn rfl (Q_pn rfl (Q_pn rfl (Q_pn rfl (Q_pn rfl (Q_pn rfl ?_))))))))
   refine Q_pn rfl (Q_pass (dj := 23) rfl rfl (.inl rfl) (Q_pu (P_pick true (vb true) (by exact congrArg Value.bool rfl) rfl) (Q_nil fun c5 b6 => ?_)))
   have b7 := ah.k0 b6
   refine W_ct (b := true) rfl rfl ?_
   refine W_seq (W_reg (L_as (vb false) rfl (L_nil (W_ret ?_))))
   have b8 := b7.drop 0 rfl
   exact ⟨[vb false], ⟨_, rfl, rfl⟩, false, rfl, H, b8.gr.g0⟩
  have H := ite_f H ad
  refine Q_rb ad rfl (Q_pu (P_fa fa106_1 ⟨af, 0, none⟩ ⟨af, 1, none⟩ rfl rfl) (Q_rb ad rfl (Q_pu (P_ld ag9 cQ ⟨af, 1, none⟩ (vs ((nth f.Tags v2).Val)) rfl (az.cell rfl)) (Q_rb ad rfl ?_))))
  obtain ⟨q2, b9, H⟩ := H
  refine Q_call go65 [vs ((nth f.Tags v2).Val)] rfl (vb q2) (fun w g => (F87.calls w (ah.k0 g).ok ((nth f.Tags v2).Val) b2 _ b9).mono ?_) ?_
  ·rintro _ w ⟨r, rfl, rfl, g2⟩
   exact ⟨rfl, Gr.t0 g g2⟩
  refine Q_rb ad rfl (Q_pu (P_not q2 rfl) (Q_pu (P_pick false (vb (!q2)) (by exact congrArg Value.bool ad) rfl) (Q_mv (vb (!q2)) rfl ?_)))
  rcases bool_or (!q2) with ac | ac
  ·have H := ite_t H ac
   refine Q_pb ac rfl (Q_pb ac rfl (Q_pb ac rfl (Q_pn rfl (Q_pn rfl (Q_pn rfl (Q_pn rfl (Q_pn rfl (Q_pn rfl ?_))))))))
   refine Q_pn rfl (Q_pn rfl (Q_pn rfl (Q_pn rfl (Q_pb ac rfl (Q_pu (P_pick true (vb true) (by exact congrArg Value.bool ac) rfl) (Q_nil fun c6 ca => ?_))))))
   have cb := ah.k0 ca
   refine W_ct (b := true) rfl rfl ?_
   refine W_seq (W_reg (L_as (vb false) rfl (L_nil (W_ret ?_))))
   have cc := cb.drop 0 rfl
   exact ⟨[vb false], ⟨_, rfl, rfl⟩, false, rfl, H, cc.gr.g0⟩
  have H := ite_f H ac
  refine Q_rb ac rfl (Q_mv (vi v2) rfl (Q_rb ac rfl (Q_pu (P_cmp v2 0 (decide (v2 > 0)) rfl rfl rfl) (Q_rb ac rfl (Q_mv (vb (decide (v2 > 0))) rfl ?_)))))
  rcases bool_or (decide (v2 > 0)) with aa | aa
  ·have H := ite_t H aa
   refine Q_rb aa rfl (Q_pu (P_fa fa61_2 ⟨ab, 0, none⟩ ⟨ab, 3, none⟩ rfl rfl) (Q_rb aa rfl ?_))
   have a0 := aj.stown _ aw (oge av)
   have a1 := ax.stw 0 rfl ay
   have bf := ((am.st a0).st a1)
   refine Q_pu (P_ld ag59 cQ ⟨ab, 3, none⟩ (.slice A7 n8 c9) rfl (bf.cell rfl)) (Q_rb aa rfl (Q_mv (vi v2) rfl (Q_rb aa rfl ?_)))
   obtain ⟨cd, H⟩ := H
   refine Q_pu (P_sub v2 1 rfl rfl cd) (Q_rb aa rfl ?_)
   obtain ⟨bg, H⟩ := H
   have a2 := ((al.st a0).st a1)
   obtain ⟨an, c7, ce, c8, cf, cg⟩ := a2.get default (by decide) (v2 - 1) bg
   obtain ⟨rfl, da, db⟩ := kTag.op cf
   refine Q_pu (P_ia Tryz.underlying59 se59 A7 an n8 c9 a2.len (v2 - 1) rfl ce rfl bg) (Q_rb aa rfl (Q_pu (P_fa fa106_0 (an.add ((v2 - 1).toNat * 2)) ((an.add ((v2 - 1).toNat * 2)).add 0) rfl rfl) (Q_rb aa rfl (Q_pu (P_ld ag9 cQ ((an.add ((v2 - 1).toNat * 2)).add 0) (vs ((nth f.Tags (v2 - 1)).Key)) rfl (cg 0 _ rfl)) (Q_rb aa rfl (Q_pu (P_fa fa106_0 ⟨af, 0, none⟩ ⟨af, 0, none⟩ rfl rfl) (Q_rb aa rfl (Q_pu (P_ld ag9 cQ ⟨af, 0, none⟩ (vs ((nth f.Tags v2).Key)) rfl (az.cell rfl)) ?_))))))))
   refine Q_rb aa rfl (Q_pu (P_scmp ((nth f.Tags (v2 - 1)).Key) ((nth f.Tags v2).Key) (!(Op.bytesLess ((nth f.Tags (v2 - 1)).Key) ((nth f.Tags v2).Key))) rfl rfl rfl) (Q_rb ac rfl (Q_pu (P_pick true (vb (!(Op.bytesLess ((nth f.Tags (v2 - 1)).Key) ((nth f.Tags v2).Key)))) (by exact congrArg Value.bool aa) rfl) (Q_pu (P_pick false (vb (!(Op.bytesLess ((nth f.Tags (v2 - 1)).Key) ((nth f.Tags v2).Key)))) (by exact congrArg Value.bool ac) rfl) (Q_nil fun dc bh => ?_)))))
   have a3 := ah.k0 bh
   refine W_cond (!(Op.bytesLess ((nth f.Tags (v2 - 1)).Key) ((nth f.Tags v2).Key))) rfl (fun a4 => ?_) (fun a4 => ?_)
   ·have H := ite_t H a4
    refine W_seq (W_reg (L_as (vb false) rfl (L_nil (W_ret ?_))))
    have ch := a3.drop 0 rfl
    exact ⟨[vb false], ⟨_, rfl, rfl⟩, false, rfl, H, ch.gr.g0⟩
   have H := ite_f H a4
   refine W_skip (W_reg ?_)
   obtain ⟨ci, H⟩ := H
   refine L_pu (P_add v2 1 rfl rfl ci) (L_mv (vi (v2 + 1)) rfl (L_nil ?_))
   have cj := a3.drop 0 rfl
   obtain ⟨ck, cl⟩ := H
   have a5 := ah.stn bh
   have a6 := a3.std 0 rfl
   have cm := ((a2.st a5).st a6)
   have cn := ((((ar.st a0).st a1).st a5).st a6)
   have co := ((bf.st a5).st a6)
   exact ⟨v2 + 1, cl, ck, (hasI rfl), cj, cm, cn, co⟩
  have H := ite_f H aa
  refine Q_pb aa rfl (Q_pb aa rfl (Q_pb aa rfl (Q_pb aa rfl (Q_pb aa rfl (Q_pb aa rfl (Q_pb aa rfl (Q_pb aa rfl (Q_pb aa rfl ?_))))))))
  refine Q_pb aa rfl (Q_rb ac rfl (Q_pu (P_pick false (vb false) (by exact congrArg Value.bool aa) rfl) (Q_pu (P_pick false (vb false) (by exact congrArg Value.bool ac) rfl) (Q_nil fun dd bi => ?_))))
  have bj := ah.k0 bi
  refine W_cf (b := false) rfl rfl ?_
  refine W_skip (W_reg ?_)
  obtain ⟨cp, H⟩ := H
  refine L_pu (P_add v2 1 rfl rfl cp) (L_mv (vi (v2 + 1)) rfl (L_nil ?_))
  have cq := bj.drop 0 rfl
  obtain ⟨cr, cs⟩ := H
  have a7 := aj.stown _ aw (oge av)
  have a8 := ax.stw 0 rfl ay
  have a9 := ah.stn bi
  have ba := bj.std 0 rfl
  have ct := ((((al.st a7).st a8).st a9).st ba)
  have cu := ((((ar.st a7).st a8).st a9).st ba)
  have cv := ((((am.st a7).st a8).st a9).st ba)
  exact ⟨v2 + 1, cs, cr, (hasI rfl), cq, ct, cu, cv⟩
 have H := ite_f H au
 refine W_exit (xin_hit ?_)
 refine W_seq (W_reg (L_pu (P_fa fa61_0 ⟨ab, 0, none⟩ ⟨ab, 0, none⟩ rfl rfl) (L_pu (P_ld ag9 cL ⟨ab, 0, none⟩ (vs f.Id) rfl (am.cell rfl)) ?_)))
 refine L_call go65 [vs f.Id] rfl ((F87.calls ai aj.ok f.Id hs1 _ H).mono ?_)
 rintro _ cw ⟨r3, rfl, H, bl⟩
 have ao := aj.k0 bl
 refine L_mv (vb r3) rfl ?_
 rcases bool_or r3 with ag | ag
 ·have H := ite_t H ag
  refine L_rb ag rfl (L_pu (P_fa fa61_1 ⟨ab, 0, none⟩ ⟨ab, 1, none⟩ rfl rfl) (L_rb ag rfl ?_))
  have bb := aj.stn bl
  have bm := (am.st bb)
  refine L_pu (P_lda ag58 sz58 cL ⟨ab, 1, none⟩ [vi f.Shape.Kind, .slice A2 n3 c4] rfl rfl (bm.cells (off := 1) rfl)) (L_rb ag rfl ?_)
  refine L_call go83 [.agg #[vi f.Shape.Kind, .slice A2 n3 c4]] rfl ((F56.calls cw ao.ok f.Shape A2 n3 c4 (ar.st bb) _ H).mono ?_)
  rintro _ de ⟨r4, rfl, H, bn⟩
  have bo := ao.k0 bn
  refine L_pu (P_pick true (vb r4) (by exact congrArg Value.bool ag) rfl) (L_mv (vb r4) rfl ?_)
  rcases bool_or r4 with ae | ae
  ·have H := ite_t H ae
   refine L_rb ae rfl (L_pu (P_fa fa61_2 ⟨ab, 0, none⟩ ⟨ab, 3, none⟩ rfl rfl) (L_rb ae rfl ?_))
   have bp := ao.stn bn
   have cx := (bm.st bp)
   refine L_pu (P_ld ag59 cL ⟨ab, 3, none⟩ (.slice A7 n8 c9) rfl (cx.cell rfl)) (L_rb ae rfl ?_)
   have bq := ((al.st bb).st bp)
   have df := bq.le
   exact L_pu (P_len Tryz.underlying59 A7 n8 c9 bq.len rfl) (L_rb ae rfl (L_pu (P_cmp (f.Tags.length : Int) 4 (decide ((f.Tags.length : Int) ≤ 4)) rfl rfl rfl) (L_pu (P_pick true (vb (decide ((f.Tags.length : Int) ≤ 4))) (by exact congrArg Value.bool ae) rfl) (L_as (vb (decide ((f.Tags.length : Int) ≤ 4))) rfl (L_nil (W_ret ⟨[vb (decide ((f.Tags.length : Int) ≤ 4))], ⟨_, rfl, rfl⟩, decide ((f.Tags.length : Int) ≤ 4), rfl, H, bo.gr.g0⟩))))))
  have H := ite_f H ae
  exact L_pb ae rfl (L_pb ae rfl (L_pb ae rfl (L_pb ae rfl (L_pu (P_pick false (vb false) (by exact congrArg Value.bool ae) rfl) (L_as (vb false) rfl (L_nil (W_ret ⟨[vb false], ⟨_, rfl, rfl⟩, false, rfl, H, bo.gr.g0⟩)))))))
 have H := ite_f H ag
 refine L_pb ag rfl (L_pb ag rfl (L_pb ag rfl (L_pu (P_pick false (vb false) (by exact congrArg Value.bool ag) rfl) (L_mv (vb false) rfl (L_pass (dj := 48) rfl rfl (.inl rfl) (L_pass (dj := 48) rfl rfl (.inl rfl) (L_pass (dj := 48) rfl rfl (.inl rfl) (L_pass (dj := 48) rfl rfl (.inl rfl) ?_))))))))
 exact L_pu (P_pick false (vb false) (by exact congrArg Value.bool rfl) rfl) (L_as (vb false) rfl (L_nil (W_ret ⟨[vb false], ⟨_, rfl, rfl⟩, false, rfl, H, ao.gr.g0⟩)))
end
section
open Go.RowKit
def F57.E (s : List Feat) (Q : Bool → Prop) : Prop :=
 (∃ (I19 : Int → Prop) (mu20 : Int → Nat), I19 0 ∧ ∀ (v2 : Int), I19 v2 → (if decide (v2 < (s.length : Int)) then ((0 : Int) ≤ v2 ∧ v2 < (s.length : Int)) ∧ (∃ q : Bool, F88.E (nth s v2) (fun x => x = q) ∧ (if !q then Q false else (if decide (v2 > 0) then (I64 (v2 - 1)) ∧ ((0 : Int) ≤ v2 - 1 ∧ v2 - 1 < (s.length : Int)) ∧ (if !(Op.bytesLess ((nth s (v2 - 1)).Id) ((nth s v2).Id)) then Q false else (I64 (v2 + 1)) ∧ I19 (v2 + 1) ∧ mu20 (v2 + 1) < mu20 v2) else (I64 (v2 + 1)) ∧ I19 (v2 + 1) ∧ mu20 (v2 + 1) < mu20 v2))) else Q (decide ((s.length : Int) ≤ 8))))
theorem F57.calls {O : Ob} (w0 : World) (hO : Ok w0 O) (s : List Feat) (A1 : Option Addr) (n2 c3 : Nat) (hp4 : Sl kFeat w0 (Fr O) (.slice A1 n2 c3) s) (Q : Bool → Prop) (h : F57.E s Q) :
  Ret Tryz.prog 31 [.slice A1 n2 c3] w0 (fun v w' => ∃ (r0 : Bool), v = vb r0 ∧ Q r0 ∧ Gr w0 w' none) := by
 unfold F57.E at h
 have H := h
 clear h
 have hc0 := Ct.init hO
 refine Ret_enter Tryz.func31 rfl 34 rfl [.tmp 2] rfl rfl ?_
 refine W_seq (W_reg (L_as (vb false) rfl (L_nil (W_seq (W_seq (W_reg (L_mv (.slice A1 n2 c3) rfl ?_)))))))
 have hl6 := hp4.le
 refine L_pu (P_len Tryz.underlying26 A1 n2 c3 hp4.len rfl) (L_mv (vi 0) rfl (L_nil (W_block ?_)))
 obtain ⟨a8, a9, ao, H⟩ := H
 refine W_loop (α := Int) (fun (sv__ : Int) t ap => match sv__ with | v2 => a8 v2 ∧ Has t [(0, .slice A1 n2 c3), (5, .slice A1 n2 c3), (6, vi (s.length : Int)), (7, vi v2)] ∧ Ct [] w0 ap [] O ∧ Sl kFeat ap (Fr ([] ++ O)) (.slice A1 n2 c3) s) (fun (sv__ : Int) => match sv__ with | v2 => a9 v2) 0 ⟨ao, (hasI rfl), hc0, hp4⟩ ?_
 rintro v2 _ ap ⟨ao, ba, aq, ac⟩
 obtain ⟨ca, rfl⟩ := Has.ins ba
 have H := H v2 ao
 refine W_seq (W_reg (L_pu (P_cmp v2 (s.length : Int) (decide (v2 < (s.length : Int))) rfl rfl rfl) (L_nil (W_seq ?_))))
 refine W_cond (decide (v2 < (s.length : Int))) rfl (fun ar => ?_) (fun ar => ?_)
 ·have H := ite_t H ar
  refine W_skip (W_seq (W_block (W_seq (W_reg (L_mv (vi v2) rfl ?_)))))
  obtain ⟨ax, H⟩ := H
  obtain ⟨ay, cb, bb, cc, bc, bd⟩ := ac.get default (by decide) v2 ax
  obtain ⟨ad, ae, af, ag, ah, ai, rfl, be, bf, bg⟩ := kFeat.op bc
  refine L_pu (P_ia Tryz.underlying26 se26 A1 ay n2 c3 ac.len v2 rfl bb rfl ax) (L_pu (P_lda ag61 sz61 cL (ay.add (v2.toNat * 4)) [vs ((nth s v2).Id), vi ((nth s v2).Shape.Kind), .slice ad ae af, .slice ag ah ai] rfl rfl bd) (L_alloc [vs [], .int .i64 0, .slice none 0 0, .slice none 0 0] ze61 fun cd aj az hu48 a0 bh => ?_))
  have a1 := aq.own a0 (some aj) (oglt az hu48)
  refine L_as (vi v2) rfl (L_stb aj 0 [vs ([] : Str), vi 0, .slice none 0 0, .slice none 0 0] [vs ((nth s v2).Id), vi ((nth s v2).Shape.Kind), .slice ad ae af, .slice ag ah ai] [vs ((nth s v2).Id), vi ((nth s v2).Shape.Kind), .slice ad ae af, .slice ag ah ai] rfl bh rfl sz61 rfl rfl rfl fun bi a2 a3 => ?_)
  have ak := a1.wr 0 rfl a2
  refine L_nil (W_seq (W_draw (fun x => Gr bi x none) (by kernel_rfl) (by kernel_rfl) (Gr.drew _) ?_))
  refine Q_pu (P_lda ag61 sz61 cQ ⟨aj, 0, none⟩ [vs ((nth s v2).Id), vi ((nth s v2).Shape.Kind), .slice ad ae af, .slice ag ah ai] rfl rfl (a3.cells (off := 0) rfl)) ?_
  have al := aq.stown _ a0 (oge az)
  have am := a1.stw 0 rfl a2
  have bj := ((bf.st al).st am)
  have bl := ((bg.st al).st am)
  obtain ⟨q, bm, H⟩ := H
  refine Q_call go64 [.agg #[vs ((nth s v2).Id), vi ((nth s v2).Shape.Kind), .slice ad ae af, .slice ag ah ai]] rfl (vb q) (fun w g => (F88.calls w (ak.k0 g).ok (nth s v2) ad ae af ag ah ai be (bj.st (.new _ g)) (bl.st (.new _ g)) _ bm).mono ?_) ?_
  ·rintro _ w ⟨r, rfl, rfl, g2⟩
   exact ⟨rfl, Gr.t0 g g2⟩
  refine Q_pu (P_not q rfl) (Q_mv (vb (!q)) rfl ?_)
  rcases bool_or (!q) with ab | ab
  ·have H := ite_t H ab
   refine Q_pb ab rfl (Q_pb ab rfl (Q_pb ab rfl (Q_pn rfl (Q_pn rfl (Q_pn rfl (Q_pn rfl (Q_pn rfl (Q_pn rfl ?_))))))))
   refine Q_pn rfl (Q_pn rfl (Q_pn rfl (Q_pb ab rfl (Q_pu (P_pick true (vb true) (by exact congrArg Value.bool ab) rfl) (Q_nil fun ce bn => ?_)))))
   have bo := ak.k0 bn
   refine W_ct (b := true) rfl rfl ?_
   refine W_seq (W_reg (L_as (vb false) rfl (L_nil (W_ret ?_))))
   have bp := bo.drop 0 rfl
   exact ⟨[vb false], ⟨_, rfl, rfl⟩, false, rfl, H, bp.gr.g0⟩
  have H := ite_f H ab
  refine Q_rb ab rfl (Q_mv (vi v2) rfl (Q_rb ab rfl (Q_pu (P_cmp v2 0 (decide (v2 > 0)) rfl rfl rfl) (Q_rb ab rfl (Q_mv (vb (decide (v2 > 0))) rfl ?_)))))
  rcases bool_or (decide (v2 > 0)) with aa | aa
  ·have H := ite_t H aa
   refine Q_rb aa rfl (Q_mv (.slice A1 n2 c3) rfl (Q_rb aa rfl (Q_mv (vi v2) rfl (Q_rb aa rfl ?_))))
   obtain ⟨bq, H⟩ := H
   refine Q_pu (P_sub v2 1 rfl rfl bq) (Q_rb aa rfl ?_)
   obtain ⟨a4, H⟩ := H
   have au := ((ac.st al).st am)
   obtain ⟨an, cf, br, cg, bs, bt⟩ := au.get default (by decide) (v2 - 1) a4
   obtain ⟨ch, ci, cj, ck, cl, cm, rfl, cn, co, cp⟩ := kFeat.op bs
   refine Q_pu (P_ia Tryz.underlying26 se26 A1 an n2 c3 au.len (v2 - 1) rfl br rfl a4) (Q_rb aa rfl (Q_pu (P_fa fa61_0 (an.add ((v2 - 1).toNat * 4)) ((an.add ((v2 - 1).toNat * 4)).add 0) rfl rfl) (Q_rb aa rfl (Q_pu (P_ld ag9 cQ ((an.add ((v2 - 1).toNat * 4)).add 0) (vs ((nth s (v2 - 1)).Id)) rfl (bt 0 _ rfl)) (Q_rb aa rfl (Q_pu (P_fa fa61_0 ⟨aj, 0, none⟩ ⟨aj, 0, none⟩ rfl rfl) (Q_rb aa rfl (Q_pu (P_ld ag9 cQ ⟨aj, 0, none⟩ (vs ((nth s v2).Id)) rfl (a3.cell rfl)) ?_))))))))
   refine Q_rb aa rfl (Q_pu (P_scmp ((nth s (v2 - 1)).Id) ((nth s v2).Id) (!(Op.bytesLess ((nth s (v2 - 1)).Id) ((nth s v2).Id))) rfl rfl rfl) (Q_rb ab rfl (Q_pu (P_pick true (vb (!(Op.bytesLess ((nth s (v2 - 1)).Id) ((nth s v2).Id)))) (by exact congrArg Value.bool aa) rfl) (Q_pu (P_pick false (vb (!(Op.bytesLess ((nth s (v2 - 1)).Id) ((nth s v2).Id)))) (by exact congrArg Value.bool ab) rfl) (Q_nil fun cq a5 => ?_)))))
   have av := ak.k0 a5
   refine W_cond (!(Op.bytesLess ((nth s (v2 - 1)).Id) ((nth s v2).Id))) rfl (fun aw => ?_) (fun aw => ?_)
   ·have H := ite_t H aw
    refine W_seq (W_reg (L_as (vb false) rfl (L_nil (W_ret ?_))))
    have bu := av.drop 0 rfl
    exact ⟨[vb false], ⟨_, rfl, rfl⟩, false, rfl, H, bu.gr.g0⟩
   have H := ite_f H aw
   refine W_skip (W_reg ?_)
   obtain ⟨bv, H⟩ := H
   refine L_pu (P_add v2 1 rfl rfl bv) (L_mv (vi (v2 + 1)) rfl (L_nil ?_))
   have bw := av.drop 0 rfl
   obtain ⟨bx, bz⟩ := H
   have b0 := ak.stn a5
   have b1 := av.std 0 rfl
   have b2 := ((au.st b0).st b1)
   exact ⟨v2 + 1, bz, bx, (hasI rfl), bw, b2⟩
  have H := ite_f H aa
  refine Q_pb aa rfl (Q_pb aa rfl (Q_pb aa rfl (Q_pb aa rfl (Q_pb aa rfl (Q_pb aa rfl (Q_pb aa rfl (Q_pb aa rfl (Q_pb aa rfl ?_))))))))
  refine Q_rb ab rfl (Q_pu (P_pick false (vb false) (by exact congrArg Value.bool aa) rfl) (Q_pu (P_pick false (vb false) (by exact congrArg Value.bool ab) rfl) (Q_nil fun cr a6 => ?_)))
  have a7 := ak.k0 a6
  refine W_cf (b := false) rfl rfl ?_
  refine W_skip (W_reg ?_)
  obtain ⟨b3, H⟩ := H
  refine L_pu (P_add v2 1 rfl rfl b3) (L_mv (vi (v2 + 1)) rfl (L_nil ?_))
  have b4 := a7.drop 0 rfl
  obtain ⟨b5, b6⟩ := H
  have b7 := ak.stn a6
  have b8 := a7.std 0 rfl
  have b9 := ((((ac.st al).st am).st b7).st b8)
  exact ⟨v2 + 1, b6, b5, (hasI rfl), b4, b9⟩
 have H := ite_f H ar
 refine W_exit (xin_hit ?_)
 refine W_seq (W_reg (L_mv (.slice A1 n2 c3) rfl ?_))
 have cs := ac.le
 exact L_pu (P_len Tryz.underlying26 A1 n2 c3 ac.len rfl) (L_pu (P_cmp (s.length : Int) 8 (decide ((s.length : Int) ≤ 8)) rfl rfl rfl) (L_as (vb (decide ((s.length : Int) ≤ 8))) rfl (L_nil (W_ret ⟨[vb (decide ((s.length : Int) ≤ 8))], ⟨_, rfl, rfl⟩, decide ((s.length : Int) ≤ 8), rfl, H, aq.gr.g0⟩))))
end
end Go.Proofs.YtndjggncgpjolaaGreat
namespace Go.Proofs
open Go.Shelf
def Tryz.lays190_ren : Go.Shelf.Ren := ⟨fun | 190 => 79 | 125 => 74 | 258 => 116 | 128 => 110 | 129 => 111 | 302 => 134 | 303 => 135 | 304 => 136 | 305 => 137 | 306 => 138 | 307 => 139 | 308 => 140 | 309 => 141 | 310 => 142 | 333 => 151 | 329 => 126 | 330 => 127 | 334 => 152 | 335 => 153 | 336 => 154 | 344 => 158 | n => n, fun | 31 => 81 | 9 => 9 | 3 => 3 | 46 => 111 | 0 => 0 | 51 => 150 | 53 => 152 | 4 => 4 | 183 => 143 | 182 => 142 | 131 => 147 | 5 => 5 | 218 => 166 | 222 => 170 | 228 => 191 | 229 => 192 | n => n, fun | n => n⟩
theorem Tryz.lays190 : Go.Proofs.Lays.n190 Tryz.prog Tryz.lays190_ren := {
  mixed := by kernel_rfl
  f125 := Tryz.func74.trans (congrArg some (by kernel_rfl))
  f128 := Tryz.func110.trans (congrArg some (by kernel_rfl))
  f129 := Tryz.func111.trans (congrArg some (by kernel_rfl))
  f190 := Tryz.func79.trans (congrArg some (by kernel_rfl))
  f258 := Tryz.func116.trans (congrArg some (by kernel_rfl))
  f302 := Tryz.func134.trans (congrArg some (by kernel_rfl))
  f303 := Tryz.func135.trans (congrArg some (by kernel_rfl))
  f304 := Tryz.func136.trans (congrArg some (by kernel_rfl))
  f305 := Tryz.func137.trans (congrArg some (by kernel_rfl))
  f306 := Tryz.func138.trans (congrArg some (by kernel_rfl))
  f307 := Tryz.func139.trans (congrArg some (by kernel_rfl))
  f308 := Tryz.func140.trans (congrArg some (by kernel_rfl))
  f309 := Tryz.func141.trans (congrArg some (by kernel_rfl))
  f310 := Tryz.func142.trans (congrArg some (by kernel_rfl))
  f329 := Tryz.func126.trans (congrArg some (by kernel_rfl))
  f330 := Tryz.func127.trans (congrArg some (by kernel_rfl))
  f333 := Tryz.func151.trans (congrArg some (by kernel_rfl))
  f334 := Tryz.func152.trans (congrArg some (by kernel_rfl))
  f335 := Tryz.func153.trans (congrArg some (by kernel_rfl))
  f336 := Tryz.func154.trans (congrArg some (by kernel_rfl))
  f344 := Tryz.func158.trans (congrArg some (by kernel_rfl))
  t0 := Tryz.underlying0
  a0 := Tryz.isAgg0
  z0 := Tryz.sizeOf0
  v0 := Tryz.zeroValue0
  t3 := Tryz.underlying3
  a3 := Tryz.isAgg3
  z3 := Tryz.sizeOf3
  v3 := Tryz.zeroValue3
  t4 := Tryz.underlying4
  a4 := Tryz.isAgg4
  z4 := Tryz.sizeOf4
  v4 := Tryz.zeroValue4
  t5 := Tryz.underlying5
  a5 := Tryz.isAgg5
  z5 := Tryz.sizeOf5
  v5 := Tryz.zeroValue5
  t9 := Tryz.underlying9
  a9 := Tryz.isAgg9
  z9 := Tryz.sizeOf9
  v9 := Tryz.zeroValue9
  t31 := Tryz.underlying81
  a31 := Tryz.isAgg81
  z31 := Tryz.sizeOf81
  v31 := Tryz.zeroValue81
  t46 := Tryz.underlying111
  a46 := Tryz.isAgg111
  z46 := Tryz.sizeOf111
  v46 := Tryz.zeroValue111
  t51 := Tryz.underlying150
  a51 := Tryz.isAgg150
  z51 := Tryz.sizeOf150
  v51 := Tryz.zeroValue150
  t53 := Tryz.underlying152
  a53 := Tryz.isAgg152
  z53 := Tryz.sizeOf152
  v53 := Tryz.zeroValue152
  t131 := Tryz.underlying147
  a131 := Tryz.isAgg147
  z131 := Tryz.sizeOf147
  v131 := Tryz.zeroValue147
  t182 := Tryz.underlying142
  a182 := Tryz.isAgg142
  z182 := Tryz.sizeOf142
  v182 := Tryz.zeroValue142
  t183 := Tryz.underlying143
  a183 := Tryz.isAgg143
  z183 := Tryz.sizeOf143
  v183 := Tryz.zeroValue143
  t218 := Tryz.underlying166
  a218 := Tryz.isAgg166
  z218 := Tryz.sizeOf166
  v218 := Tryz.zeroValue166
  t222 := Tryz.underlying170
  a222 := Tryz.isAgg170
  z222 := Tryz.sizeOf170
  v222 := Tryz.zeroValue170
  t228 := Tryz.underlying191
  a228 := Tryz.isAgg191
  z228 := Tryz.sizeOf191
  v228 := Tryz.zeroValue191
  t229 := Tryz.underlying192
  a229 := Tryz.isAgg192
  z229 := Tryz.sizeOf192
  v229 := Tryz.zeroValue192 }
open Go.Sort Go.RowKit in
theorem Tryz.slices_Sort_string (blk off cap : Nat) (ss : List (List UInt8)) (w : World) (hH : Holds encStr w blk off ss.toArray) (hblk : blk < w.heap.size) (hsz : ss.length < 4611686018427387904) :
    Calls Tryz.prog 79 #[.slice (some ⟨blk, off, none⟩) ss.length cap] w fun e w' =>
      e = .returned (.tuple #[]) ∧ ∃ n os, w' = grow (putRow encStr (Sort.ahead w n) blk off (ss.mergeSort fun x y => decide (x ≤ y)).toArray) os := Any.slices_Sort_string Tryz.lays190 blk off cap ss w hH hblk hsz
def Tryz.lays194_ren : Go.Shelf.Ren := ⟨fun | 194 => 80 | n => n, fun | 31 => 81 | 9 => 9 | 3 => 3 | 4 => 4 | 0 => 0 | n => n, fun | n => n⟩
theorem Tryz.lays194 : Go.Proofs.Lays.n194 Tryz.prog Tryz.lays194_ren := {
  mixed := by kernel_rfl
  f194 := Tryz.func80.trans (congrArg some (by kernel_rfl))
  t0 := Tryz.underlying0
  a0 := Tryz.isAgg0
  z0 := Tryz.sizeOf0
  v0 := Tryz.zeroValue0
  t3 := Tryz.underlying3
  a3 := Tryz.isAgg3
  z3 := Tryz.sizeOf3
  v3 := Tryz.zeroValue3
  t4 := Tryz.underlying4
  a4 := Tryz.isAgg4
  z4 := Tryz.sizeOf4
  v4 := Tryz.zeroValue4
  t9 := Tryz.underlying9
  a9 := Tryz.isAgg9
  z9 := Tryz.sizeOf9
  v9 := Tryz.zeroValue9
  t31 := Tryz.underlying81
  a31 := Tryz.isAgg81
  z31 := Tryz.sizeOf81
  v31 := Tryz.zeroValue81 }
open Go.RowKit Go.Lib Go.Sort in
open Go.RowKit Go.Lib Go.Sort in
theorem Tryz.slices_Compact_string (blk off cap : Nat) (zs : List (List UInt8)) (w : World) (hH : Holds encStr w blk off zs.toArray) (hsz : zs.length ≤ 9223372036854775807) (hcap : zs.length ≤ cap) :
    Calls Tryz.prog 80 #[.slice (some ⟨blk, off, none⟩) zs.length cap] w fun e w' => e = .returned (.slice (some ⟨blk, off, none⟩) (Lib.compact zs).length cap) ∧ ∃ q, w' = putRow encStr (Sort.ahead w q) blk off (Lib.compact zs ++ List.replicate (zs.length - (Lib.compact zs).length) []).toArray := Any.slices_Compact_string Tryz.lays194 blk off cap zs w hH hsz hcap
open Go.RowKit Go.Lib Go.Sort in
theorem Tryz.slices_Compact_string_empty (a : Option Addr) (cap : Nat) (w : World) :
    Calls Tryz.prog 80 #[.slice a 0 cap] w fun e w' => e = .returned (.slice a 0 cap) ∧ w' = w := Any.slices_Compact_string_empty Tryz.lays194 a cap w
open Go.RowKit Go.Lib Go.Sort in
open Go.RowKit Go.Sort in
theorem Tryz.slices_Sort_string_none (p : Option Addr) (cap : Nat) (w : World) :
    Calls Tryz.prog 79 #[.slice p 0 cap] w fun e w' => e = .returned (.tuple #[]) ∧ w' = w := Any.slices_Sort_string_none Tryz.lays190 p cap w
end Go.Proofs
namespace Go.Proofs.YtndjggncgpjolaaGreat
set_option linter.unusedVariables false
set_option linter.unusedSimpArgs false
set_option linter.unusedSectionVars false
set_option maxHeartbeats 8000000
set_option maxRecDepth 100000
section
open Go.RowKit Go.Shelf Go.Sort Go.Lib
theorem strs_arr {w : World} {S : Sp} : ∀ {xs : List Str} {cs : List Value}, Arr Kd.str w S xs cs → cs = xs.map vs ∧ ∀ x ∈ xs, Lim x
  | [], _, h => ⟨h, fun x hx => by cases hx⟩
  | x :: xs, _, ⟨c1, c2, e, h1, h2⟩ => by
    obtain ⟨e2, h3⟩ := strs_arr h2
    refine ⟨by rw [e, h1.1, e2]; rfl, fun y hy => ?_⟩
    rcases List.mem_cons.1 hy with rfl | hy
    · exact h1.2
    · exact h3 y hy
theorem arr_strs {w : World} {S : Sp} : ∀ {xs : List Str}, (∀ x ∈ xs, Lim x) → Arr Kd.str w S xs (xs.map vs)
  | [], _ => rfl
  | x :: xs, h => ⟨[vs x], xs.map vs, rfl, ⟨rfl, h x List.mem_cons_self⟩, arr_strs fun y hy => h y (List.mem_cons_of_mem _ hy)⟩
theorem heap_put (w : World) (q g : Nat) (ys : List Str) (os : Array Obj) (b : Nat) (hb : b < w.heap.size) (hne : b ≠ g) : (grow (putRow encStr (Sort.ahead w q) g 0 ys.toArray) os).heap[b]? = w.heap[b]? := by
  have h1 : (w.heap.modify g (onCells (putCells encStr 0 ys.toArray))).size = w.heap.size := Array.size_modify
  simp only [grow, putRow, mapBlock, Sort.ahead]
  rw [Array.getElem?_append_left (by rw [h1]; exact hb), Array.getElem?_modify, if_neg (fun e => hne e.symm)]
theorem Ow.putS {e : TypeId} {w : World} {O : Ob} {g n c : Nat} {xs : List Str} (h : Ow Kd.str e w O (.slice (some ⟨g, 0, none⟩) n c) xs) (ys : List Str) (hl : ys.length = xs.length) (hy : ∀ y ∈ ys, Lim y) (q : Nat) (os : Array Obj) (hx : 0 < xs.length) :
    Gr w (grow (putRow encStr (Sort.ahead w q) g 0 ys.toArray) os) (some g) ∧ Ow Kd.str e (grow (putRow encStr (Sort.ahead w q) g 0 ys.toArray) os) O (.slice (some ⟨g, 0, none⟩) n c) ys := by
  have hgl := h.ltb g rfl
  have h1 : (w.heap.modify g (onCells (putCells encStr 0 ys.toArray))).size = w.heap.size := Array.size_modify
  refine ⟨⟨rfl, rfl, rfl, ?_, fun b hb hn => heap_put w q g ys os b hb fun e => hn (by rw [e])⟩, ?_⟩
  · simp only [grow, putRow, mapBlock, Sort.ahead, Array.size_append, h1]; omega
  obtain ⟨cells, o1, o2, o3⟩ := h
  rcases o1.2 with ⟨_, e'⟩ | ⟨g', cap, cur, ev, h0, hg, hle, hmx, hcur, htake⟩
  · omega
  · cases ev
    have hk : Kd.str.sz = 1 := rfl
    refine ⟨ys.map vs, ⟨by rw [List.length_map, hk, Nat.mul_one], .inr ⟨g, c, putCells encStr 0 ys.toArray cur, by rw [hl], h0, ?_, by rw [hl]; exact hle, hmx, ?_, ?_⟩⟩, arr_strs hy, o3⟩
    · simp only [grow, putRow, mapBlock, Sort.ahead]
      rw [Array.getElem?_append_left (by rw [h1]; exact hgl), Array.getElem?_modify, if_pos rfl, hg]; rfl
    · rw [putCells, Array.size_mapIdx]; exact hcur
    · rw [hk, Nat.mul_one]
      have hc1 : xs.length ≤ cur.size := by rw [hcur, hk, Nat.mul_one]; exact hle
      apply List.ext_getElem?
      intro j
      rw [List.getElem?_take, List.getElem?_map]
      by_cases hj : j < ys.length
      · rw [if_pos hj, putCells, Array.getElem?_toList, Array.getElem?_mapIdx, Array.getElem?_eq_getElem (by omega), List.getElem?_eq_getElem hj]
        simp only [Option.map_some, Nat.zero_le, true_and, Nat.zero_add, List.size_toArray, hj, if_true, Nat.sub_zero]
        simp [hj]
      · rw [if_neg hj, List.getElem?_eq_none (by omega)]; rfl
theorem Ow.holds {e : TypeId} {w : World} {O : Ob} {g n c : Nat} {xs : List Str} (h : Ow Kd.str e w O (.slice (some ⟨g, 0, none⟩) n c) xs) : Holds encStr w g 0 xs.toArray := by
  obtain ⟨cells, o1, o2, o3⟩ := h
  obtain ⟨e2, _⟩ := strs_arr o2
  intro j hj
  simp only [List.size_toArray] at hj
  rcases o1.2 with ⟨_, e'⟩ | ⟨g', cap, cur, ev, h0, hg, hle, hmx, hcur, htake⟩
  · omega
  · cases ev
    have hc := World.ownsRow.cells o1 (g := g) rfl j (vs xs[j]) (by rw [e2]; simp [hj])
    have ha : (⟨g, 0, none⟩ : Addr).add j = ⟨g, 0 + j, none⟩ := by unfold Addr.add; split <;> simp_all
    rw [ha] at hc
    refine ⟨by rw [hc]; simp [hj], ?_⟩
    simp [World.frozen?, hg]
def sortS (xs : List Str) : List Str := xs.mergeSort fun x y => decide (x ≤ y)
theorem Ow.form {e : TypeId} {w : World} {O : Ob} {A : Option Addr} {n c : Nat} {xs : List Str} (h : Ow Kd.str e w O (.slice A n c) xs) (hx : 0 < xs.length) : ∃ g, A = some ⟨g, 0, none⟩ ∧ n = xs.length ∧ xs.length ≤ c ∧ g < w.heap.size := by
  obtain ⟨cells, o1, o2, o3⟩ := h
  rcases o1.2 with ⟨_, e'⟩ | ⟨g', cap, cur, ev, h0, hg, hle, hmx, hcur, htake⟩
  · omega
  · cases ev; exact ⟨g', rfl, rfl, hle, (Array.getElem?_eq_some_iff.1 hg).1⟩
theorem Ow.lims {e : TypeId} {w : World} {O : Ob} {v : Value} {xs : List Str} (h : Ow Kd.str e w O v xs) : ∀ x ∈ xs, Lim x := by
  obtain ⟨cells, o1, o2, o3⟩ := h
  exact (strs_arr o2).2
end
section
open Go.RowKit
open Go.Shelf Go.Sort Go.Lib
def F7.E (x : List Str) (Q : List Str → Prop) : Prop := x.length ≤ 268435456 ∧ Q (sortS x)
theorem F7.calls {O : Ob} (w0 : World) (hO : Ok w0 O) (A : Option Addr) (n c : Nat) (x : List Str) (hp : Ow Kd.str 9 w0 O (.slice A n c) x) (Q : List Str → Prop) (h : F7.E x Q) :
  Ret Tryz.prog 79 [.slice A n c] w0 (fun v w' => ∃ (m0 : List Str), v = .tuple #[] ∧ Q m0 ∧ Gr w0 w' (blk (.slice A n c)) ∧ Ow Kd.str 9 w' O (.slice A n c) m0) := by
 obtain ⟨hl, hq⟩ := h
 by_cases hx : 0 < x.length
 ·obtain ⟨g, rfl, rfl, hc, hg⟩ := hp.form hx
  refine Calls.mono (Tryz.slices_Sort_string g 0 c x w0 hp.holds hg (by omega)) fun e w' ⟨he, q, os, hw⟩ => ?_
  subst he; subst hw
  have hs : (sortS x).length = x.length := List.length_mergeSort _
  obtain ⟨h1, h2⟩ := hp.putS (sortS x) hs (fun y hy => hp.lims y (List.mem_mergeSort.1 hy)) q os hx
  exact ⟨_, rfl, sortS x, rfl, hq, h1, h2⟩
 ·have e0 : x = [] := List.length_eq_zero_iff.1 (by omega)
  subst e0
  obtain rfl : n = 0 := hp.len
  refine Calls.mono (Tryz.slices_Sort_string_none A c w0) fun e w' ⟨he, hw⟩ => ?_
  subst he; subst hw
  exact ⟨_, rfl, [], rfl, (by simpa [sortS] using hq), Gr.refl _ _, hp⟩
end
section
open Go.RowKit
open Go.Shelf Go.Sort Go.Lib
def F5.E (x : List Str) (Q : List Str → Prop) : Prop := x.length ≤ 268435456 ∧ Q (Lib.compact x)
theorem compact_le (x : List Str) : (Lib.compact x).length ≤ x.length := by
 unfold Lib.compact Lib.compactUpTo
 rw [List.length_map]
 exact Nat.le_trans (List.length_filter_le _ _) (by rw [List.length_range]; exact Nat.le_refl _)
theorem compact_mem {x : List Str} {y : Str} (h : y ∈ Lib.compact x) : y ∈ x := by
 unfold Lib.compact Lib.compactUpTo at h
 obtain ⟨j, hj, rfl⟩ := List.mem_map.1 h
 have hl : j < x.length := List.mem_range.1 (List.mem_filter.1 hj).1
 simp [hl]
theorem F5.calls {O : Ob} (w0 : World) (hO : Ok w0 O) (A : Option Addr) (n c : Nat) (x : List Str) (hp : Ow Kd.str 9 w0 O (.slice A n c) x) (Q : List Str → Prop) (h : F5.E x Q) :
  Ret Tryz.prog 80 [.slice A n c] w0 (fun v w' => ∃ (m0 : List Str) (l : Nat), v = .slice A l c ∧ Q m0 ∧ Gr w0 w' (blk (.slice A n c)) ∧ Ow Kd.str 9 w' O (.slice A l c) m0) := by
 obtain ⟨hl, hq⟩ := h
 by_cases hx : 0 < x.length
 ·obtain ⟨g, rfl, rfl, hc, hg⟩ := hp.form hx
  refine Calls.mono (Tryz.slices_Compact_string g 0 c x w0 hp.holds (by omega) hc) fun e w' ⟨he, q, hw⟩ => ?_
  have hcl := compact_le x
  rw [← grow_empty (putRow encStr (Sort.ahead w0 q) g 0 _)] at hw
  subst he; subst hw
  obtain ⟨h1, h2⟩ := hp.putS (Lib.compact x ++ List.replicate (x.length - (Lib.compact x).length) []) (by rw [List.length_append, List.length_replicate]; omega) (fun y hy => by
   rcases List.mem_append.1 hy with hy | hy
   ·exact hp.lims y (compact_mem hy)
   ·rw [List.eq_of_mem_replicate hy]; decide) q #[] hx
  have h3 := h2.cut (Lib.compact x).length (by rw [List.length_append]; omega)
  rw [List.take_left'] at h3
  ·exact ⟨_, rfl, Lib.compact x, _, rfl, hq, h1, h3⟩
  ·rfl
 ·have e0 : x = [] := List.length_eq_zero_iff.1 (by omega)
  subst e0
  obtain rfl : n = 0 := hp.len
  refine Calls.mono (Tryz.slices_Compact_string_empty A c w0) fun e w' ⟨he, hw⟩ => ?_
  subst he; subst hw
  exact ⟨_, rfl, [], _, rfl, hq, Gr.refl _ _, hp⟩
end
section
open Go.RowKit
def F119.E (maps : List (List Feat)) (Q : List Str → Prop) : Prop :=
 (∃ (I40 : (List Str) → Int → Prop) (mu41 : (List Str) → Int → Nat), I40 ([] : List Str) 0 ∧ ∀ (xs2 : List Str) (v2 : Int), I40 xs2 v2 → (if decide (v2 < (maps.length : Int)) then ((0 : Int) ≤ v2 ∧ v2 < (maps.length : Int)) ∧ (∃ (I90 : (List Str) → Int → Prop) (mu91 : (List Str) → Int → Nat), I90 xs2 0 ∧ ∀ (xs4 : List Str) (v4 : Int), I90 xs4 v4 → (if decide (v4 < ((nth maps v2).length : Int)) then ((0 : Int) ≤ v4 ∧ v4 < ((nth maps v2).length : Int)) ∧ (xs4.length + ([(nth (nth maps v2) v4).Id] : List Str).length ≤ 268435456) ∧ (I64 (v4 + 1)) ∧ I90 (xs4 ++ ([(nth (nth maps v2) v4).Id] : List Str)) (v4 + 1) ∧ mu91 (xs4 ++ ([(nth (nth maps v2) v4).Id] : List Str)) (v4 + 1) < mu91 xs4 v4 else (I64 (v2 + 1)) ∧ I40 xs4 (v2 + 1) ∧ mu41 xs4 (v2 + 1) < mu41 xs2 v2)) else F7.E xs2 (fun m => F5.E m (fun r => Q r))))
theorem F119.calls {O : Ob} (w0 : World) (hO : Ok w0 O) (maps : List (List Feat)) (A1 : Option Addr) (n2 c3 : Nat) (hp4 : Sl (Kd.sl kFeat) w0 (Fr O) (.slice A1 n2 c3) maps) (Q : List Str → Prop) (h : F119.E maps Q) :
  Ret Tryz.prog 49 [.slice A1 n2 c3] w0 (fun v w' => ∃ (r0 : List Str) (A0 : Option Addr) (n0 c0 : Nat), v = .slice A0 n0 c0 ∧ Q r0 ∧ Gr w0 w' none ∧ Ok w' ([bk A0] ++ O) ∧ (∀ b, some b ∈ [bk A0] → w0.heap.size ≤ b) ∧ Ow Kd.str 9 w' ([bk A0] ++ O) (.slice A0 n0 c0) r0) := by
 unfold F119.E at h
 have H := h
 clear h
 have hc0 := Ct.init hO
 refine Ret_enter Tryz.func49 rfl 32 rfl [.tmp 2] rfl rfl ?_
 refine W_seq (W_reg (L_as (.slice none 0 0) rfl (L_nil (W_seq (W_reg (L_lit (kd := Kd.str) ei81 hc0 ([] : List Str) (cells := []) rfl (fun _ => by kernel_rfl) fun w6 A7 n8 c9 c1 hr11 am bw => ?_))))))
 refine L_as (.slice A7 n8 c9) rfl (L_nil (W_seq (W_seq (W_reg (L_mv (.slice A1 n2 c3) rfl ?_)))))
 have c2 := (hp4.st am.st).le
 refine L_pu (P_len Tryz.underlying118 A1 n2 c3 (hp4.st am.st).len rfl) (L_mv (vi 0) rfl (L_nil (W_block ?_)))
 obtain ⟨bx, bz, an, H⟩ := H
 refine W_loop (α := (List Str) × (Option Addr) × Nat × Nat × Int) (fun (sv__ : (List Str) × (Option Addr) × Nat × Nat × Int) t aj => match sv__ with | (xs2, aa, ac, ab, v2) => bx xs2 v2 ∧ Has t [(3, .slice aa ac ab), (9, .slice A1 n2 c3), (10, vi (maps.length : Int)), (11, vi v2)] ∧ Ct [] w0 aj [bk aa] O ∧ Sl (Kd.sl kFeat) aj (Fr ([bk aa] ++ O)) (.slice A1 n2 c3) maps ∧ Ow Kd.str 9 aj ([bk aa] ++ O) (.slice aa ac ab) xs2) (fun (sv__ : (List Str) × (Option Addr) × Nat × Nat × Int) => match sv__ with | (xs2, _, _, _, v2) => bz xs2 v2) (([] : List Str), A7, n8, c9, 0) ⟨an, (hasI rfl), am, (hp4.st am.st), bw⟩ ?_
 rintro ⟨xs2, aa, ac, ab, v2⟩ _ aj ⟨an, b0, ao, ap, bc⟩
 obtain ⟨c4, rfl⟩ := Has.ins b0
 have H := H xs2 v2 an
 refine W_seq (W_reg (L_pu (P_cmp v2 (maps.length : Int) (decide (v2 < (maps.length : Int))) rfl rfl rfl) (L_nil (W_seq ?_))))
 refine W_cond (decide (v2 < (maps.length : Int))) rfl (fun aq => ?_) (fun aq => ?_)
 ·have H := ite_t H aq
  refine W_skip (W_seq (W_block (W_seq (W_reg ?_))))
  obtain ⟨bd, H⟩ := H
  obtain ⟨be, c5, b1, c6, b2, b3⟩ := ap.get default (by decide) v2 bd
  obtain ⟨ae, af, ag, rfl, ar⟩ := Kd.sl.op b2
  refine L_pu (P_ia Tryz.underlying118 se118 A1 be n2 c3 ap.len v2 rfl b1 rfl bd) (L_pu (P_ld ag26 cL (be.add (v2.toNat * 1)) (.slice ae af ag) rfl (b3 0 _ rfl)) (L_as (.slice ae af ag) rfl (L_nil (W_seq (W_reg (L_mv (.slice ae af ag) rfl ?_))))))
  have c7 := ar.le
  refine L_pu (P_len Tryz.underlying26 ae af ag ar.len rfl) (L_mv (vi 0) rfl (L_nil (W_block ?_)))
  obtain ⟨b4, b5, au, H⟩ := H
  refine W_loop (α := (List Str) × (Option Addr) × Nat × Nat × Int) (fun (sv__ : (List Str) × (Option Addr) × Nat × Nat × Int) t ak => match sv__ with | (xs4, ad, ah, ai, v4) => b4 xs4 v4 ∧ Has t [(3, .slice ad ah ai), (9, .slice A1 n2 c3), (10, vi (maps.length : Int)), (11, vi v2), (15, .slice ae af ag), (16, vi ((nth maps v2).length : Int)), (17, vi v4)] ∧ Ct [] w0 ak [bk ad] O ∧ Sl (Kd.sl kFeat) ak (Fr ([bk ad] ++ O)) (.slice A1 n2 c3) maps ∧ Sl kFeat ak (Fr ([bk ad] ++ O)) (.slice ae af ag) (nth maps v2) ∧ Ow Kd.str 9 ak ([bk ad] ++ O) (.slice ad ah ai) xs4) (fun (sv__ : (List Str) × (Option Addr) × Nat × Nat × Int) => match sv__ with | (xs4, _, _, _, v4) => b5 xs4 v4) (xs2, aa, ac, ab, 0) ⟨au, (hasI rfl), ao, ap, ar, bc⟩ ?_
  rintro ⟨xs4, ad, ah, ai, v4⟩ _ ak ⟨au, b6, av, bf, aw, bg⟩
  obtain ⟨c8, rfl⟩ := Has.ins b6
  have H := H xs4 v4 au
  refine W_seq (W_reg (L_pu (P_cmp v4 ((nth maps v2).length : Int) (decide (v4 < ((nth maps v2).length : Int))) rfl rfl rfl) (L_nil (W_seq ?_))))
  refine W_cond (decide (v4 < ((nth maps v2).length : Int))) rfl (fun ax => ?_) (fun ax => ?_)
  ·have H := ite_t H ax
   refine W_skip (W_seq (W_block (W_seq (W_reg ?_))))
   obtain ⟨bh, H⟩ := H
   obtain ⟨bi, da, b7, db, b8, b9⟩ := aw.get default (by decide) v4 bh
   obtain ⟨ay, az, a0, a1, a2, a3, rfl, ca, dc, dd⟩ := kFeat.op b8
   refine L_pu (P_ia Tryz.underlying26 se26 ae bi af ag aw.len v4 rfl b7 rfl bh) (L_pu (P_lda ag61 sz61 cL (bi.add (v4.toNat * 4)) [vs ((nth (nth maps v2) v4).Id), vi ((nth (nth maps v2) v4).Shape.Kind), .slice ay az a0, .slice a1 a2 a3] rfl rfl b9) (L_alloc [vs [], .int .i64 0, .slice none 0 0, .slice none 0 0] ze61 fun de al a4 hu119 a5 cb => ?_))
   have a6 := av.own a5 (some al) (oglt a4 hu119)
   refine L_stb al 0 [vs ([] : Str), vi 0, .slice none 0 0, .slice none 0 0] [vs ((nth (nth maps v2) v4).Id), vi ((nth (nth maps v2) v4).Shape.Kind), .slice ay az a0, .slice a1 a2 a3] [vs ((nth (nth maps v2) v4).Id), vi ((nth (nth maps v2) v4).Shape.Kind), .slice ay az a0, .slice a1 a2 a3] rfl cb rfl sz61 rfl rfl rfl fun df a7 cc => ?_
   have bj := a6.wr 0 rfl a7
   refine L_nil (W_reg (L_mv (.slice ad ah ai) rfl (L_pu (P_fa fa61_0 ⟨al, 0, none⟩ ⟨al, 0, none⟩ rfl rfl) (L_pu (P_ld ag9 cL ⟨al, 0, none⟩ (vs ((nth (nth maps v2) v4).Id)) rfl (cc.cell rfl)) (L_lit (kd := Kd.str) ei81 bj ([(nth (nth maps v2) v4).Id] : List Str) (cells := [vs ((nth (nth maps v2) v4).Id)]) ⟨[vs ((nth (nth maps v2) v4).Id)], _, rfl, ⟨rfl, ca⟩, rfl⟩ (fun _ => by kernel_rfl) fun dg cd ce cf bl hr132 cg ch => ?_)))))
   obtain ⟨ci, H⟩ := H
   have cj := ((a6.sw (bg.so _ a5 (oge a4)) 1 0 rfl rfl rfl a7).so _ bl hr132)
   refine L_app ei81 cg (.slice ad ah ai) xs4 ([(nth (nth maps v2) v4).Id] : List Str) rfl cj (.slice cd ce cf) rfl ch.sx 2 rfl ci fun dh bm bn bo di bp a8 ck => ?_
   refine L_as (.slice bm bn bo) rfl (L_nil (W_reg ?_))
   obtain ⟨cl, H⟩ := H
   refine L_pu (P_add v4 1 rfl rfl cl) (L_mv (vi (v4 + 1)) rfl (L_nil ?_))
   have a9 := a8.drop 0 rfl
   have cm := a9.drop 0 rfl
   obtain ⟨cn, co⟩ := H
   have bq := av.stown _ a5 (oge a4)
   have br := a6.stw 0 rfl a7
   have bs := bj.stown _ bl hr132
   have bt := a8.std 0 rfl
   have bu := a9.std 0 rfl
   have cp := ((((((bf.st bq).st br).st bs).st bp).st bt).st bu)
   have cq := ((((((aw.st bq).st br).st bs).st bp).st bt).st bu)
   have cr := (a9.sd (a8.sd ck 2 0 rfl rfl rfl) 1 0 rfl rfl rfl)
   exact ⟨((xs4 ++ ([(nth (nth maps v2) v4).Id] : List Str)), bm, bn, bo, v4 + 1), co, cn, (hasI rfl), cm, cp, cq, cr⟩
  have H := ite_f H ax
  refine W_exit (xin_hit ?_)
  refine W_reg ?_
  obtain ⟨cs, H⟩ := H
  refine L_pu (P_add v2 1 rfl rfl cs) (L_mv (vi (v2 + 1)) rfl (L_nil ?_))
  obtain ⟨ct, cu⟩ := H
  exact ⟨(xs4, ad, ah, ai, v2 + 1), cu, ct, (hasI rfl), av, bf, bg⟩
 have H := ite_f H aq
 refine W_exit (xin_hit ?_)
 refine W_seq (W_reg (L_mv (.slice aa ac ab) rfl ?_))
 refine L_call go79 [.slice aa ac ab] rfl ((F7.calls aj ao.ok aa ac ab xs2 bc _ H).mono ?_)
 rintro _ cv ⟨m, rfl, H, cw, cx⟩
 have bv := ao.wr 0 rfl cw
 refine L_nil (W_seq (W_reg (L_mv (.slice aa ac ab) rfl ?_)))
 refine L_call go80 [.slice aa ac ab] rfl ((F5.calls cv bv.ok aa ac ab m cx _ H).mono ?_)
 rintro _ dj ⟨r, ba, rfl, H, cy, cz⟩
 have bb := bv.wr 0 rfl cy
 exact L_as (.slice aa ba ab) rfl (L_nil (W_ret ⟨[.slice aa ba ab], ⟨_, rfl, rfl⟩, r, aa, ba, ab, rfl, H, bb.gr.g0, bb.ok, bb.ge, cz⟩))
end
section
open Go.RowKit
def F38.E (f : Feat) (fv2 : Str) (Q : Bool → Prop) : Prop :=
 Q (f.Id == fv2)
theorem F38.calls {O : Ob} (w0 : World) (hO : Ok w0 O) (f : Feat) (A2 : Option Addr) (n3 c4 : Nat) (A7 : Option Addr) (n8 c9 : Nat) (hs1 : Lim f.Id) (hp5 : Sl kPt w0 (Fr O) (.slice A2 n3 c4) f.Shape.Pts) (ah : Sl kTag w0 (Fr O) (.slice A7 n8 c9) f.Tags) (b : Nat) (fv2 : Str) (ai : Lim fv2) (hp1 : Fb w0 O b [vs fv2]) (Q : Bool → Prop) (h : F38.E f fv2 Q) :
  Ret Tryz.prog 71 [.agg #[vs f.Id, vi f.Shape.Kind, .slice A2 n3 c4, .slice A7 n8 c9], .pointer (some ⟨b, 0, none⟩)] w0 (fun v w' => ∃ (r0 : Bool), v = vb r0 ∧ Q r0 ∧ Gr w0 w' none) := by
 unfold F38.E at h
 have H := h
 clear h
 have hc0 := Ct.init hO
 refine Ret_enter Tryz.func71 rfl 8 rfl [.tmp 3] rfl rfl ?_
 refine W_seq (W_reg (L_box [vs f.Id, vi f.Shape.Kind, .slice A2 n3 c4, .slice A7 n8 c9] rfl fun aj aa ac hu18 ad ae => ?_))
 have af := Fb.mk hc0.ok ac ae
 have ab := hc0.k0 ad
 refine L_as (vb false) rfl (L_nil (W_seq (W_reg (L_pu (P_fa fa61_0 ⟨aa, 0, none⟩ ⟨aa, 0, none⟩ rfl rfl) (L_pu (P_ld ag9 cL ⟨aa, 0, none⟩ (vs f.Id) rfl (af.cell rfl)) ?_)))))
 have ag := (hp1.st ab.st)
 exact L_pu (P_ld ag9 cL ⟨b, 0, none⟩ (vs fv2) rfl (ag.cell rfl)) (L_pu (P_scmp f.Id fv2 (f.Id == fv2) rfl rfl rfl) (L_as (vb (f.Id == fv2)) rfl (L_nil (W_ret ⟨[vb (f.Id == fv2)], ⟨_, rfl, rfl⟩, f.Id == fv2, rfl, H, ab.gr.g0⟩))))
end
section
open Go.RowKit
def F4.E (s : List Feat) (f : Feat → Bool) (f_ok : Feat → Prop) (Q : Int → Prop) : Prop :=
 (∃ (I23 : Int → Prop) (mu24 : Int → Nat), I23 0 ∧ ∀ (v2 : Int), I23 v2 → (if decide (v2 < (s.length : Int)) then ((0 : Int) ≤ v2 ∧ v2 < (s.length : Int)) ∧ (f_ok (nth s v2)) ∧ (if (f (nth s v2)) then Q v2 else (I64 (v2 + 1)) ∧ I23 (v2 + 1) ∧ mu24 (v2 + 1) < mu24 v2) else Q (-1)))
theorem F4.calls {O : Ob} (w0 : World) (hO : Ok w0 O) (s : List Feat) (A1 : Option Addr) (n2 c3 : Nat) (hp4 : Sl kFeat w0 (Fr O) (.slice A1 n2 c3) s) (fg6 : FuncId) (fc7 : List Value) (f : Feat → Bool) (f_ok : Feat → Prop) (hgo8 : Goes Tryz.prog fg6) (hf9 : ∀ (w : World) (L : Ob), Ct [] w0 w L O → ∀ (x0_ : Feat) (am : Option Addr) (an ao : Nat) (ap : Option Addr) (aq ar : Nat) (bc : Lim x0_.Id) (bd : Sl kPt w (Fr (L ++ O)) (.slice am an ao) x0_.Shape.Pts) (be : Sl kTag w (Fr (L ++ O)) (.slice ap aq ar) x0_.Tags), f_ok x0_ → Ret Tryz.prog fg6 ([.agg #[vs x0_.Id, vi x0_.Shape.Kind, .slice am an ao, .slice ap aq ar]] ++ fc7) w (fun v w' => v = vb (f x0_) ∧ Gr w w' none)) (Q : Int → Prop) (h : F4.E s f f_ok Q) :
  Ret Tryz.prog 70 [.slice A1 n2 c3, .func (.func fg6) #[] fc7.toArray] w0 (fun v w' => ∃ (r0 : Int), v = vi r0 ∧ Q r0 ∧ Gr w0 w' none) := by
 unfold F4.E at h
 have H := h
 clear h
 have hc0 := Ct.init hO
 refine Ret_enter Tryz.func70 rfl 19 rfl [.tmp 4] rfl rfl ?_
 refine W_seq (W_reg (L_as (vi 0) rfl (L_nil (W_seq (W_seq (W_reg (L_mv (.slice A1 n2 c3) rfl ?_)))))))
 have bf := hp4.le
 refine L_pu (P_len Tryz.underlying26 A1 n2 c3 hp4.len rfl) (L_mv (vi 0) rfl (L_nil (W_block ?_)))
 obtain ⟨ay, az, ac, H⟩ := H
 refine W_loop (α := Int) (fun (sv__ : Int) t aa => match sv__ with | v2 => ay v2 ∧ Has t [(0, .slice A1 n2 c3), (1, .func (.func fg6) #[] fc7.toArray), (7, vi (s.length : Int)), (8, vi v2)] ∧ Ct [] w0 aa [] O ∧ Sl kFeat aa (Fr ([] ++ O)) (.slice A1 n2 c3) s) (fun (sv__ : Int) => match sv__ with | v2 => az v2) 0 ⟨ac, (hasI rfl), hc0, hp4⟩ ?_
 rintro v2 _ aa ⟨ac, a0, ab, ad⟩
 obtain ⟨bg, rfl⟩ := Has.ins a0
 have H := H v2 ac
 refine W_seq (W_reg (L_pu (P_cmp v2 (s.length : Int) (decide (v2 < (s.length : Int))) rfl rfl rfl) (L_nil (W_seq ?_))))
 refine W_cond (decide (v2 < (s.length : Int))) rfl (fun ae => ?_) (fun ae => ?_)
 ·have H := ite_t H ae
  refine W_skip (W_seq (W_block (W_seq (W_reg (L_mv (vi v2) rfl (L_as (vi v2) rfl (L_nil (W_seq ?_))))))))
  refine W_reg (L_mv (.func (.func fg6) #[] fc7.toArray) rfl (L_mv (.slice A1 n2 c3) rfl (L_mv (vi v2) rfl ?_)))
  obtain ⟨au, H⟩ := H
  obtain ⟨av, bh, a1, bi, a2, a3⟩ := ad.get default (by decide) v2 au
  obtain ⟨af, ag, ah, ai, aj, ak, rfl, a4, a5, a6⟩ := kFeat.op a2
  refine L_pu (P_ia Tryz.underlying26 se26 A1 av n2 c3 ad.len v2 rfl a1 rfl au) (L_pu (P_lda ag61 sz61 cL (av.add (v2.toNat * 4)) [vs ((nth s v2).Id), vi ((nth s v2).Shape.Kind), .slice af ag ah, .slice ai aj ak] rfl rfl a3) ?_)
  obtain ⟨a7, H⟩ := H
  refine L_callv hgo8 fc7 rfl [.agg #[vs ((nth s v2).Id), vi ((nth s v2).Shape.Kind), .slice af ag ah, .slice ai aj ak]] rfl ((hf9 aa [] ab (nth s v2) af ag ah ai aj ak a4 a5 a6 a7).mono ?_)
  rintro _ bj ⟨rfl, aw⟩
  have ax := ab.k0 aw
  refine L_nil ?_
  refine W_cond (f (nth s v2)) rfl (fun al => ?_) (fun al => ?_)
  ·have H := ite_t H al
   exact W_seq (W_reg (L_mv (vi v2) rfl (L_as (vi v2) rfl (L_nil (W_ret ⟨[vi v2], ⟨_, rfl, rfl⟩, v2, rfl, H, ax.gr.g0⟩)))))
  have H := ite_f H al
  refine W_skip (W_reg ?_)
  obtain ⟨a8, H⟩ := H
  refine L_pu (P_add v2 1 rfl rfl a8) (L_mv (vi (v2 + 1)) rfl (L_nil ?_))
  obtain ⟨a9, ba⟩ := H
  have bb := ab.stn aw
  exact ⟨v2 + 1, ba, a9, (hasI rfl), ax, (ad.st bb)⟩
 have H := ite_f H ae
 refine W_exit (xin_hit ?_)
 exact W_seq (W_reg (L_as (vi (-1)) rfl (L_nil (W_ret ⟨[vi (-1)], ⟨_, rfl, rfl⟩, (-1), rfl, H, ab.gr.g0⟩))))
end
section
open Go.RowKit
def F92.E (s : List Feat) (id : Str) (Q : Int → Prop) : Prop :=
 (∃ (f : Feat → Bool) (f_ok : Feat → Prop), (∀ x0_, f_ok x0_ → F38.E x0_ id (fun r => r = f x0_)) ∧ F4.E s f f_ok (fun r => Q r))
theorem F92.calls {O : Ob} (w0 : World) (hO : Ok w0 O) (s : List Feat) (A1 : Option Addr) (n2 c3 : Nat) (hp4 : Sl kFeat w0 (Fr O) (.slice A1 n2 c3) s) (id : Str) (hs6 : Lim id) (Q : Int → Prop) (h : F92.E s id Q) :
  Ret Tryz.prog 36 [.slice A1 n2 c3, vs id] w0 (fun v w' => ∃ (r0 : Int), v = vi r0 ∧ Q r0 ∧ Gr w0 w' none) := by
 unfold F92.E at h
 have H := h
 clear h
 have hc0 := Ct.init hO
 refine Ret_enter Tryz.func36 rfl 8 rfl [.tmp 4] rfl rfl ?_
 refine W_seq (W_reg (L_box [vs id] rfl fun w7 b8 ak hu11 g9 al => ?_))
 have am := Fb.mk hc0.ok ak al
 have ag := hc0.k0 g9
 refine L_as (vi 0) rfl (L_nil (W_seq (W_reg (L_mv (.slice A1 n2 c3) rfl (L_pu (P_func [.pointer (some ⟨b8, 0, none⟩)] rfl) ?_)))))
 obtain ⟨f, f_ok, an, H⟩ := H
 have ao : ∀ (w : World) (L : Ob), Ct [] w7 w L ([] ++ O) → ∀ (x0_ : Feat) (aa : Option Addr) (ab ac : Nat) (ad : Option Addr) (ae af : Nat) (ah : Lim x0_.Id) (ai : Sl kPt w (Fr (L ++ ([] ++ O))) (.slice aa ab ac) x0_.Shape.Pts) (aj : Sl kTag w (Fr (L ++ ([] ++ O))) (.slice ad ae af) x0_.Tags), f_ok x0_ → Ret Tryz.prog 71 ([.agg #[vs x0_.Id, vi x0_.Shape.Kind, .slice aa ab ac, .slice ad ae af]] ++ [.pointer (some ⟨b8, 0, none⟩)]) w (fun v w' => v = vb (f x0_) ∧ Gr w w' none) := by
  intro w L c x0_ aa ab ac ad ae af ah ai aj hok
  refine (F38.calls w c.ok x0_ aa ab ac ad ae af ah ai aj b8 id hs6 (am.st c.st) _ (an x0_ hok)).mono ?_
  rintro _ w2 ⟨r, rfl, rfl, g2⟩
  exact ⟨rfl, g2⟩
 refine L_call go70 [.slice A1 n2 c3, .func (.func 71) #[] #[.pointer (some ⟨b8, 0, none⟩)]] rfl ((F4.calls w7 ag.ok s A1 n2 c3 (hp4.st ag.st) 71 [.pointer (some ⟨b8, 0, none⟩)] f f_ok go71 ao _ H).mono ?_)
 rintro _ ar ⟨r, rfl, H, ap⟩
 have aq := ag.k0 ap
 exact L_as (vi r) rfl (L_nil (W_ret ⟨[vi r], ⟨_, rfl, rfl⟩, r, rfl, H, aq.gr.g0⟩))
end
section
open Go.RowKit
def F16.E (s : Shape) (Q : Shape → Prop) : Prop :=
 (([] : List Pt).length + s.Pts.length ≤ 268435456) ∧ Q (⟨s.Kind, (([] : List Pt) ++ s.Pts)⟩ : Shape)
theorem F16.calls {O : Ob} (w0 : World) (hO : Ok w0 O) (s : Shape) (A1 : Option Addr) (n2 c3 : Nat) (hp4 : Sl kPt w0 (Fr O) (.slice A1 n2 c3) s.Pts) (Q : Shape → Prop) (h : F16.E s Q) :
  Ret Tryz.prog 72 [.agg #[vi s.Kind, .slice A1 n2 c3]] w0 (fun v w' => ∃ (r0 : Shape) (A0 : Option Addr) (n0 c0 : Nat), v = .agg #[vi r0.Kind, .slice A0 n0 c0] ∧ Q r0 ∧ Gr w0 w' none ∧ Ok w' ([bk A0] ++ O) ∧ (∀ b, some b ∈ [bk A0] → w0.heap.size ≤ b) ∧ Ow kPt 114 w' ([bk A0] ++ O) (.slice A0 n0 c0) r0.Pts) := by
 unfold F16.E at h
 have H := h
 clear h
 have hc0 := Ct.init hO
 refine Ret_enter Tryz.func72 rfl 10 rfl [.cell 2 58] rfl rfl ?_
 refine W_seq (W_reg (L_box [vi s.Kind, .slice A1 n2 c3] rfl fun w6 b7 hl9 hu10 g8 ay => ?_))
 have az := Fb.mk hc0.ok hl9 ay
 have ap := hc0.k0 g8
 refine L_alloc [.int .i64 0, .slice none 0 0] ze58 fun be ae aq hu19 ar a0 => ?_
 have au := ap.own ar (some ae) (oglt aq hu19)
 refine L_nil (W_seq (W_mixr 8 [some ae] (by kernel_rfl) rfl fun bf ag aa => ?_))
 have ah := au.k0 ag
 refine M_pu 0 rfl (by kernel_rfl) aa (P_fa fa58_0 ⟨b7, 0, none⟩ ⟨b7, 0, none⟩ rfl rfl) ?_
 have a1 := ap.stown _ ar (oge aq)
 have a2 := au.stn ag
 have af := ((az.st a1).st a2)
 refine M_pu 1 rfl (by kernel_rfl) aa (P_ldr ag3 cR ⟨b7, 0, none⟩ (vi s.Kind) rfl (af.cell rfl) (nm_cons (ah.fne 0 af.2 rfl) nm_nil)) ?_
 refine M_pu 3 rfl (by kernel_rfl) aa (P_fa fa58_1 ⟨b7, 0, none⟩ ⟨b7, 1, none⟩ rfl rfl) ?_
 refine M_pu 4 rfl (by kernel_rfl) aa (P_ldr ag56 cR ⟨b7, 1, none⟩ (.slice A1 n2 c3) rfl (af.cell rfl) (nm_cons (ah.fne 0 af.2 rfl) nm_nil)) ?_
 refine M_any1 2 (by kernel_rfl) rfl ?_
 refine L_lit (kd := kPt) ei56 ah ([] : List Pt) (cells := []) rfl (fun _ => by kernel_rfl) fun bg av a3 a4 aw hr35 ai a5 => ?_
 have aj := Gm.tm aa aw
 refine L_nil ⟨aj, ?_⟩
 refine M_any1 5 (by kernel_rfl) rfl ?_
 obtain ⟨a6, H⟩ := H
 refine L_app ei56 ai (.slice av a3 a4) ([] : List Pt) s.Pts rfl a5 (.slice A1 n2 c3) rfl (hp4.st ai.st).sx 0 rfl a6 fun bh ab ac ad ax a7 ak a8 => ?_
 have al := Gm.tq aj ax (hv_new aa hr35)
 have bi := hv_app (L := [bk av, some ae]) (O := O) (i := 0) aj rfl (hv_new aa hr35) a7 ak
 refine L_nil ⟨al, ?_⟩
 refine M_pu 6 rfl (by kernel_rfl) al (P_build (.agg #[vi s.Kind, .slice ab ac ad]) (fun _ => by kernel_rfl)) ?_
 refine M_any1 7 (by kernel_rfl) rfl ?_
 have a9 := (ai.bm ((a0.k0 ag).k0 aw) 1 0 rfl rfl rfl ax)
 refine L_stb ae 0 [vi 0, .slice none 0 0] [vi s.Kind, .slice ab ac ad] [vi s.Kind, .slice ab ac ad] rfl a9 rfl sz58 rfl rfl rfl fun bj am ba => ?_
 have an := ak.wr 1 rfl am
 have bb := Gm.tq al am (hv_mem 0 rfl)
 refine L_nil ⟨bb, ?_⟩
 refine M_nil (by kernel_rfl) ?_
 refine W_ret ?_
 have bc := an.bgv ba 1 rfl
 have ao := an.drop 1 rfl
 have bd := (an.sd (ak.sw a8 0 1 rfl rfl rfl am) 0 1 rfl rfl rfl)
 exact ⟨[.agg #[vi s.Kind, .slice ab ac ad]], ⟨_, _, rfl, bc.1.res rfl ag58 sz58, rfl⟩, (⟨s.Kind, (([] : List Pt) ++ s.Pts)⟩ : Shape), ab, ac, ad, rfl, H, ao.gr.g0, ao.ok, ao.ge, bd⟩
end
section
open Go.RowKit
def F27.E (f : Feat) (Q : Feat → Prop) : Prop :=
 (([] : List Tag).length + f.Tags.length ≤ 268435456) ∧ F16.E f.Shape (fun r => Q (⟨f.Id, r, (([] : List Tag) ++ f.Tags)⟩ : Feat))
theorem F27.calls {O : Ob} (w0 : World) (hO : Ok w0 O) (f : Feat) (A2 : Option Addr) (n3 c4 : Nat) (A7 : Option Addr) (n8 c9 : Nat) (hs1 : Lim f.Id) (hp5 : Sl kPt w0 (Fr O) (.slice A2 n3 c4) f.Shape.Pts) (bn : Sl kTag w0 (Fr O) (.slice A7 n8 c9) f.Tags) (Q : Feat → Prop) (h : F27.E f Q) :
  Ret Tryz.prog 38 [.agg #[vs f.Id, vi f.Shape.Kind, .slice A2 n3 c4, .slice A7 n8 c9]] w0 (fun v w' => ∃ (r0 : Feat) (A0 : Option Addr) (n0 c0 : Nat) (A2 : Option Addr) (n2 c2 : Nat), v = .agg #[vs r0.Id, vi r0.Shape.Kind, .slice A0 n0 c0, .slice A2 n2 c2] ∧ Q r0 ∧ Gr w0 w' none ∧ Ok w' ([bk A0, bk A2] ++ O) ∧ (∀ b, some b ∈ [bk A0, bk A2] → w0.heap.size ≤ b) ∧ Lim r0.Id ∧ Ow kPt 114 w' ([bk A0, bk A2] ++ O) (.slice A0 n0 c0) r0.Shape.Pts ∧ Ow kTag 106 w' ([bk A0, bk A2] ++ O) (.slice A2 n2 c2) r0.Tags) := by
 unfold F27.E at h
 have H := h
 clear h
 have hc0 := Ct.init hO
 refine Ret_enter Tryz.func38 rfl 13 rfl [.cell 2 61] rfl rfl ?_
 refine W_seq (W_reg (L_box [vs f.Id, vi f.Shape.Kind, .slice A2 n3 c4, .slice A7 n8 c9] rfl fun df ac b3 hu16 b4 b5 => ?_))
 have b6 := Fb.mk hc0.ok b3 b5
 have bo := hc0.k0 b4
 refine L_alloc [vs [], .int .i64 0, .slice none 0 0, .slice none 0 0] ze61 fun dg aa bp hu25 bq br => ?_
 have bs := bo.own bq (some aa) (oglt bp hu25)
 refine L_nil (W_seq ?_)
 obtain ⟨bt, H⟩ := H
 refine W_join (J := (fun t ai => ∃ (r : Shape) (ad : Option Addr) (aj : Nat) (ak : Nat) (ae : Option Addr) (al : Nat) (am : Nat), Has t [(2, .pointer (some ⟨aa, 0, none⟩))] ∧ Ct [] w0 ai [bk ae, bk ad, some aa] O ∧ Ow kPt 114 ai ([bk ae, bk ad, some aa] ++ O) (.slice ad aj ak) r.Pts ∧ Ow kTag 106 ai ([bk ae, bk ad, some aa] ++ O) (.slice ae al am) (([] : List Tag) ++ f.Tags) ∧ Bx ai aa [vs f.Id, vi r.Kind, .slice ad aj ak, .slice ae al am] ∧ Q (⟨f.Id, r, (([] : List Tag) ++ f.Tags)⟩ : Feat))) ?_ ?_
 ·refine W_mixr 11 [some aa] (by kernel_rfl) rfl fun b7 ap ab => ?_
  have af := bs.k0 ap
  refine M_pu 0 rfl (by kernel_rfl) ab (P_fa fa61_0 ⟨ac, 0, none⟩ ⟨ac, 0, none⟩ rfl rfl) ?_
  have b8 := bo.stown _ bq (oge bp)
  have b9 := bs.stn ap
  have ah := ((b6.st b8).st b9)
  refine M_pu 1 rfl (by kernel_rfl) ab (P_ldr ag9 cR ⟨ac, 0, none⟩ (vs f.Id) rfl (ah.cell rfl) (nm_cons (af.fne 0 ah.2 rfl) nm_nil)) ?_
  refine M_pu 2 rfl (by kernel_rfl) ab (P_fa fa61_1 ⟨ac, 0, none⟩ ⟨ac, 1, none⟩ rfl rfl) ?_
  refine M_pu 3 rfl (by kernel_rfl) ab (P_ldar ag58 sz58 cR ⟨ac, 1, none⟩ [vi f.Shape.Kind, .slice A2 n3 c4] rfl rfl (ah.cells (off := 1) rfl) (nm_cons (af.fne 0 ah.2 rfl) nm_nil)) ?_
  refine M_pu 6 rfl (by kernel_rfl) ab (P_fa fa61_2 ⟨ac, 0, none⟩ ⟨ac, 3, none⟩ rfl rfl) ?_
  refine M_pu 7 rfl (by kernel_rfl) ab (P_ldr ag59 cR ⟨ac, 3, none⟩ (.slice A7 n8 c9) rfl (ah.cell rfl) (nm_cons (af.fne 0 ah.2 rfl) nm_nil)) ?_
  refine M_any2 4 5 (by kernel_rfl) rfl rfl ?_ ?_
  ·refine L_call go72 [.agg #[vi f.Shape.Kind, .slice A2 n3 c4]] rfl ((F16.calls b7 af.ok f.Shape A2 n3 c4 (hp5.st af.st) _ H).mono ?_)
   rintro _ bu ⟨r, an, aq, ar, rfl, H, bc, ca, cb, cc⟩
   have cd := af.owns bc ca cb
   have au := Gm.tm ab bc
   refine L_nil ⟨au, ?_⟩
   refine M_any1 5 (by kernel_rfl) rfl ?_
   refine L_lit (kd := kTag) ei59 cd ([] : List Tag) (cells := []) rfl (fun _ => by kernel_rfl) fun dh bv ce cf bd hr54 av cg => ?_
   have ag := Gm.tm au bd
   refine L_nil ⟨ag, ?_⟩
   refine M_any1 8 (by kernel_rfl) rfl ?_
   refine L_app ei59 av (.slice bv ce cf) ([] : List Tag) f.Tags rfl cg (.slice A7 n8 c9) rfl (bn.st av.st).sx 0 rfl bt fun di aw ax ay be bw az ch => ?_
   have bf := Gm.tq ag be (hv_new au hr54)
   have dj := hv_app (L := [bk bv, bk an, some aa]) (O := O) (i := 0) ag rfl (hv_new au hr54) bw az
   refine L_nil ⟨bf, ?_⟩
   refine M_pu 9 rfl (by kernel_rfl) bf (P_build (.agg #[vs f.Id, vi r.Kind, .slice an aq ar, .slice aw ax ay]) (fun _ => by kernel_rfl)) ?_
   refine M_any1 10 (by kernel_rfl) rfl ?_
   have ci := (av.bm (((br.k0 ap).k0 bc).k0 bd) 2 0 rfl rfl rfl be)
   refine L_stb aa 0 [vs ([] : Str), vi 0, .slice none 0 0, .slice none 0 0] [vs f.Id, vi r.Kind, .slice an aq ar, .slice aw ax ay] [vs f.Id, vi r.Kind, .slice an aq ar, .slice aw ax ay] rfl ci rfl sz61 rfl rfl rfl fun dk a0 cj => ?_
   have ck := az.wr 2 rfl a0
   have cl := Gm.tq bf a0 (hv_mem 0 rfl)
   refine L_nil ⟨cl, ?_⟩
   refine M_nil (by kernel_rfl) ?_
   have cm := (az.sw (av.sm (cc.so _ bd hr54) 1 0 rfl rfl rfl be bw) 1 2 rfl rfl rfl a0)
   have cn := (az.sw ch 0 2 rfl rfl rfl a0)
   exact ⟨r, an, aq, ar, aw, ax, ay, (hasI rfl), ck, cm, cn, cj, H⟩
  refine L_lit (kd := kTag) ei59 af ([] : List Tag) (cells := []) rfl (fun _ => by kernel_rfl) fun bu bx co cp bz hr42 bg cq => ?_
  have b0 := Gm.tm ab bz
  refine L_nil ⟨b0, ?_⟩
  refine M_any1 4 (by kernel_rfl) rfl ?_
  refine L_call go72 [.agg #[vi f.Shape.Kind, .slice A2 n3 c4]] rfl ((F16.calls bu bg.ok f.Shape A2 n3 c4 (hp5.st bg.st) _ H).mono ?_)
  rintro _ dl ⟨r, ao, a1, a2, rfl, H, a3, cr, b1, cs⟩
  have a4 := bg.owns a3 cr b1
  have ag := Gm.tm b0 a3
  refine L_nil ⟨ag, ?_⟩
  refine M_any1 8 (by kernel_rfl) rfl ?_
  have ct := (cq.sos a3 b1)
  refine L_app ei59 a4 (.slice bx co cp) ([] : List Tag) f.Tags rfl ct (.slice A7 n8 c9) rfl (bn.st a4.st).sx 1 rfl bt fun dm a5 a6 a7 bh b2 a8 cu => ?_
  have bi := Gm.tq ag bh (hv_new ab hr42)
  have dn := hv_app (L := [bk ao, bk bx, some aa]) (O := O) (i := 1) ag rfl (hv_new ab hr42) b2 a8
  refine L_nil ⟨bi, ?_⟩
  refine M_pu 9 rfl (by kernel_rfl) bi (P_build (.agg #[vs f.Id, vi r.Kind, .slice ao a1 a2, .slice a5 a6 a7]) (fun _ => by kernel_rfl)) ?_
  refine M_any1 10 (by kernel_rfl) rfl ?_
  have cv := (a4.bm (((br.k0 ap).k0 bz).k0 a3) 2 1 rfl rfl rfl bh)
  refine L_stb aa 0 [vs ([] : Str), vi 0, .slice none 0 0, .slice none 0 0] [vs f.Id, vi r.Kind, .slice ao a1 a2, .slice a5 a6 a7] [vs f.Id, vi r.Kind, .slice ao a1 a2, .slice a5 a6 a7] rfl cv rfl sz61 rfl rfl rfl fun dp a9 cw => ?_
  have bj := a8.wr 2 rfl a9
  have cx := Gm.tq bi a9 (hv_mem 0 rfl)
  refine L_nil ⟨cx, ?_⟩
  refine M_nil (by kernel_rfl) ?_
  have cy := bj.perm (.swap _ _ _)
  have cz := (bj.sp (a8.sw (a4.sm cs 0 1 rfl rfl rfl bh b2) 0 2 rfl rfl rfl a9) (.swap _ _ _))
  have c1 := (bj.sp (a8.sw cu 1 2 rfl rfl rfl a9) (.swap _ _ _))
  have c3 := cw
  exact ⟨r, ao, a1, a2, a5, a6, a7, (hasI rfl), cy, cz, c1, c3, H⟩
 rintro dq ai ⟨r, ad, aj, ak, ae, al, am, c5, ba, c6, c7, c8, H⟩
 obtain ⟨dr, rfl⟩ := Has.ins c5
 refine W_ret ?_
 have da := ba.bgv c8 2 rfl
 have bb := ba.drop 2 rfl
 have bl := bb.perm (.swap _ _ _)
 have db := bb.stp (.swap _ _ _)
 have dc := (da.st db)
 have dd := (bb.sp (ba.sd c6 1 2 rfl rfl rfl) (.swap _ _ _))
 have de := (bb.sp (ba.sd c7 0 2 rfl rfl rfl) (.swap _ _ _))
 exact ⟨[.agg #[vs f.Id, vi r.Kind, .slice ad aj ak, .slice ae al am]], ⟨_, _, rfl, dc.1.res rfl ag61 sz61, rfl⟩, (⟨f.Id, r, (([] : List Tag) ++ f.Tags)⟩ : Feat), ad, aj, ak, ae, al, am, rfl, H, bl.gr.g0, bl.ok, bl.ge, hs1, dd, de⟩
end
section
open Go.RowKit
def F122.E (s : List Feat) (id : Str) (Q : Feat → Bool → Prop) : Prop :=
 F92.E s id (fun r => (if decide (r < 0) then Q (⟨([] : Str), (⟨0, ([] : List Pt)⟩ : Shape), ([] : List Tag)⟩ : Feat) false else ((0 : Int) ≤ r ∧ r < (s.length : Int)) ∧ F27.E (nth s r) (fun r2 => Q r2 true)))
theorem F122.calls {O : Ob} (w0 : World) (hO : Ok w0 O) (s : List Feat) (A1 : Option Addr) (n2 c3 : Nat) (hp4 : Sl kFeat w0 (Fr O) (.slice A1 n2 c3) s) (id : Str) (hs6 : Lim id) (Q : Feat → Bool → Prop) (h : F122.E s id Q) :
  Ret Tryz.prog 34 [.slice A1 n2 c3, vs id] w0 (fun v w' => ∃ (r0 : Feat) (r1 : Bool) (A0 : Option Addr) (n0 c0 : Nat) (A2 : Option Addr) (n2 c2 : Nat), v = .tuple #[.agg #[vs r0.Id, vi r0.Shape.Kind, .slice A0 n0 c0, .slice A2 n2 c2], vb r1] ∧ Q r0 r1 ∧ Gr w0 w' none ∧ Ok w' ([bk A0, bk A2] ++ O) ∧ (∀ b, some b ∈ [bk A0, bk A2] → w0.heap.size ≤ b) ∧ Lim r0.Id ∧ Ow kPt 114 w' ([bk A0, bk A2] ++ O) (.slice A0 n0 c0) r0.Shape.Pts ∧ Ow kTag 106 w' ([bk A0, bk A2] ++ O) (.slice A2 n2 c2) r0.Tags) := by
 unfold F122.E at h
 have H := h
 clear h
 have hc0 := Ct.init hO
 refine Ret_enter Tryz.func34 rfl 18 rfl [.cell 4 61, .tmp 5] rfl rfl ?_
 refine W_seq (W_reg (L_alloc [vs [], .int .i64 0, .slice none 0 0, .slice none 0 0] ze61 fun w7 b8 a4 hu11 g9 az => ?_))
 have ak := hc0.own g9 (some b8) (oglt a4 hu11)
 refine L_as (vb false) rfl (L_nil (W_seq (W_reg (L_mv (.slice A1 n2 c3) rfl (L_mv (vs id) rfl ?_)))))
 refine L_call go36 [.slice A1 n2 c3, vs id] rfl ((F92.calls w7 ak.ok s A1 n2 c3 (hp4.st ak.st) id hs6 _ H).mono ?_)
 rintro _ a5 ⟨r, rfl, H, al⟩
 have aa := ak.k0 al
 refine L_as (vi r) rfl (L_nil (W_seq (W_seq (W_reg (L_mv (vi r) rfl (L_pu (P_cmp r 0 (decide (r < 0)) rfl rfl rfl) (L_nil ?_)))))))
 refine W_cond (decide (r < 0)) rfl (fun am => ?_) (fun am => ?_)
 ·have H := ite_t H am
  refine W_seq (W_reg (L_pu (P_build (.agg #[vs ([] : Str), vi 0, .slice none 0 0, .slice none 0 0]) (fun _ => by kernel_rfl)) ?_))
  have a6 := (az.k0 al)
  refine L_stb b8 0 [vs ([] : Str), vi 0, .slice none 0 0, .slice none 0 0] [vs ([] : Str), vi 0, .slice none 0 0, .slice none 0 0] [vs ([] : Str), vi 0, .slice none 0 0, .slice none 0 0] rfl a6 rfl sz61 rfl rfl rfl fun a0 a7 a8 => ?_
  have a9 := aa.wr 0 rfl a7
  refine L_as (vb false) rfl (L_nil (W_ret ?_))
  have ba := a9.own (Gr.refl _ none) none (by simp)
  have bb : Ow kPt 114 a0 ([bk none, some b8] ++ O) (.slice none 0 0) [] := Ow.nil _ _ _ _
  have ab := ba.own (Gr.refl _ none) none (by simp)
  have bc : Ow kTag 106 a0 ([bk none, bk none, some b8] ++ O) (.slice none 0 0) [] := Ow.nil _ _ _ _
  have bd := a8
  have be := ab.bgv bd 2 rfl
  have ac := ab.drop 2 rfl
  have an := ac.perm (.swap _ _ _)
  have bf := ac.stp (.swap _ _ _)
  have bg := (be.st bf)
  have bh := (ac.sp (ab.sd (bb.so none (Gr.refl _ none) (by simp)) 1 2 rfl rfl rfl) (.swap _ _ _))
  have bi := (ac.sp (ab.sd bc 0 2 rfl rfl rfl) (.swap _ _ _))
  exact ⟨[.agg #[vs ([] : Str), vi 0, .slice none 0 0, .slice none 0 0], vb false], ⟨_, _, rfl, bg.1.res rfl ag61 sz61, ⟨_, rfl, rfl⟩⟩, (⟨([] : Str), (⟨0, ([] : List Pt)⟩ : Shape), ([] : List Tag)⟩ : Feat), false, none, 0, 0, none, 0, 0, rfl, H, an.gr.g0, an.ok, an.ge, (by decide), bh, bi⟩
 have H := ite_f H am
 refine W_skip (W_seq (W_reg (L_mv (.slice A1 n2 c3) rfl (L_mv (vi r) rfl ?_))))
 obtain ⟨a1, H⟩ := H
 obtain ⟨a2, b1, bj, b2, bl, bm⟩ := (hp4.st aa.st).get default (by decide) r a1
 obtain ⟨ao, ap, aq, ar, au, av, rfl, bn, bo, bp⟩ := kFeat.op bl
 refine L_pu (P_ia Tryz.underlying26 se26 A1 a2 n2 c3 (hp4.st aa.st).len r rfl bj rfl a1) (L_pu (P_lda ag61 sz61 cL (a2.add (r.toNat * 4)) [vs ((nth s r).Id), vi ((nth s r).Shape.Kind), .slice ao ap aq, .slice ar au av] rfl rfl bm) ?_)
 refine L_call go38 [.agg #[vs ((nth s r).Id), vi ((nth s r).Shape.Kind), .slice ao ap aq, .slice ar au av]] rfl ((F27.calls a5 aa.ok (nth s r) ao ap aq ar au av bn bo bp _ H).mono ?_)
 rintro _ b3 ⟨r2, ad, ae, af, ag, ah, ai, rfl, H, a3, bq, br, bs, bt, bu⟩
 have aw := aa.owns a3 bq br
 have bv := ((az.k0 al).k0 a3)
 refine L_stb b8 0 [vs ([] : Str), vi 0, .slice none 0 0, .slice none 0 0] [vs r2.Id, vi r2.Shape.Kind, .slice ad ae af, .slice ag ah ai] [vs r2.Id, vi r2.Shape.Kind, .slice ad ae af, .slice ag ah ai] rfl bv rfl sz61 rfl rfl rfl fun b4 ax bw => ?_
 have aj := aw.wr 2 rfl ax
 refine L_as (vb true) rfl (L_nil (W_ret ?_))
 have bx := aj.bgv bw 2 rfl
 have ay := aj.drop 2 rfl
 have bz := (aj.sd (aw.sw bt 0 2 rfl rfl rfl ax) 0 2 rfl rfl rfl)
 have b0 := (aj.sd (aw.sw bu 1 2 rfl rfl rfl ax) 1 2 rfl rfl rfl)
 exact ⟨[.agg #[vs r2.Id, vi r2.Shape.Kind, .slice ad ae af, .slice ag ah ai], vb true], ⟨_, _, rfl, bx.1.res rfl ag61 sz61, ⟨_, rfl, rfl⟩⟩, r2, true, ad, ae, af, ag, ah, ai, rfl, H, ay.gr.g0, ay.ok, ay.ge, bs, bz, b0⟩
end
section
open Go.RowKit
def F64.E (s : List Feat) (id : Str) (Q : thing → Prop) : Prop :=
 F122.E s id (fun r r2 => Q (⟨r2, r⟩ : thing))
theorem F64.calls {O : Ob} (w0 : World) (hO : Ok w0 O) (s : List Feat) (A1 : Option Addr) (n2 c3 : Nat) (hp4 : Sl kFeat w0 (Fr O) (.slice A1 n2 c3) s) (id : Str) (hs6 : Lim id) (Q : thing → Prop) (h : F64.E s id Q) :
  Ret Tryz.prog 50 [.slice A1 n2 c3, vs id] w0 (fun v w' => ∃ (r0 : thing) (A0 : Option Addr) (n0 c0 : Nat) (A2 : Option Addr) (n2 c2 : Nat), v = .agg #[vb r0.has, vs r0.f.Id, vi r0.f.Shape.Kind, .slice A0 n0 c0, .slice A2 n2 c2] ∧ Q r0 ∧ Gr w0 w' none ∧ Ok w' ([bk A0, bk A2] ++ O) ∧ (∀ b, some b ∈ [bk A0, bk A2] → w0.heap.size ≤ b) ∧ Lim r0.f.Id ∧ Ow kPt 114 w' ([bk A0, bk A2] ++ O) (.slice A0 n0 c0) r0.f.Shape.Pts ∧ Ow kTag 106 w' ([bk A0, bk A2] ++ O) (.slice A2 n2 c2) r0.f.Tags) := by
 unfold F64.E at h
 have H := h
 clear h
 have hc0 := Ct.init hO
 refine Ret_enter Tryz.func50 rfl 16 rfl [.cell 4 84] rfl rfl ?_
 refine W_seq (W_reg (L_alloc [vb false, vs [], .int .i64 0, .slice none 0 0, .slice none 0 0] ze84 fun w7 b8 au hu11 g9 av => ?_))
 have al := hc0.own g9 (some b8) (oglt au hu11)
 refine L_nil (W_seq (W_reg (L_mv (.slice A1 n2 c3) rfl (L_mv (vs id) rfl ?_))))
 refine L_call go34 [.slice A1 n2 c3, vs id] rfl ((F122.calls w7 al.ok s A1 n2 c3 (hp4.st al.st) id hs6 _ H).mono ?_)
 rintro _ bb ⟨r, r2, aa, ab, ac, ad, ae, af, rfl, H, ar, aw, ax, ay, az, a0⟩
 have a1 := al.owns ar aw ax
 refine L_mv (.tuple #[.agg #[vs r.Id, vi r.Shape.Kind, .slice aa ab ac, .slice ad ae af], vb r2]) rfl (L_pu (P_ext [.agg #[vs r.Id, vi r.Shape.Kind, .slice aa ab ac, .slice ad ae af], vb r2] 0 (.agg #[vs r.Id, vi r.Shape.Kind, .slice aa ab ac, .slice ad ae af]) rfl rfl) (L_pu (P_ext [.agg #[vs r.Id, vi r.Shape.Kind, .slice aa ab ac, .slice ad ae af], vb r2] 1 (vb r2) rfl rfl) (L_alloc [vs [], .int .i64 0, .slice none 0 0, .slice none 0 0] ze61 fun bc am an hu36 ag a2 => ?_)))
 have ah := a1.own ag (some am) (oglt an hu36)
 refine L_stb am 0 [vs ([] : Str), vi 0, .slice none 0 0, .slice none 0 0] [vs r.Id, vi r.Shape.Kind, .slice aa ab ac, .slice ad ae af] [vs r.Id, vi r.Shape.Kind, .slice aa ab ac, .slice ad ae af] rfl a2 rfl sz61 rfl rfl rfl fun bd ai a3 => ?_
 have ao := ah.wr 0 rfl ai
 refine L_as (vb r2) rfl (L_nil (W_seq (W_reg (L_mv (vb r2) rfl (L_pu (P_lda ag61 sz61 cL ⟨am, 0, none⟩ [vs r.Id, vi r.Shape.Kind, .slice aa ab ac, .slice ad ae af] rfl rfl (a3.cells (off := 0) rfl)) (L_pu (P_build (.agg #[vb r2, vs r.Id, vi r.Shape.Kind, .slice aa ab ac, .slice ad ae af]) (fun _ => by kernel_rfl)) ?_))))))
 have a4 := (ah.bm ((av.k0 ar).k0 ag) 3 0 rfl rfl rfl ai)
 refine L_stb b8 0 [vb false, vs ([] : Str), vi 0, .slice none 0 0, .slice none 0 0] [vb r2, vs r.Id, vi r.Shape.Kind, .slice aa ab ac, .slice ad ae af] [vb r2, vs r.Id, vi r.Shape.Kind, .slice aa ab ac, .slice ad ae af] rfl a4 rfl sz84 rfl rfl rfl fun be ap a5 => ?_
 have aj := ao.wr 3 rfl ap
 refine L_nil (W_ret ?_)
 have a6 := aj.bgv a5 3 rfl
 have ak := aj.drop 3 rfl
 have aq := ak.drop 0 rfl
 have a7 := ak.std 0 rfl
 have a8 := (a6.st a7)
 have a9 := (ak.sd (aj.sd (ao.sw (ah.sw (az.so _ ag (oge an)) 1 0 rfl rfl rfl ai) 1 3 rfl rfl rfl ap) 1 3 rfl rfl rfl) 1 0 rfl rfl rfl)
 have ba := (ak.sd (aj.sd (ao.sw (ah.sw (a0.so _ ag (oge an)) 2 0 rfl rfl rfl ai) 2 3 rfl rfl rfl ap) 2 3 rfl rfl rfl) 2 0 rfl rfl rfl)
 exact ⟨[.agg #[vb r2, vs r.Id, vi r.Shape.Kind, .slice aa ab ac, .slice ad ae af]], ⟨_, _, rfl, a8.1.res rfl ag84 sz84, rfl⟩, (⟨r2, r⟩ : thing), aa, ab, ac, ad, ae, af, rfl, H, aq.gr.g0, aq.ok, aq.ge, ay, a9, ba⟩
end
section
open Go.RowKit
def F8.E (base_ : thing) (a : thing) (b : thing) (same : thing → thing → Bool) (same_ok : thing → thing → Prop) (Q : thing → Bool → Prop) : Prop :=
 (same_ok a base_) ∧ (if (same a base_) then Q b true else (same_ok b base_) ∧ (if (same b base_) then Q a true else (same_ok a b) ∧ (if (same a b) then Q a true else Q a false)))
theorem F8.calls {O : Ob} (w0 : World) (hO : Ok w0 O) (base_ : thing) (A2 : Option Addr) (n3 c4 : Nat) (A7 : Option Addr) (n8 c9 : Nat) (hs1 : Lim base_.f.Id) (hp5 : Sl kPt w0 (Fr O) (.slice A2 n3 c4) base_.f.Shape.Pts) (bm : Sl kTag w0 (Fr O) (.slice A7 n8 c9) base_.f.Tags) (a : thing) (aa : Option Addr) (ab ac : Nat) (ad : Option Addr) (ae af : Nat) (aw : Lim a.f.Id) (ax : Sl kPt w0 (Fr O) (.slice aa ab ac) a.f.Shape.Pts) (ay : Sl kTag w0 (Fr O) (.slice ad ae af) a.f.Tags) (b : thing) (ag : Option Addr) (ah ai : Nat) (aj : Option Addr) (ak al : Nat) (a5 : Lim b.f.Id) (a6 : Sl kPt w0 (Fr O) (.slice ag ah ai) b.f.Shape.Pts) (a7 : Sl kTag w0 (Fr O) (.slice aj ak al) b.f.Tags) (au : FuncId) (ao : List Value) (same : thing → thing → Bool) (same_ok : thing → thing → Prop) (a8 : Goes Tryz.prog au) (a9 : ∀ (w : World) (L : Ob), Ct [] w0 w L O → ∀ (x0_ : thing) (bn : Option Addr) (bo bp : Nat) (bq : Option Addr) (br bs : Nat) (dr : Lim x0_.f.Id) (ds : Sl kPt w (Fr (L ++ O)) (.slice bn bo bp) x0_.f.Shape.Pts) (dt : Sl kTag w (Fr (L ++ O)) (.slice bq br bs) x0_.f.Tags) (x1_ : thing) (bt : Option Addr) (bu bv : Nat) (bw : Option Addr) (bx bz : Nat) (du : Lim x1_.f.Id) (dv : Sl kPt w (Fr (L ++ O)) (.slice bt bu bv) x1_.f.Shape.Pts) (dw : Sl kTag w (Fr (L ++ O)) (.slice bw bx bz) x1_.f.Tags), same_ok x0_ x1_ → Ret Tryz.prog au ([.agg #[vb x0_.has, vs x0_.f.Id, vi x0_.f.Shape.Kind, .slice bn bo bp, .slice bq br bs], .agg #[vb x1_.has, vs x1_.f.Id, vi x1_.f.Shape.Kind, .slice bt bu bv, .slice bw bx bz]] ++ ao) w (fun v w' => v = vb (same x0_ x1_) ∧ Gr w w' none)) (Q : thing → Bool → Prop) (h : F8.E base_ a b same same_ok Q) :
  Ret Tryz.prog 51 [.agg #[vb base_.has, vs base_.f.Id, vi base_.f.Shape.Kind, .slice A2 n3 c4, .slice A7 n8 c9], .agg #[vb a.has, vs a.f.Id, vi a.f.Shape.Kind, .slice aa ab ac, .slice ad ae af], .agg #[vb b.has, vs b.f.Id, vi b.f.Shape.Kind, .slice ag ah ai, .slice aj ak al], .func (.func au) #[] ao.toArray] w0 (fun v w' => ∃ (r0 : thing) (r1 : Bool) (A0 : Option Addr) (n0 c0 : Nat) (A2 : Option Addr) (n2 c2 : Nat), v = .tuple #[.agg #[vb r0.has, vs r0.f.Id, vi r0.f.Shape.Kind, .slice A0 n0 c0, .slice A2 n2 c2], vb r1] ∧ Q r0 r1 ∧ Gr w0 w' none ∧ Lim r0.f.Id ∧ Sl kPt w' (Fr O) (.slice A0 n0 c0) r0.f.Shape.Pts ∧ Sl kTag w' (Fr O) (.slice A2 n2 c2) r0.f.Tags) := by
 unfold F8.E at h
 have H := h
 clear h
 have hc0 := Ct.init hO
 refine Ret_enter Tryz.func51 rfl 27 rfl [.cell 8 84, .tmp 9] rfl rfl ?_
 refine W_seq (W_reg (L_box [vb base_.has, vs base_.f.Id, vi base_.f.Shape.Kind, .slice A2 n3 c4, .slice A7 n8 c9] rfl fun dx b0 cg hu42 ch ci => ?_))
 have cj := Fb.mk hc0.ok cg ci
 have ba := hc0.k0 ch
 refine L_box [vb a.has, vs a.f.Id, vi a.f.Shape.Kind, .slice aa ab ac, .slice ad ae af] rfl fun dy az ck hu51 b1 cl => ?_
 have cm := Fb.mk ba.ok ck cl
 have bb := ba.k0 b1
 refine L_box [vb b.has, vs b.f.Id, vi b.f.Shape.Kind, .slice ag ah ai, .slice aj ak al] rfl fun dz bc cn hu60 b2 co => ?_
 have b3 := Fb.mk bb.ok cn co
 have b4 := bb.k0 b2
 refine L_alloc [vb false, vs [], .int .i64 0, .slice none 0 0, .slice none 0 0] ze84 fun cp ap b5 hu69 b6 a1 => ?_
 have aq := b4.own b6 (some ap) (oglt b5 hu69)
 refine L_as (vb false) rfl (L_nil (W_seq (W_block (W_seq (W_reg (L_mv (.func (.func au) #[] ao.toArray) rfl ?_))))))
 have b7 := bb.stn b2
 have a2 := b4.stown _ b6 (oge b5)
 have bd := ((cm.st b7).st a2)
 refine L_pu (P_lda ag84 sz84 cL ⟨az, 0, none⟩ [vb a.has, vs a.f.Id, vi a.f.Shape.Kind, .slice aa ab ac, .slice ad ae af] rfl rfl (bd.cells (off := 0) rfl)) ?_
 have cq := ba.stn b1
 have b8 := (((cj.st cq).st b7).st a2)
 refine L_pu (P_lda ag84 sz84 cL ⟨b0, 0, none⟩ [vb base_.has, vs base_.f.Id, vi base_.f.Shape.Kind, .slice A2 n3 c4, .slice A7 n8 c9] rfl rfl (b8.cells (off := 0) rfl)) ?_
 obtain ⟨cr, H⟩ := H
 refine L_callv a8 ao rfl [.agg #[vb a.has, vs a.f.Id, vi a.f.Shape.Kind, .slice aa ab ac, .slice ad ae af], .agg #[vb base_.has, vs base_.f.Id, vi base_.f.Shape.Kind, .slice A2 n3 c4, .slice A7 n8 c9]] rfl ((a9 cp [some ap] aq a aa ab ac ad ae af aw (ax.st aq.st) (ay.st aq.st) base_ A2 n3 c4 A7 n8 c9 hs1 (hp5.st aq.st) (bm.st aq.st) cr).mono ?_)
 rintro _ cs ⟨rfl, ar⟩
 have am := aq.k0 ar
 refine L_as (vb (same a base_)) rfl (L_nil ?_)
 refine W_cond (same a base_) rfl (fun be => ?_) (fun be => ?_)
 ·have H := ite_t H be
  refine W_seq (W_reg ?_)
  have ct := aq.stn ar
  have cu := ((b3.st a2).st ct)
  refine L_pu (P_lda ag84 sz84 cL ⟨bc, 0, none⟩ [vb b.has, vs b.f.Id, vi b.f.Shape.Kind, .slice ag ah ai, .slice aj ak al] rfl rfl (cu.cells (off := 0) rfl)) ?_
  have cv := (a1.k0 ar)
  refine L_stb ap 0 [vb false, vs ([] : Str), vi 0, .slice none 0 0, .slice none 0 0] [vb b.has, vs b.f.Id, vi b.f.Shape.Kind, .slice ag ah ai, .slice aj ak al] [vb b.has, vs b.f.Id, vi b.f.Shape.Kind, .slice ag ah ai, .slice aj ak al] rfl cv rfl sz84 rfl rfl rfl fun d0 cw cx => ?_
  have b9 := am.wr 0 rfl cw
  refine L_as (vb true) rfl (L_nil (W_ret ?_))
  have cy := b9.bgv cx 0 rfl
  have bf := b9.drop 0 rfl
  exact ⟨[.agg #[vb b.has, vs b.f.Id, vi b.f.Shape.Kind, .slice ag ah ai, .slice aj ak al], vb true], ⟨_, _, rfl, cy.1.res rfl ag84 sz84, ⟨_, rfl, rfl⟩⟩, b, true, ag, ah, ai, aj, ak, al, rfl, H, bf.gr.g0, a5, (a6.st bf.st), (a7.st bf.st)⟩
 have H := ite_f H be
 refine W_seq (W_seq (W_reg (L_mv (.func (.func au) #[] ao.toArray) rfl ?_)))
 have a3 := aq.stn ar
 have ca := ((b3.st a2).st a3)
 refine L_pu (P_lda ag84 sz84 cL ⟨bc, 0, none⟩ [vb b.has, vs b.f.Id, vi b.f.Shape.Kind, .slice ag ah ai, .slice aj ak al] rfl rfl (ca.cells (off := 0) rfl)) ?_
 have cz := (b8.st a3)
 refine L_pu (P_lda ag84 sz84 cL ⟨b0, 0, none⟩ [vb base_.has, vs base_.f.Id, vi base_.f.Shape.Kind, .slice A2 n3 c4, .slice A7 n8 c9] rfl rfl (cz.cells (off := 0) rfl)) ?_
 obtain ⟨c1, H⟩ := H
 refine L_callv a8 ao rfl [.agg #[vb b.has, vs b.f.Id, vi b.f.Shape.Kind, .slice ag ah ai, .slice aj ak al], .agg #[vb base_.has, vs base_.f.Id, vi base_.f.Shape.Kind, .slice A2 n3 c4, .slice A7 n8 c9]] rfl ((a9 cs [some ap] am b ag ah ai aj ak al a5 (a6.st am.st) (a7.st am.st) base_ A2 n3 c4 A7 n8 c9 hs1 (hp5.st am.st) (bm.st am.st) c1).mono ?_)
 rintro _ c3 ⟨rfl, av⟩
 have an := am.k0 av
 refine L_as (vb (same b base_)) rfl (L_nil ?_)
 refine W_cond (same b base_) rfl (fun a4 => ?_) (fun a4 => ?_)
 ·have H := ite_t H a4
  refine W_skip (W_ct (b := (same b base_)) rfl a4 ?_)
  refine W_seq (W_reg ?_)
  have c5 := am.stn av
  have c6 := ((bd.st a3).st c5)
  refine L_pu (P_lda ag84 sz84 cL ⟨az, 0, none⟩ [vb a.has, vs a.f.Id, vi a.f.Shape.Kind, .slice aa ab ac, .slice ad ae af] rfl rfl (c6.cells (off := 0) rfl)) ?_
  have c7 := ((a1.k0 ar).k0 av)
  refine L_stb ap 0 [vb false, vs ([] : Str), vi 0, .slice none 0 0, .slice none 0 0] [vb a.has, vs a.f.Id, vi a.f.Shape.Kind, .slice aa ab ac, .slice ad ae af] [vb a.has, vs a.f.Id, vi a.f.Shape.Kind, .slice aa ab ac, .slice ad ae af] rfl c7 rfl sz84 rfl rfl rfl fun d1 c8 da => ?_
  have cb := an.wr 0 rfl c8
  refine L_as (vb true) rfl (L_nil (W_ret ?_))
  have db := cb.bgv da 0 rfl
  have bg := cb.drop 0 rfl
  exact ⟨[.agg #[vb a.has, vs a.f.Id, vi a.f.Shape.Kind, .slice aa ab ac, .slice ad ae af], vb true], ⟨_, _, rfl, db.1.res rfl ag84 sz84, ⟨_, rfl, rfl⟩⟩, a, true, aa, ab, ac, ad, ae, af, rfl, H, bg.gr.g0, aw, (ax.st bg.st), (ay.st bg.st)⟩
 have H := ite_f H a4
 refine W_reg (L_mv (.func (.func au) #[] ao.toArray) rfl ?_)
 have cc := am.stn av
 have bh := ((bd.st a3).st cc)
 refine L_pu (P_lda ag84 sz84 cL ⟨az, 0, none⟩ [vb a.has, vs a.f.Id, vi a.f.Shape.Kind, .slice aa ab ac, .slice ad ae af] rfl rfl (bh.cells (off := 0) rfl)) ?_
 have dc := (ca.st cc)
 refine L_pu (P_lda ag84 sz84 cL ⟨bc, 0, none⟩ [vb b.has, vs b.f.Id, vi b.f.Shape.Kind, .slice ag ah ai, .slice aj ak al] rfl rfl (dc.cells (off := 0) rfl)) ?_
 obtain ⟨dd, H⟩ := H
 refine L_callv a8 ao rfl [.agg #[vb a.has, vs a.f.Id, vi a.f.Shape.Kind, .slice aa ab ac, .slice ad ae af], .agg #[vb b.has, vs b.f.Id, vi b.f.Shape.Kind, .slice ag ah ai, .slice aj ak al]] rfl ((a9 c3 [some ap] an a aa ab ac ad ae af aw (ax.st an.st) (ay.st an.st) b ag ah ai aj ak al a5 (a6.st an.st) (a7.st an.st) dd).mono ?_)
 rintro _ d2 ⟨rfl, a0⟩
 have cd := an.k0 a0
 refine L_as (vb (same a b)) rfl (L_nil ?_)
 refine W_cond (same a b) rfl (fun bi => ?_) (fun bi => ?_)
 ·have H := ite_t H bi
  refine W_seq (W_reg ?_)
  have de := an.stn a0
  have df := (bh.st de)
  refine L_pu (P_lda ag84 sz84 cL ⟨az, 0, none⟩ [vb a.has, vs a.f.Id, vi a.f.Shape.Kind, .slice aa ab ac, .slice ad ae af] rfl rfl (df.cells (off := 0) rfl)) ?_
  have dg := (((a1.k0 ar).k0 av).k0 a0)
  refine L_stb ap 0 [vb false, vs ([] : Str), vi 0, .slice none 0 0, .slice none 0 0] [vb a.has, vs a.f.Id, vi a.f.Shape.Kind, .slice aa ab ac, .slice ad ae af] [vb a.has, vs a.f.Id, vi a.f.Shape.Kind, .slice aa ab ac, .slice ad ae af] rfl dg rfl sz84 rfl rfl rfl fun d3 dh di => ?_
  have ce := cd.wr 0 rfl dh
  refine L_as (vb true) rfl (L_nil (W_ret ?_))
  have dj := ce.bgv di 0 rfl
  have bj := ce.drop 0 rfl
  exact ⟨[.agg #[vb a.has, vs a.f.Id, vi a.f.Shape.Kind, .slice aa ab ac, .slice ad ae af], vb true], ⟨_, _, rfl, dj.1.res rfl ag84 sz84, ⟨_, rfl, rfl⟩⟩, a, true, aa, ab, ac, ad, ae, af, rfl, H, bj.gr.g0, aw, (ax.st bj.st), (ay.st bj.st)⟩
 have H := ite_f H bi
 refine W_skip (W_seq (W_reg ?_))
 have dk := an.stn a0
 have dl := (bh.st dk)
 refine L_pu (P_lda ag84 sz84 cL ⟨az, 0, none⟩ [vb a.has, vs a.f.Id, vi a.f.Shape.Kind, .slice aa ab ac, .slice ad ae af] rfl rfl (dl.cells (off := 0) rfl)) ?_
 have dm := (((a1.k0 ar).k0 av).k0 a0)
 refine L_stb ap 0 [vb false, vs ([] : Str), vi 0, .slice none 0 0, .slice none 0 0] [vb a.has, vs a.f.Id, vi a.f.Shape.Kind, .slice aa ab ac, .slice ad ae af] [vb a.has, vs a.f.Id, vi a.f.Shape.Kind, .slice aa ab ac, .slice ad ae af] rfl dm rfl sz84 rfl rfl rfl fun d4 dn dp => ?_
 have cf := cd.wr 0 rfl dn
 refine L_as (vb false) rfl (L_nil (W_ret ?_))
 have dq := cf.bgv dp 0 rfl
 have bl := cf.drop 0 rfl
 exact ⟨[.agg #[vb a.has, vs a.f.Id, vi a.f.Shape.Kind, .slice aa ab ac, .slice ad ae af], vb false], ⟨_, _, rfl, dq.1.res rfl ag84 sz84, ⟨_, rfl, rfl⟩⟩, a, false, aa, ab, ac, ad, ae, af, rfl, H, bl.gr.g0, aw, (ax.st bl.st), (ay.st bl.st)⟩
end
section
open Go.RowKit
def F15.E (s1 : List Pt) (s2 : List Pt) (Q : Bool → Prop) : Prop :=
 (if (s1.length : Int) != (s2.length : Int) then Q false else (∃ (I32 : Int → Prop) (mu33 : Int → Nat), I32 0 ∧ ∀ (v2 : Int), I32 v2 → (if decide (v2 < (s1.length : Int)) then ((0 : Int) ≤ v2 ∧ v2 < (s1.length : Int)) ∧ ((0 : Int) ≤ v2 ∧ v2 < (s2.length : Int)) ∧ (if !(eqPt (nth s1 v2) (nth s2 v2)) then Q false else (I64 (v2 + 1)) ∧ I32 (v2 + 1) ∧ mu33 (v2 + 1) < mu33 v2) else Q true)))
theorem F15.calls {O : Ob} (w0 : World) (hO : Ok w0 O) (s1 : List Pt) (A1 : Option Addr) (n2 c3 : Nat) (hp4 : Sl kPt w0 (Fr O) (.slice A1 n2 c3) s1) (s2 : List Pt) (A6 : Option Addr) (n7 c8 : Nat) (hp9 : Sl kPt w0 (Fr O) (.slice A6 n7 c8) s2) (Q : Bool → Prop) (h : F15.E s1 s2 Q) :
  Ret Tryz.prog 101 [.slice A1 n2 c3, .slice A6 n7 c8] w0 (fun v w' => ∃ (r0 : Bool), v = vb r0 ∧ Q r0 ∧ Gr w0 w' none) := by
 unfold F15.E at h
 have H := h
 clear h
 have hc0 := Ct.init hO
 refine Ret_enter Tryz.func101 rfl 26 rfl [.tmp 4] rfl rfl ?_
 refine W_seq (W_reg (L_as (vb false) rfl (L_nil (W_seq (W_seq (W_reg (L_mv (.slice A1 n2 c3) rfl ?_)))))))
 have a3 := hp4.le
 refine L_pu (P_len Tryz.underlying56 A1 n2 c3 hp4.len rfl) (L_mv (.slice A6 n7 c8) rfl ?_)
 have a4 := hp9.le
 refine L_pu (P_len Tryz.underlying56 A6 n7 c8 hp9.len rfl) (L_pu (P_cmp (s1.length : Int) (s2.length : Int) ((s1.length : Int) != (s2.length : Int)) rfl rfl rfl) (L_nil ?_))
 refine W_cond ((s1.length : Int) != (s2.length : Int)) rfl (fun ab => ?_) (fun ab => ?_)
 ·have H := ite_t H ab
  exact W_seq (W_reg (L_as (vb false) rfl (L_nil (W_ret ⟨[vb false], ⟨_, rfl, rfl⟩, false, rfl, H, hc0.gr.g0⟩))))
 have H := ite_f H ab
 refine W_skip (W_seq (W_seq (W_reg (L_mv (.slice A1 n2 c3) rfl (L_pu (P_len Tryz.underlying56 A1 n2 c3 hp4.len rfl) (L_mv (vi 0) rfl (L_nil (W_block ?_))))))))
 obtain ⟨ap, aq, ac, H⟩ := H
 refine W_loop (α := Int) (fun (sv__ : Int) t aa => match sv__ with | v2 => ap v2 ∧ Has t [(0, .slice A1 n2 c3), (1, .slice A6 n7 c8), (12, vi (s1.length : Int)), (13, vi v2)] ∧ Ct [] w0 aa [] O ∧ Sl kPt aa (Fr ([] ++ O)) (.slice A1 n2 c3) s1 ∧ Sl kPt aa (Fr ([] ++ O)) (.slice A6 n7 c8) s2) (fun (sv__ : Int) => match sv__ with | v2 => aq v2) 0 ⟨ac, (hasI rfl), hc0, hp4, hp9⟩ ?_
 rintro v2 _ aa ⟨ac, ar, ad, ae, af⟩
 obtain ⟨a5, rfl⟩ := Has.ins ar
 have H := H v2 ac
 refine W_seq (W_reg (L_pu (P_cmp v2 (s1.length : Int) (decide (v2 < (s1.length : Int))) rfl rfl rfl) (L_nil (W_seq ?_))))
 refine W_cond (decide (v2 < (s1.length : Int))) rfl (fun ag => ?_) (fun ag => ?_)
 ·have H := ite_t H ag
  refine W_skip (W_seq (W_block (W_seq (W_reg (L_mv (vi v2) rfl (L_as (vi v2) rfl (L_nil (W_seq ?_))))))))
  refine W_draw (fun x => Gr aa x none) (by kernel_rfl) (by kernel_rfl) (Gr.drew _) ?_
  refine Q_mv (.slice A1 n2 c3) rfl (Q_mv (vi v2) rfl ?_)
  obtain ⟨ai, H⟩ := H
  obtain ⟨aj, a6, au, a7, av, aw⟩ := ae.get default (by decide) v2 ai
  obtain rfl := kPt.op av
  refine Q_pu (P_ia Tryz.underlying56 se56 A1 aj n2 c3 ae.len v2 rfl au rfl ai) (Q_pu (P_lda ag114 sz114 cQ (aj.add (v2.toNat * 2)) [vi ((nth s1 v2).X), vi ((nth s1 v2).Y)] rfl rfl aw) (Q_mv (.slice A6 n7 c8) rfl (Q_mv (vi v2) rfl ?_)))
  obtain ⟨ak, H⟩ := H
  obtain ⟨al, a8, ax, a9, ay, az⟩ := af.get default (by decide) v2 ak
  obtain rfl := kPt.op ay
  refine Q_pu (P_ia Tryz.underlying56 se56 A6 al n7 c8 af.len v2 rfl ax rfl ak) (Q_pu (P_lda ag114 sz114 cQ (al.add (v2.toNat * 2)) [vi ((nth s2 v2).X), vi ((nth s2 v2).Y)] rfl rfl az) (Q_pu (P_ne _ _ (eqPt (nth s1 v2) (nth s2 v2)) (qt114 (nth s1 v2) (nth s2 v2)) rfl rfl) (Q_nil fun ba am => ?_)))
  have an := ad.k0 am
  refine W_cond (!(eqPt (nth s1 v2) (nth s2 v2))) rfl (fun ah => ?_) (fun ah => ?_)
  ·have H := ite_t H ah
   exact W_seq (W_reg (L_as (vb false) rfl (L_nil (W_ret ⟨[vb false], ⟨_, rfl, rfl⟩, false, rfl, H, an.gr.g0⟩))))
  have H := ite_f H ah
  refine W_skip (W_reg ?_)
  obtain ⟨a0, H⟩ := H
  refine L_pu (P_add v2 1 rfl rfl a0) (L_mv (vi (v2 + 1)) rfl (L_nil ?_))
  obtain ⟨a1, a2⟩ := H
  have ao := ad.stn am
  exact ⟨v2 + 1, a2, a1, (hasI rfl), an, (ae.st ao), (af.st ao)⟩
 have H := ite_f H ag
 refine W_exit (xin_hit ?_)
 exact W_seq (W_reg (L_as (vb true) rfl (L_nil (W_ret ⟨[vb true], ⟨_, rfl, rfl⟩, true, rfl, H, ad.gr.g0⟩))))
end
section
open Go.RowKit
def F26.E (a : Shape) (b : Shape) (Q : Bool → Prop) : Prop :=
 (if a.Kind == b.Kind then F15.E a.Pts b.Pts (fun r => Q r) else Q false)
theorem F26.calls {O : Ob} (w0 : World) (hO : Ok w0 O) (a : Shape) (A1 : Option Addr) (n2 c3 : Nat) (hp4 : Sl kPt w0 (Fr O) (.slice A1 n2 c3) a.Pts) (b : Shape) (A6 : Option Addr) (n7 c8 : Nat) (hp9 : Sl kPt w0 (Fr O) (.slice A6 n7 c8) b.Pts) (Q : Bool → Prop) (h : F26.E a b Q) :
  Ret Tryz.prog 68 [.agg #[vi a.Kind, .slice A1 n2 c3], .agg #[vi b.Kind, .slice A6 n7 c8]] w0 (fun v w' => ∃ (r0 : Bool), v = vb r0 ∧ Q r0 ∧ Gr w0 w' none) := by
 unfold F26.E at h
 have H := h
 clear h
 have hc0 := Ct.init hO
 refine Ret_enter Tryz.func68 rfl 17 rfl [.tmp 4] rfl rfl ?_
 refine W_seq (W_reg (L_box [vi a.Kind, .slice A1 n2 c3] rfl fun au ab ai hu15 aj ak => ?_))
 have al := Fb.mk hc0.ok ai ak
 have ae := hc0.k0 aj
 refine L_box [vi b.Kind, .slice A6 n7 c8] rfl fun am ac an hu24 af ao => ?_
 have ag := Fb.mk ae.ok an ao
 have ad := ae.k0 af
 refine L_as (vb false) rfl (L_nil (W_seq (W_reg (L_pu (P_fa fa58_0 ⟨ab, 0, none⟩ ⟨ab, 0, none⟩ rfl rfl) ?_))))
 have ap := ae.stn af
 have ah := (al.st ap)
 refine L_pu (P_ld ag3 cL ⟨ab, 0, none⟩ (vi a.Kind) rfl (ah.cell rfl)) (L_pu (P_fa fa58_0 ⟨ac, 0, none⟩ ⟨ac, 0, none⟩ rfl rfl) (L_pu (P_ld ag3 cL ⟨ac, 0, none⟩ (vi b.Kind) rfl (ag.cell rfl)) (L_pu (P_cmp a.Kind b.Kind (a.Kind == b.Kind) rfl rfl rfl) (L_mv (vb (a.Kind == b.Kind)) rfl ?_))))
 rcases bool_or (a.Kind == b.Kind) with aa | aa
 ·have H := ite_t H aa
  refine L_rb aa rfl (L_pu (P_fa fa58_1 ⟨ab, 0, none⟩ ⟨ab, 1, none⟩ rfl rfl) (L_rb aa rfl (L_pu (P_ld ag56 cL ⟨ab, 1, none⟩ (.slice A1 n2 c3) rfl (ah.cell rfl)) (L_rb aa rfl (L_pu (P_fa fa58_1 ⟨ac, 0, none⟩ ⟨ac, 1, none⟩ rfl rfl) (L_rb aa rfl (L_pu (P_ld ag56 cL ⟨ac, 1, none⟩ (.slice A6 n7 c8) rfl (ag.cell rfl)) (L_rb aa rfl ?_))))))))
  refine L_call go101 [.slice A1 n2 c3, .slice A6 n7 c8] rfl ((F15.calls am ad.ok a.Pts A1 n2 c3 (hp4.st ad.st) b.Pts A6 n7 c8 (hp9.st ad.st) _ H).mono ?_)
  rintro _ av ⟨r, rfl, H, aq⟩
  have ar := ad.k0 aq
  exact L_pu (P_pick true (vb r) (by exact congrArg Value.bool aa) rfl) (L_as (vb r) rfl (L_nil (W_ret ⟨[vb r], ⟨_, rfl, rfl⟩, r, rfl, H, ar.gr.g0⟩)))
 have H := ite_f H aa
 refine L_pb aa rfl (L_pb aa rfl (L_pb aa rfl (L_pb aa rfl (L_pb aa rfl (L_pu (P_pick false (vb false) (by exact congrArg Value.bool aa) rfl) (L_as (vb false) rfl (L_nil (W_ret ?_))))))))
 exact ⟨[vb false], ⟨_, rfl, rfl⟩, false, rfl, H, ad.gr.g0⟩
end
section
open Go.RowKit
def F12.E (s1 : List Tag) (s2 : List Tag) (Q : Bool → Prop) : Prop :=
 (if (s1.length : Int) != (s2.length : Int) then Q false else (∃ (I32 : Int → Prop) (mu33 : Int → Nat), I32 0 ∧ ∀ (v2 : Int), I32 v2 → (if decide (v2 < (s1.length : Int)) then ((0 : Int) ≤ v2 ∧ v2 < (s1.length : Int)) ∧ ((0 : Int) ≤ v2 ∧ v2 < (s2.length : Int)) ∧ (if !(eqTag (nth s1 v2) (nth s2 v2)) then Q false else (I64 (v2 + 1)) ∧ I32 (v2 + 1) ∧ mu33 (v2 + 1) < mu33 v2) else Q true)))
theorem F12.calls {O : Ob} (w0 : World) (hO : Ok w0 O) (s1 : List Tag) (A1 : Option Addr) (n2 c3 : Nat) (hp4 : Sl kTag w0 (Fr O) (.slice A1 n2 c3) s1) (s2 : List Tag) (A6 : Option Addr) (n7 c8 : Nat) (hp9 : Sl kTag w0 (Fr O) (.slice A6 n7 c8) s2) (Q : Bool → Prop) (h : F12.E s1 s2 Q) :
  Ret Tryz.prog 69 [.slice A1 n2 c3, .slice A6 n7 c8] w0 (fun v w' => ∃ (r0 : Bool), v = vb r0 ∧ Q r0 ∧ Gr w0 w' none) := by
 unfold F12.E at h
 have H := h
 clear h
 have hc0 := Ct.init hO
 refine Ret_enter Tryz.func69 rfl 26 rfl [.tmp 4] rfl rfl ?_
 refine W_seq (W_reg (L_as (vb false) rfl (L_nil (W_seq (W_seq (W_reg (L_mv (.slice A1 n2 c3) rfl ?_)))))))
 have a3 := hp4.le
 refine L_pu (P_len Tryz.underlying59 A1 n2 c3 hp4.len rfl) (L_mv (.slice A6 n7 c8) rfl ?_)
 have a4 := hp9.le
 refine L_pu (P_len Tryz.underlying59 A6 n7 c8 hp9.len rfl) (L_pu (P_cmp (s1.length : Int) (s2.length : Int) ((s1.length : Int) != (s2.length : Int)) rfl rfl rfl) (L_nil ?_))
 refine W_cond ((s1.length : Int) != (s2.length : Int)) rfl (fun ab => ?_) (fun ab => ?_)
 ·have H := ite_t H ab
  exact W_seq (W_reg (L_as (vb false) rfl (L_nil (W_ret ⟨[vb false], ⟨_, rfl, rfl⟩, false, rfl, H, hc0.gr.g0⟩))))
 have H := ite_f H ab
 refine W_skip (W_seq (W_seq (W_reg (L_mv (.slice A1 n2 c3) rfl (L_pu (P_len Tryz.underlying59 A1 n2 c3 hp4.len rfl) (L_mv (vi 0) rfl (L_nil (W_block ?_))))))))
 obtain ⟨ap, aq, ac, H⟩ := H
 refine W_loop (α := Int) (fun (sv__ : Int) t aa => match sv__ with | v2 => ap v2 ∧ Has t [(0, .slice A1 n2 c3), (1, .slice A6 n7 c8), (12, vi (s1.length : Int)), (13, vi v2)] ∧ Ct [] w0 aa [] O ∧ Sl kTag aa (Fr ([] ++ O)) (.slice A1 n2 c3) s1 ∧ Sl kTag aa (Fr ([] ++ O)) (.slice A6 n7 c8) s2) (fun (sv__ : Int) => match sv__ with | v2 => aq v2) 0 ⟨ac, (hasI rfl), hc0, hp4, hp9⟩ ?_
 rintro v2 _ aa ⟨ac, ar, ad, ae, af⟩
 obtain ⟨a5, rfl⟩ := Has.ins ar
 have H := H v2 ac
 refine W_seq (W_reg (L_pu (P_cmp v2 (s1.length : Int) (decide (v2 < (s1.length : Int))) rfl rfl rfl) (L_nil (W_seq ?_))))
 refine W_cond (decide (v2 < (s1.length : Int))) rfl (fun ag => ?_) (fun ag => ?_)
 ·have H := ite_t H ag
  refine W_skip (W_seq (W_block (W_seq (W_reg (L_mv (vi v2) rfl (L_as (vi v2) rfl (L_nil (W_seq ?_))))))))
  refine W_draw (fun x => Gr aa x none) (by kernel_rfl) (by kernel_rfl) (Gr.drew _) ?_
  refine Q_mv (.slice A1 n2 c3) rfl (Q_mv (vi v2) rfl ?_)
  obtain ⟨ai, H⟩ := H
  obtain ⟨aj, a6, au, a7, av, aw⟩ := ae.get default (by decide) v2 ai
  obtain ⟨rfl, a8, a9⟩ := kTag.op av
  refine Q_pu (P_ia Tryz.underlying59 se59 A1 aj n2 c3 ae.len v2 rfl au rfl ai) (Q_pu (P_lda ag106 sz106 cQ (aj.add (v2.toNat * 2)) [vs ((nth s1 v2).Key), vs ((nth s1 v2).Val)] rfl rfl aw) (Q_mv (.slice A6 n7 c8) rfl (Q_mv (vi v2) rfl ?_)))
  obtain ⟨ak, H⟩ := H
  obtain ⟨al, ba, ax, bb, ay, az⟩ := af.get default (by decide) v2 ak
  obtain ⟨rfl, bc, bd⟩ := kTag.op ay
  refine Q_pu (P_ia Tryz.underlying59 se59 A6 al n7 c8 af.len v2 rfl ax rfl ak) (Q_pu (P_lda ag106 sz106 cQ (al.add (v2.toNat * 2)) [vs ((nth s2 v2).Key), vs ((nth s2 v2).Val)] rfl rfl az) (Q_pu (P_ne _ _ (eqTag (nth s1 v2) (nth s2 v2)) (qt106 (nth s1 v2) (nth s2 v2)) rfl rfl) (Q_nil fun be am => ?_)))
  have an := ad.k0 am
  refine W_cond (!(eqTag (nth s1 v2) (nth s2 v2))) rfl (fun ah => ?_) (fun ah => ?_)
  ·have H := ite_t H ah
   exact W_seq (W_reg (L_as (vb false) rfl (L_nil (W_ret ⟨[vb false], ⟨_, rfl, rfl⟩, false, rfl, H, an.gr.g0⟩))))
  have H := ite_f H ah
  refine W_skip (W_reg ?_)
  obtain ⟨a0, H⟩ := H
  refine L_pu (P_add v2 1 rfl rfl a0) (L_mv (vi (v2 + 1)) rfl (L_nil ?_))
  obtain ⟨a1, a2⟩ := H
  have ao := ad.stn am
  exact ⟨v2 + 1, a2, a1, (hasI rfl), an, (ae.st ao), (af.st ao)⟩
 have H := ite_f H ag
 refine W_exit (xin_hit ?_)
 exact W_seq (W_reg (L_as (vb true) rfl (L_nil (W_ret ⟨[vb true], ⟨_, rfl, rfl⟩, true, rfl, H, ad.gr.g0⟩))))
end
section
open Go.RowKit
def F37.E (a : Feat) (b : Feat) (Q : Bool → Prop) : Prop :=
 (if a.Id == b.Id then F26.E a.Shape b.Shape (fun r => (if r then F12.E a.Tags b.Tags (fun r2 => Q r2) else Q false)) else Q false)
theorem F37.calls {O : Ob} (w0 : World) (hO : Ok w0 O) (a : Feat) (A2 : Option Addr) (n3 c4 : Nat) (A7 : Option Addr) (n8 c9 : Nat) (hs1 : Lim a.Id) (hp5 : Sl kPt w0 (Fr O) (.slice A2 n3 c4) a.Shape.Pts) (au : Sl kTag w0 (Fr O) (.slice A7 n8 c9) a.Tags) (b : Feat) (ae : Option Addr) (af ag : Nat) (ah : Option Addr) (ai aj : Nat) (ba : Lim b.Id) (av : Sl kPt w0 (Fr O) (.slice ae af ag) b.Shape.Pts) (aw : Sl kTag w0 (Fr O) (.slice ah ai aj) b.Tags) (Q : Bool → Prop) (h : F37.E a b Q) :
  Ret Tryz.prog 35 [.agg #[vs a.Id, vi a.Shape.Kind, .slice A2 n3 c4, .slice A7 n8 c9], .agg #[vs b.Id, vi b.Shape.Kind, .slice ae af ag, .slice ah ai aj]] w0 (fun v w' => ∃ (r0 : Bool), v = vb r0 ∧ Q r0 ∧ Gr w0 w' none) := by
 unfold F37.E at h
 have H := h
 clear h
 have hc0 := Ct.init hO
 refine Ret_enter Tryz.func35 rfl 24 rfl [.tmp 4] rfl rfl ?_
 refine W_seq (W_reg (L_box [vs a.Id, vi a.Shape.Kind, .slice A2 n3 c4, .slice A7 n8 c9] rfl fun bb ac ax hu27 ay az => ?_))
 have a0 := Fb.mk hc0.ok ax az
 have am := hc0.k0 ay
 refine L_box [vs b.Id, vi b.Shape.Kind, .slice ae af ag, .slice ah ai aj] rfl fun a1 ad a2 hu36 ap a3 => ?_
 have an := Fb.mk am.ok a2 a3
 have ak := am.k0 ap
 refine L_as (vb false) rfl (L_nil (W_seq (W_reg (L_pu (P_fa fa61_0 ⟨ac, 0, none⟩ ⟨ac, 0, none⟩ rfl rfl) ?_))))
 have a4 := am.stn ap
 have ao := (a0.st a4)
 refine L_pu (P_ld ag9 cL ⟨ac, 0, none⟩ (vs a.Id) rfl (ao.cell rfl)) (L_pu (P_fa fa61_0 ⟨ad, 0, none⟩ ⟨ad, 0, none⟩ rfl rfl) (L_pu (P_ld ag9 cL ⟨ad, 0, none⟩ (vs b.Id) rfl (an.cell rfl)) (L_pu (P_scmp a.Id b.Id (a.Id == b.Id) rfl rfl rfl) (L_mv (vb (a.Id == b.Id)) rfl ?_))))
 rcases bool_or (a.Id == b.Id) with aa | aa
 ·have H := ite_t H aa
  refine L_rb aa rfl (L_pu (P_fa fa61_1 ⟨ac, 0, none⟩ ⟨ac, 1, none⟩ rfl rfl) (L_rb aa rfl (L_pu (P_lda ag58 sz58 cL ⟨ac, 1, none⟩ [vi a.Shape.Kind, .slice A2 n3 c4] rfl rfl (ao.cells (off := 1) rfl)) (L_rb aa rfl (L_pu (P_fa fa61_1 ⟨ad, 0, none⟩ ⟨ad, 1, none⟩ rfl rfl) (L_rb aa rfl (L_pu (P_lda ag58 sz58 cL ⟨ad, 1, none⟩ [vi b.Shape.Kind, .slice ae af ag] rfl rfl (an.cells (off := 1) rfl)) (L_rb aa rfl ?_))))))))
  refine L_call go68 [.agg #[vi a.Shape.Kind, .slice A2 n3 c4], .agg #[vi b.Shape.Kind, .slice ae af ag]] rfl ((F26.calls a1 ak.ok a.Shape A2 n3 c4 (hp5.st ak.st) b.Shape ae af ag (av.st ak.st) _ H).mono ?_)
  rintro _ a5 ⟨r, rfl, H, aq⟩
  have al := ak.k0 aq
  refine L_pu (P_pick true (vb r) (by exact congrArg Value.bool aa) rfl) (L_mv (vb r) rfl ?_)
  rcases bool_or r with ab | ab
  ·have H := ite_t H ab
   refine L_rb ab rfl (L_pu (P_fa fa61_2 ⟨ac, 0, none⟩ ⟨ac, 3, none⟩ rfl rfl) (L_rb ab rfl ?_))
   have ar := ak.stn aq
   have a6 := (ao.st ar)
   refine L_pu (P_ld ag59 cL ⟨ac, 3, none⟩ (.slice A7 n8 c9) rfl (a6.cell rfl)) (L_rb ab rfl (L_pu (P_fa fa61_2 ⟨ad, 0, none⟩ ⟨ad, 3, none⟩ rfl rfl) (L_rb ab rfl ?_)))
   have a7 := (an.st ar)
   refine L_pu (P_ld ag59 cL ⟨ad, 3, none⟩ (.slice ah ai aj) rfl (a7.cell rfl)) (L_rb ab rfl ?_)
   refine L_call go69 [.slice A7 n8 c9, .slice ah ai aj] rfl ((F12.calls a5 al.ok a.Tags A7 n8 c9 (au.st al.st) b.Tags ah ai aj (aw.st al.st) _ H).mono ?_)
   rintro _ bc ⟨r2, rfl, H, a8⟩
   have a9 := al.k0 a8
   exact L_pu (P_pick true (vb r2) (by exact congrArg Value.bool ab) rfl) (L_as (vb r2) rfl (L_nil (W_ret ⟨[vb r2], ⟨_, rfl, rfl⟩, r2, rfl, H, a9.gr.g0⟩)))
  have H := ite_f H ab
  refine L_pb ab rfl (L_pb ab rfl (L_pb ab rfl (L_pb ab rfl (L_pb ab rfl (L_pu (P_pick false (vb false) (by exact congrArg Value.bool ab) rfl) (L_as (vb false) rfl (L_nil (W_ret ?_))))))))
  exact ⟨[vb false], ⟨_, rfl, rfl⟩, false, rfl, H, al.gr.g0⟩
 have H := ite_f H aa
 refine L_pb aa rfl (L_pb aa rfl (L_pb aa rfl (L_pb aa rfl (L_pb aa rfl (L_pu (P_pick false (vb false) (by exact congrArg Value.bool aa) rfl) (L_mv (vb false) rfl (L_pass (dj := 17) rfl rfl (.inl rfl) (L_pass (dj := 17) rfl rfl (.inl rfl) ?_))))))))
 exact L_pass (dj := 17) rfl rfl (.inl rfl) (L_pass (dj := 17) rfl rfl (.inl rfl) (L_pass (dj := 17) rfl rfl (.inl rfl) (L_pu (P_pick false (vb false) (by exact congrArg Value.bool rfl) rfl) (L_as (vb false) rfl (L_nil (W_ret ⟨[vb false], ⟨_, rfl, rfl⟩, false, rfl, H, ak.gr.g0⟩))))))
end
section
open Go.RowKit
def F32.E (a : thing) (b : thing) (Q : Bool → Prop) : Prop :=
 (if a.has == b.has then F37.E a.f b.f (fun r => Q r) else Q false)
theorem F32.calls {O : Ob} (w0 : World) (hO : Ok w0 O) (a : thing) (A2 : Option Addr) (n3 c4 : Nat) (A7 : Option Addr) (n8 c9 : Nat) (hs1 : Lim a.f.Id) (hp5 : Sl kPt w0 (Fr O) (.slice A2 n3 c4) a.f.Shape.Pts) (ao : Sl kTag w0 (Fr O) (.slice A7 n8 c9) a.f.Tags) (b : thing) (ac : Option Addr) (ad ae : Nat) (af : Option Addr) (ag ah : Nat) (ap : Lim b.f.Id) (aq : Sl kPt w0 (Fr O) (.slice ac ad ae) b.f.Shape.Pts) (ar : Sl kTag w0 (Fr O) (.slice af ag ah) b.f.Tags) (Q : Bool → Prop) (h : F32.E a b Q) :
  Ret Tryz.prog 52 [.agg #[vb a.has, vs a.f.Id, vi a.f.Shape.Kind, .slice A2 n3 c4, .slice A7 n8 c9], .agg #[vb b.has, vs b.f.Id, vi b.f.Shape.Kind, .slice ac ad ae, .slice af ag ah]] w0 (fun v w' => ∃ (r0 : Bool), v = vb r0 ∧ Q r0 ∧ Gr w0 w' none) := by
 unfold F32.E at h
 have H := h
 clear h
 have hc0 := Ct.init hO
 refine Ret_enter Tryz.func52 rfl 17 rfl [.tmp 4] rfl rfl ?_
 refine W_seq (W_reg (L_box [vb a.has, vs a.f.Id, vi a.f.Shape.Kind, .slice A2 n3 c4, .slice A7 n8 c9] rfl fun a4 ai au hu27 av aw => ?_))
 have ax := Fb.mk hc0.ok au aw
 have ak := hc0.k0 av
 refine L_box [vb b.has, vs b.f.Id, vi b.f.Shape.Kind, .slice ac ad ae, .slice af ag ah] rfl fun ay aj az hu36 al a0 => ?_
 have am := Fb.mk ak.ok az a0
 have ab := ak.k0 al
 refine L_as (vb false) rfl (L_nil (W_seq (W_reg (L_pu (P_fa fa84_0 ⟨ai, 0, none⟩ ⟨ai, 0, none⟩ rfl rfl) ?_))))
 have a1 := ak.stn al
 have an := (ax.st a1)
 refine L_pu (P_ld ag4 cL ⟨ai, 0, none⟩ (vb a.has) rfl (an.cell rfl)) (L_pu (P_fa fa84_0 ⟨aj, 0, none⟩ ⟨aj, 0, none⟩ rfl rfl) (L_pu (P_ld ag4 cL ⟨aj, 0, none⟩ (vb b.has) rfl (am.cell rfl)) (L_pu (P_bcmp Tryz.underlying4 a.has b.has (a.has == b.has) rfl rfl rfl) (L_mv (vb (a.has == b.has)) rfl ?_))))
 rcases bool_or (a.has == b.has) with aa | aa
 ·have H := ite_t H aa
  refine L_rb aa rfl (L_pu (P_fa fa84_1 ⟨ai, 0, none⟩ ⟨ai, 1, none⟩ rfl rfl) (L_rb aa rfl (L_pu (P_lda ag61 sz61 cL ⟨ai, 1, none⟩ [vs a.f.Id, vi a.f.Shape.Kind, .slice A2 n3 c4, .slice A7 n8 c9] rfl rfl (an.cells (off := 1) rfl)) (L_rb aa rfl (L_pu (P_fa fa84_1 ⟨aj, 0, none⟩ ⟨aj, 1, none⟩ rfl rfl) (L_rb aa rfl (L_pu (P_lda ag61 sz61 cL ⟨aj, 1, none⟩ [vs b.f.Id, vi b.f.Shape.Kind, .slice ac ad ae, .slice af ag ah] rfl rfl (am.cells (off := 1) rfl)) (L_rb aa rfl ?_))))))))
  refine L_call go35 [.agg #[vs a.f.Id, vi a.f.Shape.Kind, .slice A2 n3 c4, .slice A7 n8 c9], .agg #[vs b.f.Id, vi b.f.Shape.Kind, .slice ac ad ae, .slice af ag ah]] rfl ((F37.calls ay ab.ok a.f A2 n3 c4 A7 n8 c9 hs1 (hp5.st ab.st) (ao.st ab.st) b.f ac ad ae af ag ah ap (aq.st ab.st) (ar.st ab.st) _ H).mono ?_)
  rintro _ a5 ⟨r, rfl, H, a2⟩
  have a3 := ab.k0 a2
  exact L_pu (P_pick true (vb r) (by exact congrArg Value.bool aa) rfl) (L_as (vb r) rfl (L_nil (W_ret ⟨[vb r], ⟨_, rfl, rfl⟩, r, rfl, H, a3.gr.g0⟩)))
 have H := ite_f H aa
 refine L_pb aa rfl (L_pb aa rfl (L_pb aa rfl (L_pb aa rfl (L_pb aa rfl (L_pu (P_pick false (vb false) (by exact congrArg Value.bool aa) rfl) (L_as (vb false) rfl (L_nil (W_ret ?_))))))))
 exact ⟨[vb false], ⟨_, rfl, rfl⟩, false, rfl, H, ab.gr.g0⟩
end
section
open Go.RowKit
def F9.E (base_ : Shape) (a : Shape) (b : Shape) (same : Shape → Shape → Bool) (same_ok : Shape → Shape → Prop) (Q : Shape → Bool → Prop) : Prop :=
 (same_ok a base_) ∧ (if (same a base_) then Q b true else (same_ok b base_) ∧ (if (same b base_) then Q a true else (same_ok a b) ∧ (if (same a b) then Q a true else Q a false)))
theorem F9.calls {O : Ob} (w0 : World) (hO : Ok w0 O) (base_ : Shape) (A1 : Option Addr) (n2 c3 : Nat) (hp4 : Sl kPt w0 (Fr O) (.slice A1 n2 c3) base_.Pts) (a : Shape) (A6 : Option Addr) (n7 c8 : Nat) (hp9 : Sl kPt w0 (Fr O) (.slice A6 n7 c8) a.Pts) (b : Shape) (aa : Option Addr) (ab ac : Nat) (ar : Sl kPt w0 (Fr O) (.slice aa ab ac) b.Pts) (ai : FuncId) (ad : List Value) (same : Shape → Shape → Bool) (same_ok : Shape → Shape → Prop) (au : Goes Tryz.prog ai) (av : ∀ (w : World) (L : Ob), Ct [] w0 w L O → ∀ (x0_ : Shape) (a3 : Option Addr) (a4 a5 : Nat) (c2 : Sl kPt w (Fr (L ++ O)) (.slice a3 a4 a5) x0_.Pts) (x1_ : Shape) (a6 : Option Addr) (a7 a8 : Nat) (c4 : Sl kPt w (Fr (L ++ O)) (.slice a6 a7 a8) x1_.Pts), same_ok x0_ x1_ → Ret Tryz.prog ai ([.agg #[vi x0_.Kind, .slice a3 a4 a5], .agg #[vi x1_.Kind, .slice a6 a7 a8]] ++ ad) w (fun v w' => v = vb (same x0_ x1_) ∧ Gr w w' none)) (Q : Shape → Bool → Prop) (h : F9.E base_ a b same same_ok Q) :
  Ret Tryz.prog 81 [.agg #[vi base_.Kind, .slice A1 n2 c3], .agg #[vi a.Kind, .slice A6 n7 c8], .agg #[vi b.Kind, .slice aa ab ac], .func (.func ai) #[] ad.toArray] w0 (fun v w' => ∃ (r0 : Shape) (r1 : Bool) (A0 : Option Addr) (n0 c0 : Nat), v = .tuple #[.agg #[vi r0.Kind, .slice A0 n0 c0], vb r1] ∧ Q r0 r1 ∧ Gr w0 w' none ∧ Sl kPt w' (Fr O) (.slice A0 n0 c0) r0.Pts) := by
 unfold F9.E at h
 have H := h
 clear h
 have hc0 := Ct.init hO
 refine Ret_enter Tryz.func81 rfl 27 rfl [.cell 8 58, .tmp 9] rfl rfl ?_
 refine W_seq (W_reg (L_box [vi base_.Kind, .slice A1 n2 c3] rfl fun c5 a9 bu hu24 bv bw => ?_))
 have bx := Fb.mk hc0.ok bu bw
 have aw := hc0.k0 bv
 refine L_box [vi a.Kind, .slice A6 n7 c8] rfl fun c6 al bz hu33 ba b0 => ?_
 have b1 := Fb.mk aw.ok bz b0
 have ax := aw.k0 ba
 refine L_box [vi b.Kind, .slice aa ab ac] rfl fun c7 ay b2 hu42 bb b3 => ?_
 have bc := Fb.mk ax.ok b2 b3
 have bd := ax.k0 bb
 refine L_alloc [.int .i64 0, .slice none 0 0] ze58 fun b4 ae be hu51 bf an => ?_
 have aj := bd.own bf (some ae) (oglt be hu51)
 refine L_as (vb false) rfl (L_nil (W_seq (W_block (W_seq (W_reg (L_mv (.func (.func ai) #[] ad.toArray) rfl ?_))))))
 have bg := ax.stn bb
 have ao := bd.stown _ bf (oge be)
 have az := ((b1.st bg).st ao)
 refine L_pu (P_lda ag58 sz58 cL ⟨al, 0, none⟩ [vi a.Kind, .slice A6 n7 c8] rfl rfl (az.cells (off := 0) rfl)) ?_
 have b5 := aw.stn ba
 have bh := (((bx.st b5).st bg).st ao)
 refine L_pu (P_lda ag58 sz58 cL ⟨a9, 0, none⟩ [vi base_.Kind, .slice A1 n2 c3] rfl rfl (bh.cells (off := 0) rfl)) ?_
 obtain ⟨b6, H⟩ := H
 refine L_callv au ad rfl [.agg #[vi a.Kind, .slice A6 n7 c8], .agg #[vi base_.Kind, .slice A1 n2 c3]] rfl ((av b4 [some ae] aj a A6 n7 c8 (hp9.st aj.st) base_ A1 n2 c3 (hp4.st aj.st) b6).mono ?_)
 rintro _ b7 ⟨rfl, af⟩
 have ag := aj.k0 af
 refine L_as (vb (same a base_)) rfl (L_nil ?_)
 refine W_cond (same a base_) rfl (fun a0 => ?_) (fun a0 => ?_)
 ·have H := ite_t H a0
  refine W_seq (W_reg ?_)
  have b8 := aj.stn af
  have b9 := ((bc.st ao).st b8)
  refine L_pu (P_lda ag58 sz58 cL ⟨ay, 0, none⟩ [vi b.Kind, .slice aa ab ac] rfl rfl (b9.cells (off := 0) rfl)) ?_
  have ca := (an.k0 af)
  refine L_stb ae 0 [vi 0, .slice none 0 0] [vi b.Kind, .slice aa ab ac] [vi b.Kind, .slice aa ab ac] rfl ca rfl sz58 rfl rfl rfl fun c9 cb cc => ?_
  have bi := ag.wr 0 rfl cb
  refine L_as (vb true) rfl (L_nil (W_ret ?_))
  have cd := bi.bgv cc 0 rfl
  have bj := bi.drop 0 rfl
  exact ⟨[.agg #[vi b.Kind, .slice aa ab ac], vb true], ⟨_, _, rfl, cd.1.res rfl ag58 sz58, ⟨_, rfl, rfl⟩⟩, b, true, aa, ab, ac, rfl, H, bj.gr.g0, (ar.st bj.st)⟩
 have H := ite_f H a0
 refine W_seq (W_seq (W_reg (L_mv (.func (.func ai) #[] ad.toArray) rfl ?_)))
 have ap := aj.stn af
 have bl := ((bc.st ao).st ap)
 refine L_pu (P_lda ag58 sz58 cL ⟨ay, 0, none⟩ [vi b.Kind, .slice aa ab ac] rfl rfl (bl.cells (off := 0) rfl)) ?_
 have ce := (bh.st ap)
 refine L_pu (P_lda ag58 sz58 cL ⟨a9, 0, none⟩ [vi base_.Kind, .slice A1 n2 c3] rfl rfl (ce.cells (off := 0) rfl)) ?_
 obtain ⟨cf, H⟩ := H
 refine L_callv au ad rfl [.agg #[vi b.Kind, .slice aa ab ac], .agg #[vi base_.Kind, .slice A1 n2 c3]] rfl ((av b7 [some ae] ag b aa ab ac (ar.st ag.st) base_ A1 n2 c3 (hp4.st ag.st) cf).mono ?_)
 rintro _ cg ⟨rfl, ak⟩
 have ah := ag.k0 ak
 refine L_as (vb (same b base_)) rfl (L_nil ?_)
 refine W_cond (same b base_) rfl (fun aq => ?_) (fun aq => ?_)
 ·have H := ite_t H aq
  refine W_skip (W_ct (b := (same b base_)) rfl aq ?_)
  refine W_seq (W_reg ?_)
  have ch := ag.stn ak
  have ci := ((az.st ap).st ch)
  refine L_pu (P_lda ag58 sz58 cL ⟨al, 0, none⟩ [vi a.Kind, .slice A6 n7 c8] rfl rfl (ci.cells (off := 0) rfl)) ?_
  have cj := ((an.k0 af).k0 ak)
  refine L_stb ae 0 [vi 0, .slice none 0 0] [vi a.Kind, .slice A6 n7 c8] [vi a.Kind, .slice A6 n7 c8] rfl cj rfl sz58 rfl rfl rfl fun da ck cl => ?_
  have bm := ah.wr 0 rfl ck
  refine L_as (vb true) rfl (L_nil (W_ret ?_))
  have cm := bm.bgv cl 0 rfl
  have bn := bm.drop 0 rfl
  exact ⟨[.agg #[vi a.Kind, .slice A6 n7 c8], vb true], ⟨_, _, rfl, cm.1.res rfl ag58 sz58, ⟨_, rfl, rfl⟩⟩, a, true, A6, n7, c8, rfl, H, bn.gr.g0, (hp9.st bn.st)⟩
 have H := ite_f H aq
 refine W_reg (L_mv (.func (.func ai) #[] ad.toArray) rfl ?_)
 have bo := ag.stn ak
 have a1 := ((az.st ap).st bo)
 refine L_pu (P_lda ag58 sz58 cL ⟨al, 0, none⟩ [vi a.Kind, .slice A6 n7 c8] rfl rfl (a1.cells (off := 0) rfl)) ?_
 have cn := (bl.st bo)
 refine L_pu (P_lda ag58 sz58 cL ⟨ay, 0, none⟩ [vi b.Kind, .slice aa ab ac] rfl rfl (cn.cells (off := 0) rfl)) ?_
 obtain ⟨co, H⟩ := H
 refine L_callv au ad rfl [.agg #[vi a.Kind, .slice A6 n7 c8], .agg #[vi b.Kind, .slice aa ab ac]] rfl ((av cg [some ae] ah a A6 n7 c8 (hp9.st ah.st) b aa ab ac (ar.st ah.st) co).mono ?_)
 rintro _ db ⟨rfl, am⟩
 have bp := ah.k0 am
 refine L_as (vb (same a b)) rfl (L_nil ?_)
 refine W_cond (same a b) rfl (fun a2 => ?_) (fun a2 => ?_)
 ·have H := ite_t H a2
  refine W_seq (W_reg ?_)
  have cp := ah.stn am
  have cq := (a1.st cp)
  refine L_pu (P_lda ag58 sz58 cL ⟨al, 0, none⟩ [vi a.Kind, .slice A6 n7 c8] rfl rfl (cq.cells (off := 0) rfl)) ?_
  have cr := (((an.k0 af).k0 ak).k0 am)
  refine L_stb ae 0 [vi 0, .slice none 0 0] [vi a.Kind, .slice A6 n7 c8] [vi a.Kind, .slice A6 n7 c8] rfl cr rfl sz58 rfl rfl rfl fun dc cs ct => ?_
  have bq := bp.wr 0 rfl cs
  refine L_as (vb true) rfl (L_nil (W_ret ?_))
  have cu := bq.bgv ct 0 rfl
  have br := bq.drop 0 rfl
  exact ⟨[.agg #[vi a.Kind, .slice A6 n7 c8], vb true], ⟨_, _, rfl, cu.1.res rfl ag58 sz58, ⟨_, rfl, rfl⟩⟩, a, true, A6, n7, c8, rfl, H, br.gr.g0, (hp9.st br.st)⟩
 have H := ite_f H a2
 refine W_skip (W_seq (W_reg ?_))
 have cv := ah.stn am
 have cw := (a1.st cv)
 refine L_pu (P_lda ag58 sz58 cL ⟨al, 0, none⟩ [vi a.Kind, .slice A6 n7 c8] rfl rfl (cw.cells (off := 0) rfl)) ?_
 have cx := (((an.k0 af).k0 ak).k0 am)
 refine L_stb ae 0 [vi 0, .slice none 0 0] [vi a.Kind, .slice A6 n7 c8] [vi a.Kind, .slice A6 n7 c8] rfl cx rfl sz58 rfl rfl rfl fun dd cy cz => ?_
 have bs := bp.wr 0 rfl cy
 refine L_as (vb false) rfl (L_nil (W_ret ?_))
 have c1 := bs.bgv cz 0 rfl
 have bt := bs.drop 0 rfl
 exact ⟨[.agg #[vi a.Kind, .slice A6 n7 c8], vb false], ⟨_, _, rfl, c1.1.res rfl ag58 sz58, ⟨_, rfl, rfl⟩⟩, a, false, A6, n7, c8, rfl, H, bt.gr.g0, (hp9.st bt.st)⟩
end
section
open Go.RowKit
def F65.E (a : List Pt) (b : List Pt) (Q : List (List Int) → Prop) : Prop :=
 ((a.length : Int) ≤ 9223372036854775807 → I64 ((a.length : Int) + 1)) ∧ ((0 : Int) ≤ (a.length : Int) + 1 ∧ (a.length : Int) + 1 ≤ (268435456 : Int)) ∧ (∃ (I59 : (List (List Int)) → Int → Prop) (mu60 : (List (List Int)) → Int → Nat), I59 (List.replicate ((a.length : Int) + 1).toNat ([] : List Int)) 0 ∧ ∀ (xs2 : List (List Int)) (v2 : Int), I59 xs2 v2 → (if decide (v2 < ((List.replicate ((a.length : Int) + 1).toNat ([] : List Int)).length : Int)) then ((b.length : Int) ≤ 9223372036854775807 → I64 ((b.length : Int) + 1)) ∧ ((0 : Int) ≤ (b.length : Int) + 1 ∧ (b.length : Int) + 1 ≤ (268435456 : Int)) ∧ ((0 : Int) ≤ v2 ∧ v2 < (xs2.length : Int)) ∧ ((b.length : Int) ≤ 9223372036854775807 → I64 (v2 + 1)) ∧ I59 (xs2.set v2.toNat (List.replicate ((b.length : Int) + 1).toNat (0 : Int))) (v2 + 1) ∧ mu60 (xs2.set v2.toNat (List.replicate ((b.length : Int) + 1).toNat (0 : Int))) (v2 + 1) < mu60 xs2 v2 else ((a.length : Int) ≤ 9223372036854775807 → I64 ((a.length : Int) - 1)) ∧ (∃ (I147 : (List (List Int)) → Int → Prop) (mu148 : (List (List Int)) → Int → Nat), I147 xs2 ((a.length : Int) - 1) ∧ ∀ (xs4 : List (List Int)) (i2 : Int), I147 xs4 i2 → (if decide (i2 ≥ 0) then ((b.length : Int) ≤ 9223372036854775807 → I64 ((b.length : Int) - 1)) ∧ (∃ (I189 : (List (List Int)) → Int → Prop) (mu190 : (List (List Int)) → Int → Nat), I189 xs4 ((b.length : Int) - 1) ∧ ∀ (xs6 : List (List Int)) (j2 : Int), I189 xs6 j2 → (if decide (j2 ≥ 0) then ((0 : Int) ≤ i2 ∧ i2 < (a.length : Int)) ∧ ((0 : Int) ≤ j2 ∧ j2 < (b.length : Int)) ∧ (if eqPt (nth a i2) (nth b j2) then ((0 : Int) ≤ i2 ∧ i2 < (xs6.length : Int)) ∧ (I64 (i2 + 1)) ∧ ((0 : Int) ≤ i2 + 1 ∧ i2 + 1 < (xs6.length : Int)) ∧ (I64 (j2 + 1)) ∧ ((0 : Int) ≤ j2 + 1 ∧ j2 + 1 < ((nth xs6 (i2 + 1)).length : Int)) ∧ (I64 ((nth (nth xs6 (i2 + 1)) (j2 + 1)) + 1)) ∧ ((0 : Int) ≤ j2 ∧ j2 < ((nth xs6 i2).length : Int)) ∧ (I64 (j2 - 1)) ∧ I189 (xs6.set i2.toNat ((nth xs6 i2).set j2.toNat ((nth (nth xs6 (i2 + 1)) (j2 + 1)) + 1))) (j2 - 1) ∧ mu190 (xs6.set i2.toNat ((nth xs6 i2).set j2.toNat ((nth (nth xs6 (i2 + 1)) (j2 + 1)) + 1))) (j2 - 1) < mu190 xs6 j2 else ((0 : Int) ≤ i2 ∧ i2 < (xs6.length : Int)) ∧ (I64 (i2 + 1)) ∧ ((0 : Int) ≤ i2 + 1 ∧ i2 + 1 < (xs6.length : Int)) ∧ ((0 : Int) ≤ j2 ∧ j2 < ((nth xs6 (i2 + 1)).length : Int)) ∧ ((0 : Int) ≤ i2 ∧ i2 < (xs6.length : Int)) ∧ (I64 (j2 + 1)) ∧ ((0 : Int) ≤ j2 + 1 ∧ j2 + 1 < ((nth xs6 i2).length : Int)) ∧ ((0 : Int) ≤ j2 ∧ j2 < ((nth xs6 i2).length : Int)) ∧ (I64 (j2 - 1)) ∧ I189 (xs6.set i2.toNat ((nth xs6 i2).set j2.toNat (max (nth (nth xs6 (i2 + 1)) j2) (nth (nth xs6 i2) (j2 + 1))))) (j2 - 1) ∧ mu190 (xs6.set i2.toNat ((nth xs6 i2).set j2.toNat (max (nth (nth xs6 (i2 + 1)) j2) (nth (nth xs6 i2) (j2 + 1))))) (j2 - 1) < mu190 xs6 j2) else (I64 (i2 - 1)) ∧ I147 xs6 (i2 - 1) ∧ mu148 xs6 (i2 - 1) < mu148 xs4 i2)) else Q xs4))))
theorem F65.calls {O : Ob} (w0 : World) (hO : Ok w0 O) (a : List Pt) (A1 : Option Addr) (n2 c3 : Nat) (hp4 : Sl kPt w0 (Fr O) (.slice A1 n2 c3) a) (b : List Pt) (A6 : Option Addr) (n7 c8 : Nat) (hp9 : Sl kPt w0 (Fr O) (.slice A6 n7 c8) b) (Q : List (List Int) → Prop) (h : F65.E a b Q) :
  Ret Tryz.prog 143 [.slice A1 n2 c3, .slice A6 n7 c8] w0 (fun v w' => ∃ (r0 : List (List Int)) (A0 : Option Addr) (n0 c0 : Nat), v = .slice A0 n0 c0 ∧ Q r0 ∧ Gr w0 w' none ∧ Sl (Kd.sl (Kd.int .i64)) w' (Fr O) (.slice A0 n0 c0) r0) := by
 unfold F65.E at h
 have H := h
 clear h
 have hc0 := Ct.init hO
 refine Ret_enter Tryz.func143 rfl 89 rfl [.tmp 4] rfl rfl ?_
 refine W_seq (W_reg (L_as (.slice none 0 0) rfl (L_nil (W_seq (W_reg (L_mv (.slice A1 n2 c3) rfl ?_))))))
 have dk := hp4.le
 refine L_pu (P_len Tryz.underlying56 A1 n2 c3 hp4.len rfl) ?_
 obtain ⟨dl, H⟩ := H
 have dm := dl (len_le dk)
 refine L_pu (P_add (a.length : Int) 1 rfl rfl dm) ?_
 obtain ⟨dn, H⟩ := H
 refine L_make (kd := Kd.raw) ei183 hc0 (.slice none 0 0 : Value) ⟨rfl, rfl⟩ ((a.length : Int) + 1) rfl rfl dn fun dp ad ae af f6 hr20 dq dr => ?_
 have a2 : Tb (Kd.int .i64) 187 3 dp _ _ _ (List.replicate ((a.length : Int) + 1).toNat []) := dr.nones
 have a3 := dq.nones ((a.length : Int) + 1).toNat
 refine L_as (.slice ad ae af) rfl (L_nil (W_seq (W_seq (W_reg (L_mv (.slice ad ae af) rfl ?_)))))
 have f7 := a2.le
 refine L_pu (P_len Tryz.underlying183 ad ae af a2.len rfl) (L_mv (vi 0) rfl (L_nil (W_block ?_)))
 obtain ⟨ds, dt, a4, H⟩ := H
 refine W_loop (α := (List (List Int)) × (List Value) × Int) (fun (sv__ : (List (List Int)) × (List Value) × Int) t ap => match sv__ with | (xs2, ag, v2) => ds xs2 v2 ∧ Has t [(0, .slice A1 n2 c3), (1, .slice A6 n7 c8), (5, .slice ad ae af), (14, vi ((List.replicate ((a.length : Int) + 1).toNat ([] : List Int)).length : Int)), (15, vi v2)] ∧ Ct [] w0 ap (blk (.slice ad ae af) :: (ag).map blk) O ∧ Sl kPt ap (Fr ((blk (.slice ad ae af) :: (ag).map blk) ++ O)) (.slice A1 n2 c3) a ∧ Sl kPt ap (Fr ((blk (.slice ad ae af) :: (ag).map blk) ++ O)) (.slice A6 n7 c8) b ∧ Tb (Kd.int .i64) 187 3 ap ((blk (.slice ad ae af) :: (ag).map blk) ++ O) (.slice ad ae af) ag xs2) (fun (sv__ : (List (List Int)) × (List Value) × Int) => match sv__ with | (xs2, _, v2) => dt xs2 v2) ((List.replicate ((a.length : Int) + 1).toNat ([] : List Int)), (List.replicate ((a.length : Int) + 1).toNat (Value.slice none 0 0)), 0) ⟨a4, (hasI rfl), a3, (hp4.st a3.st), (hp9.st a3.st), a2⟩ ?_
 rintro ⟨xs2, ag, v2⟩ _ ap ⟨a4, du, a5, ax, ay, b0⟩
 obtain ⟨f8, rfl⟩ := Has.ins du
 have H := H xs2 v2 a4
 refine W_seq (W_reg (L_pu (P_cmp v2 ((List.replicate ((a.length : Int) + 1).toNat ([] : List Int)).length : Int) (decide (v2 < ((List.replicate ((a.length : Int) + 1).toNat ([] : List Int)).length : Int))) rfl rfl rfl) (L_nil (W_seq ?_))))
 refine W_cond (decide (v2 < ((List.replicate ((a.length : Int) + 1).toNat ([] : List Int)).length : Int))) rfl (fun a6 => ?_) (fun a6 => ?_)
 ·have H := ite_t H a6
  refine W_skip (W_seq (W_block (W_seq (W_reg (L_mv (vi v2) rfl (L_as (vi v2) rfl (L_nil (W_reg ?_))))))))
  refine L_mv (.slice ad ae af) rfl (L_mv (vi v2) rfl (L_mv (.slice A6 n7 c8) rfl ?_))
  have b1 := ay.le
  refine L_pu (P_len Tryz.underlying56 A6 n7 c8 ay.len rfl) ?_
  obtain ⟨dv, H⟩ := H
  have dw := dv (len_le b1)
  refine L_pu (P_add (b.length : Int) 1 rfl rfl dw) ?_
  obtain ⟨dx, H⟩ := H
  refine L_make (kd := (Kd.int .i64)) ei187 a5 (0 : Int) (rfl) ((b.length : Int) + 1) rfl rfl dx fun f9 ak al am b2 hr75 b3 dy => ?_
  obtain ⟨az, H⟩ := H
  have an := (b0.own _ b2 hr75)
  obtain ⟨b4, ga, gb, gc, a7, gd, ge, gf⟩ := an.get v2 az
  refine L_pu (P_ia Tryz.underlying183 se183 ad b4 ae af an.len v2 rfl a7 rfl az) ?_
  have a8 : (0 : Int) ≤ v2 ∧ v2 < ((ag).length : Int) := by rw [an.2.1]; exact az
  obtain ⟨gg, gh, dz, b5, d0⟩ := an.1.get (default : Value) (by decide) v2 a8
  obtain rfl := Option.some.inj (a7.symm.trans dz)
  refine L_ste0 ad ae af ag an.1 v2 a8 b4 a7 0 rfl [.slice ak al am] rfl sz187 rfl (.slice ak al am) _ [.slice ak al am] d0 (by rw [b5.1]; rfl) (by rw [b5.1]; rfl) ⟨rfl, rfl⟩ fun gi a9 d1 => ?_
  have d2 := Tb.sto (O := O) an b3 dy v2 az a9 d1
  have d3 := Ct.sto (u := .slice ak al am) b3 v2 a8 a9
  have b6 := St.sto (u := (.slice ak al am)) (vs := ag) (O := O) v2 a9
  refine L_nil (W_reg ?_)
  obtain ⟨d4, H⟩ := H
  have d5 := d4 (len_le b1)
  refine L_pu (P_add v2 1 rfl rfl d5) (L_mv (vi (v2 + 1)) rfl (L_nil ?_))
  obtain ⟨d6, d7⟩ := H
  have b7 := a5.stown _ b2 hr75
  have d8 := ((ax.st b7).st b6)
  have d9 := ((ay.st b7).st b6)
  exact ⟨((xs2.set v2.toNat (List.replicate ((b.length : Int) + 1).toNat (0 : Int))), (ag.set v2.toNat (.slice ak al am)), v2 + 1), d7, d6, (hasI rfl), d3, d8, d9, d2⟩
 have H := ite_f H a6
 refine W_exit (xin_hit ?_)
 refine W_seq (W_seq (W_reg (L_mv (.slice A1 n2 c3) rfl ?_)))
 have ea := ax.le
 refine L_pu (P_len Tryz.underlying56 A1 n2 c3 ax.len rfl) ?_
 obtain ⟨eb, H⟩ := H
 have ec := eb (len_le ea)
 refine L_pu (P_sub (a.length : Int) 1 rfl rfl ec) (L_as (vi ((a.length : Int) - 1)) rfl (L_nil (W_block ?_)))
 obtain ⟨ed, ee, ba, H⟩ := H
 refine W_loop (α := (List (List Int)) × (List Value) × (Option Addr) × Nat × Nat × Int) (fun (sv__ : (List (List Int)) × (List Value) × (Option Addr) × Nat × Nat × Int) t aq => match sv__ with | (xs4, ai, aa, ab, ac, i2) => ed xs4 i2 ∧ Has t [(0, .slice A1 n2 c3), (1, .slice A6 n7 c8), (5, .slice aa ab ac), (7, vi i2)] ∧ Ct [] w0 aq (blk (.slice aa ab ac) :: (ai).map blk) O ∧ Sl kPt aq (Fr ((blk (.slice aa ab ac) :: (ai).map blk) ++ O)) (.slice A1 n2 c3) a ∧ Sl kPt aq (Fr ((blk (.slice aa ab ac) :: (ai).map blk) ++ O)) (.slice A6 n7 c8) b ∧ Tb (Kd.int .i64) 187 3 aq ((blk (.slice aa ab ac) :: (ai).map blk) ++ O) (.slice aa ab ac) ai xs4) (fun (sv__ : (List (List Int)) × (List Value) × (Option Addr) × Nat × Nat × Int) => match sv__ with | (xs4, _, _, _, _, i2) => ee xs4 i2) (xs2, ag, ad, ae, af, (a.length : Int) - 1) ⟨ba, (hasI rfl), a5, ax, ay, b0⟩ ?_
 rintro ⟨xs4, ai, aa, ab, ac, i2⟩ _ aq ⟨ba, ef, bb, eg, bc, b8⟩
 obtain ⟨gj, rfl⟩ := Has.ins ef
 have H := H xs4 i2 ba
 refine W_seq (W_seq (W_reg (L_mv (vi i2) rfl (L_pu (P_cmp i2 0 (decide (i2 ≥ 0)) rfl rfl rfl) (L_nil ?_)))))
 refine W_cond (decide (i2 ≥ 0)) rfl (fun bd => ?_) (fun bd => ?_)
 ·have H := ite_t H bd
  refine W_skip (W_seq (W_block (W_seq (W_reg (L_mv (.slice A6 n7 c8) rfl ?_)))))
  have eh := bc.le
  refine L_pu (P_len Tryz.underlying56 A6 n7 c8 bc.len rfl) ?_
  obtain ⟨ei, H⟩ := H
  have ej := ei (len_le eh)
  refine L_pu (P_sub (b.length : Int) 1 rfl rfl ej) (L_as (vi ((b.length : Int) - 1)) rfl (L_nil (W_block ?_)))
  obtain ⟨ek, el, be, H⟩ := H
  refine W_loop (α := (List (List Int)) × (List Value) × Int) (fun (sv__ : (List (List Int)) × (List Value) × Int) t ao => match sv__ with | (xs6, ah, j2) => ek xs6 j2 ∧ Has t [(0, .slice A1 n2 c3), (1, .slice A6 n7 c8), (5, .slice aa ab ac), (7, vi i2), (8, vi j2)] ∧ Ct [] w0 ao (blk (.slice aa ab ac) :: (ah).map blk) O ∧ Sl kPt ao (Fr ((blk (.slice aa ab ac) :: (ah).map blk) ++ O)) (.slice A1 n2 c3) a ∧ Sl kPt ao (Fr ((blk (.slice aa ab ac) :: (ah).map blk) ++ O)) (.slice A6 n7 c8) b ∧ Tb (Kd.int .i64) 187 3 ao ((blk (.slice aa ab ac) :: (ah).map blk) ++ O) (.slice aa ab ac) ah xs6) (fun (sv__ : (List (List Int)) × (List Value) × Int) => match sv__ with | (xs6, _, j2) => el xs6 j2) (xs4, ai, (b.length : Int) - 1) ⟨be, (hasI rfl), bb, eg, bc, b8⟩ ?_
  rintro ⟨xs6, ah, j2⟩ _ ao ⟨be, em, a0, ar, au, bf⟩
  obtain ⟨gk, rfl⟩ := Has.ins em
  have H := H xs6 j2 be
  refine W_seq (W_seq (W_reg (L_mv (vi j2) rfl (L_pu (P_cmp j2 0 (decide (j2 ≥ 0)) rfl rfl rfl) (L_nil ?_)))))
  refine W_cond (decide (j2 ≥ 0)) rfl (fun bg => ?_) (fun bg => ?_)
  ·have H := ite_t H bg
   refine W_skip (W_seq (W_block (W_seq (W_draw (fun x => Gr ao x none) (by kernel_rfl) (by kernel_rfl) (Gr.drew _) ?_))))
   refine Q_mv (.slice A1 n2 c3) rfl (Q_mv (vi i2) rfl ?_)
   obtain ⟨b9, H⟩ := H
   obtain ⟨ca, gl, en, gm, eo, ep⟩ := ar.get default (by decide) i2 b9
   obtain rfl := kPt.op eo
   refine Q_pu (P_ia Tryz.underlying56 se56 A1 ca n2 c3 ar.len i2 rfl en rfl b9) (Q_pu (P_lda ag114 sz114 cQ (ca.add (i2.toNat * 2)) [vi ((nth a i2).X), vi ((nth a i2).Y)] rfl rfl ep) (Q_mv (.slice A6 n7 c8) rfl (Q_mv (vi j2) rfl ?_)))
   obtain ⟨cb, H⟩ := H
   obtain ⟨cc, gn, eq, gp, er, es⟩ := au.get default (by decide) j2 cb
   obtain rfl := kPt.op er
   refine Q_pu (P_ia Tryz.underlying56 se56 A6 cc n7 c8 au.len j2 rfl eq rfl cb) (Q_pu (P_lda ag114 sz114 cQ (cc.add (j2.toNat * 2)) [vi ((nth b j2).X), vi ((nth b j2).Y)] rfl rfl es) (Q_pu (P_eq _ _ (eqPt (nth a i2) (nth b j2)) (qt114 (nth a i2) (nth b j2)) rfl rfl) (Q_nil fun gq av => ?_)))
   have a1 := a0.k0 av
   refine W_cond (eqPt (nth a i2) (nth b j2)) rfl (fun bh => ?_) (fun bh => ?_)
   ·have H := ite_t H bh
    refine W_tail 16 (by kernel_rfl) (by kernel_rfl) fun gs bi => ?_
    have cd := a1.k0 bi
    refine S_pu (P_move (.slice aa ab ac) rfl) ?_
    refine S_pu (P_move (vi i2) rfl) ?_
    obtain ⟨ce, H⟩ := H
    have aw := ((bf.k0 av).k0 bi)
    obtain ⟨cf, bj, bl, bm, et, bn, eu, bo⟩ := aw.get i2 ce
    refine S_pu (P_ia Tryz.underlying183 se183 aa cf ab ac aw.len i2 rfl et rfl ce) ?_
    refine S_pu (P_ld ag187 cL (cf.add (i2.toNat * 1)) (.slice bj bl bm) rfl (eu 0 _ rfl)) ?_
    refine S_pu (P_move (vi j2) rfl) ?_
    refine S_pu (P_move (.slice aa ab ac) rfl) ?_
    refine S_pu (P_move (vi i2) rfl) ?_
    obtain ⟨ev, H⟩ := H
    refine S_pu (P_add i2 1 rfl rfl ev) ?_
    obtain ⟨cg, H⟩ := H
    obtain ⟨ch, ci, cj, ck, ew, gt, ex, cl⟩ := aw.get (i2 + 1) cg
    refine S_pu (P_ia Tryz.underlying183 se183 aa ch ab ac aw.len (i2 + 1) rfl ew rfl cg) ?_
    refine S_pu (P_ld ag187 cL (ch.add ((i2 + 1).toNat * 1)) (.slice ci cj ck) rfl (ex 0 _ rfl)) ?_
    refine S_pu (P_move (vi j2) rfl) ?_
    obtain ⟨ey, H⟩ := H
    refine S_pu (P_add j2 1 rfl rfl ey) ?_
    obtain ⟨cm, H⟩ := H
    obtain ⟨cn, gu, ez, e0, e1⟩ := cl.get default (by decide) (j2 + 1) cm
    obtain rfl := Kd.int.op e0
    refine S_pu (P_ia Tryz.underlying187 se187 ci cn cj ck cl.len (j2 + 1) rfl ez rfl cm) ?_
    refine S_pu (P_ld ag3 cL (cn.add ((j2 + 1).toNat * 1)) (vi (nth (nth xs6 (i2 + 1)) (j2 + 1))) rfl (e1 0 _ rfl)) ?_
    obtain ⟨e2, H⟩ := H
    refine S_pu (P_add (nth (nth xs6 (i2 + 1)) (j2 + 1)) 1 rfl rfl e2) ?_
    obtain ⟨bp, H⟩ := H
    obtain ⟨co, gv, cp, e3, e4⟩ := bo.get default (by decide) j2 bp
    obtain rfl := Kd.int.op e3
    refine S_pu (P_ia Tryz.underlying187 se187 bj co bl bm bo.len j2 rfl cp rfl bp) ?_
    refine S_nil ?_
    refine L_ste0 bj bl bm (nth xs6 i2) bo j2 bp co cp 0 rfl [vi ((nth (nth xs6 (i2 + 1)) (j2 + 1)) + 1)] rfl sz3 rfl ((nth (nth xs6 (i2 + 1)) (j2 + 1)) + 1) [vi (nth (nth xs6 i2) j2)] [vi ((nth (nth xs6 (i2 + 1)) (j2 + 1)) + 1)] e4 rfl rfl rfl fun gw bq e5 => ?_
    have e6 := Tb.ste (O := O) aw cd bn bq e5
    have e7 := Ct.tb cd bn bq
    have cq := St.tb (v := .slice aa ab ac) (O := O) ⟨_, bn⟩ bq
    refine L_nil (W_reg (L_mv (vi j2) rfl ?_))
    obtain ⟨e8, H⟩ := H
    refine L_pu (P_sub j2 1 rfl rfl e8) (L_as (vi (j2 - 1)) rfl (L_nil ?_))
    obtain ⟨e9, fa⟩ := H
    have cr := a0.stn av
    have cs := a1.stn bi
    have fb := (((ar.st cr).st cs).st cq)
    have fc := (((au.st cr).st cs).st cq)
    exact ⟨((xs6.set i2.toNat ((nth xs6 i2).set j2.toNat ((nth (nth xs6 (i2 + 1)) (j2 + 1)) + 1))), ah, j2 - 1), fa, e9, (hasI rfl), e7, fb, fc, e6⟩
   have H := ite_f H bh
   refine W_tail 23 (by kernel_rfl) (by kernel_rfl) fun gx br => ?_
   have ct := a1.k0 br
   refine S_pu (P_move (.slice aa ab ac) rfl) ?_
   refine S_pu (P_move (vi i2) rfl) ?_
   obtain ⟨cu, H⟩ := H
   have aj := ((bf.k0 av).k0 br)
   obtain ⟨cv, bs, bt, bu, fd, bv, fe, bw⟩ := aj.get i2 cu
   refine S_pu (P_ia Tryz.underlying183 se183 aa cv ab ac aj.len i2 rfl fd rfl cu) ?_
   refine S_pu (P_ld ag187 cL (cv.add (i2.toNat * 1)) (.slice bs bt bu) rfl (fe 0 _ rfl)) ?_
   refine S_pu (P_move (vi j2) rfl) ?_
   refine S_pu (P_move (.slice aa ab ac) rfl) ?_
   refine S_pu (P_move (vi i2) rfl) ?_
   obtain ⟨ff, H⟩ := H
   refine S_pu (P_add i2 1 rfl rfl ff) ?_
   obtain ⟨cw, H⟩ := H
   obtain ⟨cx, cy, cz, c1, fg, gy, fh, c2⟩ := aj.get (i2 + 1) cw
   refine S_pu (P_ia Tryz.underlying183 se183 aa cx ab ac aj.len (i2 + 1) rfl fg rfl cw) ?_
   refine S_pu (P_ld ag187 cL (cx.add ((i2 + 1).toNat * 1)) (.slice cy cz c1) rfl (fh 0 _ rfl)) ?_
   refine S_pu (P_move (vi j2) rfl) ?_
   obtain ⟨c4, H⟩ := H
   obtain ⟨c5, gz, fi, fj, fk⟩ := c2.get default (by decide) j2 c4
   obtain rfl := Kd.int.op fj
   refine S_pu (P_ia Tryz.underlying187 se187 cy c5 cz c1 c2.len j2 rfl fi rfl c4) ?_
   refine S_pu (P_ld ag3 cL (c5.add (j2.toNat * 1)) (vi (nth (nth xs6 (i2 + 1)) j2)) rfl (fk 0 _ rfl)) ?_
   refine S_pu (P_move (.slice aa ab ac) rfl) ?_
   refine S_pu (P_move (vi i2) rfl) ?_
   obtain ⟨c6, H⟩ := H
   obtain ⟨c7, c9, da, db, fl, g1, fm, dc⟩ := aj.get i2 c6
   refine S_pu (P_ia Tryz.underlying183 se183 aa c7 ab ac aj.len i2 rfl fl rfl c6) ?_
   refine S_pu (P_ld ag187 cL (c7.add (i2.toNat * 1)) (.slice c9 da db) rfl (fm 0 _ rfl)) ?_
   refine S_pu (P_move (vi j2) rfl) ?_
   obtain ⟨fn, H⟩ := H
   refine S_pu (P_add j2 1 rfl rfl fn) ?_
   obtain ⟨dd, H⟩ := H
   obtain ⟨de, g2, fo, fp, fq⟩ := dc.get default (by decide) (j2 + 1) dd
   obtain rfl := Kd.int.op fp
   refine S_pu (P_ia Tryz.underlying187 se187 c9 de da db dc.len (j2 + 1) rfl fo rfl dd) ?_
   refine S_pu (P_ld ag3 cL (de.add ((j2 + 1).toNat * 1)) (vi (nth (nth xs6 i2) (j2 + 1))) rfl (fq 0 _ rfl)) ?_
   refine S_pu (P_max (nth (nth xs6 (i2 + 1)) j2) (nth (nth xs6 i2) (j2 + 1)) rfl rfl) ?_
   obtain ⟨bx, H⟩ := H
   obtain ⟨df, g3, dg, fr, fs⟩ := bw.get default (by decide) j2 bx
   obtain rfl := Kd.int.op fr
   refine S_pu (P_ia Tryz.underlying187 se187 bs df bt bu bw.len j2 rfl dg rfl bx) ?_
   refine S_nil ?_
   refine L_ste0 bs bt bu (nth xs6 i2) bw j2 bx df dg 0 rfl [vi (max (nth (nth xs6 (i2 + 1)) j2) (nth (nth xs6 i2) (j2 + 1)))] rfl sz3 rfl (max (nth (nth xs6 (i2 + 1)) j2) (nth (nth xs6 i2) (j2 + 1))) [vi (nth (nth xs6 i2) j2)] [vi (max (nth (nth xs6 (i2 + 1)) j2) (nth (nth xs6 i2) (j2 + 1)))] fs rfl rfl rfl fun g4 bz ft => ?_
   have fu := Tb.ste (O := O) aj ct bv bz ft
   have fv := Ct.tb ct bv bz
   have dh := St.tb (v := .slice aa ab ac) (O := O) ⟨_, bv⟩ bz
   refine L_nil (W_reg (L_mv (vi j2) rfl ?_))
   obtain ⟨fw, H⟩ := H
   refine L_pu (P_sub j2 1 rfl rfl fw) (L_as (vi (j2 - 1)) rfl (L_nil ?_))
   obtain ⟨fx, fy⟩ := H
   have di := a0.stn av
   have dj := a1.stn br
   have fz := (((ar.st di).st dj).st dh)
   have f0 := (((au.st di).st dj).st dh)
   exact ⟨((xs6.set i2.toNat ((nth xs6 i2).set j2.toNat (max (nth (nth xs6 (i2 + 1)) j2) (nth (nth xs6 i2) (j2 + 1))))), ah, j2 - 1), fy, fx, (hasI rfl), fv, fz, f0, fu⟩
  have H := ite_f H bg
  refine W_exit (xin_hit ?_)
  refine W_reg (L_mv (vi i2) rfl ?_)
  obtain ⟨f1, H⟩ := H
  refine L_pu (P_sub i2 1 rfl rfl f1) (L_as (vi (i2 - 1)) rfl (L_nil ?_))
  obtain ⟨f2, f3⟩ := H
  exact ⟨(xs6, ah, aa, ab, ac, i2 - 1), f3, f2, (hasI rfl), a0, ar, au, bf⟩
 have H := ite_f H bd
 refine W_exit (xin_hit ?_)
 refine W_seq (W_reg (L_mv (.slice aa ab ac) rfl (L_as (.slice aa ab ac) rfl (L_nil (W_ret ?_)))))
 have f4 := b8.sl bb
 have f5 := bb.clear
 exact ⟨[.slice aa ab ac], ⟨_, rfl, rfl⟩, xs4, aa, ab, ac, rfl, H, f5.gr.g0, f4⟩
end
end Go.Proofs.YtndjggncgpjolaaGreat