/- It is proved here that the law FnFeatJoin of the given program holds whatever it is handed: the walks through the code, the plain laws and the row, in this order.
   Conditions: none. -/
import Derived.Below
import Derived.ChangeArms
import Derived.ChangeOld
import Derived.ChangeSlices
import Derived.DataReads
import Derived.Deep.Quiet
import Derived.KernelRfl
import Derived.Laws.Build
import Derived.Laws.IdiomStrings
import Derived.Laws.OwnMore
import Derived.Laws.Slices
import Derived.Laws.StructEq
import Derived.OpenShut
import Derived.ProofKit
import Derived.Shelf.Slices.Cells
import Derived.Shelf.Slices.CompactS
import Derived.Shelf.Slices.In.SortNone
import Derived.Shelf.Small.Bits
import Derived.Shelf.Sort.Plain
import Derived.Shelf.Strconv.Itoa0
import Derived.ShutString
import Derived.SizedLaws
import Derived.StillTail
import Derived.Test.YtpdmnmpcjljeaaaProg
import Derived.Test.YtpdmnmpcjljeaaaRows
import Derived.WalkKit
import Derived.Test.YtpdmnmpcjljeaaaCFeatJoina
import Derived.Test.YtpdmnmpcjljeaaaCFeatJoinb
import Derived.Test.YtpdmnmpcjljeaaaCFeatJoinc
import Derived.Test.YtpdmnmpcjljeaaaCFeatJoind
namespace Go.Proofs.Ytpdmnmpcjljeaaa
set_option linter.unusedVariables false
set_option linter.unusedSimpArgs false
set_option linter.unusedSectionVars false
set_option maxHeartbeats 8000000
set_option maxRecDepth 100000
section
open Go.RowKit
def F75.E (o : Feat) (a : Feat) (b : Feat) (Q : Feat → List Str → Prop) : Prop :=
 F52.E o.Shape a.Shape b.Shape (fun r r2 => (∃ (J134 : (List Str) → Prop), ((if !r2 then (([] : List Str).length + ([([115, 104, 97, 112, 101] : Str)] : List Str).length ≤ 268435456) ∧ J134 (([] : List Str) ++ ([([115, 104, 97, 112, 101] : Str)] : List Str)) else J134 ([] : List Str))) ∧ ∀ (xs : List Str), J134 xs → F59.E r (fun r3 => F74.E o.Tags a.Tags b.Tags (fun r4 => (∃ (I2328 : (List Str) → Int → (List Tag) → Prop) (mu2329 : (List Str) → Int → (List Tag) → Nat), I2328 xs 0 ([] : List Tag) ∧ ∀ (xs4 : List Str) (i2 : Int) (xs5 : List Tag), I2328 xs4 i2 xs5 → (if decide (i2 < (r4.length : Int)) then ((0 : Int) ≤ i2 ∧ i2 < (r4.length : Int)) ∧ F100.E o.Tags a.Tags b.Tags (nth r4 i2) (fun r5 r6 r7 => (∃ (J2411 : (List Str) → Prop), ((if !r7 then ((0 : Int) ≤ i2 ∧ i2 < (r4.length : Int)) ∧ (([116, 97, 103, 32] : Str).length + (nth r4 i2).length ≤ 9223372036854775807) ∧ (xs4.length + ([(([116, 97, 103, 32] : Str) ++ (nth r4 i2))] : List Str).length ≤ 268435456) ∧ J2411 (xs4 ++ ([(([116, 97, 103, 32] : Str) ++ (nth r4 i2))] : List Str)) else J2411 xs4)) ∧ ∀ (xs6 : List Str), J2411 xs6 → (∃ (J2516 : (List Tag) → Prop), ((if r6 then ((0 : Int) ≤ i2 ∧ i2 < (r4.length : Int)) ∧ (xs5.length + ([(⟨(nth r4 i2), r5⟩ : Tag)] : List Tag).length ≤ 268435456) ∧ J2516 (xs5 ++ ([(⟨(nth r4 i2), r5⟩ : Tag)] : List Tag)) else J2516 xs5)) ∧ ∀ (xs7 : List Tag), J2516 xs7 → (I64 (i2 + 1)) ∧ I2328 xs6 (i2 + 1) xs7 ∧ mu2329 xs6 (i2 + 1) xs7 < mu2329 xs4 i2 xs5))) else F64.E (⟨a.Id, r3, xs5⟩ : Feat) (fun r8 => (if !r8 then F60.E a (fun r9 => Q r9 ([([109, 117, 99, 104] : Str)] : List Str)) else Q (⟨a.Id, r3, xs5⟩ : Feat) xs4))))))))
theorem F75.calls {O : Ob} (w0 : World) (hO : Ok w0 O) (o : Feat) (A2 : Option Addr) (n3 c4 : Nat) (A7 : Option Addr) (n8 c9 : Nat) (hs1 : Lim o.Id) (hp5 : Sl kPt w0 (Fr O) (.slice A2 n3 c4) o.Shape.Pts) (hu : Sl kTag w0 (Fr O) (.slice A7 n8 c9) o.Tags) (a : Feat) (a2 : Option Addr) (a3 a4 : Nat) (am : Option Addr) (an ao : Nat) (e3 : Lim a.Id) (e4 : Sl kPt w0 (Fr O) (.slice a2 a3 a4) a.Shape.Pts) (hv : Sl kTag w0 (Fr O) (.slice am an ao) a.Tags) (b : Feat) (bp : Option Addr) (bq br : Nat) (a5 : Option Addr) (a6 a7 : Nat) (qt : Lim b.Id) (e5 : Sl kPt w0 (Fr O) (.slice bp bq br) b.Shape.Pts) (hw : Sl kTag w0 (Fr O) (.slice a5 a6 a7) b.Tags) (Q : Feat → List Str → Prop) (h : F75.E o a b Q) :
  Ret Try.prog 39 [.agg #[vs o.Id, vi o.Shape.Kind, .slice A2 n3 c4, .slice A7 n8 c9], .agg #[vs a.Id, vi a.Shape.Kind, .slice a2 a3 a4, .slice am an ao], .agg #[vs b.Id, vi b.Shape.Kind, .slice bp bq br, .slice a5 a6 a7]] w0 (fun v w' => ∃ (r0 : Feat) (r1 : List Str) (Aw0 : Option Addr) (nw0 cw0 : Nat) (Aw2 : Option Addr) (nw2 cw2 : Nat) (Aw4 : Option Addr) (nw4 cw4 : Nat), v = .tuple #[.agg #[vs r0.Id, vi r0.Shape.Kind, .slice Aw0 nw0 cw0, .slice Aw2 nw2 cw2], .slice Aw4 nw4 cw4] ∧ Q r0 r1 ∧ Gr w0 w' none ∧ Ok w' ([bk Aw0, bk Aw2, bk Aw4] ++ O) ∧ (∀ b, some b ∈ [bk Aw0, bk Aw2, bk Aw4] → w0.heap.size ≤ b) ∧ Lim r0.Id ∧ Ow kPt 83 w' ([bk Aw0, bk Aw2, bk Aw4] ++ O) (.slice Aw0 nw0 cw0) r0.Shape.Pts ∧ Ow kTag 39 w' ([bk Aw0, bk Aw2, bk Aw4] ++ O) (.slice Aw2 nw2 cw2) r0.Tags ∧ Ow Kd.str 9 w' ([bk Aw0, bk Aw2, bk Aw4] ++ O) (.slice Aw4 nw4 cw4) r1) := by
 unfold F75.E at h
 have H := h
 clear h
 have hc0 := Ct.init hO
 refine Ret_enter Try.func39 rfl 96 rfl [.cell 6 28, .tmp 7] rfl rfl ?_
 refine W_seq (W_reg (L_box [vs o.Id, vi o.Shape.Kind, .slice A2 n3 c4, .slice A7 n8 c9] rfl fun qu au jt hu38 ju jv => ?_))
 have jw := Fb.mk hc0.ok jt jv
 have e6 := hc0.k0 ju
 refine L_box [vs a.Id, vi a.Shape.Kind, .slice a2 a3 a4, .slice am an ao] rfl fun qv ai jx hu47 hx jy => ?_
 have jz := Fb.mk e6.ok jx jy
 have e7 := e6.k0 hx
 refine L_box [vs b.Id, vi b.Shape.Kind, .slice bp bq br, .slice a5 a6 a7] rfl fun qw av j0 hu56 hy j1 => ?_
 have j2 := Fb.mk e7.ok j0 j1
 have hz := e7.k0 hy
 refine L_alloc [vs [], .int .i64 0, .slice none 0 0, .slice none 0 0] ze28 fun qx aa h0 hu65 h1 h2 => ?_
 have h3 := hz.own h1 (some aa) (oglt h0 hu65)
 refine L_as (.slice none 0 0) rfl (L_nil (W_seq (W_reg (L_lit (kd := Kd.str) ei31 h3 ([] : List Str) (cells := []) rfl (fun _ => by kernel_rfl) fun j3 dt du dv e8 hr74 cp h4 => ?_))))
 refine L_as (.slice dt du dv) rfl (L_nil (W_seq (W_reg (L_pu (P_fa fa28_1 ⟨au, 0, none⟩ ⟨au, 1, none⟩ rfl rfl) ?_))))
 have j4 := e6.stn hx
 have h5 := e7.stn hy
 have e9 := hz.stown _ h1 (oge h0)
 have fa := h3.stown _ e8 hr74
 have fb := ((((jw.st j4).st h5).st e9).st fa)
 refine L_pu (P_lda ag25 sz25 cL ⟨au, 1, none⟩ [vi o.Shape.Kind, .slice A2 n3 c4] rfl rfl (fb.cells (off := 1) rfl)) (L_pu (P_fa fa28_1 ⟨ai, 0, none⟩ ⟨ai, 1, none⟩ rfl rfl) ?_)
 have fc := (((jz.st h5).st e9).st fa)
 refine L_pu (P_lda ag25 sz25 cL ⟨ai, 1, none⟩ [vi a.Shape.Kind, .slice a2 a3 a4] rfl rfl (fc.cells (off := 1) rfl)) (L_pu (P_fa fa28_1 ⟨av, 0, none⟩ ⟨av, 1, none⟩ rfl rfl) ?_)
 have fd := ((j2.st e9).st fa)
 refine L_pu (P_lda ag25 sz25 cL ⟨av, 1, none⟩ [vi b.Shape.Kind, .slice bp bq br] rfl rfl (fd.cells (off := 1) rfl)) ?_
 refine L_call go86 [.agg #[vi o.Shape.Kind, .slice A2 n3 c4], .agg #[vi a.Shape.Kind, .slice a2 a3 a4], .agg #[vi b.Shape.Kind, .slice bp bq br]] rfl ((F52.calls j3 cp.ok o.Shape A2 n3 c4 (hp5.st cp.st) a.Shape a2 a3 a4 (e4.st cp.st) b.Shape bp bq br (e5.st cp.st) _ H).mono ?_)
 rintro _ qy ⟨r, r2, bt, bu, bv, rfl, H, cq, h6⟩
 have fe := cp.k0 cq
 refine L_mv (.tuple #[.agg #[vi r.Kind, .slice bt bu bv], vb r2]) rfl (L_pu (P_ext [.agg #[vi r.Kind, .slice bt bu bv], vb r2] 0 (.agg #[vi r.Kind, .slice bt bu bv]) rfl rfl) (L_pu (P_ext [.agg #[vi r.Kind, .slice bt bu bv], vb r2] 1 (vb r2) rfl rfl) (L_alloc [.int .i64 0, .slice none 0 0] ze25 fun qz aw c7 hu100 cr j5 => ?_)))
 have cs := fe.own cr (some aw) (oglt c7 hu100)
 refine L_stb aw 0 [vi 0, .slice none 0 0] [vi r.Kind, .slice bt bu bv] [vi r.Kind, .slice bt bu bv] rfl j5 rfl sz25 rfl rfl rfl fun q0 ct h7 => ?_
 have b4 := cs.wr 0 rfl ct
 refine L_as (vb r2) rfl (L_nil (W_seq (W_seq (W_reg (L_mv (vb r2) rfl (L_pu (P_not r2 rfl) (L_nil ?_)))))))
 obtain ⟨j6, H, j7⟩ := H
 refine W_join (J := (fun t bh => ∃ (xs : List Str) (aj : Option Addr) (c8 : Nat) (da : Nat), j6 xs ∧ Has t [(3, .pointer (some ⟨au, 0, none⟩)), (4, .pointer (some ⟨ai, 0, none⟩)), (5, .pointer (some ⟨av, 0, none⟩)), (6, .pointer (some ⟨aa, 0, none⟩)), (8, .slice aj c8 da), (9, .pointer (some ⟨aw, 0, none⟩))] ∧ Ct [] w0 bh [some aw, bk aj, some aa] O ∧ Sl kPt bh (Fr ([some aw, bk aj, some aa] ++ O)) (.slice a2 a3 a4) a.Shape.Pts ∧ Sl kTag bh (Fr ([some aw, bk aj, some aa] ++ O)) (.slice am an ao) a.Tags ∧ Sl kPt bh (Fr ([some aw, bk aj, some aa] ++ O)) (.slice bt bu bv) r.Pts ∧ Sl kPt bh (Fr ([some aw, bk aj, some aa] ++ O)) (.slice bp bq br) b.Shape.Pts ∧ Sl kTag bh (Fr ([some aw, bk aj, some aa] ++ O)) (.slice a5 a6 a7) b.Tags ∧ Sl kPt bh (Fr ([some aw, bk aj, some aa] ++ O)) (.slice A2 n3 c4) o.Shape.Pts ∧ Sl kTag bh (Fr ([some aw, bk aj, some aa] ++ O)) (.slice A7 n8 c9) o.Tags ∧ Ow Kd.str 9 bh ([some aw, bk aj, some aa] ++ O) (.slice aj c8 da) xs ∧ Fb bh ([some aw, bk aj, some aa] ++ O) au [vs o.Id, vi o.Shape.Kind, .slice A2 n3 c4, .slice A7 n8 c9] ∧ Fb bh ([some aw, bk aj, some aa] ++ O) ai [vs a.Id, vi a.Shape.Kind, .slice a2 a3 a4, .slice am an ao] ∧ Fb bh ([some aw, bk aj, some aa] ++ O) av [vs b.Id, vi b.Shape.Kind, .slice bp bq br, .slice a5 a6 a7] ∧ Bx bh aa [vs ([] : Str), vi 0, .slice none 0 0, .slice none 0 0] ∧ Bx bh aw [vi r.Kind, .slice bt bu bv])) ?_ ?_
 ·refine W_cond (!r2) rfl (fun ff => ?_) (fun ff => ?_)
  ·have H := ite_t H ff
   refine W_reg (L_mv (.slice dt du dv) rfl (L_lit (kd := Kd.str) ei31 b4 ([([115, 104, 97, 112, 101] : Str)] : List Str) (cells := [vs ([115, 104, 97, 112, 101] : Str)]) ⟨[vs ([115, 104, 97, 112, 101] : Str)], _, rfl, ⟨rfl, (by decide : Lim ([115, 104, 97, 112, 101] : Str))⟩, rfl⟩ (fun _ => by kernel_rfl) fun q1 j8 j9 ka dw hr143 fg kb => ?_))
   obtain ⟨kc, H⟩ := H
   have ke := ((cs.sw ((h4.sn cq).so _ cr (oge c7)) 1 0 rfl rfl rfl ct).so _ dw hr143)
   refine L_app ei31 fg (.slice dt du dv) ([] : List Str) ([([115, 104, 97, 112, 101] : Str)] : List Str) rfl ke (.slice j8 j9 ka) rfl kb.sx 2 rfl kc fun q2 h8 h9 ia ib dx fh kf => ?_
   refine L_as (.slice h8 h9 ia) rfl (L_nil ?_)
   have cu := fh.drop 0 rfl
   have dy := fe.stown _ cr (oge c7)
   have dz := cs.stw 0 rfl ct
   have d0 := b4.stown _ dw hr143
   have d1 := fh.std 0 rfl
   have kg := (((((h6.st dy).st dz).st d0).st dx).st d1)
   have kh := (fh.sd kf 2 0 rfl rfl rfl)
   have fi := cp.stn cq
   have ki := ((((((fb.st fi).st dy).st dz).st d0).st dx).st d1)
   have kj := ((((((fc.st fi).st dy).st dz).st d0).st dx).st d1)
   have kk := ((((((fd.st fi).st dy).st dz).st d0).st dx).st d1)
   have kl := (fg.bm ((cs.bm (((h2.k0 e8).k0 cq).k0 cr) 2 0 rfl rfl rfl ct).k0 dw) 3 2 rfl rfl rfl ib)
   have km := (fg.bm (h7.k0 dw) 1 2 rfl rfl rfl ib)
   exact ⟨(([] : List Str) ++ ([([115, 104, 97, 112, 101] : Str)] : List Str)), h8, h9, ia, H, (hasI rfl), cu, (e4.st cu.st), (hv.st cu.st), kg, (e5.st cu.st), (hw.st cu.st), (hp5.st cu.st), (hu.st cu.st), kh, ki, kj, kk, kl, km⟩
  have H := ite_f H ff
  refine W_skip ?_
  have d2 := fe.stown _ cr (oge c7)
  have d3 := cs.stw 0 rfl ct
  have kn := ((h6.st d2).st d3)
  have ko := (cs.sw ((h4.sn cq).so _ cr (oge c7)) 1 0 rfl rfl rfl ct)
  have fj := cp.stn cq
  have kp := (((fb.st fj).st d2).st d3)
  have kq := (((fc.st fj).st d2).st d3)
  have kr := (((fd.st fj).st d2).st d3)
  have ks := (cs.bm (((h2.k0 e8).k0 cq).k0 cr) 2 0 rfl rfl rfl ct)
  exact ⟨([] : List Str), dt, du, dv, H, (hasI rfl), b4, (e4.st b4.st), (hv.st b4.st), kn, (e5.st b4.st), (hw.st b4.st), (hp5.st b4.st), (hu.st b4.st), ko, kp, kq, kr, ks, h7⟩
 rintro q3 bh ⟨xs, aj, c8, da, kt, ku, fk, kv, ic, id, kx, ie, ky, ig, kz, k1, ih, k2, k3, k4⟩
 obtain ⟨q4, rfl⟩ := Has.ins ku
 have H := j7 xs kt
 refine W_seq ?_
 refine W_join (J := (fun t c1 => ∃ (r3 : Shape) (ab : Nat) (ac : Option Addr) (ak : Nat) (al : Nat), Has t [(3, .pointer (some ⟨au, 0, none⟩)), (4, .pointer (some ⟨ai, 0, none⟩)), (5, .pointer (some ⟨av, 0, none⟩)), (6, .pointer (some ⟨aa, 0, none⟩)), (8, .slice aj c8 da), (11, .pointer (some ⟨ab, 0, none⟩))] ∧ Gr bh c1 none ∧ Ct [] w0 c1 [some ab, bk ac, some aw, bk aj, some aa] O ∧ (∀ b, some b ∈ ([some ab, bk ac] : Ob) → bh.heap.size ≤ b) ∧ Ow kPt 83 c1 ([some ab, bk ac, some aw, bk aj, some aa] ++ O) (.slice ac ak al) r3.Pts ∧ Bx c1 ab [vs a.Id, vi r3.Kind, .slice ac ak al, .slice none 0 0] ∧ F74.E o.Tags a.Tags b.Tags (fun r4 => (∃ (db : (List Str) → Int → (List Tag) → Prop) (d4 : (List Str) → Int → (List Tag) → Nat), db xs 0 ([] : List Tag) ∧ ∀ (xs4 : List Str) (i2 : Int) (xs5 : List Tag), db xs4 i2 xs5 → (if decide (i2 < (r4.length : Int)) then ((0 : Int) ≤ i2 ∧ i2 < (r4.length : Int)) ∧ F100.E o.Tags a.Tags b.Tags (nth r4 i2) (fun r5 r6 r7 => (∃ (dc : (List Str) → Prop), ((if !r7 then ((0 : Int) ≤ i2 ∧ i2 < (r4.length : Int)) ∧ (([116, 97, 103, 32] : Str).length + (nth r4 i2).length ≤ 9223372036854775807) ∧ (xs4.length + ([(([116, 97, 103, 32] : Str) ++ (nth r4 i2))] : List Str).length ≤ 268435456) ∧ dc (xs4 ++ ([(([116, 97, 103, 32] : Str) ++ (nth r4 i2))] : List Str)) else dc xs4)) ∧ ∀ (xs6 : List Str), dc xs6 → (∃ (dd : (List Tag) → Prop), ((if r6 then ((0 : Int) ≤ i2 ∧ i2 < (r4.length : Int)) ∧ (xs5.length + ([(⟨(nth r4 i2), r5⟩ : Tag)] : List Tag).length ≤ 268435456) ∧ dd (xs5 ++ ([(⟨(nth r4 i2), r5⟩ : Tag)] : List Tag)) else dd xs5)) ∧ ∀ (xs7 : List Tag), dd xs7 → (I64 (i2 + 1)) ∧ db xs6 (i2 + 1) xs7 ∧ d4 xs6 (i2 + 1) xs7 < d4 xs4 i2 xs5))) else F64.E (⟨a.Id, r3, xs5⟩ : Feat) (fun r8 => (if !r8 then F60.E a (fun r9 => Q r9 ([([109, 117, 99, 104] : Str)] : List Str)) else Q (⟨a.Id, r3, xs5⟩ : Feat) xs4))))))) ?_ ?_
 ·refine W_mixr 7 [] (by kernel_rfl) rfl fun k5 b5 cg => ?_
  have d5 := fk.k0 b5
  refine M_pu 0 rfl (by kernel_rfl) cg (P_fa fa28_0 ⟨ai, 0, none⟩ ⟨ai, 0, none⟩ rfl rfl) ?_
  have fl := fk.stn b5
  have k6 := (ih.st fl)
  refine M_pu 1 rfl (by kernel_rfl) cg (P_ldr ag9 cR ⟨ai, 0, none⟩ (vs a.Id) rfl (k6.cell rfl) nm_nil) ?_
  have k7 := (k4.k0 b5)
  refine M_pu 2 rfl (by kernel_rfl) cg (P_ldar ag25 sz25 cR ⟨aw, 0, none⟩ [vi r.Kind, .slice bt bu bv] rfl rfl (k7.cells (off := 0) rfl) nm_nil) ?_
  refine M_any2 3 5 (by kernel_rfl) rfl rfl ?_ ?_
  ·refine L_call go50 [.agg #[vi r.Kind, .slice bt bu bv]] rfl ((F59.calls k5 d5.ok r bt bu bv (id.st fl) _ H).mono ?_)
   rintro _ ii ⟨r3, d6, d7, d8, rfl, H, ij, k8, ik, k9⟩
   have la := d5.owns ij k8 ik
   have de := Gm.tm cg ij
   refine L_nil ⟨de, ?_⟩
   refine M_pu 4 rfl (by kernel_rfl) de (P_build (.agg #[vs a.Id, vi r3.Kind, .slice d6 d7 d8, .slice none 0 0]) (fun _ => by kernel_rfl)) ?_
   refine M_any1 5 (by kernel_rfl) rfl ?_
   refine L_alloc [vs [], .int .i64 0, .slice none 0 0, .slice none 0 0] ze28 fun q5 fm d9 hu206 fn lb => ?_
   have il := la.own fn (some fm) (oglt d9 hu206)
   have im := Gm.tm de fn
   refine L_nil ⟨im, ?_⟩
   refine M_any1 6 (by kernel_rfl) rfl ?_
   refine L_stb fm 0 [vs ([] : Str), vi 0, .slice none 0 0, .slice none 0 0] [vs a.Id, vi r3.Kind, .slice d6 d7 d8, .slice none 0 0] [vs a.Id, vi r3.Kind, .slice d6 d7 d8, .slice none 0 0] rfl lb rfl sz28 rfl rfl rfl fun q6 fo lc => ?_
   have ld := il.wr 0 rfl fo
   have io := Gm.tq im fo (hv_new de (oge d9))
   refine L_nil ⟨io, ?_⟩
   refine M_nil (by kernel_rfl) ?_
   have fp := (il.sw (k9.so _ fn (oge d9)) 1 0 rfl rfl rfl fo)
   exact ⟨r3, fm, d6, d7, d8, (hasI rfl), (Gr.t0 b5 io.g0), ld, (jg_cons b5.size (hv_new de (oge d9)) (jg_cons b5.size (hv_hge cg ik (q := 0) rfl) jg_nil)), fp, lc, H⟩
  refine L_alloc [vs [], .int .i64 0, .slice none 0 0, .slice none 0 0] ze28 fun ii fq ea hu194 fr lf => ?_
  have ip := d5.own fr (some fq) (oglt ea hu194)
  have fs := Gm.tm cg fr
  refine L_nil ⟨fs, ?_⟩
  refine M_any1 3 (by kernel_rfl) rfl ?_
  have lg := d5.stown _ fr (oge ea)
  have lh := ((id.st fl).st lg)
  refine L_call go50 [.agg #[vi r.Kind, .slice bt bu bv]] rfl ((F59.calls ii ip.ok r bt bu bv lh _ H).mono ?_)
  rintro _ q7 ⟨r3, eb, ec, ed, rfl, H, ft, li, iq, lj⟩
  have ir := ip.owns ft li iq
  have fu := Gm.tm fs ft
  refine L_nil ⟨fu, ?_⟩
  refine M_pu 4 rfl (by kernel_rfl) fu (P_build (.agg #[vs a.Id, vi r3.Kind, .slice eb ec ed, .slice none 0 0]) (fun _ => by kernel_rfl)) ?_
  refine M_any1 6 (by kernel_rfl) rfl ?_
  have fp := (lf.k0 ft)
  refine L_stb fq 0 [vs ([] : Str), vi 0, .slice none 0 0, .slice none 0 0] [vs a.Id, vi r3.Kind, .slice eb ec ed, .slice none 0 0] [vs a.Id, vi r3.Kind, .slice eb ec ed, .slice none 0 0] rfl fp rfl sz28 rfl rfl rfl fun q8 fv lk => ?_
  have it := ir.wr 1 rfl fv
  have iu := Gm.tq fu fv (hv_new cg (oge ea))
  refine L_nil ⟨iu, ?_⟩
  refine M_nil (by kernel_rfl) ?_
  have ll := it.perm (.swap _ _ _)
  have lm := (it.sp (ir.sw lj 0 1 rfl rfl rfl fv) (.swap _ _ _))
  have ln := lk
  exact ⟨r3, fq, eb, ec, ed, (hasI rfl), (Gr.t0 b5 iu.g0), ll, (jg_cons b5.size (hv_new cg (oge ea)) (jg_cons b5.size (hv_hge fs iq (q := 0) rfl) jg_nil)), lm, ln, H⟩
 rintro q9 c1 ⟨r3, ab, ac, ak, al, lo, fw, fx, iv, lp, lq, H⟩
 obtain ⟨ra, rfl⟩ := Has.ins lo
 refine W_seq (W_reg (L_pu (P_fa fa28_2 ⟨au, 0, none⟩ ⟨au, 3, none⟩ rfl rfl) ?_))
 have bw := fk.stos fw iv
 have iw := (k1.st bw)
 refine L_pu (P_ld ag26 cL ⟨au, 3, none⟩ (.slice A7 n8 c9) rfl (iw.cell rfl)) (L_pu (P_fa fa28_2 ⟨ai, 0, none⟩ ⟨ai, 3, none⟩ rfl rfl) ?_)
 have ix := (ih.st bw)
 refine L_pu (P_ld ag26 cL ⟨ai, 3, none⟩ (.slice am an ao) rfl (ix.cell rfl)) (L_pu (P_fa fa28_2 ⟨av, 0, none⟩ ⟨av, 3, none⟩ rfl rfl) ?_)
 have iy := (k2.st bw)
 refine L_pu (P_ld ag26 cL ⟨av, 3, none⟩ (.slice a5 a6 a7) rfl (iy.cell rfl)) ?_
 refine L_call go87 [.slice A7 n8 c9, .slice am an ao, .slice a5 a6 a7] rfl ((F74.calls c1 fx.ok o.Tags A7 n8 c9 (ig.st bw) a.Tags am an ao (ic.st bw) b.Tags a5 a6 a7 (ie.st bw) _ H).mono ?_)
 rintro _ ee ⟨r4, ad, bi, bj, rfl, H, c2, lr, ef, ls⟩
 have df : Ct [] w0 ee [bk ad, some ab, bk ac, some aw, bk aj, some aa] O := fx.owns c2 lr ef
 refine L_as (.slice ad bi bj) rfl (L_nil (W_seq (W_seq (W_reg (L_as (vi 0) rfl (L_nil (W_block ?_)))))))
 have iz := df.drop 3 rfl
 have i0 := iz.own (Gr.refl _ none) none (by simp)
 have lt : Ow kTag 39 ee ([bk none, bk ad, some ab, bk ac, bk aj, some aa] ++ O) (.slice none 0 0) [] := Ow.nil _ _ _ _
 have i1 := i0.own (Gr.refl _ none) none (by simp)
 have lu : Ow kPt 83 ee ([bk none, bk none, bk ad, some ab, bk ac, bk aj, some aa] ++ O) (.slice none 0 0) [] := Ow.nil _ _ _ _
 have lv := i1.own (Gr.refl _ none) none (by simp)
 have lw : Ow kTag 39 ee ([bk none, bk none, bk none, bk ad, some ab, bk ac, bk aj, some aa] ++ O) (.slice none 0 0) [] := Ow.nil _ _ _ _
 obtain ⟨db, d4, fy, H⟩ := H
 have b6 := fx.stos c2 ef
 have b7 := df.std 3 rfl
 have b8 := iz.st0n
 have b9 := i0.st0n
 have ca := i1.st0n
 have lx := ((((((kv.st bw).st b6).st b7).st b8).st b9).st ca)
 have ly := ((((((ic.st bw).st b6).st b7).st b8).st b9).st ca)
 have lz := ((((((kx.st bw).st b6).st b7).st b8).st b9).st ca)
 have l0 := ((((((ie.st bw).st b6).st b7).st b8).st b9).st ca)
 have l1 := ((((((ky.st bw).st b6).st b7).st b8).st b9).st ca)
 have l2 := ((((((ig.st bw).st b6).st b7).st b8).st b9).st ca)
 have l3 := ((((df.sd ((kz.sos fw iv).sos c2 ef) 4 3 rfl rfl rfl).so none (Gr.refl _ none) (by simp)).so none (Gr.refl _ none) (by simp)).so none (Gr.refl _ none) (by simp))
 have l4 := ((((df.sd ls 0 3 rfl rfl rfl).so none (Gr.refl _ none) (by simp)).so none (Gr.refl _ none) (by simp)).so none (Gr.refl _ none) (by simp))
 have l5 := ((((df.sd (lp.sos c2 ef) 2 3 rfl rfl rfl).so none (Gr.refl _ none) (by simp)).so none (Gr.refl _ none) (by simp)).so none (Gr.refl _ none) (by simp))
 have l6 := ((lt.so none (Gr.refl _ none) (by simp)).so none (Gr.refl _ none) (by simp))
 have l7 := (lu.so none (Gr.refl _ none) (by simp))
 have l8 := (((((iw.st b6).st b7).st b8).st b9).st ca)
 have l9 := (((((ix.st b6).st b7).st b8).st b9).st ca)
 have ma := (((((iy.st b6).st b7).st b8).st b9).st ca)
 have mb := ((k3.k0 fw).k0 c2)
 have mc := (lq.k0 c2)
 refine W_loop (α := (List Str) × (Option Addr) × Nat × Nat × Int × (List Tag) × (Option Addr) × Nat × Nat) (fun (sv__ : (List Str) × (Option Addr) × Nat × Nat × Int × (List Tag) × (Option Addr) × Nat × Nat) t ap => match sv__ with | (xs4, ag, bz, b0, i2, xs5, ae, ax, ay) => db xs4 i2 xs5 ∧ Has t [(3, .pointer (some ⟨au, 0, none⟩)), (4, .pointer (some ⟨ai, 0, none⟩)), (5, .pointer (some ⟨av, 0, none⟩)), (6, .pointer (some ⟨aa, 0, none⟩)), (8, .slice ag bz b0), (11, .pointer (some ⟨ab, 0, none⟩)), (12, .slice ad bi bj), (13, vi i2)] ∧ Ct [] w0 ap [bk none, bk none, bk ae, bk ad, some ab, bk ac, bk ag, some aa] O ∧ Sl kPt ap (Fr ([bk none, bk none, bk ae, bk ad, some ab, bk ac, bk ag, some aa] ++ O)) (.slice a2 a3 a4) a.Shape.Pts ∧ Sl kTag ap (Fr ([bk none, bk none, bk ae, bk ad, some ab, bk ac, bk ag, some aa] ++ O)) (.slice am an ao) a.Tags ∧ Sl kPt ap (Fr ([bk none, bk none, bk ae, bk ad, some ab, bk ac, bk ag, some aa] ++ O)) (.slice bp bq br) b.Shape.Pts ∧ Sl kTag ap (Fr ([bk none, bk none, bk ae, bk ad, some ab, bk ac, bk ag, some aa] ++ O)) (.slice a5 a6 a7) b.Tags ∧ Sl kPt ap (Fr ([bk none, bk none, bk ae, bk ad, some ab, bk ac, bk ag, some aa] ++ O)) (.slice A2 n3 c4) o.Shape.Pts ∧ Sl kTag ap (Fr ([bk none, bk none, bk ae, bk ad, some ab, bk ac, bk ag, some aa] ++ O)) (.slice A7 n8 c9) o.Tags ∧ Ow Kd.str 9 ap ([bk none, bk none, bk ae, bk ad, some ab, bk ac, bk ag, some aa] ++ O) (.slice ag bz b0) xs4 ∧ Ow Kd.str 9 ap ([bk none, bk none, bk ae, bk ad, some ab, bk ac, bk ag, some aa] ++ O) (.slice ad bi bj) r4 ∧ Ow kPt 83 ap ([bk none, bk none, bk ae, bk ad, some ab, bk ac, bk ag, some aa] ++ O) (.slice ac ak al) r3.Pts ∧ Ow kTag 39 ap ([bk none, bk none, bk ae, bk ad, some ab, bk ac, bk ag, some aa] ++ O) (.slice ae ax ay) xs5 ∧ Ow kPt 83 ap ([bk none, bk none, bk ae, bk ad, some ab, bk ac, bk ag, some aa] ++ O) (.slice none 0 0) ([] : List Pt) ∧ Ow kTag 39 ap ([bk none, bk none, bk ae, bk ad, some ab, bk ac, bk ag, some aa] ++ O) (.slice none 0 0) ([] : List Tag) ∧ Fb ap ([bk none, bk none, bk ae, bk ad, some ab, bk ac, bk ag, some aa] ++ O) au [vs o.Id, vi o.Shape.Kind, .slice A2 n3 c4, .slice A7 n8 c9] ∧ Fb ap ([bk none, bk none, bk ae, bk ad, some ab, bk ac, bk ag, some aa] ++ O) ai [vs a.Id, vi a.Shape.Kind, .slice a2 a3 a4, .slice am an ao] ∧ Fb ap ([bk none, bk none, bk ae, bk ad, some ab, bk ac, bk ag, some aa] ++ O) av [vs b.Id, vi b.Shape.Kind, .slice bp bq br, .slice a5 a6 a7] ∧ Bx ap aa [vs ([] : Str), vi 0, .slice none 0 0, .slice none 0 0] ∧ Bx ap ab [vs a.Id, vi r3.Kind, .slice ac ak al, .slice ae ax ay]) (fun (sv__ : (List Str) × (Option Addr) × Nat × Nat × Int × (List Tag) × (Option Addr) × Nat × Nat) => match sv__ with | (xs4, _, _, _, i2, xs5, _, _, _) => d4 xs4 i2 xs5) (xs, aj, c8, da, 0, ([] : List Tag), none, 0, 0) ⟨fy, (hasI rfl), lv, lx, ly, lz, l0, l1, l2, l3, l4, l5, l6, l7, lw, l8, l9, ma, mb, mc⟩ ?_
 rintro ⟨xs4, ag, bz, b0, i2, xs5, ae, ax, ay⟩ _ ap ⟨fy, md, cv, fz, eg, i3, f0, i4, f1, f2, f3, eh, ei, i5, i6, me, i7, mf, ej, ek⟩
 obtain ⟨rb, rfl⟩ := Has.ins md
 have H := H xs4 i2 xs5 fy
 refine W_seq (W_seq (W_reg (L_mv (vi i2) rfl (L_mv (.slice ad bi bj) rfl ?_))))
 have rc := f3.le
 refine L_pu (P_len Try.underlying31 ad bi bj f3.len rfl) (L_pu (P_cmp i2 (r4.length : Int) (decide (i2 < (r4.length : Int))) rfl rfl rfl) (L_nil ?_))
 refine W_cond (decide (i2 < (r4.length : Int))) rfl (fun f4 => ?_) (fun f4 => ?_)
 ·have H := ite_t H f4
  refine W_skip (W_seq (W_block (W_seq (W_mixr 18 [] (by kernel_rfl) rfl fun mg bl bx => ?_))))
  have el := cv.k0 bl
  refine M_pu 0 rfl (by kernel_rfl) bx (P_fa fa28_2 ⟨au, 0, none⟩ ⟨au, 3, none⟩ rfl rfl) ?_
  have bf := cv.stn bl
  have f5 := (me.st bf)
  refine M_pu 1 rfl (by kernel_rfl) bx (P_ldr ag26 cR ⟨au, 3, none⟩ (.slice A7 n8 c9) rfl (f5.cell rfl) nm_nil) ?_
  refine M_pu 2 rfl (by kernel_rfl) bx (P_fa fa28_2 ⟨ai, 0, none⟩ ⟨ai, 3, none⟩ rfl rfl) ?_
  have f6 := (i7.st bf)
  refine M_pu 3 rfl (by kernel_rfl) bx (P_ldr ag26 cR ⟨ai, 3, none⟩ (.slice am an ao) rfl (f6.cell rfl) nm_nil) ?_
  refine M_pu 4 rfl (by kernel_rfl) bx (P_fa fa28_2 ⟨av, 0, none⟩ ⟨av, 3, none⟩ rfl rfl) ?_
  have f7 := (mf.st bf)
  refine M_pu 5 rfl (by kernel_rfl) bx (P_ldr ag26 cR ⟨av, 3, none⟩ (.slice a5 a6 a7) rfl (f7.cell rfl) nm_nil) ?_
  refine M_pu 6 rfl (by kernel_rfl) bx (P_move (.slice ad bi bj) rfl) ?_
  refine M_pu 7 rfl (by kernel_rfl) bx (P_move (vi i2) rfl) ?_
  obtain ⟨i8, H⟩ := H
  have em := (f3.sn bl)
  obtain ⟨i9, rd, mh, mi, mj⟩ := em.get default (by decide) i2 i8
  obtain ⟨rfl, ml⟩ := Kd.str.op mi
  refine M_pu 8 rfl (by kernel_rfl) bx (P_ia Try.underlying31 se31 ad i9 bi bj em.len i2 rfl mh rfl i8) ?_
  refine M_pu 9 rfl (by kernel_rfl) bx (P_ldr ag9 cR (i9.add (i2.toNat * 1)) (vs (nth r4 i2)) rfl (mj 0 _ rfl) nm_nil) ?_
  refine M_any1 10 (by kernel_rfl) rfl ?_
  refine L_call go88 [.slice A7 n8 c9, .slice am an ao, .slice a5 a6 a7, vs (nth r4 i2)] rfl ((F100.calls mg el.ok o.Tags A7 n8 c9 (f1.st bf) a.Tags am an ao (eg.st bf) b.Tags a5 a6 a7 (f0.st bf) (nth r4 i2) ml _ H).mono ?_)
  rintro _ re ⟨r5, r6, r7, rfl, H, az, ja⟩
  have f8 := el.k0 az
  have ch := Gm.tm bx az
  refine L_nil ⟨ch, ?_⟩
  refine M_pu 11 rfl (by kernel_rfl) ch (P_move (.tuple #[vs r5, vb r6, vb r7]) rfl) ?_
  refine M_pu 12 rfl (by kernel_rfl) ch (P_ext [vs r5, vb r6, vb r7] 0 (vs r5) rfl rfl) ?_
  refine M_pu 13 rfl (by kernel_rfl) ch (P_ext [vs r5, vb r6, vb r7] 1 (vb r6) rfl rfl) ?_
  refine M_pu 14 rfl (by kernel_rfl) ch (P_ext [vs r5, vb r6, vb r7] 2 (vb r7) rfl rfl) ?_
  refine M_pu 15 rfl (by kernel_rfl) ch (P_assign (vs r5) rfl) ?_
  refine M_pu 16 rfl (by kernel_rfl) ch (P_assign (vb r6) rfl) ?_
  refine M_pu 17 rfl (by kernel_rfl) ch (P_assign (vb r7) rfl) ?_
  refine M_nil (by kernel_rfl) ?_
  refine W_seq (W_seq (W_reg (L_mv (vb r7) rfl (L_pu (P_not r7 rfl) (L_nil ?_)))))
  obtain ⟨dc, H, mm⟩ := H
  refine W_join (J := (fun t a8 => ∃ (xs6 : List Str) (af : Option Addr) (ci : Nat) (cj : Nat), dc xs6 ∧ Has t [(3, .pointer (some ⟨au, 0, none⟩)), (4, .pointer (some ⟨ai, 0, none⟩)), (5, .pointer (some ⟨av, 0, none⟩)), (6, .pointer (some ⟨aa, 0, none⟩)), (8, .slice af ci cj), (11, .pointer (some ⟨ab, 0, none⟩)), (12, .slice ad bi bj), (13, vi i2), (14, vs r5), (15, vb r6)] ∧ Ct [] w0 a8 [bk none, bk none, bk ae, bk ad, some ab, bk ac, bk af, some aa] O ∧ Sl kPt a8 (Fr ([bk none, bk none, bk ae, bk ad, some ab, bk ac, bk af, some aa] ++ O)) (.slice a2 a3 a4) a.Shape.Pts ∧ Sl kTag a8 (Fr ([bk none, bk none, bk ae, bk ad, some ab, bk ac, bk af, some aa] ++ O)) (.slice am an ao) a.Tags ∧ Sl kPt a8 (Fr ([bk none, bk none, bk ae, bk ad, some ab, bk ac, bk af, some aa] ++ O)) (.slice bp bq br) b.Shape.Pts ∧ Sl kTag a8 (Fr ([bk none, bk none, bk ae, bk ad, some ab, bk ac, bk af, some aa] ++ O)) (.slice a5 a6 a7) b.Tags ∧ Sl kPt a8 (Fr ([bk none, bk none, bk ae, bk ad, some ab, bk ac, bk af, some aa] ++ O)) (.slice A2 n3 c4) o.Shape.Pts ∧ Sl kTag a8 (Fr ([bk none, bk none, bk ae, bk ad, some ab, bk ac, bk af, some aa] ++ O)) (.slice A7 n8 c9) o.Tags ∧ Ow Kd.str 9 a8 ([bk none, bk none, bk ae, bk ad, some ab, bk ac, bk af, some aa] ++ O) (.slice af ci cj) xs6 ∧ Ow Kd.str 9 a8 ([bk none, bk none, bk ae, bk ad, some ab, bk ac, bk af, some aa] ++ O) (.slice ad bi bj) r4 ∧ Ow kPt 83 a8 ([bk none, bk none, bk ae, bk ad, some ab, bk ac, bk af, some aa] ++ O) (.slice ac ak al) r3.Pts ∧ Ow kTag 39 a8 ([bk none, bk none, bk ae, bk ad, some ab, bk ac, bk af, some aa] ++ O) (.slice ae ax ay) xs5 ∧ Ow kPt 83 a8 ([bk none, bk none, bk ae, bk ad, some ab, bk ac, bk af, some aa] ++ O) (.slice none 0 0) ([] : List Pt) ∧ Ow kTag 39 a8 ([bk none, bk none, bk ae, bk ad, some ab, bk ac, bk af, some aa] ++ O) (.slice none 0 0) ([] : List Tag) ∧ Fb a8 ([bk none, bk none, bk ae, bk ad, some ab, bk ac, bk af, some aa] ++ O) au [vs o.Id, vi o.Shape.Kind, .slice A2 n3 c4, .slice A7 n8 c9] ∧ Fb a8 ([bk none, bk none, bk ae, bk ad, some ab, bk ac, bk af, some aa] ++ O) ai [vs a.Id, vi a.Shape.Kind, .slice a2 a3 a4, .slice am an ao] ∧ Fb a8 ([bk none, bk none, bk ae, bk ad, some ab, bk ac, bk af, some aa] ++ O) av [vs b.Id, vi b.Shape.Kind, .slice bp bq br, .slice a5 a6 a7] ∧ Bx a8 aa [vs ([] : Str), vi 0, .slice none 0 0, .slice none 0 0] ∧ Bx a8 ab [vs a.Id, vi r3.Kind, .slice ac ak al, .slice ae ax ay])) ?_ ?_
  ·refine W_cond (!r7) rfl (fun f9 => ?_) (fun f9 => ?_)
   ·have H := ite_t H f9
    refine W_reg (L_mv (.slice ag bz b0) rfl (L_mv (.slice ad bi bj) rfl (L_mv (vi i2) rfl ?_)))
    obtain ⟨jb, H⟩ := H
    have ga := (em.sn az)
    obtain ⟨jc, rf, mn, mo, mp⟩ := ga.get default (by decide) i2 jb
    obtain ⟨rfl, rg⟩ := Kd.str.op mo
    refine L_pu (P_ia Try.underlying31 se31 ad jc bi bj ga.len i2 rfl mn rfl jb) (L_pu (P_ld ag9 cL (jc.add (i2.toNat * 1)) (vs (nth r4 i2)) rfl (mp 0 _ rfl)) ?_)
    obtain ⟨jd, H⟩ := H
    refine L_pu (P_cat ([116, 97, 103, 32] : Str) (nth r4 i2) rfl rfl jd) (L_lit (kd := Kd.str) ei31 f8 ([(([116, 97, 103, 32] : Str) ++ (nth r4 i2))] : List Str) (cells := [vs (([116, 97, 103, 32] : Str) ++ (nth r4 i2))]) ⟨[vs (([116, 97, 103, 32] : Str) ++ (nth r4 i2))], _, rfl, ⟨rfl, (lim_cat jd)⟩, rfl⟩ (fun _ => by kernel_rfl) fun rh mq mr ms cb hr2430 ck mt => ?_)
    obtain ⟨mu, H⟩ := H
    have mv := (((f2.sn bl).sn az).so _ cb hr2430)
    refine L_app ei31 ck (.slice ag bz b0) xs4 ([(([116, 97, 103, 32] : Str) ++ (nth r4 i2))] : List Str) rfl mv (.slice mq mr ms) rfl mt.sx 7 rfl mu fun ri je jf jg cw bs cl mw => ?_
    refine L_as (.slice je jf jg) rfl (L_nil ?_)
    have mx := cl.drop 0 rfl
    have cc := el.stn az
    have cd := f8.stown _ cb hr2430
    have ce := cl.std 0 rfl
    have my := (((((fz.st bf).st cc).st cd).st bs).st ce)
    have mz := (((((eg.st bf).st cc).st cd).st bs).st ce)
    have m0 := (((((i3.st bf).st cc).st cd).st bs).st ce)
    have m1 := (((((f0.st bf).st cc).st cd).st bs).st ce)
    have m2 := (((((i4.st bf).st cc).st cd).st bs).st ce)
    have m3 := (((((f1.st bf).st cc).st cd).st bs).st ce)
    have m4 := (cl.sd mw 7 0 rfl rfl rfl)
    have m5 := (cl.sd (ck.sm (ga.so _ cb hr2430) 4 7 rfl rfl rfl cw bs) 4 0 rfl rfl rfl)
    have m6 := (cl.sd (ck.sm (((eh.sn bl).sn az).so _ cb hr2430) 6 7 rfl rfl rfl cw bs) 6 0 rfl rfl rfl)
    have m7 := (cl.sd (ck.sm (((ei.sn bl).sn az).so _ cb hr2430) 3 7 rfl rfl rfl cw bs) 3 0 rfl rfl rfl)
    have m8 := (cl.sd (ck.sm (((i5.sn bl).sn az).so _ cb hr2430) 2 7 rfl rfl rfl cw bs) 2 0 rfl rfl rfl)
    have m9 := (cl.sd (ck.sm (((i6.sn bl).sn az).so _ cb hr2430) 1 7 rfl rfl rfl cw bs) 1 0 rfl rfl rfl)
    have na := ((((f5.st cc).st cd).st bs).st ce)
    have nb := ((((f6.st cc).st cd).st bs).st ce)
    have nc := ((((f7.st cc).st cd).st bs).st ce)
    have nd := (ck.bm (((ej.k0 bl).k0 az).k0 cb) 8 7 rfl rfl rfl cw)
    have ne := (ck.bm (((ek.k0 bl).k0 az).k0 cb) 5 7 rfl rfl rfl cw)
    exact ⟨(xs4 ++ ([(([116, 97, 103, 32] : Str) ++ (nth r4 i2))] : List Str)), je, jf, jg, H, (hasI rfl), mx, my, mz, m0, m1, m2, m3, m4, m5, m6, m7, m8, m9, na, nb, nc, nd, ne⟩
   have H := ite_f H f9
   refine W_skip ?_
   have cf := el.stn az
   have nf := ((fz.st bf).st cf)
   have ng := ((eg.st bf).st cf)
   have nh := ((i3.st bf).st cf)
   have ni := ((f0.st bf).st cf)
   have nj := ((i4.st bf).st cf)
   have nk := ((f1.st bf).st cf)
   have nl := ((f2.sn bl).sn az)
   have nm := (em.sn az)
   have nn := ((eh.sn bl).sn az)
   have no := ((ei.sn bl).sn az)
   have np := ((i5.sn bl).sn az)
   have nq := ((i6.sn bl).sn az)
   have nr := (f5.st cf)
   have ns := (f6.st cf)
   have nt := (f7.st cf)
   have nu := ((ej.k0 bl).k0 az)
   have nv := ((ek.k0 bl).k0 az)
   exact ⟨xs4, ag, bz, b0, H, (hasI rfl), f8, nf, ng, nh, ni, nj, nk, nl, nm, nn, no, np, nq, nr, ns, nt, nu, nv⟩
  rintro rj a8 ⟨xs6, af, ci, cj, nw, nx, en, gb, gc, gd, gf, gg, gh, gi, jh, gj, gk, gl, gm, gn, gp, gq, gs, gt⟩
  obtain ⟨rk, rfl⟩ := Has.ins nx
  have H := mm xs6 nw
  refine W_seq (W_reg (L_mv (vb r6) rfl (L_nil ?_)))
  obtain ⟨dd, H, ny⟩ := H
  refine W_join (J := (fun t a9 => ∃ (xs7 : List Tag) (a0 : Option Addr) (eo : Nat) (ep : Nat), dd xs7 ∧ Has t [(3, .pointer (some ⟨au, 0, none⟩)), (4, .pointer (some ⟨ai, 0, none⟩)), (5, .pointer (some ⟨av, 0, none⟩)), (6, .pointer (some ⟨aa, 0, none⟩)), (8, .slice af ci cj), (11, .pointer (some ⟨ab, 0, none⟩)), (12, .slice ad bi bj), (13, vi i2)] ∧ Ct [] w0 a9 [bk none, bk none, bk a0, bk ad, some ab, bk ac, bk af, some aa] O ∧ Sl kPt a9 (Fr ([bk none, bk none, bk a0, bk ad, some ab, bk ac, bk af, some aa] ++ O)) (.slice a2 a3 a4) a.Shape.Pts ∧ Sl kTag a9 (Fr ([bk none, bk none, bk a0, bk ad, some ab, bk ac, bk af, some aa] ++ O)) (.slice am an ao) a.Tags ∧ Sl kPt a9 (Fr ([bk none, bk none, bk a0, bk ad, some ab, bk ac, bk af, some aa] ++ O)) (.slice bp bq br) b.Shape.Pts ∧ Sl kTag a9 (Fr ([bk none, bk none, bk a0, bk ad, some ab, bk ac, bk af, some aa] ++ O)) (.slice a5 a6 a7) b.Tags ∧ Sl kPt a9 (Fr ([bk none, bk none, bk a0, bk ad, some ab, bk ac, bk af, some aa] ++ O)) (.slice A2 n3 c4) o.Shape.Pts ∧ Sl kTag a9 (Fr ([bk none, bk none, bk a0, bk ad, some ab, bk ac, bk af, some aa] ++ O)) (.slice A7 n8 c9) o.Tags ∧ Ow Kd.str 9 a9 ([bk none, bk none, bk a0, bk ad, some ab, bk ac, bk af, some aa] ++ O) (.slice af ci cj) xs6 ∧ Ow Kd.str 9 a9 ([bk none, bk none, bk a0, bk ad, some ab, bk ac, bk af, some aa] ++ O) (.slice ad bi bj) r4 ∧ Ow kPt 83 a9 ([bk none, bk none, bk a0, bk ad, some ab, bk ac, bk af, some aa] ++ O) (.slice ac ak al) r3.Pts ∧ Ow kTag 39 a9 ([bk none, bk none, bk a0, bk ad, some ab, bk ac, bk af, some aa] ++ O) (.slice a0 eo ep) xs7 ∧ Ow kPt 83 a9 ([bk none, bk none, bk a0, bk ad, some ab, bk ac, bk af, some aa] ++ O) (.slice none 0 0) ([] : List Pt) ∧ Ow kTag 39 a9 ([bk none, bk none, bk a0, bk ad, some ab, bk ac, bk af, some aa] ++ O) (.slice none 0 0) ([] : List Tag) ∧ Fb a9 ([bk none, bk none, bk a0, bk ad, some ab, bk ac, bk af, some aa] ++ O) au [vs o.Id, vi o.Shape.Kind, .slice A2 n3 c4, .slice A7 n8 c9] ∧ Fb a9 ([bk none, bk none, bk a0, bk ad, some ab, bk ac, bk af, some aa] ++ O) ai [vs a.Id, vi a.Shape.Kind, .slice a2 a3 a4, .slice am an ao] ∧ Fb a9 ([bk none, bk none, bk a0, bk ad, some ab, bk ac, bk af, some aa] ++ O) av [vs b.Id, vi b.Shape.Kind, .slice bp bq br, .slice a5 a6 a7] ∧ Bx a9 aa [vs ([] : Str), vi 0, .slice none 0 0, .slice none 0 0] ∧ Bx a9 ab [vs a.Id, vi r3.Kind, .slice ac ak al, .slice a0 eo ep])) ?_ ?_
  ·refine W_cond r6 rfl (fun gu => ?_) (fun gu => ?_)
   ·have H := ite_t H gu
    obtain ⟨ji, H⟩ := H
    obtain ⟨jj, H⟩ := H
    refine W_join (J := (fun t ba => ∃ (a1 : Option Addr) (eq : Nat) (er : Nat), Has t [(3, .pointer (some ⟨au, 0, none⟩)), (4, .pointer (some ⟨ai, 0, none⟩)), (5, .pointer (some ⟨av, 0, none⟩)), (6, .pointer (some ⟨aa, 0, none⟩)), (8, .slice af ci cj), (11, .pointer (some ⟨ab, 0, none⟩)), (12, .slice ad bi bj), (13, vi i2)] ∧ Ct [] w0 ba [bk none, bk none, bk a1, bk ad, some ab, bk ac, bk af, some aa] O ∧ Sl kPt ba (Fr ([bk none, bk none, bk a1, bk ad, some ab, bk ac, bk af, some aa] ++ O)) (.slice a2 a3 a4) a.Shape.Pts ∧ Sl kTag ba (Fr ([bk none, bk none, bk a1, bk ad, some ab, bk ac, bk af, some aa] ++ O)) (.slice am an ao) a.Tags ∧ Sl kPt ba (Fr ([bk none, bk none, bk a1, bk ad, some ab, bk ac, bk af, some aa] ++ O)) (.slice bp bq br) b.Shape.Pts ∧ Sl kTag ba (Fr ([bk none, bk none, bk a1, bk ad, some ab, bk ac, bk af, some aa] ++ O)) (.slice a5 a6 a7) b.Tags ∧ Sl kPt ba (Fr ([bk none, bk none, bk a1, bk ad, some ab, bk ac, bk af, some aa] ++ O)) (.slice A2 n3 c4) o.Shape.Pts ∧ Sl kTag ba (Fr ([bk none, bk none, bk a1, bk ad, some ab, bk ac, bk af, some aa] ++ O)) (.slice A7 n8 c9) o.Tags ∧ Ow Kd.str 9 ba ([bk none, bk none, bk a1, bk ad, some ab, bk ac, bk af, some aa] ++ O) (.slice af ci cj) xs6 ∧ Ow Kd.str 9 ba ([bk none, bk none, bk a1, bk ad, some ab, bk ac, bk af, some aa] ++ O) (.slice ad bi bj) r4 ∧ Ow kPt 83 ba ([bk none, bk none, bk a1, bk ad, some ab, bk ac, bk af, some aa] ++ O) (.slice ac ak al) r3.Pts ∧ Ow kTag 39 ba ([bk none, bk none, bk a1, bk ad, some ab, bk ac, bk af, some aa] ++ O) (.slice a1 eq er) (xs5 ++ ([(⟨(nth r4 i2), r5⟩ : Tag)] : List Tag)) ∧ Ow kPt 83 ba ([bk none, bk none, bk a1, bk ad, some ab, bk ac, bk af, some aa] ++ O) (.slice none 0 0) ([] : List Pt) ∧ Ow kTag 39 ba ([bk none, bk none, bk a1, bk ad, some ab, bk ac, bk af, some aa] ++ O) (.slice none 0 0) ([] : List Tag) ∧ Fb ba ([bk none, bk none, bk a1, bk ad, some ab, bk ac, bk af, some aa] ++ O) au [vs o.Id, vi o.Shape.Kind, .slice A2 n3 c4, .slice A7 n8 c9] ∧ Fb ba ([bk none, bk none, bk a1, bk ad, some ab, bk ac, bk af, some aa] ++ O) ai [vs a.Id, vi a.Shape.Kind, .slice a2 a3 a4, .slice am an ao] ∧ Fb ba ([bk none, bk none, bk a1, bk ad, some ab, bk ac, bk af, some aa] ++ O) av [vs b.Id, vi b.Shape.Kind, .slice bp bq br, .slice a5 a6 a7] ∧ Bx ba aa [vs ([] : Str), vi 0, .slice none 0 0, .slice none 0 0] ∧ Bx ba ab [vs a.Id, vi r3.Kind, .slice ac ak al, .slice a1 eq er])) ?_ ?_
    ·refine W_mixr 12 [bk ae, some ab] (by kernel_rfl) rfl fun rl bg b1 => ?_
     have c3 := en.k0 bg
     refine M_pu 0 rfl (by kernel_rfl) b1 (P_fa fa28_2 ⟨ab, 0, none⟩ ⟨ab, 3, none⟩ rfl rfl) ?_
     refine M_pu 2 rfl (by kernel_rfl) b1 (P_move (.slice ad bi bj) rfl) ?_
     refine M_pu 3 rfl (by kernel_rfl) b1 (P_move (vi i2) rfl) ?_
     have es := (jh.sn bg)
     obtain ⟨jk, rm, gw, nz, n0⟩ := es.get default (by decide) i2 ji
     obtain ⟨rfl, jl⟩ := Kd.str.op nz
     refine M_pu 4 rfl (by kernel_rfl) b1 (P_ia Try.underlying31 se31 ad jk bi bj es.len i2 rfl gw rfl ji) ?_
     refine M_pu 5 rfl (by kernel_rfl) b1 (P_ldr ag9 cR (jk.add (i2.toNat * 1)) (vs (nth r4 i2)) rfl (n0 0 _ rfl) (nm_cons (by simp only [add_block]; exact (ow_ne c3 (j := 3) (i := 2) rfl gw rfl (by decide))) (nm_cons (by simp only [add_block]; exact (ow_ne c3 (j := 3) (i := 4) rfl gw rfl (by decide))) nm_nil))) ?_
     refine M_pu 6 rfl (by kernel_rfl) b1 (P_move (vs r5) rfl) ?_
     refine M_pu 7 rfl (by kernel_rfl) b1 (P_build (.agg #[vs (nth r4 i2), vs r5]) (fun _ => by kernel_rfl)) ?_
     refine M_any2 1 8 (by kernel_rfl) rfl rfl ?_ ?_
     ·have jm := (gt.k0 bg)
      refine L_pu (P_ld ag26 cL ⟨ab, 3, none⟩ (.slice ae ax ay) rfl (jm.cell rfl)) ?_
      refine L_nil ⟨b1, ?_⟩
      refine M_any1 8 (by kernel_rfl) rfl ?_
      refine L_lit (kd := kTag) ei26 c3 ([(⟨(nth r4 i2), r5⟩ : Tag)] : List Tag) (cells := [vs (nth r4 i2), vs r5]) ⟨[vs (nth r4 i2), vs r5], _, rfl, (kTag.mk _ _ (⟨(nth r4 i2), r5⟩ : Tag) jl ja), rfl⟩ (fun _ => by kernel_rfl) fun rn jn n1 n2 b2 hr2540 cm n4 => ?_
      have gx := Gm.tm b1 b2
      refine L_nil ⟨gx, ?_⟩
      refine M_any1 9 (by kernel_rfl) rfl ?_
      have gy := ((gk.sn bg).so _ b2 hr2540)
      refine L_app ei26 cm (.slice ae ax ay) xs5 ([(⟨(nth r4 i2), r5⟩ : Tag)] : List Tag) rfl gy (.slice jn n1 n2) rfl n4.sx 3 rfl jj fun n5 cx cy cz bn ah aq gz => ?_
      have c0 := Gm.tq gx bn (hv_mem 0 rfl)
      have n6 := hv_app (L := [bk jn, bk none, bk none, bk ae, bk ad, some ab, bk ac, bk af, some aa]) (O := O) (i := 3) gx rfl (hv_mem 0 rfl) ah aq
      refine L_nil ⟨c0, ?_⟩
      refine M_pu 10 rfl (by kernel_rfl) c0 (P_fa fa28_2 ⟨ab, 0, none⟩ ⟨ab, 3, none⟩ rfl rfl) ?_
      refine M_any1 11 (by kernel_rfl) rfl ?_
      have g1 := (cm.bm (jm.k0 b2) 5 3 rfl rfl rfl bn)
      refine L_stb ab 3 [vs a.Id, vi r3.Kind, .slice ac ak al, .slice ae ax ay] [.slice cx cy cz] [vs a.Id, vi r3.Kind, .slice ac ak al, .slice cx cy cz] rfl g1 rfl sz26 rfl rfl rfl fun n7 ar g2 => ?_
      have bo := aq.wr 5 rfl ar
      have g3 := Gm.tq c0 ar (hv_mem 1 rfl)
      refine L_nil ⟨g3, ?_⟩
      refine M_nil (by kernel_rfl) ?_
      have g4 := bo.drop 0 rfl
      have bb := en.stn bg
      have bc := c3.stown _ b2 hr2540
      have bd := aq.stw 5 rfl ar
      have be := bo.std 0 rfl
      have g5 := (((((gb.st bb).st bc).st ah).st bd).st be)
      have g6 := (((((gc.st bb).st bc).st ah).st bd).st be)
      have g7 := (((((gd.st bb).st bc).st ah).st bd).st be)
      have g8 := (((((gf.st bb).st bc).st ah).st bd).st be)
      have g9 := (((((gg.st bb).st bc).st ah).st bd).st be)
      have ha := (((((gh.st bb).st bc).st ah).st bd).st be)
      have hb := (bo.sd (aq.sw (cm.sm ((gi.sn bg).so _ b2 hr2540) 7 3 rfl rfl rfl bn ah) 7 5 rfl rfl rfl ar) 7 0 rfl rfl rfl)
      have hc := (bo.sd (aq.sw (cm.sm (es.so _ b2 hr2540) 4 3 rfl rfl rfl bn ah) 4 5 rfl rfl rfl ar) 4 0 rfl rfl rfl)
      have hd := (bo.sd (aq.sw (cm.sm ((gj.sn bg).so _ b2 hr2540) 6 3 rfl rfl rfl bn ah) 6 5 rfl rfl rfl ar) 6 0 rfl rfl rfl)
      have he := (bo.sd (aq.sw gz 3 5 rfl rfl rfl ar) 3 0 rfl rfl rfl)
      have hf := (bo.sd (aq.sw (cm.sm ((gl.sn bg).so _ b2 hr2540) 2 3 rfl rfl rfl bn ah) 2 5 rfl rfl rfl ar) 2 0 rfl rfl rfl)
      have hg := (bo.sd (aq.sw (cm.sm ((gm.sn bg).so _ b2 hr2540) 1 3 rfl rfl rfl bn ah) 1 5 rfl rfl rfl ar) 1 0 rfl rfl rfl)
      have hh := (((((gn.st bb).st bc).st ah).st bd).st be)
      have hi := (((((gp.st bb).st bc).st ah).st bd).st be)
      have hj := (((((gq.st bb).st bc).st ah).st bd).st be)
      have hk := (aq.bm (cm.bm ((gs.k0 bg).k0 b2) 8 3 rfl rfl rfl bn) 8 5 rfl rfl rfl ar)
      have hl := g2
      exact ⟨cx, cy, cz, (hasI rfl), g4, g5, g6, g7, g8, g9, ha, hb, hc, hd, he, hf, hg, hh, hi, hj, hk, hl⟩
     refine L_lit (kd := kTag) ei26 c3 ([(⟨(nth r4 i2), r5⟩ : Tag)] : List Tag) (cells := [vs (nth r4 i2), vs r5]) ⟨[vs (nth r4 i2), vs r5], _, rfl, (kTag.mk _ _ (⟨(nth r4 i2), r5⟩ : Tag) jl ja), rfl⟩ (fun _ => by kernel_rfl) fun ro jo n9 oa b3 hr2539 cn ob => ?_
     have et := Gm.tm b1 b3
     refine L_nil ⟨et, ?_⟩
     refine M_any1 1 (by kernel_rfl) rfl ?_
     have jp := ((gt.k0 bg).k0 b3)
     refine L_pu (P_ld ag26 cL ⟨ab, 3, none⟩ (.slice ae ax ay) rfl (jp.cell rfl)) ?_
     refine L_nil ⟨et, ?_⟩
     refine M_any1 9 (by kernel_rfl) rfl ?_
     have gy := ((gk.sn bg).so _ b3 hr2539)
     refine L_app ei26 cn (.slice ae ax ay) xs5 ([(⟨(nth r4 i2), r5⟩ : Tag)] : List Tag) rfl gy (.slice jo n9 oa) rfl ob.sx 3 rfl jj fun n5 cx cy cz bn ah aq gz => ?_
     have c0 := Gm.tq et bn (hv_mem 0 rfl)
     have n6 := hv_app (L := [bk jo, bk none, bk none, bk ae, bk ad, some ab, bk ac, bk af, some aa]) (O := O) (i := 3) et rfl (hv_mem 0 rfl) ah aq
     refine L_nil ⟨c0, ?_⟩
     refine M_pu 10 rfl (by kernel_rfl) c0 (P_fa fa28_2 ⟨ab, 0, none⟩ ⟨ab, 3, none⟩ rfl rfl) ?_
     refine M_any1 11 (by kernel_rfl) rfl ?_
     have g1 := (cn.bm jp 5 3 rfl rfl rfl bn)
     refine L_stb ab 3 [vs a.Id, vi r3.Kind, .slice ac ak al, .slice ae ax ay] [.slice cx cy cz] [vs a.Id, vi r3.Kind, .slice ac ak al, .slice cx cy cz] rfl g1 rfl sz26 rfl rfl rfl fun n7 ar g2 => ?_
     have bo := aq.wr 5 rfl ar
     have g3 := Gm.tq c0 ar (hv_mem 1 rfl)
     refine L_nil ⟨g3, ?_⟩
     refine M_nil (by kernel_rfl) ?_
     have g4 := bo.drop 0 rfl
     have bb := en.stn bg
     have bc := c3.stown _ b3 hr2539
     have bd := aq.stw 5 rfl ar
     have be := bo.std 0 rfl
     have g5 := (((((gb.st bb).st bc).st ah).st bd).st be)
     have g6 := (((((gc.st bb).st bc).st ah).st bd).st be)
     have g7 := (((((gd.st bb).st bc).st ah).st bd).st be)
     have g8 := (((((gf.st bb).st bc).st ah).st bd).st be)
     have g9 := (((((gg.st bb).st bc).st ah).st bd).st be)
     have ha := (((((gh.st bb).st bc).st ah).st bd).st be)
     have hb := (bo.sd (aq.sw (cn.sm ((gi.sn bg).so _ b3 hr2539) 7 3 rfl rfl rfl bn ah) 7 5 rfl rfl rfl ar) 7 0 rfl rfl rfl)
     have hc := (bo.sd (aq.sw (cn.sm (es.so _ b3 hr2539) 4 3 rfl rfl rfl bn ah) 4 5 rfl rfl rfl ar) 4 0 rfl rfl rfl)
     have hd := (bo.sd (aq.sw (cn.sm ((gj.sn bg).so _ b3 hr2539) 6 3 rfl rfl rfl bn ah) 6 5 rfl rfl rfl ar) 6 0 rfl rfl rfl)
     have he := (bo.sd (aq.sw gz 3 5 rfl rfl rfl ar) 3 0 rfl rfl rfl)
     have hf := (bo.sd (aq.sw (cn.sm ((gl.sn bg).so _ b3 hr2539) 2 3 rfl rfl rfl bn ah) 2 5 rfl rfl rfl ar) 2 0 rfl rfl rfl)
     have hg := (bo.sd (aq.sw (cn.sm ((gm.sn bg).so _ b3 hr2539) 1 3 rfl rfl rfl bn ah) 1 5 rfl rfl rfl ar) 1 0 rfl rfl rfl)
     have hh := (((((gn.st bb).st bc).st ah).st bd).st be)
     have hi := (((((gp.st bb).st bc).st ah).st bd).st be)
     have hj := (((((gq.st bb).st bc).st ah).st bd).st be)
     have hk := (aq.bm (cn.bm ((gs.k0 bg).k0 b3) 8 3 rfl rfl rfl bn) 8 5 rfl rfl rfl ar)
     have hl := g2
     exact ⟨cx, cy, cz, (hasI rfl), g4, g5, g6, g7, g8, g9, ha, hb, hc, hd, he, hf, hg, hh, hi, hj, hk, hl⟩
    rintro rp ba ⟨a1, eq, er, oc, od, oe, og, oh, oi, oj, ol, om, on, oo, oq, os, ot, ou, ov, ow, ox, oy⟩
    obtain ⟨rq, rfl⟩ := Has.ins oc
    exact ⟨(xs5 ++ ([(⟨(nth r4 i2), r5⟩ : Tag)] : List Tag)), a1, eq, er, H, (hasI rfl), od, oe, og, oh, oi, oj, ol, om, on, oo, oq, os, ot, ou, ov, ow, ox, oy⟩
   have H := ite_f H gu
   exact W_skip ⟨xs5, ae, ax, ay, H, (hasI rfl), en, gb, gc, gd, gf, gg, gh, gi, jh, gj, gk, gl, gm, gn, gp, gq, gs, gt⟩
  rintro rr a9 ⟨xs7, a0, eo, ep, oz, o0, o1, o2, o3, o4, o5, o6, o7, o8, o9, pa, pb, pd, pe, pf, pg, ph, pi, pj⟩
  obtain ⟨rs, rfl⟩ := Has.ins o0
  have H := ny xs7 oz
  refine W_reg (L_mv (vi i2) rfl ?_)
  obtain ⟨pk, H⟩ := H
  refine L_pu (P_add i2 1 rfl rfl pk) (L_as (vi (i2 + 1)) rfl (L_nil ?_))
  obtain ⟨pl, pm⟩ := H
  exact ⟨(xs6, af, ci, cj, i2 + 1, xs7, a0, eo, ep), pm, pl, (hasI rfl), o1, o2, o3, o4, o5, o6, o7, o8, o9, pa, pb, pd, pe, pf, pg, ph, pi, pj⟩
 have H := ite_f H f4
 refine W_exit (xin_hit ?_)
 refine W_seq (W_seq (W_reg (L_pu (P_lda ag28 sz28 cL ⟨ab, 0, none⟩ [vs a.Id, vi r3.Kind, .slice ac ak al, .slice ae ax ay] rfl rfl (ek.cells (off := 0) rfl)) ?_)))
 have pn := cv.gv eh 5 rfl
 have hm := cv.drop 5 rfl
 have po := (cv.sd ei 2 5 rfl rfl rfl)
 have pp := hm.gv po 2 rfl
 have pq : Ct [] w0 ap [bk none, bk none, bk ad, some ab, bk ag, some aa] O := hm.drop 2 rfl
 have pr := hm.std 2 rfl
 refine L_call go10 [.agg #[vs a.Id, vi r3.Kind, .slice ac ak al, .slice ae ax ay]] rfl ((F64.calls ap pq.ok (⟨a.Id, r3, xs5⟩ : Feat) ac ak al ae ax ay e3 (pn.st pr) pp _ H).mono ?_)
 rintro _ ps ⟨r8, rfl, H, co⟩
 have dg := cv.k0 co
 refine L_pu (P_not r8 rfl) (L_nil ?_)
 refine W_cond (!r8) rfl (fun hn => ?_) (fun hn => ?_)
 ·have H := ite_t H hn
  refine W_seq ?_
  have eu : ([bk none, bk none, bk ae, bk ad, some ab, bk ac, bk ag, some aa] : Ob).Perm ((bk ae :: bk ad :: some ab :: bk ac :: bk ag :: []) ++ [bk none, bk none, some aa]) := (pc fun a => by (try simp only [pca, pcc, pcn, Nat.add_zero, Nat.zero_add]); first | done | ac_rfl)
  have jq := dg.drops eu
  refine W_reg ?_
  have ho := cv.stn co
  have pt := ((i7.st ho).st (St.drops _ O eu))
  refine L_pu (P_lda ag28 sz28 cL ⟨ai, 0, none⟩ [vs a.Id, vi a.Shape.Kind, .slice a2 a3 a4, .slice am an ao] rfl rfl (pt.cells (off := 0) rfl)) ?_
  have pu := ((fz.st ho).st (St.drops _ O eu))
  have pv := ((eg.st ho).st (St.drops _ O eu))
  refine L_call go27 [.agg #[vs a.Id, vi a.Shape.Kind, .slice a2 a3 a4, .slice am an ao]] rfl ((F60.calls ps jq.ok a a2 a3 a4 am an ao e3 pu pv _ H).mono ?_)
  rintro _ pw ⟨r9, c5, ev, ew, c6, ex, ey, rfl, H, jr, px, py, pz, p0, p1⟩
  have p2 : Ct [] w0 pw [bk c5, bk c6, bk none, bk none, some aa] O := jq.owns jr px py
  refine L_lit (kd := Kd.str) ei31 p2 ([([109, 117, 99, 104] : Str)] : List Str) (cells := [vs ([109, 117, 99, 104] : Str)]) ⟨[vs ([109, 117, 99, 104] : Str)], _, rfl, ⟨rfl, (by decide : Lim ([109, 117, 99, 104] : Str))⟩, rfl⟩ (fun _ => by kernel_rfl) fun rt ez hp hq hr hr4606 e0 p3 => ?_
  have p4 := (((ej.k0 co).k0 jr).k0 hr)
  refine L_stb aa 0 [vs ([] : Str), vi 0, .slice none 0 0, .slice none 0 0] [vs r9.Id, vi r9.Shape.Kind, .slice c5 ev ew, .slice c6 ex ey] [vs r9.Id, vi r9.Shape.Kind, .slice c5 ev ew, .slice c6 ex ey] rfl p4 rfl sz28 rfl rfl rfl fun p5 e1 p6 => ?_
  have dh := e0.wr 5 rfl e1
  refine L_as (.slice ez hp hq) rfl (L_nil (W_ret ?_))
  have p7 := dh.bgv p6 5 rfl
  have di := dh.drop 5 rfl
  have dj := di.drop 3 rfl
  have dk : Ct [] w0 p5 [bk ez, bk c5, bk c6] O := dj.drop 3 rfl
  have dl := dk.perm (.swap _ _ _)
  have hs := dl.perm (.cons _ (.swap _ _ _))
  have p8 := di.std 3 rfl
  have p9 := dj.std 3 rfl
  have qa := dk.stp (.swap _ _ _)
  have qb := dl.stp (.cons _ (.swap _ _ _))
  have qc := ((((p7.st p8).st p9).st qa).st qb)
  have qd := (dl.sp (dk.sp (dj.sd (di.sd (dh.sd (e0.sw (p0.so _ hr hr4606) 1 5 rfl rfl rfl e1) 1 5 rfl rfl rfl) 1 3 rfl rfl rfl) 1 3 rfl rfl rfl) (.swap _ _ _)) (.cons _ (.swap _ _ _)))
  have qe := (dl.sp (dk.sp (dj.sd (di.sd (dh.sd (e0.sw (p1.so _ hr hr4606) 2 5 rfl rfl rfl e1) 2 5 rfl rfl rfl) 2 3 rfl rfl rfl) 2 3 rfl rfl rfl) (.swap _ _ _)) (.cons _ (.swap _ _ _)))
  have qf := (dl.sp (dk.sp (dj.sd (di.sd (dh.sd (e0.sw p3 0 5 rfl rfl rfl e1) 0 5 rfl rfl rfl) 0 3 rfl rfl rfl) 0 3 rfl rfl rfl) (.swap _ _ _)) (.cons _ (.swap _ _ _)))
  exact ⟨[.agg #[vs r9.Id, vi r9.Shape.Kind, .slice c5 ev ew, .slice c6 ex ey], .slice ez hp hq], ⟨_, _, rfl, qc.1.res rfl ag28 sz28, ⟨_, rfl, rfl⟩⟩, r9, ([([109, 117, 99, 104] : Str)] : List Str), c5, ev, ew, c6, ex, ey, ez, hp, hq, rfl, H, hs.gr.g0, hs.ok, hs.ge, pz, qd, qe, qf⟩
 have H := ite_f H hn
 refine W_skip (W_seq (W_reg ?_))
 have qg := (ek.k0 co)
 refine L_pu (P_lda ag28 sz28 cL ⟨ab, 0, none⟩ [vs a.Id, vi r3.Kind, .slice ac ak al, .slice ae ax ay] rfl rfl (qg.cells (off := 0) rfl)) (L_mv (.slice ag bz b0) rfl ?_)
 have qh := (ej.k0 co)
 refine L_stb aa 0 [vs ([] : Str), vi 0, .slice none 0 0, .slice none 0 0] [vs a.Id, vi r3.Kind, .slice ac ak al, .slice ae ax ay] [vs a.Id, vi r3.Kind, .slice ac ak al, .slice ae ax ay] rfl qh rfl sz28 rfl rfl rfl fun js e2 qi => ?_
 have dm := dg.wr 7 rfl e2
 refine L_as (.slice ag bz b0) rfl (L_nil (W_ret ?_))
 have qj := dm.bgv qi 7 rfl
 have dn := dm.drop 7 rfl
 have dp : Ct [] w0 js [bk none, bk ae, bk ad, some ab, bk ac, bk ag] O := dn.drop 0 rfl
 have dq := dp.drop 0 rfl
 have dr := dq.drop 1 rfl
 have ds : Ct [] w0 js [bk ae, bk ac, bk ag] O := dr.drop 1 rfl
 have ht := ds.perm (.swap _ _ _)
 have qk := dn.std 0 rfl
 have ql := dp.std 0 rfl
 have qm := dq.std 1 rfl
 have qn := dr.std 1 rfl
 have qo := ds.stp (.swap _ _ _)
 have qp := (((((qj.st qk).st ql).st qm).st qn).st qo)
 have qq := (ds.sp (dr.sd (dq.sd (dp.sd (dn.sd (dm.sd (dg.sw (eh.sn co) 5 7 rfl rfl rfl e2) 5 7 rfl rfl rfl) 5 0 rfl rfl rfl) 4 0 rfl rfl rfl) 3 1 rfl rfl rfl) 2 1 rfl rfl rfl) (.swap _ _ _))
 have qr := (ds.sp (dr.sd (dq.sd (dp.sd (dn.sd (dm.sd (dg.sw (ei.sn co) 2 7 rfl rfl rfl e2) 2 7 rfl rfl rfl) 2 0 rfl rfl rfl) 1 0 rfl rfl rfl) 0 1 rfl rfl rfl) 0 1 rfl rfl rfl) (.swap _ _ _))
 have qs := (ds.sp (dr.sd (dq.sd (dp.sd (dn.sd (dm.sd (dg.sw (f2.sn co) 6 7 rfl rfl rfl e2) 6 7 rfl rfl rfl) 6 0 rfl rfl rfl) 5 0 rfl rfl rfl) 4 1 rfl rfl rfl) 3 1 rfl rfl rfl) (.swap _ _ _))
 exact ⟨[.agg #[vs a.Id, vi r3.Kind, .slice ac ak al, .slice ae ax ay], .slice ag bz b0], ⟨_, _, rfl, qp.1.res rfl ag28 sz28, ⟨_, rfl, rfl⟩⟩, (⟨a.Id, r3, xs5⟩ : Feat), xs4, ac, ak, al, ae, ax, ay, ag, bz, b0, rfl, H, ht.gr.g0, ht.ok, ht.ge, e3, qq, qr, qs⟩
end
section
open Go.RowKit
def F39.E (base_ : Feat) (a : Feat) (b : Feat) (Q : Feat → List Str → Prop) : Prop :=
 F64.E base_ (fun r => (if !r then Q (⟨([] : Str), (⟨0, ([] : List Pt)⟩ : Shape), ([] : List Tag)⟩ : Feat) ([] : List Str) else F64.E a (fun r2 => (if !r2 then Q (⟨([] : Str), (⟨0, ([] : List Pt)⟩ : Shape), ([] : List Tag)⟩ : Feat) ([] : List Str) else F64.E b (fun r3 => (if !r3 then Q (⟨([] : Str), (⟨0, ([] : List Pt)⟩ : Shape), ([] : List Tag)⟩ : Feat) ([] : List Str) else (if a.Id != base_.Id then Q (⟨([] : Str), (⟨0, ([] : List Pt)⟩ : Shape), ([] : List Tag)⟩ : Feat) ([] : List Str) else (if b.Id != base_.Id then Q (⟨([] : Str), (⟨0, ([] : List Pt)⟩ : Shape), ([] : List Tag)⟩ : Feat) ([] : List Str) else F75.E base_ a b (fun r4 r5 => Q r4 r5)))))))))
theorem F39.calls {O : Ob} (w0 : World) (hO : Ok w0 O) (base_ : Feat) (A2 : Option Addr) (n3 c4 : Nat) (A7 : Option Addr) (n8 c9 : Nat) (hs1 : Lim base_.Id) (hp5 : Sl kPt w0 (Fr O) (.slice A2 n3 c4) base_.Shape.Pts) (cl : Sl kTag w0 (Fr O) (.slice A7 n8 c9) base_.Tags) (a : Feat) (ag : Option Addr) (ah ai : Nat) (aj : Option Addr) (ak al : Nat) (cm : Lim a.Id) (cn : Sl kPt w0 (Fr O) (.slice ag ah ai) a.Shape.Pts) (co : Sl kTag w0 (Fr O) (.slice aj ak al) a.Tags) (b : Feat) (am : Option Addr) (an ao : Nat) (ap : Option Addr) (aq ar : Nat) (cp : Lim b.Id) (cq : Sl kPt w0 (Fr O) (.slice am an ao) b.Shape.Pts) (cr : Sl kTag w0 (Fr O) (.slice ap aq ar) b.Tags) (Q : Feat → List Str → Prop) (h : F39.E base_ a b Q) :
  Ret Try.prog 8 [.agg #[vs base_.Id, vi base_.Shape.Kind, .slice A2 n3 c4, .slice A7 n8 c9], .agg #[vs a.Id, vi a.Shape.Kind, .slice ag ah ai, .slice aj ak al], .agg #[vs b.Id, vi b.Shape.Kind, .slice am an ao, .slice ap aq ar]] w0 (fun v w' => ∃ (r0 : Feat) (r1 : List Str) (Aw0 : Option Addr) (nw0 cw0 : Nat) (Aw2 : Option Addr) (nw2 cw2 : Nat) (Aw4 : Option Addr) (nw4 cw4 : Nat), v = .tuple #[.agg #[vs r0.Id, vi r0.Shape.Kind, .slice Aw0 nw0 cw0, .slice Aw2 nw2 cw2], .slice Aw4 nw4 cw4] ∧ Q r0 r1 ∧ Gr w0 w' none ∧ Ok w' ([bk Aw0, bk Aw2, bk Aw4] ++ O) ∧ (∀ b, some b ∈ [bk Aw0, bk Aw2, bk Aw4] → w0.heap.size ≤ b) ∧ Lim r0.Id ∧ Ow kPt 83 w' ([bk Aw0, bk Aw2, bk Aw4] ++ O) (.slice Aw0 nw0 cw0) r0.Shape.Pts ∧ Ow kTag 39 w' ([bk Aw0, bk Aw2, bk Aw4] ++ O) (.slice Aw2 nw2 cw2) r0.Tags ∧ Ow Kd.str 9 w' ([bk Aw0, bk Aw2, bk Aw4] ++ O) (.slice Aw4 nw4 cw4) r1) := by
 unfold F39.E at h
 have H := h
 clear h
 have hc0 := Ct.init hO
 refine Ret_enter Try.func8 rfl 43 rfl [.cell 6 28, .tmp 7] rfl rfl ?_
 refine W_seq (W_reg (L_box [vs base_.Id, vi base_.Shape.Kind, .slice A2 n3 c4, .slice A7 n8 c9] rfl fun gi au dm hu38 dn dp => ?_))
 have dq := Fb.mk hc0.ok dm dp
 have bw := hc0.k0 dn
 refine L_box [vs a.Id, vi a.Shape.Kind, .slice ag ah ai, .slice aj ak al] rfl fun gj ba dr hu47 cs ds => ?_
 have dt := Fb.mk bw.ok dr ds
 have bx := bw.k0 cs
 refine L_box [vs b.Id, vi b.Shape.Kind, .slice am an ao, .slice ap aq ar] rfl fun gk bb du hu56 ct dv => ?_
 have dw := Fb.mk bx.ok du dv
 have cu := bx.k0 ct
 refine L_alloc [vs [], .int .i64 0, .slice none 0 0, .slice none 0 0] ze28 fun dx aa cv hu65 cw a3 => ?_
 have bc := cu.own cw (some aa) (oglt cv hu65)
 refine L_as (.slice none 0 0) rfl (L_nil (W_seq (W_seq (W_reg ?_))))
 have dy := bw.stn cs
 have cx := bx.stn ct
 have bz := cu.stown _ cw (oge cv)
 have cy := (((dq.st dy).st cx).st bz)
 refine L_pu (P_lda ag28 sz28 cL ⟨au, 0, none⟩ [vs base_.Id, vi base_.Shape.Kind, .slice A2 n3 c4, .slice A7 n8 c9] rfl rfl (cy.cells (off := 0) rfl)) ?_
 refine L_call go10 [.agg #[vs base_.Id, vi base_.Shape.Kind, .slice A2 n3 c4, .slice A7 n8 c9]] rfl ((F64.calls dx bc.ok base_ A2 n3 c4 A7 n8 c9 hs1 (hp5.st bc.st) (cl.st bc.st) _ H).mono ?_)
 rintro _ dz ⟨r, rfl, H, av⟩
 have a4 := bc.k0 av
 refine L_pu (P_not r rfl) (L_mv (vb (!r)) rfl ?_)
 rcases bool_or (!r) with ad | ad
 ·have H := ite_t H ad
  refine L_pb ad rfl (L_pb ad rfl (L_pb ad rfl (L_pu (P_pick true (vb true) (by exact congrArg Value.bool ad) rfl) (L_mv (vb true) rfl (L_pass (dj := 16) rfl rfl (.inl rfl) (L_pass (dj := 16) rfl rfl (.inl rfl) (L_pass (dj := 16) rfl rfl (.inl rfl) (L_pu (P_pick true (vb true) (by exact congrArg Value.bool rfl) rfl) ?_))))))))
  refine L_mv (vb true) rfl (L_pass (dj := 21) rfl rfl (.inl rfl) (L_pass (dj := 21) rfl rfl (.inl rfl) (L_pass (dj := 21) rfl rfl (.inl rfl) (L_pass (dj := 21) rfl rfl (.inl rfl) (L_pass (dj := 21) rfl rfl (.inl rfl) (L_pu (P_pick true (vb true) (by exact congrArg Value.bool rfl) rfl) (L_mv (vb true) rfl (L_pass (dj := 28) rfl rfl (.inl rfl) ?_))))))))
  refine L_pass (dj := 28) rfl rfl (.inl rfl) (L_pass (dj := 28) rfl rfl (.inl rfl) (L_pass (dj := 28) rfl rfl (.inl rfl) (L_pass (dj := 28) rfl rfl (.inl rfl) (L_pu (P_pick true (vb true) (by exact congrArg Value.bool rfl) rfl) (L_nil (W_ct (b := true) rfl rfl ?_))))))
  refine W_seq (W_reg (L_pu (P_build (.agg #[vs ([] : Str), vi 0, .slice none 0 0, .slice none 0 0]) (fun _ => by kernel_rfl)) (L_lit (kd := Kd.str) ei31 a4 ([] : List Str) (cells := []) rfl (fun _ => by kernel_rfl) fun gl bd b0 b1 d0 hr85 cz d1 => ?_)))
  have d2 := ((a3.k0 av).k0 d0)
  refine L_stb aa 0 [vs ([] : Str), vi 0, .slice none 0 0, .slice none 0 0] [vs ([] : Str), vi 0, .slice none 0 0, .slice none 0 0] [vs ([] : Str), vi 0, .slice none 0 0, .slice none 0 0] rfl d2 rfl sz28 rfl rfl rfl fun c0 c1 d3 => ?_
  have d4 := cz.wr 1 rfl c1
  refine L_as (.slice bd b0 b1) rfl (L_nil (W_ret ?_))
  have d5 := d4.own (Gr.refl _ none) none (by simp)
  have d6 : Ow kPt 83 c0 ([bk none, bk bd, some aa] ++ O) (.slice none 0 0) [] := Ow.nil _ _ _ _
  have be := d5.own (Gr.refl _ none) none (by simp)
  have d7 : Ow kTag 39 c0 ([bk none, bk none, bk bd, some aa] ++ O) (.slice none 0 0) [] := Ow.nil _ _ _ _
  have d8 := d3
  have d9 := be.bgv d8 3 rfl
  have bf := be.drop 3 rfl
  have b2 := bf.perm (.swap _ _ _)
  have ea := bf.stp (.swap _ _ _)
  have eb := (d9.st ea)
  have ec := (bf.sp (be.sd (d6.so none (Gr.refl _ none) (by simp)) 1 3 rfl rfl rfl) (.swap _ _ _))
  have ed := (bf.sp (be.sd d7 0 3 rfl rfl rfl) (.swap _ _ _))
  have ee := (bf.sp (be.sd (((cz.sw d1 0 1 rfl rfl rfl c1).so none (Gr.refl _ none) (by simp)).so none (Gr.refl _ none) (by simp)) 2 3 rfl rfl rfl) (.swap _ _ _))
  exact ⟨[.agg #[vs ([] : Str), vi 0, .slice none 0 0, .slice none 0 0], .slice bd b0 b1], ⟨_, _, rfl, eb.1.res rfl ag28 sz28, ⟨_, rfl, rfl⟩⟩, (⟨([] : Str), (⟨0, ([] : List Pt)⟩ : Shape), ([] : List Tag)⟩ : Feat), ([] : List Str), none, 0, 0, none, 0, 0, bd, b0, b1, rfl, H, b2.gr.g0, b2.ok, b2.ge, (by decide), ec, ed, ee⟩
 have H := ite_f H ad
 refine L_rb ad rfl ?_
 have b3 := bc.stn av
 have c2 := (((dt.st cx).st bz).st b3)
 refine L_pu (P_lda ag28 sz28 cL ⟨ba, 0, none⟩ [vs a.Id, vi a.Shape.Kind, .slice ag ah ai, .slice aj ak al] rfl rfl (c2.cells (off := 0) rfl)) (L_rb ad rfl ?_)
 refine L_call go10 [.agg #[vs a.Id, vi a.Shape.Kind, .slice ag ah ai, .slice aj ak al]] rfl ((F64.calls dz a4.ok a ag ah ai aj ak al cm (cn.st a4.st) (co.st a4.st) _ H).mono ?_)
 rintro _ ef ⟨r2, rfl, H, aw⟩
 have a5 := a4.k0 aw
 refine L_rb ad rfl (L_pu (P_not r2 rfl) (L_pu (P_pick false (vb (!r2)) (by exact congrArg Value.bool ad) rfl) (L_mv (vb (!r2)) rfl ?_)))
 rcases bool_or (!r2) with ae | ae
 ·have H := ite_t H ae
  refine L_pb ae rfl (L_pb ae rfl (L_pb ae rfl (L_pu (P_pick true (vb true) (by exact congrArg Value.bool ae) rfl) (L_mv (vb true) rfl (L_pass (dj := 21) rfl rfl (.inl rfl) (L_pass (dj := 21) rfl rfl (.inl rfl) (L_pass (dj := 21) rfl rfl (.inl rfl) (L_pass (dj := 21) rfl rfl (.inl rfl) ?_))))))))
  refine L_pass (dj := 21) rfl rfl (.inl rfl) (L_pu (P_pick true (vb true) (by exact congrArg Value.bool rfl) rfl) (L_mv (vb true) rfl (L_pass (dj := 28) rfl rfl (.inl rfl) (L_pass (dj := 28) rfl rfl (.inl rfl) (L_pass (dj := 28) rfl rfl (.inl rfl) (L_pass (dj := 28) rfl rfl (.inl rfl) (L_pass (dj := 28) rfl rfl (.inl rfl) (L_pu (P_pick true (vb true) (by exact congrArg Value.bool rfl) rfl) ?_))))))))
  refine L_nil (W_ct (b := true) rfl rfl ?_)
  refine W_seq (W_reg (L_pu (P_build (.agg #[vs ([] : Str), vi 0, .slice none 0 0, .slice none 0 0]) (fun _ => by kernel_rfl)) (L_lit (kd := Kd.str) ei31 a5 ([] : List Str) (cells := []) rfl (fun _ => by kernel_rfl) fun gm bg b4 b5 eg hr123 c3 eh => ?_)))
  have ei := (((a3.k0 av).k0 aw).k0 eg)
  refine L_stb aa 0 [vs ([] : Str), vi 0, .slice none 0 0, .slice none 0 0] [vs ([] : Str), vi 0, .slice none 0 0, .slice none 0 0] [vs ([] : Str), vi 0, .slice none 0 0, .slice none 0 0] rfl ei rfl sz28 rfl rfl rfl fun c5 c6 ej => ?_
  have ek := c3.wr 1 rfl c6
  refine L_as (.slice bg b4 b5) rfl (L_nil (W_ret ?_))
  have el := ek.own (Gr.refl _ none) none (by simp)
  have em : Ow kPt 83 c5 ([bk none, bk bg, some aa] ++ O) (.slice none 0 0) [] := Ow.nil _ _ _ _
  have bh := el.own (Gr.refl _ none) none (by simp)
  have en : Ow kTag 39 c5 ([bk none, bk none, bk bg, some aa] ++ O) (.slice none 0 0) [] := Ow.nil _ _ _ _
  have eo := ej
  have ep := bh.bgv eo 3 rfl
  have bi := bh.drop 3 rfl
  have b6 := bi.perm (.swap _ _ _)
  have eq := bi.stp (.swap _ _ _)
  have er := (ep.st eq)
  have es := (bi.sp (bh.sd (em.so none (Gr.refl _ none) (by simp)) 1 3 rfl rfl rfl) (.swap _ _ _))
  have et := (bi.sp (bh.sd en 0 3 rfl rfl rfl) (.swap _ _ _))
  have eu := (bi.sp (bh.sd (((c3.sw eh 0 1 rfl rfl rfl c6).so none (Gr.refl _ none) (by simp)).so none (Gr.refl _ none) (by simp)) 2 3 rfl rfl rfl) (.swap _ _ _))
  exact ⟨[.agg #[vs ([] : Str), vi 0, .slice none 0 0, .slice none 0 0], .slice bg b4 b5], ⟨_, _, rfl, er.1.res rfl ag28 sz28, ⟨_, rfl, rfl⟩⟩, (⟨([] : Str), (⟨0, ([] : List Pt)⟩ : Shape), ([] : List Tag)⟩ : Feat), ([] : List Str), none, 0, 0, none, 0, 0, bg, b4, b5, rfl, H, b6.gr.g0, b6.ok, b6.ge, (by decide), es, et, eu⟩
 have H := ite_f H ae
 refine L_rb ae rfl ?_
 have b7 := a4.stn aw
 have c7 := (((dw.st bz).st b3).st b7)
 refine L_pu (P_lda ag28 sz28 cL ⟨bb, 0, none⟩ [vs b.Id, vi b.Shape.Kind, .slice am an ao, .slice ap aq ar] rfl rfl (c7.cells (off := 0) rfl)) (L_rb ae rfl ?_)
 refine L_call go10 [.agg #[vs b.Id, vi b.Shape.Kind, .slice am an ao, .slice ap aq ar]] rfl ((F64.calls ef a5.ok b am an ao ap aq ar cp (cq.st a5.st) (cr.st a5.st) _ H).mono ?_)
 rintro _ ev ⟨r3, rfl, H, a6⟩
 have af := a5.k0 a6
 refine L_rb ae rfl (L_pu (P_not r3 rfl) (L_pu (P_pick false (vb (!r3)) (by exact congrArg Value.bool ae) rfl) (L_mv (vb (!r3)) rfl ?_)))
 rcases bool_or (!r3) with ab | ab
 ·have H := ite_t H ab
  refine L_pb ab rfl (L_pb ab rfl (L_pb ab rfl (L_pb ab rfl (L_pb ab rfl (L_pu (P_pick true (vb true) (by exact congrArg Value.bool ab) rfl) (L_mv (vb true) rfl (L_pass (dj := 28) rfl rfl (.inl rfl) (L_pass (dj := 28) rfl rfl (.inl rfl) ?_))))))))
  refine L_pass (dj := 28) rfl rfl (.inl rfl) (L_pass (dj := 28) rfl rfl (.inl rfl) (L_pass (dj := 28) rfl rfl (.inl rfl) (L_pu (P_pick true (vb true) (by exact congrArg Value.bool rfl) rfl) (L_nil (W_ct (b := true) rfl rfl ?_)))))
  refine W_seq (W_reg (L_pu (P_build (.agg #[vs ([] : Str), vi 0, .slice none 0 0, .slice none 0 0]) (fun _ => by kernel_rfl)) (L_lit (kd := Kd.str) ei31 af ([] : List Str) (cells := []) rfl (fun _ => by kernel_rfl) fun gn bj b8 b9 ew hr161 c8 ex => ?_)))
  have ey := ((((a3.k0 av).k0 aw).k0 a6).k0 ew)
  refine L_stb aa 0 [vs ([] : Str), vi 0, .slice none 0 0, .slice none 0 0] [vs ([] : Str), vi 0, .slice none 0 0, .slice none 0 0] [vs ([] : Str), vi 0, .slice none 0 0, .slice none 0 0] rfl ey rfl sz28 rfl rfl rfl fun da db ez => ?_
  have e0 := c8.wr 1 rfl db
  refine L_as (.slice bj b8 b9) rfl (L_nil (W_ret ?_))
  have e1 := e0.own (Gr.refl _ none) none (by simp)
  have e2 : Ow kPt 83 da ([bk none, bk bj, some aa] ++ O) (.slice none 0 0) [] := Ow.nil _ _ _ _
  have bl := e1.own (Gr.refl _ none) none (by simp)
  have e3 : Ow kTag 39 da ([bk none, bk none, bk bj, some aa] ++ O) (.slice none 0 0) [] := Ow.nil _ _ _ _
  have e4 := ez
  have e5 := bl.bgv e4 3 rfl
  have bm := bl.drop 3 rfl
  have ca := bm.perm (.swap _ _ _)
  have e6 := bm.stp (.swap _ _ _)
  have e7 := (e5.st e6)
  have e8 := (bm.sp (bl.sd (e2.so none (Gr.refl _ none) (by simp)) 1 3 rfl rfl rfl) (.swap _ _ _))
  have e9 := (bm.sp (bl.sd e3 0 3 rfl rfl rfl) (.swap _ _ _))
  have fa := (bm.sp (bl.sd (((c8.sw ex 0 1 rfl rfl rfl db).so none (Gr.refl _ none) (by simp)).so none (Gr.refl _ none) (by simp)) 2 3 rfl rfl rfl) (.swap _ _ _))
  exact ⟨[.agg #[vs ([] : Str), vi 0, .slice none 0 0, .slice none 0 0], .slice bj b8 b9], ⟨_, _, rfl, e7.1.res rfl ag28 sz28, ⟨_, rfl, rfl⟩⟩, (⟨([] : Str), (⟨0, ([] : List Pt)⟩ : Shape), ([] : List Tag)⟩ : Feat), ([] : List Str), none, 0, 0, none, 0, 0, bj, b8, b9, rfl, H, ca.gr.g0, ca.ok, ca.ge, (by decide), e8, e9, fa⟩
 have H := ite_f H ab
 refine L_rb ab rfl (L_pu (P_fa fa28_0 ⟨ba, 0, none⟩ ⟨ba, 0, none⟩ rfl rfl) (L_rb ab rfl ?_))
 have cb := a5.stn a6
 have dc := ((c2.st b7).st cb)
 refine L_pu (P_ld ag9 cL ⟨ba, 0, none⟩ (vs a.Id) rfl (dc.cell rfl)) (L_rb ab rfl (L_pu (P_fa fa28_0 ⟨au, 0, none⟩ ⟨au, 0, none⟩ rfl rfl) (L_rb ab rfl ?_)))
 have cc := (((cy.st b3).st b7).st cb)
 refine L_pu (P_ld ag9 cL ⟨au, 0, none⟩ (vs base_.Id) rfl (cc.cell rfl)) (L_rb ab rfl (L_pu (P_scmp a.Id base_.Id (a.Id != base_.Id) rfl rfl rfl) (L_pu (P_pick false (vb (a.Id != base_.Id)) (by exact congrArg Value.bool ab) rfl) (L_mv (vb (a.Id != base_.Id)) rfl ?_))))
 rcases bool_or (a.Id != base_.Id) with ac | ac
 ·have H := ite_t H ac
  refine L_pb ac rfl (L_pb ac rfl (L_pb ac rfl (L_pb ac rfl (L_pb ac rfl (L_pu (P_pick true (vb true) (by exact congrArg Value.bool ac) rfl) (L_nil (W_ct (b := true) rfl rfl ?_)))))))
  refine W_seq (W_reg (L_pu (P_build (.agg #[vs ([] : Str), vi 0, .slice none 0 0, .slice none 0 0]) (fun _ => by kernel_rfl)) (L_lit (kd := Kd.str) ei31 af ([] : List Str) (cells := []) rfl (fun _ => by kernel_rfl) fun gp bn cd ce fb hr194 dd fc => ?_)))
  have fd := ((((a3.k0 av).k0 aw).k0 a6).k0 fb)
  refine L_stb aa 0 [vs ([] : Str), vi 0, .slice none 0 0, .slice none 0 0] [vs ([] : Str), vi 0, .slice none 0 0, .slice none 0 0] [vs ([] : Str), vi 0, .slice none 0 0, .slice none 0 0] rfl fd rfl sz28 rfl rfl rfl fun de df fe => ?_
  have ff := dd.wr 1 rfl df
  refine L_as (.slice bn cd ce) rfl (L_nil (W_ret ?_))
  have fg := ff.own (Gr.refl _ none) none (by simp)
  have fh : Ow kPt 83 de ([bk none, bk bn, some aa] ++ O) (.slice none 0 0) [] := Ow.nil _ _ _ _
  have bo := fg.own (Gr.refl _ none) none (by simp)
  have fi : Ow kTag 39 de ([bk none, bk none, bk bn, some aa] ++ O) (.slice none 0 0) [] := Ow.nil _ _ _ _
  have fj := fe
  have fk := bo.bgv fj 3 rfl
  have bp := bo.drop 3 rfl
  have cf := bp.perm (.swap _ _ _)
  have fl := bp.stp (.swap _ _ _)
  have fm := (fk.st fl)
  have fn := (bp.sp (bo.sd (fh.so none (Gr.refl _ none) (by simp)) 1 3 rfl rfl rfl) (.swap _ _ _))
  have fo := (bp.sp (bo.sd fi 0 3 rfl rfl rfl) (.swap _ _ _))
  have fp := (bp.sp (bo.sd (((dd.sw fc 0 1 rfl rfl rfl df).so none (Gr.refl _ none) (by simp)).so none (Gr.refl _ none) (by simp)) 2 3 rfl rfl rfl) (.swap _ _ _))
  exact ⟨[.agg #[vs ([] : Str), vi 0, .slice none 0 0, .slice none 0 0], .slice bn cd ce], ⟨_, _, rfl, fm.1.res rfl ag28 sz28, ⟨_, rfl, rfl⟩⟩, (⟨([] : Str), (⟨0, ([] : List Pt)⟩ : Shape), ([] : List Tag)⟩ : Feat), ([] : List Str), none, 0, 0, none, 0, 0, bn, cd, ce, rfl, H, cf.gr.g0, cf.ok, cf.ge, (by decide), fn, fo, fp⟩
 have H := ite_f H ac
 refine L_rb ac rfl (L_pu (P_fa fa28_0 ⟨bb, 0, none⟩ ⟨bb, 0, none⟩ rfl rfl) (L_rb ac rfl ?_))
 have dg := (c7.st cb)
 refine L_pu (P_ld ag9 cL ⟨bb, 0, none⟩ (vs b.Id) rfl (dg.cell rfl)) (L_rb ac rfl (L_pu (P_fa fa28_0 ⟨au, 0, none⟩ ⟨au, 0, none⟩ rfl rfl) (L_rb ac rfl (L_pu (P_ld ag9 cL ⟨au, 0, none⟩ (vs base_.Id) rfl (cc.cell rfl)) (L_rb ac rfl (L_pu (P_scmp b.Id base_.Id (b.Id != base_.Id) rfl rfl rfl) (L_pu (P_pick false (vb (b.Id != base_.Id)) (by exact congrArg Value.bool ac) rfl) (L_nil ?_))))))))
 refine W_cond (b.Id != base_.Id) rfl (fun cg => ?_) (fun cg => ?_)
 ·have H := ite_t H cg
  refine W_seq (W_reg (L_pu (P_build (.agg #[vs ([] : Str), vi 0, .slice none 0 0, .slice none 0 0]) (fun _ => by kernel_rfl)) (L_lit (kd := Kd.str) ei31 af ([] : List Str) (cells := []) rfl (fun _ => by kernel_rfl) fun gq bq ch ci fq hr225 dh fr => ?_)))
  have fs := ((((a3.k0 av).k0 aw).k0 a6).k0 fq)
  refine L_stb aa 0 [vs ([] : Str), vi 0, .slice none 0 0, .slice none 0 0] [vs ([] : Str), vi 0, .slice none 0 0, .slice none 0 0] [vs ([] : Str), vi 0, .slice none 0 0, .slice none 0 0] rfl fs rfl sz28 rfl rfl rfl fun di dk ft => ?_
  have fu := dh.wr 1 rfl dk
  refine L_as (.slice bq ch ci) rfl (L_nil (W_ret ?_))
  have fv := fu.own (Gr.refl _ none) none (by simp)
  have fw : Ow kPt 83 di ([bk none, bk bq, some aa] ++ O) (.slice none 0 0) [] := Ow.nil _ _ _ _
  have br := fv.own (Gr.refl _ none) none (by simp)
  have fx : Ow kTag 39 di ([bk none, bk none, bk bq, some aa] ++ O) (.slice none 0 0) [] := Ow.nil _ _ _ _
  have fy := ft
  have fz := br.bgv fy 3 rfl
  have bs := br.drop 3 rfl
  have cj := bs.perm (.swap _ _ _)
  have f0 := bs.stp (.swap _ _ _)
  have f1 := (fz.st f0)
  have f2 := (bs.sp (br.sd (fw.so none (Gr.refl _ none) (by simp)) 1 3 rfl rfl rfl) (.swap _ _ _))
  have f3 := (bs.sp (br.sd fx 0 3 rfl rfl rfl) (.swap _ _ _))
  have f4 := (bs.sp (br.sd (((dh.sw fr 0 1 rfl rfl rfl dk).so none (Gr.refl _ none) (by simp)).so none (Gr.refl _ none) (by simp)) 2 3 rfl rfl rfl) (.swap _ _ _))
  exact ⟨[.agg #[vs ([] : Str), vi 0, .slice none 0 0, .slice none 0 0], .slice bq ch ci], ⟨_, _, rfl, f1.1.res rfl ag28 sz28, ⟨_, rfl, rfl⟩⟩, (⟨([] : Str), (⟨0, ([] : List Pt)⟩ : Shape), ([] : List Tag)⟩ : Feat), ([] : List Str), none, 0, 0, none, 0, 0, bq, ch, ci, rfl, H, cj.gr.g0, cj.ok, cj.ge, (by decide), f2, f3, f4⟩
 have H := ite_f H cg
 refine W_skip (W_seq (W_reg (L_pu (P_lda ag28 sz28 cL ⟨au, 0, none⟩ [vs base_.Id, vi base_.Shape.Kind, .slice A2 n3 c4, .slice A7 n8 c9] rfl rfl (cc.cells (off := 0) rfl)) (L_pu (P_lda ag28 sz28 cL ⟨ba, 0, none⟩ [vs a.Id, vi a.Shape.Kind, .slice ag ah ai, .slice aj ak al] rfl rfl (dc.cells (off := 0) rfl)) (L_pu (P_lda ag28 sz28 cL ⟨bb, 0, none⟩ [vs b.Id, vi b.Shape.Kind, .slice am an ao, .slice ap aq ar] rfl rfl (dg.cells (off := 0) rfl)) ?_)))))
 refine L_call go39 [.agg #[vs base_.Id, vi base_.Shape.Kind, .slice A2 n3 c4, .slice A7 n8 c9], .agg #[vs a.Id, vi a.Shape.Kind, .slice ag ah ai, .slice aj ak al], .agg #[vs b.Id, vi b.Shape.Kind, .slice am an ao, .slice ap aq ar]] rfl ((F75.calls ev af.ok base_ A2 n3 c4 A7 n8 c9 hs1 (hp5.st af.st) (cl.st af.st) a ag ah ai aj ak al cm (cn.st af.st) (co.st af.st) b am an ao ap aq ar cp (cq.st af.st) (cr.st af.st) _ H).mono ?_)
 rintro _ gs ⟨r4, r5, ax, ay, az, a0, a1, a2, a7, a8, a9, rfl, H, dl, f5, f6, f7, f8, f9, ga⟩
 have bu := af.owns dl f5 f6
 refine L_pu (P_ext [.agg #[vs r4.Id, vi r4.Shape.Kind, .slice ax ay az, .slice a0 a1 a2], .slice a7 a8 a9] 0 (.agg #[vs r4.Id, vi r4.Shape.Kind, .slice ax ay az, .slice a0 a1 a2]) rfl rfl) (L_pu (P_ext [.agg #[vs r4.Id, vi r4.Shape.Kind, .slice ax ay az, .slice a0 a1 a2], .slice a7 a8 a9] 1 (.slice a7 a8 a9) rfl rfl) ?_)
 have gb := ((((a3.k0 av).k0 aw).k0 a6).k0 dl)
 refine L_stb aa 0 [vs ([] : Str), vi 0, .slice none 0 0, .slice none 0 0] [vs r4.Id, vi r4.Shape.Kind, .slice ax ay az, .slice a0 a1 a2] [vs r4.Id, vi r4.Shape.Kind, .slice ax ay az, .slice a0 a1 a2] rfl gb rfl sz28 rfl rfl rfl fun gt bv gc => ?_
 have bt := bu.wr 3 rfl bv
 refine L_as (.slice a7 a8 a9) rfl (L_nil (W_ret ?_))
 have gd := bt.bgv gc 3 rfl
 have ck := bt.drop 3 rfl
 have gf := (bt.sd (bu.sw f8 0 3 rfl rfl rfl bv) 0 3 rfl rfl rfl)
 have gg := (bt.sd (bu.sw f9 1 3 rfl rfl rfl bv) 1 3 rfl rfl rfl)
 have gh := (bt.sd (bu.sw ga 2 3 rfl rfl rfl bv) 2 3 rfl rfl rfl)
 exact ⟨[.agg #[vs r4.Id, vi r4.Shape.Kind, .slice ax ay az, .slice a0 a1 a2], .slice a7 a8 a9], ⟨_, _, rfl, gd.1.res rfl ag28 sz28, ⟨_, rfl, rfl⟩⟩, r4, r5, ax, ay, az, a0, a1, a2, a7, a8, a9, rfl, H, ck.gr.g0, ck.ok, ck.ge, f7, gf, gg, gh⟩
end
section
open Go.RowKit
def F13.E (s1 : List Tag) (s2 : List Tag) (Q : Bool → Prop) : Prop :=
 (if (s1.length : Int) != (s2.length : Int) then Q false else (∃ (I32 : Int → Prop) (mu33 : Int → Nat), I32 0 ∧ ∀ (v2 : Int), I32 v2 → (if decide (v2 < (s1.length : Int)) then ((0 : Int) ≤ v2 ∧ v2 < (s1.length : Int)) ∧ ((0 : Int) ≤ v2 ∧ v2 < (s2.length : Int)) ∧ (if !(eqTag (nth s1 v2) (nth s2 v2)) then Q false else (I64 (v2 + 1)) ∧ I32 (v2 + 1) ∧ mu33 (v2 + 1) < mu33 v2) else Q true)))
theorem F13.calls {O : Ob} (w0 : World) (hO : Ok w0 O) (s1 : List Tag) (A1 : Option Addr) (n2 c3 : Nat) (hp4 : Sl kTag w0 (Fr O) (.slice A1 n2 c3) s1) (s2 : List Tag) (A6 : Option Addr) (n7 c8 : Nat) (hp9 : Sl kTag w0 (Fr O) (.slice A6 n7 c8) s2) (Q : Bool → Prop) (h : F13.E s1 s2 Q) :
  Ret Try.prog 40 [.slice A1 n2 c3, .slice A6 n7 c8] w0 (fun v w' => ∃ (r0 : Bool), v = vb r0 ∧ Q r0 ∧ Gr w0 w' none) := by
 unfold F13.E at h
 have H := h
 clear h
 have hc0 := Ct.init hO
 refine Ret_enter Try.func40 rfl 26 rfl [.tmp 4] rfl rfl ?_
 refine W_seq (W_reg (L_as (vb false) rfl (L_nil (W_seq (W_seq (W_reg (L_mv (.slice A1 n2 c3) rfl ?_)))))))
 have a3 := hp4.le
 refine L_pu (P_len Try.underlying26 A1 n2 c3 hp4.len rfl) (L_mv (.slice A6 n7 c8) rfl ?_)
 have a4 := hp9.le
 refine L_pu (P_len Try.underlying26 A6 n7 c8 hp9.len rfl) (L_pu (P_cmp (s1.length : Int) (s2.length : Int) ((s1.length : Int) != (s2.length : Int)) rfl rfl rfl) (L_nil ?_))
 refine W_cond ((s1.length : Int) != (s2.length : Int)) rfl (fun ab => ?_) (fun ab => ?_)
 ·have H := ite_t H ab
  exact W_seq (W_reg (L_as (vb false) rfl (L_nil (W_ret ⟨[vb false], ⟨_, rfl, rfl⟩, false, rfl, H, hc0.gr.g0⟩))))
 have H := ite_f H ab
 refine W_skip (W_seq (W_seq (W_reg (L_mv (.slice A1 n2 c3) rfl (L_pu (P_len Try.underlying26 A1 n2 c3 hp4.len rfl) (L_mv (vi 0) rfl (L_nil (W_block ?_))))))))
 obtain ⟨ap, aq, ac, H⟩ := H
 refine W_loop (α := Int) (fun (sv__ : Int) t aa => match sv__ with | v2 => ap v2 ∧ Has t [(0, .slice A1 n2 c3), (1, .slice A6 n7 c8), (12, vi (s1.length : Int)), (13, vi v2)] ∧ Ct [] w0 aa [] O ∧ Sl kTag aa (Fr ([] ++ O)) (.slice A1 n2 c3) s1 ∧ Sl kTag aa (Fr ([] ++ O)) (.slice A6 n7 c8) s2) (fun (sv__ : Int) => match sv__ with | v2 => aq v2) 0 ⟨ac, (hasI rfl), hc0, hp4, hp9⟩ ?_
 rintro v2 _ aa ⟨ac, ar, ad, ae, af⟩
 obtain ⟨a5, rfl⟩ := Has.ins ar
 have H := H v2 ac
 refine W_seq (W_reg (L_pu (P_cmp v2 (s1.length : Int) (decide (v2 < (s1.length : Int))) rfl rfl rfl) (L_nil (W_seq ?_))))
 refine W_cond (decide (v2 < (s1.length : Int))) rfl (fun ag => ?_) (fun ag => ?_)
 ·have H := ite_t H ag
  refine W_skip (W_seq (W_block (W_seq (W_reg (L_mv (vi v2) rfl (L_as (vi v2) rfl (L_nil (W_seq ?_))))))))
  refine W_draw (fun x => Gr aa x none) (by kernel_rfl) (by kernel_rfl) (Gr.drew _) ?_
  refine Q_mv (.slice A1 n2 c3) rfl (Q_mv (vi v2) rfl ?_)
  obtain ⟨ai, H⟩ := H
  obtain ⟨aj, a6, au, a7, av, aw⟩ := ae.get default (by decide) v2 ai
  obtain ⟨rfl, a8, a9⟩ := kTag.op av
  refine Q_pu (P_ia Try.underlying26 se26 A1 aj n2 c3 ae.len v2 rfl au rfl ai) (Q_pu (P_lda ag39 sz39 cQ (aj.add (v2.toNat * 2)) [vs ((nth s1 v2).Key), vs ((nth s1 v2).Val)] rfl rfl aw) (Q_mv (.slice A6 n7 c8) rfl (Q_mv (vi v2) rfl ?_)))
  obtain ⟨ak, H⟩ := H
  obtain ⟨al, ba, ax, bb, ay, az⟩ := af.get default (by decide) v2 ak
  obtain ⟨rfl, bc, bd⟩ := kTag.op ay
  refine Q_pu (P_ia Try.underlying26 se26 A6 al n7 c8 af.len v2 rfl ax rfl ak) (Q_pu (P_lda ag39 sz39 cQ (al.add (v2.toNat * 2)) [vs ((nth s2 v2).Key), vs ((nth s2 v2).Val)] rfl rfl az) (Q_pu (P_ne _ _ (eqTag (nth s1 v2) (nth s2 v2)) (qt39 (nth s1 v2) (nth s2 v2)) rfl rfl) (Q_nil fun be am => ?_)))
  have an := ad.k0 am
  refine W_cond (!(eqTag (nth s1 v2) (nth s2 v2))) rfl (fun ah => ?_) (fun ah => ?_)
  ·have H := ite_t H ah
   exact W_seq (W_reg (L_as (vb false) rfl (L_nil (W_ret ⟨[vb false], ⟨_, rfl, rfl⟩, false, rfl, H, an.gr.g0⟩))))
  have H := ite_f H ah
  refine W_skip (W_reg ?_)
  obtain ⟨a0, H⟩ := H
  refine L_pu (P_add v2 1 rfl rfl a0) (L_mv (vi (v2 + 1)) rfl (L_nil ?_))
  obtain ⟨a1, a2⟩ := H
  have ao := ad.stn am
  exact ⟨v2 + 1, a2, a1, (hasI rfl), an, (ae.st ao), (af.st ao)⟩
 have H := ite_f H ag
 refine W_exit (xin_hit ?_)
 exact W_seq (W_reg (L_as (vb true) rfl (L_nil (W_ret ⟨[vb true], ⟨_, rfl, rfl⟩, true, rfl, H, ad.gr.g0⟩))))
end
section
open Go.RowKit
def F40.E (a : Feat) (b : Feat) (Q : Bool → Prop) : Prop :=
 (if a.Id == b.Id then F25.E a.Shape b.Shape (fun r => (if r then F13.E a.Tags b.Tags (fun r2 => Q r2) else Q false)) else Q false)
theorem F40.calls {O : Ob} (w0 : World) (hO : Ok w0 O) (a : Feat) (A2 : Option Addr) (n3 c4 : Nat) (A7 : Option Addr) (n8 c9 : Nat) (hs1 : Lim a.Id) (hp5 : Sl kPt w0 (Fr O) (.slice A2 n3 c4) a.Shape.Pts) (au : Sl kTag w0 (Fr O) (.slice A7 n8 c9) a.Tags) (b : Feat) (ae : Option Addr) (af ag : Nat) (ah : Option Addr) (ai aj : Nat) (ba : Lim b.Id) (av : Sl kPt w0 (Fr O) (.slice ae af ag) b.Shape.Pts) (aw : Sl kTag w0 (Fr O) (.slice ah ai aj) b.Tags) (Q : Bool → Prop) (h : F40.E a b Q) :
  Ret Try.prog 9 [.agg #[vs a.Id, vi a.Shape.Kind, .slice A2 n3 c4, .slice A7 n8 c9], .agg #[vs b.Id, vi b.Shape.Kind, .slice ae af ag, .slice ah ai aj]] w0 (fun v w' => ∃ (r0 : Bool), v = vb r0 ∧ Q r0 ∧ Gr w0 w' none) := by
 unfold F40.E at h
 have H := h
 clear h
 have hc0 := Ct.init hO
 refine Ret_enter Try.func9 rfl 24 rfl [.tmp 4] rfl rfl ?_
 refine W_seq (W_reg (L_box [vs a.Id, vi a.Shape.Kind, .slice A2 n3 c4, .slice A7 n8 c9] rfl fun bb ac ax hu27 ay az => ?_))
 have a0 := Fb.mk hc0.ok ax az
 have am := hc0.k0 ay
 refine L_box [vs b.Id, vi b.Shape.Kind, .slice ae af ag, .slice ah ai aj] rfl fun a1 ad a2 hu36 ap a3 => ?_
 have an := Fb.mk am.ok a2 a3
 have ak := am.k0 ap
 refine L_as (vb false) rfl (L_nil (W_seq (W_reg (L_pu (P_fa fa28_0 ⟨ac, 0, none⟩ ⟨ac, 0, none⟩ rfl rfl) ?_))))
 have a4 := am.stn ap
 have ao := (a0.st a4)
 refine L_pu (P_ld ag9 cL ⟨ac, 0, none⟩ (vs a.Id) rfl (ao.cell rfl)) (L_pu (P_fa fa28_0 ⟨ad, 0, none⟩ ⟨ad, 0, none⟩ rfl rfl) (L_pu (P_ld ag9 cL ⟨ad, 0, none⟩ (vs b.Id) rfl (an.cell rfl)) (L_pu (P_scmp a.Id b.Id (a.Id == b.Id) rfl rfl rfl) (L_mv (vb (a.Id == b.Id)) rfl ?_))))
 rcases bool_or (a.Id == b.Id) with aa | aa
 ·have H := ite_t H aa
  refine L_rb aa rfl (L_pu (P_fa fa28_1 ⟨ac, 0, none⟩ ⟨ac, 1, none⟩ rfl rfl) (L_rb aa rfl (L_pu (P_lda ag25 sz25 cL ⟨ac, 1, none⟩ [vi a.Shape.Kind, .slice A2 n3 c4] rfl rfl (ao.cells (off := 1) rfl)) (L_rb aa rfl (L_pu (P_fa fa28_1 ⟨ad, 0, none⟩ ⟨ad, 1, none⟩ rfl rfl) (L_rb aa rfl (L_pu (P_lda ag25 sz25 cL ⟨ad, 1, none⟩ [vi b.Shape.Kind, .slice ae af ag] rfl rfl (an.cells (off := 1) rfl)) (L_rb aa rfl ?_))))))))
  refine L_call go13 [.agg #[vi a.Shape.Kind, .slice A2 n3 c4], .agg #[vi b.Shape.Kind, .slice ae af ag]] rfl ((F25.calls a1 ak.ok a.Shape A2 n3 c4 (hp5.st ak.st) b.Shape ae af ag (av.st ak.st) _ H).mono ?_)
  rintro _ a5 ⟨r, rfl, H, aq⟩
  have al := ak.k0 aq
  refine L_pu (P_pick true (vb r) (by exact congrArg Value.bool aa) rfl) (L_mv (vb r) rfl ?_)
  rcases bool_or r with ab | ab
  ·have H := ite_t H ab
   refine L_rb ab rfl (L_pu (P_fa fa28_2 ⟨ac, 0, none⟩ ⟨ac, 3, none⟩ rfl rfl) (L_rb ab rfl ?_))
   have ar := ak.stn aq
   have a6 := (ao.st ar)
   refine L_pu (P_ld ag26 cL ⟨ac, 3, none⟩ (.slice A7 n8 c9) rfl (a6.cell rfl)) (L_rb ab rfl (L_pu (P_fa fa28_2 ⟨ad, 0, none⟩ ⟨ad, 3, none⟩ rfl rfl) (L_rb ab rfl ?_)))
   have a7 := (an.st ar)
   refine L_pu (P_ld ag26 cL ⟨ad, 3, none⟩ (.slice ah ai aj) rfl (a7.cell rfl)) (L_rb ab rfl ?_)
   refine L_call go40 [.slice A7 n8 c9, .slice ah ai aj] rfl ((F13.calls a5 al.ok a.Tags A7 n8 c9 (au.st al.st) b.Tags ah ai aj (aw.st al.st) _ H).mono ?_)
   rintro _ bc ⟨r2, rfl, H, a8⟩
   have a9 := al.k0 a8
   exact L_pu (P_pick true (vb r2) (by exact congrArg Value.bool ab) rfl) (L_as (vb r2) rfl (L_nil (W_ret ⟨[vb r2], ⟨_, rfl, rfl⟩, r2, rfl, H, a9.gr.g0⟩)))
  have H := ite_f H ab
  refine L_pb ab rfl (L_pb ab rfl (L_pb ab rfl (L_pb ab rfl (L_pb ab rfl (L_pu (P_pick false (vb false) (by exact congrArg Value.bool ab) rfl) (L_as (vb false) rfl (L_nil (W_ret ?_))))))))
  exact ⟨[vb false], ⟨_, rfl, rfl⟩, false, rfl, H, al.gr.g0⟩
 have H := ite_f H aa
 refine L_pb aa rfl (L_pb aa rfl (L_pb aa rfl (L_pb aa rfl (L_pb aa rfl (L_pu (P_pick false (vb false) (by exact congrArg Value.bool aa) rfl) (L_mv (vb false) rfl (L_pass (dj := 17) rfl rfl (.inl rfl) (L_pass (dj := 17) rfl rfl (.inl rfl) ?_))))))))
 exact L_pass (dj := 17) rfl rfl (.inl rfl) (L_pass (dj := 17) rfl rfl (.inl rfl) (L_pass (dj := 17) rfl rfl (.inl rfl) (L_pu (P_pick false (vb false) (by exact congrArg Value.bool rfl) rfl) (L_as (vb false) rfl (L_nil (W_ret ⟨[vb false], ⟨_, rfl, rfl⟩, false, rfl, H, ak.gr.g0⟩))))))
end
section
open Go.RowKit
def F53.E (f : Feat) (key : Str) (Q : Str → Bool → Prop) : Prop :=
 F36.E f key (fun r => F70.E f (fun r2 => (if !r2 then Q ([] : Str) false else (if decide (r < 0) then Q ([] : Str) false else ((0 : Int) ≤ r ∧ r < (f.Tags.length : Int)) ∧ Q ((nth f.Tags r).Val) true))))
theorem F53.calls {O : Ob} (w0 : World) (hO : Ok w0 O) (f : Feat) (A2 : Option Addr) (n3 c4 : Nat) (A7 : Option Addr) (n8 c9 : Nat) (hs1 : Lim f.Id) (hp5 : Sl kPt w0 (Fr O) (.slice A2 n3 c4) f.Shape.Pts) (af : Sl kTag w0 (Fr O) (.slice A7 n8 c9) f.Tags) (key : Str) (an : Lim key) (Q : Str → Bool → Prop) (h : F53.E f key Q) :
  Ret Try.prog 11 [.agg #[vs f.Id, vi f.Shape.Kind, .slice A2 n3 c4, .slice A7 n8 c9], vs key] w0 (fun v w' => ∃ (r0 : Str) (r1 : Bool), v = .tuple #[vs r0, vb r1] ∧ Q r0 r1 ∧ Gr w0 w' none ∧ Lim r0) := by
 unfold F53.E at h
 have H := h
 clear h
 have hc0 := Ct.init hO
 refine Ret_enter Try.func11 rfl 23 rfl [.tmp 4, .tmp 5] rfl rfl ?_
 refine W_seq (W_reg (L_box [vs f.Id, vi f.Shape.Kind, .slice A2 n3 c4, .slice A7 n8 c9] rfl fun ao ab ap hu17 aq ar => ?_))
 have ai := Fb.mk hc0.ok ap ar
 have ac := hc0.k0 aq
 refine L_as (vs ([] : Str)) rfl (L_as (vb false) rfl (L_nil (W_seq (W_reg (L_pu (P_lda ag28 sz28 cL ⟨ab, 0, none⟩ [vs f.Id, vi f.Shape.Kind, .slice A2 n3 c4, .slice A7 n8 c9] rfl rfl (ai.cells (off := 0) rfl)) (L_mv (vs key) rfl ?_))))))
 refine L_call go44 [.agg #[vs f.Id, vi f.Shape.Kind, .slice A2 n3 c4, .slice A7 n8 c9], vs key] rfl ((F36.calls ao ac.ok f A2 n3 c4 A7 n8 c9 hs1 (hp5.st ac.st) (af.st ac.st) key an _ H).mono ?_)
 rintro _ au ⟨r, rfl, H, aj⟩
 have ad := ac.k0 aj
 refine L_as (vi r) rfl (L_nil (W_seq (W_seq (W_reg ?_))))
 have av := ac.stn aj
 have ak := (ai.st av)
 refine L_pu (P_lda ag28 sz28 cL ⟨ab, 0, none⟩ [vs f.Id, vi f.Shape.Kind, .slice A2 n3 c4, .slice A7 n8 c9] rfl rfl (ak.cells (off := 0) rfl)) ?_
 refine L_call go12 [.agg #[vs f.Id, vi f.Shape.Kind, .slice A2 n3 c4, .slice A7 n8 c9]] rfl ((F70.calls au ad.ok f A2 n3 c4 A7 n8 c9 hs1 (hp5.st ad.st) (af.st ad.st) _ H).mono ?_)
 rintro _ a2 ⟨r2, rfl, H, al⟩
 have ae := ad.k0 al
 refine L_pu (P_not r2 rfl) (L_mv (vb (!r2)) rfl ?_)
 rcases bool_or (!r2) with aa | aa
 ·have H := ite_t H aa
  refine L_pb aa rfl (L_pb aa rfl (L_pu (P_pick true (vb true) (by exact congrArg Value.bool aa) rfl) (L_nil (W_ct (b := true) rfl rfl ?_))))
  exact W_seq (W_reg (L_as (vs ([] : Str)) rfl (L_as (vb false) rfl (L_nil (W_ret ⟨[vs ([] : Str), vb false], ⟨_, rfl, ⟨_, rfl, rfl⟩⟩, ([] : Str), false, rfl, H, ae.gr.g0, (by decide : Lim ([] : Str))⟩)))))
 have H := ite_f H aa
 refine L_rb aa rfl (L_mv (vi r) rfl (L_rb aa rfl (L_pu (P_cmp r 0 (decide (r < 0)) rfl rfl rfl) (L_pu (P_pick false (vb (decide (r < 0))) (by exact congrArg Value.bool aa) rfl) (L_nil ?_)))))
 refine W_cond (decide (r < 0)) rfl (fun ah => ?_) (fun ah => ?_)
 ·have H := ite_t H ah
  exact W_seq (W_reg (L_as (vs ([] : Str)) rfl (L_as (vb false) rfl (L_nil (W_ret ⟨[vs ([] : Str), vb false], ⟨_, rfl, ⟨_, rfl, rfl⟩⟩, ([] : Str), false, rfl, H, ae.gr.g0, (by decide : Lim ([] : Str))⟩)))))
 have H := ite_f H ah
 refine W_skip (W_seq (W_reg (L_pu (P_fa fa28_2 ⟨ab, 0, none⟩ ⟨ab, 3, none⟩ rfl rfl) ?_)))
 have aw := ad.stn al
 have ax := (ak.st aw)
 refine L_pu (P_ld ag26 cL ⟨ab, 3, none⟩ (.slice A7 n8 c9) rfl (ax.cell rfl)) (L_mv (vi r) rfl ?_)
 obtain ⟨am, H⟩ := H
 obtain ⟨ag, a3, ay, a4, az, a0⟩ := (af.st ae.st).get default (by decide) r am
 obtain ⟨rfl, a5, a1⟩ := kTag.op az
 exact L_pu (P_ia Try.underlying26 se26 A7 ag n8 c9 (af.st ae.st).len r rfl ay rfl am) (L_pu (P_fa fa39_1 (ag.add (r.toNat * 2)) ((ag.add (r.toNat * 2)).add 1) rfl rfl) (L_pu (P_ld ag9 cL ((ag.add (r.toNat * 2)).add 1) (vs ((nth f.Tags r).Val)) rfl (a0 1 _ rfl)) (L_as (vs ((nth f.Tags r).Val)) rfl (L_as (vb true) rfl (L_nil (W_ret ⟨[vs ((nth f.Tags r).Val), vb true], ⟨_, rfl, ⟨_, rfl, rfl⟩⟩, (nth f.Tags r).Val, true, rfl, H, ae.gr.g0, a1⟩))))))
end
section
open Go.RowKit
def laws_FnFeatJoin.E (code : List UInt8) (Q : Bool → Prop) : Prop :=
 (if decide ((code.length : Int) > 1048576) then Q true else F11.E code (fun r r2 r3 => F37.E r r2 r3 (fun r4 r5 => F39.E r r2 r3 (fun r6 r7 => F40.E r4 r6 (fun r8 => (if !r8 then Q false else (if (r5.length : Int) != (r7.length : Int) then Q false else (∃ (I298 : Int → Prop) (mu299 : Int → Nat), I298 0 ∧ ∀ (i2 : Int), I298 i2 → (if decide (i2 < (r5.length : Int)) then ((0 : Int) ≤ i2 ∧ i2 < (r5.length : Int)) ∧ ((0 : Int) ≤ i2 ∧ i2 < (r7.length : Int)) ∧ (if (nth r5 i2) != (nth r7 i2) then Q false else (-9223372036854775808 ≤ i2) ∧ I298 (i2 + 1) ∧ mu299 (i2 + 1) < mu299 i2) else F64.E r (fun r9 => (if !r9 then (if r4.Id == ([] : Str) then Q ((r5.length : Int) == 0) else Q false) else F64.E r2 (fun r10 => (if !r10 then (if r4.Id == ([] : Str) then Q ((r5.length : Int) == 0) else Q false) else F64.E r3 (fun r11 => (if !r11 then (if r4.Id == ([] : Str) then Q ((r5.length : Int) == 0) else Q false) else (if r2.Id != r.Id then (if r4.Id == ([] : Str) then Q ((r5.length : Int) == 0) else Q false) else (if r3.Id != r.Id then (if r4.Id == ([] : Str) then Q ((r5.length : Int) == 0) else Q false) else (∃ (I500 : Int → Prop) (mu501 : Int → Nat), I500 0 ∧ ∀ (i4 : Int), I500 i4 → (if decide (i4 < (r4.Tags.length : Int)) then ((0 : Int) ≤ i4 ∧ i4 < (r4.Tags.length : Int)) ∧ F53.E r2 ((nth r4.Tags i4).Key) (fun r12 r13 => ((0 : Int) ≤ i4 ∧ i4 < (r4.Tags.length : Int)) ∧ F53.E r3 ((nth r4.Tags i4).Key) (fun r14 r15 => (if !r13 then (if !r15 then Q false else ((0 : Int) ≤ i4 ∧ i4 < (r4.Tags.length : Int)) ∧ (if r14 != ((nth r4.Tags i4).Val) then Q false else (-9223372036854775808 ≤ i4) ∧ I500 (i4 + 1) ∧ mu501 (i4 + 1) < mu501 i4)) else ((0 : Int) ≤ i4 ∧ i4 < (r4.Tags.length : Int)) ∧ (if r12 != ((nth r4.Tags i4).Val) then (if !r15 then Q false else ((0 : Int) ≤ i4 ∧ i4 < (r4.Tags.length : Int)) ∧ (if r14 != ((nth r4.Tags i4).Val) then Q false else (-9223372036854775808 ≤ i4) ∧ I500 (i4 + 1) ∧ mu501 (i4 + 1) < mu501 i4)) else (-9223372036854775808 ≤ i4) ∧ I500 (i4 + 1) ∧ mu501 (i4 + 1) < mu501 i4)))) else F37.E r r2 r (fun r16 r17 => F37.E r r r3 (fun r18 r19 => F40.E r16 r2 (fun r20 => (if !r20 then Q false else (if decide ((r17.length : Int) > 0) then Q false else F40.E r18 r3 (fun r21 => (if !r21 then Q false else (if decide ((r19.length : Int) > 0) then Q false else F70.E r4 (fun r22 => (if !r22 then Q false else F25.E r2.Shape r.Shape (fun r23 => (if !r23 then Q true else (if decide ((r5.length : Int) > 0) then ((0 : Int) ≤ 0 ∧ 0 < (r5.length : Int)) ∧ (if (nth r5 0) == ([109, 117, 99, 104] : Str) then Q true else F25.E r4.Shape r3.Shape (fun r24 => Q r24)) else F25.E r4.Shape r3.Shape (fun r25 => Q r25)))))))))))))))))))))))))))))))))
theorem laws_FnFeatJoin.calls {O : Ob} (w0 : World) (hO : Ok w0 O) (code : List UInt8) (A1 : Option Addr) (n2 c3 : Nat) (hp4 : Sl Kd.byte w0 (Fr O) (.slice A1 n2 c3) code) (Q : Bool → Prop) (h : laws_FnFeatJoin.E code Q) :
  Ret Try.prog 3 [.slice A1 n2 c3] w0 (fun v w' => ∃ (r0 : Bool), v = vb r0 ∧ Q r0 ∧ Gr w0 w' none) := by
 unfold laws_FnFeatJoin.E at h
 have H := h
 clear h
 have hc0 := Ct.init hO
 refine Ret_enter Try.func3 rfl 222 rfl [.tmp 2] rfl rfl ?_
 refine W_seq (W_reg (L_as (vb false) rfl (L_nil (W_seq (W_seq (W_reg (L_mv (.slice A1 n2 c3) rfl ?_)))))))
 have hl6 := hp4.le
 refine L_pu (P_len Try.underlying22 A1 n2 c3 hp4.len rfl) (L_pu (P_cmp (code.length : Int) 1048576 (decide ((code.length : Int) > 1048576)) rfl rfl rfl) (L_nil ?_))
 refine W_cond (decide ((code.length : Int) > 1048576)) rfl (fun hq7 => ?_) (fun hq7 => ?_)
 ·have H := ite_t H hq7
  exact W_seq (W_reg (L_as (vb true) rfl (L_nil (W_ret ⟨[vb true], ⟨_, rfl, rfl⟩, true, rfl, H, hc0.gr.g0⟩))))
 have H := ite_f H hq7
 refine W_skip (W_seq (W_reg (L_mv (.slice A1 n2 c3) rfl ?_)))
 refine L_call go6 [.slice A1 n2 c3] rfl ((F11.calls w0 hc0.ok code A1 n2 c3 hp4 _ H).mono ?_)
 rintro _ w8 ⟨r, r2, r3, ai, aj, ak, ao, ap, aq, ar, au, av, aw, ax, ay, al, am, an, az, a0, a1, rfl, H, g9, dy, kb, kc, eg, kd, ke, eh, kf, kg⟩
 have hn := hc0.k0 g9
 refine L_mv (.tuple #[.agg #[vs r.Id, vi r.Shape.Kind, .slice ai aj ak, .slice ao ap aq], .agg #[vs r2.Id, vi r2.Shape.Kind, .slice ar au av, .slice aw ax ay], .agg #[vs r3.Id, vi r3.Shape.Kind, .slice al am an, .slice az a0 a1]]) rfl (L_pu (P_ext [.agg #[vs r.Id, vi r.Shape.Kind, .slice ai aj ak, .slice ao ap aq], .agg #[vs r2.Id, vi r2.Shape.Kind, .slice ar au av, .slice aw ax ay], .agg #[vs r3.Id, vi r3.Shape.Kind, .slice al am an, .slice az a0 a1]] 0 (.agg #[vs r.Id, vi r.Shape.Kind, .slice ai aj ak, .slice ao ap aq]) rfl rfl) (L_pu (P_ext [.agg #[vs r.Id, vi r.Shape.Kind, .slice ai aj ak, .slice ao ap aq], .agg #[vs r2.Id, vi r2.Shape.Kind, .slice ar au av, .slice aw ax ay], .agg #[vs r3.Id, vi r3.Shape.Kind, .slice al am an, .slice az a0 a1]] 1 (.agg #[vs r2.Id, vi r2.Shape.Kind, .slice ar au av, .slice aw ax ay]) rfl rfl) (L_pu (P_ext [.agg #[vs r.Id, vi r.Shape.Kind, .slice ai aj ak, .slice ao ap aq], .agg #[vs r2.Id, vi r2.Shape.Kind, .slice ar au av, .slice aw ax ay], .agg #[vs r3.Id, vi r3.Shape.Kind, .slice al am an, .slice az a0 a1]] 2 (.agg #[vs r3.Id, vi r3.Shape.Kind, .slice al am an, .slice az a0 a1]) rfl rfl) (L_alloc [vs [], .int .i64 0, .slice none 0 0, .slice none 0 0] ze28 fun sb ad ho hu51 hp kh => ?_))))
 have hq := hn.own hp (some ad) (oglt ho hu51)
 refine L_alloc [vs [], .int .i64 0, .slice none 0 0, .slice none 0 0] ze28 fun sc ag hr hu59 gg ki => ?_
 have hs := hq.own gg (some ag) (oglt hr hu59)
 refine L_alloc [vs [], .int .i64 0, .slice none 0 0, .slice none 0 0] ze28 fun se ae ht hu67 fk kj => ?_
 have fl := hs.own fk (some ae) (oglt ht hu67)
 have kk := ((kh.k0 gg).k0 fk)
 refine L_stb ad 0 [vs ([] : Str), vi 0, .slice none 0 0, .slice none 0 0] [vs r.Id, vi r.Shape.Kind, .slice ai aj ak, .slice ao ap aq] [vs r.Id, vi r.Shape.Kind, .slice ai aj ak, .slice ao ap aq] rfl kk rfl sz28 rfl rfl rfl fun sf fm kl => ?_
 have fn := fl.wr 2 rfl fm
 have km := (fl.bm (ki.k0 fk) 1 2 rfl rfl rfl fm)
 refine L_stb ag 0 [vs ([] : Str), vi 0, .slice none 0 0, .slice none 0 0] [vs r2.Id, vi r2.Shape.Kind, .slice ar au av, .slice aw ax ay] [vs r2.Id, vi r2.Shape.Kind, .slice ar au av, .slice aw ax ay] rfl km rfl sz28 rfl rfl rfl fun sg fo kn => ?_
 have fp := fn.wr 1 rfl fo
 have ko := (fn.bm (fl.bm kj 0 2 rfl rfl rfl fm) 0 1 rfl rfl rfl fo)
 refine L_stb ae 0 [vs ([] : Str), vi 0, .slice none 0 0, .slice none 0 0] [vs r3.Id, vi r3.Shape.Kind, .slice al am an, .slice az a0 a1] [vs r3.Id, vi r3.Shape.Kind, .slice al am an, .slice az a0 a1] rfl ko rfl sz28 rfl rfl rfl fun kp fq hu => ?_
 have gh := fp.wr 0 rfl fq
 refine L_nil (W_seq (W_reg ?_))
 have hv := (fp.bm (fn.bm kl 2 1 rfl rfl rfl fo) 2 0 rfl rfl rfl fq)
 refine L_pu (P_lda ag28 sz28 cL ⟨ad, 0, none⟩ [vs r.Id, vi r.Shape.Kind, .slice ai aj ak, .slice ao ap aq] rfl rfl (hv.cells (off := 0) rfl)) ?_
 have hw := (fp.bm kn 1 0 rfl rfl rfl fq)
 refine L_pu (P_lda ag28 sz28 cL ⟨ag, 0, none⟩ [vs r2.Id, vi r2.Shape.Kind, .slice ar au av, .slice aw ax ay] rfl rfl (hw.cells (off := 0) rfl)) (L_pu (P_lda ag28 sz28 cL ⟨ae, 0, none⟩ [vs r3.Id, vi r3.Shape.Kind, .slice al am an, .slice az a0 a1] rfl rfl (hu.cells (off := 0) rfl)) ?_)
 have ei := hn.stown _ hp (oge ho)
 have ej := hq.stown _ gg (oge hr)
 have ek := hs.stown _ fk (oge ht)
 have el := fl.stw 2 rfl fm
 have em := fn.stw 1 rfl fo
 have en := fp.stw 0 rfl fq
 have hx := ((((((kb.st ei).st ej).st ek).st el).st em).st en)
 have hy := ((((((kc.st ei).st ej).st ek).st el).st em).st en)
 have hz := ((((((kd.st ei).st ej).st ek).st el).st em).st en)
 have h0 := ((((((ke.st ei).st ej).st ek).st el).st em).st en)
 have h1 := ((((((kf.st ei).st ej).st ek).st el).st em).st en)
 have h2 := ((((((kg.st ei).st ej).st ek).st el).st em).st en)
 refine L_call go7 [.agg #[vs r.Id, vi r.Shape.Kind, .slice ai aj ak, .slice ao ap aq], .agg #[vs r2.Id, vi r2.Shape.Kind, .slice ar au av, .slice aw ax ay], .agg #[vs r3.Id, vi r3.Shape.Kind, .slice al am an, .slice az a0 a1]] rfl ((F37.calls kp gh.ok r ai aj ak ao ap aq dy hx hy r2 ar au av aw ax ay eg hz h0 r3 al am an az a0 a1 eh h1 h2 _ H).mono ?_)
 rintro _ sh ⟨r4, r5, af, a7, a8, ac, a4, a5, ab, a2, a3, rfl, H, fb, kq, h3, h4, h5, h6, kr⟩
 have h7 := gh.owns fb kq h3
 refine L_mv (.tuple #[.agg #[vs r4.Id, vi r4.Shape.Kind, .slice af a7 a8, .slice ac a4 a5], .slice ab a2 a3]) rfl (L_pu (P_ext [.agg #[vs r4.Id, vi r4.Shape.Kind, .slice af a7 a8, .slice ac a4 a5], .slice ab a2 a3] 0 (.agg #[vs r4.Id, vi r4.Shape.Kind, .slice af a7 a8, .slice ac a4 a5]) rfl rfl) (L_pu (P_ext [.agg #[vs r4.Id, vi r4.Shape.Kind, .slice af a7 a8, .slice ac a4 a5], .slice ab a2 a3] 1 (.slice ab a2 a3) rfl rfl) (L_alloc [vs [], .int .i64 0, .slice none 0 0, .slice none 0 0] ze28 fun si aa dz hu126 c5 ks => ?_)))
 have c6 := h7.own c5 (some aa) (oglt dz hu126)
 refine L_stb aa 0 [vs ([] : Str), vi 0, .slice none 0 0, .slice none 0 0] [vs r4.Id, vi r4.Shape.Kind, .slice af a7 a8, .slice ac a4 a5] [vs r4.Id, vi r4.Shape.Kind, .slice af a7 a8, .slice ac a4 a5] rfl ks rfl sz28 rfl rfl rfl fun kt c7 ku => ?_
 have gi := c6.wr 0 rfl c7
 refine L_as (.slice ab a2 a3) rfl (L_nil (W_seq (W_reg ?_)))
 have h8 := (c6.bm ((hv.k0 fb).k0 c5) 6 0 rfl rfl rfl c7)
 refine L_pu (P_lda ag28 sz28 cL ⟨ad, 0, none⟩ [vs r.Id, vi r.Shape.Kind, .slice ai aj ak, .slice ao ap aq] rfl rfl (h8.cells (off := 0) rfl)) ?_
 have h9 := (c6.bm ((hw.k0 fb).k0 c5) 5 0 rfl rfl rfl c7)
 refine L_pu (P_lda ag28 sz28 cL ⟨ag, 0, none⟩ [vs r2.Id, vi r2.Shape.Kind, .slice ar au av, .slice aw ax ay] rfl rfl (h9.cells (off := 0) rfl)) ?_
 have ia := (c6.bm ((hu.k0 fb).k0 c5) 4 0 rfl rfl rfl c7)
 refine L_pu (P_lda ag28 sz28 cL ⟨ae, 0, none⟩ [vs r3.Id, vi r3.Shape.Kind, .slice al am an, .slice az a0 a1] rfl rfl (ia.cells (off := 0) rfl)) ?_
 have eo := gh.stos fb h3
 have ep := h7.stown _ c5 (oge dz)
 have eq := c6.stw 0 rfl c7
 have ib := (((hx.st eo).st ep).st eq)
 have ic := (((hy.st eo).st ep).st eq)
 have id := (((hz.st eo).st ep).st eq)
 have ie := (((h0.st eo).st ep).st eq)
 have ig := (((h1.st eo).st ep).st eq)
 have ih := (((h2.st eo).st ep).st eq)
 refine L_call go8 [.agg #[vs r.Id, vi r.Shape.Kind, .slice ai aj ak, .slice ao ap aq], .agg #[vs r2.Id, vi r2.Shape.Kind, .slice ar au av, .slice aw ax ay], .agg #[vs r3.Id, vi r3.Shape.Kind, .slice al am an, .slice az a0 a1]] rfl ((F39.calls kt gi.ok r ai aj ak ao ap aq dy ib ic r2 ar au av aw ax ay eg id ie r3 al am an az a0 a1 eh ig ih _ H).mono ?_)
 rintro _ sj ⟨r6, r7, bz, df, dg, bv, dh, di, ah, cm, cn, rfl, H, co, kv, d0, kx, ky, kz, k1⟩
 have ii := gi.owns co kv d0
 refine L_mv (.tuple #[.agg #[vs r6.Id, vi r6.Shape.Kind, .slice bz df dg, .slice bv dh di], .slice ah cm cn]) rfl (L_pu (P_ext [.agg #[vs r6.Id, vi r6.Shape.Kind, .slice bz df dg, .slice bv dh di], .slice ah cm cn] 0 (.agg #[vs r6.Id, vi r6.Shape.Kind, .slice bz df dg, .slice bv dh di]) rfl rfl) (L_pu (P_ext [.agg #[vs r6.Id, vi r6.Shape.Kind, .slice bz df dg, .slice bv dh di], .slice ah cm cn] 1 (.slice ah cm cn) rfl rfl) (L_alloc [vs [], .int .i64 0, .slice none 0 0, .slice none 0 0] ze28 fun sk c8 c9 hu172 ca k2 => ?_)))
 have cb := ii.own ca (some c8) (oglt c9 hu172)
 refine L_stb c8 0 [vs ([] : Str), vi 0, .slice none 0 0, .slice none 0 0] [vs r6.Id, vi r6.Shape.Kind, .slice bz df dg, .slice bv dh di] [vs r6.Id, vi r6.Shape.Kind, .slice bz df dg, .slice bv dh di] rfl k2 rfl sz28 rfl rfl rfl fun ij cc k3 => ?_
 have d1 := cb.wr 0 rfl cc
 refine L_as (.slice ah cm cn) rfl (L_nil (W_seq (W_seq (W_reg ?_))))
 have ik := (cb.bm ((ku.k0 co).k0 ca) 4 0 rfl rfl rfl cc)
 refine L_pu (P_lda ag28 sz28 cL ⟨aa, 0, none⟩ [vs r4.Id, vi r4.Shape.Kind, .slice af a7 a8, .slice ac a4 a5] rfl rfl (ik.cells (off := 0) rfl)) (L_pu (P_lda ag28 sz28 cL ⟨c8, 0, none⟩ [vs r6.Id, vi r6.Shape.Kind, .slice bz df dg, .slice bv dh di] rfl rfl (k3.cells (off := 0) rfl)) ?_)
 have k4 := (cb.sw (((c6.sw (h5.so _ c5 (oge dz)) 1 0 rfl rfl rfl c7).sos co d0).so _ ca (oge c9)) 5 0 rfl rfl rfl cc)
 have k5 := d1.gv k4 5 rfl
 have fc := d1.drop 5 rfl
 have k6 := (d1.sd (cb.sw (((c6.sw (h6.so _ c5 (oge dz)) 2 0 rfl rfl rfl c7).sos co d0).so _ ca (oge c9)) 6 0 rfl rfl rfl cc) 6 5 rfl rfl rfl)
 have k7 := fc.gv k6 5 rfl
 have fr := fc.drop 5 rfl
 have k8 := (fc.sd (d1.sd (cb.sw (ky.so _ ca (oge c9)) 1 0 rfl rfl rfl cc) 1 5 rfl rfl rfl) 1 5 rfl rfl rfl)
 have k9 := fr.gv k8 1 rfl
 have gj : Ct [] w0 ij [some c8, bk bv, bk ah, some aa, bk ab, some ae, some ag, some ad] O := fr.drop 1 rfl
 have la := (fr.sd (fc.sd (d1.sd (cb.sw (kz.so _ ca (oge c9)) 2 0 rfl rfl rfl cc) 2 5 rfl rfl rfl) 2 5 rfl rfl rfl) 2 1 rfl rfl rfl)
 have lb := gj.gv la 1 rfl
 have lc := gj.drop 1 rfl
 have ld := fc.std 5 rfl
 have il := fr.std 1 rfl
 have gk := gj.std 1 rfl
 have lf := (((k5.st ld).st il).st gk)
 have lg := ((k7.st il).st gk)
 refine L_call go9 [.agg #[vs r4.Id, vi r4.Shape.Kind, .slice af a7 a8, .slice ac a4 a5], .agg #[vs r6.Id, vi r6.Shape.Kind, .slice bz df dg, .slice bv dh di]] rfl ((F40.calls ij lc.ok r4 af a7 a8 ac a4 a5 h4 lf lg r6 bz df dg bv dh di kx (k9.st gk) lb _ H).mono ?_)
 rintro _ sl ⟨r8, rfl, H, da⟩
 have d2 := d1.k0 da
 refine L_pu (P_not r8 rfl) (L_mv (vb (!r8)) rfl ?_)
 rcases bool_or (!r8) with b0 | b0
 ·have H := ite_t H b0
  refine L_pb b0 rfl (L_pb b0 rfl (L_pb b0 rfl (L_pb b0 rfl (L_pb b0 rfl (L_pu (P_pick true (vb true) (by exact congrArg Value.bool b0) rfl) (L_nil (W_ct (b := true) rfl rfl ?_)))))))
  refine W_seq ?_
  have lh : ([some c8, bk bz, bk bv, bk ah, some aa, bk af, bk ac, bk ab, some ae, some ag, some ad] : Ob).Perm ((some c8 :: bk bz :: bk bv :: bk ah :: some aa :: bk af :: bk ac :: bk ab :: some ae :: some ag :: some ad :: []) ++ []) := (pc fun a => by (try simp only [pca, pcc, pcn, Nat.add_zero, Nat.zero_add]); first | done | ac_rfl)
  have li := d2.drops lh
  exact W_reg (L_as (vb false) rfl (L_nil (W_ret ⟨[vb false], ⟨_, rfl, rfl⟩, false, rfl, H, li.gr.g0⟩)))
 have H := ite_f H b0
 refine L_rb b0 rfl (L_mv (.slice ab a2 a3) rfl (L_rb b0 rfl ?_))
 have gl := ((cb.sw (((c6.sw (kr.so _ c5 (oge dz)) 3 0 rfl rfl rfl c7).sos co d0).so _ ca (oge c9)) 7 0 rfl rfl rfl cc).sn da)
 have sm := gl.le
 refine L_pu (P_len Try.underlying31 ab a2 a3 gl.len rfl) (L_rb b0 rfl (L_mv (.slice ah cm cn) rfl (L_rb b0 rfl ?_)))
 have gm := ((cb.sw (k1.so _ ca (oge c9)) 3 0 rfl rfl rfl cc).sn da)
 have sp := gm.le
 refine L_pu (P_len Try.underlying31 ah cm cn gm.len rfl) (L_rb b0 rfl (L_pu (P_cmp (r5.length : Int) (r7.length : Int) ((r5.length : Int) != (r7.length : Int)) rfl rfl rfl) (L_pu (P_pick false (vb ((r5.length : Int) != (r7.length : Int))) (by exact congrArg Value.bool b0) rfl) (L_nil ?_))))
 refine W_cond ((r5.length : Int) != (r7.length : Int)) rfl (fun gn => ?_) (fun gn => ?_)
 ·have H := ite_t H gn
  refine W_seq ?_
  have lj : ([some c8, bk bz, bk bv, bk ah, some aa, bk af, bk ac, bk ab, some ae, some ag, some ad] : Ob).Perm ((some c8 :: bk bz :: bk bv :: bk ah :: some aa :: bk af :: bk ac :: bk ab :: some ae :: some ag :: some ad :: []) ++ []) := (pc fun a => by (try simp only [pca, pcc, pcn, Nat.add_zero, Nat.zero_add]); first | done | ac_rfl)
  have lk := d2.drops lj
  exact W_reg (L_as (vb false) rfl (L_nil (W_ret ⟨[vb false], ⟨_, rfl, rfl⟩, false, rfl, H, lk.gr.g0⟩)))
 have H := ite_f H gn
 refine W_skip (W_seq (W_seq ?_))
 have cp : ([some c8, bk bz, bk bv, bk ah, some aa, bk af, bk ac, bk ab, some ae, some ag, some ad] : Ob).Perm ((some c8 :: bk bz :: bk bv :: []) ++ [bk ah, some aa, bk af, bk ac, bk ab, some ae, some ag, some ad]) := (pc fun a => by (try simp only [pca, pcc, pcn, Nat.add_zero, Nat.zero_add]); first | done | ac_rfl)
 have ll := d2.drops cp
 refine W_reg (L_as (vi 0) rfl (L_nil (W_block ?_)))
 obtain ⟨lm, ln, gp, H⟩ := H
 have er := gi.stos co d0
 have es := ii.stown _ ca (oge c9)
 have et := cb.stw 0 rfl cc
 have eu := d1.stn da
 have lo := (((((ig.st er).st es).st et).st eu).st (St.drops _ O cp))
 have lp := (((((ih.st er).st es).st et).st eu).st (St.drops _ O cp))
 have lq := (((((id.st er).st es).st et).st eu).st (St.drops _ O cp))
 have lr := (((((ie.st er).st es).st et).st eu).st (St.drops _ O cp))
 have ls := (((((ib.st er).st es).st et).st eu).st (St.drops _ O cp))
 have lt := (((((ic.st er).st es).st et).st eu).st (St.drops _ O cp))
 have lu := (d2.odr gl cp 4 rfl)
 have lv := (d2.odr gm cp 0 rfl)
 have lw := (d2.odr ((cb.sw (((c6.sw (h5.so _ c5 (oge dz)) 1 0 rfl rfl rfl c7).sos co d0).so _ ca (oge c9)) 5 0 rfl rfl rfl cc).sn da) cp 2 rfl)
 have lx := (d2.odr ((cb.sw (((c6.sw (h6.so _ c5 (oge dz)) 2 0 rfl rfl rfl c7).sos co d0).so _ ca (oge c9)) 6 0 rfl rfl rfl cc).sn da) cp 3 rfl)
 have ly := ((cb.bm ((h8.k0 co).k0 ca) 10 0 rfl rfl rfl cc).k0 da)
 have lz := ((cb.bm ((h9.k0 co).k0 ca) 9 0 rfl rfl rfl cc).k0 da)
 have l0 := ((cb.bm ((ia.k0 co).k0 ca) 8 0 rfl rfl rfl cc).k0 da)
 have l1 := (ik.k0 da)
 refine W_loop (α := Int) (fun (sv__ : Int) t bo => match sv__ with | i2 => lm i2 ∧ Has t [(3, .pointer (some ⟨ad, 0, none⟩)), (4, .pointer (some ⟨ag, 0, none⟩)), (5, .pointer (some ⟨ae, 0, none⟩)), (6, .pointer (some ⟨aa, 0, none⟩)), (7, .slice ab a2 a3), (9, .slice ah cm cn), (10, vi i2)] ∧ Ct [] w0 bo [bk ah, some aa, bk af, bk ac, bk ab, some ae, some ag, some ad] O ∧ Sl kPt bo (Fr ([bk ah, some aa, bk af, bk ac, bk ab, some ae, some ag, some ad] ++ O)) (.slice al am an) r3.Shape.Pts ∧ Sl kTag bo (Fr ([bk ah, some aa, bk af, bk ac, bk ab, some ae, some ag, some ad] ++ O)) (.slice az a0 a1) r3.Tags ∧ Sl kPt bo (Fr ([bk ah, some aa, bk af, bk ac, bk ab, some ae, some ag, some ad] ++ O)) (.slice ar au av) r2.Shape.Pts ∧ Sl kTag bo (Fr ([bk ah, some aa, bk af, bk ac, bk ab, some ae, some ag, some ad] ++ O)) (.slice aw ax ay) r2.Tags ∧ Sl kPt bo (Fr ([bk ah, some aa, bk af, bk ac, bk ab, some ae, some ag, some ad] ++ O)) (.slice ai aj ak) r.Shape.Pts ∧ Sl kTag bo (Fr ([bk ah, some aa, bk af, bk ac, bk ab, some ae, some ag, some ad] ++ O)) (.slice ao ap aq) r.Tags ∧ Ow Kd.str 9 bo ([bk ah, some aa, bk af, bk ac, bk ab, some ae, some ag, some ad] ++ O) (.slice ab a2 a3) r5 ∧ Ow Kd.str 9 bo ([bk ah, some aa, bk af, bk ac, bk ab, some ae, some ag, some ad] ++ O) (.slice ah cm cn) r7 ∧ Ow kPt 83 bo ([bk ah, some aa, bk af, bk ac, bk ab, some ae, some ag, some ad] ++ O) (.slice af a7 a8) r4.Shape.Pts ∧ Ow kTag 39 bo ([bk ah, some aa, bk af, bk ac, bk ab, some ae, some ag, some ad] ++ O) (.slice ac a4 a5) r4.Tags ∧ Bx bo ad [vs r.Id, vi r.Shape.Kind, .slice ai aj ak, .slice ao ap aq] ∧ Bx bo ag [vs r2.Id, vi r2.Shape.Kind, .slice ar au av, .slice aw ax ay] ∧ Bx bo ae [vs r3.Id, vi r3.Shape.Kind, .slice al am an, .slice az a0 a1] ∧ Bx bo aa [vs r4.Id, vi r4.Shape.Kind, .slice af a7 a8, .slice ac a4 a5]) (fun (sv__ : Int) => match sv__ with | i2 => ln i2) 0 ⟨gp, (hasI rfl), ll, lo, lp, lq, lr, ls, lt, lu, lv, lw, lx, ly, lz, l0, l1⟩ ?_
 rintro i2 _ bo ⟨gp, l2, fd, im, io, gq, gs, gt, gu, cq, gw, ip, iq, gx, ir, it, d3⟩
 obtain ⟨sq, rfl⟩ := Has.ins l2
 have H := H i2 gp
 refine W_seq (W_seq (W_reg (L_mv (vi i2) rfl (L_mv (.slice ab a2 a3) rfl ?_))))
 have l3 := cq.le
 refine L_pu (P_len Try.underlying31 ab a2 a3 cq.len rfl) (L_pu (P_cmp i2 (r5.length : Int) (decide (i2 < (r5.length : Int))) rfl rfl rfl) (L_nil ?_))
 refine W_cond (decide (i2 < (r5.length : Int))) rfl (fun fs => ?_) (fun fs => ?_)
 ·have H := ite_t H fs
  refine W_skip (W_seq (W_block (W_seq (W_draw (fun x => Gr bo x none) (by kernel_rfl) (by kernel_rfl) (Gr.drew _) ?_))))
  refine Q_mv (.slice ab a2 a3) rfl (Q_mv (vi i2) rfl ?_)
  obtain ⟨iu, H⟩ := H
  obtain ⟨iv, sr, l4, l5, l6⟩ := cq.get default (by decide) i2 iu
  obtain ⟨rfl, ss⟩ := Kd.str.op l5
  refine Q_pu (P_ia Try.underlying31 se31 ab iv a2 a3 cq.len i2 rfl l4 rfl iu) (Q_pu (P_ld ag9 cQ (iv.add (i2.toNat * 1)) (vs (nth r5 i2)) rfl (l6 0 _ rfl)) (Q_mv (.slice ah cm cn) rfl (Q_mv (vi i2) rfl ?_)))
  obtain ⟨iw, H⟩ := H
  obtain ⟨ix, su, l7, l8, l9⟩ := gw.get default (by decide) i2 iw
  obtain ⟨rfl, sv⟩ := Kd.str.op l8
  refine Q_pu (P_ia Try.underlying31 se31 ah ix cm cn gw.len i2 rfl l7 rfl iw) (Q_pu (P_ld ag9 cQ (ix.add (i2.toNat * 1)) (vs (nth r7 i2)) rfl (l9 0 _ rfl)) (Q_pu (P_scmp (nth r5 i2) (nth r7 i2) ((nth r5 i2) != (nth r7 i2)) rfl rfl rfl) (Q_nil fun sx db => ?_)))
  have iy := fd.k0 db
  refine W_cond ((nth r5 i2) != (nth r7 i2)) rfl (fun gy => ?_) (fun gy => ?_)
  ·have H := ite_t H gy
   refine W_seq ?_
   have ma : ([bk ah, some aa, bk af, bk ac, bk ab, some ae, some ag, some ad] : Ob).Perm ((bk ah :: some aa :: bk af :: bk ac :: bk ab :: some ae :: some ag :: some ad :: []) ++ []) := (pc fun a => by (try simp only [pca, pcc, pcn, Nat.add_zero, Nat.zero_add]); first | done | ac_rfl)
   have mb := iy.drops ma
   exact W_reg (L_as (vb false) rfl (L_nil (W_ret ⟨[vb false], ⟨_, rfl, rfl⟩, false, rfl, H, mb.gr.g0⟩)))
  have H := ite_f H gy
  refine W_skip (W_reg (L_mv (vi i2) rfl ?_))
  obtain ⟨mc, H⟩ := H
  have md : I64 (i2 + 1) := i64_succ (of_decide_eq_true fs) l3 mc
  refine L_pu (P_add i2 1 rfl rfl md) (L_as (vi (i2 + 1)) rfl (L_nil ?_))
  obtain ⟨me, mf⟩ := H
  have ev := fd.stn db
  have mg := (cq.sn db)
  have mh := (gw.sn db)
  have mi := (ip.sn db)
  have mj := (iq.sn db)
  have mk := (gx.k0 db)
  have ml := (ir.k0 db)
  have mm := (it.k0 db)
  have mn := (d3.k0 db)
  exact ⟨i2 + 1, mf, me, (hasI rfl), iy, (im.st ev), (io.st ev), (gq.st ev), (gs.st ev), (gt.st ev), (gu.st ev), mg, mh, mi, mj, mk, ml, mm, mn⟩
 have H := ite_f H fs
 refine W_exit (xin_hit ?_)
 refine W_seq (W_seq (W_reg (L_pu (P_lda ag28 sz28 cL ⟨ad, 0, none⟩ [vs r.Id, vi r.Shape.Kind, .slice ai aj ak, .slice ao ap aq] rfl rfl (gx.cells (off := 0) rfl)) ?_)))
 refine L_call go10 [.agg #[vs r.Id, vi r.Shape.Kind, .slice ai aj ak, .slice ao ap aq]] rfl ((F64.calls bo fd.ok r ai aj ak ao ap aq dy gt gu _ H).mono ?_)
 rintro _ mo ⟨r9, rfl, H, bl⟩
 have fe := fd.k0 bl
 refine L_pu (P_not r9 rfl) (L_mv (vb (!r9)) rfl ?_)
 rcases bool_or (!r9) with cr | cr
 ·have H := ite_t H cr
  refine L_pb cr rfl (L_pb cr rfl (L_pb cr rfl (L_pu (P_pick true (vb true) (by exact congrArg Value.bool cr) rfl) (L_mv (vb true) rfl (L_pass (dj := 77) rfl rfl (.inl rfl) (L_pass (dj := 77) rfl rfl (.inl rfl) (L_pass (dj := 77) rfl rfl (.inl rfl) (L_pu (P_pick true (vb true) (by exact congrArg Value.bool rfl) rfl) ?_))))))))
  refine L_mv (vb true) rfl (L_pass (dj := 82) rfl rfl (.inl rfl) (L_pass (dj := 82) rfl rfl (.inl rfl) (L_pass (dj := 82) rfl rfl (.inl rfl) (L_pass (dj := 82) rfl rfl (.inl rfl) (L_pass (dj := 82) rfl rfl (.inl rfl) (L_pu (P_pick true (vb true) (by exact congrArg Value.bool rfl) rfl) (L_mv (vb true) rfl (L_pass (dj := 89) rfl rfl (.inl rfl) ?_))))))))
  refine L_pass (dj := 89) rfl rfl (.inl rfl) (L_pass (dj := 89) rfl rfl (.inl rfl) (L_pass (dj := 89) rfl rfl (.inl rfl) (L_pass (dj := 89) rfl rfl (.inl rfl) (L_pu (P_pick true (vb true) (by exact congrArg Value.bool rfl) rfl) (L_nil (W_ct (b := true) rfl rfl ?_))))))
  refine W_seq ?_
  have iz : ([bk ah, some aa, bk af, bk ac, bk ab, some ae, some ag, some ad] : Ob).Perm ((bk ah :: some ae :: some ag :: some ad :: []) ++ [some aa, bk af, bk ac, bk ab]) := (pc fun a => by (try simp only [pca, pcc, pcn, Nat.add_zero, Nat.zero_add]); first | done | ac_rfl)
  have i0 := fe.drops iz
  refine W_reg (L_pu (P_fa fa28_0 ⟨aa, 0, none⟩ ⟨aa, 0, none⟩ rfl rfl) ?_)
  have mp := (d3.k0 bl)
  refine L_pu (P_ld ag9 cL ⟨aa, 0, none⟩ (vs r4.Id) rfl (mp.cell rfl)) (L_pu (P_scmp r4.Id ([] : Str) (r4.Id == ([] : Str)) rfl rfl rfl) (L_mv (vb (r4.Id == ([] : Str))) rfl ?_))
  rcases bool_or (r4.Id == ([] : Str)) with cs | cs
  ·have H := ite_t H cs
   refine L_rb cs rfl (L_mv (.slice ab a2 a3) rfl (L_rb cs rfl ?_))
   have mq := (fe.odr (cq.sn bl) iz 3 rfl)
   refine L_pu (P_len Try.underlying31 ab a2 a3 mq.len rfl) (L_rb cs rfl (L_pu (P_cmp (r5.length : Int) 0 ((r5.length : Int) == 0) rfl rfl rfl) (L_pu (P_pick true (vb ((r5.length : Int) == 0)) (by exact congrArg Value.bool cs) rfl) (L_as (vb ((r5.length : Int) == 0)) rfl (L_nil (W_ret ?_))))))
   have mr := i0.clear
   exact ⟨[vb ((r5.length : Int) == 0)], ⟨_, rfl, rfl⟩, (r5.length : Int) == 0, rfl, H, mr.gr.g0⟩
  have H := ite_f H cs
  refine L_pb cs rfl (L_pb cs rfl (L_pb cs rfl (L_pu (P_pick false (vb false) (by exact congrArg Value.bool cs) rfl) (L_as (vb false) rfl (L_nil (W_ret ?_))))))
  have ms := i0.clear
  exact ⟨[vb false], ⟨_, rfl, rfl⟩, false, rfl, H, ms.gr.g0⟩
 have H := ite_f H cr
 refine L_rb cr rfl ?_
 have i1 := (ir.k0 bl)
 refine L_pu (P_lda ag28 sz28 cL ⟨ag, 0, none⟩ [vs r2.Id, vi r2.Shape.Kind, .slice ar au av, .slice aw ax ay] rfl rfl (i1.cells (off := 0) rfl)) (L_rb cr rfl ?_)
 have dt := fd.stn bl
 refine L_call go10 [.agg #[vs r2.Id, vi r2.Shape.Kind, .slice ar au av, .slice aw ax ay]] rfl ((F64.calls mo fe.ok r2 ar au av aw ax ay eg (gq.st dt) (gs.st dt) _ H).mono ?_)
 rintro _ mt ⟨r10, rfl, H, bq⟩
 have ff := fe.k0 bq
 refine L_rb cr rfl (L_pu (P_not r10 rfl) (L_pu (P_pick false (vb (!r10)) (by exact congrArg Value.bool cr) rfl) (L_mv (vb (!r10)) rfl ?_)))
 rcases bool_or (!r10) with ct | ct
 ·have H := ite_t H ct
  refine L_pb ct rfl (L_pb ct rfl (L_pb ct rfl (L_pu (P_pick true (vb true) (by exact congrArg Value.bool ct) rfl) (L_mv (vb true) rfl (L_pass (dj := 82) rfl rfl (.inl rfl) (L_pass (dj := 82) rfl rfl (.inl rfl) (L_pass (dj := 82) rfl rfl (.inl rfl) (L_pass (dj := 82) rfl rfl (.inl rfl) ?_))))))))
  refine L_pass (dj := 82) rfl rfl (.inl rfl) (L_pu (P_pick true (vb true) (by exact congrArg Value.bool rfl) rfl) (L_mv (vb true) rfl (L_pass (dj := 89) rfl rfl (.inl rfl) (L_pass (dj := 89) rfl rfl (.inl rfl) (L_pass (dj := 89) rfl rfl (.inl rfl) (L_pass (dj := 89) rfl rfl (.inl rfl) (L_pass (dj := 89) rfl rfl (.inl rfl) (L_pu (P_pick true (vb true) (by exact congrArg Value.bool rfl) rfl) ?_))))))))
  refine L_nil (W_ct (b := true) rfl rfl ?_)
  refine W_seq ?_
  have i3 : ([bk ah, some aa, bk af, bk ac, bk ab, some ae, some ag, some ad] : Ob).Perm ((bk ah :: some ae :: some ag :: some ad :: []) ++ [some aa, bk af, bk ac, bk ab]) := (pc fun a => by (try simp only [pca, pcc, pcn, Nat.add_zero, Nat.zero_add]); first | done | ac_rfl)
  have i5 := ff.drops i3
  refine W_reg (L_pu (P_fa fa28_0 ⟨aa, 0, none⟩ ⟨aa, 0, none⟩ rfl rfl) ?_)
  have mu := ((d3.k0 bl).k0 bq)
  refine L_pu (P_ld ag9 cL ⟨aa, 0, none⟩ (vs r4.Id) rfl (mu.cell rfl)) (L_pu (P_scmp r4.Id ([] : Str) (r4.Id == ([] : Str)) rfl rfl rfl) (L_mv (vb (r4.Id == ([] : Str))) rfl ?_))
  rcases bool_or (r4.Id == ([] : Str)) with cu | cu
  ·have H := ite_t H cu
   refine L_rb cu rfl (L_mv (.slice ab a2 a3) rfl (L_rb cu rfl ?_))
   have mv := (ff.odr ((cq.sn bl).sn bq) i3 3 rfl)
   refine L_pu (P_len Try.underlying31 ab a2 a3 mv.len rfl) (L_rb cu rfl (L_pu (P_cmp (r5.length : Int) 0 ((r5.length : Int) == 0) rfl rfl rfl) (L_pu (P_pick true (vb ((r5.length : Int) == 0)) (by exact congrArg Value.bool cu) rfl) (L_as (vb ((r5.length : Int) == 0)) rfl (L_nil (W_ret ?_))))))
   have mw := i5.clear
   exact ⟨[vb ((r5.length : Int) == 0)], ⟨_, rfl, rfl⟩, (r5.length : Int) == 0, rfl, H, mw.gr.g0⟩
  have H := ite_f H cu
  refine L_pb cu rfl (L_pb cu rfl (L_pb cu rfl (L_pu (P_pick false (vb false) (by exact congrArg Value.bool cu) rfl) (L_as (vb false) rfl (L_nil (W_ret ?_))))))
  have mx := i5.clear
  exact ⟨[vb false], ⟨_, rfl, rfl⟩, false, rfl, H, mx.gr.g0⟩
 have H := ite_f H ct
 refine L_rb ct rfl ?_
 have i6 := ((it.k0 bl).k0 bq)
 refine L_pu (P_lda ag28 sz28 cL ⟨ae, 0, none⟩ [vs r3.Id, vi r3.Shape.Kind, .slice al am an, .slice az a0 a1] rfl rfl (i6.cells (off := 0) rfl)) (L_rb ct rfl ?_)
 have ew := fe.stn bq
 have i7 := ((im.st dt).st ew)
 have i8 := ((io.st dt).st ew)
 refine L_call go10 [.agg #[vs r3.Id, vi r3.Shape.Kind, .slice al am an, .slice az a0 a1]] rfl ((F64.calls mt ff.ok r3 al am an az a0 a1 eh i7 i8 _ H).mono ?_)
 rintro _ sy ⟨r11, rfl, H, b1⟩
 have cv := ff.k0 b1
 refine L_rb ct rfl (L_pu (P_not r11 rfl) (L_pu (P_pick false (vb (!r11)) (by exact congrArg Value.bool ct) rfl) (L_mv (vb (!r11)) rfl ?_)))
 rcases bool_or (!r11) with b2 | b2
 ·have H := ite_t H b2
  refine L_pb b2 rfl (L_pb b2 rfl (L_pb b2 rfl (L_pb b2 rfl (L_pb b2 rfl (L_pu (P_pick true (vb true) (by exact congrArg Value.bool b2) rfl) (L_mv (vb true) rfl (L_pass (dj := 89) rfl rfl (.inl rfl) (L_pass (dj := 89) rfl rfl (.inl rfl) ?_))))))))
  refine L_pass (dj := 89) rfl rfl (.inl rfl) (L_pass (dj := 89) rfl rfl (.inl rfl) (L_pass (dj := 89) rfl rfl (.inl rfl) (L_pu (P_pick true (vb true) (by exact congrArg Value.bool rfl) rfl) (L_nil (W_ct (b := true) rfl rfl ?_)))))
  refine W_seq ?_
  have i9 : ([bk ah, some aa, bk af, bk ac, bk ab, some ae, some ag, some ad] : Ob).Perm ((bk ah :: some ae :: some ag :: some ad :: []) ++ [some aa, bk af, bk ac, bk ab]) := (pc fun a => by (try simp only [pca, pcc, pcn, Nat.add_zero, Nat.zero_add]); first | done | ac_rfl)
  have ja := cv.drops i9
  refine W_reg (L_pu (P_fa fa28_0 ⟨aa, 0, none⟩ ⟨aa, 0, none⟩ rfl rfl) ?_)
  have my := (((d3.k0 bl).k0 bq).k0 b1)
  refine L_pu (P_ld ag9 cL ⟨aa, 0, none⟩ (vs r4.Id) rfl (my.cell rfl)) (L_pu (P_scmp r4.Id ([] : Str) (r4.Id == ([] : Str)) rfl rfl rfl) (L_mv (vb (r4.Id == ([] : Str))) rfl ?_))
  rcases bool_or (r4.Id == ([] : Str)) with cw | cw
  ·have H := ite_t H cw
   refine L_rb cw rfl (L_mv (.slice ab a2 a3) rfl (L_rb cw rfl ?_))
   have mz := (cv.odr (((cq.sn bl).sn bq).sn b1) i9 3 rfl)
   refine L_pu (P_len Try.underlying31 ab a2 a3 mz.len rfl) (L_rb cw rfl (L_pu (P_cmp (r5.length : Int) 0 ((r5.length : Int) == 0) rfl rfl rfl) (L_pu (P_pick true (vb ((r5.length : Int) == 0)) (by exact congrArg Value.bool cw) rfl) (L_as (vb ((r5.length : Int) == 0)) rfl (L_nil (W_ret ?_))))))
   have m0 := ja.clear
   exact ⟨[vb ((r5.length : Int) == 0)], ⟨_, rfl, rfl⟩, (r5.length : Int) == 0, rfl, H, m0.gr.g0⟩
  have H := ite_f H cw
  refine L_pb cw rfl (L_pb cw rfl (L_pb cw rfl (L_pu (P_pick false (vb false) (by exact congrArg Value.bool cw) rfl) (L_as (vb false) rfl (L_nil (W_ret ?_))))))
  have m1 := ja.clear
  exact ⟨[vb false], ⟨_, rfl, rfl⟩, false, rfl, H, m1.gr.g0⟩
 have H := ite_f H b2
 refine L_rb b2 rfl (L_pu (P_fa fa28_0 ⟨ag, 0, none⟩ ⟨ag, 0, none⟩ rfl rfl) (L_rb b2 rfl ?_))
 have jb := ((i1.k0 bq).k0 b1)
 refine L_pu (P_ld ag9 cL ⟨ag, 0, none⟩ (vs r2.Id) rfl (jb.cell rfl)) (L_rb b2 rfl (L_pu (P_fa fa28_0 ⟨ad, 0, none⟩ ⟨ad, 0, none⟩ rfl rfl) (L_rb b2 rfl ?_)))
 have gz := (((gx.k0 bl).k0 bq).k0 b1)
 refine L_pu (P_ld ag9 cL ⟨ad, 0, none⟩ (vs r.Id) rfl (gz.cell rfl)) (L_rb b2 rfl (L_pu (P_scmp r2.Id r.Id (r2.Id != r.Id) rfl rfl rfl) (L_pu (P_pick false (vb (r2.Id != r.Id)) (by exact congrArg Value.bool b2) rfl) (L_mv (vb (r2.Id != r.Id)) rfl ?_))))
 rcases bool_or (r2.Id != r.Id) with b3 | b3
 ·have H := ite_t H b3
  refine L_pb b3 rfl (L_pb b3 rfl (L_pb b3 rfl (L_pb b3 rfl (L_pb b3 rfl (L_pu (P_pick true (vb true) (by exact congrArg Value.bool b3) rfl) (L_nil (W_ct (b := true) rfl rfl ?_)))))))
  refine W_seq ?_
  have jc : ([bk ah, some aa, bk af, bk ac, bk ab, some ae, some ag, some ad] : Ob).Perm ((bk ah :: some ae :: some ag :: some ad :: []) ++ [some aa, bk af, bk ac, bk ab]) := (pc fun a => by (try simp only [pca, pcc, pcn, Nat.add_zero, Nat.zero_add]); first | done | ac_rfl)
  have jd := cv.drops jc
  refine W_reg (L_pu (P_fa fa28_0 ⟨aa, 0, none⟩ ⟨aa, 0, none⟩ rfl rfl) ?_)
  have m2 := (((d3.k0 bl).k0 bq).k0 b1)
  refine L_pu (P_ld ag9 cL ⟨aa, 0, none⟩ (vs r4.Id) rfl (m2.cell rfl)) (L_pu (P_scmp r4.Id ([] : Str) (r4.Id == ([] : Str)) rfl rfl rfl) (L_mv (vb (r4.Id == ([] : Str))) rfl ?_))
  rcases bool_or (r4.Id == ([] : Str)) with cx | cx
  ·have H := ite_t H cx
   refine L_rb cx rfl (L_mv (.slice ab a2 a3) rfl (L_rb cx rfl ?_))
   have m3 := (cv.odr (((cq.sn bl).sn bq).sn b1) jc 3 rfl)
   refine L_pu (P_len Try.underlying31 ab a2 a3 m3.len rfl) (L_rb cx rfl (L_pu (P_cmp (r5.length : Int) 0 ((r5.length : Int) == 0) rfl rfl rfl) (L_pu (P_pick true (vb ((r5.length : Int) == 0)) (by exact congrArg Value.bool cx) rfl) (L_as (vb ((r5.length : Int) == 0)) rfl (L_nil (W_ret ?_))))))
   have m4 := jd.clear
   exact ⟨[vb ((r5.length : Int) == 0)], ⟨_, rfl, rfl⟩, (r5.length : Int) == 0, rfl, H, m4.gr.g0⟩
  have H := ite_f H cx
  refine L_pb cx rfl (L_pb cx rfl (L_pb cx rfl (L_pu (P_pick false (vb false) (by exact congrArg Value.bool cx) rfl) (L_as (vb false) rfl (L_nil (W_ret ?_))))))
  have m5 := jd.clear
  exact ⟨[vb false], ⟨_, rfl, rfl⟩, false, rfl, H, m5.gr.g0⟩
 have H := ite_f H b3
 refine L_rb b3 rfl (L_pu (P_fa fa28_0 ⟨ae, 0, none⟩ ⟨ae, 0, none⟩ rfl rfl) (L_rb b3 rfl ?_))
 have je := (i6.k0 b1)
 refine L_pu (P_ld ag9 cL ⟨ae, 0, none⟩ (vs r3.Id) rfl (je.cell rfl)) (L_rb b3 rfl (L_pu (P_fa fa28_0 ⟨ad, 0, none⟩ ⟨ad, 0, none⟩ rfl rfl) (L_rb b3 rfl (L_pu (P_ld ag9 cL ⟨ad, 0, none⟩ (vs r.Id) rfl (gz.cell rfl)) (L_rb b3 rfl (L_pu (P_scmp r3.Id r.Id (r3.Id != r.Id) rfl rfl rfl) (L_pu (P_pick false (vb (r3.Id != r.Id)) (by exact congrArg Value.bool b3) rfl) (L_nil ?_))))))))
 refine W_cond (r3.Id != r.Id) rfl (fun g1 => ?_) (fun g1 => ?_)
 ·have H := ite_t H g1
  refine W_seq ?_
  have jf : ([bk ah, some aa, bk af, bk ac, bk ab, some ae, some ag, some ad] : Ob).Perm ((bk ah :: some ae :: some ag :: some ad :: []) ++ [some aa, bk af, bk ac, bk ab]) := (pc fun a => by (try simp only [pca, pcc, pcn, Nat.add_zero, Nat.zero_add]); first | done | ac_rfl)
  have jg := cv.drops jf
  refine W_reg (L_pu (P_fa fa28_0 ⟨aa, 0, none⟩ ⟨aa, 0, none⟩ rfl rfl) ?_)
  have m6 := (((d3.k0 bl).k0 bq).k0 b1)
  refine L_pu (P_ld ag9 cL ⟨aa, 0, none⟩ (vs r4.Id) rfl (m6.cell rfl)) (L_pu (P_scmp r4.Id ([] : Str) (r4.Id == ([] : Str)) rfl rfl rfl) (L_mv (vb (r4.Id == ([] : Str))) rfl ?_))
  rcases bool_or (r4.Id == ([] : Str)) with cy | cy
  ·have H := ite_t H cy
   refine L_rb cy rfl (L_mv (.slice ab a2 a3) rfl (L_rb cy rfl ?_))
   have m7 := (cv.odr (((cq.sn bl).sn bq).sn b1) jf 3 rfl)
   refine L_pu (P_len Try.underlying31 ab a2 a3 m7.len rfl) (L_rb cy rfl (L_pu (P_cmp (r5.length : Int) 0 ((r5.length : Int) == 0) rfl rfl rfl) (L_pu (P_pick true (vb ((r5.length : Int) == 0)) (by exact congrArg Value.bool cy) rfl) (L_as (vb ((r5.length : Int) == 0)) rfl (L_nil (W_ret ?_))))))
   have m8 := jg.clear
   exact ⟨[vb ((r5.length : Int) == 0)], ⟨_, rfl, rfl⟩, (r5.length : Int) == 0, rfl, H, m8.gr.g0⟩
  have H := ite_f H cy
  refine L_pb cy rfl (L_pb cy rfl (L_pb cy rfl (L_pu (P_pick false (vb false) (by exact congrArg Value.bool cy) rfl) (L_as (vb false) rfl (L_nil (W_ret ?_))))))
  have m9 := jg.clear
  exact ⟨[vb false], ⟨_, rfl, rfl⟩, false, rfl, H, m9.gr.g0⟩
 have H := ite_f H g1
 refine W_skip (W_seq (W_seq (W_reg (L_as (vi 0) rfl (L_nil (W_block ?_))))))
 have na := cv.drop 0 rfl
 obtain ⟨nb, nc, g2, H⟩ := H
 have ex := ff.stn b1
 have ey := cv.std 0 rfl
 have nd := ((i7.st ex).st ey)
 have ne := ((i8.st ex).st ey)
 have nf := ((((gq.st dt).st ew).st ex).st ey)
 have ng := ((((gs.st dt).st ew).st ex).st ey)
 have nh := ((((gt.st dt).st ew).st ex).st ey)
 have ni := ((((gu.st dt).st ew).st ex).st ey)
 have nj := (cv.sd (((cq.sn bl).sn bq).sn b1) 4 0 rfl rfl rfl)
 have nk := (cv.sd (((ip.sn bl).sn bq).sn b1) 2 0 rfl rfl rfl)
 have nl := (cv.sd (((iq.sn bl).sn bq).sn b1) 3 0 rfl rfl rfl)
 have nm := gz
 have nn := jb
 have no := je
 have np := (((d3.k0 bl).k0 bq).k0 b1)
 refine W_loop (α := Int) (fun (sv__ : Int) t bw => match sv__ with | i4 => nb i4 ∧ Has t [(3, .pointer (some ⟨ad, 0, none⟩)), (4, .pointer (some ⟨ag, 0, none⟩)), (5, .pointer (some ⟨ae, 0, none⟩)), (6, .pointer (some ⟨aa, 0, none⟩)), (7, .slice ab a2 a3), (11, vi i4)] ∧ Ct [] w0 bw [some aa, bk af, bk ac, bk ab, some ae, some ag, some ad] O ∧ Sl kPt bw (Fr ([some aa, bk af, bk ac, bk ab, some ae, some ag, some ad] ++ O)) (.slice al am an) r3.Shape.Pts ∧ Sl kTag bw (Fr ([some aa, bk af, bk ac, bk ab, some ae, some ag, some ad] ++ O)) (.slice az a0 a1) r3.Tags ∧ Sl kPt bw (Fr ([some aa, bk af, bk ac, bk ab, some ae, some ag, some ad] ++ O)) (.slice ar au av) r2.Shape.Pts ∧ Sl kTag bw (Fr ([some aa, bk af, bk ac, bk ab, some ae, some ag, some ad] ++ O)) (.slice aw ax ay) r2.Tags ∧ Sl kPt bw (Fr ([some aa, bk af, bk ac, bk ab, some ae, some ag, some ad] ++ O)) (.slice ai aj ak) r.Shape.Pts ∧ Sl kTag bw (Fr ([some aa, bk af, bk ac, bk ab, some ae, some ag, some ad] ++ O)) (.slice ao ap aq) r.Tags ∧ Ow Kd.str 9 bw ([some aa, bk af, bk ac, bk ab, some ae, some ag, some ad] ++ O) (.slice ab a2 a3) r5 ∧ Ow kPt 83 bw ([some aa, bk af, bk ac, bk ab, some ae, some ag, some ad] ++ O) (.slice af a7 a8) r4.Shape.Pts ∧ Ow kTag 39 bw ([some aa, bk af, bk ac, bk ab, some ae, some ag, some ad] ++ O) (.slice ac a4 a5) r4.Tags ∧ Bx bw ad [vs r.Id, vi r.Shape.Kind, .slice ai aj ak, .slice ao ap aq] ∧ Bx bw ag [vs r2.Id, vi r2.Shape.Kind, .slice ar au av, .slice aw ax ay] ∧ Bx bw ae [vs r3.Id, vi r3.Shape.Kind, .slice al am an, .slice az a0 a1] ∧ Bx bw aa [vs r4.Id, vi r4.Shape.Kind, .slice af a7 a8, .slice ac a4 a5]) (fun (sv__ : Int) => match sv__ with | i4 => nc i4) 0 ⟨g2, (hasI rfl), na, nd, ne, nf, ng, nh, ni, nj, nk, nl, nm, nn, no, np⟩ ?_
 rintro i4 _ bw ⟨g2, nq, fg, jh, ji, d4, ez, e0, e1, ft, e2, fu, e3, g3, jj, g4⟩
 obtain ⟨sz, rfl⟩ := Has.ins nq
 have H := H i4 g2
 refine W_seq (W_seq (W_reg (L_mv (vi i4) rfl (L_pu (P_fa fa28_2 ⟨aa, 0, none⟩ ⟨aa, 3, none⟩ rfl rfl) (L_pu (P_ld ag26 cL ⟨aa, 3, none⟩ (.slice ac a4 a5) rfl (g4.cell rfl)) ?_)))))
 have g5 := fu.le
 refine L_pu (P_len Try.underlying26 ac a4 a5 fu.len rfl) (L_pu (P_cmp i4 (r4.Tags.length : Int) (decide (i4 < (r4.Tags.length : Int))) rfl rfl rfl) (L_nil ?_))
 refine W_cond (decide (i4 < (r4.Tags.length : Int))) rfl (fun e4 => ?_) (fun e4 => ?_)
 ·have H := ite_t H e4
  refine W_skip (W_seq (W_block (W_seq (W_mixr 13 [] (by kernel_rfl) rfl fun nr b4 du => ?_))))
  have g6 := fg.k0 b4
  have fv := (g3.k0 b4)
  refine M_pu 0 rfl (by kernel_rfl) du (P_ldar ag28 sz28 cR ⟨ag, 0, none⟩ [vs r2.Id, vi r2.Shape.Kind, .slice ar au av, .slice aw ax ay] rfl rfl (fv.cells (off := 0) rfl) nm_nil) ?_
  refine M_pu 1 rfl (by kernel_rfl) du (P_fa fa28_2 ⟨aa, 0, none⟩ ⟨aa, 3, none⟩ rfl rfl) ?_
  have jk := (g4.k0 b4)
  refine M_pu 2 rfl (by kernel_rfl) du (P_ldr ag26 cR ⟨aa, 3, none⟩ (.slice ac a4 a5) rfl (jk.cell rfl) nm_nil) ?_
  refine M_pu 3 rfl (by kernel_rfl) du (P_move (vi i4) rfl) ?_
  obtain ⟨jl, H⟩ := H
  have g7 := (fu.sn b4)
  obtain ⟨fw, s0, ns, nt, nu⟩ := g7.get default (by decide) i4 jl
  obtain ⟨rfl, nv, s1⟩ := kTag.op nt
  refine M_pu 4 rfl (by kernel_rfl) du (P_ia Try.underlying26 se26 ac fw a4 a5 g7.len i4 rfl ns rfl jl) ?_
  refine M_pu 5 rfl (by kernel_rfl) du (P_fa fa39_0 (fw.add (i4.toNat * 2)) ((fw.add (i4.toNat * 2)).add 0) rfl rfl) ?_
  refine M_pu 6 rfl (by kernel_rfl) du (P_ldr ag9 cR ((fw.add (i4.toNat * 2)).add 0) (vs ((nth r4.Tags i4).Key)) rfl (nu 0 _ rfl) nm_nil) ?_
  refine M_any1 7 (by kernel_rfl) rfl ?_
  have bx := fg.stn b4
  refine L_call go11 [.agg #[vs r2.Id, vi r2.Shape.Kind, .slice ar au av, .slice aw ax ay], vs ((nth r4.Tags i4).Key)] rfl ((F53.calls nr g6.ok r2 ar au av aw ax ay eg (d4.st bx) (ez.st bx) ((nth r4.Tags i4).Key) nv _ H).mono ?_)
  rintro _ s2 ⟨r12, r13, rfl, H, bp, s3⟩
  have jm := g6.k0 bp
  have e5 := Gm.tm du bp
  refine L_nil ⟨e5, ?_⟩
  refine M_pu 8 rfl (by kernel_rfl) e5 (P_move (.tuple #[vs r12, vb r13]) rfl) ?_
  refine M_pu 9 rfl (by kernel_rfl) e5 (P_ext [vs r12, vb r13] 0 (vs r12) rfl rfl) ?_
  refine M_pu 10 rfl (by kernel_rfl) e5 (P_ext [vs r12, vb r13] 1 (vb r13) rfl rfl) ?_
  refine M_pu 11 rfl (by kernel_rfl) e5 (P_assign (vs r12) rfl) ?_
  refine M_pu 12 rfl (by kernel_rfl) e5 (P_assign (vb r13) rfl) ?_
  refine M_nil (by kernel_rfl) ?_
  refine W_seq (W_mixr 13 [] (by kernel_rfl) rfl fun nw br dv => ?_)
  have fh := jm.k0 br
  have fx := (((jj.k0 b4).k0 bp).k0 br)
  refine M_pu 0 rfl (by kernel_rfl) dv (P_ldar ag28 sz28 cR ⟨ae, 0, none⟩ [vs r3.Id, vi r3.Shape.Kind, .slice al am an, .slice az a0 a1] rfl rfl (fx.cells (off := 0) rfl) nm_nil) ?_
  refine M_pu 1 rfl (by kernel_rfl) dv (P_fa fa28_2 ⟨aa, 0, none⟩ ⟨aa, 3, none⟩ rfl rfl) ?_
  have g8 := ((jk.k0 bp).k0 br)
  refine M_pu 2 rfl (by kernel_rfl) dv (P_ldr ag26 cR ⟨aa, 3, none⟩ (.slice ac a4 a5) rfl (g8.cell rfl) nm_nil) ?_
  refine M_pu 3 rfl (by kernel_rfl) dv (P_move (vi i4) rfl) ?_
  obtain ⟨jn, H⟩ := H
  have fy := ((g7.sn bp).sn br)
  obtain ⟨fz, s4, nx, ny, nz⟩ := fy.get default (by decide) i4 jn
  obtain ⟨rfl, n0, s5⟩ := kTag.op ny
  refine M_pu 4 rfl (by kernel_rfl) dv (P_ia Try.underlying26 se26 ac fz a4 a5 fy.len i4 rfl nx rfl jn) ?_
  refine M_pu 5 rfl (by kernel_rfl) dv (P_fa fa39_0 (fz.add (i4.toNat * 2)) ((fz.add (i4.toNat * 2)).add 0) rfl rfl) ?_
  refine M_pu 6 rfl (by kernel_rfl) dv (P_ldr ag9 cR ((fz.add (i4.toNat * 2)).add 0) (vs ((nth r4.Tags i4).Key)) rfl (nz 0 _ rfl) nm_nil) ?_
  refine M_any1 7 (by kernel_rfl) rfl ?_
  have cd := g6.stn bp
  have ce := jm.stn br
  have f0 := (((jh.st bx).st cd).st ce)
  have f1 := (((ji.st bx).st cd).st ce)
  refine L_call go11 [.agg #[vs r3.Id, vi r3.Shape.Kind, .slice al am an, .slice az a0 a1], vs ((nth r4.Tags i4).Key)] rfl ((F53.calls nw fh.ok r3 al am an az a0 a1 eh f0 f1 ((nth r4.Tags i4).Key) n0 _ H).mono ?_)
  rintro _ s6 ⟨r14, r15, rfl, H, a6, s7⟩
  have d5 := fh.k0 a6
  have e6 := Gm.tm dv a6
  refine L_nil ⟨e6, ?_⟩
  refine M_pu 8 rfl (by kernel_rfl) e6 (P_move (.tuple #[vs r14, vb r15]) rfl) ?_
  refine M_pu 9 rfl (by kernel_rfl) e6 (P_ext [vs r14, vb r15] 0 (vs r14) rfl rfl) ?_
  refine M_pu 10 rfl (by kernel_rfl) e6 (P_ext [vs r14, vb r15] 1 (vb r15) rfl rfl) ?_
  refine M_pu 11 rfl (by kernel_rfl) e6 (P_assign (vs r14) rfl) ?_
  refine M_pu 12 rfl (by kernel_rfl) e6 (P_assign (vb r15) rfl) ?_
  refine M_nil (by kernel_rfl) ?_
  refine W_seq (W_reg (L_mv (vb r13) rfl (L_pu (P_not r13 rfl) (L_mv (vb (!r13)) rfl ?_))))
  rcases bool_or (!r13) with bb | bb
  ·have H := ite_t H bb
   refine L_pb bb rfl (L_pb bb rfl (L_pb bb rfl (L_pb bb rfl (L_pb bb rfl (L_pb bb rfl (L_pb bb rfl (L_pb bb rfl (L_pu (P_pick true (vb true) (by exact congrArg Value.bool bb) rfl) ?_))))))))
   refine L_mv (vb true) rfl (L_run (dj := 145) rfl rfl rfl (L_mv (vb r15) rfl (L_run (dj := 145) rfl rfl rfl (L_pu (P_not r15 rfl) (L_run (dj := 145) rfl rfl rfl (L_mv (vb (!r15)) rfl ?_))))))
   rcases bool_or (!r15) with bc | bc
   ·have H := ite_t H bc
    refine L_pb bc rfl (L_pb bc rfl (L_pb bc rfl (L_pb bc rfl (L_pb bc rfl (L_pb bc rfl (L_pb bc rfl (L_pb bc rfl (L_run (dj := 145) rfl rfl rfl ?_))))))))
    refine L_pu (P_pick true (vb true) (by exact congrArg Value.bool bc) rfl) (L_pu (P_pick true (vb true) (by exact congrArg Value.bool rfl) rfl) (L_nil (W_ct (b := true) rfl rfl ?_)))
    refine W_seq ?_
    have n1 : ([some aa, bk af, bk ac, bk ab, some ae, some ag, some ad] : Ob).Perm ((some aa :: bk af :: bk ac :: bk ab :: some ae :: some ag :: some ad :: []) ++ []) := (pc fun a => by (try simp only [pca, pcc, pcn, Nat.add_zero, Nat.zero_add]); first | done | ac_rfl)
    have n3 := d5.drops n1
    exact W_reg (L_as (vb false) rfl (L_nil (W_ret ⟨[vb false], ⟨_, rfl, rfl⟩, false, rfl, H, n3.gr.g0⟩)))
   have H := ite_f H bc
   refine L_rb bc rfl (L_mv (vs r14) rfl (L_rb bc rfl (L_pu (P_fa fa28_2 ⟨aa, 0, none⟩ ⟨aa, 3, none⟩ rfl rfl) (L_rb bc rfl ?_))))
   have jo := (g8.k0 a6)
   refine L_pu (P_ld ag26 cL ⟨aa, 3, none⟩ (.slice ac a4 a5) rfl (jo.cell rfl)) (L_rb bc rfl (L_mv (vi i4) rfl (L_rb bc rfl ?_)))
   obtain ⟨jp, H⟩ := H
   have ha := (fy.sn a6)
   obtain ⟨f2, s8, n4, n5, n6⟩ := ha.get default (by decide) i4 jp
   obtain ⟨rfl, s9, ta⟩ := kTag.op n5
   refine L_pu (P_ia Try.underlying26 se26 ac f2 a4 a5 ha.len i4 rfl n4 rfl jp) (L_rb bc rfl (L_pu (P_fa fa39_1 (f2.add (i4.toNat * 2)) ((f2.add (i4.toNat * 2)).add 1) rfl rfl) (L_rb bc rfl (L_pu (P_ld ag9 cL ((f2.add (i4.toNat * 2)).add 1) (vs ((nth r4.Tags i4).Val)) rfl (n6 1 _ rfl)) (L_rb bc rfl (L_pu (P_scmp r14 ((nth r4.Tags i4).Val) (r14 != ((nth r4.Tags i4).Val)) rfl rfl rfl) (L_run (dj := 145) rfl rfl rfl (L_pu (P_pick false (vb (r14 != ((nth r4.Tags i4).Val))) (by exact congrArg Value.bool bc) rfl) ?_))))))))
   refine L_pu (P_pick true (vb (r14 != ((nth r4.Tags i4).Val))) (by exact congrArg Value.bool rfl) rfl) (L_nil ?_)
   refine W_cond (r14 != ((nth r4.Tags i4).Val)) rfl (fun hb => ?_) (fun hb => ?_)
   ·have H := ite_t H hb
    refine W_seq ?_
    have n7 : ([some aa, bk af, bk ac, bk ab, some ae, some ag, some ad] : Ob).Perm ((some aa :: bk af :: bk ac :: bk ab :: some ae :: some ag :: some ad :: []) ++ []) := (pc fun a => by (try simp only [pca, pcc, pcn, Nat.add_zero, Nat.zero_add]); first | done | ac_rfl)
    have n8 := d5.drops n7
    exact W_reg (L_as (vb false) rfl (L_nil (W_ret ⟨[vb false], ⟨_, rfl, rfl⟩, false, rfl, H, n8.gr.g0⟩)))
   have H := ite_f H hb
   refine W_skip (W_reg (L_mv (vi i4) rfl ?_))
   obtain ⟨n9, H⟩ := H
   have oa : I64 (i4 + 1) := i64_succ (of_decide_eq_true e4) g5 n9
   refine L_pu (P_add i4 1 rfl rfl oa) (L_as (vi (i4 + 1)) rfl (L_nil ?_))
   obtain ⟨ob, oc⟩ := H
   have e7 := fh.stn a6
   have od := ((((d4.st bx).st cd).st ce).st e7)
   have oe := ((((ez.st bx).st cd).st ce).st e7)
   have og := ((((e0.st bx).st cd).st ce).st e7)
   have oh := ((((e1.st bx).st cd).st ce).st e7)
   have oi := ((((ft.sn b4).sn bp).sn br).sn a6)
   have oj := ((((e2.sn b4).sn bp).sn br).sn a6)
   have ol := ((((e3.k0 b4).k0 bp).k0 br).k0 a6)
   have om := (((fv.k0 bp).k0 br).k0 a6)
   have on := (fx.k0 a6)
   exact ⟨i4 + 1, oc, ob, (hasI rfl), d5, (f0.st e7), (f1.st e7), od, oe, og, oh, oi, oj, ha, ol, om, on, jo⟩
  have H := ite_f H bb
  refine L_rb bb rfl (L_mv (vs r12) rfl (L_rb bb rfl (L_pu (P_fa fa28_2 ⟨aa, 0, none⟩ ⟨aa, 3, none⟩ rfl rfl) (L_rb bb rfl ?_))))
  have f3 := (g8.k0 a6)
  refine L_pu (P_ld ag26 cL ⟨aa, 3, none⟩ (.slice ac a4 a5) rfl (f3.cell rfl)) (L_rb bb rfl (L_mv (vi i4) rfl (L_rb bb rfl ?_)))
  obtain ⟨jq, H⟩ := H
  have e8 := (fy.sn a6)
  obtain ⟨f4, tb, oo, oq, os⟩ := e8.get default (by decide) i4 jq
  obtain ⟨rfl, tc, td⟩ := kTag.op oq
  refine L_pu (P_ia Try.underlying26 se26 ac f4 a4 a5 e8.len i4 rfl oo rfl jq) (L_rb bb rfl (L_pu (P_fa fa39_1 (f4.add (i4.toNat * 2)) ((f4.add (i4.toNat * 2)).add 1) rfl rfl) (L_rb bb rfl (L_pu (P_ld ag9 cL ((f4.add (i4.toNat * 2)).add 1) (vs ((nth r4.Tags i4).Val)) rfl (os 1 _ rfl)) (L_rb bb rfl (L_pu (P_scmp r12 ((nth r4.Tags i4).Val) (r12 != ((nth r4.Tags i4).Val)) rfl rfl rfl) (L_pu (P_pick false (vb (r12 != ((nth r4.Tags i4).Val))) (by exact congrArg Value.bool bb) rfl) (L_mv (vb (r12 != ((nth r4.Tags i4).Val))) rfl ?_))))))))
  rcases bool_or (r12 != ((nth r4.Tags i4).Val)) with b5 | b5
  ·have H := ite_t H b5
   refine L_rb b5 rfl (L_mv (vb r15) rfl (L_rb b5 rfl (L_pu (P_not r15 rfl) (L_rb b5 rfl (L_mv (vb (!r15)) rfl ?_)))))
   rcases bool_or (!r15) with bd | bd
   ·have H := ite_t H bd
    refine L_pb bd rfl (L_pb bd rfl (L_pb bd rfl (L_pb bd rfl (L_pb bd rfl (L_pb bd rfl (L_pb bd rfl (L_pb bd rfl (L_rb b5 rfl ?_))))))))
    refine L_pu (P_pick true (vb true) (by exact congrArg Value.bool bd) rfl) (L_pu (P_pick true (vb true) (by exact congrArg Value.bool b5) rfl) (L_nil (W_ct (b := true) rfl rfl ?_)))
    refine W_seq ?_
    have ot : ([some aa, bk af, bk ac, bk ab, some ae, some ag, some ad] : Ob).Perm ((some aa :: bk af :: bk ac :: bk ab :: some ae :: some ag :: some ad :: []) ++ []) := (pc fun a => by (try simp only [pca, pcc, pcn, Nat.add_zero, Nat.zero_add]); first | done | ac_rfl)
    have ou := d5.drops ot
    exact W_reg (L_as (vb false) rfl (L_nil (W_ret ⟨[vb false], ⟨_, rfl, rfl⟩, false, rfl, H, ou.gr.g0⟩)))
   have H := ite_f H bd
   refine L_rb bd rfl (L_mv (vs r14) rfl (L_rb bd rfl (L_pu (P_fa fa28_2 ⟨aa, 0, none⟩ ⟨aa, 3, none⟩ rfl rfl) (L_rb bd rfl (L_pu (P_ld ag26 cL ⟨aa, 3, none⟩ (.slice ac a4 a5) rfl (f3.cell rfl)) (L_rb bd rfl (L_mv (vi i4) rfl (L_rb bd rfl ?_))))))))
   obtain ⟨jr, H⟩ := H
   obtain ⟨f5, te, ov, ow, ox⟩ := e8.get default (by decide) i4 jr
   obtain ⟨rfl, tf, tg⟩ := kTag.op ow
   refine L_pu (P_ia Try.underlying26 se26 ac f5 a4 a5 e8.len i4 rfl ov rfl jr) (L_rb bd rfl (L_pu (P_fa fa39_1 (f5.add (i4.toNat * 2)) ((f5.add (i4.toNat * 2)).add 1) rfl rfl) (L_rb bd rfl (L_pu (P_ld ag9 cL ((f5.add (i4.toNat * 2)).add 1) (vs ((nth r4.Tags i4).Val)) rfl (ox 1 _ rfl)) (L_rb bd rfl (L_pu (P_scmp r14 ((nth r4.Tags i4).Val) (r14 != ((nth r4.Tags i4).Val)) rfl rfl rfl) (L_rb b5 rfl (L_pu (P_pick false (vb (r14 != ((nth r4.Tags i4).Val))) (by exact congrArg Value.bool bd) rfl) ?_))))))))
   refine L_pu (P_pick true (vb (r14 != ((nth r4.Tags i4).Val))) (by exact congrArg Value.bool b5) rfl) (L_nil ?_)
   refine W_cond (r14 != ((nth r4.Tags i4).Val)) rfl (fun hc => ?_) (fun hc => ?_)
   ·have H := ite_t H hc
    refine W_seq ?_
    have oy : ([some aa, bk af, bk ac, bk ab, some ae, some ag, some ad] : Ob).Perm ((some aa :: bk af :: bk ac :: bk ab :: some ae :: some ag :: some ad :: []) ++ []) := (pc fun a => by (try simp only [pca, pcc, pcn, Nat.add_zero, Nat.zero_add]); first | done | ac_rfl)
    have oz := d5.drops oy
    exact W_reg (L_as (vb false) rfl (L_nil (W_ret ⟨[vb false], ⟨_, rfl, rfl⟩, false, rfl, H, oz.gr.g0⟩)))
   have H := ite_f H hc
   refine W_skip (W_reg (L_mv (vi i4) rfl ?_))
   obtain ⟨o0, H⟩ := H
   have o1 : I64 (i4 + 1) := i64_succ (of_decide_eq_true e4) g5 o0
   refine L_pu (P_add i4 1 rfl rfl o1) (L_as (vi (i4 + 1)) rfl (L_nil ?_))
   obtain ⟨o2, o3⟩ := H
   have e9 := fh.stn a6
   have o4 := ((((d4.st bx).st cd).st ce).st e9)
   have o5 := ((((ez.st bx).st cd).st ce).st e9)
   have o6 := ((((e0.st bx).st cd).st ce).st e9)
   have o7 := ((((e1.st bx).st cd).st ce).st e9)
   have o8 := ((((ft.sn b4).sn bp).sn br).sn a6)
   have o9 := ((((e2.sn b4).sn bp).sn br).sn a6)
   have pa := ((((e3.k0 b4).k0 bp).k0 br).k0 a6)
   have pb := (((fv.k0 bp).k0 br).k0 a6)
   have pd := (fx.k0 a6)
   exact ⟨i4 + 1, o3, o2, (hasI rfl), d5, (f0.st e9), (f1.st e9), o4, o5, o6, o7, o8, o9, e8, pa, pb, pd, f3⟩
  have H := ite_f H b5
  refine L_pb b5 rfl (L_pb b5 rfl (L_pb b5 rfl (L_pn rfl (L_pn rfl (L_pn rfl (L_pn rfl (L_pn rfl (L_pn rfl ?_))))))))
  refine L_pn rfl (L_pn rfl (L_pb b5 rfl (L_pu (P_pick false (vb false) (by exact congrArg Value.bool b5) rfl) (L_nil (W_cf (b := false) rfl rfl ?_)))))
  refine W_skip (W_reg (L_mv (vi i4) rfl ?_))
  obtain ⟨pe, H⟩ := H
  have pf : I64 (i4 + 1) := i64_succ (of_decide_eq_true e4) g5 pe
  refine L_pu (P_add i4 1 rfl rfl pf) (L_as (vi (i4 + 1)) rfl (L_nil ?_))
  obtain ⟨pg, ph⟩ := H
  have fa := fh.stn a6
  have pi := ((((d4.st bx).st cd).st ce).st fa)
  have pj := ((((ez.st bx).st cd).st ce).st fa)
  have pk := ((((e0.st bx).st cd).st ce).st fa)
  have pl := ((((e1.st bx).st cd).st ce).st fa)
  have pm := ((((ft.sn b4).sn bp).sn br).sn a6)
  have pn := ((((e2.sn b4).sn bp).sn br).sn a6)
  have po := ((((e3.k0 b4).k0 bp).k0 br).k0 a6)
  have pp := (((fv.k0 bp).k0 br).k0 a6)
  have pq := (fx.k0 a6)
  exact ⟨i4 + 1, ph, pg, (hasI rfl), d5, (f0.st fa), (f1.st fa), pi, pj, pk, pl, pm, pn, e8, po, pp, pq, f3⟩
 have H := ite_f H e4
 refine W_exit (xin_hit ?_)
 refine W_seq (W_reg (L_pu (P_lda ag28 sz28 cL ⟨ad, 0, none⟩ [vs r.Id, vi r.Shape.Kind, .slice ai aj ak, .slice ao ap aq] rfl rfl (e3.cells (off := 0) rfl)) (L_pu (P_lda ag28 sz28 cL ⟨ag, 0, none⟩ [vs r2.Id, vi r2.Shape.Kind, .slice ar au av, .slice aw ax ay] rfl rfl (g3.cells (off := 0) rfl)) (L_pu (P_lda ag28 sz28 cL ⟨ad, 0, none⟩ [vs r.Id, vi r.Shape.Kind, .slice ai aj ak, .slice ao ap aq] rfl rfl (e3.cells (off := 0) rfl)) ?_))))
 refine L_call go7 [.agg #[vs r.Id, vi r.Shape.Kind, .slice ai aj ak, .slice ao ap aq], .agg #[vs r2.Id, vi r2.Shape.Kind, .slice ar au av, .slice aw ax ay], .agg #[vs r.Id, vi r.Shape.Kind, .slice ai aj ak, .slice ao ap aq]] rfl ((F37.calls bw fg.ok r ai aj ak ao ap aq dy e0 e1 r2 ar au av aw ax ay eg d4 ez r ai aj ak ao ap aq dy e0 e1 _ H).mono ?_)
 rintro _ pr ⟨r16, r17, a9, dk, dl, ba, dm, dn, bg, d6, d7, rfl, H, cz, ps, d8, pt, pu, pv, pw⟩
 have js : Ct [] w0 pr [bk a9, bk ba, bk bg, some aa, bk af, bk ac, bk ab, some ae, some ag, some ad] O := fg.owns cz ps d8
 refine L_mv (.tuple #[.agg #[vs r16.Id, vi r16.Shape.Kind, .slice a9 dk dl, .slice ba dm dn], .slice bg d6 d7]) rfl (L_pu (P_ext [.agg #[vs r16.Id, vi r16.Shape.Kind, .slice a9 dk dl, .slice ba dm dn], .slice bg d6 d7] 0 (.agg #[vs r16.Id, vi r16.Shape.Kind, .slice a9 dk dl, .slice ba dm dn]) rfl rfl) (L_pu (P_ext [.agg #[vs r16.Id, vi r16.Shape.Kind, .slice a9 dk dl, .slice ba dm dn], .slice bg d6 d7] 1 (.slice bg d6 d7) rfl rfl) (L_alloc [vs [], .int .i64 0, .slice none 0 0, .slice none 0 0] ze28 fun th b6 dc hu689 cf px => ?_)))
 have cg := js.own cf (some b6) (oglt dc hu689)
 refine L_stb b6 0 [vs ([] : Str), vi 0, .slice none 0 0, .slice none 0 0] [vs r16.Id, vi r16.Shape.Kind, .slice a9 dk dl, .slice ba dm dn] [vs r16.Id, vi r16.Shape.Kind, .slice a9 dk dl, .slice ba dm dn] rfl px rfl sz28 rfl rfl rfl fun py ch pz => ?_
 have fi := cg.wr 0 rfl ch
 refine L_as (.slice bg d6 d7) rfl (L_nil (W_seq (W_reg ?_)))
 have hd := (cg.bm ((e3.k0 cz).k0 cf) 10 0 rfl rfl rfl ch)
 refine L_pu (P_lda ag28 sz28 cL ⟨ad, 0, none⟩ [vs r.Id, vi r.Shape.Kind, .slice ai aj ak, .slice ao ap aq] rfl rfl (hd.cells (off := 0) rfl)) (L_pu (P_lda ag28 sz28 cL ⟨ad, 0, none⟩ [vs r.Id, vi r.Shape.Kind, .slice ai aj ak, .slice ao ap aq] rfl rfl (hd.cells (off := 0) rfl)) ?_)
 have jt := (cg.bm ((jj.k0 cz).k0 cf) 8 0 rfl rfl rfl ch)
 refine L_pu (P_lda ag28 sz28 cL ⟨ae, 0, none⟩ [vs r3.Id, vi r3.Shape.Kind, .slice al am an, .slice az a0 a1] rfl rfl (jt.cells (off := 0) rfl)) ?_
 have d9 := fg.stos cz d8
 have ea := js.stown _ cf (oge dc)
 have eb := cg.stw 0 rfl ch
 have he := (((e0.st d9).st ea).st eb)
 have ju := (((e1.st d9).st ea).st eb)
 have f6 := (((jh.st d9).st ea).st eb)
 have jv := (((ji.st d9).st ea).st eb)
 refine L_call go7 [.agg #[vs r.Id, vi r.Shape.Kind, .slice ai aj ak, .slice ao ap aq], .agg #[vs r.Id, vi r.Shape.Kind, .slice ai aj ak, .slice ao ap aq], .agg #[vs r3.Id, vi r3.Shape.Kind, .slice al am an, .slice az a0 a1]] rfl ((F37.calls py fi.ok r ai aj ak ao ap aq dy he ju r ai aj ak ao ap aq dy he ju r3 al am an az a0 a1 eh f6 jv _ H).mono ?_)
 rintro _ ti ⟨r18, r19, be, dp, dq, bf, dr, ds, bn, ec, ed, rfl, H, bs, p0, cl, p1, p2, p3, p4⟩
 have f7 := fi.owns bs p0 cl
 refine L_mv (.tuple #[.agg #[vs r18.Id, vi r18.Shape.Kind, .slice be dp dq, .slice bf dr ds], .slice bn ec ed]) rfl (L_pu (P_ext [.agg #[vs r18.Id, vi r18.Shape.Kind, .slice be dp dq, .slice bf dr ds], .slice bn ec ed] 0 (.agg #[vs r18.Id, vi r18.Shape.Kind, .slice be dp dq, .slice bf dr ds]) rfl rfl) (L_pu (P_ext [.agg #[vs r18.Id, vi r18.Shape.Kind, .slice be dp dq, .slice bf dr ds], .slice bn ec ed] 1 (.slice bn ec ed) rfl rfl) (L_alloc [vs [], .int .i64 0, .slice none 0 0, .slice none 0 0] ze28 fun tj b7 b8 hu732 bh p5 => ?_)))
 have bi := f7.own bh (some b7) (oglt b8 hu732)
 refine L_stb b7 0 [vs ([] : Str), vi 0, .slice none 0 0, .slice none 0 0] [vs r18.Id, vi r18.Shape.Kind, .slice be dp dq, .slice bf dr ds] [vs r18.Id, vi r18.Shape.Kind, .slice be dp dq, .slice bf dr ds] rfl p5 rfl sz28 rfl rfl rfl fun p6 bj p7 => ?_
 have ee := bi.wr 0 rfl bj
 refine L_as (.slice bn ec ed) rfl (L_nil (W_seq (W_seq (W_reg ?_))))
 have p8 := (bi.bm ((pz.k0 bs).k0 bh) 4 0 rfl rfl rfl bj)
 refine L_pu (P_lda ag28 sz28 cL ⟨b6, 0, none⟩ [vs r16.Id, vi r16.Shape.Kind, .slice a9 dk dl, .slice ba dm dn] rfl rfl (p8.cells (off := 0) rfl)) ?_
 have jw := (bi.bm (((cg.bm ((g3.k0 cz).k0 cf) 9 0 rfl rfl rfl ch).k0 bs).k0 bh) 13 0 rfl rfl rfl bj)
 refine L_pu (P_lda ag28 sz28 cL ⟨ag, 0, none⟩ [vs r2.Id, vi r2.Shape.Kind, .slice ar au av, .slice aw ax ay] rfl rfl (jw.cells (off := 0) rfl)) ?_
 have p9 := (bi.sw (((cg.sw (pu.so _ cf (oge dc)) 1 0 rfl rfl rfl ch).sos bs cl).so _ bh (oge b8)) 5 0 rfl rfl rfl bj)
 have qa := ee.gv p9 5 rfl
 have hf := ee.drop 5 rfl
 have qb := (ee.sd (bi.sw (((cg.sw (pv.so _ cf (oge dc)) 2 0 rfl rfl rfl ch).sos bs cl).so _ bh (oge b8)) 6 0 rfl rfl rfl bj) 6 5 rfl rfl rfl)
 have qc := hf.gv qb 5 rfl
 have qd := hf.drop 5 rfl
 have hg := hf.std 5 rfl
 have jx := fi.stos bs cl
 have jy := f7.stown _ bh (oge b8)
 have jz := bi.stw 0 rfl bj
 have j0 := ee.std 5 rfl
 have qe := ((((((((d4.st d9).st ea).st eb).st jx).st jy).st jz).st j0).st hg)
 have qf := ((((((((ez.st d9).st ea).st eb).st jx).st jy).st jz).st j0).st hg)
 refine L_call go9 [.agg #[vs r16.Id, vi r16.Shape.Kind, .slice a9 dk dl, .slice ba dm dn], .agg #[vs r2.Id, vi r2.Shape.Kind, .slice ar au av, .slice aw ax ay]] rfl ((F40.calls p6 qd.ok r16 a9 dk dl ba dm dn pt (qa.st hg) qc r2 ar au av aw ax ay eg qe qf _ H).mono ?_)
 rintro _ qg ⟨r20, rfl, H, bt⟩
 have dw := ee.k0 bt
 refine L_pu (P_not r20 rfl) (L_mv (vb (!r20)) rfl ?_)
 rcases bool_or (!r20) with c0 | c0
 ·have H := ite_t H c0
  refine L_pb c0 rfl (L_pb c0 rfl (L_pb c0 rfl (L_pu (P_pick true (vb true) (by exact congrArg Value.bool c0) rfl) (L_mv (vb true) rfl (L_pass (dj := 182) rfl rfl (.inl rfl) (L_pass (dj := 182) rfl rfl (.inl rfl) (L_pass (dj := 182) rfl rfl (.inl rfl) (L_pass (dj := 182) rfl rfl (.inl rfl) ?_))))))))
  refine L_pu (P_pick true (vb true) (by exact congrArg Value.bool rfl) rfl) (L_mv (vb true) rfl (L_pass (dj := 188) rfl rfl (.inl rfl) (L_pass (dj := 188) rfl rfl (.inl rfl) (L_pass (dj := 188) rfl rfl (.inl rfl) (L_pu (P_pick true (vb true) (by exact congrArg Value.bool rfl) rfl) (L_mv (vb true) rfl (L_pass (dj := 193) rfl rfl (.inl rfl) (L_pass (dj := 193) rfl rfl (.inl rfl) ?_))))))))
  refine L_pass (dj := 193) rfl rfl (.inl rfl) (L_pu (P_pick true (vb true) (by exact congrArg Value.bool rfl) rfl) (L_nil (W_ct (b := true) rfl rfl ?_)))
  refine W_seq ?_
  have qh : ([some b7, bk be, bk bf, bk bn, some b6, bk a9, bk ba, bk bg, some aa, bk af, bk ac, bk ab, some ae, some ag, some ad] : Ob).Perm ((some b7 :: bk be :: bk bf :: bk bn :: some b6 :: bk a9 :: bk ba :: bk bg :: some aa :: bk af :: bk ac :: bk ab :: some ae :: some ag :: some ad :: []) ++ []) := (pc fun a => by (try simp only [pca, pcc, pcn, Nat.add_zero, Nat.zero_add]); first | done | ac_rfl)
  have qi := dw.drops qh
  exact W_reg (L_as (vb false) rfl (L_nil (W_ret ⟨[vb false], ⟨_, rfl, rfl⟩, false, rfl, H, qi.gr.g0⟩)))
 have H := ite_f H c0
 refine L_rb c0 rfl (L_mv (.slice bg d6 d7) rfl (L_rb c0 rfl ?_))
 have j1 := ((bi.sw (((cg.sw (pw.so _ cf (oge dc)) 3 0 rfl rfl rfl ch).sos bs cl).so _ bh (oge b8)) 7 0 rfl rfl rfl bj).sn bt)
 have tk := j1.le
 refine L_pu (P_len Try.underlying31 bg d6 d7 j1.len rfl) (L_rb c0 rfl (L_pu (P_cmp (r17.length : Int) 0 (decide ((r17.length : Int) > 0)) rfl rfl rfl) (L_pu (P_pick false (vb (decide ((r17.length : Int) > 0))) (by exact congrArg Value.bool c0) rfl) (L_mv (vb (decide ((r17.length : Int) > 0))) rfl ?_))))
 rcases bool_or (decide ((r17.length : Int) > 0)) with ci | ci
 ·have H := ite_t H ci
  refine L_pb ci rfl (L_pb ci rfl (L_pb ci rfl (L_pb ci rfl (L_pu (P_pick true (vb true) (by exact congrArg Value.bool ci) rfl) (L_mv (vb true) rfl (L_pass (dj := 188) rfl rfl (.inl rfl) (L_pass (dj := 188) rfl rfl (.inl rfl) (L_pass (dj := 188) rfl rfl (.inl rfl) ?_))))))))
  refine L_pu (P_pick true (vb true) (by exact congrArg Value.bool rfl) rfl) (L_mv (vb true) rfl (L_pass (dj := 193) rfl rfl (.inl rfl) (L_pass (dj := 193) rfl rfl (.inl rfl) (L_pass (dj := 193) rfl rfl (.inl rfl) (L_pu (P_pick true (vb true) (by exact congrArg Value.bool rfl) rfl) (L_nil (W_ct (b := true) rfl rfl ?_)))))))
  refine W_seq ?_
  have qj : ([some b7, bk be, bk bf, bk bn, some b6, bk a9, bk ba, bk bg, some aa, bk af, bk ac, bk ab, some ae, some ag, some ad] : Ob).Perm ((some b7 :: bk be :: bk bf :: bk bn :: some b6 :: bk a9 :: bk ba :: bk bg :: some aa :: bk af :: bk ac :: bk ab :: some ae :: some ag :: some ad :: []) ++ []) := (pc fun a => by (try simp only [pca, pcc, pcn, Nat.add_zero, Nat.zero_add]); first | done | ac_rfl)
  have qk := dw.drops qj
  exact W_reg (L_as (vb false) rfl (L_nil (W_ret ⟨[vb false], ⟨_, rfl, rfl⟩, false, rfl, H, qk.gr.g0⟩)))
 have H := ite_f H ci
 refine L_rb ci rfl ?_
 have ql := (p7.k0 bt)
 refine L_pu (P_lda ag28 sz28 cL ⟨b7, 0, none⟩ [vs r18.Id, vi r18.Shape.Kind, .slice be dp dq, .slice bf dr ds] rfl rfl (ql.cells (off := 0) rfl)) (L_rb ci rfl ?_)
 have hh := ((bi.bm ((jt.k0 bs).k0 bh) 12 0 rfl rfl rfl bj).k0 bt)
 refine L_pu (P_lda ag28 sz28 cL ⟨ae, 0, none⟩ [vs r3.Id, vi r3.Shape.Kind, .slice al am an, .slice az a0 a1] rfl rfl (hh.cells (off := 0) rfl)) (L_rb ci rfl ?_)
 have qm := ((bi.sw (p2.so _ bh (oge b8)) 1 0 rfl rfl rfl bj).sn bt)
 have qn := dw.gv qm 1 rfl
 have hi := dw.drop 1 rfl
 have qo := (dw.sd ((bi.sw (p3.so _ bh (oge b8)) 2 0 rfl rfl rfl bj).sn bt) 2 1 rfl rfl rfl)
 have qp := hi.gv qo 1 rfl
 have qq := hi.drop 1 rfl
 have hj := hi.std 1 rfl
 have j2 := fi.stos bs cl
 have j3 := f7.stown _ bh (oge b8)
 have j4 := bi.stw 0 rfl bj
 have j5 := ee.stn bt
 have j6 := dw.std 1 rfl
 have qr := ((((((f6.st j2).st j3).st j4).st j5).st j6).st hj)
 have qs := ((((((jv.st j2).st j3).st j4).st j5).st j6).st hj)
 refine L_call go9 [.agg #[vs r18.Id, vi r18.Shape.Kind, .slice be dp dq, .slice bf dr ds], .agg #[vs r3.Id, vi r3.Shape.Kind, .slice al am an, .slice az a0 a1]] rfl ((F40.calls qg qq.ok r18 be dp dq bf dr ds p1 (qn.st hj) qp r3 al am an az a0 a1 eh qr qs _ H).mono ?_)
 rintro _ qt ⟨r21, rfl, H, cj⟩
 have ef := dw.k0 cj
 refine L_rb ci rfl (L_pu (P_not r21 rfl) (L_pu (P_pick false (vb (!r21)) (by exact congrArg Value.bool ci) rfl) (L_mv (vb (!r21)) rfl ?_)))
 rcases bool_or (!r21) with c1 | c1
 ·have H := ite_t H c1
  refine L_pb c1 rfl (L_pb c1 rfl (L_pb c1 rfl (L_pu (P_pick true (vb true) (by exact congrArg Value.bool c1) rfl) (L_mv (vb true) rfl (L_pass (dj := 193) rfl rfl (.inl rfl) (L_pass (dj := 193) rfl rfl (.inl rfl) (L_pass (dj := 193) rfl rfl (.inl rfl) (L_pu (P_pick true (vb true) (by exact congrArg Value.bool rfl) rfl) ?_))))))))
  refine L_nil (W_ct (b := true) rfl rfl ?_)
  refine W_seq ?_
  have qu : ([some b7, bk be, bk bf, bk bn, some b6, bk a9, bk ba, bk bg, some aa, bk af, bk ac, bk ab, some ae, some ag, some ad] : Ob).Perm ((some b7 :: bk be :: bk bf :: bk bn :: some b6 :: bk a9 :: bk ba :: bk bg :: some aa :: bk af :: bk ac :: bk ab :: some ae :: some ag :: some ad :: []) ++ []) := (pc fun a => by (try simp only [pca, pcc, pcn, Nat.add_zero, Nat.zero_add]); first | done | ac_rfl)
  have qv := ef.drops qu
  exact W_reg (L_as (vb false) rfl (L_nil (W_ret ⟨[vb false], ⟨_, rfl, rfl⟩, false, rfl, H, qv.gr.g0⟩)))
 have H := ite_f H c1
 refine L_rb c1 rfl (L_mv (.slice bn ec ed) rfl (L_rb c1 rfl ?_))
 have j7 := (((bi.sw (p4.so _ bh (oge b8)) 3 0 rfl rfl rfl bj).sn bt).sn cj)
 have tl := j7.le
 refine L_pu (P_len Try.underlying31 bn ec ed j7.len rfl) (L_rb c1 rfl (L_pu (P_cmp (r19.length : Int) 0 (decide ((r19.length : Int) > 0)) rfl rfl rfl) (L_pu (P_pick false (vb (decide ((r19.length : Int) > 0))) (by exact congrArg Value.bool c1) rfl) (L_mv (vb (decide ((r19.length : Int) > 0))) rfl ?_))))
 rcases bool_or (decide ((r19.length : Int) > 0)) with c2 | c2
 ·have H := ite_t H c2
  refine L_pb c2 rfl (L_pb c2 rfl (L_pb c2 rfl (L_pu (P_pick true (vb true) (by exact congrArg Value.bool c2) rfl) (L_nil (W_ct (b := true) rfl rfl ?_)))))
  refine W_seq ?_
  have qw : ([some b7, bk be, bk bf, bk bn, some b6, bk a9, bk ba, bk bg, some aa, bk af, bk ac, bk ab, some ae, some ag, some ad] : Ob).Perm ((some b7 :: bk be :: bk bf :: bk bn :: some b6 :: bk a9 :: bk ba :: bk bg :: some aa :: bk af :: bk ac :: bk ab :: some ae :: some ag :: some ad :: []) ++ []) := (pc fun a => by (try simp only [pca, pcc, pcn, Nat.add_zero, Nat.zero_add]); first | done | ac_rfl)
  have qx := ef.drops qw
  exact W_reg (L_as (vb false) rfl (L_nil (W_ret ⟨[vb false], ⟨_, rfl, rfl⟩, false, rfl, H, qx.gr.g0⟩)))
 have H := ite_f H c2
 refine L_rb c2 rfl ?_
 have hk := (((bi.bm (((cg.bm ((g4.k0 cz).k0 cf) 4 0 rfl rfl rfl ch).k0 bs).k0 bh) 8 0 rfl rfl rfl bj).k0 bt).k0 cj)
 refine L_pu (P_lda ag28 sz28 cL ⟨aa, 0, none⟩ [vs r4.Id, vi r4.Shape.Kind, .slice af a7 a8, .slice ac a4 a5] rfl rfl (hk.cells (off := 0) rfl)) (L_rb c2 rfl ?_)
 have qy := (((bi.sw (((cg.sw ((e2.sos cz d8).so _ cf (oge dc)) 5 0 rfl rfl rfl ch).sos bs cl).so _ bh (oge b8)) 9 0 rfl rfl rfl bj).sn bt).sn cj)
 have qz := ef.gv qy 9 rfl
 have hl := ef.drop 9 rfl
 have q0 := (ef.sd (((bi.sw (((cg.sw ((fu.sos cz d8).so _ cf (oge dc)) 6 0 rfl rfl rfl ch).sos bs cl).so _ bh (oge b8)) 10 0 rfl rfl rfl bj).sn bt).sn cj) 10 9 rfl rfl rfl)
 have q1 := hl.gv q0 9 rfl
 have q2 := hl.drop 9 rfl
 have q3 := hl.std 9 rfl
 refine L_call go12 [.agg #[vs r4.Id, vi r4.Shape.Kind, .slice af a7 a8, .slice ac a4 a5]] rfl ((F70.calls qt q2.ok r4 af a7 a8 ac a4 a5 h4 (qz.st q3) q1 _ H).mono ?_)
 rintro _ q4 ⟨r22, rfl, H, c4⟩
 have fj := ef.k0 c4
 refine L_rb c2 rfl (L_pu (P_not r22 rfl) (L_pu (P_pick false (vb (!r22)) (by exact congrArg Value.bool c2) rfl) (L_nil ?_)))
 refine W_cond (!r22) rfl (fun hm => ?_) (fun hm => ?_)
 ·have H := ite_t H hm
  refine W_seq ?_
  have q5 : ([some b7, bk be, bk bf, bk bn, some b6, bk a9, bk ba, bk bg, some aa, bk af, bk ac, bk ab, some ae, some ag, some ad] : Ob).Perm ((some b7 :: bk be :: bk bf :: bk bn :: some b6 :: bk a9 :: bk ba :: bk bg :: some aa :: bk af :: bk ac :: bk ab :: some ae :: some ag :: some ad :: []) ++ []) := (pc fun a => by (try simp only [pca, pcc, pcn, Nat.add_zero, Nat.zero_add]); first | done | ac_rfl)
  have q6 := fj.drops q5
  exact W_reg (L_as (vb false) rfl (L_nil (W_ret ⟨[vb false], ⟨_, rfl, rfl⟩, false, rfl, H, q6.gr.g0⟩)))
 have H := ite_f H hm
 refine W_skip (W_seq ?_)
 have dx : ([some b7, bk be, bk bf, bk bn, some b6, bk a9, bk ba, bk bg, some aa, bk af, bk ac, bk ab, some ae, some ag, some ad] : Ob).Perm ((some b7 :: bk be :: bk bf :: bk bn :: some b6 :: bk a9 :: bk ba :: bk bg :: []) ++ [some aa, bk af, bk ac, bk ab, some ae, some ag, some ad]) := (pc fun a => by (try simp only [pca, pcc, pcn, Nat.add_zero, Nat.zero_add]); first | done | ac_rfl)
 have f8 := fj.drops dx
 refine W_reg (L_pu (P_fa fa28_1 ⟨ag, 0, none⟩ ⟨ag, 1, none⟩ rfl rfl) ?_)
 have q7 := (((jw.k0 bt).k0 cj).k0 c4)
 refine L_pu (P_lda ag25 sz25 cL ⟨ag, 1, none⟩ [vi r2.Shape.Kind, .slice ar au av] rfl rfl (q7.cells (off := 1) rfl)) (L_pu (P_fa fa28_1 ⟨ad, 0, none⟩ ⟨ad, 1, none⟩ rfl rfl) ?_)
 have q8 := ((((bi.bm ((hd.k0 bs).k0 bh) 14 0 rfl rfl rfl bj).k0 bt).k0 cj).k0 c4)
 refine L_pu (P_lda ag25 sz25 cL ⟨ad, 1, none⟩ [vi r.Shape.Kind, .slice ai aj ak] rfl rfl (q8.cells (off := 1) rfl)) ?_
 have f9 := fi.stos bs cl
 have ga := f7.stown _ bh (oge b8)
 have gb := bi.stw 0 rfl bj
 have gc := ee.stn bt
 have gd := dw.stn cj
 have ge := ef.stn c4
 have q9 := ((((((((((d4.st d9).st ea).st eb).st f9).st ga).st gb).st gc).st gd).st ge).st (St.drops _ O dx))
 have ra := (((((((he.st f9).st ga).st gb).st gc).st gd).st ge).st (St.drops _ O dx))
 refine L_call go13 [.agg #[vi r2.Shape.Kind, .slice ar au av], .agg #[vi r.Shape.Kind, .slice ai aj ak]] rfl ((F25.calls q4 f8.ok r2.Shape ar au av q9 r.Shape ai aj ak ra _ H).mono ?_)
 rintro _ j8 ⟨r23, rfl, H, dd⟩
 have de := f8.k0 dd
 refine L_pu (P_not r23 rfl) (L_mv (vb (!r23)) rfl ?_)
 rcases bool_or (!r23) with bu | bu
 ·have H := ite_t H bu
  refine L_pb bu rfl (L_pb bu rfl (L_pb bu rfl (L_pb bu rfl (L_pn rfl (L_pn rfl (L_pn rfl (L_pn rfl (L_pb bu rfl ?_))))))))
  refine L_pu (P_pick true (vb true) (by exact congrArg Value.bool bu) rfl) (L_mv (vb true) rfl (L_pass (dj := 215) rfl rfl (.inl rfl) (L_pass (dj := 215) rfl rfl (.inl rfl) (L_pass (dj := 215) rfl rfl (.inl rfl) (L_pass (dj := 215) rfl rfl (.inl rfl) (L_pass (dj := 215) rfl rfl (.inl rfl) (L_pu (P_pick true (vb true) (by exact congrArg Value.bool rfl) rfl) (L_as (vb true) rfl ?_))))))))
  refine L_nil (W_ret ?_)
  have rb := de.clear
  exact ⟨[vb true], ⟨_, rfl, rfl⟩, true, rfl, H, rb.gr.g0⟩
 have H := ite_f H bu
 refine L_rb bu rfl (L_mv (.slice ab a2 a3) rfl (L_rb bu rfl ?_))
 have gf := ((fj.odr ((((bi.sw (((cg.sw ((ft.sos cz d8).so _ cf (oge dc)) 7 0 rfl rfl rfl ch).sos bs cl).so _ bh (oge b8)) 11 0 rfl rfl rfl bj).sn bt).sn cj).sn c4) dx 3 rfl).sn dd)
 have tn := gf.le
 refine L_pu (P_len Try.underlying31 ab a2 a3 gf.len rfl) (L_rb bu rfl (L_pu (P_cmp (r5.length : Int) 0 (decide ((r5.length : Int) > 0)) rfl rfl rfl) (L_rb bu rfl (L_mv (vb (decide ((r5.length : Int) > 0))) rfl ?_))))
 rcases bool_or (decide ((r5.length : Int) > 0)) with ck | ck
 ·have H := ite_t H ck
  refine L_rb ck rfl (L_mv (.slice ab a2 a3) rfl (L_rb ck rfl ?_))
  obtain ⟨j9, H⟩ := H
  obtain ⟨ka, tp, rc, rd, re⟩ := gf.get default (by decide) 0 j9
  obtain ⟨rfl, tq⟩ := Kd.str.op rd
  refine L_pu (P_ia Try.underlying31 se31 ab ka a2 a3 gf.len 0 rfl rc rfl j9) (L_rb ck rfl (L_pu (P_ld ag9 cL (ka.add ((0 : Int).toNat * 1)) (vs (nth r5 0)) rfl (re 0 _ rfl)) (L_rb ck rfl (L_pu (P_scmp (nth r5 0) ([109, 117, 99, 104] : Str) ((nth r5 0) == ([109, 117, 99, 104] : Str)) rfl rfl rfl) (L_rb bu rfl (L_pu (P_pick true (vb ((nth r5 0) == ([109, 117, 99, 104] : Str))) (by exact congrArg Value.bool ck) rfl) (L_pu (P_pick false (vb ((nth r5 0) == ([109, 117, 99, 104] : Str))) (by exact congrArg Value.bool bu) rfl) (L_mv (vb ((nth r5 0) == ([109, 117, 99, 104] : Str))) rfl ?_))))))))
  rcases bool_or ((nth r5 0) == ([109, 117, 99, 104] : Str)) with b9 | b9
  ·have H := ite_t H b9
   refine L_pb b9 rfl (L_pb b9 rfl (L_pb b9 rfl (L_pb b9 rfl (L_pb b9 rfl (L_pu (P_pick true (vb true) (by exact congrArg Value.bool b9) rfl) (L_as (vb true) rfl (L_nil (W_ret ?_))))))))
   have rf := de.clear
   exact ⟨[vb true], ⟨_, rfl, rfl⟩, true, rfl, H, rf.gr.g0⟩
  have H := ite_f H b9
  refine L_rb b9 rfl (L_pu (P_fa fa28_1 ⟨aa, 0, none⟩ ⟨aa, 1, none⟩ rfl rfl) (L_rb b9 rfl ?_))
  have rg := ((hk.k0 c4).k0 dd)
  refine L_pu (P_lda ag25 sz25 cL ⟨aa, 1, none⟩ [vi r4.Shape.Kind, .slice af a7 a8] rfl rfl (rg.cells (off := 1) rfl)) (L_rb b9 rfl (L_pu (P_fa fa28_1 ⟨ae, 0, none⟩ ⟨ae, 1, none⟩ rfl rfl) (L_rb b9 rfl ?_)))
  have rh := (((hh.k0 cj).k0 c4).k0 dd)
  refine L_pu (P_lda ag25 sz25 cL ⟨ae, 1, none⟩ [vi r3.Shape.Kind, .slice al am an] rfl rfl (rh.cells (off := 1) rfl)) (L_rb b9 rfl ?_)
  have ri := ((fj.odr ((((bi.sw (((cg.sw ((e2.sos cz d8).so _ cf (oge dc)) 5 0 rfl rfl rfl ch).sos bs cl).so _ bh (oge b8)) 9 0 rfl rfl rfl bj).sn bt).sn cj).sn c4) dx 1 rfl).sn dd)
  have rj := de.gv ri 1 rfl
  have rk := de.drop 1 rfl
  have rl := f8.stn dd
  have rm := de.std 1 rfl
  have rn := (((((((((f6.st f9).st ga).st gb).st gc).st gd).st ge).st (St.drops _ O dx)).st rl).st rm)
  refine L_call go13 [.agg #[vi r4.Shape.Kind, .slice af a7 a8], .agg #[vi r3.Shape.Kind, .slice al am an]] rfl ((F25.calls j8 rk.ok r4.Shape af a7 a8 rj r3.Shape al am an rn _ H).mono ?_)
  rintro _ tr ⟨r24, rfl, H, ro⟩
  have rp := de.k0 ro
  refine L_pu (P_pick false (vb r24) (by exact congrArg Value.bool b9) rfl) (L_as (vb r24) rfl (L_nil (W_ret ?_)))
  have rq := rp.clear
  exact ⟨[vb r24], ⟨_, rfl, rfl⟩, r24, rfl, H, rq.gr.g0⟩
 have H := ite_f H ck
 refine L_pb ck rfl (L_pb ck rfl (L_pb ck rfl (L_pb ck rfl (L_rb bu rfl (L_pu (P_pick false (vb false) (by exact congrArg Value.bool ck) rfl) (L_pu (P_pick false (vb false) (by exact congrArg Value.bool bu) rfl) (L_mv (vb false) rfl (L_run (dj := 215) rfl rfl rfl ?_))))))))
 refine L_pu (P_fa fa28_1 ⟨aa, 0, none⟩ ⟨aa, 1, none⟩ rfl rfl) (L_run (dj := 215) rfl rfl rfl ?_)
 have rr := ((hk.k0 c4).k0 dd)
 refine L_pu (P_lda ag25 sz25 cL ⟨aa, 1, none⟩ [vi r4.Shape.Kind, .slice af a7 a8] rfl rfl (rr.cells (off := 1) rfl)) (L_run (dj := 215) rfl rfl rfl (L_pu (P_fa fa28_1 ⟨ae, 0, none⟩ ⟨ae, 1, none⟩ rfl rfl) (L_run (dj := 215) rfl rfl rfl ?_)))
 have rs := (((hh.k0 cj).k0 c4).k0 dd)
 refine L_pu (P_lda ag25 sz25 cL ⟨ae, 1, none⟩ [vi r3.Shape.Kind, .slice al am an] rfl rfl (rs.cells (off := 1) rfl)) (L_run (dj := 215) rfl rfl rfl ?_)
 have rt := ((fj.odr ((((bi.sw (((cg.sw ((e2.sos cz d8).so _ cf (oge dc)) 5 0 rfl rfl rfl ch).sos bs cl).so _ bh (oge b8)) 9 0 rfl rfl rfl bj).sn bt).sn cj).sn c4) dx 1 rfl).sn dd)
 have ru := de.gv rt 1 rfl
 have rv := de.drop 1 rfl
 have rw := f8.stn dd
 have rx := de.std 1 rfl
 have ry := (((((((((f6.st f9).st ga).st gb).st gc).st gd).st ge).st (St.drops _ O dx)).st rw).st rx)
 refine L_call go13 [.agg #[vi r4.Shape.Kind, .slice af a7 a8], .agg #[vi r3.Shape.Kind, .slice al am an]] rfl ((F25.calls j8 rv.ok r4.Shape af a7 a8 ru r3.Shape al am an ry _ H).mono ?_)
 rintro _ ts ⟨r25, rfl, H, rz⟩
 have r1 := de.k0 rz
 refine L_pu (P_pick false (vb r25) (by exact congrArg Value.bool rfl) rfl) (L_as (vb r25) rfl (L_nil (W_ret ?_)))
 have sa := r1.clear
 exact ⟨[vb r25], ⟨_, rfl, rfl⟩, r25, rfl, H, sa.gr.g0⟩
end
theorem F44.law (code : List UInt8) (Q : List UInt8 → Int → Prop) (hq : ∀ b, b.length ≤ 2000 → Q b 0) : F44.E code Q := by
 unfold F44.E
 by_cases h : (code.length : Int) > 2000
 ·rw [if_pos (by simpa using h)]
  exact ⟨by omega, hq _ (by rw [List.length_take]; omega)⟩
 ·rw [if_neg (by simpa using h)]
  exact hq _ (by omega)
theorem ediv_le {p l : Int} (hp : 0 ≤ p) (hl : 0 < l) : 0 ≤ p / l ∧ p / l ≤ p := ⟨Int.ediv_nonneg hp (by omega), Int.ediv_le_self _ hp⟩
theorem F15.law (b : List UInt8) (p n : Int) (Q : Int → Int → Prop) (hb : b.length ≤ 2000) (hp : 0 ≤ p) (hp1 : p ≤ 1099511627776) (hq : ∀ v, 0 ≤ v → (v < n ∨ v = 0) → Q v (p + 1)) : F15.E b p n Q := by
 unfold F15.E
 refine ⟨by unfold I64; omega, ?_⟩
 by_cases hn : n < 1
 ·rw [if_pos (by simpa using hn)]; exact hq 0 (by omega) (.inr rfl)
 rw [if_neg (by simpa using hn)]
 by_cases hl : (b.length : Int) = 0
 ·rw [if_pos (by simpa using hl)]; exact hq 0 (by omega) (.inr rfl)
 rw [if_neg (by simpa using hl)]
 refine ⟨fun _ => by unfold I64; omega, ?_⟩
 rw [show p + 1 - 1 = p by omega]
 have fin : ∀ z : Int, 0 ≤ z → Q (z % n) (p + 1) := fun z hz => hq _ (Int.emod_nonneg _ (by omega)) (.inl (Int.emod_lt_of_pos _ (by omega)))
 by_cases hc : p < (b.length : Int)
 ·rw [if_pos (by simpa using hc)]
  exact ⟨by omega, ⟨by omega, by omega⟩, fin _ (by omega)⟩
 rw [if_neg (by simpa using hc)]
 have hlen : (0 : Int) < (b.length : Int) := by omega
 generalize hL : (b.length : Int) = L at *
 have m1 := Int.emod_nonneg p (show L ≠ 0 by omega)
 have m2 := Int.emod_lt_of_pos p hlen
 have m3 := Int.emod_nonneg (p * 7 + 3) (show L ≠ 0 by omega)
 have m4 := Int.emod_lt_of_pos (p * 7 + 3) hlen
 obtain ⟨d1, d2⟩ := ediv_le hp hlen
 generalize p % L = r1 at *
 generalize (p * 7 + 3) % L = r2 at *
 generalize p / L = q at *
 have u1 := (nth b r1).toNat_lt
 have u2 := (nth b r2).toNat_lt
 generalize (nth b r1).toNat = x1 at *
 generalize (nth b r2).toNat = x2 at *
 have s0 : 0 ≤ (x1 : Int) * 131 + (x2 : Int) * 1117 + p * 29 + q * 53 := by omega
 have s1 : (x1 : Int) * 131 + (x2 : Int) * 1117 + p * 29 + q * 53 ≤ 9223372036854775807 := by omega
 refine ⟨by omega, by omega, fun _ => by unfold I64; omega, fun _ => by unfold I64; omega, fun _ => by unfold I64; omega, by omega, by omega, fun _ => by unfold I64; omega, fun _ => by unfold I64; omega, fun _ => by unfold I64; omega, fun _ => by unfold I64; omega, by omega, fun _ => by unfold I64; omega, fun _ => by unfold I64; omega, by omega, ?_⟩
 generalize (x1 : Int) * 131 + (x2 : Int) * 1117 + p * 29 + q * 53 = s at *
 have hx : 0 ≤ xor64 s (s / 64) := xor64_nonneg ⟨s0, s1⟩ (by omega)
 exact ⟨by omega, fin _ hx⟩
section
section
variable {α : Type} [DecidableEq α]
def lcsR (x : α) (p : List α → Nat) : List α → Nat
  | [] => 0
  | y :: b => if x = y then p b + 1 else max (p (y :: b)) (lcsR x p b)
def lcs : List α → List α → Nat
  | [] => fun _ => 0
  | x :: a => lcsR x (lcs a)
@[simp] theorem lcs_nil (b : List α) : lcs [] b = 0 := rfl
@[simp] theorem lcs_nil2 (a : List α) : lcs a [] = 0 := by cases a <;> rfl
theorem lcs_cons (x y : α) (a b : List α) : lcs (x :: a) (y :: b) = if x = y then lcs a b + 1 else max (lcs a (y :: b)) (lcs (x :: a) b) := rfl
theorem lcs_sub (a b : List α) : ∃ s : List α, s.Sublist a ∧ s.Sublist b ∧ s.length = lcs a b := by
  induction a generalizing b with
  | nil => exact ⟨[], List.nil_sublist _, List.nil_sublist _, rfl⟩
  | cons x a ih =>
    induction b with
    | nil => exact ⟨[], List.nil_sublist _, List.nil_sublist _, rfl⟩
    | cons y b ihb =>
      rw [lcs_cons]
      by_cases h : x = y
      · subst h
        obtain ⟨s, h1, h2, h3⟩ := ih b
        exact ⟨x :: s, h1.cons_cons x, h2.cons_cons x, by rw [if_pos rfl, ← h3]; rfl⟩
      · rw [if_neg h]
        by_cases hm : lcs (x :: a) b ≤ lcs a (y :: b)
        · obtain ⟨s, h1, h2, h3⟩ := ih (y :: b)
          exact ⟨s, h1.cons x, h2, by omega⟩
        · obtain ⟨s, h1, h2, h3⟩ := ihb
          exact ⟨s, h1, h2.cons y, by omega⟩
theorem lcs_le1 (a b : List α) : lcs a b ≤ a.length := by
  obtain ⟨s, h1, h2, h3⟩ := lcs_sub a b; rw [← h3]; exact h1.length_le
theorem lcs_le2 (a b : List α) : lcs a b ≤ b.length := by
  obtain ⟨s, h1, h2, h3⟩ := lcs_sub a b; rw [← h3]; exact h2.length_le
theorem pp {a b c d : Nat} (h : a = c) (k : b = d) : (a, b) = (c, d) := by rw [h, k]
def pairs (i j : Nat) : List α → List α → List (Nat × Nat)
  | x :: a, y :: b => if x = y then (i, j) :: pairs (i + 1) (j + 1) a b else if lcs (x :: a) b ≤ lcs a (y :: b) then pairs (i + 1) j a (y :: b) else pairs i (j + 1) (x :: a) b
  | [], _ => []
  | _ :: _, [] => []
  termination_by a b => a.length + b.length
theorem pairs_nil (i j : Nat) (b : List α) : pairs i j [] b = [] := by rw [pairs]
theorem pairs_nil2 (i j : Nat) (a : List α) : pairs i j a [] = [] := by cases a <;> rw [pairs]
theorem pairs_cons (i j : Nat) (x y : α) (a b : List α) : pairs i j (x :: a) (y :: b) = if x = y then (i, j) :: pairs (i + 1) (j + 1) a b else if lcs (x :: a) b ≤ lcs a (y :: b) then pairs (i + 1) j a (y :: b) else pairs i (j + 1) (x :: a) b := by rw [pairs]
theorem pairs_ind {C : Nat → Nat → List α → List α → Prop} (h0 : ∀ i j b, C i j [] b) (h1 : ∀ i j a, C i j a [])
    (he : ∀ i j x a b, C (i + 1) (j + 1) a b → C i j (x :: a) (x :: b))
    (ha : ∀ i j x y a b, x ≠ y → lcs (x :: a) b ≤ lcs a (y :: b) → C (i + 1) j a (y :: b) → C i j (x :: a) (y :: b))
    (hb : ∀ i j x y a b, x ≠ y → ¬ lcs (x :: a) b ≤ lcs a (y :: b) → C i (j + 1) (x :: a) b → C i j (x :: a) (y :: b)) : ∀ i j (a b : List α), C i j a b := by
  have : ∀ n i j (a b : List α), a.length + b.length ≤ n → C i j a b := by
    intro n
    induction n with
    | zero => intro i j a b h; cases a with
      | nil => exact h0 _ _ _
      | cons _ _ => simp at h
    | succ n ih =>
      intro i j a b h
      cases a with
      | nil => exact h0 _ _ _
      | cons x a => cases b with
        | nil => exact h1 _ _ _
        | cons y b =>
          simp only [List.length_cons] at h
          by_cases e : x = y
          · subst e; exact he _ _ _ _ _ (ih _ _ _ _ (by omega))
          · by_cases l : lcs (x :: a) b ≤ lcs a (y :: b)
            · exact ha _ _ _ _ _ _ e l (ih _ _ _ _ (by simp only [List.length_cons]; omega))
            · exact hb _ _ _ _ _ _ e l (ih _ _ _ _ (by simp only [List.length_cons]; omega))
  exact fun i j a b => this _ i j a b (Nat.le_refl _)
theorem pairs_len (i j : Nat) (a b : List α) : (pairs i j a b).length = lcs a b := by
  refine pairs_ind (C := fun i j a b => (pairs i j a b).length = lcs a b) ?_ ?_ ?_ ?_ ?_ i j a b
  · intros; rw [pairs_nil]; rfl
  · intros; rw [pairs_nil2, lcs_nil2]; rfl
  · intro i j x a b h; rw [pairs_cons, if_pos rfl, lcs_cons, if_pos rfl, List.length_cons, h]
  · intro i j x y a b e l h; rw [pairs_cons, if_neg e, if_pos l, lcs_cons, if_neg e, h]; exact (Nat.max_eq_left l).symm
  · intro i j x y a b e l h; rw [pairs_cons, if_neg e, if_neg l, lcs_cons, if_neg e, h]; exact (Nat.max_eq_right (by omega)).symm
theorem pairs_mem (i j : Nat) (a b : List α) : ∀ p ∈ pairs i j a b, ∃ k l, p = (i + k, j + l) ∧ ∃ x, a[k]? = some x ∧ b[l]? = some x := by
  refine pairs_ind (C := fun i j a b => ∀ p ∈ pairs i j a b, ∃ k l, p = (i + k, j + l) ∧ ∃ x, a[k]? = some x ∧ b[l]? = some x) ?_ ?_ ?_ ?_ ?_ i j a b
  · intro i j b p h; rw [pairs_nil] at h; cases h
  · intro i j a p h; rw [pairs_nil2] at h; cases h
  · intro i j x a b ih p h
    rw [pairs_cons, if_pos rfl] at h
    rcases List.mem_cons.1 h with rfl | h
    · exact ⟨0, 0, rfl, x, rfl, rfl⟩
    · obtain ⟨k, l, rfl, z, h1, h2⟩ := ih p h
      exact ⟨k + 1, l + 1, pp (by omega) (by omega), z, h1, h2⟩
  · intro i j x y a b e l ih p h
    rw [pairs_cons, if_neg e, if_pos l] at h
    obtain ⟨k, l, rfl, z, h1, h2⟩ := ih p h
    exact ⟨k + 1, l, pp (by omega) (by omega), z, h1, h2⟩
  · intro i j x y a b e l ih p h
    rw [pairs_cons, if_neg e, if_neg l] at h
    obtain ⟨k, l, rfl, z, h1, h2⟩ := ih p h
    exact ⟨k, l + 1, pp (by omega) (by omega), z, h1, h2⟩
theorem pairs_ord (i j : Nat) (a b : List α) : (pairs i j a b).Pairwise (fun p q => p.1 < q.1 ∧ p.2 < q.2) := by
  refine pairs_ind (C := fun i j a b => (pairs i j a b).Pairwise (fun p q => p.1 < q.1 ∧ p.2 < q.2)) ?_ ?_ ?_ ?_ ?_ i j a b
  · intros; rw [pairs_nil]; exact List.Pairwise.nil
  · intros; rw [pairs_nil2]; exact List.Pairwise.nil
  · intro i j x a b h; rw [pairs_cons, if_pos rfl]
    refine List.Pairwise.cons (fun p hp => ?_) h
    obtain ⟨k, l, rfl, _⟩ := pairs_mem _ _ _ _ p hp
    exact ⟨by dsimp only; omega, by dsimp only; omega⟩
  · intro i j x y a b e l h; rw [pairs_cons, if_neg e, if_pos l]; exact h
  · intro i j x y a b e l h; rw [pairs_cons, if_neg e, if_neg l]; exact h
end
section
variable {α : Type} [Inhabited α]
theorem nth_set (l : List α) {k : Nat} (h : k < l.length) (m : Nat) (v : α) : nth (l.set k v) (m : Int) = if m = k then v else nth l (m : Int) := by
  unfold nth
  rw [Int.toNat_natCast, List.getD_eq_getElem?_getD, List.getD_eq_getElem?_getD, List.getElem?_set]
  by_cases e : m = k
  · subst e; rw [if_pos rfl, if_pos rfl, if_pos h]; rfl
  · rw [if_neg (fun x => e x.symm), if_neg e]
theorem nth_rep (n m : Nat) (v : α) (h : m < n) : nth (List.replicate n v) (m : Int) = v := by
  rw [nth_nat _ (by simpa using h)]; simp
theorem drop_nth (l : List α) {k : Nat} (h : k < l.length) : l.drop k = nth l (k : Int) :: l.drop (k + 1) := by
  rw [nth_nat l h]; exact List.drop_eq_getElem_cons h
def seg (l : List α) (i j : Nat) : List α := (l.drop i).take (j - i)
theorem seg_len (l : List α) (i j : Nat) (h : j ≤ l.length) : (seg l i j).length = j - i := by
  unfold seg; rw [List.length_take, List.length_drop]; omega
theorem seg_end (l : List α) (i : Nat) : seg l i l.length = l.drop i := List.take_of_length_le (by simp)
theorem seg_app (l : List α) {i j : Nat} (h : i ≤ j) : seg l i j ++ l.drop j = l.drop i := by
  unfold seg
  have : l.drop j = (l.drop i).drop (j - i) := by rw [List.drop_drop]; congr 1; omega
  rw [this, List.take_append_drop]
variable [DecidableEq α]
theorem lcs_drop (a b : List α) {i j : Nat} (hi : i < a.length) (hj : j < b.length) : lcs (a.drop i) (b.drop j) = if nth a (i : Int) = nth b (j : Int) then lcs (a.drop (i + 1)) (b.drop (j + 1)) + 1 else max (lcs (a.drop (i + 1)) (b.drop j)) (lcs (a.drop i) (b.drop (j + 1))) := by
  rw [drop_nth a hi, drop_nth b hj, lcs_cons, ← drop_nth a hi, ← drop_nth b hj]
theorem pairs_drop (a b : List α) {i j : Nat} (hi : i < a.length) (hj : j < b.length) : pairs i j (a.drop i) (b.drop j) = if nth a (i : Int) = nth b (j : Int) then (i, j) :: pairs (i + 1) (j + 1) (a.drop (i + 1)) (b.drop (j + 1)) else if lcs (a.drop i) (b.drop (j + 1)) ≤ lcs (a.drop (i + 1)) (b.drop j) then pairs (i + 1) j (a.drop (i + 1)) (b.drop j) else pairs i (j + 1) (a.drop i) (b.drop (j + 1)) := by
  rw [drop_nth a hi, drop_nth b hj, pairs_cons, ← drop_nth a hi, ← drop_nth b hj]

def pickL (o a b : List α) : Option (List α) := if a = o then some b else if b = o then some a else if a = b then some a else none
theorem pickL_mem {o a b r : List α} (h : pickL o a b = some r) : (∀ z ∈ r, z ∈ a ∨ z ∈ b) ∧ (∀ z ∈ a, z ∈ o ∨ z ∈ r) ∧ (∀ z ∈ b, z ∈ o ∨ z ∈ r) ∧ r.length ≤ a.length + b.length := by
  unfold pickL at h
  by_cases h1 : a = o
  · rw [if_pos h1] at h; cases h; subst h1
    exact ⟨fun z hz => .inr hz, fun z hz => .inl hz, fun z hz => .inr hz, by omega⟩
  · rw [if_neg h1] at h
    by_cases h2 : b = o
    · rw [if_pos h2] at h; cases h; subst h2
      exact ⟨fun z hz => .inl hz, fun z hz => .inr hz, fun z hz => .inl hz, by omega⟩
    · rw [if_neg h2] at h
      by_cases h3 : a = b
      · rw [if_pos h3] at h; cases h; subst h3
        exact ⟨fun z hz => .inl hz, fun z hz => .inr hz, fun z hz => .inr hz, by omega⟩
      · rw [if_neg h3] at h; cases h
def mloop (o a b : List α) (f g : Nat → Option Nat) : Nat → Nat → Nat → Nat → Nat → Option (List α)
  | 0, _, i, j, k => pickL (o.drop i) (a.drop j) (b.drop k)
  | n + 1, at_, i, j, k => match f at_, g at_ with
    | some x, some y => (pickL (seg o i at_) (seg a j x) (seg b k y)).bind fun p => (mloop o a b f g n (at_ + 1) (at_ + 1) (x + 1) (y + 1)).map fun r => p ++ nth o (at_ : Int) :: r
    | _, _ => mloop o a b f g n (at_ + 1) i j k
theorem mloop_zero (o a b : List α) (f g : Nat → Option Nat) (t i j k : Nat) : mloop o a b f g 0 t i j k = pickL (o.drop i) (a.drop j) (b.drop k) := rfl
theorem mloop_some {o a b : List α} {f g : Nat → Option Nat} {n t i j k x y : Nat} (hf : f t = some x) (hg : g t = some y) : mloop o a b f g (n + 1) t i j k = (pickL (seg o i t) (seg a j x) (seg b k y)).bind fun p => (mloop o a b f g n (t + 1) (t + 1) (x + 1) (y + 1)).map fun r => p ++ nth o (t : Int) :: r := by
  rw [mloop, hf, hg]
theorem mloop_none {o a b : List α} {f g : Nat → Option Nat} {n t i j k : Nat} (h : f t = none ∨ g t = none) : mloop o a b f g (n + 1) t i j k = mloop o a b f g n (t + 1) i j k := by
  rw [mloop]
  rcases h with h | h
  · rw [h]
  · rw [h]; cases f t <;> rfl
structure Mates (o a : List α) (f : Nat → Option Nat) : Prop where
  lt : ∀ {t x}, f t = some x → t < o.length ∧ x < a.length
  eq : ∀ {t x}, f t = some x → nth o (t : Int) = nth a (x : Int)
  mono : ∀ {t x u y}, f t = some x → f u = some y → t < u → x < y
def From (f : Nat → Option Nat) (t j : Nat) : Prop := ∀ u x, t ≤ u → f u = some x → j ≤ x
theorem From.zero (f : Nat → Option Nat) (t : Nat) : From f t 0 := fun _ _ _ _ => Nat.zero_le _
theorem From.skip {f : Nat → Option Nat} {t j : Nat} (h : From f t j) : From f (t + 1) j := fun u x hu hx => h u x (by omega) hx
theorem From.step {o a : List α} {f : Nat → Option Nat} (m : Mates o a f) {t x : Nat} (h : f t = some x) : From f (t + 1) (x + 1) := fun u y hu hy => m.mono h hy (by omega)
theorem mem_seg {l : List α} {i j : Nat} {z : α} (h : z ∈ seg l i j) : z ∈ l := List.mem_of_mem_drop (List.mem_of_mem_take h)
theorem mem_split {l : List α} {i j : Nat} (hij : i ≤ j) (hj : j < l.length) {z : α} (h : z ∈ l.drop i) : z ∈ seg l i j ∨ z = nth l (j : Int) ∨ z ∈ l.drop (j + 1) := by
  rw [← seg_app l hij, drop_nth l hj] at h
  rcases List.mem_append.1 h with h | h
  · exact .inl h
  · rcases List.mem_cons.1 h with h | h
    · exact .inr (.inl h)
    · exact .inr (.inr h)
theorem mloop_keep {o a b : List α} {f g : Nat → Option Nat} (mf : Mates o a f) (mg : Mates o b g) (n t i j k : Nat) (hn : t + n = o.length) (hj : From f t j) (hk : From g t k) (r : List α) (h : mloop o a b f g n t i j k = some r) :
    (∀ z ∈ r, z ∈ a ∨ z ∈ b) ∧ (∀ z ∈ a.drop j, z ∈ o ∨ z ∈ r) ∧ (∀ z ∈ b.drop k, z ∈ o ∨ z ∈ r) ∧ r.length ≤ (a.drop j).length + (b.drop k).length := by
  induction n generalizing t i j k r with
  | zero =>
    rw [mloop_zero] at h
    obtain ⟨h1, h2, h3, h4⟩ := pickL_mem h
    exact ⟨fun z hz => (h1 z hz).imp List.mem_of_mem_drop List.mem_of_mem_drop, fun z hz => (h2 z hz).imp List.mem_of_mem_drop id, fun z hz => (h3 z hz).imp List.mem_of_mem_drop id, h4⟩
  | succ n ih =>
    cases hf : f t with
    | none => rw [mloop_none (.inl hf)] at h; exact ih _ _ _ _ (by omega) hj.skip hk.skip _ h
    | some x => cases hg : g t with
      | none => rw [mloop_none (.inr hg)] at h; exact ih _ _ _ _ (by omega) hj.skip hk.skip _ h
      | some y =>
        rw [mloop_some hf hg] at h
        cases hp : pickL (seg o i t) (seg a j x) (seg b k y) with
        | none => rw [hp] at h; cases h
        | some p =>
          rw [hp, Option.bind_some] at h
          cases hr : mloop o a b f g n (t + 1) (t + 1) (x + 1) (y + 1) with
          | none => rw [hr] at h; cases h
          | some q =>
            rw [hr, Option.map_some] at h; cases h
            obtain ⟨h1, h2, h3, h4⟩ := pickL_mem hp
            obtain ⟨g1, g2, g3, g4⟩ := ih _ _ _ _ (by omega) (.step mf hf) (.step mg hg) _ hr
            have hjx := hj t x (Nat.le_refl _) hf
            have hky := hk t y (Nat.le_refl _) hg
            have hx := (mf.lt hf).2
            have hy := (mg.lt hg).2
            have ex := mf.eq hf
            have ey := mg.eq hg
            refine ⟨fun z hz => ?_, fun z hz => ?_, fun z hz => ?_, ?_⟩
            · rcases List.mem_append.1 hz with hz | hz
              · exact (h1 z hz).imp mem_seg mem_seg
              · rcases List.mem_cons.1 hz with rfl | hz
                · rw [ex]; exact .inl (nth_mem a hx)
                · exact g1 z hz
            · rcases mem_split hjx hx hz with hz | rfl | hz
              · exact (h2 z hz).imp mem_seg (fun h => List.mem_append_left _ h)
              · exact .inr (List.mem_append_right _ (by rw [ex]; exact List.mem_cons_self))
              · exact (g2 z hz).imp id (fun h => List.mem_append_right _ (List.mem_cons_of_mem _ h))
            · rcases mem_split hky hy hz with hz | rfl | hz
              · exact (h3 z hz).imp mem_seg (fun h => List.mem_append_left _ h)
              · exact .inr (List.mem_append_right _ (by rw [ey]; exact List.mem_cons_self))
              · exact (g3 z hz).imp id (fun h => List.mem_append_right _ (List.mem_cons_of_mem _ h))
            · rw [seg_len a _ _ (by omega), seg_len b _ _ (by omega)] at h4
              simp only [List.length_append, List.length_cons, List.length_drop] at g4 ⊢
              omega
end
end
def few (a b : List Pt) : Bool := decide (a.length ≤ 12) && decide (b.length ≤ 12)
theorem few_iff {a b : List Pt} : few a b = true ↔ a.length ≤ 12 ∧ b.length ≤ 12 := by simp [few]
theorem few_not {a b : List Pt} : few a b = false ↔ ¬ (a.length ≤ 12 ∧ b.length ≤ 12) := by rw [← few_iff]; simp
def slen (a b : List Pt) : Int := if few a b then (lcs a b : Nat) else 0
def mkP (p : Nat × Nat) : Pair := ⟨p.1, p.2⟩
def spairs (a b : List Pt) : List Pair := if few a b then (pairs 0 0 a b).map mkP else []
theorem spairs_few {a b : List Pt} (h : few a b = true) : spairs a b = (pairs 0 0 a b).map mkP := by unfold spairs; rw [if_pos h]
theorem spairs_len (a b : List Pt) : ((spairs a b).length : Int) = slen a b := by
  unfold spairs slen
  by_cases h : few a b = true
  · rw [if_pos h, if_pos h, List.length_map, pairs_len]
  · rw [if_neg h, if_neg h]; rfl
theorem slen_le (a b : List Pt) : 0 ≤ slen a b ∧ slen a b ≤ a.length ∧ slen a b ≤ b.length ∧ slen a b ≤ 12 := by
  unfold slen
  by_cases h : few a b = true
  · have := few_iff.1 h
    have h1 := lcs_le1 a b; have h2 := lcs_le2 a b
    rw [if_pos h]; omega
  · rw [if_neg h]; omega
def RowOk (a b : List Pt) (i : Nat) (j : Nat) (xs : List Int) : Prop := xs.length = b.length + 1 ∧ ∀ m : Nat, j ≤ m → m ≤ b.length → nth xs (m : Int) = (lcs (a.drop i) (b.drop m) : Nat)
def Tab (a b : List Pt) (D : Nat → Nat → Prop) (t : List (List Int)) : Prop := t.length = a.length + 1 ∧ ∀ r : Nat, r ≤ a.length → (nth t (r : Int)).length = b.length + 1 ∧ ∀ m : Nat, m ≤ b.length → D r m → nth (nth t (r : Int)) (m : Int) = (lcs (a.drop r) (b.drop m) : Nat)
theorem Tab.set {a b : List Pt} {D : Nat → Nat → Prop} {t : List (List Int)} (h : Tab a b D t) {i j : Nat} (hi : i ≤ a.length) (hj : j ≤ b.length) {v : Int} (hv : v = (lcs (a.drop i) (b.drop j) : Nat)) {D' : Nat → Nat → Prop} (hD : ∀ r m, D' r m → D r m ∨ (r = i ∧ m = j)) :
    Tab a b D' (t.set i ((nth t (i : Int)).set j v)) := by
  obtain ⟨h1, h2⟩ := h
  refine ⟨by rw [List.length_set]; exact h1, fun r hr => ?_⟩
  rw [nth_set _ (by omega)]
  by_cases e : r = i
  · subst e
    rw [if_pos rfl]
    refine ⟨by rw [List.length_set]; exact (h2 r hr).1, fun m hm hd => ?_⟩
    rw [nth_set _ (by rw [(h2 r hr).1]; omega)]
    by_cases f : m = j
    · subst f; rw [if_pos rfl, hv]
    · rw [if_neg f]
      exact (h2 r hr).2 m hm ((hD r m hd).resolve_right fun x => f x.2)
  · rw [if_neg e]
    exact ⟨(h2 r hr).1, fun m hm hd => (h2 r hr).2 m hm ((hD r m hd).resolve_right fun x => e x.1)⟩
def mateI (l : List Pair) (k : Int) : Int := match l with
  | [] => -1
  | p :: l => if p.A == k then p.B else mateI l k
theorem mateI_nil (k : Int) : mateI [] k = -1 := rfl
theorem mateI_cons (p : Pair) (l : List Pair) (k : Int) : mateI (p :: l) k = if p.A == k then p.B else mateI l k := rfl
def mateN (l : List (Nat × Nat)) (k : Nat) : Option Nat := match l with
  | [] => none
  | p :: l => if p.1 = k then some p.2 else mateN l k
theorem mateI_mk (l : List (Nat × Nat)) (k : Nat) : mateI (l.map mkP) (k : Int) = match mateN l k with | some x => (x : Int) | none => -1 := by
  induction l with
  | nil => rfl
  | cons p l ih =>
    rw [List.map_cons, mateI_cons, mateN]
    by_cases h : p.1 = k
    · rw [if_pos (by simp [mkP, h]), if_pos h]; rfl
    · rw [if_neg (by simp [mkP]; omega), if_neg h, ih]
theorem mateN_mem {l : List (Nat × Nat)} {k x : Nat} (h : mateN l k = some x) : (k, x) ∈ l := by
  induction l with
  | nil => cases h
  | cons p l ih =>
    rw [mateN] at h
    by_cases e : p.1 = k
    · rw [if_pos e] at h; cases h; subst e; exact List.mem_cons_self
    · rw [if_neg e] at h; exact List.mem_cons_of_mem _ (ih h)
def part (o a : List Pt) : Nat → Option Nat := mateN (pairs 0 0 o a)
theorem part_mates (o a : List Pt) : Mates o a (part o a) := by
  have hm : ∀ {t x}, part o a t = some x → ∃ z, o[t]? = some z ∧ a[x]? = some z := fun {t x} h => by
    obtain ⟨k, l, e, z, h1, h2⟩ := pairs_mem 0 0 o a _ (mateN_mem h)
    rw [Nat.zero_add, Nat.zero_add] at e; cases e
    exact ⟨z, h1, h2⟩
  refine ⟨fun {t x} h => ?_, fun {t x} h => ?_, fun {t x u y} h1 h2 hu => ?_⟩
  · obtain ⟨z, h1, h2⟩ := hm h
    exact ⟨(List.getElem?_eq_some_iff.1 h1).1, (List.getElem?_eq_some_iff.1 h2).1⟩
  · obtain ⟨z, h1, h2⟩ := hm h
    obtain ⟨e1, e2⟩ := List.getElem?_eq_some_iff.1 h1
    obtain ⟨e3, e4⟩ := List.getElem?_eq_some_iff.1 h2
    rw [nth_nat _ e1, nth_nat _ e3, e2, e4]
  · have ho := pairs_ord 0 0 o a
    have m1 := mateN_mem h1; have m2 := mateN_mem h2
    generalize pairs 0 0 o a = l at ho m1 m2
    induction l with
    | nil => cases m1
    | cons p l ih =>
      obtain ⟨q1, q2⟩ := List.pairwise_cons.1 ho
      rcases List.mem_cons.1 m1 with e1 | n1
      · rcases List.mem_cons.1 m2 with e2 | n2
        · subst e1; cases e2; omega
        · subst e1; exact (q1 _ n2).2
      · rcases List.mem_cons.1 m2 with e2 | n2
        · subst e2; have := (q1 _ n1).1; dsimp only at this; omega
        · exact ih q2 n1 n2
def smerge (o a b : List Pt) : Option (List Pt) := if few o a && few o b then mloop o a b (part o a) (part o b) o.length 0 0 0 0 else none
theorem smerge_few {o a b : List Pt} (h1 : few o a = true) (h2 : few o b = true) : smerge o a b = mloop o a b (part o a) (part o b) o.length 0 0 0 0 := by unfold smerge; rw [h1, h2]; rfl
theorem smerge_not {o a b : List Pt} (h : few o a = false ∨ few o b = false) : smerge o a b = none := by
  unfold smerge; rcases h with h | h <;> rw [h] <;> simp
theorem smerge_keep {o a b r : List Pt} (h : smerge o a b = some r) : (∀ z ∈ r, z ∈ a ∨ z ∈ b) ∧ (∀ z ∈ a, z ∈ o ∨ z ∈ r) ∧ (∀ z ∈ b, z ∈ o ∨ z ∈ r) ∧ r.length ≤ a.length + b.length := by
  unfold smerge at h
  by_cases hf : (few o a && few o b) = true
  · rw [if_pos hf] at h
    exact mloop_keep (part_mates o a) (part_mates o b) _ _ _ _ _ (by omega) (From.zero _ _) (From.zero _ _) _ h
  · rw [if_neg hf] at h; cases h
theorem smerge_len {o a b r : List Pt} (h : smerge o a b = some r) : r.length ≤ 24 := by
  have h1 := (smerge_keep h).2.2.2
  unfold smerge at h
  by_cases hf : (few o a && few o b) = true
  · rw [Bool.and_eq_true, few_iff, few_iff] at hf; omega
  · rw [if_neg hf] at h; cases h
theorem F24.law (b : List UInt8) (p : Int) (l : List Int) (Q : Int → Int → Prop) (hb : b.length ≤ 2000) (hp : 0 ≤ p) (hp1 : p ≤ 1099511627776) (hl : 0 < l.length) (hq : ∀ s ∈ l, Q s (p + 1)) : F24.E b p l Q := by
 unfold F24.E
 exact F15.law _ _ _ _ hb hp hp1 fun v h0 h1 => ⟨by omega, hq _ (nth_memi l h0 (by omega))⟩
def allN (n : Nat) (c : Nat → Bool) : Bool := (List.range n).all c
theorem allN_true {n : Nat} {c : Nat → Bool} (h : ∀ j, j < n → c j = true) : allN n c = true := by
  unfold allN; rw [List.all_eq_true]; intro j hj; exact h j (List.mem_range.1 hj)
theorem allN_false {n k : Nat} {c : Nat → Bool} (hk : k < n) (h : c k = false) : allN n c = false := by
  unfold allN
  rw [Bool.eq_false_iff]; intro ha
  rw [List.all_eq_true] at ha
  rw [ha k (List.mem_range.2 hk)] at h; cases h
theorem allN_iff {n : Nat} {c : Nat → Bool} : allN n c = true ↔ ∀ j, j < n → c j = true := by
  unfold allN; rw [List.all_eq_true]; exact ⟨fun h j hj => h j (List.mem_range.2 hj), fun h j hj => h j (List.mem_range.1 hj)⟩
theorem loop_all (n : Nat) (c : Nat → Bool) {B : (Int → Prop) → (Int → Nat) → Int → Prop} {F : Prop}
    (hs : ∀ (I : Int → Prop) (mu : Int → Nat) (k : Nat), k < n → (∀ j, j < k → c j = true) → (c k = true → I ((k : Int) + 1) ∧ mu ((k : Int) + 1) < mu (k : Int)) → B I mu (k : Int))
    (hF : (∀ j, j < n → c j = true) → F) :
    ∃ (I : Int → Prop) (mu : Int → Nat), I 0 ∧ ∀ (i : Int), I i → (if decide (i < (n : Int)) then B I mu i else F) := by
  refine ⟨fun i => ∃ k : Nat, i = k ∧ k ≤ n ∧ ∀ j, j < k → c j = true, fun i => ((n : Int) - i).toNat, ⟨0, rfl, Nat.zero_le _, fun j hj => absurd hj (Nat.not_lt_zero _)⟩, ?_⟩
  rintro _ ⟨k, rfl, hk, ha⟩
  by_cases h : (k : Int) < (n : Int)
  · rw [if_pos (by simpa using h)]
    refine hs _ _ k (by omega) ha fun hc => ⟨⟨k + 1, by omega, by omega, fun j hj => ?_⟩, by omega⟩
    by_cases e : j = k
    · subst e; exact hc
    · exact ha j (by omega)
  · rw [if_neg (by simpa using h)]
    exact hF fun j hj => ha j (by omega)
theorem less_irr : ∀ a : Str, Op.bytesLess a a = false
  | [] => rfl
  | x :: a => by rw [Op.bytesLess]; simp [less_irr a]
theorem less_tri : ∀ a b : Str, (!(Op.bytesLess a b)) = (Op.bytesLess b a || b == a)
  | [], [] => rfl
  | [], y :: b => rfl
  | x :: a, [] => rfl
  | x :: a, y :: b => by
    rw [Op.bytesLess, Op.bytesLess]
    have h := less_tri a b
    by_cases h1 : x < y
    · have h2 : ¬ y < x := fun h => absurd (UInt8.lt_trans h1 h) (UInt8.lt_irrefl _)
      have h3 : ¬ y = x := fun e => by subst e; exact UInt8.lt_irrefl _ h1
      simp [h1, h2, h3]
    · by_cases h2 : y < x
      · have h3 : ¬ x = y := fun e => by subst e; exact UInt8.lt_irrefl _ h2
        simp [h1, h2, h3]
      · have h3 : x = y := UInt8.le_antisymm (UInt8.not_lt.1 h2) (UInt8.not_lt.1 h1)
        subst h3
        simp only [h1, decide_false, Bool.false_or, beq_self_eq_true, Bool.true_and]
        rw [h]
        congr 1
        rw [Bool.eq_iff_iff, beq_iff_eq, beq_iff_eq]
        simp
def byteOk (b : UInt8) : Bool := !(decide ((b.toNat : Int) < 97)) && !(decide ((b.toNat : Int) > 122))
def wordOk (s : Str) : Bool := allN s.length (fun k => byteOk (nth s (k : Int))) && (decide (1 ≤ s.length) && decide (s.length ≤ 6))
def inR (x : Int) : Bool := decide (-1000 ≤ x) && decide (x ≤ 1000)
def ptOk (p : Pt) : Bool := inR p.X && inR p.Y
def ptsOk (p : List Pt) : Bool := allN p.length fun k => ptOk (nth p (k : Int)) && (decide (k = 0) || !(decide (nth p ((k : Int) - 1) = nth p (k : Int))))
def kindOk (kind : Int) (p : List Pt) : Bool :=
  if kind = 1 then decide (p.length = 1) else if kind = 2 then decide (2 ≤ p.length) && decide (p.length ≤ 6)
  else if kind = 3 then decide (3 ≤ p.length) && decide (p.length ≤ 6) && !(decide (nth p 0 = nth p ((p.length : Int) - 1))) else false
def shapeOk (s : Shape) : Bool := ptsOk s.Pts && kindOk s.Kind s.Pts
def tagsOk (t : List Tag) : Bool := allN t.length fun k => wordOk (nth t (k : Int)).Key && wordOk (nth t (k : Int)).Val && (decide (k = 0) || Op.bytesLess (nth t ((k : Int) - 1)).Key (nth t (k : Int)).Key)
def featOk (f : Feat) : Bool := tagsOk f.Tags && decide (f.Tags.length ≤ 4) && wordOk f.Id && shapeOk f.Shape
def noF (f : Feat) : Bool := decide (f = ⟨[], ⟨0, []⟩, []⟩)
def sideOk (id : Str) (has : Bool) (f : Feat) : Bool := if has then featOk f && decide (f.Id = id) else noF f
def sameC (c : Change) : Bool := decide (c.Had = c.Has) && decide (c.Was = c.Now)
def changeOk (c : Change) : Bool := wordOk c.Id && sideOk c.Id c.Had c.Was && sideOk c.Id c.Has c.Now && !(sameC c)
def sheetOk (s : List Feat) : Bool := allN s.length (fun k => featOk (nth s (k : Int)) && (decide (k = 0) || Op.bytesLess (nth s ((k : Int) - 1)).Id (nth s (k : Int)).Id)) && decide (s.length ≤ 8)
theorem Feat.ext_iff' (a b : Feat) : a = b ↔ a.Id = b.Id ∧ a.Shape = b.Shape ∧ a.Tags = b.Tags := by cases a; cases b; simp
theorem Shape.ext_iff' (a b : Shape) : a = b ↔ a.Kind = b.Kind ∧ a.Pts = b.Pts := by cases a; cases b; simp
theorem F105.law (b : List UInt8) (p : Int) (Q : Pt → Int → Prop) (hb : b.length ≤ 2000) (hp : 0 ≤ p) (hp1 : p ≤ 1000000000) (hq : ∀ x y, 0 ≤ x → x ≤ 3 → 0 ≤ y → y ≤ 5 → Q ⟨x, y⟩ (p + 2)) : F105.E b p Q := by
 unfold F105.E
 refine F15.law _ _ _ _ hb hp (by omega) fun v h0 h1 => F24.law _ _ _ _ hb (by omega) (by omega) (by decide) fun y hy => ?_
 rw [show p + 1 + 1 = p + 2 by omega]
 simp only [List.mem_cons, List.not_mem_nil, or_false] at hy
 exact hq _ _ h0 (by omega) (by omega) (by omega)
theorem F91.m_is (a b : Int) : F91.m a b = min a b := by
 unfold F91.m
 by_cases h : a < b
 ·simp [h]; omega
 ·simp [h]; omega
theorem F92.m_is (n : Int) : F92.m n = inR n := by
 unfold F92.m inR
 by_cases h : -1000 ≤ n
 ·rw [if_pos (by rw [decide_eq_true_eq]; omega), decide_eq_true h, Bool.true_and]
 ·rw [if_neg (by rw [decide_eq_true_eq]; omega), decide_eq_false h, Bool.false_and]
theorem F93.law (p : List Pt) (Q : Bool → Prop) (hq : Q (ptsOk p && decide (p.length ≤ 6))) : F93.E p Q := by
 unfold F93.E
 unfold ptsOk at hq
 refine loop_all p.length (fun k => ptOk (nth p (k : Int)) && (decide (k = 0) || !(decide (nth p ((k : Int) - 1) = nth p (k : Int))))) (fun I mu k hk hp hn => ?_) (fun ha => ?_)
 ·refine ⟨by omega, ?_⟩
  rw [F92.m_is, F92.m_is]
  have bad : (ptOk (nth p (k : Int)) && (decide (k = 0) || !(decide (nth p ((k : Int) - 1) = nth p (k : Int))))) = false → Q false := fun h => by
   rw [allN_false hk h, Bool.false_and] at hq; exact hq
  cases h1 : inR (nth p (k : Int)).X with
  | false => rw [if_pos (by decide)]; exact bad (by simp only [ptOk, h1, Bool.false_and])
  | true =>
   rw [if_neg (by decide)]
   refine ⟨by omega, ?_⟩
   cases h2 : inR (nth p (k : Int)).Y with
   | false => rw [if_pos (by decide)]; exact bad (by simp only [ptOk, h2, Bool.and_false, Bool.false_and])
   | true =>
    rw [if_neg (by decide)]
    have hpt : ptOk (nth p (k : Int)) = true := by simp only [ptOk, h1, h2, Bool.and_self]
    by_cases hk0 : k = 0
    ·rw [if_neg (by rw [decide_eq_true_eq]; omega)]
     obtain ⟨i1, i2⟩ := hn (by rw [hpt, decide_eq_true hk0]; rfl)
     exact ⟨by omega, i1, i2⟩
    ·rw [if_pos (by rw [decide_eq_true_eq]; omega)]
     refine ⟨by omega, fun _ => by unfold I64; omega, by omega, ?_⟩
     rw [eqPt_is]
     by_cases he : nth p ((k : Int) - 1) = nth p (k : Int)
     ·rw [if_pos (by rw [decide_eq_true_eq]; exact he.symm)]
      exact bad (by rw [hpt, decide_eq_false hk0, decide_eq_true he]; rfl)
     ·rw [if_neg (by rw [decide_eq_true_eq]; exact fun e => he e.symm)]
      obtain ⟨i1, i2⟩ := hn (by rw [hpt, decide_eq_false hk0, decide_eq_false he]; rfl)
      exact ⟨by omega, i1, i2⟩
 ·rw [allN_true ha, Bool.true_and] at hq
  have e2 : decide ((p.length : Int) ≤ 6) = decide (p.length ≤ 6) := decide_eq_decide.2 (by omega)
  rw [e2]; exact hq
theorem F45.law (s : Shape) (Q : Bool → Prop) (hq : Q (shapeOk s)) : F45.E s Q := by
 unfold F45.E
 unfold shapeOk at hq
 refine F93.law _ _ ?_
 cases h1 : ptsOk s.Pts with
 | false => rw [h1, Bool.false_and] at hq; rw [Bool.false_and, if_pos (by decide)]; exact hq
 | true =>
  rw [h1, Bool.true_and] at hq
  rw [Bool.true_and]
  unfold kindOk at hq
  by_cases h6 : s.Pts.length ≤ 6
  ·rw [decide_eq_true h6, if_neg (by decide)]
   by_cases k1 : s.Kind = 1
   ·rw [if_pos k1] at hq
    rw [if_pos (by rw [beq_iff_eq]; exact k1)]
    have : ((s.Pts.length : Int) == 1) = decide (s.Pts.length = 1) := by rw [Bool.eq_iff_iff, beq_iff_eq, decide_eq_true_eq]; omega
    rw [this]; exact hq
   rw [if_neg k1] at hq
   rw [if_neg (by rw [beq_iff_eq]; exact k1)]
   by_cases k2 : s.Kind = 2
   ·rw [if_pos k2, decide_eq_true h6, Bool.and_true] at hq
    rw [if_pos (by rw [beq_iff_eq]; exact k2)]
    have : decide ((s.Pts.length : Int) ≥ 2) = decide (2 ≤ s.Pts.length) := decide_eq_decide.2 (by omega)
    rw [this]; exact hq
   rw [if_neg k2] at hq
   rw [if_neg (by rw [beq_iff_eq]; exact k2)]
   by_cases k3 : s.Kind = 3
   ·rw [if_pos k3, decide_eq_true h6, Bool.and_true] at hq
    rw [if_pos (by rw [beq_iff_eq]; exact k3)]
    by_cases h3 : 3 ≤ s.Pts.length
    ·rw [decide_eq_true h3, Bool.true_and] at hq
     rw [if_pos (by rw [decide_eq_true_eq]; omega), eqPt_is]
     exact ⟨by omega, fun _ => by unfold I64; omega, by omega, hq⟩
    ·rw [decide_eq_false h3, Bool.false_and] at hq
     rw [if_neg (by rw [decide_eq_true_eq]; omega)]; exact hq
   ·rw [if_neg k3] at hq
    rw [if_neg (by rw [beq_iff_eq]; exact k3)]; exact hq
  ·rw [decide_eq_false h6, if_pos (by decide)]
   have : (if s.Kind = 1 then decide (s.Pts.length = 1) else if s.Kind = 2 then decide (2 ≤ s.Pts.length) && decide (s.Pts.length ≤ 6)
 else if s.Kind = 3 then decide (3 ≤ s.Pts.length) && decide (s.Pts.length ≤ 6) && !(decide (nth s.Pts 0 = nth s.Pts ((s.Pts.length : Int) - 1))) else false) = false := by
    rw [decide_eq_false h6, decide_eq_false (show ¬ s.Pts.length = 1 by omega)]
    simp
   rw [this] at hq; exact hq
section
def findN (n : Nat) (c : Nat → Bool) : Int := match (List.range n).find? c with | some k => (k : Int) | none => -1
theorem findN_hit {n k : Nat} {c : Nat → Bool} (hk : k < n) (h : c k = true) (hp : ∀ j, j < k → c j = false) : findN n c = (k : Int) := by
  unfold findN
  have : (List.range n).find? c = some k := by
    rw [List.find?_range_eq_some]
    exact ⟨h, List.mem_range.2 hk, fun j hj => by rw [hp j hj]; rfl⟩
  rw [this]
theorem findN_none {n : Nat} {c : Nat → Bool} (h : ∀ j, j < n → c j = false) : findN n c = -1 := by
  unfold findN
  have : (List.range n).find? c = none := by
    rw [List.find?_eq_none]; intro j hj; rw [h j (List.mem_range.1 hj)]; exact Bool.false_ne_true
  rw [this]
theorem findN_le (n : Nat) (c : Nat → Bool) : -1 ≤ findN n c ∧ findN n c < n := by
  unfold findN
  cases h : (List.range n).find? c with
  | none => exact ⟨Int.le_refl _, by dsimp only; omega⟩
  | some k => have := List.mem_range.1 (List.mem_of_find?_eq_some h); exact ⟨by dsimp only; omega, by dsimp only; omega⟩
theorem loop_find (n : Nat) (c : Nat → Bool) {B : (Int → Prop) → (Int → Nat) → Int → Prop} {Q : Int → Prop} (hq : Q (findN n c))
    (hs : ∀ (I : Int → Prop) (mu : Int → Nat) (k : Nat), k < n → (c k = true → Q (k : Int)) → (c k = false → I ((k : Int) + 1) ∧ mu ((k : Int) + 1) < mu (k : Int)) → B I mu (k : Int)) :
    ∃ (I : Int → Prop) (mu : Int → Nat), I 0 ∧ ∀ (i : Int), I i → (if decide (i < (n : Int)) then B I mu i else Q (-1)) := by
  refine loop_all n (fun k => !(c k)) (fun I mu k hk hp hn => hs I mu k hk (fun h => ?_) (fun h => hn (by rw [h]; rfl))) (fun ha => ?_)
  · rw [findN_hit hk h (fun j hj => by have := hp j hj; rwa [Bool.not_eq_true'] at this)] at hq; exact hq
  · rw [findN_none (fun j hj => by have := ha j hj; rwa [Bool.not_eq_true'] at this)] at hq; exact hq
section
variable {α : Type} [Inhabited α] [DecidableEq α]
end
end
section
theorem less_trans : ∀ {a b c : Str}, Op.bytesLess a b = true → Op.bytesLess b c = true → Op.bytesLess a c = true
  | _, _, [], _, h => by rename_i b _; cases b <;> simp [Op.bytesLess] at h
  | _, [], _ :: _, h, _ => by rename_i a _ _ _; cases a <;> simp [Op.bytesLess] at h
  | [], _ :: _, _ :: _, _, _ => by simp [Op.bytesLess]
  | x :: a, y :: b, z :: c, h1, h2 => by
    rw [Op.bytesLess] at h1 h2 ⊢
    simp only [Bool.or_eq_true, Bool.and_eq_true, decide_eq_true_eq, beq_iff_eq] at h1 h2 ⊢
    rcases h1 with h1 | ⟨rfl, h1⟩
    · rcases h2 with h2 | ⟨rfl, h2⟩
      · exact .inl (UInt8.lt_trans h1 h2)
      · exact .inl h1
    · rcases h2 with h2 | ⟨rfl, h2⟩
      · exact .inl h2
      · exact .inr ⟨rfl, less_trans h1 h2⟩
theorem less_asym {a b : Str} (h : Op.bytesLess a b = true) : Op.bytesLess b a = false := by
  cases e : Op.bytesLess b a with
  | false => rfl
  | true => have := less_trans h e; rw [less_irr] at this; cases this
theorem less_or {a b : Str} (h : Op.bytesLess a b = false) : Op.bytesLess b a = true ∨ b = a := by
  have := less_tri a b
  rw [h] at this
  simpa using this.symm
def SS (l : List Str) : Prop := l.Pairwise fun x y => Op.bytesLess x y = true
theorem SS.ext : ∀ {l m : List Str}, SS l → SS m → (∀ x, x ∈ l ↔ x ∈ m) → l = m
  | [], [], _, _, _ => rfl
  | [], y :: m, _, _, h => by have := (h y).2 List.mem_cons_self; cases this
  | x :: l, [], _, _, h => by have := (h x).1 List.mem_cons_self; cases this
  | x :: l, y :: m, hl, hm, h => by
    obtain ⟨l1, l2⟩ := List.pairwise_cons.1 hl
    obtain ⟨m1, m2⟩ := List.pairwise_cons.1 hm
    have e : x = y := by
      rcases List.mem_cons.1 ((h x).1 List.mem_cons_self) with e | e
      · exact e
      · rcases List.mem_cons.1 ((h y).2 List.mem_cons_self) with e' | e'
        · exact e'.symm
        · have := less_trans (m1 x e) (l1 y e'); rw [less_irr] at this; cases this
    subst e
    rw [SS.ext l2 m2 fun z => ⟨fun hz => ?_, fun hz => ?_⟩]
    · rcases List.mem_cons.1 ((h z).1 (List.mem_cons_of_mem _ hz)) with e | e
      · subst e; have := l1 z hz; rw [less_irr] at this; cases this
      · exact e
    · rcases List.mem_cons.1 ((h z).2 (List.mem_cons_of_mem _ hz)) with e | e
      · subst e; have := m1 z hz; rw [less_irr] at this; cases this
      · exact e
theorem le_less (x y : Str) : decide (x ≤ y) = !(Op.bytesLess y x) := by
  rw [bytesLess_eq]
  by_cases h : y < x
  · rw [decide_eq_true h, decide_eq_false (by rw [List.not_le]; exact h)]; rfl
  · rw [decide_eq_false h, decide_eq_true (List.not_lt.1 h)]; rfl
theorem sortS_le (l : List Str) : (sortS l).Pairwise fun x y => Op.bytesLess y x = false := by
  have h := List.pairwise_mergeSort (le := fun x y : Str => decide (x ≤ y)) (fun a b c h1 h2 => by
    rw [le_less, Bool.not_eq_true'] at h1 h2 ⊢
    cases e : Op.bytesLess c a with
    | false => rfl
    | true =>
      rcases less_or h1 with h3 | h3
      · have := less_trans e h3; rw [h2] at this; cases this
      · subst h3; rw [h2] at e; cases e) (fun a b => by
    rw [le_less, le_less]
    cases e : Op.bytesLess b a with
    | false => rfl
    | true => rw [less_asym e]; rfl) l
  exact h.imp fun {x y} h => by rw [le_less, Bool.not_eq_true'] at h; exact h
theorem sortS_mem {l : List Str} {x : Str} : x ∈ sortS l ↔ x ∈ l := List.mem_mergeSort
section
open Go.Lib
theorem compact_of (l : List Str) (h : l.Pairwise fun x y => Op.bytesLess y x = false) : SS (compact l) ∧ ∀ x, x ∈ compact l ↔ x ∈ l := by
  have hle : ∀ i j, i ≤ j → j < l.length → Op.bytesLess (l.toArray[j]!) (l.toArray[i]!) = false := fun i j hij hj => by
    have hi : i < l.length := by omega
    simp only [List.getElem!_toArray, getElem!_pos l i hi, getElem!_pos l j hj]
    rcases Nat.lt_or_eq_of_le hij with hlt | rfl
    · exact List.pairwise_iff_getElem.1 h i j hi hj hlt
    · exact less_irr _
  constructor
  · unfold compact compactUpTo SS
    rw [List.pairwise_map, List.pairwise_filter]
    refine List.pairwise_iff_getElem.2 fun i j hi hj hij => ?_
    simp only [List.length_range] at hi hj
    simp only [List.getElem_range]
    intro _ hk
    have hj0 : 0 < j := by omega
    have hne : l.toArray[j]! ≠ l.toArray[j - 1]! := fun e => by rw [keeps_neg hj0 e] at hk; cases hk
    have h1 : Op.bytesLess (l.toArray[j - 1]!) (l.toArray[j]!) = true := by
      rcases less_or (hle (j - 1) j (by omega) hj) with h2 | h2
      · exact h2
      · exact absurd h2.symm hne
    rcases less_or (hle i (j - 1) (by omega) (by omega)) with h3 | h3
    · exact less_trans h3 h1
    · rw [h3]; exact h1
  · intro x
    constructor
    · exact compact_mem
    · intro hx
      obtain ⟨k, hk, rfl⟩ := List.getElem_of_mem hx
      have key : ∀ k, k < l.length → l.toArray[k]! ∈ compact l := by
        intro k
        induction k using Nat.strongRecOn with
        | _ k ih =>
          intro hk
          cases e : keeps l.toArray k with
          | true =>
            unfold compact compactUpTo
            exact List.mem_map.2 ⟨k, List.mem_filter.2 ⟨List.mem_range.2 hk, e⟩, rfl⟩
          | false =>
            have hk0 : 0 < k := by
              rcases Nat.eq_zero_or_pos k with h0 | h0
              · subst h0; rw [keeps_lt_one _ 0 (by omega)] at e; cases e
              · exact h0
            have he : l.toArray[k]! = l.toArray[k - 1]! := Classical.byContradiction fun hne => by rw [keeps_pos hne] at e; cases e
            rw [he]; exact ih (k - 1) (by omega) (by omega)
      have := key k hk
      simpa [getElem!_pos l k hk] using this
end
def uniq (l : List Str) : List Str := Lib.compact (sortS l)
theorem uniq_ss (l : List Str) : SS (uniq l) := (compact_of _ (sortS_le l)).1
theorem uniq_mem {l : List Str} {x : Str} : x ∈ uniq l ↔ x ∈ l := ((compact_of _ (sortS_le l)).2 x).trans sortS_mem
def ids (s : List Feat) : List Str := s.map (·.Id)
theorem sheet_ss {s : List Feat} (h : sheetOk s = true) : SS (ids s) ∧ s.length ≤ 8 ∧ ∀ f ∈ s, featOk f = true := by
  unfold sheetOk at h
  simp only [Bool.and_eq_true, decide_eq_true_eq] at h
  obtain ⟨h1, h2⟩ := h
  have h1 := allN_iff.1 h1
  have hadj : ∀ k, 0 < k → k < s.length → Op.bytesLess (nth s ((k : Int) - 1)).Id (nth s (k : Int)).Id = true := fun k h0 hk => by
    have := h1 k hk
    simp only [Bool.and_eq_true, Bool.or_eq_true, decide_eq_true_eq] at this
    rcases this.2 with h | h
    · omega
    · exact h
  refine ⟨?_, h2, fun f hf => ?_⟩
  · unfold SS ids
    rw [List.pairwise_map]
    refine List.pairwise_iff_getElem.2 fun i j hi hj hij => ?_
    have key : ∀ d, i + d + 1 < s.length → Op.bytesLess s[i].Id (nth s ((i + d + 1 : Nat) : Int)).Id = true := by
      intro d
      induction d with
      | zero =>
        intro hd
        have := hadj (i + 0 + 1) (by omega) hd
        rw [show (((i + 0 + 1 : Nat) : Int) - 1) = (i : Int) by omega, nth_nat s hi] at this
        exact this
      | succ d ih =>
        intro hd
        have := hadj (i + (d + 1) + 1) (by omega) hd
        rw [show (((i + (d + 1) + 1 : Nat) : Int) - 1) = ((i + d + 1 : Nat) : Int) by omega] at this
        exact less_trans (ih (by omega)) this
    have := key (j - i - 1) (by omega)
    rw [show i + (j - i - 1) + 1 = j by omega, nth_nat s hj] at this
    exact this
  · obtain ⟨k, hk, rfl⟩ := List.getElem_of_mem hf
    have := h1 k hk
    rw [nth_nat s hk] at this
    simp only [Bool.and_eq_true] at this
    exact this.1
theorem word_len {s : Str} (h : wordOk s = true) : s.length ≤ 6 := by
  unfold wordOk at h
  simp only [Bool.and_eq_true, decide_eq_true_eq] at h
  exact h.2.2
theorem bulk_small {α : Type} [Bulk α] (l : List α) (m : Nat) (h : ∀ x ∈ l, bulk x ≤ m) : bulk l ≤ l.length * (m + 1) := by
  induction l with
  | nil => exact Nat.zero_le _
  | cons x l ih =>
    have h1 := h x List.mem_cons_self
    have h2 := ih fun y hy => h y (List.mem_cons_of_mem _ hy)
    rw [bulk_cons, List.length_cons, Nat.add_mul]
    omega
theorem feat_small {f : Feat} (h : featOk f = true) : bulk f ≤ 100 ∧ f.Id.length ≤ 6 := by
  unfold featOk at h
  simp only [Bool.and_eq_true, decide_eq_true_eq] at h
  obtain ⟨⟨⟨h1, h2⟩, h3⟩, h4⟩ := h
  have hi := word_len h3
  have e1 : bulk f = bulk f.Id + (bulk f.Shape.Kind + bulk f.Shape.Pts) + bulk f.Tags := rfl
  have e2 : bulk f.Id = f.Id.length := bulk_str _
  have e3 : bulk f.Shape.Kind = 0 := rfl
  have e4 : bulk f.Shape.Pts = f.Shape.Pts.length := bulk_flat (fun _ => rfl) _
  have ht : bulk f.Tags ≤ f.Tags.length * (12 + 1) := bulk_small _ 12 fun t hm => by
    unfold tagsOk at h1
    obtain ⟨k, hk, rfl⟩ := List.getElem_of_mem hm
    have := allN_iff.1 h1 k hk
    rw [nth_nat _ hk] at this
    simp only [Bool.and_eq_true] at this
    have a1 := word_len this.1.1
    have a2 := word_len this.1.2
    have b0 : bulk f.Tags[k] = bulk f.Tags[k].Key + bulk f.Tags[k].Val := rfl
    have b1 : bulk f.Tags[k].Key = f.Tags[k].Key.length := bulk_str _
    have b2 : bulk f.Tags[k].Val = f.Tags[k].Val.length := bulk_str _
    omega
  have hp : f.Shape.Pts.length ≤ 6 := by
    unfold shapeOk kindOk at h4
    simp only [Bool.and_eq_true] at h4
    have := h4.2
    split at this
    · simp only [decide_eq_true_eq] at this; omega
    · split at this
      · simp only [Bool.and_eq_true, decide_eq_true_eq] at this; omega
      · split at this
        · simp only [Bool.and_eq_true, decide_eq_true_eq] at this; omega
        · cases this
  have : f.Tags.length * (12 + 1) ≤ 52 := by omega
  omega
def zeroF : Feat := ⟨[], ⟨0, []⟩, []⟩
theorem uniq_len (l : List Str) : (uniq l).length ≤ l.length := by
  unfold uniq
  have := compact_le (sortS l)
  have h2 : (sortS l).length = l.length := List.length_mergeSort _
  omega
end
theorem mate_part {o a : List Pt} (h : few o a = true) (t : Nat) : mateI (spairs o a) (t : Int) = match part o a t with | some x => (x : Int) | none => -1 := by
  rw [spairs_few h, mateI_mk]; rfl
structure MInv (o a b : List Pt) (xs : List Pt) (i j k t : Nat) : Prop where
  hi : i ≤ t
  ht : t ≤ o.length
  hj : j ≤ a.length
  hk : k ≤ b.length
  fj : From (part o a) t j
  fk : From (part o b) t k
  len : xs.length ≤ j + k
  eq : (mloop o a b (part o a) (part o b) (o.length - t) t i j k).map (xs ++ ·) = smerge o a b
theorem MInv.zero {o a b : List Pt} (h1 : few o a = true) (h2 : few o b = true) : MInv o a b [] 0 0 0 0 :=
  ⟨Nat.le_refl _, Nat.zero_le _, Nat.zero_le _, Nat.zero_le _, From.zero _ _, From.zero _ _, Nat.le_refl _, by rw [smerge_few h1 h2, Nat.sub_zero]; cases mloop o a b (part o a) (part o b) o.length 0 0 0 0 <;> rfl⟩
theorem MInv.skip {o a b xs : List Pt} {i j k t : Nat} (h : MInv o a b xs i j k t) (ht : t < o.length) (hn : part o a t = none ∨ part o b t = none) : MInv o a b xs i j k (t + 1) :=
  ⟨by have := h.hi; omega, ht, h.hj, h.hk, h.fj.skip, h.fk.skip, h.len, by
    have := h.eq
    rw [show o.length - t = (o.length - (t + 1)) + 1 by omega, mloop_none hn] at this
    exact this⟩
theorem MInv.step {o a b xs : List Pt} {i j k t x y : Nat} (h : MInv o a b xs i j k t) (ht : t < o.length) (hx : part o a t = some x) (hy : part o b t = some y) {p : List Pt} (hp : pickL (seg o i t) (seg a j x) (seg b k y) = some p) : MInv o a b (xs ++ p ++ [nth o (t : Int)]) (t + 1) (x + 1) (y + 1) (t + 1) := by
  have h1 := (part_mates o a).lt hx
  have h2 := (part_mates o b).lt hy
  refine ⟨Nat.le_refl _, ht, h1.2, h2.2, .step (part_mates o a) hx, .step (part_mates o b) hy, ?_, ?_⟩
  · have := (pickL_mem hp).2.2.2
    rw [seg_len a _ _ (by omega), seg_len b _ _ (by omega)] at this
    have h3 := h.fj t x (Nat.le_refl _) hx
    have h4 := h.fk t y (Nat.le_refl _) hy
    have h5 := h.len
    simp only [List.length_append, List.length_singleton]; omega
  · have := h.eq
    rw [show o.length - t = (o.length - (t + 1)) + 1 by omega, mloop_some hx hy, hp, Option.bind_some, Option.map_map] at this
    rw [← this]
    congr 1
    funext r
    simp
theorem MInv.stop {o a b xs : List Pt} {i j k t x y : Nat} (h : MInv o a b xs i j k t) (ht : t < o.length) (hx : part o a t = some x) (hy : part o b t = some y) (hp : pickL (seg o i t) (seg a j x) (seg b k y) = none) : smerge o a b = none := by
  have := h.eq
  rw [show o.length - t = (o.length - (t + 1)) + 1 by omega, mloop_some hx hy, hp] at this
  exact this.symm
theorem MInv.last {o a b xs : List Pt} {i j k : Nat} (h : MInv o a b xs i j k o.length) : (pickL (o.drop i) (a.drop j) (b.drop k)).map (xs ++ ·) = smerge o a b := by
  have := h.eq
  rw [Nat.sub_self, mloop_zero] at this
  exact this
theorem MInv.from {o a b xs : List Pt} {i j k t x y : Nat} (h : MInv o a b xs i j k t) (hx : part o a t = some x) (hy : part o b t = some y) : j ≤ x ∧ x < a.length ∧ k ≤ y ∧ y < b.length :=
  ⟨h.fj t x (Nat.le_refl _) hx, ((part_mates o a).lt hx).2, h.fk t y (Nat.le_refl _) hy, ((part_mates o b).lt hy).2⟩
def keysT (t : List Tag) : List Str := t.map (·.Key)
theorem keys_app (s t : List Tag) : keysT (s ++ t) = keysT s ++ keysT t := List.map_append
def valT (t : List Tag) (key : Str) : value :=
  if findN t.length (fun j => (nth t (j : Int)).Key == key) < 0 then ⟨false, []⟩ else ⟨true, (nth t (findN t.length fun j => (nth t (j : Int)).Key == key)).Val⟩
theorem valT_no (t : List Tag) (key : Str) (h : (valT t key).has = false) : valT t key = ⟨false, []⟩ := by
  unfold valT at h ⊢
  split
  · rfl
  · rename_i h1; rw [if_neg h1] at h; cases h
def three {α : Type} [DecidableEq α] (o a b : α) : α × Bool := if a = o then (b, true) else if b = o then (a, true) else if a = b then (a, true) else (a, false)
def tagF (o a b : value) : value × Bool := if (three o a b).2 then three o a b else (if a.has then a else b, false)
def tagS : Str := [116, 97, 103, 32]
def tagK (o a b : List Tag) (k : Str) : value × Bool := tagF (valT o k) (valT a k) (valT b k)
def clashL (o a b : List Tag) (ks : List Str) : List Str := (ks.filter fun k => !(tagK o a b k).2).map fun k => tagS ++ k
def tagsL (o a b : List Tag) (ks : List Str) : List Tag := (ks.filter fun k => (tagK o a b k).1.has).map fun k => ⟨k, (tagK o a b k).1.val⟩
theorem clashL_snoc (o a b : List Tag) (ks : List Str) (k : Str) : clashL o a b (ks ++ [k]) = clashL o a b ks ++ (if (tagK o a b k).2 then [] else [tagS ++ k]) := by
  unfold clashL
  rw [List.filter_append, List.map_append]
  congr 1
  cases h : (tagK o a b k).2 <;> simp [h]
theorem tagsL_snoc (o a b : List Tag) (ks : List Str) (k : Str) : tagsL o a b (ks ++ [k]) = tagsL o a b ks ++ (if (tagK o a b k).1.has then [⟨k, (tagK o a b k).1.val⟩] else []) := by
  unfold tagsL
  rw [List.filter_append, List.map_append]
  congr 1
  cases h : (tagK o a b k).1.has <;> simp [h]
theorem clashL_len (o a b : List Tag) (ks : List Str) : (clashL o a b ks).length ≤ ks.length := by
  unfold clashL; rw [List.length_map]; exact List.length_filter_le _ _
theorem tagsL_len (o a b : List Tag) (ks : List Str) : (tagsL o a b ks).length ≤ ks.length := by
  unfold tagsL; rw [List.length_map]; exact List.length_filter_le _ _
def shapeF (o a b : Shape) : Shape × Bool :=
  if (three o a b).2 then three o a b
  else if a.Kind = o.Kind ∧ b.Kind = o.Kind then
    match smerge o.Pts a.Pts b.Pts with
    | some p => if shapeOk ⟨a.Kind, p⟩ then (⟨a.Kind, p⟩, true) else (a, false)
    | none => (a, false)
  else (a, false)
def allKeys (o a b : Feat) : List Str := uniq (keysT (o.Tags ++ a.Tags ++ b.Tags))
def shapeS : Str := [115, 104, 97, 112, 101]
def joinF (o a b : Feat) : Feat := ⟨a.Id, (shapeF o.Shape a.Shape b.Shape).1, tagsL o.Tags a.Tags b.Tags (allKeys o a b)⟩
def joinW (o a b : Feat) : List Str := (if (shapeF o.Shape a.Shape b.Shape).2 then [] else [shapeS]) ++ clashL o.Tags a.Tags b.Tags (allKeys o a b)
def joinOf (o a b : Feat) : Feat × List Str := if featOk (joinF o a b) then (joinF o a b, joinW o a b) else (a, [[109, 117, 99, 104]])
def featJoin (o a b : Feat) : Feat × List Str := if featOk o && featOk a && featOk b && decide (o.Id = a.Id) && decide (o.Id = b.Id) then joinOf o a b else (zeroF, [])
theorem feat_facts {f : Feat} (h : featOk f = true) : f.Tags.length ≤ 4 ∧ shapeOk f.Shape = true ∧ f.Shape.Pts.length ≤ 6 ∧ f.Id.length ≤ 6 ∧ ∀ t ∈ f.Tags, t.Key.length ≤ 6 ∧ t.Val.length ≤ 6 := by
  have hb := (feat_small h).2
  unfold featOk at h
  simp only [Bool.and_eq_true, decide_eq_true_eq] at h
  obtain ⟨⟨⟨h1, h2⟩, h3⟩, h4⟩ := h
  refine ⟨h2, h4, ?_, hb, fun t hm => ?_⟩
  · unfold shapeOk kindOk at h4
    simp only [Bool.and_eq_true] at h4
    have := h4.2
    split at this
    · simp only [decide_eq_true_eq] at this; omega
    · split at this
      · simp only [Bool.and_eq_true, decide_eq_true_eq] at this; omega
      · split at this
        · simp only [Bool.and_eq_true, decide_eq_true_eq] at this; omega
        · cases this
  · unfold tagsOk at h1
    obtain ⟨k, hk, rfl⟩ := List.getElem_of_mem hm
    have := allN_iff.1 h1 k hk
    rw [nth_nat _ hk] at this
    simp only [Bool.and_eq_true] at this
    exact ⟨word_len this.1.1, word_len this.1.2⟩
theorem shape_pts {s : Shape} (h : shapeOk s = true) : s.Pts.length ≤ 6 := by
  unfold shapeOk kindOk at h
  simp only [Bool.and_eq_true] at h
  have := h.2
  split at this
  · simp only [decide_eq_true_eq] at this; omega
  · split at this
    · simp only [Bool.and_eq_true, decide_eq_true_eq] at this; omega
    · split at this
      · simp only [Bool.and_eq_true, decide_eq_true_eq] at this; omega
      · cases this
theorem three_in {α : Type} [DecidableEq α] (o a b : α) : (three o a b).1 = a ∨ (three o a b).1 = b := by
  unfold three
  split
  · exact .inr rfl
  · split
    · exact .inl rfl
    · split <;> exact .inl rfl
theorem shapeF_pts {o a b : Shape} (ha : a.Pts.length ≤ 6) (hb : b.Pts.length ≤ 6) : (shapeF o a b).1.Pts.length ≤ 6 := by
  unfold shapeF
  split
  · rcases three_in o a b with h | h <;> rw [h] <;> assumption
  · split
    · split
      · split
        · rename_i h; exact shape_pts h
        · exact ha
      · exact ha
    · exact ha
theorem valT_len {t : List Tag} (h : ∀ x ∈ t, x.Val.length ≤ 6) (k : Str) : (valT t k).val.length ≤ 6 := by
  unfold valT
  split
  · exact Nat.zero_le _
  · have h1 := findN_le t.length fun j => (nth t (j : Int)).Key == k
    exact h _ (nth_memi t (by omega) h1.2)
theorem tagF_in (o a b : value) : (tagF o a b).1 = a ∨ (tagF o a b).1 = b := by
  unfold tagF
  split
  · exact three_in o a b
  · split
    · exact .inl rfl
    · exact .inr rfl
theorem allKeys_len (o a b : Feat) : (allKeys o a b).length ≤ o.Tags.length + a.Tags.length + b.Tags.length := by
  have h := uniq_len (keysT (o.Tags ++ a.Tags ++ b.Tags))
  have e : (keysT (o.Tags ++ a.Tags ++ b.Tags)).length = o.Tags.length + a.Tags.length + b.Tags.length := by unfold keysT; simp; omega
  unfold allKeys; omega
theorem allKeys_small {o a b : Feat} (ho : featOk o = true) (ha : featOk a = true) (hb : featOk b = true) : (allKeys o a b).length ≤ 12 ∧ ∀ k ∈ allKeys o a b, k.length ≤ 6 := by
  have h1 := feat_facts ho; have h2 := feat_facts ha; have h3 := feat_facts hb
  refine ⟨by have := allKeys_len o a b; omega, fun k hk => ?_⟩
  unfold allKeys at hk
  rw [uniq_mem] at hk
  obtain ⟨t, ht, rfl⟩ := List.mem_map.1 hk
  rcases List.mem_append.1 ht with ht | ht
  · rcases List.mem_append.1 ht with ht | ht
    · exact (h1.2.2.2.2 t ht).1
    · exact (h2.2.2.2.2 t ht).1
  · exact (h3.2.2.2.2 t ht).1
theorem tagsL_small {o a b : Feat} (ho : featOk o = true) (ha : featOk a = true) (hb : featOk b = true) : bulk (tagsL o.Tags a.Tags b.Tags (allKeys o a b)) ≤ 200 := by
  obtain ⟨k1, k2⟩ := allKeys_small ho ha hb
  have hl := tagsL_len o.Tags a.Tags b.Tags (allKeys o a b)
  have hs := bulk_small (tagsL o.Tags a.Tags b.Tags (allKeys o a b)) 12 fun t ht => by
    unfold tagsL at ht
    obtain ⟨k, hk, rfl⟩ := List.mem_map.1 ht
    have hk := k2 k (List.mem_filter.1 hk).1
    have hv : (tagK o.Tags a.Tags b.Tags k).1.val.length ≤ 6 := by
      rcases tagF_in (valT o.Tags k) (valT a.Tags k) (valT b.Tags k) with h | h
      · unfold tagK; rw [h]; exact valT_len (fun x hx => ((feat_facts ha).2.2.2.2 x hx).2) k
      · unfold tagK; rw [h]; exact valT_len (fun x hx => ((feat_facts hb).2.2.2.2 x hx).2) k
    have e : bulk (⟨k, (tagK o.Tags a.Tags b.Tags k).1.val⟩ : Tag) = bulk k + bulk (tagK o.Tags a.Tags b.Tags k).1.val := rfl
    rw [e, bulk_str, bulk_str]; omega
  have : (tagsL o.Tags a.Tags b.Tags (allKeys o a b)).length * (12 + 1) ≤ 12 * 13 := Nat.mul_le_mul (by omega) (Nat.le_refl _)
  omega
theorem joinF_small {o a b : Feat} (ho : featOk o = true) (ha : featOk a = true) (hb : featOk b = true) : bulk (joinF o a b) ≤ 300 := by
  have h2 := feat_facts ha; have h3 := feat_facts hb
  have ht := tagsL_small ho ha hb
  have hp := shapeF_pts (o := o.Shape) h2.2.2.1 h3.2.2.1
  have e : bulk (joinF o a b) = bulk a.Id + (0 + bulk (shapeF o.Shape a.Shape b.Shape).1.Pts) + bulk (tagsL o.Tags a.Tags b.Tags (allKeys o a b)) := rfl
  have e2 : bulk a.Id = a.Id.length := bulk_str _
  have e3 : bulk (shapeF o.Shape a.Shape b.Shape).1.Pts = (shapeF o.Shape a.Shape b.Shape).1.Pts.length := bulk_flat (fun _ => rfl) _
  omega
section
def mkL {α : Type} (g : α → Int → α × Int) : List α → Int → List α × Int
  | [], k => ([], k)
  | x :: l, k => ((g x k).1 :: (mkL g l (g x k).2).1, (mkL g l (g x k).2).2)
section
variable {α : Type} {g : α → Int → α × Int}
theorem mkL_snoc (x : α) : ∀ (l : List α) (k : Int), mkL g (l ++ [x]) k = ((mkL g l k).1 ++ [(g x (mkL g l k).2).1], (g x (mkL g l k).2).2)
  | [], k => rfl
  | y :: l, k => by
    rw [List.cons_append, mkL, mkL_snoc x l]; rfl
theorem mkL_len : ∀ (l : List α) (k : Int), (mkL g l k).1.length = l.length
  | [], k => rfl
  | y :: l, k => by rw [mkL, List.length_cons, List.length_cons, mkL_len l]
theorem mkL_app : ∀ (l m : List α) (k : Int), mkL g (l ++ m) k = ((mkL g l k).1 ++ (mkL g m (mkL g l k).2).1, (mkL g m (mkL g l k).2).2)
  | [], m, k => rfl
  | y :: l, m, k => by rw [List.cons_append, mkL, mkL_app l]; rfl
variable [Inhabited α]
def Mk (g : α → Int → α × Int) (a : List α) (k : Int) (u : Nat) (xs : List α) (k' : Int) : Prop := u ≤ a.length ∧ xs = (mkL g (a.take u) k).1 ++ a.drop u ∧ k' = (mkL g (a.take u) k).2
variable {a xs : List α} {k k' : Int} {u : Nat}
theorem Mk.zero (a : List α) (k : Int) : Mk g a k 0 a k := ⟨Nat.zero_le _, by simp [mkL], by simp [mkL]⟩
theorem Mk.len (h : Mk g a k u xs k') : xs.length = a.length := by
  rw [h.2.1, List.length_append, mkL_len, List.length_take, List.length_drop]; have := h.1; omega
theorem Mk.nth (h : Mk g a k u xs k') (hu : u < a.length) : nth xs (u : Int) = Go.Proofs.Ytpdmnmpcjljeaaa.nth a (u : Int) := by
  rw [nth_nat xs (by rw [h.len]; exact hu), nth_nat a hu]
  have hl : (mkL g (a.take u) k).1.length = u := by rw [mkL_len, List.length_take]; omega
  have := h.2.1
  subst this
  rw [List.getElem_append_right (by omega)]
  simp [hl]
def Hd (g : α → Int → α × Int) (a : List α) (k : Int) (u : Nat) (k' : Int) : Prop := u ≤ a.length ∧ k' = (mkL g (a.take u) k).2
theorem Hd.zero (a : List α) (k : Int) : Hd g a k 0 k := ⟨Nat.zero_le _, by simp [mkL]⟩
theorem Hd.nth (h : Hd g a k u k') (hu : u < a.length) : nth (mkL g a k).1 (u : Int) = (g (Go.Proofs.Ytpdmnmpcjljeaaa.nth a (u : Int)) k').1 := by
  have e : a = (a.take u ++ [Go.Proofs.Ytpdmnmpcjljeaaa.nth a (u : Int)]) ++ a.drop (u + 1) := by rw [← take_nth a hu, List.take_append_drop]
  have hl : (mkL g (a.take u) k).1.length = u := by rw [mkL_len, List.length_take]; omega
  rw [nth_nat _ (by rw [mkL_len]; exact hu)]
  have h1 : (mkL g a k).1[u]? = some (g (Go.Proofs.Ytpdmnmpcjljeaaa.nth a (u : Int)) k').1 := by
    conv => lhs; rw [e]
    rw [mkL_app, mkL_snoc]
    dsimp only
    rw [List.append_assoc, List.getElem?_append_right (by omega), hl, Nat.sub_self, h.2]; rfl
  rw [List.getElem?_eq_getElem (by rw [mkL_len]; exact hu)] at h1
  exact Option.some.inj h1
end
theorem bulk_feat (x : Feat) : bulk x = bulk x.Id + (bulk x.Shape.Kind + bulk x.Shape.Pts) + bulk x.Tags := rfl
end
theorem pw_ext {α : Type} {R : α → α → Prop} (irr : ∀ x, ¬ R x x) (tr : ∀ x y z, R x y → R y z → R x z) : ∀ {l m : List α}, l.Pairwise R → m.Pairwise R → (∀ x, x ∈ l ↔ x ∈ m) → l = m
  | [], [], _, _, _ => rfl
  | [], y :: m, _, _, h => by have := (h y).2 List.mem_cons_self; cases this
  | x :: l, [], _, _, h => by have := (h x).1 List.mem_cons_self; cases this
  | x :: l, y :: m, hl, hm, h => by
    obtain ⟨l1, l2⟩ := List.pairwise_cons.1 hl
    obtain ⟨m1, m2⟩ := List.pairwise_cons.1 hm
    have e : x = y := by
      rcases List.mem_cons.1 ((h x).1 List.mem_cons_self) with e | e
      · exact e
      · rcases List.mem_cons.1 ((h y).2 List.mem_cons_self) with e' | e'
        · exact e'.symm
        · exact absurd (tr _ _ _ (m1 x e) (l1 y e')) (irr _)
    subst e
    rw [pw_ext irr tr l2 m2 fun z => ⟨fun hz => ?_, fun hz => ?_⟩]
    · rcases List.mem_cons.1 ((h z).1 (List.mem_cons_of_mem _ hz)) with e | e
      · subst e; exact absurd (l1 z hz) (irr _)
      · exact e
    · rcases List.mem_cons.1 ((h z).2 (List.mem_cons_of_mem _ hz)) with e | e
      · subst e; exact absurd (m1 z hz) (irr _)
      · exact e
def idsC (d : List Change) : List Str := d.map (·.Id)
theorem idsC_app (s t : List Change) : idsC (s ++ t) = idsC s ++ idsC t := List.map_append
def CS (d : List Change) : Prop := d.Pairwise fun x y => Op.bytesLess x.Id y.Id = true
theorem CS.ext {l m : List Change} (hl : CS l) (hm : CS m) (h : ∀ x, x ∈ l ↔ x ∈ m) : l = m :=
  pw_ext (R := fun x y : Change => Op.bytesLess x.Id y.Id = true) (fun x e => by rw [less_irr] at e; cases e) (fun x y z h1 h2 => less_trans h1 h2) hl hm h
theorem CS.ids {d : List Change} (h : CS d) : SS (idsC d) := List.pairwise_map.2 h
theorem findN_true {n : Nat} {c : Nat → Bool} {k : Nat} (h : findN n c = (k : Int)) : k < n ∧ c k = true := by
  unfold findN at h
  cases e : (List.range n).find? c with
  | none => rw [e] at h; dsimp only at h; omega
  | some j =>
    rw [e] at h; dsimp only at h
    have : j = k := by omega
    subst this
    exact ⟨List.mem_range.1 (List.mem_of_find?_eq_some e), List.find?_some e⟩
theorem findN_neg {n : Nat} {c : Nat → Bool} (h : findN n c < 0) : ∀ j, j < n → c j = false := fun j hj => by
  unfold findN at h
  cases e : (List.range n).find? c with
  | some k => rw [e] at h; dsimp only at h; omega
  | none =>
    have := List.find?_eq_none.1 e j (List.mem_range.2 hj)
    simpa using this
theorem CS.inj {d : List Change} (h : CS d) {x y : Change} (hx : x ∈ d) (hy : y ∈ d) (e : x.Id = y.Id) : x = y := by
  obtain ⟨i, hi, rfl⟩ := List.getElem_of_mem hx
  obtain ⟨j, hj, rfl⟩ := List.getElem_of_mem hy
  rcases Nat.lt_trichotomy i j with g | g | g
  · have := List.pairwise_iff_getElem.1 h i j hi hj g
    rw [e, less_irr] at this; cases this
  · subst g; rfl
  · have := List.pairwise_iff_getElem.1 h j i hj hi g
    rw [e, less_irr] at this; cases this
theorem joinW_len {o a b : Feat} (ho : featOk o = true) (ha : featOk a = true) (hb : featOk b = true) : (joinOf o a b).2.length ≤ 13 ∧ (∀ x ∈ (joinOf o a b).2, x.length ≤ 20) ∧ bulk (joinOf o a b).1 ≤ 300 := by
  obtain ⟨ks1, ks2⟩ := allKeys_small ho ha hb
  have hcl := clashL_len o.Tags a.Tags b.Tags (allKeys o a b)
  unfold joinOf
  split
  · refine ⟨?_, fun x hx => ?_, joinF_small ho ha hb⟩
    · unfold joinW
      rw [List.length_append]
      split
      · simp only [List.length_nil]; omega
      · simp only [List.length_cons, List.length_nil]; omega
    · unfold joinW at hx
      rcases List.mem_append.1 hx with hx | hx
      · split at hx
        · cases hx
        · rw [List.mem_singleton.1 hx]; decide
      · unfold clashL at hx
        obtain ⟨k, hk, rfl⟩ := List.mem_map.1 hx
        have := ks2 k (List.mem_filter.1 hk).1
        rw [List.length_append]
        have : tagS.length = 4 := rfl
        omega
  · refine ⟨by simp, fun x hx => ?_, Nat.le_trans (feat_small ha).1 (by omega)⟩
    rw [List.mem_singleton.1 hx]; decide
def FS (l : List Feat) : Prop := l.Pairwise fun x y => Op.bytesLess x.Id y.Id = true
theorem FS.ext {l m : List Feat} (hl : FS l) (hm : FS m) (h : ∀ x, x ∈ l ↔ x ∈ m) : l = m :=
  pw_ext (R := fun x y : Feat => Op.bytesLess x.Id y.Id = true) (fun x e => by rw [less_irr] at e; cases e) (fun x y z h1 h2 => less_trans h1 h2) hl hm h
theorem FS.inj {d : List Feat} (h : FS d) {x y : Feat} (hx : x ∈ d) (hy : y ∈ d) (e : x.Id = y.Id) : x = y := by
  obtain ⟨i, hi, rfl⟩ := List.getElem_of_mem hx
  obtain ⟨j, hj, rfl⟩ := List.getElem_of_mem hy
  rcases Nat.lt_trichotomy i j with g | g | g
  · have := List.pairwise_iff_getElem.1 h i j hi hj g
    rw [e, less_irr] at this; cases this
  · subst g; rfl
  · have := List.pairwise_iff_getElem.1 h j i hj hi g
    rw [e, less_irr] at this; cases this
theorem now_id {d : List Change} (hd : ∀ c ∈ d, changeOk c = true) {c : Change} (hc : c ∈ d) (h : c.Has = true) : c.Now.Id = c.Id ∧ featOk c.Now = true := by
  have := hd c hc
  unfold changeOk at this
  simp only [Bool.and_eq_true] at this
  have h3 := this.1.2
  unfold sideOk at h3
  rw [h, if_pos rfl] at h3
  simp only [Bool.and_eq_true, decide_eq_true_eq] at h3
  exact ⟨h3.2, h3.1⟩
def Mem (s : List Feat) (d : List Change) (f : Feat) : Prop := (f ∈ s ∧ f.Id ∉ idsC d) ∨ ∃ c ∈ d, c.Has = true ∧ c.Now = f
theorem Mem.step {s : List Feat} {d : List Change} {u : Nat} (hu : u < d.length) (hc : CS d) (hd : ∀ c ∈ d, changeOk c = true) (f : Feat) :
    Mem s (d.take (u + 1)) f ↔ (Mem s (d.take u) f ∧ f.Id ≠ (nth d (u : Int)).Id) ∨ ((nth d (u : Int)).Has = true ∧ f = (nth d (u : Int)).Now) := by
  have e : idsC (d.take (u + 1)) = idsC (d.take u) ++ [(nth d (u : Int)).Id] := by rw [take_nth d hu, idsC_app]; rfl
  have hm : nth d (u : Int) ∈ d := nth_mem d hu
  have hlt : ∀ c ∈ d.take u, Op.bytesLess c.Id (nth d (u : Int)).Id = true := fun c hc' => by
    have h := hc
    rw [← List.take_append_drop u d] at h
    refine (List.pairwise_append.1 h).2.2 c hc' _ ?_
    rw [nth_nat d hu, List.drop_eq_getElem_cons hu]; exact List.mem_cons_self
  unfold Mem
  rw [e, take_nth d hu]
  constructor
  · rintro (⟨h1, h2⟩ | ⟨c, h1, h2, rfl⟩)
    · rw [List.mem_append, List.mem_singleton] at h2
      exact .inl ⟨.inl ⟨h1, fun h => h2 (.inl h)⟩, fun h => h2 (.inr h)⟩
    · rcases List.mem_append.1 h1 with h1 | h1
      · refine .inl ⟨.inr ⟨c, h1, h2, rfl⟩, fun h => ?_⟩
        rw [(now_id hd (List.mem_of_mem_take h1) h2).1] at h
        have := hlt c h1
        rw [h, less_irr] at this; cases this
      · rw [List.mem_singleton] at h1
        subst h1
        exact .inr ⟨h2, rfl⟩
  · rintro (⟨h1 | ⟨c, h1, h2, rfl⟩, h3⟩ | ⟨h1, rfl⟩)
    · refine .inl ⟨h1.1, fun h => ?_⟩
      rcases List.mem_append.1 h with h | h
      · exact h1.2 h
      · exact h3 (List.mem_singleton.1 h)
    · exact .inr ⟨c, List.mem_append_left _ h1, h2, rfl⟩
    · exact .inr ⟨_, List.mem_append_right _ (List.mem_singleton.2 rfl), h1, rfl⟩
theorem Mem.zero (s : List Feat) (d : List Change) (f : Feat) : Mem s (d.take 0) f ↔ f ∈ s := by
  unfold Mem
  simp [idsC]
theorem three_r {α : Type} [DecidableEq α] (o a : α) : three o a o = (a, true) := by
  unfold three
  by_cases h : a = o
  · rw [if_pos h, h]
  · rw [if_neg h, if_pos rfl]
theorem three_l {α : Type} [DecidableEq α] (o b : α) : three o o b = (b, true) := by unfold three; rw [if_pos rfl]
theorem tagF_r (o a : value) : tagF o a o = (a, true) := by unfold tagF; rw [three_r, if_pos rfl]
theorem tagF_l (o b : value) : tagF o o b = (b, true) := by unfold tagF; rw [three_l, if_pos rfl]
theorem shapeF_r (o a : Shape) : shapeF o a o = (a, true) := by unfold shapeF; rw [three_r, if_pos rfl]
theorem shapeF_l (o b : Shape) : shapeF o o b = (b, true) := by unfold shapeF; rw [three_l, if_pos rfl]
def tagsOf (t : List Tag) (ks : List Str) : List Tag := (ks.filter fun k => (valT t k).has).map fun k => ⟨k, (valT t k).val⟩
theorem tagsL_r (o a : List Tag) (ks : List Str) : tagsL o a o ks = tagsOf a ks := by unfold tagsL tagsOf tagK; simp only [tagF_r]
theorem tagsL_l (o b : List Tag) (ks : List Str) : tagsL o o b ks = tagsOf b ks := by unfold tagsL tagsOf tagK; simp only [tagF_l]
theorem clashL_r (o a : List Tag) (ks : List Str) : clashL o a o ks = [] := by unfold clashL tagK; simp only [tagF_r]; simp
theorem clashL_l (o b : List Tag) (ks : List Str) : clashL o o b ks = [] := by unfold clashL tagK; simp only [tagF_l]; simp
theorem joinW_r (o a c : Feat) (h1 : c.Shape = o.Shape) (h2 : c.Tags = o.Tags) : joinW o a c = [] := by unfold joinW; rw [h1, h2, shapeF_r, clashL_r]; rfl
theorem joinW_l (o c b : Feat) (h1 : c.Shape = o.Shape) (h2 : c.Tags = o.Tags) : joinW o c b = [] := by unfold joinW; rw [h1, h2, shapeF_l, clashL_l]; rfl
theorem valT_hit {t : List Tag} {k : Str} (h : (valT t k).has = true) : ∃ x ∈ t, x.Key = k ∧ valT t k = ⟨true, x.Val⟩ := by
  unfold valT at h ⊢
  split at h
  · cases h
  · rename_i g
    rw [if_neg g]
    have h1 := findN_le t.length fun j => (nth t (j : Int)).Key == k
    obtain ⟨i, hi⟩ : ∃ i : Nat, findN t.length (fun j => (nth t (j : Int)).Key == k) = (i : Int) := ⟨_, (Int.toNat_of_nonneg (by omega)).symm⟩
    obtain ⟨h2, h3⟩ := findN_true hi
    rw [hi]
    exact ⟨_, nth_mem t h2, by simpa using h3, rfl⟩
theorem valT_iff {t : List Tag} {k : Str} : (valT t k).has = true ↔ k ∈ keysT t := by
  constructor
  · intro h
    obtain ⟨x, hx, e, _⟩ := valT_hit h
    exact List.mem_map.2 ⟨x, hx, e⟩
  · intro h
    unfold valT
    split
    · rename_i g
      obtain ⟨f, hf, rfl⟩ := List.mem_map.1 h
      obtain ⟨j, hj, rfl⟩ := List.getElem_of_mem hf
      have := findN_neg g j hj
      rw [nth_nat t hj] at this
      simp at this
    · rfl
theorem keys_inj : ∀ {t : List Tag}, SS (keysT t) → ∀ {x y : Tag}, x ∈ t → y ∈ t → x.Key = y.Key → x = y
  | [], _, _, _, h, _, _ => by cases h
  | a :: t, hs, x, y, hx, hy, e => by
    have h1 := List.pairwise_cons.1 hs
    rcases List.mem_cons.1 hx with rfl | hx' <;> rcases List.mem_cons.1 hy with rfl | hy'
    · rfl
    · have : Op.bytesLess x.Key y.Key = true := h1.1 y.Key (List.mem_map.2 ⟨y, hy', rfl⟩); rw [e, less_irr] at this; cases this
    · have : Op.bytesLess y.Key x.Key = true := h1.1 x.Key (List.mem_map.2 ⟨x, hx', rfl⟩); rw [e, less_irr] at this; cases this
    · exact keys_inj h1.2 hx' hy' e
theorem tagsOf_all {t : List Tag} {ks : List Str} (ht : SS (keysT t)) (hk : SS ks) (h : ∀ k ∈ keysT t, k ∈ ks) : tagsOf t ks = t := by
  unfold tagsOf
  have e : (ks.filter fun k => (valT t k).has) = keysT t := SS.ext (List.Pairwise.filter _ hk) ht fun k => by
    rw [List.mem_filter, valT_iff]
    exact ⟨fun g => g.2, fun g => ⟨h k g, g⟩⟩
  rw [e]
  unfold keysT
  rw [List.map_map]
  conv => rhs; rw [← List.map_id t]
  refine List.map_congr_left fun x hx => ?_
  obtain ⟨y, hy, e1, e2⟩ := valT_hit (valT_iff.2 (List.mem_map.2 ⟨x, hx, rfl⟩ : x.Key ∈ keysT t))
  have := keys_inj ht hy hx e1
  subst this
  simp only [Function.comp, e2, id]
theorem tags_ss {t : List Tag} (h : tagsOk t = true) : SS (keysT t) := by
  have h1 := allN_iff.1 h
  have hadj : ∀ k, 0 < k → k < t.length → Op.bytesLess (nth t ((k : Int) - 1)).Key (nth t (k : Int)).Key = true := fun k h0 hk => by
    have := h1 k hk
    simp only [Bool.and_eq_true, Bool.or_eq_true, decide_eq_true_eq] at this
    rcases this.2 with h | h
    · omega
    · exact h
  unfold SS keysT
  rw [List.pairwise_map]
  refine List.pairwise_iff_getElem.2 fun i j hi hj hij => ?_
  have key : ∀ d, i + d + 1 < t.length → Op.bytesLess t[i].Key (nth t ((i + d + 1 : Nat) : Int)).Key = true := by
    intro d
    induction d with
    | zero =>
      intro hd
      have := hadj (i + 0 + 1) (by omega) hd
      rw [show (((i + 0 + 1 : Nat) : Int) - 1) = (i : Int) by omega, nth_nat t hi] at this
      exact this
    | succ d ih =>
      intro hd
      have := hadj (i + (d + 1) + 1) (by omega) hd
      rw [show (((i + (d + 1) + 1 : Nat) : Int) - 1) = ((i + d + 1 : Nat) : Int) by omega] at this
      exact less_trans (ih (by omega)) this
  have := key (j - i - 1) (by omega)
  rw [show i + (j - i - 1) + 1 = j by omega, nth_nat t hj] at this
  exact this
theorem featOk_tags {f : Feat} (h : featOk f = true) : SS (keysT f.Tags) := by
  unfold featOk at h
  simp only [Bool.and_eq_true] at h
  exact tags_ss h.1.1.1
theorem joinF_r {o a : Feat} (ha : featOk a = true) : joinF o a o = a := by
  unfold joinF allKeys
  rw [shapeF_r, tagsL_r, tagsOf_all (featOk_tags ha) (uniq_ss _) (fun k hk => uniq_mem.2 (by rw [keys_app, keys_app]; exact List.mem_append_left _ (List.mem_append_right _ hk)))]
theorem joinF_l {o b : Feat} (hb : featOk b = true) (e : o.Id = b.Id) : joinF o o b = b := by
  unfold joinF allKeys
  rw [shapeF_l, tagsL_l, tagsOf_all (featOk_tags hb) (uniq_ss _) (fun k hk => uniq_mem.2 (by rw [keys_app, keys_app]; exact List.mem_append_right _ hk)), e]
theorem featJoin_r {o a : Feat} (ho : featOk o = true) (ha : featOk a = true) (e : o.Id = a.Id) : featJoin o a o = (a, []) := by
  unfold featJoin joinOf
  rw [joinF_r ha, joinW_r o a o rfl rfl, ho, ha, e]; simp
theorem featJoin_l {o b : Feat} (ho : featOk o = true) (hb : featOk b = true) (e : o.Id = b.Id) : featJoin o o b = (b, []) := by
  unfold featJoin joinOf
  rw [joinF_l hb e, joinW_l o o b rfl rfl, ho, hb, e]; simp
theorem tagsOk_of {t : List Tag} (hs : SS (keysT t)) (hw : ∀ x ∈ t, wordOk x.Key = true ∧ wordOk x.Val = true) : tagsOk t = true := by
  unfold tagsOk
  refine allN_true fun k hk => ?_
  obtain ⟨h1, h2⟩ := hw _ (nth_mem t hk)
  rw [h1, h2, Bool.true_and, Bool.true_and, Bool.or_eq_true, decide_eq_true_eq]
  rcases Nat.eq_zero_or_pos k with h0 | h0
  · exact .inl h0
  refine .inr ?_
  unfold SS keysT at hs
  have := List.pairwise_iff_getElem.1 (List.pairwise_map.1 hs) (k - 1) k (by omega) hk (by omega)
  rw [show ((k : Int) - 1) = ((k - 1 : Nat) : Int) by omega, nth_nat t hk, nth_nat t (by omega)]
  exact this
theorem shape_pos {s : Shape} (h : shapeOk s = true) : 1 ≤ s.Pts.length := by
  unfold shapeOk kindOk at h
  simp only [Bool.and_eq_true] at h
  have := h.2
  split at this
  · simp only [decide_eq_true_eq] at this; omega
  · split at this
    · simp only [Bool.and_eq_true, decide_eq_true_eq] at this; omega
    · split at this
      · simp only [Bool.and_eq_true, decide_eq_true_eq] at this; omega
      · cases this
theorem dot_ok {x y : Int} (h1 : 0 ≤ x) (h2 : x ≤ 5) (h3 : 0 ≤ y) (h4 : y ≤ 5) : shapeOk ⟨1, [⟨x, y⟩]⟩ = true := by
  have e : ptOk (⟨x, y⟩ : Pt) = true := by
    unfold ptOk inR
    simp only [Bool.and_eq_true, decide_eq_true_eq]; omega
  unfold shapeOk ptsOk kindOk
  rw [Bool.and_eq_true]
  refine ⟨allN_true fun k hk => ?_, by rw [if_pos rfl]; rfl⟩
  have hk : k < 1 := hk
  obtain rfl : k = 0 := by omega
  rw [Bool.and_eq_true]
  exact ⟨e, rfl⟩
def keyL : List Str := [[110, 97, 109, 101], [107, 105, 110, 100], [117, 115, 101], [116, 111, 110, 101]]
def valL : List Str := [[97], [98], [111, 97, 107], [97, 115, 104], [114, 111, 97, 100]]
def idL : List Str := [[97], [98], [99], [100], [101]]
def DT (x : Tag) : Prop := x.Key ∈ keyL ∧ x.Val ∈ valL
theorem keyL_ok : ∀ k ∈ keyL, wordOk k = true := by decide
theorem valL_ok : ∀ k ∈ valL, wordOk k = true := by decide
theorem idL_ok : ∀ k ∈ idL, wordOk k = true := by decide
def plainK (k : Str) : Prop := k ≠ [97, 97, 97] ∧ k ≠ [122, 122, 122]
theorem keyL_plain : ∀ k ∈ keyL, plainK k := by
  intro k hk
  simp only [keyL, List.mem_cons, List.not_mem_nil, or_false] at hk
  unfold plainK
  rcases hk with rfl | rfl | rfl | rfl <;> decide
theorem feat_of {id : Str} {s : Shape} {t : List Tag} (h1 : wordOk id = true) (h2 : shapeOk s = true) (h3 : SS (keysT t)) (h4 : t.length ≤ 4) (h5 : ∀ x ∈ t, wordOk x.Key = true ∧ wordOk x.Val = true) : featOk ⟨id, s, t⟩ = true := by
  unfold featOk
  dsimp only
  rw [tagsOk_of h3 h5, h1, h2, decide_eq_true h4]; rfl
structure FB (n : Nat) (f : Feat) : Prop where
  id : f.Id.length ≤ 7
  pts : f.Shape.Pts.length ≤ 7
  len : f.Tags.length ≤ n
  wd : ∀ x ∈ f.Tags, x.Key.length ≤ 6 ∧ x.Val.length ≤ 6
theorem FB.small {n : Nat} {f : Feat} (h : FB n f) : bulk f ≤ 14 + 13 * n := by
  have e : bulk f = bulk f.Id + (0 + bulk f.Shape.Pts) + bulk f.Tags := rfl
  have e2 : bulk f.Id = f.Id.length := bulk_str _
  have e3 : bulk f.Shape.Pts = f.Shape.Pts.length := bulk_flat (fun _ => rfl) _
  have hs := bulk_small f.Tags 12 fun t ht => by
    have := h.wd t ht
    have e : bulk t = bulk t.Key + bulk t.Val := rfl
    rw [e, bulk_str, bulk_str]; omega
  have : f.Tags.length * (12 + 1) ≤ n * 13 := Nat.mul_le_mul h.len (Nat.le_refl _)
  have := h.id; have := h.pts
  omega
theorem FB.of {f : Feat} (h : featOk f = true) : FB 4 f := by
  have := feat_facts h
  exact ⟨by omega, by omega, this.1, this.2.2.2.2⟩
theorem FB.mono {n m : Nat} {f : Feat} (h : FB n f) (hm : n ≤ m) : FB m f := ⟨h.id, h.pts, Nat.le_trans h.len hm, h.wd⟩
theorem FB.lens {n : Nat} {f : Feat} (h : FB n f) (hn : n ≤ 1000) : f.Shape.Pts.length ≤ 1048576 ∧ f.Tags.length ≤ 1048576 := ⟨Nat.le_trans h.pts (by decide), Nat.le_trans h.len (by omega)⟩
theorem DT.len {x : Tag} (h : DT x) : x.Key.length ≤ 6 ∧ x.Val.length ≤ 6 := ⟨word_len (keyL_ok _ h.1), word_len (valL_ok _ h.2)⟩
theorem DT.ok {x : Tag} (h : DT x) : wordOk x.Key = true ∧ wordOk x.Val = true := ⟨keyL_ok _ h.1, valL_ok _ h.2⟩
structure MB (n m : Nat) (s : List Feat) : Prop where
  len : s.length ≤ n
  fb : ∀ f ∈ s, FB m f
theorem MB.small {n m : Nat} {s : List Feat} (h : MB n m s) : bulk s ≤ n * (15 + 13 * m) := by
  have hs := bulk_small s (14 + 13 * m) fun f hf => (h.fb f hf).small
  have : s.length * (14 + 13 * m + 1) ≤ n * (15 + 13 * m) := Nat.mul_le_mul h.len (by omega)
  omega
theorem MB.of {s : List Feat} (h : sheetOk s = true) : MB 8 4 s := ⟨(sheet_ss h).2.1, fun f hf => FB.of ((sheet_ss h).2.2 f hf)⟩
theorem MB.mono {n n' m m' : Nat} {s : List Feat} (h : MB n m s) (h1 : n ≤ n') (h2 : m ≤ m') : MB n' m' s := ⟨Nat.le_trans h.len h1, fun f hf => (h.fb f hf).mono h2⟩
def zzI : Str := [122, 122]
theorem idL_nz : ∀ k ∈ idL, k ≠ zzI := by
  intro k hk
  simp only [idL, List.mem_cons, List.not_mem_nil, or_false] at hk
  rcases hk with rfl | rfl | rfl | rfl | rfl <;> decide
structure MD (s : List Feat) : Prop where
  mb : MB 14 4 s
  nz : ∀ f ∈ s, f.Id ≠ zzI
theorem MD.small {s : List Feat} (h : MD s) : bulk s ≤ 1048576 := Nat.le_trans h.mb.small (by decide)
theorem F46.law (b : List UInt8) (p : Int) (Q : Shape → Int → Prop) (hb : b.length ≤ 2000) (hp : 0 ≤ p) (hp1 : p ≤ 100000000) (hq : ∀ s p', shapeOk s = true → p ≤ p' → p' ≤ p + 40 → Q s p') : F46.E b p Q := by
 unfold F46.E
 refine F24.law _ _ _ _ hb hp (by omega) (by decide) fun k hk => F15.law _ _ _ _ hb (by omega) (by omega) fun v hv0 hv1 => ?_
 have hk' : 1 ≤ k ∧ k ≤ 3 := by
  simp only [List.mem_cons, List.not_mem_nil, or_false] at hk; omega
 have fin : ∀ (xs : List Pt) (z : Int), p ≤ z → z ≤ p + 30 → F45.E ⟨k, xs⟩ (fun r6 => (if !r6 then F105.E b z (fun r7 m4 => Q (⟨1, ([r7] : List Pt)⟩ : Shape) m4) else Q (⟨k, xs⟩ : Shape) z)) := fun xs z h1 h2 => by
  refine F45.law _ _ ?_
  cases h : shapeOk ⟨k, xs⟩ with
  | true => rw [if_neg (by decide)]; exact hq _ _ h h1 (by omega)
  | false => rw [if_pos (by decide)]; exact F105.law _ _ _ hb (by omega) (by omega) fun x y x0 x1 y0 y1 => hq _ _ (dot_ok x0 (by omega) y0 y1) (by omega) (by omega)
 refine ⟨by unfold I64; omega, fun w => 1 ≤ w ∧ w ≤ 6, by split <;> omega, ?_⟩
 rintro want ⟨w1, w2⟩
 refine ⟨fun i xs z => 0 ≤ i ∧ i ≤ 12 ∧ (xs.length : Int) ≤ i ∧ p + 2 ≤ z ∧ z ≤ p + 2 + 2 * i, fun i _ _ => (12 - i).toNat, ⟨by omega, by omega, by simp, by omega, by omega⟩, ?_⟩
 rintro i xs z ⟨h0, h1, h2, h3, h4⟩
 by_cases hi : i < 12
 case neg => rw [if_neg (by simpa using hi)]; exact fin _ _ (by omega) (by omega)
 rw [if_pos (by simpa using hi)]
 by_cases hl : (xs.length : Int) < F91.m want 6
 case neg => rw [if_neg (by simpa using hl)]; exact fin _ _ (by omega) (by omega)
 rw [if_pos (by simpa using hl)]
 refine F105.law _ _ _ hb (by omega) (by omega) fun x y x0 x1 y0 y1 => ⟨fun _ => True, ?_, fun v _ => ⟨fun ys => (ys.length : Int) ≤ i + 1, ?_, fun ys hys => ⟨by unfold I64; omega, ⟨by omega, by omega, hys, by omega, by omega⟩, by dsimp only; omega⟩⟩⟩
 ·by_cases h0 : (xs.length : Int) = 0
  ·rw [if_pos (by simpa using h0)]; trivial
  ·rw [if_neg (by simpa using h0)]
   refine ⟨fun _ => by unfold I64; omega, by omega, ?_⟩
   split
   ·split
    ·trivial
    ·exact ⟨by omega, trivial⟩
   ·trivial
 ·cases v with
  | true => rw [if_pos rfl]; exact ⟨by simp only [List.length_cons, List.length_nil]; omega, by simp only [List.length_append, List.length_cons, List.length_nil]; omega⟩
  | false => rw [if_neg (by decide)]; omega
theorem F33.law (b : List UInt8) (p : Int) (l : List Str) (Q : Str → Int → Prop) (hb : b.length ≤ 2000) (hp : 0 ≤ p) (hp1 : p ≤ 1099511627776) (hl : 0 < l.length) (hq : ∀ s ∈ l, Q s (p + 1)) : F33.E b p l Q := by
 unfold F33.E
 exact F15.law _ _ _ _ hb hp hp1 fun v h0 h1 => ⟨by omega, hq _ (nth_memi l h0 (by omega))⟩
theorem F94.law (b : List UInt8) (p : Int) (Q : Str → Int → Prop) (hb : b.length ≤ 2000) (hp : 0 ≤ p) (hp1 : p ≤ 1000000000) (hq : ∀ k ∈ keyL, Q k (p + 1)) : F94.E b p Q := by
 unfold F94.E
 exact F33.law _ _ _ _ hb hp (by omega) (by decide) hq
theorem F95.law (b : List UInt8) (p : Int) (Q : Str → Int → Prop) (hb : b.length ≤ 2000) (hp : 0 ≤ p) (hp1 : p ≤ 1000000000) (hq : ∀ k ∈ valL, Q k (p + 1)) : F95.E b p Q := by
 unfold F95.E
 exact F33.law _ _ _ _ hb hp (by omega) (by decide) hq
def PutT (s : List Tag) (key val : Str) (u : Nat) (xs : List Tag) (done : Bool) : Prop :=
 u ≤ s.length ∧ SS (keysT xs) ∧ (∀ x, x ∈ keysT xs ↔ x ∈ keysT (s.take u) ∨ (done = true ∧ x = key)) ∧ (done = false → (∀ x ∈ keysT (s.take u), Op.bytesLess x key = true) ∧ xs = s.take u) ∧
  (done = true → ∀ y ∈ keysT (s.drop u), Op.bytesLess key y = true) ∧ xs.length ≤ u + 1 ∧ (∀ z ∈ xs, z ∈ s ∨ z = ⟨key, val⟩)
theorem ss_snocT {l : List Str} {x : Str} (h : SS l) (hx : ∀ y ∈ l, Op.bytesLess y x = true) : SS (l ++ [x]) := by
 unfold SS
 rw [List.pairwise_append]
 exact ⟨h, List.pairwise_singleton _ _, fun a ha b hb => by rw [List.mem_singleton.1 hb]; exact hx a ha⟩
theorem keys_take {s : List Tag} {u : Nat} (hu : u < s.length) : keysT (s.take (u + 1)) = keysT (s.take u) ++ [(nth s (u : Int)).Key] := by rw [take_nth s hu, keys_app]; rfl
theorem keys_cut (s : List Tag) (u : Nat) : keysT s = keysT (s.take u) ++ keysT (s.drop u) := by rw [← keys_app, List.take_append_drop]
theorem dropNthT {s : List Tag} {u : Nat} (hu : u < s.length) : s.drop u = nth s (u : Int) :: s.drop (u + 1) := by rw [nth_nat s hu]; exact List.drop_eq_getElem_cons hu
theorem ss_ltT {s : List Tag} (h : SS (keysT s)) {u : Nat} (hu : u < s.length) : (∀ x ∈ keysT (s.take u), Op.bytesLess x (nth s (u : Int)).Key = true) ∧ ∀ y ∈ keysT (s.drop (u + 1)), Op.bytesLess (nth s (u : Int)).Key y = true := by
 have e := keys_cut s u
 rw [dropNthT hu] at e
 have e2 : keysT (nth s (u : Int) :: s.drop (u + 1)) = (nth s (u : Int)).Key :: keysT (s.drop (u + 1)) := rfl
 rw [e2] at e
 rw [e] at h
 obtain ⟨h1, h2, h3⟩ := List.pairwise_append.1 h
 exact ⟨fun x hx => h3 x hx _ List.mem_cons_self, (List.pairwise_cons.1 h2).1⟩
theorem F96.law (s : List Tag) (key val : Str) (Q : List Tag → Prop) (hl : s.length ≤ 1048576) (hs : SS (keysT s)) (hq : ∀ r, SS (keysT r) → (∀ x, x ∈ keysT r ↔ x ∈ keysT s ∨ x = key) → r.length ≤ s.length + 1 → (∀ z ∈ r, z ∈ s ∨ z = ⟨key, val⟩) → Q r) : F96.E s key val Q := by
 unfold F96.E
 refine ⟨fun xs done i => ∃ u : Nat, i = u ∧ PutT s key val u xs done, fun _ _ i => (s.length - i).toNat, ⟨0, rfl, Nat.zero_le _, by simp [keysT, SS], by simp [keysT], fun _ => ⟨by simp [keysT], by simp⟩, (fun h => by cases h), by simp, by simp⟩, ?_⟩
 rintro xs done _ ⟨u, rfl, hu, h1, h2, h3, h4, h5, h6⟩
 by_cases h : u < s.length
 ·rw [if_pos (by simpa using h)]
  obtain ⟨b1, b2⟩ := ss_ltT hs h
  have hin : nth s (u : Int) ∈ s := nth_mem s h
  have hdr : ∀ y ∈ keysT (s.drop u), y = (nth s (u : Int)).Key ∨ y ∈ keysT (s.drop (u + 1)) := fun y hy => by rw [dropNthT h] at hy; exact List.mem_cons.1 hy
  have hcur : (nth s (u : Int)).Key ∈ keysT (s.drop u) := by rw [dropNthT h]; exact List.mem_cons_self
  have hdr' : ∀ y ∈ keysT (s.drop (u + 1)), y ∈ keysT (s.drop u) := fun y hy => by rw [dropNthT h]; exact List.mem_cons_of_mem _ hy
  have stay : ∀ d, d = done → Op.bytesLess (nth s (u : Int)).Key key = true ∨ d = true → xs.length + 1 ≤ u + 1 + 1 → PutT s key val (u + 1) (xs ++ [nth s (u : Int)]) d := fun d hd hor hlen => by
   subst hd
   refine ⟨h, ?_, fun x => ?_, fun hdn => ⟨fun x hx => ?_, ?_⟩, fun hdn y hy => h4 hdn y (hdr' y hy), by simp only [List.length_append, List.length_singleton]; omega, fun z hz => ?_⟩
   ·rw [keys_app]
    refine ss_snocT h1 fun y hy => ?_
    rcases (h2 y).1 hy with hy | ⟨hd, rfl⟩
    ·exact b1 y hy
    ·exact h4 hd _ hcur
   ·rw [keys_app, List.mem_append, h2, keys_take h, List.mem_append]
    constructor
    ·rintro ((hx | hx) | hx)
     ·exact .inl (.inl hx)
     ·exact .inr hx
     ·exact .inl (.inr hx)
    ·rintro ((hx | hx) | hx)
     ·exact .inl (.inl hx)
     ·exact .inr hx
     ·exact .inl (.inr hx)
   ·rw [keys_take h] at hx
    rcases List.mem_append.1 hx with hx | hx
    ·exact (h3 hdn).1 x hx
    ·rw [List.mem_singleton.1 hx]
     rcases hor with hor | hor
     ·exact hor
     ·rw [hdn] at hor; cases hor
   ·rw [(h3 hdn).2, ← take_nth s h]
   ·rcases List.mem_append.1 hz with hz | hz
    ·exact h6 z hz
    ·rw [List.mem_singleton.1 hz]; exact .inl hin
  cases done with
  | true =>
   rw [if_neg (by decide)]
   have hlt := h4 rfl _ hcur
   have hne : (nth s (u : Int)).Key ≠ key := fun e => by rw [e, less_irr] at hlt; cases hlt
   refine ⟨by omega, ?_⟩
   rw [if_pos (by rw [bne_iff_ne]; exact hne)]
   exact ⟨by omega, by simp only [List.length_cons, List.length_nil]; omega, by omega, ⟨u + 1, by omega, stay true rfl (.inr rfl) (by omega)⟩, by dsimp only; omega⟩
  | false =>
   rw [if_pos (by decide)]
   obtain ⟨c1, c2⟩ := h3 rfl
   have hxl : xs.length = u := by rw [c2, List.length_take]; omega
   refine ⟨by omega, ?_⟩
   cases k : Op.bytesLess (nth s (u : Int)).Key key with
   | true =>
    rw [if_neg (by decide)]
    have hne : (nth s (u : Int)).Key ≠ key := fun e => by rw [e, less_irr] at k; cases k
    refine ⟨by omega, ?_⟩
    rw [if_pos (by rw [bne_iff_ne]; exact hne)]
    exact ⟨by omega, by simp only [List.length_cons, List.length_nil]; omega, by omega, ⟨u + 1, by omega, stay false rfl (.inl k) (by omega)⟩, by dsimp only; omega⟩
   | false =>
    rw [if_pos (by decide)]
    have g1 : SS (keysT (xs ++ [(⟨key, val⟩ : Tag)])) := by
     rw [keys_app]
     refine ss_snocT h1 fun y hy => ?_
     rcases (h2 y).1 hy with hy | ⟨hd, _⟩
     ·exact c1 y hy
     ·cases hd
    refine ⟨by simp only [List.length_cons, List.length_nil]; omega, by omega, ?_⟩
    by_cases hne : (nth s (u : Int)).Key = key
    ·rw [if_neg (by rw [hne]; simp)]
     refine ⟨by omega, ⟨u + 1, by omega, h, g1, fun x => ?_, (fun hd => by cases hd), fun _ y hy => by rw [← hne]; exact b2 y hy, by simp only [List.length_append, List.length_singleton]; omega, fun z hz => ?_⟩, by dsimp only; omega⟩
     ·rw [keys_app, List.mem_append, h2, keys_take h, List.mem_append, hne]
      show _ ∨ x ∈ [key] ↔ _
      rw [List.mem_singleton]
      constructor
      ·rintro ((hx | ⟨hd, _⟩) | hx)
       ·exact .inl (.inl hx)
       ·cases hd
       ·exact .inr ⟨rfl, hx⟩
      ·rintro ((hx | hx) | ⟨_, hx⟩)
       ·exact .inl (.inl hx)
       ·exact .inr hx
       ·exact .inr hx
     ·rcases List.mem_append.1 hz with hz | hz
      ·exact h6 z hz
      ·exact .inr (List.mem_singleton.1 hz)
    ·rw [if_pos (by rw [bne_iff_ne]; exact hne)]
     have hlt : Op.bytesLess key (nth s (u : Int)).Key = true := by
      rcases less_or k with g | g
      ·exact g
      ·exact absurd g.symm hne
     refine ⟨by omega, by simp only [List.length_append, List.length_cons, List.length_nil]; omega, by omega, ⟨u + 1, by omega, h, ?_, fun x => ?_, (fun hd => by cases hd), fun _ y hy => less_trans hlt (b2 y hy), by simp only [List.length_append, List.length_singleton]; omega, fun z hz => ?_⟩, by dsimp only; omega⟩
     ·rw [keys_app]
      refine ss_snocT g1 fun y hy => ?_
      rw [keys_app] at hy
      rcases List.mem_append.1 hy with hy | hy
      ·rcases (h2 y).1 hy with hy | ⟨hd, _⟩
       ·exact b1 y hy
       ·cases hd
      ·have hy : y = key := List.mem_singleton.1 hy
       rw [hy]; exact hlt
     ·rw [keys_app, keys_app, List.mem_append, List.mem_append, h2, keys_take h, List.mem_append]
      show (_ ∨ x ∈ [key]) ∨ x ∈ [(nth s (u : Int)).Key] ↔ _
      rw [List.mem_singleton, List.mem_singleton]
      constructor
      ·rintro (((hx | ⟨hd, _⟩) | hx) | hx)
       ·exact .inl (.inl hx)
       ·cases hd
       ·exact .inr ⟨rfl, hx⟩
       ·exact .inl (.inr hx)
      ·rintro ((hx | hx) | ⟨_, hx⟩)
       ·exact .inl (.inl (.inl hx))
       ·exact .inr hx
       ·exact .inl (.inr hx)
     ·rcases List.mem_append.1 hz with hz | hz
      ·rcases List.mem_append.1 hz with hz | hz
       ·exact h6 z hz
       ·exact .inr (List.mem_singleton.1 hz)
      ·rw [List.mem_singleton.1 hz]; exact .inl hin
 ·rw [if_neg (by simpa using h)]
  have : u = s.length := by omega
  subst this
  rw [List.take_length] at h2 h3
  cases done with
  | true =>
   rw [if_neg (by decide)]
   exact hq xs h1 (fun x => by rw [h2]; simp) h5 h6
  | false =>
   rw [if_pos (by decide)]
   obtain ⟨c1, c2⟩ := h3 rfl
   refine ⟨by simp only [List.length_cons, List.length_nil]; omega, hq _ ?_ (fun x => ?_) (by rw [c2]; simp) fun z hz => ?_⟩
   ·rw [keys_app]
    refine ss_snocT h1 fun y hy => ?_
    rcases (h2 y).1 hy with hy | ⟨hd, _⟩
    ·exact c1 y hy
    ·cases hd
   ·rw [keys_app, List.mem_append, h2]
    show _ ∨ x ∈ [key] ↔ _
    rw [List.mem_singleton]; simp
   ·rcases List.mem_append.1 hz with hz | hz
    ·exact h6 z hz
    ·exact .inr (List.mem_singleton.1 hz)
theorem keys_drawn {s : List Tag} {k v : Str} (hk : k ∈ keyL) (hv : v ∈ valL) (h : ∀ x ∈ s, DT x) {r : List Tag} (hr : ∀ z ∈ r, z ∈ s ∨ z = ⟨k, v⟩) : ∀ x ∈ r, DT x := fun x hx => by
 rcases hr x hx with g | rfl
 ·exact h x g
 ·exact ⟨hk, hv⟩
theorem F58.law (b : List UInt8) (p : Int) (id : Str) (Q : Feat → Int → Prop) (hb : b.length ≤ 2000) (hp : 0 ≤ p) (hp1 : p ≤ 10000000) (hq : ∀ s t p', shapeOk s = true → SS (keysT t) → t.length ≤ 3 → (∀ x ∈ t, DT x) → p ≤ p' → p' ≤ p + 60 → Q ⟨id, s, t⟩ p') : F58.E b p id Q := by
 unfold F58.E
 refine F46.law _ _ _ hb hp (by omega) fun s p1 hs p0 p2 => F15.law _ _ _ _ hb (by omega) (by omega) fun k hk0 hk1 => ?_
 refine ⟨fun i t z => 0 ≤ i ∧ i ≤ 3 ∧ SS (keysT t) ∧ (t.length : Int) + i ≤ 3 ∧ (∀ x ∈ t, DT x) ∧ p ≤ z ∧ z ≤ p + 41 + 2 * (3 - i), fun i _ _ => i.toNat, ⟨by omega, by omega, List.Pairwise.nil, by simp only [List.length_nil]; omega, by simp, by omega, by omega⟩, ?_⟩
 rintro i t z ⟨h0, h1, h2, h3, h4, h5, h6⟩
 by_cases hi : i > 0
 case neg => rw [if_neg (by simpa using hi)]; exact hq _ _ _ hs h2 (by omega) h4 h5 (by omega)
 rw [if_pos (by simpa using hi)]
 refine F94.law _ _ _ hb (by omega) (by omega) fun key hkey => F95.law _ _ _ hb (by omega) (by omega) fun val hval => F96.law _ _ _ _ (by omega) h2 fun r r1 r2 r3 r4 => ⟨by unfold I64; omega, ⟨by omega, by omega, r1, by omega, keys_drawn hkey hval h4 r4, by omega, by omega⟩, by dsimp only; omega⟩
theorem feat_drawn {id : Str} {s : Shape} {t : List Tag} (h1 : wordOk id = true) (h2 : shapeOk s = true) (h3 : SS (keysT t)) (h4 : t.length ≤ 3) (h5 : ∀ x ∈ t, DT x) : featOk ⟨id, s, t⟩ = true := feat_of h1 h2 h3 (by omega) fun x hx => (h5 x hx).ok
theorem F106.law (b : List UInt8) (p : Int) (Q : Str → Int → Prop) (hb : b.length ≤ 2000) (hp : 0 ≤ p) (hp1 : p ≤ 1000000000) (hq : ∀ k ∈ idL, Q k (p + 1)) : F106.E b p Q := by
 unfold F106.E
 exact F33.law _ _ _ _ hb hp (by omega) (by decide) hq
theorem F66.law (b : List UInt8) (p : Int) (Q : Shape → Int → Prop) (hb : b.length ≤ 2000) (hp : 0 ≤ p) (hp1 : p ≤ 10000000) (hq : ∀ s p', s.Pts.length ≤ 7 → p ≤ p' → p' ≤ p + 50 → Q s p') : F66.E b p Q := by
 unfold F66.E
 refine F46.law _ _ _ hb hp (by omega) fun s p1 hs p0 p2 => F15.law _ _ _ _ hb (by omega) (by omega) fun k hk0 hk1 => F15.law _ _ _ _ hb (by omega) (by omega) fun v hv0 hv1 => ?_
 have l1 := shape_pos hs
 have l2 := shape_pts hs
 split
 ·exact F24.law _ _ _ _ hb (by omega) (by omega) (by decide) fun n hn => hq _ _ (by dsimp only; omega) (by omega) (by omega)
 split
 ·exact F24.law _ _ _ _ hb (by omega) (by omega) (by decide) fun n hn => ⟨by omega, hq _ _ (by simp only [List.length_set]; omega) (by omega) (by omega)⟩
 split
 ·exact ⟨fun _ => by unfold I64; omega, by omega, by simp only [List.length_cons, List.length_nil]; omega, hq _ _ (by simp only [List.length_append, List.length_cons, List.length_nil]; omega) (by omega) (by omega)⟩
 split
 ·exact ⟨by omega, hq _ _ (by simp only [List.length_take, List.length_drop]; omega) (by omega) (by omega)⟩
 exact hq _ _ (by omega) (by omega) (by omega)
theorem F67.law (b : List UInt8) (p : Int) (Q : Feat → Int → Prop) (hb : b.length ≤ 2000) (hp : 0 ≤ p) (hp1 : p ≤ 1000000) (hq : ∀ f p', FB 4 f → (∀ x ∈ f.Tags, plainK x.Key) → f.Id ≠ zzI → p ≤ p' → p' ≤ p + 120 → Q f p') : F67.E b p Q := by
 unfold F67.E
 refine F106.law _ _ _ hb hp (by omega) fun id hid => F58.law _ _ _ _ hb (by omega) (by omega) fun s t p1 hs ht tl td p2 p3 => F15.law _ _ _ _ hb (by omega) (by omega) fun v hv0 hv1 => ?_
 have li := word_len (idL_ok _ hid)
 have lp := shape_pts hs
 have tp : ∀ x ∈ t, plainK x.Key := fun x hx => keyL_plain _ (td x hx).1
 have tw : ∀ x ∈ t, x.Key.length ≤ 6 ∧ x.Val.length ≤ 6 := fun x hx => (td x hx).len
 have iz := idL_nz _ hid
 split
 ·refine F33.law _ _ _ _ hb (by omega) (by omega) (by decide) fun w hw => hq _ _ ⟨?_, by dsimp only; omega, by dsimp only; omega, tw⟩ tp ?_ (by omega) (by omega)
  all_goals
   simp only [List.mem_cons, List.not_mem_nil, or_false] at hw
   dsimp only
   rcases hw with rfl | rfl | rfl <;> decide
 split
 ·exact F66.law _ _ _ hb (by omega) (by omega) fun s' p4 h4 h5 h6 => hq _ _ ⟨by dsimp only; omega, h4, by dsimp only; omega, tw⟩ tp iz (by omega) (by omega)
 split
 ·refine ⟨by simp only [List.length_cons, List.length_nil]; omega, hq _ _ ⟨by dsimp only; omega, by dsimp only; omega, by simp only [List.length_append, List.length_cons, List.length_nil]; omega, fun x hx => ?_⟩ (fun x hx => ?_) iz (by omega) (by omega)⟩
  ·rcases List.mem_append.1 hx with hx | hx
   ·exact tw x hx
   ·rw [List.mem_singleton.1 hx]; decide
  ·rcases List.mem_append.1 hx with hx | hx
   ·exact tp x hx
   ·rw [List.mem_singleton.1 hx]; unfold plainK; dsimp only; decide
 split
 ·refine F33.law _ _ _ _ hb (by omega) (by omega) (by decide) fun w hw => ⟨by simp only [List.length_cons, List.length_nil]; omega, hq _ _ ⟨by dsimp only; omega, by dsimp only; omega, by simp only [List.length_append, List.length_cons, List.length_nil]; omega, fun x hx => ?_⟩ (fun x hx => ?_) iz (by omega) (by omega)⟩
  ·rcases List.mem_append.1 hx with hx | hx
   ·exact tw x hx
   ·rw [List.mem_singleton.1 hx]
    simp only [List.mem_cons, List.not_mem_nil, or_false] at hw
    rcases hw with rfl | rfl <;> decide
  ·rcases List.mem_append.1 hx with hx | hx
   ·exact tp x hx
   ·rw [List.mem_singleton.1 hx]; unfold plainK; dsimp only; decide
 exact hq _ _ ⟨by dsimp only; omega, by dsimp only; omega, by dsimp only; omega, tw⟩ tp iz (by omega) (by omega)
theorem F61.law (b : List UInt8) (p : Int) (s : Shape) (Q : Shape → Int → Prop) (hb : b.length ≤ 2000) (hp : 0 ≤ p) (hp1 : p ≤ 10000000) (hs : s.Pts.length ≤ 1000) (hq : ∀ r p', (r = s ∨ shapeOk r = true) → p ≤ p' → p' ≤ p + 4 → Q r p') : F61.E b p s Q := by
 unfold F61.E
 by_cases h0 : (s.Pts.length : Int) = 0
 ·rw [if_pos (by simpa using h0)]; exact hq _ _ (.inl rfl) (by omega) (by omega)
 rw [if_neg (by simpa using h0)]
 refine F15.law _ _ _ _ hb hp (by omega) fun k hk0 hk1 => ⟨by omega, by simp only [List.length_take, List.length_drop, List.length_nil]; omega, F15.law _ _ _ _ hb (by omega) (by omega) fun v hv0 hv1 => ?_⟩
 have fin : ∀ (r : Shape) (z : Int), p ≤ z → z ≤ p + 4 → F45.E r (fun r5 => (if !r5 then Q s z else Q r z)) := fun r z h1 h2 => by
  refine F45.law _ _ ?_
  cases h : shapeOk r with
  | true => rw [if_neg (by decide)]; exact hq _ _ (.inr h) h1 h2
  | false => rw [if_pos (by decide)]; exact hq _ _ (.inl rfl) h1 h2
 split
 ·exact ⟨by omega, F105.law _ _ _ hb (by omega) (by omega) fun x y _ _ _ _ => ⟨by simp only [List.length_append, List.length_take, List.length_drop, List.length_nil, List.length_cons]; omega, by simp only [List.length_append, List.length_take, List.length_drop, List.length_nil, List.length_cons]; omega, fin _ _ (by omega) (by omega)⟩⟩
 split
 ·exact ⟨fun _ => by unfold I64; omega, by omega, by simp only [List.length_append, List.length_take, List.length_drop, List.length_nil, List.length_cons]; omega, fin _ _ (by omega) (by omega)⟩
 exact ⟨fun _ => by unfold I64; omega, by omega, F105.law _ _ _ hb (by omega) (by omega) fun x y _ _ _ _ => ⟨by simp only [List.length_append, List.length_take, List.length_drop, List.length_nil, List.length_cons]; omega, by simp only [List.length_append, List.length_take, List.length_drop, List.length_nil, List.length_cons]; omega, fin _ _ (by omega) (by omega)⟩⟩
theorem F60.law (f : Feat) (Q : Feat → Prop) (hb : bulk f ≤ 1048576) (hq : Q f) : F60.E f Q := by
 unfold F60.E F59.E
 have h := bulk_feat f
 have h1 := bulk_len f.Tags
 have h2 := bulk_len f.Shape.Pts
 exact ⟨by simp only [List.length_nil]; omega, by simp only [List.length_nil]; omega, hq⟩
theorem F62.law (s : Str) (Q : Bool → Prop) (hq : Q (wordOk s)) : F62.E s Q := by
 unfold F62.E
 unfold wordOk at hq
 refine loop_all s.length (fun k => byteOk (nth s (k : Int))) (fun I mu k hk hp hn => ?_) (fun ha => ?_)
 ·refine ⟨by omega, ?_⟩
  cases h1 : decide (((nth s (k : Int)).toNat : Int) < 97) with
  | true => rw [if_pos rfl]; rw [allN_false hk (by simp only [byteOk, h1]; rfl), Bool.false_and] at hq; exact hq
  | false =>
   rw [if_neg (by decide)]
   refine ⟨by omega, ?_⟩
   cases h2 : decide (((nth s (k : Int)).toNat : Int) > 122) with
   | true => rw [if_pos rfl]; rw [allN_false hk (by simp only [byteOk, h1, h2]; rfl), Bool.false_and] at hq; exact hq
   | false =>
    rw [if_neg (by decide)]
    obtain ⟨i1, i2⟩ := hn (by simp only [byteOk, h1, h2]; rfl)
    exact ⟨by omega, i1, i2⟩
 ·rw [allN_true ha, Bool.true_and] at hq
  by_cases h : 1 ≤ s.length
  ·rw [decide_eq_true h, Bool.true_and] at hq
   rw [if_pos (by rw [decide_eq_true_eq]; omega)]
   have e2 : decide ((s.length : Int) ≤ 6) = decide (s.length ≤ 6) := decide_eq_decide.2 (by omega)
   rw [e2]; exact hq
  ·rw [decide_eq_false h, Bool.false_and] at hq
   rw [if_neg (by rw [decide_eq_true_eq]; omega)]; exact hq
theorem F63.law (t : List Tag) (Q : Bool → Prop) (hq : Q (tagsOk t && decide (t.length ≤ 4))) : F63.E t Q := by
 unfold F63.E
 unfold tagsOk at hq
 refine loop_all t.length (fun k => wordOk (nth t (k : Int)).Key && wordOk (nth t (k : Int)).Val && (decide (k = 0) || Op.bytesLess (nth t ((k : Int) - 1)).Key (nth t (k : Int)).Key)) (fun I mu k hk hp hn => ?_) (fun ha => ?_)
 ·have bad : (wordOk (nth t (k : Int)).Key && wordOk (nth t (k : Int)).Val && (decide (k = 0) || Op.bytesLess (nth t ((k : Int) - 1)).Key (nth t (k : Int)).Key)) = false → Q false := fun h => by
   rw [allN_false hk h, Bool.false_and] at hq; exact hq
  refine ⟨by omega, _, F62.law _ _ rfl, ?_⟩
  cases h1 : wordOk (nth t (k : Int)).Key with
  | false => rw [if_pos (by decide)]; exact bad (by rw [h1]; rfl)
  | true =>
   rw [if_neg (by decide)]
   refine ⟨by omega, _, F62.law _ _ rfl, ?_⟩
   cases h2 : wordOk (nth t (k : Int)).Val with
   | false => rw [if_pos (by decide)]; exact bad (by rw [h2, Bool.and_false]; rfl)
   | true =>
    rw [if_neg (by decide)]
    by_cases hk0 : k = 0
    ·rw [if_neg (by rw [decide_eq_true_eq]; omega)]
     obtain ⟨i1, i2⟩ := hn (by rw [h1, h2, decide_eq_true hk0]; rfl)
     exact ⟨by omega, i1, i2⟩
    ·rw [if_pos (by rw [decide_eq_true_eq]; omega)]
     refine ⟨by omega, fun _ => by unfold I64; omega, by omega, ?_⟩
     rw [← less_tri]
     cases h3 : Op.bytesLess (nth t ((k : Int) - 1)).Key (nth t (k : Int)).Key with
     | false => rw [if_pos (by decide)]; exact bad (by rw [h3, h1, h2, decide_eq_false hk0]; rfl)
     | true =>
      rw [if_neg (by decide)]
      obtain ⟨i1, i2⟩ := hn (by rw [h3, h1, h2, decide_eq_false hk0]; rfl)
      exact ⟨by omega, i1, i2⟩
 ·rw [allN_true ha, Bool.true_and] at hq
  have e2 : decide ((t.length : Int) ≤ 4) = decide (t.length ≤ 4) := decide_eq_decide.2 (by omega)
  rw [e2]; exact hq
theorem F64.law (f : Feat) (Q : Bool → Prop) (hq : Q (featOk f)) : F64.E f Q := by
 unfold F64.E
 unfold featOk at hq
 refine F62.law _ _ ?_
 cases h1 : wordOk f.Id with
 | false => rw [h1, Bool.and_false, Bool.false_and] at hq; rw [if_neg (by decide)]; exact hq
 | true =>
  rw [h1, Bool.and_true] at hq
  rw [if_pos rfl]
  refine F45.law _ _ ?_
  cases h2 : shapeOk f.Shape with
  | false => rw [h2, Bool.and_false] at hq; rw [if_neg (by decide)]; exact hq
  | true => rw [h2, Bool.and_true] at hq; rw [if_pos rfl]; exact F63.law _ _ hq
theorem F65.law (b : List UInt8) (p : Int) (f : Feat) (Q : Feat → Int → Prop) (hb : b.length ≤ 2000) (hp : 0 ≤ p) (hp1 : p ≤ 1000000) (hf : featOk f = true) (hq : ∀ r p', featOk r = true → r.Id = f.Id → p ≤ p' → p' ≤ p + 20 → Q r p') : F65.E b p f Q := by
 unfold F65.E
 have ff := feat_facts hf
 refine F60.law _ _ (Nat.le_trans (feat_small hf).1 (by decide)) (F15.law _ _ _ _ hb hp (by omega) fun k hk0 hk1 => ⟨by unfold I64; omega, ?_⟩)
 refine ⟨fun i kd pts t z => 0 ≤ i ∧ i ≤ 2 ∧ pts.length ≤ 6 ∧ SS (keysT t) ∧ (t.length : Int) ≤ 4 + (2 - i) ∧ p ≤ z ∧ z ≤ p + 1 + 5 * (2 - i), fun i _ _ _ _ => i.toNat, ⟨by omega, by omega, ff.2.2.1, featOk_tags hf, by omega, by omega, by omega⟩, ?_⟩
 rintro i kd pts t z ⟨h0, h1, h2, h3, h4, h5, h6⟩
 by_cases hi : i > 0
 case neg =>
  rw [if_neg (by simpa using hi)]
  refine F64.law _ _ ?_
  cases h : featOk ⟨f.Id, ⟨kd, pts⟩, t⟩ with
  | true => rw [if_neg (by decide)]; exact hq _ _ h rfl h5 (by omega)
  | false => rw [if_pos (by decide)]; exact hq _ _ hf rfl h5 (by omega)
 rw [if_pos (by simpa using hi)]
 refine F15.law _ _ _ _ hb (by omega) (by omega) fun v hv0 hv1 => ?_
 split
 ·exact F94.law _ _ _ hb (by omega) (by omega) fun key hkey => F95.law _ _ _ hb (by omega) (by omega) fun val hval => F96.law _ _ _ _ (by omega) h3 fun r r1 r2 r3 r4 => ⟨by unfold I64; omega, ⟨by omega, by omega, h2, r1, by omega, by omega, by omega⟩, by dsimp only; omega⟩
 split
 ·split
  ·rename_i g
   have g : (t.length : Int) > 0 := by simpa using g
   refine ⟨by omega, fun _ => by unfold I64; omega, ⟨by omega, by omega, h2, ?_, by simp only [List.length_take, List.length_drop]; omega, by omega, by omega⟩, by dsimp only; omega⟩
   unfold SS keysT at h3 ⊢
   exact List.Pairwise.sublist (((List.take_sublist _ _).trans (List.drop_sublist _ _)).map _) h3
  ·exact ⟨fun _ => by unfold I64; omega, ⟨by omega, by omega, h2, h3, by omega, by omega, by omega⟩, by dsimp only; omega⟩
 refine F61.law _ _ _ _ hb (by omega) (by omega) (by dsimp only; omega) fun r p' hr p1 p2 => ⟨by unfold I64; omega, ⟨by omega, by omega, ?_, h3, by omega, by omega, by omega⟩, by dsimp only; omega⟩
 rcases hr with rfl | hr
 ·exact h2
 ·exact shape_pts hr
theorem F11.law (code : List UInt8) (Q : Feat → Feat → Feat → Prop) (hq : ∀ o a b, FB 4 o → FB 4 a → FB 4 b → (∀ x ∈ o.Tags, plainK x.Key) → Q o a b) : F11.E code Q := by
 unfold F11.E
 refine F44.law _ _ fun b hb => F58.law _ _ _ _ hb (by omega) (by omega) fun s t p hs ht tl td p0 p1 => ?_
 have ho : featOk ⟨[97], s, t⟩ = true := feat_drawn (by decide) hs ht tl td
 have tp : ∀ x ∈ t, plainK x.Key := fun x hx => keyL_plain _ (td x hx).1
 refine F65.law _ _ _ _ hb (by omega) (by omega) ho fun a p2 ha _ p3 p4 => F65.law _ _ _ _ hb (by omega) (by omega) ho fun c p5 hc _ p6 p7 => F15.law _ _ _ _ hb (by omega) (by omega) fun v hv0 hv1 => ?_
 split
 ·exact F67.law _ _ _ hb (by omega) (by omega) fun o' p' h1 h2 _ _ _ => hq _ _ _ h1 (.of ha) (.of hc) h2
 split
 ·exact F67.law _ _ _ hb (by omega) (by omega) fun o' p' h1 h2 _ _ _ => hq _ _ _ (.of ho) h1 (.of hc) tp
 split
 ·exact F58.law _ _ _ _ hb (by omega) (by omega) fun s' t' p' hs' ht' tl' td' _ _ => hq _ _ _ (.of ho) (.of (feat_drawn (by decide) hs' ht' tl' td')) (.of hc) tp
 split
 ·exact F60.law _ _ (Nat.le_trans (feat_small ha).1 (by decide)) (hq _ _ _ (.of ho) (.of ha) (.of ha) tp)
 exact hq _ _ _ (.of ho) (.of ha) (.of hc) tp
theorem F68.law (n lo hi : Int) (Q : Bool → Prop) (hq : Q (decide (lo ≤ n) && decide (n ≤ hi))) : F68.E n lo hi Q := by
 unfold F68.E
 by_cases h : lo ≤ n
 ·rw [if_pos (by simpa using h)]; rw [decide_eq_true h, Bool.true_and] at hq; exact hq
 ·rw [if_neg (by simpa using h)]; rw [decide_eq_false h, Bool.false_and] at hq; exact hq
theorem F68.m_is (n lo hi : Int) : F68.m n lo hi = (decide (lo ≤ n) && decide (n ≤ hi)) := by
 unfold F68.m
 by_cases h : lo ≤ n
 ·rw [if_pos (by simpa using h), decide_eq_true h, Bool.true_and]
 ·rw [if_neg (by simpa using h), decide_eq_false h, Bool.false_and]
theorem F69.law (s : Str) (Q : Bool → Prop) (hl : s.length ≤ 1048576) (hq : Q (wordOk s)) : F69.E s Q := by
 unfold F69.E
 unfold wordOk at hq
 refine loop_all s.length (fun k => byteOk (nth s (k : Int))) (fun I mu k hk hp hn => ?_) (fun ha => ?_)
 ·refine ⟨by omega, ?_⟩
  cases h1 : decide (((nth s (k : Int)).toNat : Int) < 97) with
  | true => rw [if_pos rfl]; rw [allN_false hk (by simp only [byteOk, h1]; rfl), Bool.false_and] at hq; exact hq
  | false =>
   rw [if_neg (by decide)]
   refine ⟨by omega, ?_⟩
   cases h2 : decide (((nth s (k : Int)).toNat : Int) > 122) with
   | true => rw [if_pos rfl]; rw [allN_false hk (by simp only [byteOk, h1, h2]; rfl), Bool.false_and] at hq; exact hq
   | false =>
    rw [if_neg (by decide)]
    obtain ⟨i1, i2⟩ := hn (by simp only [byteOk, h1, h2]; rfl)
    exact ⟨by unfold I64; omega, i1, i2⟩
 ·rw [allN_true ha, Bool.true_and] at hq
  refine F68.law _ _ _ _ ?_
  have e1 : decide ((1 : Int) ≤ (s.length : Int)) = decide (1 ≤ s.length) := decide_eq_decide.2 (by omega)
  have e2 : decide ((s.length : Int) ≤ 6) = decide (s.length ≤ 6) := decide_eq_decide.2 (by omega)
  rw [e1, e2]; exact hq
theorem F107.law (p : Pt) (Q : Bool → Prop) (hq : Q (ptOk p)) : F107.E p Q := by
 unfold F107.E
 unfold ptOk at hq
 refine F68.law _ _ _ _ ?_
 change if inR p.X = true then _ else _
 cases h : inR p.X with
 | true => rw [if_pos rfl]; rw [h, Bool.true_and] at hq; exact F68.law _ _ _ _ hq
 | false => rw [if_neg (by decide)]; rw [h, Bool.false_and] at hq; exact hq
theorem F47.law (s : Shape) (Q : Bool → Prop) (hl : s.Pts.length ≤ 1048576) (hq : Q (shapeOk s)) : F47.E s Q := by
 unfold F47.E
 unfold shapeOk ptsOk at hq
 refine loop_all s.Pts.length (fun k => ptOk (nth s.Pts (k : Int)) && (decide (k = 0) || !(decide (nth s.Pts ((k : Int) - 1) = nth s.Pts (k : Int))))) (fun I mu k hk hp hn => ?_) (fun ha => ?_)
 ·refine ⟨by omega, _, F107.law _ _ rfl, ?_⟩
  have bad : (ptOk (nth s.Pts (k : Int)) && (decide (k = 0) || !(decide (nth s.Pts ((k : Int) - 1) = nth s.Pts (k : Int))))) = false → Q false := fun h => by
   rw [allN_false hk h, Bool.false_and] at hq; exact hq
  cases h1 : ptOk (nth s.Pts (k : Int)) with
  | false => rw [if_pos (by decide)]; exact bad (by rw [h1]; rfl)
  | true =>
   rw [if_neg (by decide)]
   by_cases hk0 : k = 0
   ·rw [if_neg (by rw [decide_eq_true_eq]; omega)]
    obtain ⟨i1, i2⟩ := hn (by rw [h1, decide_eq_true hk0]; rfl)
    exact ⟨by unfold I64; omega, i1, i2⟩
   ·rw [if_pos (by rw [decide_eq_true_eq]; omega)]
    refine ⟨by unfold I64; omega, by omega, ?_⟩
    rw [eqPt_is]
    by_cases he : nth s.Pts ((k : Int) - 1) = nth s.Pts (k : Int)
    ·rw [if_pos (by rw [decide_eq_true_eq]; exact he)]
     exact bad (by rw [h1, decide_eq_false hk0, decide_eq_true he]; rfl)
    ·rw [if_neg (by rw [decide_eq_true_eq]; exact he)]
     obtain ⟨i1, i2⟩ := hn (by simp only [h1, decide_eq_false hk0, decide_eq_false he]; rfl)
     exact ⟨by unfold I64; omega, i1, i2⟩
 ·rw [allN_true ha, Bool.true_and] at hq
  unfold kindOk at hq
  by_cases k1 : s.Kind = 1
  ·rw [if_pos k1] at hq
   rw [if_pos (by rw [beq_iff_eq]; exact k1)]
   have : ((s.Pts.length : Int) == 1) = decide (s.Pts.length = 1) := by rw [Bool.eq_iff_iff, beq_iff_eq, decide_eq_true_eq]; omega
   rw [this]; exact hq
  rw [if_neg k1] at hq
  rw [if_neg (by rw [beq_iff_eq]; exact k1)]
  have e2 : decide ((2 : Int) ≤ (s.Pts.length : Int)) = decide (2 ≤ s.Pts.length) := decide_eq_decide.2 (by omega)
  have e3 : decide ((3 : Int) ≤ (s.Pts.length : Int)) = decide (3 ≤ s.Pts.length) := decide_eq_decide.2 (by omega)
  have e6 : decide ((s.Pts.length : Int) ≤ 6) = decide (s.Pts.length ≤ 6) := decide_eq_decide.2 (by omega)
  by_cases k2 : s.Kind = 2
  ·rw [if_pos k2] at hq
   rw [if_pos (by rw [beq_iff_eq]; exact k2)]
   refine F68.law _ _ _ _ ?_
   rw [e2, e6]; exact hq
  rw [if_neg k2] at hq
  rw [if_neg (by rw [beq_iff_eq]; exact k2)]
  by_cases k3 : s.Kind = 3
  ·rw [if_pos k3] at hq
   rw [if_pos (by rw [beq_iff_eq]; exact k3), F68.m_is, e3, e6]
   cases hc : decide (3 ≤ s.Pts.length) && decide (s.Pts.length ≤ 6) with
   | true =>
    rw [hc, Bool.true_and] at hq
    rw [Bool.and_eq_true, decide_eq_true_eq, decide_eq_true_eq] at hc
    rw [if_pos rfl, eqPt_is]
    exact ⟨by omega, fun _ => by unfold I64; omega, by omega, hq⟩
   | false =>
    rw [hc, Bool.false_and] at hq
    rw [if_neg (by decide)]; exact hq
  ·rw [if_neg k3] at hq
   rw [if_neg (by rw [beq_iff_eq]; exact k3)]; exact hq
theorem F70.law (f : Feat) (Q : Bool → Prop) (hb : bulk f ≤ 1048576) (hq : Q (featOk f)) : F70.E f Q := by
 unfold F70.E
 unfold featOk at hq
 have b1 : bulk f = bulk f.Id + bulk f.Shape + bulk f.Tags := rfl
 have b2 : bulk f.Shape = bulk f.Shape.Kind + bulk f.Shape.Pts := rfl
 have l1 := bulk_len f.Tags; have l2 := bulk_len f.Shape.Pts; have l3 := bulk_len f.Id
 have core : (tagsOk f.Tags = true → F69.E f.Id (fun r3 => (if r3 then F47.E f.Shape (fun r4 => (if r4 then Q (decide ((f.Tags.length : Int) ≤ 4)) else Q false)) else Q false))) := fun ha => by
  rw [ha, Bool.true_and] at hq
  refine F69.law _ _ (by omega) ?_
  cases h1 : wordOk f.Id with
  | false => rw [h1, Bool.and_false, Bool.false_and] at hq; rw [if_neg (by decide)]; exact hq
  | true =>
   rw [h1, Bool.and_true] at hq
   rw [if_pos rfl]
   refine F47.law _ _ (by omega) ?_
   cases h2 : shapeOk f.Shape with
   | false => rw [h2, Bool.and_false] at hq; rw [if_neg (by decide)]; exact hq
   | true =>
    rw [h2, Bool.and_true] at hq; rw [if_pos rfl]
    have e2 : decide ((f.Tags.length : Int) ≤ 4) = decide (f.Tags.length ≤ 4) := decide_eq_decide.2 (by omega)
    rw [e2]; exact hq
 have bad : tagsOk f.Tags = false → Q false := fun h => by
  rw [h, Bool.false_and, Bool.false_and, Bool.false_and] at hq; exact hq
 unfold tagsOk at core bad
 refine loop_all f.Tags.length (fun k => wordOk (nth f.Tags (k : Int)).Key && wordOk (nth f.Tags (k : Int)).Val && (decide (k = 0) || Op.bytesLess (nth f.Tags ((k : Int) - 1)).Key (nth f.Tags (k : Int)).Key)) (fun I mu k hk hp hn => ?_) (fun ha => core (allN_true ha))
 have bad := fun h => bad (allN_false hk h)
 have m1 := bulk_mem (nth_mem f.Tags hk)
 have m2 : bulk (nth f.Tags (k : Int)) = bulk (nth f.Tags (k : Int)).Key + bulk (nth f.Tags (k : Int)).Val := rfl
 have m3 := bulk_len (nth f.Tags (k : Int)).Key; have m4 := bulk_len (nth f.Tags (k : Int)).Val
 refine ⟨by omega, _, F69.law _ _ (by omega) rfl, ?_⟩
 cases h1 : wordOk (nth f.Tags (k : Int)).Key with
 | false => rw [if_pos (by decide)]; exact bad (by rw [h1]; rfl)
 | true =>
  rw [if_neg (by decide)]
  refine ⟨_, F69.law _ _ (by omega) rfl, ?_⟩
  cases h2 : wordOk (nth f.Tags (k : Int)).Val with
  | false => rw [if_pos (by decide)]; exact bad (by rw [h2, Bool.and_false]; rfl)
  | true =>
   rw [if_neg (by decide)]
   by_cases hk0 : k = 0
   ·rw [if_neg (by rw [decide_eq_true_eq]; omega)]
    obtain ⟨i1, i2⟩ := hn (by rw [h1, h2, decide_eq_true hk0]; rfl)
    exact ⟨by unfold I64; omega, i1, i2⟩
   ·rw [if_pos (by rw [decide_eq_true_eq]; omega)]
    refine ⟨by unfold I64; omega, by omega, ?_⟩
    cases h3 : Op.bytesLess (nth f.Tags ((k : Int) - 1)).Key (nth f.Tags (k : Int)).Key with
    | false => rw [if_pos (by decide)]; exact bad (by rw [h3, h1, h2, decide_eq_false hk0]; rfl)
    | true =>
     rw [if_neg (by decide)]
     obtain ⟨i1, i2⟩ := hn (by rw [h3, h1, h2, decide_eq_false hk0]; rfl)
     exact ⟨by unfold I64; omega, i1, i2⟩
theorem F16.law (a b : List Pt) (Q : Bool → Prop) (hb : a.length ≤ 1048576) (hq : Q (decide (a = b))) : F16.E a b Q := by
 unfold F16.E
 exact eqI_shape eqPt eqPt_is a b Q hb hq
theorem F25.law (a b : Shape) (Q : Bool → Prop) (hl : a.Pts.length ≤ 1048576) (hq : Q (decide (a = b))) : F25.E a b Q := by
 unfold F25.E
 by_cases h : a.Kind = b.Kind
 ·rw [if_pos (by rw [beq_iff_eq]; exact h)]
  refine F16.law _ _ _ (by omega) ?_
  have : decide (a.Pts = b.Pts) = decide (a = b) := decide_eq_decide.2 (by rw [Shape.ext_iff']; exact ⟨fun e => ⟨h, e⟩, fun e => e.2⟩)
  rw [this]; exact hq
 ·rw [if_neg (by rw [beq_iff_eq]; exact h)]
  rw [decide_eq_false (by rw [Shape.ext_iff']; exact fun e => h e.1)] at hq; exact hq
theorem F48.law (a b : List Pt) (Q : List (List Int) → Prop) (ha : a.length ≤ 1048576) (hb : b.length ≤ 1048576) (hq : ∀ t, Tab a b (fun _ _ => True) t → Q t) : F48.E a b Q := by
 unfold F48.E
 have hn : ((b.length : Int) + 1).toNat = b.length + 1 := by omega
 have hm : ((a.length : Int) + 1).toNat = a.length + 1 := by omega
 rw [hn, hm]
 refine ⟨fun _ => by unfold I64; omega, by omega, fun xs v => ∃ k : Nat, v = k ∧ k ≤ a.length + 1 ∧ xs.length = a.length + 1 ∧ ∀ r : Nat, r < k → nth xs (r : Int) = List.replicate (b.length + 1) 0, fun _ v => (a.length + 1 - v).toNat,
  ⟨0, rfl, Nat.zero_le _, by simp, fun r hr => absurd hr (Nat.not_lt_zero _)⟩, ?_⟩
 rintro xs _ ⟨k, rfl, hk, hl, hx⟩
 rw [List.length_replicate]
 by_cases hk0 : (k : Int) < ((a.length + 1 : Nat) : Int)
 ·rw [if_pos (by simpa using hk0)]
  refine ⟨fun _ => by unfold I64; omega, by omega, by omega, fun _ => by unfold I64; omega, ⟨k + 1, by omega, by omega, by rw [List.length_set]; exact hl, fun r hr => ?_⟩, by dsimp only; omega⟩
  rw [Int.toNat_natCast, nth_set _ (by omega)]
  by_cases e : r = k
  ·rw [if_pos e]
  ·rw [if_neg e]; exact hx r (by omega)
 rw [if_neg (by simpa using hk0)]
 refine ⟨fun _ => by unfold I64; omega, fun xs i => ∃ k : Nat, i = (k : Int) - 1 ∧ k ≤ a.length ∧ Tab a b (fun r m => k ≤ r ∨ m = b.length) xs, fun _ i => (i + 1).toNat, ⟨a.length, rfl, Nat.le_refl _, hl, fun r hr => ?_⟩, ?_⟩
 ·rw [hx r (by omega)]
  refine ⟨by simp, fun m hm hd => ?_⟩
  rw [nth_rep _ _ _ (by omega)]
  rcases hd with hd | hd
  ·rw [List.drop_of_length_le (by omega : a.length ≤ r), lcs_nil]; rfl
  ·rw [hd, List.drop_length, lcs_nil2]; rfl
 clear hx hl hk0 hk xs k
 rintro xs _ ⟨k, rfl, hk, ht⟩
 by_cases hk0 : (k : Int) - 1 ≥ 0
 ·rw [if_pos (by simpa using hk0)]
  obtain ⟨i, rfl⟩ : ∃ i, k = i + 1 := ⟨k - 1, by omega⟩
  have ei : ((i + 1 : Nat) : Int) - 1 = (i : Int) := by omega
  have ei1 : (i : Int) + 1 = ((i + 1 : Nat) : Int) := by omega
  rw [ei]
  refine ⟨fun _ => by unfold I64; omega, fun ys j => ∃ m : Nat, j = (m : Int) - 1 ∧ m ≤ b.length ∧ Tab a b (fun r u => i < r ∨ (r = i ∧ m ≤ u) ∨ u = b.length) ys, fun _ j => (j + 1).toNat, ⟨b.length, rfl, Nat.le_refl _, ht.1, fun r hr => ⟨(ht.2 r hr).1, fun m hm hd => (ht.2 r hr).2 m hm ?_⟩⟩, ?_⟩
  ·omega
  rintro ys _ ⟨m, rfl, hm, hs⟩
  by_cases hm0 : (m : Int) - 1 ≥ 0
  ·rw [if_pos (by simpa using hm0)]
   obtain ⟨j, rfl⟩ : ∃ j, m = j + 1 := ⟨m - 1, by omega⟩
   have ej : ((j + 1 : Nat) : Int) - 1 = (j : Int) := by omega
   have ej1 : (j : Int) + 1 = ((j + 1 : Nat) : Int) := by omega
   rw [ej, ej1, ei1, eqPt_is]
   have hl := lcs_drop a b (i := i) (j := j) (by omega) (by omega)
   have s0 := hs.1
   have s1 := hs.2 i (by omega)
   have s2 := hs.2 (i + 1) (by omega)
   have n1 := s2.2 (j + 1) (by omega) (.inl (by omega))
   have n2 := s2.2 j (by omega) (.inl (by omega))
   have n3 := s1.2 (j + 1) (by omega) (.inr (.inl ⟨rfl, by omega⟩))
   have l1 := s1.1
   have l2 := s2.1
   have b1 := lcs_le2 (a.drop (i + 1)) (b.drop (j + 1))
   rw [List.length_drop] at b1
   have hset : ∀ v : Int, v = (lcs (a.drop i) (b.drop j) : Nat) → Tab a b (fun r u => i < r ∨ (r = i ∧ j ≤ u) ∨ u = b.length) (ys.set (i : Int).toNat ((nth ys (i : Int)).set (j : Int).toNat v)) := fun v hv => by
    rw [Int.toNat_natCast, Int.toNat_natCast]
    exact hs.set (by omega) (by omega) hv fun r u h => by omega
   refine ⟨by omega, by omega, ?_⟩
   by_cases he : nth a (i : Int) = nth b (j : Int)
   ·rw [if_pos (by simpa using he)]
    rw [if_pos he] at hl
    rw [n1]
    exact ⟨by omega, by unfold I64; omega, by omega, by unfold I64; omega, by omega, by unfold I64; omega, by omega, by unfold I64; omega, ⟨j, by omega, by omega, hset _ (by omega)⟩, by dsimp only; omega⟩
   ·rw [if_neg (by simpa using he)]
    rw [if_neg he] at hl
    rw [n2, n3]
    exact ⟨by omega, by unfold I64; omega, by omega, by omega, by omega, by unfold I64; omega, by omega, by omega, by unfold I64; omega, ⟨j, by omega, by omega, hset _ (by omega)⟩, by dsimp only; omega⟩
  ·rw [if_neg (by simpa using hm0)]
   have : m = 0 := by omega
   subst this
   refine ⟨by unfold I64; omega, ⟨i, by omega, by omega, hs.1, fun r hr => ⟨(hs.2 r hr).1, fun m hm hd => (hs.2 r hr).2 m hm ?_⟩⟩, by dsimp only; omega⟩
   omega
 ·rw [if_neg (by simpa using hk0)]
  have : k = 0 := by omega
  subst this
  exact hq _ ⟨ht.1, fun r hr => ⟨(ht.2 r hr).1, fun m hm _ => (ht.2 r hr).2 m hm (.inl (Nat.zero_le _))⟩⟩
theorem F34.law (a b : List Pt) (Q : List Pair → Prop) (hq : Q (spairs a b)) : F34.E a b Q := by
 unfold F34.E
 unfold spairs at hq
 by_cases h1 : (a.length : Int) > 12
 ·rw [if_pos (by simpa using h1)]
  rw [if_neg (by rw [few_iff]; omega)] at hq; exact hq
 rw [if_neg (by simpa using h1)]
 by_cases h2 : (b.length : Int) > 12
 ·rw [if_pos (by simpa using h2)]
  rw [if_neg (by rw [few_iff]; omega)] at hq; exact hq
 rw [if_neg (by simpa using h2)]
 rw [if_pos (by rw [few_iff]; omega)] at hq
 refine F48.law _ _ _ (by omega) (by omega) fun t ht => ?_
 refine ⟨fun xs i j => ∃ u v : Nat, i = u ∧ j = v ∧ u ≤ a.length ∧ v ≤ b.length ∧ xs ++ (pairs u v (a.drop u) (b.drop v)).map mkP = (pairs 0 0 a b).map mkP, fun _ i j => ((a.length - i) + (b.length - j)).toNat, ⟨0, 0, rfl, rfl, Nat.zero_le _, Nat.zero_le _, rfl⟩, ?_⟩
 rintro xs _ _ ⟨u, v, rfl, rfl, hu, hv, hx⟩
 by_cases hu0 : (u : Int) < (a.length : Int)
 ·rw [if_pos (by simpa using hu0)]
  by_cases hv0 : (v : Int) < (b.length : Int)
  ·rw [if_pos (by simpa using hv0)]
   have hu1 : u < a.length := by omega
   have hv1 : v < b.length := by omega
   rw [pairs_drop a b hu1 hv1] at hx
   have eu : (u : Int) + 1 = ((u + 1 : Nat) : Int) := by omega
   have ev : (v : Int) + 1 = ((v + 1 : Nat) : Int) := by omega
   rw [eqPt_is, eu, ev]
   refine ⟨by omega, by omega, ?_⟩
   by_cases he : nth a (u : Int) = nth b (v : Int)
   ·rw [if_pos (by simpa using he)]
    rw [if_pos he, List.map_cons] at hx
    have hl := congrArg List.length hx
    rw [List.length_map, pairs_len, List.length_append] at hl
    have := lcs_le1 a b
    exact ⟨by simp only [List.length_singleton]; omega, by omega, by omega, ⟨u + 1, v + 1, rfl, rfl, by omega, by omega, by rw [List.append_assoc]; exact hx⟩, by dsimp only; omega⟩
   ·rw [if_neg (by simpa using he)]
    rw [if_neg he] at hx
    have t0 := ht.1
    have t1 := ht.2 u (by omega)
    have t2 := ht.2 (u + 1) (by omega)
    have n1 := t2.2 v (by omega) trivial
    have n2 := t1.2 (v + 1) (by omega) trivial
    have l1 := t1.1
    have l2 := t2.1
    refine ⟨by omega, by omega, by omega, by omega, by omega, by omega, ?_⟩
    rw [n1, n2]
    by_cases hc : lcs (a.drop u) (b.drop (v + 1)) ≤ lcs (a.drop (u + 1)) (b.drop v)
    ·rw [if_pos (by simpa using hc)]
     rw [if_pos hc] at hx
     exact ⟨by omega, ⟨u + 1, v, rfl, rfl, by omega, by omega, hx⟩, by dsimp only; omega⟩
    ·rw [if_neg (by simpa using hc)]
     rw [if_neg hc] at hx
     exact ⟨by omega, ⟨u, v + 1, rfl, rfl, by omega, by omega, hx⟩, by dsimp only; omega⟩
  ·rw [if_neg (by simpa using hv0)]
   rw [List.drop_of_length_le (by omega : b.length ≤ v), pairs_nil2, List.map_nil, List.append_nil] at hx
   rw [hx]; exact hq
 ·rw [if_neg (by simpa using hu0)]
  rw [List.drop_of_length_le (by omega : a.length ≤ u), pairs_nil, List.map_nil, List.append_nil] at hx
  rw [hx]; exact hq
theorem F49.law (l : List Pair) (k : Int) (Q : Int → Prop) (hl : l.length ≤ 1048576) (hq : Q (mateI l k)) : F49.E l k Q := by
 unfold F49.E
 refine ⟨fun i => ∃ u : Nat, i = u ∧ u ≤ l.length ∧ mateI (l.drop u) k = mateI l k, fun i => (l.length - i).toNat, ⟨0, rfl, Nat.zero_le _, rfl⟩, ?_⟩
 rintro _ ⟨u, rfl, hu, he⟩
 by_cases h : (u : Int) < (l.length : Int)
 ·rw [if_pos (by simpa using h)]
  rw [drop_nth l (by omega), mateI_cons] at he
  refine ⟨by omega, ?_⟩
  by_cases hc : ((nth l (u : Int)).A == k) = true
  ·rw [if_pos hc] at he ⊢
   rw [he]; exact hq
  ·rw [if_neg hc] at he ⊢
   exact ⟨by unfold I64; omega, ⟨u + 1, by omega, by omega, he⟩, by dsimp only; omega⟩
 ·rw [if_neg (by simpa using h)]
  rw [List.drop_of_length_le (by omega : l.length ≤ u), mateI_nil] at he
  rw [he]; exact hq
end Go.Proofs.Ytpdmnmpcjljeaaa