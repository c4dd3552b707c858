/- It is proved here that the law FnExactFeatJoin of the given program holds whatever it is handed: the walks through the code, the plain laws and the row, in this order.
   Conditions: none. -/
import Derived.Below
import Derived.ChangeArms
import Derived.ChangeOld
import Derived.ChangeSlices
import Derived.DataReads
import Derived.Deep.Quiet
import Derived.KernelRfl
import Derived.Laws.Build
import Derived.Laws.IdiomStrings
import Derived.Laws.OwnMore
import Derived.Laws.Slices
import Derived.Laws.StructEq
import Derived.OpenShut
import Derived.ProofKit
import Derived.Shelf.Slices.Cells
import Derived.Shelf.Slices.CompactS
import Derived.Shelf.Slices.In.SortNone
import Derived.Shelf.Small.Bits
import Derived.Shelf.Sort.Plain
import Derived.Shelf.Strconv.Itoa0
import Derived.ShutString
import Derived.SizedLaws
import Derived.StillTail
import Derived.Test.YtndjggncgpjolaaProg
import Derived.Test.YtndjggncgpjolaaRows
import Derived.WalkKit
import Derived.Test.YtndjggncgpjolaaCExactFeatJoina
import Derived.Test.YtndjggncgpjolaaCExactFeatJoinb
namespace Go.Proofs.Ytndjggncgpjolaa
open Go.RowKit
set_option linter.unusedVariables false
set_option linter.unusedSimpArgs false
def spec_l6Feat.E (o : Feat) (a : Feat) (b : Feat) (Q : Feat → List Str → Prop) : Prop :=
 spec_l6Shape.E o.Shape a.Shape b.Shape (fun r r2 => (∃ (J134 : (List Str) → Prop), ((if !r2 then (([] : List Str).length + ([([115, 104, 97, 112, 101] : Str)] : List Str).length ≤ 268435456) ∧ J134 (([] : List Str) ++ ([([115, 104, 97, 112, 101] : Str)] : List Str)) else J134 ([] : List Str))) ∧ ∀ (xs : List Str), J134 xs → spec_l1Copy.E r (fun r3 => spec_l6Keys.E o.Tags a.Tags b.Tags (fun r4 => (∃ (I2337 : (List Str) → Int → (List Tag) → Prop) (mu2338 : (List Str) → Int → (List Tag) → Nat), I2337 xs 0 ([] : List Tag) ∧ ∀ (xs4 : List Str) (i2 : Int) (xs5 : List Tag), I2337 xs4 i2 xs5 → (if decide (i2 < (r4.length : Int)) then ((0 : Int) ≤ i2 ∧ i2 < (r4.length : Int)) ∧ spec_l6Tag.E o.Tags a.Tags b.Tags (nth r4 i2) (fun r5 r6 r7 => (∃ (J2419 : (List Str) → Prop), ((if !r7 then ((0 : Int) ≤ i2 ∧ i2 < (r4.length : Int)) ∧ (([116, 97, 103, 32] : Str).length + (nth r4 i2).length ≤ 9223372036854775807) ∧ (xs4.length + ([(([116, 97, 103, 32] : Str) ++ (nth r4 i2))] : List Str).length ≤ 268435456) ∧ J2419 (xs4 ++ ([(([116, 97, 103, 32] : Str) ++ (nth r4 i2))] : List Str)) else J2419 xs4)) ∧ ∀ (xs6 : List Str), J2419 xs6 → (∃ (J2524 : (List Tag) → Prop), ((if r6 then ((0 : Int) ≤ i2 ∧ i2 < (r4.length : Int)) ∧ (xs5.length + ([(⟨(nth r4 i2), r5⟩ : Tag)] : List Tag).length ≤ 268435456) ∧ J2524 (xs5 ++ ([(⟨(nth r4 i2), r5⟩ : Tag)] : List Tag)) else J2524 xs5)) ∧ ∀ (xs7 : List Tag), J2524 xs7 → (I64 (i2 + 1)) ∧ I2337 xs6 (i2 + 1) xs7 ∧ mu2338 xs6 (i2 + 1) xs7 < mu2338 xs4 i2 xs5))) else spec_FeatOk.E (⟨a.Id, r3, xs5⟩ : Feat) (fun r8 => (if !r8 then spec_l2Copy.E a (fun r9 => Q r9 ([([109, 117, 99, 104] : Str)] : List Str)) else Q (⟨a.Id, r3, xs5⟩ : Feat) xs4))))))))
set_option maxHeartbeats 8000000 in
set_option maxRecDepth 100000 in
theorem spec_l6Feat.calls {O : Ob} (w0 : World) (hO : Ok w0 O) (o : Feat) (A2 : Option Addr) (n3 c4 : Nat) (A7 : Option Addr) (n8 c9 : Nat) (hs1 : Lim o.Id) (hp5 : Sl kPt w0 (Fr O) (.slice A2 n3 c4) o.Shape.Pts) (im : Sl kTag w0 (Fr O) (.slice A7 n8 c9) o.Tags) (a : Feat) (ap : Option Addr) (aq ar : Nat) (ak : Option Addr) (al am : Nat) (fr : Lim a.Id) (fs : Sl kPt w0 (Fr O) (.slice ap aq ar) a.Shape.Pts) (io : Sl kTag w0 (Fr O) (.slice ak al am) a.Tags) (b : Feat) (bf : Option Addr) (bg bh : Nat) (au : Option Addr) (av aw : Nat) (ru : Lim b.Id) (ft : Sl kPt w0 (Fr O) (.slice bf bg bh) b.Shape.Pts) (ip : Sl kTag w0 (Fr O) (.slice au av aw) b.Tags) (Q : Feat → List Str → Prop) (h : spec_l6Feat.E o a b Q) :
  Ret Try.prog 90 [.agg #[vs o.Id, vi o.Shape.Kind, .slice A2 n3 c4, .slice A7 n8 c9], .agg #[vs a.Id, vi a.Shape.Kind, .slice ap aq ar, .slice ak al am], .agg #[vs b.Id, vi b.Shape.Kind, .slice bf bg bh, .slice au av aw]] w0 (fun v w' => ∃ (r0 : Feat) (r1 : List Str) (A0 : Option Addr) (n0 c0 : Nat) (A2 : Option Addr) (n2 c2 : Nat) (A4 : Option Addr) (n4 c4 : Nat), v = .tuple #[.agg #[vs r0.Id, vi r0.Shape.Kind, .slice A0 n0 c0, .slice A2 n2 c2], .slice A4 n4 c4] ∧ Q r0 r1 ∧ Gr w0 w' none ∧ Ok w' ([bk A0, bk A2, bk A4] ++ O) ∧ (∀ b, some b ∈ [bk A0, bk A2, bk A4] → w0.heap.size ≤ b) ∧ Lim r0.Id ∧ Ow kPt 29 w' ([bk A0, bk A2, bk A4] ++ O) (.slice A0 n0 c0) r0.Shape.Pts ∧ Ow kTag 133 w' ([bk A0, bk A2, bk A4] ++ O) (.slice A2 n2 c2) r0.Tags ∧ Ow Kd.str 9 w' ([bk A0, bk A2, bk A4] ++ O) (.slice A4 n4 c4) r1) := by
 unfold spec_l6Feat.E at h
 have H := h
 clear h
 have hc0 := Ct.init hO
 refine Ret_enter Try.func90 rfl 96 rfl [.cell 6 71, .tmp 7] rfl rfl ?_
 refine W_seq ?_
 refine W_reg ?_
 refine L_box [vs o.Id, vi o.Shape.Kind, .slice A2 n3 c4, .slice A7 n8 c9] rfl fun rv ax km hu38 kn ko => ?_
 have kp := Fb.mk hc0.ok km ko
 have fu := hc0.k0 kn
 refine L_box [vs a.Id, vi a.Shape.Kind, .slice ap aq ar, .slice ak al am] rfl fun rw aj kq hu47 iq kr => ?_
 have ks := Fb.mk fu.ok kq kr
 have fv := fu.k0 iq
 refine L_box [vs b.Id, vi b.Shape.Kind, .slice bf bg bh, .slice au av aw] rfl fun rx ay kt hu56 ir ku => ?_
 have kv := Fb.mk fv.ok kt ku
 have it := fv.k0 ir
 refine L_alloc [vs [], .int .i64 0, .slice none 0 0, .slice none 0 0] ze71 fun ry aa iu hu65 iv iw => ?_
 have ix := it.own iv (some aa) (oglt iu hu65)
 refine L_pu (P_assign (.slice none 0 0) rfl) ?_
 refine L_nil ?_
 refine W_seq ?_
 refine W_reg ?_
 refine L_lit (kd := Kd.str) ei72 ix ([] : List Str) (cells := []) rfl (fun _ => by kernel_rfl) fun kx eh ei ej fw hr74 cw iy => ?_
 refine L_pu (P_assign (.slice eh ei ej) rfl) ?_
 refine L_nil ?_
 refine W_seq ?_
 refine W_reg ?_
 refine L_pu (P_fa fa71_1 ⟨ax, 0, none⟩ ⟨ax, 1, none⟩ rfl rfl) ?_
 have ky := fu.stn iq
 have iz := fv.stn ir
 have fx := it.stown _ iv (oge iu)
 have fy := ix.stown _ fw hr74
 have fz := ((((kp.st ky).st iz).st fx).st fy)
 refine L_pu (P_lda ag68 sz68 cL ⟨ax, 1, none⟩ [vi o.Shape.Kind, .slice A2 n3 c4] rfl rfl (fz.cells (off := 1) rfl)) ?_
 refine L_pu (P_fa fa71_1 ⟨aj, 0, none⟩ ⟨aj, 1, none⟩ rfl rfl) ?_
 have f0 := (((ks.st iz).st fx).st fy)
 refine L_pu (P_lda ag68 sz68 cL ⟨aj, 1, none⟩ [vi a.Shape.Kind, .slice ap aq ar] rfl rfl (f0.cells (off := 1) rfl)) ?_
 refine L_pu (P_fa fa71_1 ⟨ay, 0, none⟩ ⟨ay, 1, none⟩ rfl rfl) ?_
 have f1 := ((kv.st fx).st fy)
 refine L_pu (P_lda ag68 sz68 cL ⟨ay, 1, none⟩ [vi b.Shape.Kind, .slice bf bg bh] rfl rfl (f1.cells (off := 1) rfl)) ?_
 refine L_call go136 [.agg #[vi o.Shape.Kind, .slice A2 n3 c4], .agg #[vi a.Shape.Kind, .slice ap aq ar], .agg #[vi b.Shape.Kind, .slice bf bg bh]] rfl ((spec_l6Shape.calls kx cw.ok o.Shape A2 n3 c4 (hp5.st cw.st) a.Shape ap aq ar (fs.st cw.st) b.Shape bf bg bh (ft.st cw.st) _ H).mono ?_)
 rintro _ rz ⟨r, r2, bv, bw, bx, rfl, H, cx, i0⟩
 have f2 := cw.k0 cx
 refine L_pu (P_move (.tuple #[.agg #[vi r.Kind, .slice bv bw bx], vb r2]) rfl) ?_
 refine L_pu (P_ext [.agg #[vi r.Kind, .slice bv bw bx], vb r2] 0 (.agg #[vi r.Kind, .slice bv bw bx]) rfl rfl) ?_
 refine L_pu (P_ext [.agg #[vi r.Kind, .slice bv bw bx], vb r2] 1 (vb r2) rfl rfl) ?_
 refine L_alloc [.int .i64 0, .slice none 0 0] ze68 fun sa bl dq hu100 cy kz => ?_
 have cz := f2.own cy (some bl) (oglt dq hu100)
 refine L_stb bl 0 [vi 0, .slice none 0 0] [vi r.Kind, .slice bv bw bx] [vi r.Kind, .slice bv bw bx] rfl kz rfl sz68 rfl rfl rfl fun sb c1 i1 => ?_
 have b6 := cz.wr 0 rfl c1
 refine L_pu (P_assign (vb r2) rfl) ?_
 refine L_nil ?_
 refine W_seq ?_
 refine W_seq ?_
 refine W_reg ?_
 refine L_pu (P_move (vb r2) rfl) ?_
 refine L_pu (P_not r2 rfl) ?_
 refine L_nil ?_
 obtain ⟨k1, H, k2⟩ := H
 refine W_join (J := (fun t bt => ∃ (xs : List Str) (ag : Option Addr) (dd : Nat) (de : Nat), k1 xs ∧ Has t [(3, .pointer (some ⟨ax, 0, none⟩)), (4, .pointer (some ⟨aj, 0, none⟩)), (5, .pointer (some ⟨ay, 0, none⟩)), (6, .pointer (some ⟨aa, 0, none⟩)), (8, .slice ag dd de), (9, .pointer (some ⟨bl, 0, none⟩))] ∧ Ct [] w0 bt [some bl, bk ag, some aa] O ∧ Sl kPt bt (Fr ([some bl, bk ag, some aa] ++ O)) (.slice ap aq ar) a.Shape.Pts ∧ Sl kTag bt (Fr ([some bl, bk ag, some aa] ++ O)) (.slice ak al am) a.Tags ∧ Sl kPt bt (Fr ([some bl, bk ag, some aa] ++ O)) (.slice bv bw bx) r.Pts ∧ Sl kPt bt (Fr ([some bl, bk ag, some aa] ++ O)) (.slice bf bg bh) b.Shape.Pts ∧ Sl kTag bt (Fr ([some bl, bk ag, some aa] ++ O)) (.slice au av aw) b.Tags ∧ Sl kPt bt (Fr ([some bl, bk ag, some aa] ++ O)) (.slice A2 n3 c4) o.Shape.Pts ∧ Sl kTag bt (Fr ([some bl, bk ag, some aa] ++ O)) (.slice A7 n8 c9) o.Tags ∧ Ow Kd.str 9 bt ([some bl, bk ag, some aa] ++ O) (.slice ag dd de) xs ∧ Fb bt ([some bl, bk ag, some aa] ++ O) ax [vs o.Id, vi o.Shape.Kind, .slice A2 n3 c4, .slice A7 n8 c9] ∧ Fb bt ([some bl, bk ag, some aa] ++ O) aj [vs a.Id, vi a.Shape.Kind, .slice ap aq ar, .slice ak al am] ∧ Fb bt ([some bl, bk ag, some aa] ++ O) ay [vs b.Id, vi b.Shape.Kind, .slice bf bg bh, .slice au av aw] ∧ Bx bt aa [vs ([] : Str), vi 0, .slice none 0 0, .slice none 0 0] ∧ Bx bt bl [vi r.Kind, .slice bv bw bx])) ?_ ?_
 ·refine W_cond (!r2) rfl (fun f3 => ?_) (fun f3 => ?_)
  ·have H := ite_t H f3
   refine W_reg ?_
   refine L_pu (P_move (.slice eh ei ej) rfl) ?_
   refine L_lit (kd := Kd.str) ei72 b6 ([([115, 104, 97, 112, 101] : Str)] : List Str) (cells := [vs ([115, 104, 97, 112, 101] : Str)]) ⟨[vs ([115, 104, 97, 112, 101] : Str)], _, rfl, ⟨rfl, (by decide)⟩, rfl⟩ (fun _ => by kernel_rfl) fun sc k3 k4 k5 ek hr143 f4 k6 => ?_
   obtain ⟨k7, H⟩ := H
   have k8 := ((cz.sw ((iy.sn cx).so _ cy (oge dq)) 1 0 rfl rfl rfl c1).so _ ek hr143)
   refine L_app ei72 f4 (.slice eh ei ej) ([] : List Str) ([([115, 104, 97, 112, 101] : Str)] : List Str) rfl k8 (.slice k3 k4 k5) rfl k6.sx 2 rfl k7 fun se i3 i4 i5 i6 el f5 k9 => ?_
   refine L_pu (P_assign (.slice i3 i4 i5) rfl) ?_
   refine L_nil ?_
   have c3 := f5.drop 0 rfl
   have em := f2.stown _ cy (oge dq)
   have en := cz.stw 0 rfl c1
   have eo := b6.stown _ ek hr143
   have ep := f5.std 0 rfl
   have la := (((((i0.st em).st en).st eo).st el).st ep)
   have lb := (f5.sd k9 2 0 rfl rfl rfl)
   have f6 := cw.stn cx
   have lc := ((((((fz.st f6).st em).st en).st eo).st el).st ep)
   have ld := ((((((f0.st f6).st em).st en).st eo).st el).st ep)
   have lf := ((((((f1.st f6).st em).st en).st eo).st el).st ep)
   have lg := (f4.bm ((cz.bm (((iw.k0 fw).k0 cx).k0 cy) 2 0 rfl rfl rfl c1).k0 ek) 3 2 rfl rfl rfl i6)
   have lh := (f4.bm (i1.k0 ek) 1 2 rfl rfl rfl i6)
   exact ⟨(([] : List Str) ++ ([([115, 104, 97, 112, 101] : Str)] : List Str)), i3, i4, i5, H, ⟨rfl, rfl, rfl, rfl, rfl, rfl, trivial⟩, c3, (fs.st c3.st), (io.st c3.st), la, (ft.st c3.st), (ip.st c3.st), (hp5.st c3.st), (im.st c3.st), lb, lc, ld, lf, lg, lh⟩
  ·have H := ite_f H f3
   refine W_skip ?_
   have eq := f2.stown _ cy (oge dq)
   have er := cz.stw 0 rfl c1
   have li := ((i0.st eq).st er)
   have lj := (cz.sw ((iy.sn cx).so _ cy (oge dq)) 1 0 rfl rfl rfl c1)
   have f7 := cw.stn cx
   have lk := (((fz.st f7).st eq).st er)
   have ll := (((f0.st f7).st eq).st er)
   have lm := (((f1.st f7).st eq).st er)
   have ln := (cz.bm (((iw.k0 fw).k0 cx).k0 cy) 2 0 rfl rfl rfl c1)
   exact ⟨([] : List Str), eh, ei, ej, H, ⟨rfl, rfl, rfl, rfl, rfl, rfl, trivial⟩, b6, (fs.st b6.st), (io.st b6.st), li, (ft.st b6.st), (ip.st b6.st), (hp5.st b6.st), (im.st b6.st), lj, lk, ll, lm, ln, i1⟩
 ·rintro sf bt ⟨xs, ag, dd, de, lo, lp, i7, i8, i9, ja, jb, jc, jd, je, jf, jg, lq, jh, ji, lr⟩
  obtain ⟨sg, rfl⟩ := Has.ins lp
  have H := k2 xs lo
  refine W_seq ?_
  refine W_join (J := (fun t bs => ∃ (r3 : Shape) (ab : Option Addr) (an : Nat) (ao : Nat) (ac : Nat), Has t [(3, .pointer (some ⟨ax, 0, none⟩)), (4, .pointer (some ⟨aj, 0, none⟩)), (5, .pointer (some ⟨ay, 0, none⟩)), (6, .pointer (some ⟨aa, 0, none⟩)), (8, .slice ag dd de), (11, .pointer (some ⟨ac, 0, none⟩))] ∧ Ct [] w0 bs [some ac, bk ab, bk ag, some aa] O ∧ Sl kPt bs (Fr ([some ac, bk ab, bk ag, some aa] ++ O)) (.slice ap aq ar) a.Shape.Pts ∧ Sl kTag bs (Fr ([some ac, bk ab, bk ag, some aa] ++ O)) (.slice ak al am) a.Tags ∧ Sl kPt bs (Fr ([some ac, bk ab, bk ag, some aa] ++ O)) (.slice bf bg bh) b.Shape.Pts ∧ Sl kTag bs (Fr ([some ac, bk ab, bk ag, some aa] ++ O)) (.slice au av aw) b.Tags ∧ Sl kPt bs (Fr ([some ac, bk ab, bk ag, some aa] ++ O)) (.slice A2 n3 c4) o.Shape.Pts ∧ Sl kTag bs (Fr ([some ac, bk ab, bk ag, some aa] ++ O)) (.slice A7 n8 c9) o.Tags ∧ Ow Kd.str 9 bs ([some ac, bk ab, bk ag, some aa] ++ O) (.slice ag dd de) xs ∧ Ow kPt 29 bs ([some ac, bk ab, bk ag, some aa] ++ O) (.slice ab an ao) r3.Pts ∧ Fb bs ([some ac, bk ab, bk ag, some aa] ++ O) ax [vs o.Id, vi o.Shape.Kind, .slice A2 n3 c4, .slice A7 n8 c9] ∧ Fb bs ([some ac, bk ab, bk ag, some aa] ++ O) aj [vs a.Id, vi a.Shape.Kind, .slice ap aq ar, .slice ak al am] ∧ Fb bs ([some ac, bk ab, bk ag, some aa] ++ O) ay [vs b.Id, vi b.Shape.Kind, .slice bf bg bh, .slice au av aw] ∧ Bx bs aa [vs ([] : Str), vi 0, .slice none 0 0, .slice none 0 0] ∧ Bx bs ac [vs a.Id, vi r3.Kind, .slice ab an ao, .slice none 0 0] ∧ spec_l6Keys.E o.Tags a.Tags b.Tags (fun r4 => (∃ (dr : (List Str) → Int → (List Tag) → Prop) (es : (List Str) → Int → (List Tag) → Nat), dr xs 0 ([] : List Tag) ∧ ∀ (xs4 : List Str) (i2 : Int) (xs5 : List Tag), dr xs4 i2 xs5 → (if decide (i2 < (r4.length : Int)) then ((0 : Int) ≤ i2 ∧ i2 < (r4.length : Int)) ∧ spec_l6Tag.E o.Tags a.Tags b.Tags (nth r4 i2) (fun r5 r6 r7 => (∃ (ds : (List Str) → Prop), ((if !r7 then ((0 : Int) ≤ i2 ∧ i2 < (r4.length : Int)) ∧ (([116, 97, 103, 32] : Str).length + (nth r4 i2).length ≤ 9223372036854775807) ∧ (xs4.length + ([(([116, 97, 103, 32] : Str) ++ (nth r4 i2))] : List Str).length ≤ 268435456) ∧ ds (xs4 ++ ([(([116, 97, 103, 32] : Str) ++ (nth r4 i2))] : List Str)) else ds xs4)) ∧ ∀ (xs6 : List Str), ds xs6 → (∃ (dt : (List Tag) → Prop), ((if r6 then ((0 : Int) ≤ i2 ∧ i2 < (r4.length : Int)) ∧ (xs5.length + ([(⟨(nth r4 i2), r5⟩ : Tag)] : List Tag).length ≤ 268435456) ∧ dt (xs5 ++ ([(⟨(nth r4 i2), r5⟩ : Tag)] : List Tag)) else dt xs5)) ∧ ∀ (xs7 : List Tag), dt xs7 → (I64 (i2 + 1)) ∧ dr xs6 (i2 + 1) xs7 ∧ es xs6 (i2 + 1) xs7 < es xs4 i2 xs5))) else spec_FeatOk.E (⟨a.Id, r3, xs5⟩ : Feat) (fun r8 => (if !r8 then spec_l2Copy.E a (fun r9 => Q r9 ([([109, 117, 99, 104] : Str)] : List Str)) else Q (⟨a.Id, r3, xs5⟩ : Feat) xs4))))))) ?_ ?_
  ·refine W_mixr 7 [] (by kernel_rfl) rfl fun ls c5 df => ?_
   have du := i7.k0 c5
   refine M_pu 0 rfl (by kernel_rfl) df (P_fa fa71_0 ⟨aj, 0, none⟩ ⟨aj, 0, none⟩ rfl rfl) ?_
   have a7 := i7.stn c5
   have f8 := (lq.st a7)
   refine M_pu 1 rfl (by kernel_rfl) df (P_ldr ag9 cR ⟨aj, 0, none⟩ (vs a.Id) rfl (f8.cell rfl) nm_nil) ?_
   have lt := (lr.k0 c5)
   refine M_pu 2 rfl (by kernel_rfl) df (P_ldar ag68 sz68 cR ⟨bl, 0, none⟩ [vi r.Kind, .slice bv bw bx] rfl rfl (lt.cells (off := 0) rfl) nm_nil) ?_
   refine M_any2 3 5 (by kernel_rfl) rfl rfl ?_ ?_
   ·refine L_call go125 [.agg #[vi r.Kind, .slice bv bw bx]] rfl ((spec_l1Copy.calls ls du.ok r bv bw bx (ja.st a7) _ H).mono ?_)
    rintro _ jj ⟨r3, et, eu, ev, rfl, H, dv, lu, f9, lv⟩
    have jk := du.owns dv lu f9
    have ew := Gm.tm df dv
    refine L_nil ⟨ew, ?_⟩
    refine M_pu 4 rfl (by kernel_rfl) ew (P_build (.agg #[vs a.Id, vi r3.Kind, .slice et eu ev, .slice none 0 0]) (fun _ => by kernel_rfl)) ?_
    refine M_any1 5 (by kernel_rfl) rfl ?_
    refine L_alloc [vs [], .int .i64 0, .slice none 0 0, .slice none 0 0] ze71 fun sh ga dw hu206 dg lw => ?_
    have dx := jk.own dg (some ga) (oglt dw hu206)
    have jl := Gm.tm ew dg
    refine L_nil ⟨jl, ?_⟩
    refine M_any1 6 (by kernel_rfl) rfl ?_
    refine L_stb ga 0 [vs ([] : Str), vi 0, .slice none 0 0, .slice none 0 0] [vs a.Id, vi r3.Kind, .slice et eu ev, .slice none 0 0] [vs a.Id, vi r3.Kind, .slice et eu ev, .slice none 0 0] rfl lw rfl sz71 rfl rfl rfl fun si dh lx => ?_
    have ex := dx.wr 0 rfl dh
    have ly := Gm.tq jl dh (hv_new ew (oge dw))
    refine L_nil ⟨ly, ?_⟩
    refine M_nil (by kernel_rfl) ?_
    have lz := ex.drop 2 rfl
    have b7 := du.stos dv f9
    have b8 := jk.stown _ dg (oge dw)
    have b9 := dx.stw 0 rfl dh
    have ca := ex.std 2 rfl
    have l0 := (((((i8.st a7).st b7).st b8).st b9).st ca)
    have l1 := (((((i9.st a7).st b7).st b8).st b9).st ca)
    have l2 := (((((jb.st a7).st b7).st b8).st b9).st ca)
    have l3 := (((((jc.st a7).st b7).st b8).st b9).st ca)
    have gb := (((((jd.st a7).st b7).st b8).st b9).st ca)
    have gc := (((((je.st a7).st b7).st b8).st b9).st ca)
    have gd := (ex.sd (dx.sw (((jf.sn c5).sos dv f9).so _ dg (oge dw)) 3 0 rfl rfl rfl dh) 3 2 rfl rfl rfl)
    have gf := (ex.sd (dx.sw (lv.so _ dg (oge dw)) 1 0 rfl rfl rfl dh) 1 2 rfl rfl rfl)
    have gg := (((((jg.st a7).st b7).st b8).st b9).st ca)
    have gh := ((((f8.st b7).st b8).st b9).st ca)
    have gi := (((((jh.st a7).st b7).st b8).st b9).st ca)
    have gj := (dx.bm (((ji.k0 c5).k0 dv).k0 dg) 4 0 rfl rfl rfl dh)
    have gk := lx
    exact ⟨r3, et, eu, ev, ga, ⟨rfl, rfl, rfl, rfl, rfl, rfl, trivial⟩, lz, l0, l1, l2, l3, gb, gc, gd, gf, gg, gh, gi, gj, gk, H⟩
   ·refine L_alloc [vs [], .int .i64 0, .slice none 0 0, .slice none 0 0] ze71 fun jj gl ey hu194 dy l4 => ?_
    have gm := du.own dy (some gl) (oglt ey hu194)
    have jm := Gm.tm df dy
    refine L_nil ⟨jm, ?_⟩
    refine M_any1 3 (by kernel_rfl) rfl ?_
    have b0 := du.stown _ dy (oge ey)
    have l5 := ((ja.st a7).st b0)
    refine L_call go125 [.agg #[vi r.Kind, .slice bv bw bx]] rfl ((spec_l1Copy.calls jj gm.ok r bv bw bx l5 _ H).mono ?_)
    rintro _ sj ⟨r3, ez, e0, e1, rfl, H, di, l6, gn, l7⟩
    have dz := gm.owns di l6 gn
    have gp := Gm.tm jm di
    refine L_nil ⟨gp, ?_⟩
    refine M_pu 4 rfl (by kernel_rfl) gp (P_build (.agg #[vs a.Id, vi r3.Kind, .slice ez e0 e1, .slice none 0 0]) (fun _ => by kernel_rfl)) ?_
    refine M_any1 6 (by kernel_rfl) rfl ?_
    have l8 := (l4.k0 di)
    refine L_stb gl 0 [vs ([] : Str), vi 0, .slice none 0 0, .slice none 0 0] [vs a.Id, vi r3.Kind, .slice ez e0 e1, .slice none 0 0] [vs a.Id, vi r3.Kind, .slice ez e0 e1, .slice none 0 0] rfl l8 rfl sz71 rfl rfl rfl fun sk dj l9 => ?_
    have e2 := dz.wr 1 rfl dj
    have ma := Gm.tq gp dj (hv_new df (oge ey))
    refine L_nil ⟨ma, ?_⟩
    refine M_nil (by kernel_rfl) ?_
    have e3 := e2.drop 2 rfl
    have mb := e3.perm (.swap _ _ _)
    have cb := gm.stos di gn
    have cc := dz.stw 1 rfl dj
    have cd := e2.std 2 rfl
    have ce := e3.stp (.swap _ _ _)
    have gb := ((((((i8.st a7).st b0).st cb).st cc).st cd).st ce)
    have gc := ((((((i9.st a7).st b0).st cb).st cc).st cd).st ce)
    have gd := ((((((jb.st a7).st b0).st cb).st cc).st cd).st ce)
    have gf := ((((((jc.st a7).st b0).st cb).st cc).st cd).st ce)
    have gg := ((((((jd.st a7).st b0).st cb).st cc).st cd).st ce)
    have gh := ((((((je.st a7).st b0).st cb).st cc).st cd).st ce)
    have gi := (e3.sp (e2.sd (dz.sw (((jf.sn c5).so _ dy (oge ey)).sos di gn) 3 1 rfl rfl rfl dj) 3 2 rfl rfl rfl) (.swap _ _ _))
    have gj := (e3.sp (e2.sd (dz.sw l7 0 1 rfl rfl rfl dj) 0 2 rfl rfl rfl) (.swap _ _ _))
    have gk := ((((((jg.st a7).st b0).st cb).st cc).st cd).st ce)
    have mc := (((((f8.st b0).st cb).st cc).st cd).st ce)
    have md := ((((((jh.st a7).st b0).st cb).st cc).st cd).st ce)
    have me := (dz.bm (((ji.k0 c5).k0 dy).k0 di) 4 1 rfl rfl rfl dj)
    have mf := l9
    exact ⟨r3, ez, e0, e1, gl, ⟨rfl, rfl, rfl, rfl, rfl, rfl, trivial⟩, mb, gb, gc, gd, gf, gg, gh, gi, gj, gk, mc, md, me, mf, H⟩
  ·rintro sl bs ⟨r3, ab, an, ao, ac, mg, gq, mh, jn, mi, jo, mj, jp, ml, mm, jq, jr, js, mn, mo, H⟩
   obtain ⟨sq, rfl⟩ := Has.ins mg
   refine W_seq ?_
   refine W_reg ?_
   refine L_pu (P_fa fa71_2 ⟨ax, 0, none⟩ ⟨ax, 3, none⟩ rfl rfl) ?_
   refine L_pu (P_ld ag69 cL ⟨ax, 3, none⟩ (.slice A7 n8 c9) rfl (jq.cell rfl)) ?_
   refine L_pu (P_fa fa71_2 ⟨aj, 0, none⟩ ⟨aj, 3, none⟩ rfl rfl) ?_
   refine L_pu (P_ld ag69 cL ⟨aj, 3, none⟩ (.slice ak al am) rfl (jr.cell rfl)) ?_
   refine L_pu (P_fa fa71_2 ⟨ay, 0, none⟩ ⟨ay, 3, none⟩ rfl rfl) ?_
   refine L_pu (P_ld ag69 cL ⟨ay, 3, none⟩ (.slice au av aw) rfl (js.cell rfl)) ?_
   refine L_call go137 [.slice A7 n8 c9, .slice ak al am, .slice au av aw] rfl ((spec_l6Keys.calls bs gq.ok o.Tags A7 n8 c9 jp a.Tags ak al am jn b.Tags au av aw jo _ H).mono ?_)
   rintro _ e4 ⟨r4, ad, bn, bo, rfl, H, dk, mp, e5, mq⟩
   have jt : Ct [] w0 e4 [bk ad, some ac, bk ab, bk ag, some aa] O := gq.owns dk mp e5
   refine L_pu (P_assign (.slice ad bn bo) rfl) ?_
   refine L_nil ?_
   refine W_seq ?_
   refine W_seq ?_
   refine W_reg ?_
   refine L_pu (P_assign (vi 0) rfl) ?_
   refine L_nil ?_
   refine W_block ?_
   have ju := jt.own (Gr.refl _ none) none (by simp)
   have mr : Ow kTag 133 e4 ([bk none, bk ad, some ac, bk ab, bk ag, some aa] ++ O) (.slice none 0 0) [] := Ow.nil _ _ _ _
   have jv := ju.own (Gr.refl _ none) none (by simp)
   have ms : Ow kPt 29 e4 ([bk none, bk none, bk ad, some ac, bk ab, bk ag, some aa] ++ O) (.slice none 0 0) [] := Ow.nil _ _ _ _
   have mt := jv.own (Gr.refl _ none) none (by simp)
   have mu : Ow kTag 133 e4 ([bk none, bk none, bk none, bk ad, some ac, bk ab, bk ag, some aa] ++ O) (.slice none 0 0) [] := Ow.nil _ _ _ _
   obtain ⟨dr, es, gs, H⟩ := H
   have cf := gq.stos dk e5
   have cg := jt.st0n
   have ch := ju.st0n
   have ci := jv.st0n
   have mv := ((((mh.st cf).st cg).st ch).st ci)
   have mw := ((((jn.st cf).st cg).st ch).st ci)
   have mx := ((((mi.st cf).st cg).st ch).st ci)
   have my := ((((jo.st cf).st cg).st ch).st ci)
   have mz := ((((mj.st cf).st cg).st ch).st ci)
   have m0 := ((((jp.st cf).st cg).st ch).st ci)
   have m1 := ((((ml.sos dk e5).so none (Gr.refl _ none) (by simp)).so none (Gr.refl _ none) (by simp)).so none (Gr.refl _ none) (by simp))
   have m2 := (((mq.so none (Gr.refl _ none) (by simp)).so none (Gr.refl _ none) (by simp)).so none (Gr.refl _ none) (by simp))
   have m3 := ((((mm.sos dk e5).so none (Gr.refl _ none) (by simp)).so none (Gr.refl _ none) (by simp)).so none (Gr.refl _ none) (by simp))
   have m4 := ((mr.so none (Gr.refl _ none) (by simp)).so none (Gr.refl _ none) (by simp))
   have m5 := (ms.so none (Gr.refl _ none) (by simp))
   have m6 := ((((jq.st cf).st cg).st ch).st ci)
   have m7 := ((((jr.st cf).st cg).st ch).st ci)
   have m8 := ((((js.st cf).st cg).st ch).st ci)
   have m9 := (mn.k0 dk)
   have na := (mo.k0 dk)
   refine W_loop (α := (List Str) × (Option Addr) × Nat × Nat × Int × (List Tag) × (Option Addr) × Nat × Nat) (fun (sv__ : (List Str) × (Option Addr) × Nat × Nat × Int × (List Tag) × (Option Addr) × Nat × Nat) t a1 => match sv__ with | (xs4, ai, b1, b2, i2, xs5, af, a2, a3) => dr xs4 i2 xs5 ∧ Has t [(3, .pointer (some ⟨ax, 0, none⟩)), (4, .pointer (some ⟨aj, 0, none⟩)), (5, .pointer (some ⟨ay, 0, none⟩)), (6, .pointer (some ⟨aa, 0, none⟩)), (8, .slice ai b1 b2), (11, .pointer (some ⟨ac, 0, none⟩)), (12, .slice ad bn bo), (13, vi i2)] ∧ Ct [] w0 a1 [bk none, bk none, bk af, bk ad, some ac, bk ab, bk ai, some aa] O ∧ Sl kPt a1 (Fr ([bk none, bk none, bk af, bk ad, some ac, bk ab, bk ai, some aa] ++ O)) (.slice ap aq ar) a.Shape.Pts ∧ Sl kTag a1 (Fr ([bk none, bk none, bk af, bk ad, some ac, bk ab, bk ai, some aa] ++ O)) (.slice ak al am) a.Tags ∧ Sl kPt a1 (Fr ([bk none, bk none, bk af, bk ad, some ac, bk ab, bk ai, some aa] ++ O)) (.slice bf bg bh) b.Shape.Pts ∧ Sl kTag a1 (Fr ([bk none, bk none, bk af, bk ad, some ac, bk ab, bk ai, some aa] ++ O)) (.slice au av aw) b.Tags ∧ Sl kPt a1 (Fr ([bk none, bk none, bk af, bk ad, some ac, bk ab, bk ai, some aa] ++ O)) (.slice A2 n3 c4) o.Shape.Pts ∧ Sl kTag a1 (Fr ([bk none, bk none, bk af, bk ad, some ac, bk ab, bk ai, some aa] ++ O)) (.slice A7 n8 c9) o.Tags ∧ Ow Kd.str 9 a1 ([bk none, bk none, bk af, bk ad, some ac, bk ab, bk ai, some aa] ++ O) (.slice ai b1 b2) xs4 ∧ Ow Kd.str 9 a1 ([bk none, bk none, bk af, bk ad, some ac, bk ab, bk ai, some aa] ++ O) (.slice ad bn bo) r4 ∧ Ow kPt 29 a1 ([bk none, bk none, bk af, bk ad, some ac, bk ab, bk ai, some aa] ++ O) (.slice ab an ao) r3.Pts ∧ Ow kTag 133 a1 ([bk none, bk none, bk af, bk ad, some ac, bk ab, bk ai, some aa] ++ O) (.slice af a2 a3) xs5 ∧ Ow kPt 29 a1 ([bk none, bk none, bk af, bk ad, some ac, bk ab, bk ai, some aa] ++ O) (.slice none 0 0) ([] : List Pt) ∧ Ow kTag 133 a1 ([bk none, bk none, bk af, bk ad, some ac, bk ab, bk ai, some aa] ++ O) (.slice none 0 0) ([] : List Tag) ∧ Fb a1 ([bk none, bk none, bk af, bk ad, some ac, bk ab, bk ai, some aa] ++ O) ax [vs o.Id, vi o.Shape.Kind, .slice A2 n3 c4, .slice A7 n8 c9] ∧ Fb a1 ([bk none, bk none, bk af, bk ad, some ac, bk ab, bk ai, some aa] ++ O) aj [vs a.Id, vi a.Shape.Kind, .slice ap aq ar, .slice ak al am] ∧ Fb a1 ([bk none, bk none, bk af, bk ad, some ac, bk ab, bk ai, some aa] ++ O) ay [vs b.Id, vi b.Shape.Kind, .slice bf bg bh, .slice au av aw] ∧ Bx a1 aa [vs ([] : Str), vi 0, .slice none 0 0, .slice none 0 0] ∧ Bx a1 ac [vs a.Id, vi r3.Kind, .slice ab an ao, .slice af a2 a3]) (fun (sv__ : (List Str) × (Option Addr) × Nat × Nat × Int × (List Tag) × (Option Addr) × Nat × Nat) => match sv__ with | (xs4, _, _, _, i2, xs5, _, _, _) => es xs4 i2 xs5) (xs, ag, dd, de, 0, ([] : List Tag), none, 0, 0) ⟨gs, ⟨rfl, rfl, rfl, rfl, rfl, rfl, rfl, rfl, trivial⟩, mt, mv, mw, mx, my, mz, m0, m1, m2, m3, m4, m5, mu, m6, m7, m8, m9, na⟩ ?_
   rintro ⟨xs4, ai, b1, b2, i2, xs5, af, a2, a3⟩ _ a1 ⟨gs, nb, c6, gt, e6, jw, gu, jx, gw, gx, gy, e7, e8, jy, jz, nc, j0, nd, e9, fa⟩
   obtain ⟨sr, rfl⟩ := Has.ins nb
   have H := H xs4 i2 xs5 gs
   refine W_seq ?_
   refine W_seq ?_
   refine W_reg ?_
   refine L_pu (P_move (vi i2) rfl) ?_
   refine L_pu (P_move (.slice ad bn bo) rfl) ?_
   have ss := gy.le
   refine L_pu (P_len Try.underlying72 ad bn bo gy.len rfl) ?_
   refine L_pu (P_cmp i2 (r4.length : Int) (decide (i2 < (r4.length : Int))) rfl rfl rfl) ?_
   refine L_nil ?_
   refine W_cond (decide (i2 < (r4.length : Int))) rfl (fun gz => ?_) (fun gz => ?_)
   ·have H := ite_t H gz
    refine W_skip ?_
    refine W_seq ?_
    refine W_block ?_
    refine W_seq ?_
    refine W_mixr 18 [] (by kernel_rfl) rfl fun ne bp bz => ?_
    have fb := c6.k0 bp
    refine M_pu 0 rfl (by kernel_rfl) bz (P_fa fa71_2 ⟨ax, 0, none⟩ ⟨ax, 3, none⟩ rfl rfl) ?_
    have bi := c6.stn bp
    have g1 := (nc.st bi)
    refine M_pu 1 rfl (by kernel_rfl) bz (P_ldr ag69 cR ⟨ax, 3, none⟩ (.slice A7 n8 c9) rfl (g1.cell rfl) nm_nil) ?_
    refine M_pu 2 rfl (by kernel_rfl) bz (P_fa fa71_2 ⟨aj, 0, none⟩ ⟨aj, 3, none⟩ rfl rfl) ?_
    have g2 := (j0.st bi)
    refine M_pu 3 rfl (by kernel_rfl) bz (P_ldr ag69 cR ⟨aj, 3, none⟩ (.slice ak al am) rfl (g2.cell rfl) nm_nil) ?_
    refine M_pu 4 rfl (by kernel_rfl) bz (P_fa fa71_2 ⟨ay, 0, none⟩ ⟨ay, 3, none⟩ rfl rfl) ?_
    have g3 := (nd.st bi)
    refine M_pu 5 rfl (by kernel_rfl) bz (P_ldr ag69 cR ⟨ay, 3, none⟩ (.slice au av aw) rfl (g3.cell rfl) nm_nil) ?_
    refine M_pu 6 rfl (by kernel_rfl) bz (P_move (.slice ad bn bo) rfl) ?_
    refine M_pu 7 rfl (by kernel_rfl) bz (P_move (vi i2) rfl) ?_
    obtain ⟨j1, H⟩ := H
    have fc := (gy.sn bp)
    obtain ⟨j2, su, nf, ng, nh⟩ := fc.get default (by decide) i2 j1
    obtain ⟨rfl, ni⟩ := Kd.str.op ng
    refine M_pu 8 rfl (by kernel_rfl) bz (P_ia Try.underlying72 se72 ad j2 bn bo fc.len i2 rfl nf rfl j1) ?_
    refine M_pu 9 rfl (by kernel_rfl) bz (P_ldr ag9 cR (j2.add (i2.toNat * 1)) (vs (nth r4 i2)) rfl (nh 0 _ rfl) nm_nil) ?_
    refine M_any1 10 (by kernel_rfl) rfl ?_
    refine L_call go138 [.slice A7 n8 c9, .slice ak al am, .slice au av aw, vs (nth r4 i2)] rfl ((spec_l6Tag.calls ne fb.ok o.Tags A7 n8 c9 (gw.st bi) a.Tags ak al am (e6.st bi) b.Tags au av aw (gu.st bi) (nth r4 i2) ni _ H).mono ?_)
    rintro _ sv ⟨r5, r6, r7, rfl, H, a4, j3⟩
    have g4 := fb.k0 a4
    have co := Gm.tm bz a4
    refine L_nil ⟨co, ?_⟩
    refine M_pu 11 rfl (by kernel_rfl) co (P_move (.tuple #[vs r5, vb r6, vb r7]) rfl) ?_
    refine M_pu 12 rfl (by kernel_rfl) co (P_ext [vs r5, vb r6, vb r7] 0 (vs r5) rfl rfl) ?_
    refine M_pu 13 rfl (by kernel_rfl) co (P_ext [vs r5, vb r6, vb r7] 1 (vb r6) rfl rfl) ?_
    refine M_pu 14 rfl (by kernel_rfl) co (P_ext [vs r5, vb r6, vb r7] 2 (vb r7) rfl rfl) ?_
    refine M_pu 15 rfl (by kernel_rfl) co (P_assign (vs r5) rfl) ?_
    refine M_pu 16 rfl (by kernel_rfl) co (P_assign (vb r6) rfl) ?_
    refine M_pu 17 rfl (by kernel_rfl) co (P_assign (vb r7) rfl) ?_
    refine M_nil (by kernel_rfl) ?_
    refine W_seq ?_
    refine W_seq ?_
    refine W_reg ?_
    refine L_pu (P_move (vb r7) rfl) ?_
    refine L_pu (P_not r7 rfl) ?_
    refine L_nil ?_
    obtain ⟨ds, H, nj⟩ := H
    refine W_join (J := (fun t a8 => ∃ (xs6 : List Str) (ae : Option Addr) (cp : Nat) (cq : Nat), ds xs6 ∧ Has t [(3, .pointer (some ⟨ax, 0, none⟩)), (4, .pointer (some ⟨aj, 0, none⟩)), (5, .pointer (some ⟨ay, 0, none⟩)), (6, .pointer (some ⟨aa, 0, none⟩)), (8, .slice ae cp cq), (11, .pointer (some ⟨ac, 0, none⟩)), (12, .slice ad bn bo), (13, vi i2), (14, vs r5), (15, vb r6)] ∧ Ct [] w0 a8 [bk none, bk none, bk af, bk ad, some ac, bk ab, bk ae, some aa] O ∧ Sl kPt a8 (Fr ([bk none, bk none, bk af, bk ad, some ac, bk ab, bk ae, some aa] ++ O)) (.slice ap aq ar) a.Shape.Pts ∧ Sl kTag a8 (Fr ([bk none, bk none, bk af, bk ad, some ac, bk ab, bk ae, some aa] ++ O)) (.slice ak al am) a.Tags ∧ Sl kPt a8 (Fr ([bk none, bk none, bk af, bk ad, some ac, bk ab, bk ae, some aa] ++ O)) (.slice bf bg bh) b.Shape.Pts ∧ Sl kTag a8 (Fr ([bk none, bk none, bk af, bk ad, some ac, bk ab, bk ae, some aa] ++ O)) (.slice au av aw) b.Tags ∧ Sl kPt a8 (Fr ([bk none, bk none, bk af, bk ad, some ac, bk ab, bk ae, some aa] ++ O)) (.slice A2 n3 c4) o.Shape.Pts ∧ Sl kTag a8 (Fr ([bk none, bk none, bk af, bk ad, some ac, bk ab, bk ae, some aa] ++ O)) (.slice A7 n8 c9) o.Tags ∧ Ow Kd.str 9 a8 ([bk none, bk none, bk af, bk ad, some ac, bk ab, bk ae, some aa] ++ O) (.slice ae cp cq) xs6 ∧ Ow Kd.str 9 a8 ([bk none, bk none, bk af, bk ad, some ac, bk ab, bk ae, some aa] ++ O) (.slice ad bn bo) r4 ∧ Ow kPt 29 a8 ([bk none, bk none, bk af, bk ad, some ac, bk ab, bk ae, some aa] ++ O) (.slice ab an ao) r3.Pts ∧ Ow kTag 133 a8 ([bk none, bk none, bk af, bk ad, some ac, bk ab, bk ae, some aa] ++ O) (.slice af a2 a3) xs5 ∧ Ow kPt 29 a8 ([bk none, bk none, bk af, bk ad, some ac, bk ab, bk ae, some aa] ++ O) (.slice none 0 0) ([] : List Pt) ∧ Ow kTag 133 a8 ([bk none, bk none, bk af, bk ad, some ac, bk ab, bk ae, some aa] ++ O) (.slice none 0 0) ([] : List Tag) ∧ Fb a8 ([bk none, bk none, bk af, bk ad, some ac, bk ab, bk ae, some aa] ++ O) ax [vs o.Id, vi o.Shape.Kind, .slice A2 n3 c4, .slice A7 n8 c9] ∧ Fb a8 ([bk none, bk none, bk af, bk ad, some ac, bk ab, bk ae, some aa] ++ O) aj [vs a.Id, vi a.Shape.Kind, .slice ap aq ar, .slice ak al am] ∧ Fb a8 ([bk none, bk none, bk af, bk ad, some ac, bk ab, bk ae, some aa] ++ O) ay [vs b.Id, vi b.Shape.Kind, .slice bf bg bh, .slice au av aw] ∧ Bx a8 aa [vs ([] : Str), vi 0, .slice none 0 0, .slice none 0 0] ∧ Bx a8 ac [vs a.Id, vi r3.Kind, .slice ab an ao, .slice af a2 a3])) ?_ ?_
    ·refine W_cond (!r7) rfl (fun g5 => ?_) (fun g5 => ?_)
     ·have H := ite_t H g5
      refine W_reg ?_
      refine L_pu (P_move (.slice ai b1 b2) rfl) ?_
      refine L_pu (P_move (.slice ad bn bo) rfl) ?_
      refine L_pu (P_move (vi i2) rfl) ?_
      obtain ⟨j4, H⟩ := H
      have g6 := (fc.sn a4)
      obtain ⟨j5, sy, nk, nl, nm⟩ := g6.get default (by decide) i2 j4
      obtain ⟨rfl, sz⟩ := Kd.str.op nl
      refine L_pu (P_ia Try.underlying72 se72 ad j5 bn bo g6.len i2 rfl nk rfl j4) ?_
      refine L_pu (P_ld ag9 cL (j5.add (i2.toNat * 1)) (vs (nth r4 i2)) rfl (nm 0 _ rfl)) ?_
      obtain ⟨j6, H⟩ := H
      refine L_pu (P_cat ([116, 97, 103, 32] : Str) (nth r4 i2) rfl rfl j6) ?_
      refine L_lit (kd := Kd.str) ei72 g4 ([(([116, 97, 103, 32] : Str) ++ (nth r4 i2))] : List Str) (cells := [vs (([116, 97, 103, 32] : Str) ++ (nth r4 i2))]) ⟨[vs (([116, 97, 103, 32] : Str) ++ (nth r4 i2))], _, rfl, ⟨rfl, (lim_cat j6)⟩, rfl⟩ (fun _ => by kernel_rfl) fun s0 nn no np cj hr2438 cr nq => ?_
      obtain ⟨nr, H⟩ := H
      have ns := (((gx.sn bp).sn a4).so _ cj hr2438)
      refine L_app ei72 cr (.slice ai b1 b2) xs4 ([(([116, 97, 103, 32] : Str) ++ (nth r4 i2))] : List Str) rfl ns (.slice nn no np) rfl nq.sx 7 rfl nr fun s1 j7 j8 j9 c7 bu cs nt => ?_
      refine L_pu (P_assign (.slice j7 j8 j9) rfl) ?_
      refine L_nil ?_
      have nu := cs.drop 0 rfl
      have ck := fb.stn a4
      have cl := g4.stown _ cj hr2438
      have cm := cs.std 0 rfl
      have nv := (((((gt.st bi).st ck).st cl).st bu).st cm)
      have nw := (((((e6.st bi).st ck).st cl).st bu).st cm)
      have nx := (((((jw.st bi).st ck).st cl).st bu).st cm)
      have ny := (((((gu.st bi).st ck).st cl).st bu).st cm)
      have nz := (((((jx.st bi).st ck).st cl).st bu).st cm)
      have n1 := (((((gw.st bi).st ck).st cl).st bu).st cm)
      have n5 := (cs.sd nt 7 0 rfl rfl rfl)
      have n6 := (cs.sd (cr.sm (g6.so _ cj hr2438) 4 7 rfl rfl rfl c7 bu) 4 0 rfl rfl rfl)
      have n7 := (cs.sd (cr.sm (((e7.sn bp).sn a4).so _ cj hr2438) 6 7 rfl rfl rfl c7 bu) 6 0 rfl rfl rfl)
      have n9 := (cs.sd (cr.sm (((e8.sn bp).sn a4).so _ cj hr2438) 3 7 rfl rfl rfl c7 bu) 3 0 rfl rfl rfl)
      have oa := (cs.sd (cr.sm (((jy.sn bp).sn a4).so _ cj hr2438) 2 7 rfl rfl rfl c7 bu) 2 0 rfl rfl rfl)
      have ob := (cs.sd (cr.sm (((jz.sn bp).sn a4).so _ cj hr2438) 1 7 rfl rfl rfl c7 bu) 1 0 rfl rfl rfl)
      have oc := ((((g1.st ck).st cl).st bu).st cm)
      have od := ((((g2.st ck).st cl).st bu).st cm)
      have oe := ((((g3.st ck).st cl).st bu).st cm)
      have og := (cr.bm (((e9.k0 bp).k0 a4).k0 cj) 8 7 rfl rfl rfl c7)
      have oh := (cr.bm (((fa.k0 bp).k0 a4).k0 cj) 5 7 rfl rfl rfl c7)
      exact ⟨(xs4 ++ ([(([116, 97, 103, 32] : Str) ++ (nth r4 i2))] : List Str)), j7, j8, j9, H, ⟨rfl, rfl, rfl, rfl, rfl, rfl, rfl, rfl, rfl, rfl, trivial⟩, nu, nv, nw, nx, ny, nz, n1, n5, n6, n7, n9, oa, ob, oc, od, oe, og, oh⟩
     ·have H := ite_f H g5
      refine W_skip ?_
      have cn := fb.stn a4
      have oi := ((gt.st bi).st cn)
      have oj := ((e6.st bi).st cn)
      have ol := ((jw.st bi).st cn)
      have om := ((gu.st bi).st cn)
      have on := ((jx.st bi).st cn)
      have oo := ((gw.st bi).st cn)
      have oq := ((gx.sn bp).sn a4)
      have os := (fc.sn a4)
      have ot := ((e7.sn bp).sn a4)
      have ou := ((e8.sn bp).sn a4)
      have ov := ((jy.sn bp).sn a4)
      have ow := ((jz.sn bp).sn a4)
      have ox := (g1.st cn)
      have oy := (g2.st cn)
      have oz := (g3.st cn)
      have o0 := ((e9.k0 bp).k0 a4)
      have o1 := ((fa.k0 bp).k0 a4)
      exact ⟨xs4, ai, b1, b2, H, ⟨rfl, rfl, rfl, rfl, rfl, rfl, rfl, rfl, rfl, rfl, trivial⟩, g4, oi, oj, ol, om, on, oo, oq, os, ot, ou, ov, ow, ox, oy, oz, o0, o1⟩
    ·rintro s2 a8 ⟨xs6, ae, cp, cq, o2, o3, fd, g7, g8, g9, ha, hb, hc, hd, ka, he, hf, hg, hh, hi, hj, hk, hl, hm⟩
     obtain ⟨s3, rfl⟩ := Has.ins o3
     have H := nj xs6 o2
     refine W_seq ?_
     refine W_reg ?_
     refine L_pu (P_move (vb r6) rfl) ?_
     refine L_nil ?_
     obtain ⟨dt, H, o4⟩ := H
     refine W_join (J := (fun t a9 => ∃ (xs7 : List Tag) (a5 : Option Addr) (fe : Nat) (ff : Nat), dt xs7 ∧ Has t [(3, .pointer (some ⟨ax, 0, none⟩)), (4, .pointer (some ⟨aj, 0, none⟩)), (5, .pointer (some ⟨ay, 0, none⟩)), (6, .pointer (some ⟨aa, 0, none⟩)), (8, .slice ae cp cq), (11, .pointer (some ⟨ac, 0, none⟩)), (12, .slice ad bn bo), (13, vi i2)] ∧ Ct [] w0 a9 [bk none, bk none, bk a5, bk ad, some ac, bk ab, bk ae, some aa] O ∧ Sl kPt a9 (Fr ([bk none, bk none, bk a5, bk ad, some ac, bk ab, bk ae, some aa] ++ O)) (.slice ap aq ar) a.Shape.Pts ∧ Sl kTag a9 (Fr ([bk none, bk none, bk a5, bk ad, some ac, bk ab, bk ae, some aa] ++ O)) (.slice ak al am) a.Tags ∧ Sl kPt a9 (Fr ([bk none, bk none, bk a5, bk ad, some ac, bk ab, bk ae, some aa] ++ O)) (.slice bf bg bh) b.Shape.Pts ∧ Sl kTag a9 (Fr ([bk none, bk none, bk a5, bk ad, some ac, bk ab, bk ae, some aa] ++ O)) (.slice au av aw) b.Tags ∧ Sl kPt a9 (Fr ([bk none, bk none, bk a5, bk ad, some ac, bk ab, bk ae, some aa] ++ O)) (.slice A2 n3 c4) o.Shape.Pts ∧ Sl kTag a9 (Fr ([bk none, bk none, bk a5, bk ad, some ac, bk ab, bk ae, some aa] ++ O)) (.slice A7 n8 c9) o.Tags ∧ Ow Kd.str 9 a9 ([bk none, bk none, bk a5, bk ad, some ac, bk ab, bk ae, some aa] ++ O) (.slice ae cp cq) xs6 ∧ Ow Kd.str 9 a9 ([bk none, bk none, bk a5, bk ad, some ac, bk ab, bk ae, some aa] ++ O) (.slice ad bn bo) r4 ∧ Ow kPt 29 a9 ([bk none, bk none, bk a5, bk ad, some ac, bk ab, bk ae, some aa] ++ O) (.slice ab an ao) r3.Pts ∧ Ow kTag 133 a9 ([bk none, bk none, bk a5, bk ad, some ac, bk ab, bk ae, some aa] ++ O) (.slice a5 fe ff) xs7 ∧ Ow kPt 29 a9 ([bk none, bk none, bk a5, bk ad, some ac, bk ab, bk ae, some aa] ++ O) (.slice none 0 0) ([] : List Pt) ∧ Ow kTag 133 a9 ([bk none, bk none, bk a5, bk ad, some ac, bk ab, bk ae, some aa] ++ O) (.slice none 0 0) ([] : List Tag) ∧ Fb a9 ([bk none, bk none, bk a5, bk ad, some ac, bk ab, bk ae, some aa] ++ O) ax [vs o.Id, vi o.Shape.Kind, .slice A2 n3 c4, .slice A7 n8 c9] ∧ Fb a9 ([bk none, bk none, bk a5, bk ad, some ac, bk ab, bk ae, some aa] ++ O) aj [vs a.Id, vi a.Shape.Kind, .slice ap aq ar, .slice ak al am] ∧ Fb a9 ([bk none, bk none, bk a5, bk ad, some ac, bk ab, bk ae, some aa] ++ O) ay [vs b.Id, vi b.Shape.Kind, .slice bf bg bh, .slice au av aw] ∧ Bx a9 aa [vs ([] : Str), vi 0, .slice none 0 0, .slice none 0 0] ∧ Bx a9 ac [vs a.Id, vi r3.Kind, .slice ab an ao, .slice a5 fe ff])) ?_ ?_
     ·refine W_cond r6 rfl (fun hn => ?_) (fun hn => ?_)
      ·have H := ite_t H hn
       obtain ⟨kb, H⟩ := H
       obtain ⟨kc, H⟩ := H
       refine W_join (J := (fun t ba => ∃ (a6 : Option Addr) (fg : Nat) (fh : Nat), Has t [(3, .pointer (some ⟨ax, 0, none⟩)), (4, .pointer (some ⟨aj, 0, none⟩)), (5, .pointer (some ⟨ay, 0, none⟩)), (6, .pointer (some ⟨aa, 0, none⟩)), (8, .slice ae cp cq), (11, .pointer (some ⟨ac, 0, none⟩)), (12, .slice ad bn bo), (13, vi i2)] ∧ Ct [] w0 ba [bk none, bk none, bk a6, bk ad, some ac, bk ab, bk ae, some aa] O ∧ Sl kPt ba (Fr ([bk none, bk none, bk a6, bk ad, some ac, bk ab, bk ae, some aa] ++ O)) (.slice ap aq ar) a.Shape.Pts ∧ Sl kTag ba (Fr ([bk none, bk none, bk a6, bk ad, some ac, bk ab, bk ae, some aa] ++ O)) (.slice ak al am) a.Tags ∧ Sl kPt ba (Fr ([bk none, bk none, bk a6, bk ad, some ac, bk ab, bk ae, some aa] ++ O)) (.slice bf bg bh) b.Shape.Pts ∧ Sl kTag ba (Fr ([bk none, bk none, bk a6, bk ad, some ac, bk ab, bk ae, some aa] ++ O)) (.slice au av aw) b.Tags ∧ Sl kPt ba (Fr ([bk none, bk none, bk a6, bk ad, some ac, bk ab, bk ae, some aa] ++ O)) (.slice A2 n3 c4) o.Shape.Pts ∧ Sl kTag ba (Fr ([bk none, bk none, bk a6, bk ad, some ac, bk ab, bk ae, some aa] ++ O)) (.slice A7 n8 c9) o.Tags ∧ Ow Kd.str 9 ba ([bk none, bk none, bk a6, bk ad, some ac, bk ab, bk ae, some aa] ++ O) (.slice ae cp cq) xs6 ∧ Ow Kd.str 9 ba ([bk none, bk none, bk a6, bk ad, some ac, bk ab, bk ae, some aa] ++ O) (.slice ad bn bo) r4 ∧ Ow kPt 29 ba ([bk none, bk none, bk a6, bk ad, some ac, bk ab, bk ae, some aa] ++ O) (.slice ab an ao) r3.Pts ∧ Ow kTag 133 ba ([bk none, bk none, bk a6, bk ad, some ac, bk ab, bk ae, some aa] ++ O) (.slice a6 fg fh) (xs5 ++ ([(⟨(nth r4 i2), r5⟩ : Tag)] : List Tag)) ∧ Ow kPt 29 ba ([bk none, bk none, bk a6, bk ad, some ac, bk ab, bk ae, some aa] ++ O) (.slice none 0 0) ([] : List Pt) ∧ Ow kTag 133 ba ([bk none, bk none, bk a6, bk ad, some ac, bk ab, bk ae, some aa] ++ O) (.slice none 0 0) ([] : List Tag) ∧ Fb ba ([bk none, bk none, bk a6, bk ad, some ac, bk ab, bk ae, some aa] ++ O) ax [vs o.Id, vi o.Shape.Kind, .slice A2 n3 c4, .slice A7 n8 c9] ∧ Fb ba ([bk none, bk none, bk a6, bk ad, some ac, bk ab, bk ae, some aa] ++ O) aj [vs a.Id, vi a.Shape.Kind, .slice ap aq ar, .slice ak al am] ∧ Fb ba ([bk none, bk none, bk a6, bk ad, some ac, bk ab, bk ae, some aa] ++ O) ay [vs b.Id, vi b.Shape.Kind, .slice bf bg bh, .slice au av aw] ∧ Bx ba aa [vs ([] : Str), vi 0, .slice none 0 0, .slice none 0 0] ∧ Bx ba ac [vs a.Id, vi r3.Kind, .slice ab an ao, .slice a6 fg fh])) ?_ ?_
       ·refine W_mixr 12 [bk af, some ac] (by kernel_rfl) rfl fun s4 bj b3 => ?_
        have dl := fd.k0 bj
        refine M_pu 0 rfl (by kernel_rfl) b3 (P_fa fa71_2 ⟨ac, 0, none⟩ ⟨ac, 3, none⟩ rfl rfl) ?_
        refine M_pu 2 rfl (by kernel_rfl) b3 (P_move (.slice ad bn bo) rfl) ?_
        refine M_pu 3 rfl (by kernel_rfl) b3 (P_move (vi i2) rfl) ?_
        have fi := (ka.sn bj)
        obtain ⟨ke, s5, ho, o5, o6⟩ := fi.get default (by decide) i2 kb
        obtain ⟨rfl, kf⟩ := Kd.str.op o5
        refine M_pu 4 rfl (by kernel_rfl) b3 (P_ia Try.underlying72 se72 ad ke bn bo fi.len i2 rfl ho rfl kb) ?_
        refine M_pu 5 rfl (by kernel_rfl) b3 (P_ldr ag9 cR (ke.add (i2.toNat * 1)) (vs (nth r4 i2)) rfl (o6 0 _ rfl) (nm_cons (by simp only [add_block]; exact (ow_ne dl (j := 3) (i := 2) rfl ho rfl (by decide))) (nm_cons (by simp only [add_block]; exact (ow_ne dl (j := 3) (i := 4) rfl ho rfl (by decide))) nm_nil))) ?_
        refine M_pu 6 rfl (by kernel_rfl) b3 (P_move (vs r5) rfl) ?_
        refine M_pu 7 rfl (by kernel_rfl) b3 (P_build (.agg #[vs (nth r4 i2), vs r5]) (fun _ => by kernel_rfl)) ?_
        refine M_any2 1 8 (by kernel_rfl) rfl rfl ?_ ?_
        ·have kg := (hm.k0 bj)
         refine L_pu (P_ld ag69 cL ⟨ac, 3, none⟩ (.slice af a2 a3) rfl (kg.cell rfl)) ?_
         refine L_nil ⟨b3, ?_⟩
         refine M_any1 8 (by kernel_rfl) rfl ?_
         refine L_lit (kd := kTag) ei69 dl ([(⟨(nth r4 i2), r5⟩ : Tag)] : List Tag) (cells := [vs (nth r4 i2), vs r5]) ⟨[vs (nth r4 i2), vs r5], _, rfl, (kTag.mk _ _ (⟨(nth r4 i2), r5⟩ : Tag) kf j3), rfl⟩ (fun _ => by kernel_rfl) fun s6 kh o7 o8 b4 hr2548 ct o9 => ?_
         have hp := Gm.tm b3 b4
         refine L_nil ⟨hp, ?_⟩
         refine M_any1 9 (by kernel_rfl) rfl ?_
         have hq := ((hf.sn bj).so _ b4 hr2548)
         refine L_app ei69 ct (.slice af a2 a3) xs5 ([(⟨(nth r4 i2), r5⟩ : Tag)] : List Tag) rfl hq (.slice kh o7 o8) rfl o9.sx 3 rfl kc fun pa c8 da db bq ah az hr => ?_
         have dc := Gm.tq hp bq (hv_mem 0 rfl)
         have pb := hv_app (L := [bk kh, bk none, bk none, bk af, bk ad, some ac, bk ab, bk ae, some aa]) (O := O) (i := 3) hp rfl (hv_mem 0 rfl) ah az
         refine L_nil ⟨dc, ?_⟩
         refine M_pu 10 rfl (by kernel_rfl) dc (P_fa fa71_2 ⟨ac, 0, none⟩ ⟨ac, 3, none⟩ rfl rfl) ?_
         refine M_any1 11 (by kernel_rfl) rfl ?_
         have hs := (ct.bm (kg.k0 b4) 5 3 rfl rfl rfl bq)
         refine L_stb ac 3 [vs a.Id, vi r3.Kind, .slice ab an ao, .slice af a2 a3] [.slice c8 da db] [vs a.Id, vi r3.Kind, .slice ab an ao, .slice c8 da db] rfl hs rfl sz69 rfl rfl rfl fun pc a0 ht => ?_
         have br := az.wr 5 rfl a0
         have hu := Gm.tq dc a0 (hv_mem 1 rfl)
         refine L_nil ⟨hu, ?_⟩
         refine M_nil (by kernel_rfl) ?_
         have hv := br.drop 0 rfl
         have bb := fd.stn bj
         have bc := dl.stown _ b4 hr2548
         have bd := az.stw 5 rfl a0
         have be := br.std 0 rfl
         have hw := (((((g7.st bb).st bc).st ah).st bd).st be)
         have hx := (((((g8.st bb).st bc).st ah).st bd).st be)
         have hy := (((((g9.st bb).st bc).st ah).st bd).st be)
         have hz := (((((ha.st bb).st bc).st ah).st bd).st be)
         have h0 := (((((hb.st bb).st bc).st ah).st bd).st be)
         have h1 := (((((hc.st bb).st bc).st ah).st bd).st be)
         have h2 := (br.sd (az.sw (ct.sm ((hd.sn bj).so _ b4 hr2548) 7 3 rfl rfl rfl bq ah) 7 5 rfl rfl rfl a0) 7 0 rfl rfl rfl)
         have h3 := (br.sd (az.sw (ct.sm (fi.so _ b4 hr2548) 4 3 rfl rfl rfl bq ah) 4 5 rfl rfl rfl a0) 4 0 rfl rfl rfl)
         have h4 := (br.sd (az.sw (ct.sm ((he.sn bj).so _ b4 hr2548) 6 3 rfl rfl rfl bq ah) 6 5 rfl rfl rfl a0) 6 0 rfl rfl rfl)
         have h5 := (br.sd (az.sw hr 3 5 rfl rfl rfl a0) 3 0 rfl rfl rfl)
         have h6 := (br.sd (az.sw (ct.sm ((hg.sn bj).so _ b4 hr2548) 2 3 rfl rfl rfl bq ah) 2 5 rfl rfl rfl a0) 2 0 rfl rfl rfl)
         have h7 := (br.sd (az.sw (ct.sm ((hh.sn bj).so _ b4 hr2548) 1 3 rfl rfl rfl bq ah) 1 5 rfl rfl rfl a0) 1 0 rfl rfl rfl)
         have h8 := (((((hi.st bb).st bc).st ah).st bd).st be)
         have h9 := (((((hj.st bb).st bc).st ah).st bd).st be)
         have ia := (((((hk.st bb).st bc).st ah).st bd).st be)
         have ib := (az.bm (ct.bm ((hl.k0 bj).k0 b4) 8 3 rfl rfl rfl bq) 8 5 rfl rfl rfl a0)
         have ic := ht
         exact ⟨c8, da, db, ⟨rfl, rfl, rfl, rfl, rfl, rfl, rfl, rfl, trivial⟩, hv, hw, hx, hy, hz, h0, h1, h2, h3, h4, h5, h6, h7, h8, h9, ia, ib, ic⟩
        ·refine L_lit (kd := kTag) ei69 dl ([(⟨(nth r4 i2), r5⟩ : Tag)] : List Tag) (cells := [vs (nth r4 i2), vs r5]) ⟨[vs (nth r4 i2), vs r5], _, rfl, (kTag.mk _ _ (⟨(nth r4 i2), r5⟩ : Tag) kf j3), rfl⟩ (fun _ => by kernel_rfl) fun s7 ki pd pe b5 hr2547 cu pf => ?_
         have fj := Gm.tm b3 b5
         refine L_nil ⟨fj, ?_⟩
         refine M_any1 1 (by kernel_rfl) rfl ?_
         have kj := ((hm.k0 bj).k0 b5)
         refine L_pu (P_ld ag69 cL ⟨ac, 3, none⟩ (.slice af a2 a3) rfl (kj.cell rfl)) ?_
         refine L_nil ⟨fj, ?_⟩
         refine M_any1 9 (by kernel_rfl) rfl ?_
         have hq := ((hf.sn bj).so _ b5 hr2547)
         refine L_app ei69 cu (.slice af a2 a3) xs5 ([(⟨(nth r4 i2), r5⟩ : Tag)] : List Tag) rfl hq (.slice ki pd pe) rfl pf.sx 3 rfl kc fun pa c8 da db bq ah az hr => ?_
         have dc := Gm.tq fj bq (hv_mem 0 rfl)
         have pb := hv_app (L := [bk ki, bk none, bk none, bk af, bk ad, some ac, bk ab, bk ae, some aa]) (O := O) (i := 3) fj rfl (hv_mem 0 rfl) ah az
         refine L_nil ⟨dc, ?_⟩
         refine M_pu 10 rfl (by kernel_rfl) dc (P_fa fa71_2 ⟨ac, 0, none⟩ ⟨ac, 3, none⟩ rfl rfl) ?_
         refine M_any1 11 (by kernel_rfl) rfl ?_
         have hs := (cu.bm kj 5 3 rfl rfl rfl bq)
         refine L_stb ac 3 [vs a.Id, vi r3.Kind, .slice ab an ao, .slice af a2 a3] [.slice c8 da db] [vs a.Id, vi r3.Kind, .slice ab an ao, .slice c8 da db] rfl hs rfl sz69 rfl rfl rfl fun pc a0 ht => ?_
         have br := az.wr 5 rfl a0
         have hu := Gm.tq dc a0 (hv_mem 1 rfl)
         refine L_nil ⟨hu, ?_⟩
         refine M_nil (by kernel_rfl) ?_
         have hv := br.drop 0 rfl
         have bb := fd.stn bj
         have bc := dl.stown _ b5 hr2547
         have bd := az.stw 5 rfl a0
         have be := br.std 0 rfl
         have hw := (((((g7.st bb).st bc).st ah).st bd).st be)
         have hx := (((((g8.st bb).st bc).st ah).st bd).st be)
         have hy := (((((g9.st bb).st bc).st ah).st bd).st be)
         have hz := (((((ha.st bb).st bc).st ah).st bd).st be)
         have h0 := (((((hb.st bb).st bc).st ah).st bd).st be)
         have h1 := (((((hc.st bb).st bc).st ah).st bd).st be)
         have h2 := (br.sd (az.sw (cu.sm ((hd.sn bj).so _ b5 hr2547) 7 3 rfl rfl rfl bq ah) 7 5 rfl rfl rfl a0) 7 0 rfl rfl rfl)
         have h3 := (br.sd (az.sw (cu.sm (fi.so _ b5 hr2547) 4 3 rfl rfl rfl bq ah) 4 5 rfl rfl rfl a0) 4 0 rfl rfl rfl)
         have h4 := (br.sd (az.sw (cu.sm ((he.sn bj).so _ b5 hr2547) 6 3 rfl rfl rfl bq ah) 6 5 rfl rfl rfl a0) 6 0 rfl rfl rfl)
         have h5 := (br.sd (az.sw hr 3 5 rfl rfl rfl a0) 3 0 rfl rfl rfl)
         have h6 := (br.sd (az.sw (cu.sm ((hg.sn bj).so _ b5 hr2547) 2 3 rfl rfl rfl bq ah) 2 5 rfl rfl rfl a0) 2 0 rfl rfl rfl)
         have h7 := (br.sd (az.sw (cu.sm ((hh.sn bj).so _ b5 hr2547) 1 3 rfl rfl rfl bq ah) 1 5 rfl rfl rfl a0) 1 0 rfl rfl rfl)
         have h8 := (((((hi.st bb).st bc).st ah).st bd).st be)
         have h9 := (((((hj.st bb).st bc).st ah).st bd).st be)
         have ia := (((((hk.st bb).st bc).st ah).st bd).st be)
         have ib := (az.bm (cu.bm ((hl.k0 bj).k0 b5) 8 3 rfl rfl rfl bq) 8 5 rfl rfl rfl a0)
         have ic := ht
         exact ⟨c8, da, db, ⟨rfl, rfl, rfl, rfl, rfl, rfl, rfl, rfl, trivial⟩, hv, hw, hx, hy, hz, h0, h1, h2, h3, h4, h5, h6, h7, h8, h9, ia, ib, ic⟩
       ·rintro s8 ba ⟨a6, fg, fh, pg, ph, pi, pj, pk, pl, pm, pn, po, pp, pq, pr, ps, pt, pu, pv, pw, px, py⟩
        obtain ⟨s9, rfl⟩ := Has.ins pg
        exact ⟨(xs5 ++ ([(⟨(nth r4 i2), r5⟩ : Tag)] : List Tag)), a6, fg, fh, H, ⟨rfl, rfl, rfl, rfl, rfl, rfl, rfl, rfl, trivial⟩, ph, pi, pj, pk, pl, pm, pn, po, pp, pq, pr, ps, pt, pu, pv, pw, px, py⟩
      ·have H := ite_f H hn
       refine W_skip ?_
       exact ⟨xs5, af, a2, a3, H, ⟨rfl, rfl, rfl, rfl, rfl, rfl, rfl, rfl, trivial⟩, fd, g7, g8, g9, ha, hb, hc, hd, ka, he, hf, hg, hh, hi, hj, hk, hl, hm⟩
     ·rintro ta a9 ⟨xs7, a5, fe, ff, pz, p0, p1, p2, p3, p4, p5, p6, p7, p8, p9, qa, qb, qc, qd, qe, qf, qg, qh, qi⟩
      obtain ⟨tb, rfl⟩ := Has.ins p0
      have H := o4 xs7 pz
      refine W_reg ?_
      refine L_pu (P_move (vi i2) rfl) ?_
      obtain ⟨qj, H⟩ := H
      refine L_pu (P_add i2 1 rfl rfl qj) ?_
      refine L_pu (P_assign (vi (i2 + 1)) rfl) ?_
      refine L_nil ?_
      obtain ⟨qk, ql⟩ := H
      exact ⟨(xs6, ae, cp, cq, i2 + 1, xs7, a5, fe, ff), ql, qk, ⟨rfl, rfl, rfl, rfl, rfl, rfl, rfl, rfl, trivial⟩, p1, p2, p3, p4, p5, p6, p7, p8, p9, qa, qb, qc, qd, qe, qf, qg, qh, qi⟩
   ·have H := ite_f H gz
    refine W_exit (xin_hit ?_)
    refine W_seq ?_
    refine W_seq ?_
    refine W_reg ?_
    refine L_pu (P_lda ag71 sz71 cL ⟨ac, 0, none⟩ [vs a.Id, vi r3.Kind, .slice ab an ao, .slice af a2 a3] rfl rfl (fa.cells (off := 0) rfl)) ?_
    have qm := c6.gv e7 5 rfl
    have id := c6.drop 5 rfl
    have qn := (c6.sd e8 2 5 rfl rfl rfl)
    have qo := id.gv qn 2 rfl
    have qp := id.drop 2 rfl
    have qq := id.std 2 rfl
    refine L_call go89 [.agg #[vs a.Id, vi r3.Kind, .slice ab an ao, .slice af a2 a3]] rfl ((spec_FeatOk.calls a1 qp.ok (⟨a.Id, r3, xs5⟩ : Feat) ab an ao af a2 a3 fr (qm.st qq) qo _ H).mono ?_)
    rintro _ qr ⟨r8, rfl, H, cv⟩
    have dm := c6.k0 cv
    refine L_pu (P_not r8 rfl) ?_
    refine L_nil ?_
    refine W_cond (!r8) rfl (fun ie => ?_) (fun ie => ?_)
    ·have H := ite_t H ie
     refine W_seq ?_
     refine W_reg ?_
     have ig := c6.stn cv
     have qs := (j0.st ig)
     refine L_pu (P_lda ag71 sz71 cL ⟨aj, 0, none⟩ [vs a.Id, vi a.Shape.Kind, .slice ap aq ar, .slice ak al am] rfl rfl (qs.cells (off := 0) rfl)) ?_
     refine L_call go80 [.agg #[vs a.Id, vi a.Shape.Kind, .slice ap aq ar, .slice ak al am]] rfl ((spec_l2Copy.calls qr dm.ok a ap aq ar ak al am fr (gt.st ig) (e6.st ig) _ H).mono ?_)
     rintro _ tc ⟨r9, dn, fk, fl, dp, fm, fn, rfl, H, kk, qt, qu, qv, qw, qx⟩
     have qy := dm.owns kk qt qu
     refine L_lit (kd := Kd.str) ei72 qy ([([109, 117, 99, 104] : Str)] : List Str) (cells := [vs ([109, 117, 99, 104] : Str)]) ⟨[vs ([109, 117, 99, 104] : Str)], _, rfl, ⟨rfl, (by decide)⟩, rfl⟩ (fun _ => by kernel_rfl) fun td d0 ih ii ij hr4610 fo qz => ?_
     have q0 := (((e9.k0 cv).k0 kk).k0 ij)
     refine L_stb aa 0 [vs ([] : Str), vi 0, .slice none 0 0, .slice none 0 0] [vs r9.Id, vi r9.Shape.Kind, .slice dn fk fl, .slice dp fm fn] [vs r9.Id, vi r9.Shape.Kind, .slice dn fk fl, .slice dp fm fn] rfl q0 rfl sz71 rfl rfl rfl fun kl fp q1 => ?_
     have d1 := fo.wr 10 rfl fp
     refine L_pu (P_assign (.slice d0 ih ii) rfl) ?_
     refine L_nil ?_
     refine W_ret ?_
     have q2 := d1.bgv q1 10 rfl
     have d2 := d1.drop 10 rfl
     have d3 := d2.drop 3 rfl
     have d4 : Ct [] w0 kl [bk d0, bk dn, bk dp, bk af, bk ad, some ac, bk ab, bk ai] O := d3.drop 3 rfl
     have d5 := d4.drop 3 rfl
     have d6 := d5.drop 3 rfl
     have d7 : Ct [] w0 kl [bk d0, bk dn, bk dp, bk ab, bk ai] O := d6.drop 3 rfl
     have d8 := d7.drop 3 rfl
     have d9 := d8.drop 3 rfl
     have ea := d9.perm (.swap _ _ _)
     have ik := ea.perm (.cons _ (.swap _ _ _))
     have q3 := d2.std 3 rfl
     have q4 := d3.std 3 rfl
     have q5 := d4.std 3 rfl
     have q6 := d5.std 3 rfl
     have q7 := d6.std 3 rfl
     have q8 := d7.std 3 rfl
     have q9 := d8.std 3 rfl
     have ra := d9.stp (.swap _ _ _)
     have rb := ea.stp (.cons _ (.swap _ _ _))
     have rc := (((((((((q2.st q3).st q4).st q5).st q6).st q7).st q8).st q9).st ra).st rb)
     have rd := (ea.sp (d9.sp (d8.sd (d7.sd (d6.sd (d5.sd (d4.sd (d3.sd (d2.sd (d1.sd (fo.sw (qw.so _ ij hr4610) 1 10 rfl rfl rfl fp) 1 10 rfl rfl rfl) 1 3 rfl rfl rfl) 1 3 rfl rfl rfl) 1 3 rfl rfl rfl) 1 3 rfl rfl rfl) 1 3 rfl rfl rfl) 1 3 rfl rfl rfl) 1 3 rfl rfl rfl) (.swap _ _ _)) (.cons _ (.swap _ _ _)))
     have re := (ea.sp (d9.sp (d8.sd (d7.sd (d6.sd (d5.sd (d4.sd (d3.sd (d2.sd (d1.sd (fo.sw (qx.so _ ij hr4610) 2 10 rfl rfl rfl fp) 2 10 rfl rfl rfl) 2 3 rfl rfl rfl) 2 3 rfl rfl rfl) 2 3 rfl rfl rfl) 2 3 rfl rfl rfl) 2 3 rfl rfl rfl) 2 3 rfl rfl rfl) 2 3 rfl rfl rfl) (.swap _ _ _)) (.cons _ (.swap _ _ _)))
     have rf := (ea.sp (d9.sp (d8.sd (d7.sd (d6.sd (d5.sd (d4.sd (d3.sd (d2.sd (d1.sd (fo.sw qz 0 10 rfl rfl rfl fp) 0 10 rfl rfl rfl) 0 3 rfl rfl rfl) 0 3 rfl rfl rfl) 0 3 rfl rfl rfl) 0 3 rfl rfl rfl) 0 3 rfl rfl rfl) 0 3 rfl rfl rfl) 0 3 rfl rfl rfl) (.swap _ _ _)) (.cons _ (.swap _ _ _)))
     exact ⟨[.agg #[vs r9.Id, vi r9.Shape.Kind, .slice dn fk fl, .slice dp fm fn], .slice d0 ih ii], ⟨_, _, rfl, rc.1.res rfl ag71 sz71, ⟨_, rfl, rfl⟩⟩, r9, ([([109, 117, 99, 104] : Str)] : List Str), dn, fk, fl, dp, fm, fn, d0, ih, ii, rfl, H, ik.gr.g0, ik.ok, ik.ge, qv, rd, re, rf⟩
    ·have H := ite_f H ie
     refine W_skip ?_
     refine W_seq ?_
     refine W_reg ?_
     have rg := (fa.k0 cv)
     refine L_pu (P_lda ag71 sz71 cL ⟨ac, 0, none⟩ [vs a.Id, vi r3.Kind, .slice ab an ao, .slice af a2 a3] rfl rfl (rg.cells (off := 0) rfl)) ?_
     refine L_pu (P_move (.slice ai b1 b2) rfl) ?_
     have rh := (e9.k0 cv)
     refine L_stb aa 0 [vs ([] : Str), vi 0, .slice none 0 0, .slice none 0 0] [vs a.Id, vi r3.Kind, .slice ab an ao, .slice af a2 a3] [vs a.Id, vi r3.Kind, .slice ab an ao, .slice af a2 a3] rfl rh rfl sz71 rfl rfl rfl fun ri fq rj => ?_
     have eb := dm.wr 7 rfl fq
     refine L_pu (P_assign (.slice ai b1 b2) rfl) ?_
     refine L_nil ?_
     refine W_ret ?_
     have rk := eb.bgv rj 7 rfl
     have ec := eb.drop 7 rfl
     have ed := ec.drop 0 rfl
     have ee : Ct [] w0 ri [bk af, bk ad, some ac, bk ab, bk ai] O := ed.drop 0 rfl
     have ef := ee.drop 1 rfl
     have eg := ef.drop 1 rfl
     have il := eg.perm (.swap _ _ _)
     have rl := ec.std 0 rfl
     have rm := ed.std 0 rfl
     have rn := ee.std 1 rfl
     have ro := ef.std 1 rfl
     have rp := eg.stp (.swap _ _ _)
     have rq := (((((rk.st rl).st rm).st rn).st ro).st rp)
     have rr := (eg.sp (ef.sd (ee.sd (ed.sd (ec.sd (eb.sd (dm.sw (e7.sn cv) 5 7 rfl rfl rfl fq) 5 7 rfl rfl rfl) 5 0 rfl rfl rfl) 4 0 rfl rfl rfl) 3 1 rfl rfl rfl) 2 1 rfl rfl rfl) (.swap _ _ _))
     have rs := (eg.sp (ef.sd (ee.sd (ed.sd (ec.sd (eb.sd (dm.sw (e8.sn cv) 2 7 rfl rfl rfl fq) 2 7 rfl rfl rfl) 2 0 rfl rfl rfl) 1 0 rfl rfl rfl) 0 1 rfl rfl rfl) 0 1 rfl rfl rfl) (.swap _ _ _))
     have rt := (eg.sp (ef.sd (ee.sd (ed.sd (ec.sd (eb.sd (dm.sw (gx.sn cv) 6 7 rfl rfl rfl fq) 6 7 rfl rfl rfl) 6 0 rfl rfl rfl) 5 0 rfl rfl rfl) 4 1 rfl rfl rfl) 3 1 rfl rfl rfl) (.swap _ _ _))
     exact ⟨[.agg #[vs a.Id, vi r3.Kind, .slice ab an ao, .slice af a2 a3], .slice ai b1 b2], ⟨_, _, rfl, rq.1.res rfl ag71 sz71, ⟨_, rfl, rfl⟩⟩, (⟨a.Id, r3, xs5⟩ : Feat), xs4, ab, an, ao, af, a2, a3, ai, b1, b2, rfl, H, il.gr.g0, il.ok, il.ge, fr, rr, rs, rt⟩
end Go.Proofs.Ytndjggncgpjolaa

namespace Go.Proofs.Ytndjggncgpjolaa
open Go.RowKit
set_option linter.unusedVariables false
set_option linter.unusedSimpArgs false
def spec_FeatJoin.E (base_ : Feat) (a : Feat) (b : Feat) (Q : Feat → List Str → Prop) : Prop :=
 spec_FeatOk.E base_ (fun r => (if !r then Q (⟨([] : Str), (⟨0, ([] : List Pt)⟩ : Shape), ([] : List Tag)⟩ : Feat) ([] : List Str) else spec_FeatOk.E a (fun r2 => (if !r2 then Q (⟨([] : Str), (⟨0, ([] : List Pt)⟩ : Shape), ([] : List Tag)⟩ : Feat) ([] : List Str) else spec_FeatOk.E b (fun r3 => (if !r3 then Q (⟨([] : Str), (⟨0, ([] : List Pt)⟩ : Shape), ([] : List Tag)⟩ : Feat) ([] : List Str) else (if a.Id != base_.Id then Q (⟨([] : Str), (⟨0, ([] : List Pt)⟩ : Shape), ([] : List Tag)⟩ : Feat) ([] : List Str) else (if b.Id != base_.Id then Q (⟨([] : Str), (⟨0, ([] : List Pt)⟩ : Shape), ([] : List Tag)⟩ : Feat) ([] : List Str) else spec_l6Feat.E base_ a b (fun r4 r5 => Q r4 r5)))))))))
set_option maxHeartbeats 8000000 in
set_option maxRecDepth 100000 in
theorem spec_FeatJoin.calls {O : Ob} (w0 : World) (hO : Ok w0 O) (base_ : Feat) (A2 : Option Addr) (n3 c4 : Nat) (A7 : Option Addr) (n8 c9 : Nat) (hs1 : Lim base_.Id) (hp5 : Sl kPt w0 (Fr O) (.slice A2 n3 c4) base_.Shape.Pts) (cl : Sl kTag w0 (Fr O) (.slice A7 n8 c9) base_.Tags) (a : Feat) (ag : Option Addr) (ah ai : Nat) (aj : Option Addr) (ak al : Nat) (cm : Lim a.Id) (cn : Sl kPt w0 (Fr O) (.slice ag ah ai) a.Shape.Pts) (co : Sl kTag w0 (Fr O) (.slice aj ak al) a.Tags) (b : Feat) (am : Option Addr) (an ao : Nat) (ap : Option Addr) (aq ar : Nat) (cp : Lim b.Id) (cq : Sl kPt w0 (Fr O) (.slice am an ao) b.Shape.Pts) (cr : Sl kTag w0 (Fr O) (.slice ap aq ar) b.Tags) (Q : Feat → List Str → Prop) (h : spec_FeatJoin.E base_ a b Q) :
  Ret Try.prog 34 [.agg #[vs base_.Id, vi base_.Shape.Kind, .slice A2 n3 c4, .slice A7 n8 c9], .agg #[vs a.Id, vi a.Shape.Kind, .slice ag ah ai, .slice aj ak al], .agg #[vs b.Id, vi b.Shape.Kind, .slice am an ao, .slice ap aq ar]] w0 (fun v w' => ∃ (r0 : Feat) (r1 : List Str) (A0 : Option Addr) (n0 c0 : Nat) (A2 : Option Addr) (n2 c2 : Nat) (A4 : Option Addr) (n4 c4 : Nat), v = .tuple #[.agg #[vs r0.Id, vi r0.Shape.Kind, .slice A0 n0 c0, .slice A2 n2 c2], .slice A4 n4 c4] ∧ Q r0 r1 ∧ Gr w0 w' none ∧ Ok w' ([bk A0, bk A2, bk A4] ++ O) ∧ (∀ b, some b ∈ [bk A0, bk A2, bk A4] → w0.heap.size ≤ b) ∧ Lim r0.Id ∧ Ow kPt 29 w' ([bk A0, bk A2, bk A4] ++ O) (.slice A0 n0 c0) r0.Shape.Pts ∧ Ow kTag 133 w' ([bk A0, bk A2, bk A4] ++ O) (.slice A2 n2 c2) r0.Tags ∧ Ow Kd.str 9 w' ([bk A0, bk A2, bk A4] ++ O) (.slice A4 n4 c4) r1) := by
 unfold spec_FeatJoin.E at h
 have H := h
 clear h
 have hc0 := Ct.init hO
 refine Ret_enter Try.func34 rfl 43 rfl [.cell 6 71, .tmp 7] rfl rfl ?_
 refine W_seq ?_
 refine W_reg ?_
 refine L_box [vs base_.Id, vi base_.Shape.Kind, .slice A2 n3 c4, .slice A7 n8 c9] rfl fun gk au dp hu38 dq dr => ?_
 have ds := Fb.mk hc0.ok dp dr
 have bw := hc0.k0 dq
 refine L_box [vs a.Id, vi a.Shape.Kind, .slice ag ah ai, .slice aj ak al] rfl fun gl ba dt hu47 cs du => ?_
 have dv := Fb.mk bw.ok dt du
 have bx := bw.k0 cs
 refine L_box [vs b.Id, vi b.Shape.Kind, .slice am an ao, .slice ap aq ar] rfl fun gm bb dw hu56 ct dx => ?_
 have dy := Fb.mk bx.ok dw dx
 have cu := bx.k0 ct
 refine L_alloc [vs [], .int .i64 0, .slice none 0 0, .slice none 0 0] ze71 fun dz aa cv hu65 cw a3 => ?_
 have bc := cu.own cw (some aa) (oglt cv hu65)
 refine L_pu (P_assign (.slice none 0 0) rfl) ?_
 refine L_nil ?_
 refine W_seq ?_
 refine W_seq ?_
 refine W_reg ?_
 have d0 := bw.stn cs
 have cx := bx.stn ct
 have bz := cu.stown _ cw (oge cv)
 have cy := (((ds.st d0).st cx).st bz)
 refine L_pu (P_lda ag71 sz71 cL ⟨au, 0, none⟩ [vs base_.Id, vi base_.Shape.Kind, .slice A2 n3 c4, .slice A7 n8 c9] rfl rfl (cy.cells (off := 0) rfl)) ?_
 refine L_call go89 [.agg #[vs base_.Id, vi base_.Shape.Kind, .slice A2 n3 c4, .slice A7 n8 c9]] rfl ((spec_FeatOk.calls dz bc.ok base_ A2 n3 c4 A7 n8 c9 hs1 (hp5.st bc.st) (cl.st bc.st) _ H).mono ?_)
 rintro _ d1 ⟨r, rfl, H, av⟩
 have a4 := bc.k0 av
 refine L_pu (P_not r rfl) ?_
 refine L_pu (P_move (vb (!r)) rfl) ?_
 rcases bool_or (!r) with ad | ad
 ·have H := ite_t H ad
  refine L_pass (dj := 11) rfl rfl (.inl (by exact congrArg Value.bool ad)) ?_
  refine L_pass (dj := 11) rfl rfl (.inl (by exact congrArg Value.bool ad)) ?_
  refine L_pass (dj := 11) rfl rfl (.inl (by exact congrArg Value.bool ad)) ?_
  refine L_pu (P_pick true (vb true) (by exact congrArg Value.bool ad) rfl) ?_
  refine L_pu (P_move (vb true) rfl) ?_
  refine L_pass (dj := 16) rfl rfl (.inl rfl) ?_
  refine L_pass (dj := 16) rfl rfl (.inl rfl) ?_
  refine L_pass (dj := 16) rfl rfl (.inl rfl) ?_
  refine L_pu (P_pick true (vb true) (by exact congrArg Value.bool rfl) rfl) ?_
  refine L_pu (P_move (vb true) rfl) ?_
  refine L_pass (dj := 21) rfl rfl (.inl rfl) ?_
  refine L_pass (dj := 21) rfl rfl (.inl rfl) ?_
  refine L_pass (dj := 21) rfl rfl (.inl rfl) ?_
  refine L_pass (dj := 21) rfl rfl (.inl rfl) ?_
  refine L_pass (dj := 21) rfl rfl (.inl rfl) ?_
  refine L_pu (P_pick true (vb true) (by exact congrArg Value.bool rfl) rfl) ?_
  refine L_pu (P_move (vb true) rfl) ?_
  refine L_pass (dj := 28) rfl rfl (.inl rfl) ?_
  refine L_pass (dj := 28) rfl rfl (.inl rfl) ?_
  refine L_pass (dj := 28) rfl rfl (.inl rfl) ?_
  refine L_pass (dj := 28) rfl rfl (.inl rfl) ?_
  refine L_pass (dj := 28) rfl rfl (.inl rfl) ?_
  refine L_pu (P_pick true (vb true) (by exact congrArg Value.bool rfl) rfl) ?_
  refine L_nil ?_
  refine W_ct (b := true) rfl rfl ?_
  refine W_seq ?_
  refine W_reg ?_
  refine L_pu (P_build (.agg #[vs ([] : Str), vi 0, .slice none 0 0, .slice none 0 0]) (fun _ => by kernel_rfl)) ?_
  refine L_lit (kd := Kd.str) ei72 a4 ([] : List Str) (cells := []) rfl (fun _ => by kernel_rfl) fun gn bd b0 b1 d2 hr85 cz d3 => ?_
  have d4 := ((a3.k0 av).k0 d2)
  refine L_stb aa 0 [vs ([] : Str), vi 0, .slice none 0 0, .slice none 0 0] [vs ([] : Str), vi 0, .slice none 0 0, .slice none 0 0] [vs ([] : Str), vi 0, .slice none 0 0, .slice none 0 0] rfl d4 rfl sz71 rfl rfl rfl fun c1 c3 d5 => ?_
  have d6 := cz.wr 1 rfl c3
  refine L_pu (P_assign (.slice bd b0 b1) rfl) ?_
  refine L_nil ?_
  refine W_ret ?_
  have d7 := d6.own (Gr.refl _ none) none (by simp)
  have d8 : Ow kPt 29 c1 ([bk none, bk bd, some aa] ++ O) (.slice none 0 0) [] := Ow.nil _ _ _ _
  have be := d7.own (Gr.refl _ none) none (by simp)
  have d9 : Ow kTag 133 c1 ([bk none, bk none, bk bd, some aa] ++ O) (.slice none 0 0) [] := Ow.nil _ _ _ _
  have ea := d5
  have eb := be.bgv ea 3 rfl
  have bf := be.drop 3 rfl
  have b2 := bf.perm (.swap _ _ _)
  have ec := bf.stp (.swap _ _ _)
  have ed := (eb.st ec)
  have ee := (bf.sp (be.sd (d8.so none (Gr.refl _ none) (by simp)) 1 3 rfl rfl rfl) (.swap _ _ _))
  have ef := (bf.sp (be.sd d9 0 3 rfl rfl rfl) (.swap _ _ _))
  have eg := (bf.sp (be.sd (((cz.sw d3 0 1 rfl rfl rfl c3).so none (Gr.refl _ none) (by simp)).so none (Gr.refl _ none) (by simp)) 2 3 rfl rfl rfl) (.swap _ _ _))
  exact ⟨[.agg #[vs ([] : Str), vi 0, .slice none 0 0, .slice none 0 0], .slice bd b0 b1], ⟨_, _, rfl, ed.1.res rfl ag71 sz71, ⟨_, rfl, rfl⟩⟩, (⟨([] : Str), (⟨0, ([] : List Pt)⟩ : Shape), ([] : List Tag)⟩ : Feat), ([] : List Str), none, 0, 0, none, 0, 0, bd, b0, b1, rfl, H, b2.gr.g0, b2.ok, b2.ge, (by decide), ee, ef, eg⟩
 ·have H := ite_f H ad
  refine L_run (dj := 11) rfl rfl (by exact congrArg Value.bool ad) ?_
  have b3 := bc.stn av
  have c5 := (((dv.st cx).st bz).st b3)
  refine L_pu (P_lda ag71 sz71 cL ⟨ba, 0, none⟩ [vs a.Id, vi a.Shape.Kind, .slice ag ah ai, .slice aj ak al] rfl rfl (c5.cells (off := 0) rfl)) ?_
  refine L_run (dj := 11) rfl rfl (by exact congrArg Value.bool ad) ?_
  refine L_call go89 [.agg #[vs a.Id, vi a.Shape.Kind, .slice ag ah ai, .slice aj ak al]] rfl ((spec_FeatOk.calls d1 a4.ok a ag ah ai aj ak al cm (cn.st a4.st) (co.st a4.st) _ H).mono ?_)
  rintro _ eh ⟨r2, rfl, H, aw⟩
  have a5 := a4.k0 aw
  refine L_run (dj := 11) rfl rfl (by exact congrArg Value.bool ad) ?_
  refine L_pu (P_not r2 rfl) ?_
  refine L_pu (P_pick false (vb (!r2)) (by exact congrArg Value.bool ad) rfl) ?_
  refine L_pu (P_move (vb (!r2)) rfl) ?_
  rcases bool_or (!r2) with ae | ae
  ·have H := ite_t H ae
   refine L_pass (dj := 16) rfl rfl (.inl (by exact congrArg Value.bool ae)) ?_
   refine L_pass (dj := 16) rfl rfl (.inl (by exact congrArg Value.bool ae)) ?_
   refine L_pass (dj := 16) rfl rfl (.inl (by exact congrArg Value.bool ae)) ?_
   refine L_pu (P_pick true (vb true) (by exact congrArg Value.bool ae) rfl) ?_
   refine L_pu (P_move (vb true) rfl) ?_
   refine L_pass (dj := 21) rfl rfl (.inl rfl) ?_
   refine L_pass (dj := 21) rfl rfl (.inl rfl) ?_
   refine L_pass (dj := 21) rfl rfl (.inl rfl) ?_
   refine L_pass (dj := 21) rfl rfl (.inl rfl) ?_
   refine L_pass (dj := 21) rfl rfl (.inl rfl) ?_
   refine L_pu (P_pick true (vb true) (by exact congrArg Value.bool rfl) rfl) ?_
   refine L_pu (P_move (vb true) rfl) ?_
   refine L_pass (dj := 28) rfl rfl (.inl rfl) ?_
   refine L_pass (dj := 28) rfl rfl (.inl rfl) ?_
   refine L_pass (dj := 28) rfl rfl (.inl rfl) ?_
   refine L_pass (dj := 28) rfl rfl (.inl rfl) ?_
   refine L_pass (dj := 28) rfl rfl (.inl rfl) ?_
   refine L_pu (P_pick true (vb true) (by exact congrArg Value.bool rfl) rfl) ?_
   refine L_nil ?_
   refine W_ct (b := true) rfl rfl ?_
   refine W_seq ?_
   refine W_reg ?_
   refine L_pu (P_build (.agg #[vs ([] : Str), vi 0, .slice none 0 0, .slice none 0 0]) (fun _ => by kernel_rfl)) ?_
   refine L_lit (kd := Kd.str) ei72 a5 ([] : List Str) (cells := []) rfl (fun _ => by kernel_rfl) fun gp bg b4 b5 ei hr123 c6 ej => ?_
   have ek := (((a3.k0 av).k0 aw).k0 ei)
   refine L_stb aa 0 [vs ([] : Str), vi 0, .slice none 0 0, .slice none 0 0] [vs ([] : Str), vi 0, .slice none 0 0, .slice none 0 0] [vs ([] : Str), vi 0, .slice none 0 0, .slice none 0 0] rfl ek rfl sz71 rfl rfl rfl fun c7 c8 el => ?_
   have em := c6.wr 1 rfl c8
   refine L_pu (P_assign (.slice bg b4 b5) rfl) ?_
   refine L_nil ?_
   refine W_ret ?_
   have en := em.own (Gr.refl _ none) none (by simp)
   have eo : Ow kPt 29 c7 ([bk none, bk bg, some aa] ++ O) (.slice none 0 0) [] := Ow.nil _ _ _ _
   have bh := en.own (Gr.refl _ none) none (by simp)
   have ep : Ow kTag 133 c7 ([bk none, bk none, bk bg, some aa] ++ O) (.slice none 0 0) [] := Ow.nil _ _ _ _
   have eq := el
   have er := bh.bgv eq 3 rfl
   have bi := bh.drop 3 rfl
   have b6 := bi.perm (.swap _ _ _)
   have es := bi.stp (.swap _ _ _)
   have et := (er.st es)
   have eu := (bi.sp (bh.sd (eo.so none (Gr.refl _ none) (by simp)) 1 3 rfl rfl rfl) (.swap _ _ _))
   have ev := (bi.sp (bh.sd ep 0 3 rfl rfl rfl) (.swap _ _ _))
   have ew := (bi.sp (bh.sd (((c6.sw ej 0 1 rfl rfl rfl c8).so none (Gr.refl _ none) (by simp)).so none (Gr.refl _ none) (by simp)) 2 3 rfl rfl rfl) (.swap _ _ _))
   exact ⟨[.agg #[vs ([] : Str), vi 0, .slice none 0 0, .slice none 0 0], .slice bg b4 b5], ⟨_, _, rfl, et.1.res rfl ag71 sz71, ⟨_, rfl, rfl⟩⟩, (⟨([] : Str), (⟨0, ([] : List Pt)⟩ : Shape), ([] : List Tag)⟩ : Feat), ([] : List Str), none, 0, 0, none, 0, 0, bg, b4, b5, rfl, H, b6.gr.g0, b6.ok, b6.ge, (by decide), eu, ev, ew⟩
  ·have H := ite_f H ae
   refine L_run (dj := 16) rfl rfl (by exact congrArg Value.bool ae) ?_
   have b7 := a4.stn aw
   have da := (((dy.st bz).st b3).st b7)
   refine L_pu (P_lda ag71 sz71 cL ⟨bb, 0, none⟩ [vs b.Id, vi b.Shape.Kind, .slice am an ao, .slice ap aq ar] rfl rfl (da.cells (off := 0) rfl)) ?_
   refine L_run (dj := 16) rfl rfl (by exact congrArg Value.bool ae) ?_
   refine L_call go89 [.agg #[vs b.Id, vi b.Shape.Kind, .slice am an ao, .slice ap aq ar]] rfl ((spec_FeatOk.calls eh a5.ok b am an ao ap aq ar cp (cq.st a5.st) (cr.st a5.st) _ H).mono ?_)
   rintro _ ex ⟨r3, rfl, H, a6⟩
   have af := a5.k0 a6
   refine L_run (dj := 16) rfl rfl (by exact congrArg Value.bool ae) ?_
   refine L_pu (P_not r3 rfl) ?_
   refine L_pu (P_pick false (vb (!r3)) (by exact congrArg Value.bool ae) rfl) ?_
   refine L_pu (P_move (vb (!r3)) rfl) ?_
   rcases bool_or (!r3) with ab | ab
   ·have H := ite_t H ab
    refine L_pass (dj := 21) rfl rfl (.inl (by exact congrArg Value.bool ab)) ?_
    refine L_pass (dj := 21) rfl rfl (.inl (by exact congrArg Value.bool ab)) ?_
    refine L_pass (dj := 21) rfl rfl (.inl (by exact congrArg Value.bool ab)) ?_
    refine L_pass (dj := 21) rfl rfl (.inl (by exact congrArg Value.bool ab)) ?_
    refine L_pass (dj := 21) rfl rfl (.inl (by exact congrArg Value.bool ab)) ?_
    refine L_pu (P_pick true (vb true) (by exact congrArg Value.bool ab) rfl) ?_
    refine L_pu (P_move (vb true) rfl) ?_
    refine L_pass (dj := 28) rfl rfl (.inl rfl) ?_
    refine L_pass (dj := 28) rfl rfl (.inl rfl) ?_
    refine L_pass (dj := 28) rfl rfl (.inl rfl) ?_
    refine L_pass (dj := 28) rfl rfl (.inl rfl) ?_
    refine L_pass (dj := 28) rfl rfl (.inl rfl) ?_
    refine L_pu (P_pick true (vb true) (by exact congrArg Value.bool rfl) rfl) ?_
    refine L_nil ?_
    refine W_ct (b := true) rfl rfl ?_
    refine W_seq ?_
    refine W_reg ?_
    refine L_pu (P_build (.agg #[vs ([] : Str), vi 0, .slice none 0 0, .slice none 0 0]) (fun _ => by kernel_rfl)) ?_
    refine L_lit (kd := Kd.str) ei72 af ([] : List Str) (cells := []) rfl (fun _ => by kernel_rfl) fun gq bj b8 b9 ey hr161 db ez => ?_
    have e0 := ((((a3.k0 av).k0 aw).k0 a6).k0 ey)
    refine L_stb aa 0 [vs ([] : Str), vi 0, .slice none 0 0, .slice none 0 0] [vs ([] : Str), vi 0, .slice none 0 0, .slice none 0 0] [vs ([] : Str), vi 0, .slice none 0 0, .slice none 0 0] rfl e0 rfl sz71 rfl rfl rfl fun dc dd e1 => ?_
    have e2 := db.wr 1 rfl dd
    refine L_pu (P_assign (.slice bj b8 b9) rfl) ?_
    refine L_nil ?_
    refine W_ret ?_
    have e3 := e2.own (Gr.refl _ none) none (by simp)
    have e4 : Ow kPt 29 dc ([bk none, bk bj, some aa] ++ O) (.slice none 0 0) [] := Ow.nil _ _ _ _
    have bl := e3.own (Gr.refl _ none) none (by simp)
    have e5 : Ow kTag 133 dc ([bk none, bk none, bk bj, some aa] ++ O) (.slice none 0 0) [] := Ow.nil _ _ _ _
    have e6 := e1
    have e7 := bl.bgv e6 3 rfl
    have bm := bl.drop 3 rfl
    have ca := bm.perm (.swap _ _ _)
    have e8 := bm.stp (.swap _ _ _)
    have e9 := (e7.st e8)
    have fa := (bm.sp (bl.sd (e4.so none (Gr.refl _ none) (by simp)) 1 3 rfl rfl rfl) (.swap _ _ _))
    have fb := (bm.sp (bl.sd e5 0 3 rfl rfl rfl) (.swap _ _ _))
    have fc := (bm.sp (bl.sd (((db.sw ez 0 1 rfl rfl rfl dd).so none (Gr.refl _ none) (by simp)).so none (Gr.refl _ none) (by simp)) 2 3 rfl rfl rfl) (.swap _ _ _))
    exact ⟨[.agg #[vs ([] : Str), vi 0, .slice none 0 0, .slice none 0 0], .slice bj b8 b9], ⟨_, _, rfl, e9.1.res rfl ag71 sz71, ⟨_, rfl, rfl⟩⟩, (⟨([] : Str), (⟨0, ([] : List Pt)⟩ : Shape), ([] : List Tag)⟩ : Feat), ([] : List Str), none, 0, 0, none, 0, 0, bj, b8, b9, rfl, H, ca.gr.g0, ca.ok, ca.ge, (by decide), fa, fb, fc⟩
   ·have H := ite_f H ab
    refine L_run (dj := 21) rfl rfl (by exact congrArg Value.bool ab) ?_
    refine L_pu (P_fa fa71_0 ⟨ba, 0, none⟩ ⟨ba, 0, none⟩ rfl rfl) ?_
    refine L_run (dj := 21) rfl rfl (by exact congrArg Value.bool ab) ?_
    have cb := a5.stn a6
    have de := ((c5.st b7).st cb)
    refine L_pu (P_ld ag9 cL ⟨ba, 0, none⟩ (vs a.Id) rfl (de.cell rfl)) ?_
    refine L_run (dj := 21) rfl rfl (by exact congrArg Value.bool ab) ?_
    refine L_pu (P_fa fa71_0 ⟨au, 0, none⟩ ⟨au, 0, none⟩ rfl rfl) ?_
    refine L_run (dj := 21) rfl rfl (by exact congrArg Value.bool ab) ?_
    have cc := (((cy.st b3).st b7).st cb)
    refine L_pu (P_ld ag9 cL ⟨au, 0, none⟩ (vs base_.Id) rfl (cc.cell rfl)) ?_
    refine L_run (dj := 21) rfl rfl (by exact congrArg Value.bool ab) ?_
    refine L_pu (P_scmp a.Id base_.Id (a.Id != base_.Id) rfl rfl rfl) ?_
    refine L_pu (P_pick false (vb (a.Id != base_.Id)) (by exact congrArg Value.bool ab) rfl) ?_
    refine L_pu (P_move (vb (a.Id != base_.Id)) rfl) ?_
    rcases bool_or (a.Id != base_.Id) with ac | ac
    ·have H := ite_t H ac
     refine L_pass (dj := 28) rfl rfl (.inl (by exact congrArg Value.bool ac)) ?_
     refine L_pass (dj := 28) rfl rfl (.inl (by exact congrArg Value.bool ac)) ?_
     refine L_pass (dj := 28) rfl rfl (.inl (by exact congrArg Value.bool ac)) ?_
     refine L_pass (dj := 28) rfl rfl (.inl (by exact congrArg Value.bool ac)) ?_
     refine L_pass (dj := 28) rfl rfl (.inl (by exact congrArg Value.bool ac)) ?_
     refine L_pu (P_pick true (vb true) (by exact congrArg Value.bool ac) rfl) ?_
     refine L_nil ?_
     refine W_ct (b := true) rfl rfl ?_
     refine W_seq ?_
     refine W_reg ?_
     refine L_pu (P_build (.agg #[vs ([] : Str), vi 0, .slice none 0 0, .slice none 0 0]) (fun _ => by kernel_rfl)) ?_
     refine L_lit (kd := Kd.str) ei72 af ([] : List Str) (cells := []) rfl (fun _ => by kernel_rfl) fun gs bn cd ce fd hr194 df fe => ?_
     have ff := ((((a3.k0 av).k0 aw).k0 a6).k0 fd)
     refine L_stb aa 0 [vs ([] : Str), vi 0, .slice none 0 0, .slice none 0 0] [vs ([] : Str), vi 0, .slice none 0 0, .slice none 0 0] [vs ([] : Str), vi 0, .slice none 0 0, .slice none 0 0] rfl ff rfl sz71 rfl rfl rfl fun dg dh fg => ?_
     have fh := df.wr 1 rfl dh
     refine L_pu (P_assign (.slice bn cd ce) rfl) ?_
     refine L_nil ?_
     refine W_ret ?_
     have fi := fh.own (Gr.refl _ none) none (by simp)
     have fj : Ow kPt 29 dg ([bk none, bk bn, some aa] ++ O) (.slice none 0 0) [] := Ow.nil _ _ _ _
     have bo := fi.own (Gr.refl _ none) none (by simp)
     have fk : Ow kTag 133 dg ([bk none, bk none, bk bn, some aa] ++ O) (.slice none 0 0) [] := Ow.nil _ _ _ _
     have fl := fg
     have fm := bo.bgv fl 3 rfl
     have bp := bo.drop 3 rfl
     have cf := bp.perm (.swap _ _ _)
     have fn := bp.stp (.swap _ _ _)
     have fo := (fm.st fn)
     have fp := (bp.sp (bo.sd (fj.so none (Gr.refl _ none) (by simp)) 1 3 rfl rfl rfl) (.swap _ _ _))
     have fq := (bp.sp (bo.sd fk 0 3 rfl rfl rfl) (.swap _ _ _))
     have fr := (bp.sp (bo.sd (((df.sw fe 0 1 rfl rfl rfl dh).so none (Gr.refl _ none) (by simp)).so none (Gr.refl _ none) (by simp)) 2 3 rfl rfl rfl) (.swap _ _ _))
     exact ⟨[.agg #[vs ([] : Str), vi 0, .slice none 0 0, .slice none 0 0], .slice bn cd ce], ⟨_, _, rfl, fo.1.res rfl ag71 sz71, ⟨_, rfl, rfl⟩⟩, (⟨([] : Str), (⟨0, ([] : List Pt)⟩ : Shape), ([] : List Tag)⟩ : Feat), ([] : List Str), none, 0, 0, none, 0, 0, bn, cd, ce, rfl, H, cf.gr.g0, cf.ok, cf.ge, (by decide), fp, fq, fr⟩
    ·have H := ite_f H ac
     refine L_run (dj := 28) rfl rfl (by exact congrArg Value.bool ac) ?_
     refine L_pu (P_fa fa71_0 ⟨bb, 0, none⟩ ⟨bb, 0, none⟩ rfl rfl) ?_
     refine L_run (dj := 28) rfl rfl (by exact congrArg Value.bool ac) ?_
     have di := (da.st cb)
     refine L_pu (P_ld ag9 cL ⟨bb, 0, none⟩ (vs b.Id) rfl (di.cell rfl)) ?_
     refine L_run (dj := 28) rfl rfl (by exact congrArg Value.bool ac) ?_
     refine L_pu (P_fa fa71_0 ⟨au, 0, none⟩ ⟨au, 0, none⟩ rfl rfl) ?_
     refine L_run (dj := 28) rfl rfl (by exact congrArg Value.bool ac) ?_
     refine L_pu (P_ld ag9 cL ⟨au, 0, none⟩ (vs base_.Id) rfl (cc.cell rfl)) ?_
     refine L_run (dj := 28) rfl rfl (by exact congrArg Value.bool ac) ?_
     refine L_pu (P_scmp b.Id base_.Id (b.Id != base_.Id) rfl rfl rfl) ?_
     refine L_pu (P_pick false (vb (b.Id != base_.Id)) (by exact congrArg Value.bool ac) rfl) ?_
     refine L_nil ?_
     refine W_cond (b.Id != base_.Id) rfl (fun cg => ?_) (fun cg => ?_)
     ·have H := ite_t H cg
      refine W_seq ?_
      refine W_reg ?_
      refine L_pu (P_build (.agg #[vs ([] : Str), vi 0, .slice none 0 0, .slice none 0 0]) (fun _ => by kernel_rfl)) ?_
      refine L_lit (kd := Kd.str) ei72 af ([] : List Str) (cells := []) rfl (fun _ => by kernel_rfl) fun gt bq ch ci fs hr225 dk ft => ?_
      have fu := ((((a3.k0 av).k0 aw).k0 a6).k0 fs)
      refine L_stb aa 0 [vs ([] : Str), vi 0, .slice none 0 0, .slice none 0 0] [vs ([] : Str), vi 0, .slice none 0 0, .slice none 0 0] [vs ([] : Str), vi 0, .slice none 0 0, .slice none 0 0] rfl fu rfl sz71 rfl rfl rfl fun dl dm fv => ?_
      have fw := dk.wr 1 rfl dm
      refine L_pu (P_assign (.slice bq ch ci) rfl) ?_
      refine L_nil ?_
      refine W_ret ?_
      have fx := fw.own (Gr.refl _ none) none (by simp)
      have fy : Ow kPt 29 dl ([bk none, bk bq, some aa] ++ O) (.slice none 0 0) [] := Ow.nil _ _ _ _
      have br := fx.own (Gr.refl _ none) none (by simp)
      have fz : Ow kTag 133 dl ([bk none, bk none, bk bq, some aa] ++ O) (.slice none 0 0) [] := Ow.nil _ _ _ _
      have f0 := fv
      have f1 := br.bgv f0 3 rfl
      have bs := br.drop 3 rfl
      have cj := bs.perm (.swap _ _ _)
      have f2 := bs.stp (.swap _ _ _)
      have f3 := (f1.st f2)
      have f4 := (bs.sp (br.sd (fy.so none (Gr.refl _ none) (by simp)) 1 3 rfl rfl rfl) (.swap _ _ _))
      have f5 := (bs.sp (br.sd fz 0 3 rfl rfl rfl) (.swap _ _ _))
      have f6 := (bs.sp (br.sd (((dk.sw ft 0 1 rfl rfl rfl dm).so none (Gr.refl _ none) (by simp)).so none (Gr.refl _ none) (by simp)) 2 3 rfl rfl rfl) (.swap _ _ _))
      exact ⟨[.agg #[vs ([] : Str), vi 0, .slice none 0 0, .slice none 0 0], .slice bq ch ci], ⟨_, _, rfl, f3.1.res rfl ag71 sz71, ⟨_, rfl, rfl⟩⟩, (⟨([] : Str), (⟨0, ([] : List Pt)⟩ : Shape), ([] : List Tag)⟩ : Feat), ([] : List Str), none, 0, 0, none, 0, 0, bq, ch, ci, rfl, H, cj.gr.g0, cj.ok, cj.ge, (by decide), f4, f5, f6⟩
     ·have H := ite_f H cg
      refine W_skip ?_
      refine W_seq ?_
      refine W_reg ?_
      refine L_pu (P_lda ag71 sz71 cL ⟨au, 0, none⟩ [vs base_.Id, vi base_.Shape.Kind, .slice A2 n3 c4, .slice A7 n8 c9] rfl rfl (cc.cells (off := 0) rfl)) ?_
      refine L_pu (P_lda ag71 sz71 cL ⟨ba, 0, none⟩ [vs a.Id, vi a.Shape.Kind, .slice ag ah ai, .slice aj ak al] rfl rfl (de.cells (off := 0) rfl)) ?_
      refine L_pu (P_lda ag71 sz71 cL ⟨bb, 0, none⟩ [vs b.Id, vi b.Shape.Kind, .slice am an ao, .slice ap aq ar] rfl rfl (di.cells (off := 0) rfl)) ?_
      refine L_call go90 [.agg #[vs base_.Id, vi base_.Shape.Kind, .slice A2 n3 c4, .slice A7 n8 c9], .agg #[vs a.Id, vi a.Shape.Kind, .slice ag ah ai, .slice aj ak al], .agg #[vs b.Id, vi b.Shape.Kind, .slice am an ao, .slice ap aq ar]] rfl ((spec_l6Feat.calls ex af.ok base_ A2 n3 c4 A7 n8 c9 hs1 (hp5.st af.st) (cl.st af.st) a ag ah ai aj ak al cm (cn.st af.st) (co.st af.st) b am an ao ap aq ar cp (cq.st af.st) (cr.st af.st) _ H).mono ?_)
      rintro _ gu ⟨r4, r5, ax, ay, az, a0, a1, a2, a7, a8, a9, rfl, H, dn, f7, f8, f9, ga, gb, gc⟩
      have bu := af.owns dn f7 f8
      refine L_pu (P_ext [.agg #[vs r4.Id, vi r4.Shape.Kind, .slice ax ay az, .slice a0 a1 a2], .slice a7 a8 a9] 0 (.agg #[vs r4.Id, vi r4.Shape.Kind, .slice ax ay az, .slice a0 a1 a2]) rfl rfl) ?_
      refine L_pu (P_ext [.agg #[vs r4.Id, vi r4.Shape.Kind, .slice ax ay az, .slice a0 a1 a2], .slice a7 a8 a9] 1 (.slice a7 a8 a9) rfl rfl) ?_
      have gd := ((((a3.k0 av).k0 aw).k0 a6).k0 dn)
      refine L_stb aa 0 [vs ([] : Str), vi 0, .slice none 0 0, .slice none 0 0] [vs r4.Id, vi r4.Shape.Kind, .slice ax ay az, .slice a0 a1 a2] [vs r4.Id, vi r4.Shape.Kind, .slice ax ay az, .slice a0 a1 a2] rfl gd rfl sz71 rfl rfl rfl fun gv bv gf => ?_
      have bt := bu.wr 3 rfl bv
      refine L_pu (P_assign (.slice a7 a8 a9) rfl) ?_
      refine L_nil ?_
      refine W_ret ?_
      have gg := bt.bgv gf 3 rfl
      have ck := bt.drop 3 rfl
      have gh := (bt.sd (bu.sw ga 0 3 rfl rfl rfl bv) 0 3 rfl rfl rfl)
      have gi := (bt.sd (bu.sw gb 1 3 rfl rfl rfl bv) 1 3 rfl rfl rfl)
      have gj := (bt.sd (bu.sw gc 2 3 rfl rfl rfl bv) 2 3 rfl rfl rfl)
      exact ⟨[.agg #[vs r4.Id, vi r4.Shape.Kind, .slice ax ay az, .slice a0 a1 a2], .slice a7 a8 a9], ⟨_, _, rfl, gg.1.res rfl ag71 sz71, ⟨_, rfl, rfl⟩⟩, r4, r5, ax, ay, az, a0, a1, a2, a7, a8, a9, rfl, H, ck.gr.g0, ck.ok, ck.ge, f9, gh, gi, gj⟩
end Go.Proofs.Ytndjggncgpjolaa

namespace Go.Proofs.Ytndjggncgpjolaa
open Go.RowKit
set_option linter.unusedVariables false
set_option linter.unusedSimpArgs false
def impl_within.E (n : Int) (low : Int) (high : Int) (Q : Bool → Prop) : Prop :=
 (if decide (n ≥ low) then Q (decide (n ≤ high)) else Q false)
set_option maxHeartbeats 8000000 in
set_option maxRecDepth 100000 in
theorem impl_within.calls {O : Ob} (w0 : World) (hO : Ok w0 O) (n : Int) (low : Int) (high : Int) (Q : Bool → Prop) (h : impl_within.E n low high Q) :
  Ret Try.prog 112 [vi n, vi low, vi high] w0 (fun v w' => ∃ (r0 : Bool), v = vb r0 ∧ Q r0 ∧ Gr w0 w' none ∧ w' = w0) := by
 unfold impl_within.E at h
 have H := h
 clear h
 have hc0 := Ct.init hO
 refine Ret_enter Try.func112 rfl 15 rfl [.tmp 6] rfl rfl ?_
 refine W_seq ?_
 refine W_reg ?_
 refine L_pu (P_assign (vb false) rfl) ?_
 refine L_nil ?_
 refine W_seq ?_
 refine W_reg ?_
 refine L_pu (P_move (vi n) rfl) ?_
 refine L_pu (P_move (vi low) rfl) ?_
 refine L_pu (P_cmp n low (decide (n ≥ low)) rfl rfl rfl) ?_
 refine L_pu (P_move (vb (decide (n ≥ low))) rfl) ?_
 rcases bool_or (decide (n ≥ low)) with hq1 | hq1
 ·have H := ite_t H hq1
  refine L_run (dj := 10) rfl rfl (by exact congrArg Value.bool hq1) ?_
  refine L_pu (P_move (vi n) rfl) ?_
  refine L_run (dj := 10) rfl rfl (by exact congrArg Value.bool hq1) ?_
  refine L_pu (P_move (vi high) rfl) ?_
  refine L_run (dj := 10) rfl rfl (by exact congrArg Value.bool hq1) ?_
  refine L_pu (P_cmp n high (decide (n ≤ high)) rfl rfl rfl) ?_
  refine L_pu (P_pick true (vb (decide (n ≤ high))) (by exact congrArg Value.bool hq1) rfl) ?_
  refine L_pu (P_assign (vb (decide (n ≤ high))) rfl) ?_
  refine L_nil ?_
  refine W_ret ?_
  exact ⟨[vb (decide (n ≤ high))], ⟨_, rfl, rfl⟩, decide (n ≤ high), rfl, H, hc0.gr.g0, rfl⟩
 ·have H := ite_f H hq1
  refine L_pass (dj := 10) rfl rfl (.inl (by exact congrArg Value.bool hq1)) ?_
  refine L_pass (dj := 10) rfl rfl (.inl (by exact congrArg Value.bool hq1)) ?_
  refine L_pass (dj := 10) rfl rfl (.inl (by exact congrArg Value.bool hq1)) ?_
  refine L_pu (P_pick false (vb false) (by exact congrArg Value.bool hq1) rfl) ?_
  refine L_pu (P_assign (vb false) rfl) ?_
  refine L_nil ?_
  refine W_ret ?_
  exact ⟨[vb false], ⟨_, rfl, rfl⟩, false, rfl, H, hc0.gr.g0, rfl⟩
def impl_within.m (n : Int) (low : Int) (high : Int) : Bool := (if decide (n ≥ low) then (decide (n ≤ high)) else false)
theorem impl_within.fn (n : Int) (low : Int) (high : Int) : impl_within.E n low high (fun r => r = impl_within.m n low high) := by
 unfold impl_within.E impl_within.m
 (repeat' split) <;> simp_all
end Go.Proofs.Ytndjggncgpjolaa

namespace Go.Proofs.Ytndjggncgpjolaa
open Go.RowKit
set_option linter.unusedVariables false
set_option linter.unusedSimpArgs false
def impl_WordOk.E (s : Str) (Q : Bool → Prop) : Prop :=
 (∃ (I9 : Int → Prop) (mu10 : Int → Nat), I9 0 ∧ ∀ (v2 : Int), I9 v2 → (if decide (v2 < (s.length : Int)) then ((0 : Int) ≤ v2 ∧ v2 < (s.length : Int)) ∧ (if decide (((nth s v2).toNat : Int) < 97) then Q false else ((0 : Int) ≤ v2 ∧ v2 < (s.length : Int)) ∧ (if decide (((nth s v2).toNat : Int) > 122) then Q false else (I64 (v2 + 1)) ∧ I9 (v2 + 1) ∧ mu10 (v2 + 1) < mu10 v2)) else impl_within.E (s.length : Int) 1 6 (fun r => Q r)))
set_option maxHeartbeats 8000000 in
set_option maxRecDepth 100000 in
theorem impl_WordOk.calls {O : Ob} (w0 : World) (hO : Ok w0 O) (s : Str) (hs1 : Lim s) (Q : Bool → Prop) (h : impl_WordOk.E s Q) :
  Ret Try.prog 53 [vs s] w0 (fun v w' => ∃ (r0 : Bool), v = vb r0 ∧ Q r0 ∧ Gr w0 w' none) := by
 unfold impl_WordOk.E at h
 have H := h
 clear h
 have hc0 := Ct.init hO
 refine Ret_enter Try.func53 rfl 23 rfl [.tmp 2] rfl rfl ?_
 refine W_seq ?_
 refine W_reg ?_
 refine L_pu (P_assign (vb false) rfl) ?_
 refine L_nil ?_
 refine W_seq ?_
 refine W_seq ?_
 refine W_reg ?_
 refine L_pu (P_move (vs s) rfl) ?_
 have hl2 := hs1
 refine L_pu (P_lens Try.underlying9 s rfl) ?_
 refine L_pu (P_move (vi 0) rfl) ?_
 refine L_nil ?_
 refine W_block ?_
 obtain ⟨I9, ae, ab, H⟩ := H
 refine W_loop (α := Int) (fun (sv__ : Int) t w7 => match sv__ with | v2 => I9 v2 ∧ Has t [(0, vs s), (5, vi (s.length : Int)), (6, vi v2)] ∧ Ct [] w0 w7 [] O) (fun (sv__ : Int) => match sv__ with | v2 => ae v2) 0 ⟨ab, ⟨rfl, rfl, rfl, trivial⟩, hc0⟩ ?_
 rintro v2 _ w7 ⟨ab, af, hc8⟩
 obtain ⟨an, rfl⟩ := Has.ins af
 have H := H v2 ab
 refine W_seq ?_
 refine W_reg ?_
 refine L_pu (P_cmp v2 (s.length : Int) (decide (v2 < (s.length : Int))) rfl rfl rfl) ?_
 refine L_nil ?_
 refine W_seq ?_
 refine W_cond (decide (v2 < (s.length : Int))) rfl (fun ac => ?_) (fun ac => ?_)
 ·have H := ite_t H ac
  refine W_skip ?_
  refine W_seq ?_
  refine W_block ?_
  refine W_seq ?_
  refine W_reg ?_
  refine L_pu (P_move (vi v2) rfl) ?_
  refine L_pu (P_assign (vi v2) rfl) ?_
  refine L_nil ?_
  refine W_seq ?_
  refine W_reg ?_
  refine L_pu (P_move (vs s) rfl) ?_
  refine L_pu (P_move (vi v2) rfl) ?_
  obtain ⟨ag, H⟩ := H
  refine L_pu (P_index Try.underlying9 s v2 rfl rfl ag) ?_
  refine L_pu (P_cmp ((nth s v2).toNat : Int) 97 (decide (((nth s v2).toNat : Int) < 97)) rfl rfl rfl) ?_
  refine L_pu (P_move (vb (decide (((nth s v2).toNat : Int) < 97))) rfl) ?_
  rcases bool_or (decide (((nth s v2).toNat : Int) < 97)) with aa | aa
  ·have H := ite_t H aa
   refine L_pass (dj := 13) rfl rfl (.inl (by exact congrArg Value.bool aa)) ?_
   refine L_pass (dj := 13) rfl rfl (.inl (by exact congrArg Value.bool aa)) ?_
   refine L_pass (dj := 13) rfl rfl (.inl (by exact congrArg Value.bool aa)) ?_
   refine L_pass (dj := 13) rfl rfl (.inl (by exact congrArg Value.bool aa)) ?_
   refine L_pu (P_pick true (vb true) (by exact congrArg Value.bool aa) rfl) ?_
   refine L_nil ?_
   refine W_ct (b := true) rfl rfl ?_
   refine W_seq ?_
   refine W_reg ?_
   refine L_pu (P_assign (vb false) rfl) ?_
   refine L_nil ?_
   refine W_ret ?_
   exact ⟨[vb false], ⟨_, rfl, rfl⟩, false, rfl, H, hc8.gr.g0⟩
  ·have H := ite_f H aa
   refine L_run (dj := 13) rfl rfl (by exact congrArg Value.bool aa) ?_
   refine L_pu (P_move (vs s) rfl) ?_
   refine L_run (dj := 13) rfl rfl (by exact congrArg Value.bool aa) ?_
   refine L_pu (P_move (vi v2) rfl) ?_
   refine L_run (dj := 13) rfl rfl (by exact congrArg Value.bool aa) ?_
   obtain ⟨ah, H⟩ := H
   refine L_pu (P_index Try.underlying9 s v2 rfl rfl ah) ?_
   refine L_run (dj := 13) rfl rfl (by exact congrArg Value.bool aa) ?_
   refine L_pu (P_cmp ((nth s v2).toNat : Int) 122 (decide (((nth s v2).toNat : Int) > 122)) rfl rfl rfl) ?_
   refine L_pu (P_pick false (vb (decide (((nth s v2).toNat : Int) > 122))) (by exact congrArg Value.bool aa) rfl) ?_
   refine L_nil ?_
   refine W_cond (decide (((nth s v2).toNat : Int) > 122)) rfl (fun ad => ?_) (fun ad => ?_)
   ·have H := ite_t H ad
    refine W_seq ?_
    refine W_reg ?_
    refine L_pu (P_assign (vb false) rfl) ?_
    refine L_nil ?_
    refine W_ret ?_
    exact ⟨[vb false], ⟨_, rfl, rfl⟩, false, rfl, H, hc8.gr.g0⟩
   ·have H := ite_f H ad
    refine W_skip ?_
    refine W_reg ?_
    obtain ⟨ai, H⟩ := H
    refine L_pu (P_add v2 1 rfl rfl ai) ?_
    refine L_pu (P_move (vi (v2 + 1)) rfl) ?_
    refine L_nil ?_
    obtain ⟨aj, ak⟩ := H
    exact ⟨v2 + 1, ak, aj, ⟨rfl, rfl, rfl, trivial⟩, hc8⟩
 ·have H := ite_f H ac
  refine W_exit (xin_hit ?_)
  refine W_seq ?_
  refine W_reg ?_
  refine L_pu (P_move (vs s) rfl) ?_
  have ao := hs1
  refine L_pu (P_lens Try.underlying9 s rfl) ?_
  refine L_call go112 [vi (s.length : Int), vi 1, vi 6] rfl ((impl_within.calls w7 hc8.ok (s.length : Int) 1 6 _ H).mono ?_)
  rintro _ ap ⟨r, rfl, H, al, _⟩
  have am := hc8.k0 al
  refine L_pu (P_assign (vb r) rfl) ?_
  refine L_nil ?_
  refine W_ret ?_
  exact ⟨[vb r], ⟨_, rfl, rfl⟩, r, rfl, H, am.gr.g0⟩
end Go.Proofs.Ytndjggncgpjolaa

namespace Go.Proofs.Ytndjggncgpjolaa
open Go.RowKit
set_option linter.unusedVariables false
set_option linter.unusedSimpArgs false
def impl_ptOk.E (p : Pt) (Q : Bool → Prop) : Prop :=
 impl_within.E p.X (-1000) 1000 (fun r => (if r then impl_within.E p.Y (-1000) 1000 (fun r2 => Q r2) else Q false))
set_option maxHeartbeats 8000000 in
set_option maxRecDepth 100000 in
theorem impl_ptOk.calls {O : Ob} (w0 : World) (hO : Ok w0 O) (p : Pt) (Q : Bool → Prop) (h : impl_ptOk.E p Q) :
  Ret Try.prog 141 [.agg #[vi p.X, vi p.Y]] w0 (fun v w' => ∃ (r0 : Bool), v = vb r0 ∧ Q r0 ∧ Gr w0 w' none) := by
 unfold impl_ptOk.E at h
 have H := h
 clear h
 have hc0 := Ct.init hO
 refine Ret_enter Try.func141 rfl 11 rfl [.tmp 2] rfl rfl ?_
 refine W_seq ?_
 refine W_reg ?_
 refine L_box [vi p.X, vi p.Y] rfl fun w1 b2 hl4 hu5 g3 hx6 => ?_
 have h8 := Fb.mk hc0.ok hl4 hx6
 have hc9 := hc0.k0 g3
 refine L_pu (P_assign (vb false) rfl) ?_
 refine L_nil ?_
 refine W_seq ?_
 refine W_reg ?_
 refine L_pu (P_fa fa29_0 ⟨b2, 0, none⟩ ⟨b2, 0, none⟩ rfl rfl) ?_
 refine L_pu (P_ld ag3 cL ⟨b2, 0, none⟩ (vi p.X) rfl (h8.cell rfl)) ?_
 refine L_call go112 [vi p.X, vi (-1000), vi 1000] rfl ((impl_within.calls w1 hc9.ok p.X (-1000) 1000 _ H).mono ?_)
 rintro _ ad ⟨r, rfl, H, ac, _⟩
 have ab := hc9.k0 ac
 refine L_pu (P_move (vb r) rfl) ?_
 rcases bool_or r with aa | aa
 ·have H := ite_t H aa
  refine L_run (dj := 6) rfl rfl (by exact congrArg Value.bool aa) ?_
  refine L_pu (P_fa fa29_1 ⟨b2, 0, none⟩ ⟨b2, 1, none⟩ rfl rfl) ?_
  refine L_run (dj := 6) rfl rfl (by exact congrArg Value.bool aa) ?_
  have ae := hc9.stn ac
  have af := (h8.st ae)
  refine L_pu (P_ld ag3 cL ⟨b2, 1, none⟩ (vi p.Y) rfl (af.cell rfl)) ?_
  refine L_run (dj := 6) rfl rfl (by exact congrArg Value.bool aa) ?_
  refine L_call go112 [vi p.Y, vi (-1000), vi 1000] rfl ((impl_within.calls ad ab.ok p.Y (-1000) 1000 _ H).mono ?_)
  rintro _ ai ⟨r2, rfl, H, ag, _⟩
  have ah := ab.k0 ag
  refine L_pu (P_pick true (vb r2) (by exact congrArg Value.bool aa) rfl) ?_
  refine L_pu (P_assign (vb r2) rfl) ?_
  refine L_nil ?_
  refine W_ret ?_
  exact ⟨[vb r2], ⟨_, rfl, rfl⟩, r2, rfl, H, ah.gr.g0⟩
 ·have H := ite_f H aa
  refine L_pass (dj := 6) rfl rfl (.inl (by exact congrArg Value.bool aa)) ?_
  refine L_pass (dj := 6) rfl rfl (.inl (by exact congrArg Value.bool aa)) ?_
  refine L_pass (dj := 6) rfl rfl (.inl (by exact congrArg Value.bool aa)) ?_
  refine L_pu (P_pick false (vb false) (by exact congrArg Value.bool aa) rfl) ?_
  refine L_pu (P_assign (vb false) rfl) ?_
  refine L_nil ?_
  refine W_ret ?_
  exact ⟨[vb false], ⟨_, rfl, rfl⟩, false, rfl, H, ab.gr.g0⟩
end Go.Proofs.Ytndjggncgpjolaa

namespace Go.Proofs.Ytndjggncgpjolaa
open Go.RowKit
set_option linter.unusedVariables false
set_option linter.unusedSimpArgs false
def impl_ShapeOk.E (s : Shape) (Q : Bool → Prop) : Prop :=
 (∃ (I31 : Int → Prop) (mu32 : Int → Nat), I31 0 ∧ ∀ (v2 : Int), I31 v2 → (if decide (v2 < (s.Pts.length : Int)) then ((0 : Int) ≤ v2 ∧ v2 < (s.Pts.length : Int)) ∧ (∃ q : Bool, impl_ptOk.E (nth s.Pts v2) (fun x => x = q) ∧ (if !q then Q false else (if decide (v2 > 0) then (I64 (v2 - 1)) ∧ ((0 : Int) ≤ v2 - 1 ∧ v2 - 1 < (s.Pts.length : Int)) ∧ (if eqPt (nth s.Pts (v2 - 1)) (nth s.Pts v2) then Q false else (I64 (v2 + 1)) ∧ I31 (v2 + 1) ∧ mu32 (v2 + 1) < mu32 v2) else (I64 (v2 + 1)) ∧ I31 (v2 + 1) ∧ mu32 (v2 + 1) < mu32 v2))) else (if s.Kind == 1 then Q ((s.Pts.length : Int) == 1) else (if s.Kind == 2 then impl_within.E (s.Pts.length : Int) 2 6 (fun r2 => Q r2) else (if s.Kind == 3 then (if (impl_within.m (s.Pts.length : Int) 3 6) then ((0 : Int) ≤ 0 ∧ 0 < (s.Pts.length : Int)) ∧ ((s.Pts.length : Int) ≤ 9223372036854775807 → I64 ((s.Pts.length : Int) - 1)) ∧ ((0 : Int) ≤ (s.Pts.length : Int) - 1 ∧ (s.Pts.length : Int) - 1 < (s.Pts.length : Int)) ∧ Q (!(eqPt (nth s.Pts 0) (nth s.Pts ((s.Pts.length : Int) - 1)))) else Q false) else Q false)))))
set_option maxHeartbeats 8000000 in
set_option maxRecDepth 100000 in
theorem impl_ShapeOk.calls {O : Ob} (w0 : World) (hO : Ok w0 O) (s : Shape) (A1 : Option Addr) (n2 c3 : Nat) (hp4 : Sl kPt w0 (Fr O) (.slice A1 n2 c3) s.Pts) (Q : Bool → Prop) (h : impl_ShapeOk.E s Q) :
  Ret Try.prog 96 [.agg #[vi s.Kind, .slice A1 n2 c3]] w0 (fun v w' => ∃ (r0 : Bool), v = vb r0 ∧ Q r0 ∧ Gr w0 w' none) := by
 unfold impl_ShapeOk.E at h
 have H := h
 clear h
 have hc0 := Ct.init hO
 refine Ret_enter Try.func96 rfl 62 rfl [.tmp 2] rfl rfl ?_
 refine W_seq ?_
 refine W_reg ?_
 refine L_box [vi s.Kind, .slice A1 n2 c3] rfl fun w6 b7 hl9 hu10 g8 bl => ?_
 have ay := Fb.mk hc0.ok hl9 bl
 have ai := hc0.k0 g8
 refine L_pu (P_assign (vb false) rfl) ?_
 refine L_nil ?_
 refine W_seq ?_
 refine W_seq ?_
 refine W_reg ?_
 refine L_pu (P_fa fa68_1 ⟨b7, 0, none⟩ ⟨b7, 1, none⟩ rfl rfl) ?_
 refine L_pu (P_ld ag23 cL ⟨b7, 1, none⟩ (.slice A1 n2 c3) rfl (ay.cell rfl)) ?_
 have cw := (hp4.st ai.st).le
 refine L_pu (P_len Try.underlying23 A1 n2 c3 (hp4.st ai.st).len rfl) ?_
 refine L_pu (P_move (vi 0) rfl) ?_
 refine L_nil ?_
 refine W_block ?_
 obtain ⟨bm, bn, ak, H⟩ := H
 refine W_loop (α := Int) (fun (sv__ : Int) t af => match sv__ with | v2 => bm v2 ∧ Has t [(1, .pointer (some ⟨b7, 0, none⟩)), (7, .slice A1 n2 c3), (8, vi (s.Pts.length : Int)), (9, vi v2)] ∧ Ct [] w0 af [] O ∧ Sl kPt af (Fr ([] ++ O)) (.slice A1 n2 c3) s.Pts ∧ Fb af ([] ++ O) b7 [vi s.Kind, .slice A1 n2 c3]) (fun (sv__ : Int) => match sv__ with | v2 => bn v2) 0 ⟨ak, ⟨rfl, rfl, rfl, rfl, trivial⟩, ai, (hp4.st ai.st), ay⟩ ?_
 rintro v2 _ af ⟨ak, bo, ad, ae, ag⟩
 obtain ⟨cx, rfl⟩ := Has.ins bo
 have H := H v2 ak
 refine W_seq ?_
 refine W_reg ?_
 refine L_pu (P_cmp v2 (s.Pts.length : Int) (decide (v2 < (s.Pts.length : Int))) rfl rfl rfl) ?_
 refine L_nil ?_
 refine W_seq ?_
 refine W_cond (decide (v2 < (s.Pts.length : Int))) rfl (fun al => ?_) (fun al => ?_)
 ·have H := ite_t H al
  refine W_skip ?_
  refine W_seq ?_
  refine W_block ?_
  refine W_seq ?_
  refine W_reg ?_
  refine L_pu (P_move (vi v2) rfl) ?_
  obtain ⟨az, H⟩ := H
  obtain ⟨a0, cy, bp, cz, bq, br⟩ := ae.get default (by decide) v2 az
  obtain rfl := kPt.op bq
  refine L_pu (P_ia Try.underlying23 se23 A1 a0 n2 c3 ae.len v2 rfl bp rfl az) ?_
  refine L_pu (P_lda ag29 sz29 cL (a0.add (v2.toNat * 2)) [vi ((nth s.Pts v2).X), vi ((nth s.Pts v2).Y)] rfl rfl br) ?_
  refine L_alloc [.int .i64 0, .int .i64 0] ze29 fun c0 aj am hu49 an bs => ?_
  have ao := ad.own an (some aj) (oglt am hu49)
  refine L_pu (P_assign (vi v2) rfl) ?_
  refine L_stb aj 0 [vi 0, vi 0] [vi ((nth s.Pts v2).X), vi ((nth s.Pts v2).Y)] [vi ((nth s.Pts v2).X), vi ((nth s.Pts v2).Y)] rfl bs rfl sz29 rfl rfl rfl fun bt ap a1 => ?_
  have ah := ao.wr 0 rfl ap
  refine L_nil ?_
  refine W_seq ?_
  refine W_draw (fun x => Gr bt x none) (by kernel_rfl) (by kernel_rfl) (Gr.drew _) ?_
  refine Q_pu (P_lda ag29 sz29 cQ ⟨aj, 0, none⟩ [vi ((nth s.Pts v2).X), vi ((nth s.Pts v2).Y)] rfl rfl (a1.cells (off := 0) rfl)) ?_
  obtain ⟨q, bu, H⟩ := H
  refine Q_call go141 [.agg #[vi ((nth s.Pts v2).X), vi ((nth s.Pts v2).Y)]] rfl (vb q) (fun w g => (impl_ptOk.calls w (ah.k0 g).ok (nth s.Pts v2) _ bu).mono ?_) ?_
  ·rintro _ w ⟨r, rfl, rfl, g2⟩
   exact ⟨rfl, Gr.t0 g g2⟩
  refine Q_pu (P_not q rfl) ?_
  refine Q_pu (P_move (vb (!q)) rfl) ?_
  rcases bool_or (!q) with ac | ac
  ·have H := ite_t H ac
   refine Q_pass (dj := 17) rfl rfl (.inl (by exact congrArg Value.bool ac)) ?_
   refine Q_pass (dj := 17) rfl rfl (.inl (by exact congrArg Value.bool ac)) ?_
   refine Q_pass (dj := 17) rfl rfl (.inl (by exact congrArg Value.bool ac)) ?_
   refine Q_pass (dj := 20) rfl rfl (.inr rfl) ?_
   refine Q_pass (dj := 20) rfl rfl (.inr rfl) ?_
   refine Q_pass (dj := 20) rfl rfl (.inr rfl) ?_
   refine Q_pass (dj := 20) rfl rfl (.inr rfl) ?_
   refine Q_pass (dj := 20) rfl rfl (.inr rfl) ?_
   refine Q_pass (dj := 20) rfl rfl (.inr rfl) ?_
   refine Q_pass (dj := 20) rfl rfl (.inr rfl) ?_
   refine Q_pass (dj := 20) rfl rfl (.inr rfl) ?_
   refine Q_pass (dj := 17) rfl rfl (.inl (by exact congrArg Value.bool ac)) ?_
   refine Q_pu (P_pick true (vb true) (by exact congrArg Value.bool ac) rfl) ?_
   refine Q_nil fun c1 bv => ?_
   have bw := ah.k0 bv
   refine W_ct (b := true) rfl rfl ?_
   refine W_seq ?_
   refine W_reg ?_
   refine L_pu (P_assign (vb false) rfl) ?_
   refine L_nil ?_
   refine W_ret ?_
   have bx := bw.drop 0 rfl
   exact ⟨[vb false], ⟨_, rfl, rfl⟩, false, rfl, H, bx.gr.g0⟩
  ·have H := ite_f H ac
   refine Q_run (dj := 17) rfl rfl (by exact congrArg Value.bool ac) ?_
   refine Q_pu (P_move (vi v2) rfl) ?_
   refine Q_run (dj := 17) rfl rfl (by exact congrArg Value.bool ac) ?_
   refine Q_pu (P_cmp v2 0 (decide (v2 > 0)) rfl rfl rfl) ?_
   refine Q_run (dj := 17) rfl rfl (by exact congrArg Value.bool ac) ?_
   refine Q_pu (P_move (vb (decide (v2 > 0))) rfl) ?_
   rcases bool_or (decide (v2 > 0)) with ab | ab
   ·have H := ite_t H ab
    refine Q_run (dj := 20) rfl rfl (by exact congrArg Value.bool ab) ?_
    refine Q_pu (P_fa fa68_1 ⟨b7, 0, none⟩ ⟨b7, 1, none⟩ rfl rfl) ?_
    refine Q_run (dj := 20) rfl rfl (by exact congrArg Value.bool ab) ?_
    have a2 := ad.stown _ an (oge am)
    have a3 := ao.stw 0 rfl ap
    have a4 := ((ag.st a2).st a3)
    refine Q_pu (P_ld ag23 cQ ⟨b7, 1, none⟩ (.slice A1 n2 c3) rfl (a4.cell rfl)) ?_
    refine Q_run (dj := 20) rfl rfl (by exact congrArg Value.bool ab) ?_
    refine Q_pu (P_move (vi v2) rfl) ?_
    refine Q_run (dj := 20) rfl rfl (by exact congrArg Value.bool ab) ?_
    obtain ⟨bz, H⟩ := H
    refine Q_pu (P_sub v2 1 rfl rfl bz) ?_
    refine Q_run (dj := 20) rfl rfl (by exact congrArg Value.bool ab) ?_
    obtain ⟨a5, H⟩ := H
    have aq := ((ae.st a2).st a3)
    obtain ⟨a6, c2, b0, c4, b1, b2⟩ := aq.get default (by decide) (v2 - 1) a5
    obtain rfl := kPt.op b1
    refine Q_pu (P_ia Try.underlying23 se23 A1 a6 n2 c3 aq.len (v2 - 1) rfl b0 rfl a5) ?_
    refine Q_run (dj := 20) rfl rfl (by exact congrArg Value.bool ab) ?_
    refine Q_pu (P_lda ag29 sz29 cQ (a6.add ((v2 - 1).toNat * 2)) [vi ((nth s.Pts (v2 - 1)).X), vi ((nth s.Pts (v2 - 1)).Y)] rfl rfl b2) ?_
    refine Q_run (dj := 20) rfl rfl (by exact congrArg Value.bool ab) ?_
    refine Q_pu (P_lda ag29 sz29 cQ ⟨aj, 0, none⟩ [vi ((nth s.Pts v2).X), vi ((nth s.Pts v2).Y)] rfl rfl (a1.cells (off := 0) rfl)) ?_
    refine Q_run (dj := 20) rfl rfl (by exact congrArg Value.bool ab) ?_
    refine Q_pu (P_eq _ _ (eqPt (nth s.Pts (v2 - 1)) (nth s.Pts v2)) (qt29 (nth s.Pts (v2 - 1)) (nth s.Pts v2)) rfl rfl) ?_
    refine Q_run (dj := 17) rfl rfl (by exact congrArg Value.bool ac) ?_
    refine Q_pu (P_pick true (vb (eqPt (nth s.Pts (v2 - 1)) (nth s.Pts v2))) (by exact congrArg Value.bool ab) rfl) ?_
    refine Q_pu (P_pick false (vb (eqPt (nth s.Pts (v2 - 1)) (nth s.Pts v2))) (by exact congrArg Value.bool ac) rfl) ?_
    refine Q_nil fun c5 a7 => ?_
    have ar := ah.k0 a7
    refine W_cond (eqPt (nth s.Pts (v2 - 1)) (nth s.Pts v2)) rfl (fun au => ?_) (fun au => ?_)
    ·have H := ite_t H au
     refine W_seq ?_
     refine W_reg ?_
     refine L_pu (P_assign (vb false) rfl) ?_
     refine L_nil ?_
     refine W_ret ?_
     have b3 := ar.drop 0 rfl
     exact ⟨[vb false], ⟨_, rfl, rfl⟩, false, rfl, H, b3.gr.g0⟩
    ·have H := ite_f H au
     refine W_skip ?_
     refine W_reg ?_
     obtain ⟨b4, H⟩ := H
     refine L_pu (P_add v2 1 rfl rfl b4) ?_
     refine L_pu (P_move (vi (v2 + 1)) rfl) ?_
     refine L_nil ?_
     have b5 := ar.drop 0 rfl
     obtain ⟨b6, b8⟩ := H
     have a8 := ah.stn a7
     have a9 := ar.std 0 rfl
     have b9 := ((aq.st a8).st a9)
     have ca := ((a4.st a8).st a9)
     exact ⟨v2 + 1, b8, b6, ⟨rfl, rfl, rfl, rfl, trivial⟩, b5, b9, ca⟩
   ·have H := ite_f H ab
    refine Q_pass (dj := 20) rfl rfl (.inl (by exact congrArg Value.bool ab)) ?_
    refine Q_pass (dj := 20) rfl rfl (.inl (by exact congrArg Value.bool ab)) ?_
    refine Q_pass (dj := 20) rfl rfl (.inl (by exact congrArg Value.bool ab)) ?_
    refine Q_pass (dj := 20) rfl rfl (.inl (by exact congrArg Value.bool ab)) ?_
    refine Q_pass (dj := 20) rfl rfl (.inl (by exact congrArg Value.bool ab)) ?_
    refine Q_pass (dj := 20) rfl rfl (.inl (by exact congrArg Value.bool ab)) ?_
    refine Q_pass (dj := 20) rfl rfl (.inl (by exact congrArg Value.bool ab)) ?_
    refine Q_pass (dj := 20) rfl rfl (.inl (by exact congrArg Value.bool ab)) ?_
    refine Q_run (dj := 17) rfl rfl (by exact congrArg Value.bool ac) ?_
    refine Q_pu (P_pick false (vb false) (by exact congrArg Value.bool ab) rfl) ?_
    refine Q_pu (P_pick false (vb false) (by exact congrArg Value.bool ac) rfl) ?_
    refine Q_nil fun c6 ba => ?_
    have bb := ah.k0 ba
    refine W_cf (b := false) rfl rfl ?_
    refine W_skip ?_
    refine W_reg ?_
    obtain ⟨cb, H⟩ := H
    refine L_pu (P_add v2 1 rfl rfl cb) ?_
    refine L_pu (P_move (vi (v2 + 1)) rfl) ?_
    refine L_nil ?_
    have cc := bb.drop 0 rfl
    obtain ⟨cd, ce⟩ := H
    have bc := ad.stown _ an (oge am)
    have bd := ao.stw 0 rfl ap
    have be := ah.stn ba
    have bf := bb.std 0 rfl
    have cf := ((((ae.st bc).st bd).st be).st bf)
    have cg := ((((ag.st bc).st bd).st be).st bf)
    exact ⟨v2 + 1, ce, cd, ⟨rfl, rfl, rfl, rfl, trivial⟩, cc, cf, cg⟩
 ·have H := ite_f H al
  refine W_exit (xin_hit ?_)
  refine W_seq ?_
  refine W_reg ?_
  refine L_pu (P_fa fa68_1 ⟨b7, 0, none⟩ ⟨b7, 1, none⟩ rfl rfl) ?_
  refine L_pu (P_ld ag23 cL ⟨b7, 1, none⟩ (.slice A1 n2 c3) rfl (ag.cell rfl)) ?_
  have ch := ae.le
  refine L_pu (P_len Try.underlying23 A1 n2 c3 ae.len rfl) ?_
  refine L_pu (P_assign (vi (s.Pts.length : Int)) rfl) ?_
  refine L_nil ?_
  refine W_seq ?_
  refine W_seq ?_
  refine W_reg ?_
  refine L_pu (P_fa fa68_0 ⟨b7, 0, none⟩ ⟨b7, 0, none⟩ rfl rfl) ?_
  refine L_pu (P_ld ag3 cL ⟨b7, 0, none⟩ (vi s.Kind) rfl (ag.cell rfl)) ?_
  refine L_nil ?_
  refine W_block ?_
  refine W_seq ?_
  refine W_reg ?_
  refine L_pu (P_cmp s.Kind 1 (s.Kind == 1) rfl rfl rfl) ?_
  refine L_pu (P_assign (vb (s.Kind == 1)) rfl) ?_
  refine L_nil ?_
  refine W_cond (s.Kind == 1) rfl (fun av => ?_) (fun av => ?_)
  ·have H := ite_t H av
   refine W_seq ?_
   refine W_reg ?_
   refine L_pu (P_move (vi (s.Pts.length : Int)) rfl) ?_
   refine L_pu (P_cmp (s.Pts.length : Int) 1 ((s.Pts.length : Int) == 1) rfl rfl rfl) ?_
   refine L_pu (P_assign (vb ((s.Pts.length : Int) == 1)) rfl) ?_
   refine L_nil ?_
   refine W_ret ?_
   exact ⟨[vb ((s.Pts.length : Int) == 1)], ⟨_, rfl, rfl⟩, (s.Pts.length : Int) == 1, rfl, H, ad.gr.g0⟩
  ·have H := ite_f H av
   refine W_seq ?_
   refine W_reg ?_
   refine L_pu (P_cmp s.Kind 2 (s.Kind == 2) rfl rfl rfl) ?_
   refine L_pu (P_assign (vb (s.Kind == 2)) rfl) ?_
   refine L_nil ?_
   refine W_cond (s.Kind == 2) rfl (fun aw => ?_) (fun aw => ?_)
   ·have H := ite_t H aw
    refine W_seq ?_
    refine W_reg ?_
    refine L_pu (P_move (vi (s.Pts.length : Int)) rfl) ?_
    refine L_call go112 [vi (s.Pts.length : Int), vi 2, vi 6] rfl ((impl_within.calls af ad.ok (s.Pts.length : Int) 2 6 _ H).mono ?_)
    rintro _ c7 ⟨r2, rfl, H, ci, _⟩
    have cj := ad.k0 ci
    refine L_pu (P_assign (vb r2) rfl) ?_
    refine L_nil ?_
    refine W_ret ?_
    exact ⟨[vb r2], ⟨_, rfl, rfl⟩, r2, rfl, H, cj.gr.g0⟩
   ·have H := ite_f H aw
    refine W_seq ?_
    refine W_reg ?_
    refine L_pu (P_cmp s.Kind 3 (s.Kind == 3) rfl rfl rfl) ?_
    refine L_pu (P_assign (vb (s.Kind == 3)) rfl) ?_
    refine L_nil ?_
    refine W_cond (s.Kind == 3) rfl (fun ax => ?_) (fun ax => ?_)
    ·have H := ite_t H ax
     refine W_seq ?_
     refine W_draw (fun x => Gr af x none) (by kernel_rfl) (by kernel_rfl) (Gr.drew _) ?_
     refine Q_pu (P_move (vi (s.Pts.length : Int)) rfl) ?_
     refine Q_call go112 [vi (s.Pts.length : Int), vi 3, vi 6] rfl (vb (impl_within.m (s.Pts.length : Int) 3 6)) (fun w g => (impl_within.calls w (ad.k0 g).ok (s.Pts.length : Int) 3 6 _ (impl_within.fn (s.Pts.length : Int) 3 6)).mono ?_) ?_
     ·rintro _ w ⟨r, rfl, rfl, g2, _⟩
      exact ⟨rfl, Gr.t0 g g2⟩
     refine Q_pu (P_move (vb (impl_within.m (s.Pts.length : Int) 3 6)) rfl) ?_
     rcases bool_or (impl_within.m (s.Pts.length : Int) 3 6) with aa | aa
     ·have H := ite_t H aa
      refine Q_run (dj := 49) rfl rfl (by exact congrArg Value.bool aa) ?_
      refine Q_pu (P_fa fa68_1 ⟨b7, 0, none⟩ ⟨b7, 1, none⟩ rfl rfl) ?_
      refine Q_run (dj := 49) rfl rfl (by exact congrArg Value.bool aa) ?_
      refine Q_pu (P_ld ag23 cQ ⟨b7, 1, none⟩ (.slice A1 n2 c3) rfl (ag.cell rfl)) ?_
      refine Q_run (dj := 49) rfl rfl (by exact congrArg Value.bool aa) ?_
      obtain ⟨bg, H⟩ := H
      obtain ⟨bh, c8, ck, c9, cl, cm⟩ := ae.get default (by decide) 0 bg
      obtain rfl := kPt.op cl
      refine Q_pu (P_ia Try.underlying23 se23 A1 bh n2 c3 ae.len 0 rfl ck rfl bg) ?_
      refine Q_run (dj := 49) rfl rfl (by exact congrArg Value.bool aa) ?_
      refine Q_pu (P_lda ag29 sz29 cQ (bh.add ((0 : Int).toNat * 2)) [vi ((nth s.Pts 0).X), vi ((nth s.Pts 0).Y)] rfl rfl cm) ?_
      refine Q_run (dj := 49) rfl rfl (by exact congrArg Value.bool aa) ?_
      refine Q_pu (P_fa fa68_1 ⟨b7, 0, none⟩ ⟨b7, 1, none⟩ rfl rfl) ?_
      refine Q_run (dj := 49) rfl rfl (by exact congrArg Value.bool aa) ?_
      refine Q_pu (P_ld ag23 cQ ⟨b7, 1, none⟩ (.slice A1 n2 c3) rfl (ag.cell rfl)) ?_
      refine Q_run (dj := 49) rfl rfl (by exact congrArg Value.bool aa) ?_
      refine Q_pu (P_move (vi (s.Pts.length : Int)) rfl) ?_
      refine Q_run (dj := 49) rfl rfl (by exact congrArg Value.bool aa) ?_
      obtain ⟨cn, H⟩ := H
      have co := cn (len_le ch)
      refine Q_pu (P_sub (s.Pts.length : Int) 1 rfl rfl co) ?_
      refine Q_run (dj := 49) rfl rfl (by exact congrArg Value.bool aa) ?_
      obtain ⟨bi, H⟩ := H
      obtain ⟨bj, da, cp, db, cq, cr⟩ := ae.get default (by decide) ((s.Pts.length : Int) - 1) bi
      obtain rfl := kPt.op cq
      refine Q_pu (P_ia Try.underlying23 se23 A1 bj n2 c3 ae.len ((s.Pts.length : Int) - 1) rfl cp rfl bi) ?_
      refine Q_run (dj := 49) rfl rfl (by exact congrArg Value.bool aa) ?_
      refine Q_pu (P_lda ag29 sz29 cQ (bj.add (((s.Pts.length : Int) - 1).toNat * 2)) [vi ((nth s.Pts ((s.Pts.length : Int) - 1)).X), vi ((nth s.Pts ((s.Pts.length : Int) - 1)).Y)] rfl rfl cr) ?_
      refine Q_run (dj := 49) rfl rfl (by exact congrArg Value.bool aa) ?_
      refine Q_pu (P_ne _ _ (eqPt (nth s.Pts 0) (nth s.Pts ((s.Pts.length : Int) - 1))) (qt29 (nth s.Pts 0) (nth s.Pts ((s.Pts.length : Int) - 1))) rfl rfl) ?_
      refine Q_pu (P_pick true (vb (!(eqPt (nth s.Pts 0) (nth s.Pts ((s.Pts.length : Int) - 1))))) (by exact congrArg Value.bool aa) rfl) ?_
      refine Q_pu (P_assign (vb (!(eqPt (nth s.Pts 0) (nth s.Pts ((s.Pts.length : Int) - 1))))) rfl) ?_
      refine Q_nil fun dc cs => ?_
      have ct := ad.k0 cs
      refine W_ret ?_
      exact ⟨[vb (!(eqPt (nth s.Pts 0) (nth s.Pts ((s.Pts.length : Int) - 1))))], ⟨_, rfl, rfl⟩, !(eqPt (nth s.Pts 0) (nth s.Pts ((s.Pts.length : Int) - 1))), rfl, H, ct.gr.g0⟩
     ·have H := ite_f H aa
      refine Q_pass (dj := 49) rfl rfl (.inl (by exact congrArg Value.bool aa)) ?_
      refine Q_pass (dj := 49) rfl rfl (.inl (by exact congrArg Value.bool aa)) ?_
      refine Q_pass (dj := 49) rfl rfl (.inl (by exact congrArg Value.bool aa)) ?_
      refine Q_pass (dj := 49) rfl rfl (.inl (by exact congrArg Value.bool aa)) ?_
      refine Q_pass (dj := 49) rfl rfl (.inl (by exact congrArg Value.bool aa)) ?_
      refine Q_pass (dj := 49) rfl rfl (.inl (by exact congrArg Value.bool aa)) ?_
      refine Q_pass (dj := 49) rfl rfl (.inl (by exact congrArg Value.bool aa)) ?_
      refine Q_pass (dj := 49) rfl rfl (.inl (by exact congrArg Value.bool aa)) ?_
      refine Q_pass (dj := 49) rfl rfl (.inl (by exact congrArg Value.bool aa)) ?_
      refine Q_pass (dj := 49) rfl rfl (.inl (by exact congrArg Value.bool aa)) ?_
      refine Q_pass (dj := 49) rfl rfl (.inl (by exact congrArg Value.bool aa)) ?_
      refine Q_pu (P_pick false (vb false) (by exact congrArg Value.bool aa) rfl) ?_
      refine Q_pu (P_assign (vb false) rfl) ?_
      refine Q_nil fun dd cu => ?_
      have cv := ad.k0 cu
      refine W_ret ?_
      exact ⟨[vb false], ⟨_, rfl, rfl⟩, false, rfl, H, cv.gr.g0⟩
    ·have H := ite_f H ax
     refine W_skip ?_
     refine W_seq ?_
     refine W_reg ?_
     refine L_pu (P_assign (vb false) rfl) ?_
     refine L_nil ?_
     refine W_ret ?_
     exact ⟨[vb false], ⟨_, rfl, rfl⟩, false, rfl, H, ad.gr.g0⟩
end Go.Proofs.Ytndjggncgpjolaa

namespace Go.Proofs.Ytndjggncgpjolaa
open Go.RowKit
set_option linter.unusedVariables false
set_option linter.unusedSimpArgs false
def impl_FeatOk.E (f : Feat) (Q : Bool → Prop) : Prop :=
 (∃ (I43 : Int → Prop) (mu44 : Int → Nat), I43 0 ∧ ∀ (v2 : Int), I43 v2 → (if decide (v2 < (f.Tags.length : Int)) then ((0 : Int) ≤ v2 ∧ v2 < (f.Tags.length : Int)) ∧ (∃ q : Bool, impl_WordOk.E ((nth f.Tags v2).Key) (fun x => x = q) ∧ (if !q then Q false else (∃ q2 : Bool, impl_WordOk.E ((nth f.Tags v2).Val) (fun x => x = q2) ∧ (if !q2 then Q false else (if decide (v2 > 0) then (I64 (v2 - 1)) ∧ ((0 : Int) ≤ v2 - 1 ∧ v2 - 1 < (f.Tags.length : Int)) ∧ (if !(Op.bytesLess ((nth f.Tags (v2 - 1)).Key) ((nth f.Tags v2).Key)) then Q false else (I64 (v2 + 1)) ∧ I43 (v2 + 1) ∧ mu44 (v2 + 1) < mu44 v2) else (I64 (v2 + 1)) ∧ I43 (v2 + 1) ∧ mu44 (v2 + 1) < mu44 v2))))) else impl_WordOk.E f.Id (fun r3 => (if r3 then impl_ShapeOk.E f.Shape (fun r4 => (if r4 then Q (decide ((f.Tags.length : Int) ≤ 4)) else Q false)) else Q false))))
set_option maxHeartbeats 8000000 in
set_option maxRecDepth 100000 in
theorem impl_FeatOk.calls {O : Ob} (w0 : World) (hO : Ok w0 O) (f : Feat) (A2 : Option Addr) (n3 c4 : Nat) (A7 : Option Addr) (n8 c9 : Nat) (hs1 : Lim f.Id) (hp5 : Sl kPt w0 (Fr O) (.slice A2 n3 c4) f.Shape.Pts) (ap : Sl kTag w0 (Fr O) (.slice A7 n8 c9) f.Tags) (Q : Bool → Prop) (h : impl_FeatOk.E f Q) :
  Ret Try.prog 93 [.agg #[vs f.Id, vi f.Shape.Kind, .slice A2 n3 c4, .slice A7 n8 c9]] w0 (fun v w' => ∃ (r0 : Bool), v = vb r0 ∧ Q r0 ∧ Gr w0 w' none) := by
 unfold impl_FeatOk.E at h
 have H := h
 clear h
 have hc0 := Ct.init hO
 refine Ret_enter Try.func93 rfl 54 rfl [.tmp 2] rfl rfl ?_
 refine W_seq ?_
 refine W_reg ?_
 refine L_box [vs f.Id, vi f.Shape.Kind, .slice A2 n3 c4, .slice A7 n8 c9] rfl fun cy ab br hu16 bs bt => ?_
 have bc := Fb.mk hc0.ok br bt
 have ak := hc0.k0 bs
 refine L_pu (P_assign (vb false) rfl) ?_
 refine L_nil ?_
 refine W_seq ?_
 refine W_seq ?_
 refine W_reg ?_
 refine L_pu (P_fa fa71_2 ⟨ab, 0, none⟩ ⟨ab, 3, none⟩ rfl rfl) ?_
 refine L_pu (P_ld ag69 cL ⟨ab, 3, none⟩ (.slice A7 n8 c9) rfl (bc.cell rfl)) ?_
 have cz := (ap.st ak.st).le
 refine L_pu (P_len Try.underlying69 A7 n8 c9 (ap.st ak.st).len rfl) ?_
 refine L_pu (P_move (vi 0) rfl) ?_
 refine L_nil ?_
 refine W_block ?_
 obtain ⟨bu, bv, aq, H⟩ := H
 refine W_loop (α := Int) (fun (sv__ : Int) t ai => match sv__ with | v2 => bu v2 ∧ Has t [(1, .pointer (some ⟨ab, 0, none⟩)), (6, .slice A7 n8 c9), (7, vi (f.Tags.length : Int)), (8, vi v2)] ∧ Ct [] w0 ai [] O ∧ Sl kTag ai (Fr ([] ++ O)) (.slice A7 n8 c9) f.Tags ∧ Sl kPt ai (Fr ([] ++ O)) (.slice A2 n3 c4) f.Shape.Pts ∧ Fb ai ([] ++ O) ab [vs f.Id, vi f.Shape.Kind, .slice A2 n3 c4, .slice A7 n8 c9]) (fun (sv__ : Int) => match sv__ with | v2 => bv v2) 0 ⟨aq, ⟨rfl, rfl, rfl, rfl, trivial⟩, ak, (ap.st ak.st), (hp5.st ak.st), bc⟩ ?_
 rintro v2 _ ai ⟨aq, bw, aj, al, ar, am⟩
 obtain ⟨c0, rfl⟩ := Has.ins bw
 have H := H v2 aq
 refine W_seq ?_
 refine W_reg ?_
 refine L_pu (P_cmp v2 (f.Tags.length : Int) (decide (v2 < (f.Tags.length : Int))) rfl rfl rfl) ?_
 refine L_nil ?_
 refine W_seq ?_
 refine W_cond (decide (v2 < (f.Tags.length : Int))) rfl (fun au => ?_) (fun au => ?_)
 ·have H := ite_t H au
  refine W_skip ?_
  refine W_seq ?_
  refine W_block ?_
  refine W_seq ?_
  refine W_reg ?_
  refine L_pu (P_move (vi v2) rfl) ?_
  obtain ⟨bd, H⟩ := H
  obtain ⟨be, c1, bx, c2, bz, b0⟩ := al.get default (by decide) v2 bd
  obtain ⟨rfl, b1, b2⟩ := kTag.op bz
  refine L_pu (P_ia Try.underlying69 se69 A7 be n8 c9 al.len v2 rfl bx rfl bd) ?_
  refine L_pu (P_lda ag133 sz133 cL (be.add (v2.toNat * 2)) [vs ((nth f.Tags v2).Key), vs ((nth f.Tags v2).Val)] rfl rfl b0) ?_
  refine L_alloc [vs [], vs []] ze133 fun c3 af av hu63 aw b3 => ?_
  have ax := aj.own aw (some af) (oglt av hu63)
  refine L_pu (P_assign (vi v2) rfl) ?_
  refine L_stb af 0 [vs ([] : Str), vs ([] : Str)] [vs ((nth f.Tags v2).Key), vs ((nth f.Tags v2).Val)] [vs ((nth f.Tags v2).Key), vs ((nth f.Tags v2).Val)] rfl b3 rfl sz133 rfl rfl rfl fun b4 ay az => ?_
  have ah := ax.wr 0 rfl ay
  refine L_nil ?_
  refine W_seq ?_
  refine W_draw (fun x => Gr b4 x none) (by kernel_rfl) (by kernel_rfl) (Gr.drew _) ?_
  refine Q_pu (P_fa fa133_0 ⟨af, 0, none⟩ ⟨af, 0, none⟩ rfl rfl) ?_
  refine Q_pu (P_ld ag9 cQ ⟨af, 0, none⟩ (vs ((nth f.Tags v2).Key)) rfl (az.cell rfl)) ?_
  obtain ⟨q, b5, H⟩ := H
  refine Q_call go53 [vs ((nth f.Tags v2).Key)] rfl (vb q) (fun w g => (impl_WordOk.calls w (ah.k0 g).ok ((nth f.Tags v2).Key) b1 _ b5).mono ?_) ?_
  ·rintro _ w ⟨r, rfl, rfl, g2⟩
   exact ⟨rfl, Gr.t0 g g2⟩
  refine Q_pu (P_not q rfl) ?_
  refine Q_pu (P_move (vb (!q)) rfl) ?_
  rcases bool_or (!q) with ad | ad
  ·have H := ite_t H ad
   refine Q_pass (dj := 17) rfl rfl (.inl (by exact congrArg Value.bool ad)) ?_
   refine Q_pass (dj := 17) rfl rfl (.inl (by exact congrArg Value.bool ad)) ?_
   refine Q_pass (dj := 17) rfl rfl (.inl (by exact congrArg Value.bool ad)) ?_
   refine Q_pass (dj := 17) rfl rfl (.inl (by exact congrArg Value.bool ad)) ?_
   refine Q_pu (P_pick true (vb true) (by exact congrArg Value.bool ad) rfl) ?_
   refine Q_pu (P_move (vb true) rfl) ?_
   refine Q_pass (dj := 23) rfl rfl (.inl rfl) ?_
   refine Q_pass (dj := 23) rfl rfl (.inl rfl) ?_
   refine Q_pass (dj := 23) rfl rfl (.inl rfl) ?_
   refine Q_pass (dj := 26) rfl rfl (.inr rfl) ?_
   refine Q_pass (dj := 26) rfl rfl (.inr rfl) ?_
   refine Q_pass (dj := 26) rfl rfl (.inr rfl) ?_
   refine Q_pass (dj := 26) rfl rfl (.inr rfl) ?_
   refine Q_pass (dj := 26) rfl rfl (.inr rfl) ?_
   refine Q_pass (dj := 26) rfl rfl (.inr rfl) ?_
   refine Q_pass (dj := 26) rfl rfl (.inr rfl) ?_
   refine Q_pass (dj := 26) rfl rfl (.inr rfl) ?_
   refine Q_pass (dj := 26) rfl rfl (.inr rfl) ?_
   refine Q_pass (dj := 26) rfl rfl (.inr rfl) ?_
   refine Q_pass (dj := 23) rfl rfl (.inl rfl) ?_
   refine Q_pu (P_pick true (vb true) (by exact congrArg Value.bool rfl) rfl) ?_
   refine Q_nil fun c5 b6 => ?_
   have b7 := ah.k0 b6
   refine W_ct (b := true) rfl rfl ?_
   refine W_seq ?_
   refine W_reg ?_
   refine L_pu (P_assign (vb false) rfl) ?_
   refine L_nil ?_
   refine W_ret ?_
   have b8 := b7.drop 0 rfl
   exact ⟨[vb false], ⟨_, rfl, rfl⟩, false, rfl, H, b8.gr.g0⟩
  ·have H := ite_f H ad
   refine Q_run (dj := 17) rfl rfl (by exact congrArg Value.bool ad) ?_
   refine Q_pu (P_fa fa133_1 ⟨af, 0, none⟩ ⟨af, 1, none⟩ rfl rfl) ?_
   refine Q_run (dj := 17) rfl rfl (by exact congrArg Value.bool ad) ?_
   refine Q_pu (P_ld ag9 cQ ⟨af, 1, none⟩ (vs ((nth f.Tags v2).Val)) rfl (az.cell rfl)) ?_
   refine Q_run (dj := 17) rfl rfl (by exact congrArg Value.bool ad) ?_
   obtain ⟨q2, b9, H⟩ := H
   refine Q_call go53 [vs ((nth f.Tags v2).Val)] rfl (vb q2) (fun w g => (impl_WordOk.calls w (ah.k0 g).ok ((nth f.Tags v2).Val) b2 _ b9).mono ?_) ?_
   ·rintro _ w ⟨r, rfl, rfl, g2⟩
    exact ⟨rfl, Gr.t0 g g2⟩
   refine Q_run (dj := 17) rfl rfl (by exact congrArg Value.bool ad) ?_
   refine Q_pu (P_not q2 rfl) ?_
   refine Q_pu (P_pick false (vb (!q2)) (by exact congrArg Value.bool ad) rfl) ?_
   refine Q_pu (P_move (vb (!q2)) rfl) ?_
   rcases bool_or (!q2) with ac | ac
   ·have H := ite_t H ac
    refine Q_pass (dj := 23) rfl rfl (.inl (by exact congrArg Value.bool ac)) ?_
    refine Q_pass (dj := 23) rfl rfl (.inl (by exact congrArg Value.bool ac)) ?_
    refine Q_pass (dj := 23) rfl rfl (.inl (by exact congrArg Value.bool ac)) ?_
    refine Q_pass (dj := 26) rfl rfl (.inr rfl) ?_
    refine Q_pass (dj := 26) rfl rfl (.inr rfl) ?_
    refine Q_pass (dj := 26) rfl rfl (.inr rfl) ?_
    refine Q_pass (dj := 26) rfl rfl (.inr rfl) ?_
    refine Q_pass (dj := 26) rfl rfl (.inr rfl) ?_
    refine Q_pass (dj := 26) rfl rfl (.inr rfl) ?_
    refine Q_pass (dj := 26) rfl rfl (.inr rfl) ?_
    refine Q_pass (dj := 26) rfl rfl (.inr rfl) ?_
    refine Q_pass (dj := 26) rfl rfl (.inr rfl) ?_
    refine Q_pass (dj := 26) rfl rfl (.inr rfl) ?_
    refine Q_pass (dj := 23) rfl rfl (.inl (by exact congrArg Value.bool ac)) ?_
    refine Q_pu (P_pick true (vb true) (by exact congrArg Value.bool ac) rfl) ?_
    refine Q_nil fun c6 ca => ?_
    have cb := ah.k0 ca
    refine W_ct (b := true) rfl rfl ?_
    refine W_seq ?_
    refine W_reg ?_
    refine L_pu (P_assign (vb false) rfl) ?_
    refine L_nil ?_
    refine W_ret ?_
    have cc := cb.drop 0 rfl
    exact ⟨[vb false], ⟨_, rfl, rfl⟩, false, rfl, H, cc.gr.g0⟩
   ·have H := ite_f H ac
    refine Q_run (dj := 23) rfl rfl (by exact congrArg Value.bool ac) ?_
    refine Q_pu (P_move (vi v2) rfl) ?_
    refine Q_run (dj := 23) rfl rfl (by exact congrArg Value.bool ac) ?_
    refine Q_pu (P_cmp v2 0 (decide (v2 > 0)) rfl rfl rfl) ?_
    refine Q_run (dj := 23) rfl rfl (by exact congrArg Value.bool ac) ?_
    refine Q_pu (P_move (vb (decide (v2 > 0))) rfl) ?_
    rcases bool_or (decide (v2 > 0)) with aa | aa
    ·have H := ite_t H aa
     refine Q_run (dj := 26) rfl rfl (by exact congrArg Value.bool aa) ?_
     refine Q_pu (P_fa fa71_2 ⟨ab, 0, none⟩ ⟨ab, 3, none⟩ rfl rfl) ?_
     refine Q_run (dj := 26) rfl rfl (by exact congrArg Value.bool aa) ?_
     have a0 := aj.stown _ aw (oge av)
     have a1 := ax.stw 0 rfl ay
     have bf := ((am.st a0).st a1)
     refine Q_pu (P_ld ag69 cQ ⟨ab, 3, none⟩ (.slice A7 n8 c9) rfl (bf.cell rfl)) ?_
     refine Q_run (dj := 26) rfl rfl (by exact congrArg Value.bool aa) ?_
     refine Q_pu (P_move (vi v2) rfl) ?_
     refine Q_run (dj := 26) rfl rfl (by exact congrArg Value.bool aa) ?_
     obtain ⟨cd, H⟩ := H
     refine Q_pu (P_sub v2 1 rfl rfl cd) ?_
     refine Q_run (dj := 26) rfl rfl (by exact congrArg Value.bool aa) ?_
     obtain ⟨bg, H⟩ := H
     have a2 := ((al.st a0).st a1)
     obtain ⟨an, c7, ce, c8, cf, cg⟩ := a2.get default (by decide) (v2 - 1) bg
     obtain ⟨rfl, da, db⟩ := kTag.op cf
     refine Q_pu (P_ia Try.underlying69 se69 A7 an n8 c9 a2.len (v2 - 1) rfl ce rfl bg) ?_
     refine Q_run (dj := 26) rfl rfl (by exact congrArg Value.bool aa) ?_
     refine Q_pu (P_fa fa133_0 (an.add ((v2 - 1).toNat * 2)) ((an.add ((v2 - 1).toNat * 2)).add 0) rfl rfl) ?_
     refine Q_run (dj := 26) rfl rfl (by exact congrArg Value.bool aa) ?_
     refine Q_pu (P_ld ag9 cQ ((an.add ((v2 - 1).toNat * 2)).add 0) (vs ((nth f.Tags (v2 - 1)).Key)) rfl (cg 0 _ rfl)) ?_
     refine Q_run (dj := 26) rfl rfl (by exact congrArg Value.bool aa) ?_
     refine Q_pu (P_fa fa133_0 ⟨af, 0, none⟩ ⟨af, 0, none⟩ rfl rfl) ?_
     refine Q_run (dj := 26) rfl rfl (by exact congrArg Value.bool aa) ?_
     refine Q_pu (P_ld ag9 cQ ⟨af, 0, none⟩ (vs ((nth f.Tags v2).Key)) rfl (az.cell rfl)) ?_
     refine Q_run (dj := 26) rfl rfl (by exact congrArg Value.bool aa) ?_
     refine Q_pu (P_scmp ((nth f.Tags (v2 - 1)).Key) ((nth f.Tags v2).Key) (!(Op.bytesLess ((nth f.Tags (v2 - 1)).Key) ((nth f.Tags v2).Key))) rfl rfl rfl) ?_
     refine Q_run (dj := 23) rfl rfl (by exact congrArg Value.bool ac) ?_
     refine Q_pu (P_pick true (vb (!(Op.bytesLess ((nth f.Tags (v2 - 1)).Key) ((nth f.Tags v2).Key)))) (by exact congrArg Value.bool aa) rfl) ?_
     refine Q_pu (P_pick false (vb (!(Op.bytesLess ((nth f.Tags (v2 - 1)).Key) ((nth f.Tags v2).Key)))) (by exact congrArg Value.bool ac) rfl) ?_
     refine Q_nil fun dc bh => ?_
     have a3 := ah.k0 bh
     refine W_cond (!(Op.bytesLess ((nth f.Tags (v2 - 1)).Key) ((nth f.Tags v2).Key))) rfl (fun a4 => ?_) (fun a4 => ?_)
     ·have H := ite_t H a4
      refine W_seq ?_
      refine W_reg ?_
      refine L_pu (P_assign (vb false) rfl) ?_
      refine L_nil ?_
      refine W_ret ?_
      have ch := a3.drop 0 rfl
      exact ⟨[vb false], ⟨_, rfl, rfl⟩, false, rfl, H, ch.gr.g0⟩
     ·have H := ite_f H a4
      refine W_skip ?_
      refine W_reg ?_
      obtain ⟨ci, H⟩ := H
      refine L_pu (P_add v2 1 rfl rfl ci) ?_
      refine L_pu (P_move (vi (v2 + 1)) rfl) ?_
      refine L_nil ?_
      have cj := a3.drop 0 rfl
      obtain ⟨ck, cl⟩ := H
      have a5 := ah.stn bh
      have a6 := a3.std 0 rfl
      have cm := ((a2.st a5).st a6)
      have cn := ((((ar.st a0).st a1).st a5).st a6)
      have co := ((bf.st a5).st a6)
      exact ⟨v2 + 1, cl, ck, ⟨rfl, rfl, rfl, rfl, trivial⟩, cj, cm, cn, co⟩
    ·have H := ite_f H aa
     refine Q_pass (dj := 26) rfl rfl (.inl (by exact congrArg Value.bool aa)) ?_
     refine Q_pass (dj := 26) rfl rfl (.inl (by exact congrArg Value.bool aa)) ?_
     refine Q_pass (dj := 26) rfl rfl (.inl (by exact congrArg Value.bool aa)) ?_
     refine Q_pass (dj := 26) rfl rfl (.inl (by exact congrArg Value.bool aa)) ?_
     refine Q_pass (dj := 26) rfl rfl (.inl (by exact congrArg Value.bool aa)) ?_
     refine Q_pass (dj := 26) rfl rfl (.inl (by exact congrArg Value.bool aa)) ?_
     refine Q_pass (dj := 26) rfl rfl (.inl (by exact congrArg Value.bool aa)) ?_
     refine Q_pass (dj := 26) rfl rfl (.inl (by exact congrArg Value.bool aa)) ?_
     refine Q_pass (dj := 26) rfl rfl (.inl (by exact congrArg Value.bool aa)) ?_
     refine Q_pass (dj := 26) rfl rfl (.inl (by exact congrArg Value.bool aa)) ?_
     refine Q_run (dj := 23) rfl rfl (by exact congrArg Value.bool ac) ?_
     refine Q_pu (P_pick false (vb false) (by exact congrArg Value.bool aa) rfl) ?_
     refine Q_pu (P_pick false (vb false) (by exact congrArg Value.bool ac) rfl) ?_
     refine Q_nil fun dd bi => ?_
     have bj := ah.k0 bi
     refine W_cf (b := false) rfl rfl ?_
     refine W_skip ?_
     refine W_reg ?_
     obtain ⟨cp, H⟩ := H
     refine L_pu (P_add v2 1 rfl rfl cp) ?_
     refine L_pu (P_move (vi (v2 + 1)) rfl) ?_
     refine L_nil ?_
     have cq := bj.drop 0 rfl
     obtain ⟨cr, cs⟩ := H
     have a7 := aj.stown _ aw (oge av)
     have a8 := ax.stw 0 rfl ay
     have a9 := ah.stn bi
     have ba := bj.std 0 rfl
     have ct := ((((al.st a7).st a8).st a9).st ba)
     have cu := ((((ar.st a7).st a8).st a9).st ba)
     have cv := ((((am.st a7).st a8).st a9).st ba)
     exact ⟨v2 + 1, cs, cr, ⟨rfl, rfl, rfl, rfl, trivial⟩, cq, ct, cu, cv⟩
 ·have H := ite_f H au
  refine W_exit (xin_hit ?_)
  refine W_seq ?_
  refine W_reg ?_
  refine L_pu (P_fa fa71_0 ⟨ab, 0, none⟩ ⟨ab, 0, none⟩ rfl rfl) ?_
  refine L_pu (P_ld ag9 cL ⟨ab, 0, none⟩ (vs f.Id) rfl (am.cell rfl)) ?_
  refine L_call go53 [vs f.Id] rfl ((impl_WordOk.calls ai aj.ok f.Id hs1 _ H).mono ?_)
  rintro _ cw ⟨r3, rfl, H, bl⟩
  have ao := aj.k0 bl
  refine L_pu (P_move (vb r3) rfl) ?_
  rcases bool_or r3 with ag | ag
  ·have H := ite_t H ag
   refine L_run (dj := 43) rfl rfl (by exact congrArg Value.bool ag) ?_
   refine L_pu (P_fa fa71_1 ⟨ab, 0, none⟩ ⟨ab, 1, none⟩ rfl rfl) ?_
   refine L_run (dj := 43) rfl rfl (by exact congrArg Value.bool ag) ?_
   have bb := aj.stn bl
   have bm := (am.st bb)
   refine L_pu (P_lda ag68 sz68 cL ⟨ab, 1, none⟩ [vi f.Shape.Kind, .slice A2 n3 c4] rfl rfl (bm.cells (off := 1) rfl)) ?_
   refine L_run (dj := 43) rfl rfl (by exact congrArg Value.bool ag) ?_
   refine L_call go96 [.agg #[vi f.Shape.Kind, .slice A2 n3 c4]] rfl ((impl_ShapeOk.calls cw ao.ok f.Shape A2 n3 c4 (ar.st bb) _ H).mono ?_)
   rintro _ de ⟨r4, rfl, H, bn⟩
   have bo := ao.k0 bn
   refine L_pu (P_pick true (vb r4) (by exact congrArg Value.bool ag) rfl) ?_
   refine L_pu (P_move (vb r4) rfl) ?_
   rcases bool_or r4 with ae | ae
   ·have H := ite_t H ae
    refine L_run (dj := 48) rfl rfl (by exact congrArg Value.bool ae) ?_
    refine L_pu (P_fa fa71_2 ⟨ab, 0, none⟩ ⟨ab, 3, none⟩ rfl rfl) ?_
    refine L_run (dj := 48) rfl rfl (by exact congrArg Value.bool ae) ?_
    have bp := ao.stn bn
    have cx := (bm.st bp)
    refine L_pu (P_ld ag69 cL ⟨ab, 3, none⟩ (.slice A7 n8 c9) rfl (cx.cell rfl)) ?_
    refine L_run (dj := 48) rfl rfl (by exact congrArg Value.bool ae) ?_
    have bq := ((al.st bb).st bp)
    have df := bq.le
    refine L_pu (P_len Try.underlying69 A7 n8 c9 bq.len rfl) ?_
    refine L_run (dj := 48) rfl rfl (by exact congrArg Value.bool ae) ?_
    refine L_pu (P_cmp (f.Tags.length : Int) 4 (decide ((f.Tags.length : Int) ≤ 4)) rfl rfl rfl) ?_
    refine L_pu (P_pick true (vb (decide ((f.Tags.length : Int) ≤ 4))) (by exact congrArg Value.bool ae) rfl) ?_
    refine L_pu (P_assign (vb (decide ((f.Tags.length : Int) ≤ 4))) rfl) ?_
    refine L_nil ?_
    refine W_ret ?_
    exact ⟨[vb (decide ((f.Tags.length : Int) ≤ 4))], ⟨_, rfl, rfl⟩, decide ((f.Tags.length : Int) ≤ 4), rfl, H, bo.gr.g0⟩
   ·have H := ite_f H ae
    refine L_pass (dj := 48) rfl rfl (.inl (by exact congrArg Value.bool ae)) ?_
    refine L_pass (dj := 48) rfl rfl (.inl (by exact congrArg Value.bool ae)) ?_
    refine L_pass (dj := 48) rfl rfl (.inl (by exact congrArg Value.bool ae)) ?_
    refine L_pass (dj := 48) rfl rfl (.inl (by exact congrArg Value.bool ae)) ?_
    refine L_pu (P_pick false (vb false) (by exact congrArg Value.bool ae) rfl) ?_
    refine L_pu (P_assign (vb false) rfl) ?_
    refine L_nil ?_
    refine W_ret ?_
    exact ⟨[vb false], ⟨_, rfl, rfl⟩, false, rfl, H, bo.gr.g0⟩
  ·have H := ite_f H ag
   refine L_pass (dj := 43) rfl rfl (.inl (by exact congrArg Value.bool ag)) ?_
   refine L_pass (dj := 43) rfl rfl (.inl (by exact congrArg Value.bool ag)) ?_
   refine L_pass (dj := 43) rfl rfl (.inl (by exact congrArg Value.bool ag)) ?_
   refine L_pu (P_pick false (vb false) (by exact congrArg Value.bool ag) rfl) ?_
   refine L_pu (P_move (vb false) rfl) ?_
   refine L_pass (dj := 48) rfl rfl (.inl rfl) ?_
   refine L_pass (dj := 48) rfl rfl (.inl rfl) ?_
   refine L_pass (dj := 48) rfl rfl (.inl rfl) ?_
   refine L_pass (dj := 48) rfl rfl (.inl rfl) ?_
   refine L_pu (P_pick false (vb false) (by exact congrArg Value.bool rfl) rfl) ?_
   refine L_pu (P_assign (vb false) rfl) ?_
   refine L_nil ?_
   refine W_ret ?_
   exact ⟨[vb false], ⟨_, rfl, rfl⟩, false, rfl, H, ao.gr.g0⟩
end Go.Proofs.Ytndjggncgpjolaa

namespace Go.Proofs.Ytndjggncgpjolaa
open Go.RowKit
set_option linter.unusedVariables false
set_option linter.unusedSimpArgs false
def impl_ofThree_Shape.E (base_ : Shape) (a : Shape) (b : Shape) (same : Shape → Shape → Bool) (same_ok : Shape → Shape → Prop) (Q : Shape → Bool → Prop) : Prop :=
 (same_ok a base_) ∧ (if (same a base_) then Q b true else (same_ok b base_) ∧ (if (same b base_) then Q a true else (same_ok a b) ∧ (if (same a b) then Q a true else Q a false)))
set_option maxHeartbeats 8000000 in
set_option maxRecDepth 100000 in
theorem impl_ofThree_Shape.calls {O : Ob} (w0 : World) (hO : Ok w0 O) (base_ : Shape) (A1 : Option Addr) (n2 c3 : Nat) (hp4 : Sl kPt w0 (Fr O) (.slice A1 n2 c3) base_.Pts) (a : Shape) (A6 : Option Addr) (n7 c8 : Nat) (hp9 : Sl kPt w0 (Fr O) (.slice A6 n7 c8) a.Pts) (b : Shape) (aa : Option Addr) (ab ac : Nat) (ar : Sl kPt w0 (Fr O) (.slice aa ab ac) b.Pts) (ai : FuncId) (ad : List Value) (same : Shape → Shape → Bool) (same_ok : Shape → Shape → Prop) (au : Goes Try.prog ai) (av : ∀ (w : World) (L : Ob), Ct [] w0 w L O → ∀ (x0_ : Shape) (a3 : Option Addr) (a4 a5 : Nat) (c2 : Sl kPt w (Fr (L ++ O)) (.slice a3 a4 a5) x0_.Pts) (x1_ : Shape) (a6 : Option Addr) (a7 a8 : Nat) (c4 : Sl kPt w (Fr (L ++ O)) (.slice a6 a7 a8) x1_.Pts), same_ok x0_ x1_ → Ret Try.prog ai ([.agg #[vi x0_.Kind, .slice a3 a4 a5], .agg #[vi x1_.Kind, .slice a6 a7 a8]] ++ ad) w (fun v w' => v = vb (same x0_ x1_) ∧ Gr w w' none)) (Q : Shape → Bool → Prop) (h : impl_ofThree_Shape.E base_ a b same same_ok Q) :
  Ret Try.prog 94 [.agg #[vi base_.Kind, .slice A1 n2 c3], .agg #[vi a.Kind, .slice A6 n7 c8], .agg #[vi b.Kind, .slice aa ab ac], .func (.func ai) #[] ad.toArray] w0 (fun v w' => ∃ (r0 : Shape) (r1 : Bool) (A0 : Option Addr) (n0 c0 : Nat), v = .tuple #[.agg #[vi r0.Kind, .slice A0 n0 c0], vb r1] ∧ Q r0 r1 ∧ Gr w0 w' none ∧ Sl kPt w' (Fr O) (.slice A0 n0 c0) r0.Pts) := by
 unfold impl_ofThree_Shape.E at h
 have H := h
 clear h
 have hc0 := Ct.init hO
 refine Ret_enter Try.func94 rfl 27 rfl [.cell 8 68, .tmp 9] rfl rfl ?_
 refine W_seq ?_
 refine W_reg ?_
 refine L_box [vi base_.Kind, .slice A1 n2 c3] rfl fun c5 a9 bu hu24 bv bw => ?_
 have bx := Fb.mk hc0.ok bu bw
 have aw := hc0.k0 bv
 refine L_box [vi a.Kind, .slice A6 n7 c8] rfl fun c6 al bz hu33 ba b0 => ?_
 have b1 := Fb.mk aw.ok bz b0
 have ax := aw.k0 ba
 refine L_box [vi b.Kind, .slice aa ab ac] rfl fun c7 ay b2 hu42 bb b3 => ?_
 have bc := Fb.mk ax.ok b2 b3
 have bd := ax.k0 bb
 refine L_alloc [.int .i64 0, .slice none 0 0] ze68 fun b4 ae be hu51 bf an => ?_
 have aj := bd.own bf (some ae) (oglt be hu51)
 refine L_pu (P_assign (vb false) rfl) ?_
 refine L_nil ?_
 refine W_seq ?_
 refine W_block ?_
 refine W_seq ?_
 refine W_reg ?_
 refine L_pu (P_move (.func (.func ai) #[] ad.toArray) rfl) ?_
 have bg := ax.stn bb
 have ao := bd.stown _ bf (oge be)
 have az := ((b1.st bg).st ao)
 refine L_pu (P_lda ag68 sz68 cL ⟨al, 0, none⟩ [vi a.Kind, .slice A6 n7 c8] rfl rfl (az.cells (off := 0) rfl)) ?_
 have b5 := aw.stn ba
 have bh := (((bx.st b5).st bg).st ao)
 refine L_pu (P_lda ag68 sz68 cL ⟨a9, 0, none⟩ [vi base_.Kind, .slice A1 n2 c3] rfl rfl (bh.cells (off := 0) rfl)) ?_
 obtain ⟨b6, H⟩ := H
 refine L_callv au ad rfl [.agg #[vi a.Kind, .slice A6 n7 c8], .agg #[vi base_.Kind, .slice A1 n2 c3]] rfl ((av b4 [some ae] aj a A6 n7 c8 (hp9.st aj.st) base_ A1 n2 c3 (hp4.st aj.st) b6).mono ?_)
 rintro _ b7 ⟨rfl, af⟩
 have ag := aj.k0 af
 refine L_pu (P_assign (vb (same a base_)) rfl) ?_
 refine L_nil ?_
 refine W_cond (same a base_) rfl (fun a0 => ?_) (fun a0 => ?_)
 ·have H := ite_t H a0
  refine W_seq ?_
  refine W_reg ?_
  have b8 := aj.stn af
  have b9 := ((bc.st ao).st b8)
  refine L_pu (P_lda ag68 sz68 cL ⟨ay, 0, none⟩ [vi b.Kind, .slice aa ab ac] rfl rfl (b9.cells (off := 0) rfl)) ?_
  have ca := (an.k0 af)
  refine L_stb ae 0 [vi 0, .slice none 0 0] [vi b.Kind, .slice aa ab ac] [vi b.Kind, .slice aa ab ac] rfl ca rfl sz68 rfl rfl rfl fun c9 cb cc => ?_
  have bi := ag.wr 0 rfl cb
  refine L_pu (P_assign (vb true) rfl) ?_
  refine L_nil ?_
  refine W_ret ?_
  have cd := bi.bgv cc 0 rfl
  have bj := bi.drop 0 rfl
  exact ⟨[.agg #[vi b.Kind, .slice aa ab ac], vb true], ⟨_, _, rfl, cd.1.res rfl ag68 sz68, ⟨_, rfl, rfl⟩⟩, b, true, aa, ab, ac, rfl, H, bj.gr.g0, (ar.st bj.st)⟩
 ·have H := ite_f H a0
  refine W_seq ?_
  refine W_seq ?_
  refine W_reg ?_
  refine L_pu (P_move (.func (.func ai) #[] ad.toArray) rfl) ?_
  have ap := aj.stn af
  have bl := ((bc.st ao).st ap)
  refine L_pu (P_lda ag68 sz68 cL ⟨ay, 0, none⟩ [vi b.Kind, .slice aa ab ac] rfl rfl (bl.cells (off := 0) rfl)) ?_
  have ce := (bh.st ap)
  refine L_pu (P_lda ag68 sz68 cL ⟨a9, 0, none⟩ [vi base_.Kind, .slice A1 n2 c3] rfl rfl (ce.cells (off := 0) rfl)) ?_
  obtain ⟨cf, H⟩ := H
  refine L_callv au ad rfl [.agg #[vi b.Kind, .slice aa ab ac], .agg #[vi base_.Kind, .slice A1 n2 c3]] rfl ((av b7 [some ae] ag b aa ab ac (ar.st ag.st) base_ A1 n2 c3 (hp4.st ag.st) cf).mono ?_)
  rintro _ cg ⟨rfl, ak⟩
  have ah := ag.k0 ak
  refine L_pu (P_assign (vb (same b base_)) rfl) ?_
  refine L_nil ?_
  refine W_cond (same b base_) rfl (fun aq => ?_) (fun aq => ?_)
  ·have H := ite_t H aq
   refine W_skip ?_
   refine W_ct (b := (same b base_)) rfl aq ?_
   refine W_seq ?_
   refine W_reg ?_
   have ch := ag.stn ak
   have ci := ((az.st ap).st ch)
   refine L_pu (P_lda ag68 sz68 cL ⟨al, 0, none⟩ [vi a.Kind, .slice A6 n7 c8] rfl rfl (ci.cells (off := 0) rfl)) ?_
   have cj := ((an.k0 af).k0 ak)
   refine L_stb ae 0 [vi 0, .slice none 0 0] [vi a.Kind, .slice A6 n7 c8] [vi a.Kind, .slice A6 n7 c8] rfl cj rfl sz68 rfl rfl rfl fun da ck cl => ?_
   have bm := ah.wr 0 rfl ck
   refine L_pu (P_assign (vb true) rfl) ?_
   refine L_nil ?_
   refine W_ret ?_
   have cm := bm.bgv cl 0 rfl
   have bn := bm.drop 0 rfl
   exact ⟨[.agg #[vi a.Kind, .slice A6 n7 c8], vb true], ⟨_, _, rfl, cm.1.res rfl ag68 sz68, ⟨_, rfl, rfl⟩⟩, a, true, A6, n7, c8, rfl, H, bn.gr.g0, (hp9.st bn.st)⟩
  ·have H := ite_f H aq
   refine W_reg ?_
   refine L_pu (P_move (.func (.func ai) #[] ad.toArray) rfl) ?_
   have bo := ag.stn ak
   have a1 := ((az.st ap).st bo)
   refine L_pu (P_lda ag68 sz68 cL ⟨al, 0, none⟩ [vi a.Kind, .slice A6 n7 c8] rfl rfl (a1.cells (off := 0) rfl)) ?_
   have cn := (bl.st bo)
   refine L_pu (P_lda ag68 sz68 cL ⟨ay, 0, none⟩ [vi b.Kind, .slice aa ab ac] rfl rfl (cn.cells (off := 0) rfl)) ?_
   obtain ⟨co, H⟩ := H
   refine L_callv au ad rfl [.agg #[vi a.Kind, .slice A6 n7 c8], .agg #[vi b.Kind, .slice aa ab ac]] rfl ((av cg [some ae] ah a A6 n7 c8 (hp9.st ah.st) b aa ab ac (ar.st ah.st) co).mono ?_)
   rintro _ db ⟨rfl, am⟩
   have bp := ah.k0 am
   refine L_pu (P_assign (vb (same a b)) rfl) ?_
   refine L_nil ?_
   refine W_cond (same a b) rfl (fun a2 => ?_) (fun a2 => ?_)
   ·have H := ite_t H a2
    refine W_seq ?_
    refine W_reg ?_
    have cp := ah.stn am
    have cq := (a1.st cp)
    refine L_pu (P_lda ag68 sz68 cL ⟨al, 0, none⟩ [vi a.Kind, .slice A6 n7 c8] rfl rfl (cq.cells (off := 0) rfl)) ?_
    have cr := (((an.k0 af).k0 ak).k0 am)
    refine L_stb ae 0 [vi 0, .slice none 0 0] [vi a.Kind, .slice A6 n7 c8] [vi a.Kind, .slice A6 n7 c8] rfl cr rfl sz68 rfl rfl rfl fun dc cs ct => ?_
    have bq := bp.wr 0 rfl cs
    refine L_pu (P_assign (vb true) rfl) ?_
    refine L_nil ?_
    refine W_ret ?_
    have cu := bq.bgv ct 0 rfl
    have br := bq.drop 0 rfl
    exact ⟨[.agg #[vi a.Kind, .slice A6 n7 c8], vb true], ⟨_, _, rfl, cu.1.res rfl ag68 sz68, ⟨_, rfl, rfl⟩⟩, a, true, A6, n7, c8, rfl, H, br.gr.g0, (hp9.st br.st)⟩
   ·have H := ite_f H a2
    refine W_skip ?_
    refine W_seq ?_
    refine W_reg ?_
    have cv := ah.stn am
    have cw := (a1.st cv)
    refine L_pu (P_lda ag68 sz68 cL ⟨al, 0, none⟩ [vi a.Kind, .slice A6 n7 c8] rfl rfl (cw.cells (off := 0) rfl)) ?_
    have cx := (((an.k0 af).k0 ak).k0 am)
    refine L_stb ae 0 [vi 0, .slice none 0 0] [vi a.Kind, .slice A6 n7 c8] [vi a.Kind, .slice A6 n7 c8] rfl cx rfl sz68 rfl rfl rfl fun dd cy cz => ?_
    have bs := bp.wr 0 rfl cy
    refine L_pu (P_assign (vb false) rfl) ?_
    refine L_nil ?_
    refine W_ret ?_
    have c1 := bs.bgv cz 0 rfl
    have bt := bs.drop 0 rfl
    exact ⟨[.agg #[vi a.Kind, .slice A6 n7 c8], vb false], ⟨_, _, rfl, c1.1.res rfl ag68 sz68, ⟨_, rfl, rfl⟩⟩, a, false, A6, n7, c8, rfl, H, bt.gr.g0, (hp9.st bt.st)⟩
end Go.Proofs.Ytndjggncgpjolaa

namespace Go.Proofs.Ytndjggncgpjolaa
open Go.RowKit
set_option linter.unusedVariables false
set_option linter.unusedSimpArgs false
def slices_Equal_Pt.E (s1 : List Pt) (s2 : List Pt) (Q : Bool → Prop) : Prop :=
 (if (s1.length : Int) != (s2.length : Int) then Q false else (∃ (I32 : Int → Prop) (mu33 : Int → Nat), I32 0 ∧ ∀ (v2 : Int), I32 v2 → (if decide (v2 < (s1.length : Int)) then ((0 : Int) ≤ v2 ∧ v2 < (s1.length : Int)) ∧ ((0 : Int) ≤ v2 ∧ v2 < (s2.length : Int)) ∧ (if !(eqPt (nth s1 v2) (nth s2 v2)) then Q false else (I64 (v2 + 1)) ∧ I32 (v2 + 1) ∧ mu33 (v2 + 1) < mu33 v2) else Q true)))
set_option maxHeartbeats 8000000 in
set_option maxRecDepth 100000 in
theorem slices_Equal_Pt.calls {O : Ob} (w0 : World) (hO : Ok w0 O) (s1 : List Pt) (A1 : Option Addr) (n2 c3 : Nat) (hp4 : Sl kPt w0 (Fr O) (.slice A1 n2 c3) s1) (s2 : List Pt) (A6 : Option Addr) (n7 c8 : Nat) (hp9 : Sl kPt w0 (Fr O) (.slice A6 n7 c8) s2) (Q : Bool → Prop) (h : slices_Equal_Pt.E s1 s2 Q) :
  Ret Try.prog 49 [.slice A1 n2 c3, .slice A6 n7 c8] w0 (fun v w' => ∃ (r0 : Bool), v = vb r0 ∧ Q r0 ∧ Gr w0 w' none) := by
 unfold slices_Equal_Pt.E at h
 have H := h
 clear h
 have hc0 := Ct.init hO
 refine Ret_enter Try.func49 rfl 26 rfl [.tmp 4] rfl rfl ?_
 refine W_seq ?_
 refine W_reg ?_
 refine L_pu (P_assign (vb false) rfl) ?_
 refine L_nil ?_
 refine W_seq ?_
 refine W_seq ?_
 refine W_reg ?_
 refine L_pu (P_move (.slice A1 n2 c3) rfl) ?_
 have a3 := hp4.le
 refine L_pu (P_len Try.underlying23 A1 n2 c3 hp4.len rfl) ?_
 refine L_pu (P_move (.slice A6 n7 c8) rfl) ?_
 have a4 := hp9.le
 refine L_pu (P_len Try.underlying23 A6 n7 c8 hp9.len rfl) ?_
 refine L_pu (P_cmp (s1.length : Int) (s2.length : Int) ((s1.length : Int) != (s2.length : Int)) rfl rfl rfl) ?_
 refine L_nil ?_
 refine W_cond ((s1.length : Int) != (s2.length : Int)) rfl (fun ab => ?_) (fun ab => ?_)
 ·have H := ite_t H ab
  refine W_seq ?_
  refine W_reg ?_
  refine L_pu (P_assign (vb false) rfl) ?_
  refine L_nil ?_
  refine W_ret ?_
  exact ⟨[vb false], ⟨_, rfl, rfl⟩, false, rfl, H, hc0.gr.g0⟩
 ·have H := ite_f H ab
  refine W_skip ?_
  refine W_seq ?_
  refine W_seq ?_
  refine W_reg ?_
  refine L_pu (P_move (.slice A1 n2 c3) rfl) ?_
  refine L_pu (P_len Try.underlying23 A1 n2 c3 hp4.len rfl) ?_
  refine L_pu (P_move (vi 0) rfl) ?_
  refine L_nil ?_
  refine W_block ?_
  obtain ⟨ap, aq, ac, H⟩ := H
  refine W_loop (α := Int) (fun (sv__ : Int) t aa => match sv__ with | v2 => ap v2 ∧ Has t [(0, .slice A1 n2 c3), (1, .slice A6 n7 c8), (12, vi (s1.length : Int)), (13, vi v2)] ∧ Ct [] w0 aa [] O ∧ Sl kPt aa (Fr ([] ++ O)) (.slice A1 n2 c3) s1 ∧ Sl kPt aa (Fr ([] ++ O)) (.slice A6 n7 c8) s2) (fun (sv__ : Int) => match sv__ with | v2 => aq v2) 0 ⟨ac, ⟨rfl, rfl, rfl, rfl, trivial⟩, hc0, hp4, hp9⟩ ?_
  rintro v2 _ aa ⟨ac, ar, ad, ae, af⟩
  obtain ⟨a5, rfl⟩ := Has.ins ar
  have H := H v2 ac
  refine W_seq ?_
  refine W_reg ?_
  refine L_pu (P_cmp v2 (s1.length : Int) (decide (v2 < (s1.length : Int))) rfl rfl rfl) ?_
  refine L_nil ?_
  refine W_seq ?_
  refine W_cond (decide (v2 < (s1.length : Int))) rfl (fun ag => ?_) (fun ag => ?_)
  ·have H := ite_t H ag
   refine W_skip ?_
   refine W_seq ?_
   refine W_block ?_
   refine W_seq ?_
   refine W_reg ?_
   refine L_pu (P_move (vi v2) rfl) ?_
   refine L_pu (P_assign (vi v2) rfl) ?_
   refine L_nil ?_
   refine W_seq ?_
   refine W_draw (fun x => Gr aa x none) (by kernel_rfl) (by kernel_rfl) (Gr.drew _) ?_
   refine Q_pu (P_move (.slice A1 n2 c3) rfl) ?_
   refine Q_pu (P_move (vi v2) rfl) ?_
   obtain ⟨ai, H⟩ := H
   obtain ⟨aj, a6, au, a7, av, aw⟩ := ae.get default (by decide) v2 ai
   obtain rfl := kPt.op av
   refine Q_pu (P_ia Try.underlying23 se23 A1 aj n2 c3 ae.len v2 rfl au rfl ai) ?_
   refine Q_pu (P_lda ag29 sz29 cQ (aj.add (v2.toNat * 2)) [vi ((nth s1 v2).X), vi ((nth s1 v2).Y)] rfl rfl aw) ?_
   refine Q_pu (P_move (.slice A6 n7 c8) rfl) ?_
   refine Q_pu (P_move (vi v2) rfl) ?_
   obtain ⟨ak, H⟩ := H
   obtain ⟨al, a8, ax, a9, ay, az⟩ := af.get default (by decide) v2 ak
   obtain rfl := kPt.op ay
   refine Q_pu (P_ia Try.underlying23 se23 A6 al n7 c8 af.len v2 rfl ax rfl ak) ?_
   refine Q_pu (P_lda ag29 sz29 cQ (al.add (v2.toNat * 2)) [vi ((nth s2 v2).X), vi ((nth s2 v2).Y)] rfl rfl az) ?_
   refine Q_pu (P_ne _ _ (eqPt (nth s1 v2) (nth s2 v2)) (qt29 (nth s1 v2) (nth s2 v2)) rfl rfl) ?_
   refine Q_nil fun ba am => ?_
   have an := ad.k0 am
   refine W_cond (!(eqPt (nth s1 v2) (nth s2 v2))) rfl (fun ah => ?_) (fun ah => ?_)
   ·have H := ite_t H ah
    refine W_seq ?_
    refine W_reg ?_
    refine L_pu (P_assign (vb false) rfl) ?_
    refine L_nil ?_
    refine W_ret ?_
    exact ⟨[vb false], ⟨_, rfl, rfl⟩, false, rfl, H, an.gr.g0⟩
   ·have H := ite_f H ah
    refine W_skip ?_
    refine W_reg ?_
    obtain ⟨a0, H⟩ := H
    refine L_pu (P_add v2 1 rfl rfl a0) ?_
    refine L_pu (P_move (vi (v2 + 1)) rfl) ?_
    refine L_nil ?_
    obtain ⟨a1, a2⟩ := H
    have ao := ad.stn am
    exact ⟨v2 + 1, a2, a1, ⟨rfl, rfl, rfl, rfl, trivial⟩, an, (ae.st ao), (af.st ao)⟩
  ·have H := ite_f H ag
   refine W_exit (xin_hit ?_)
   refine W_seq ?_
   refine W_reg ?_
   refine L_pu (P_assign (vb true) rfl) ?_
   refine L_nil ?_
   refine W_ret ?_
   exact ⟨[vb true], ⟨_, rfl, rfl⟩, true, rfl, H, ad.gr.g0⟩
end Go.Proofs.Ytndjggncgpjolaa

namespace Go.Proofs.Ytndjggncgpjolaa
open Go.RowKit
set_option linter.unusedVariables false
set_option linter.unusedSimpArgs false
def impl_ShapeSame.E (a : Shape) (b : Shape) (Q : Bool → Prop) : Prop :=
 (if a.Kind == b.Kind then slices_Equal_Pt.E a.Pts b.Pts (fun r => Q r) else Q false)
set_option maxHeartbeats 8000000 in
set_option maxRecDepth 100000 in
theorem impl_ShapeSame.calls {O : Ob} (w0 : World) (hO : Ok w0 O) (a : Shape) (A1 : Option Addr) (n2 c3 : Nat) (hp4 : Sl kPt w0 (Fr O) (.slice A1 n2 c3) a.Pts) (b : Shape) (A6 : Option Addr) (n7 c8 : Nat) (hp9 : Sl kPt w0 (Fr O) (.slice A6 n7 c8) b.Pts) (Q : Bool → Prop) (h : impl_ShapeSame.E a b Q) :
  Ret Try.prog 95 [.agg #[vi a.Kind, .slice A1 n2 c3], .agg #[vi b.Kind, .slice A6 n7 c8]] w0 (fun v w' => ∃ (r0 : Bool), v = vb r0 ∧ Q r0 ∧ Gr w0 w' none) := by
 unfold impl_ShapeSame.E at h
 have H := h
 clear h
 have hc0 := Ct.init hO
 refine Ret_enter Try.func95 rfl 17 rfl [.tmp 4] rfl rfl ?_
 refine W_seq ?_
 refine W_reg ?_
 refine L_box [vi a.Kind, .slice A1 n2 c3] rfl fun au ab ai hu15 aj ak => ?_
 have al := Fb.mk hc0.ok ai ak
 have ae := hc0.k0 aj
 refine L_box [vi b.Kind, .slice A6 n7 c8] rfl fun am ac an hu24 af ao => ?_
 have ag := Fb.mk ae.ok an ao
 have ad := ae.k0 af
 refine L_pu (P_assign (vb false) rfl) ?_
 refine L_nil ?_
 refine W_seq ?_
 refine W_reg ?_
 refine L_pu (P_fa fa68_0 ⟨ab, 0, none⟩ ⟨ab, 0, none⟩ rfl rfl) ?_
 have ap := ae.stn af
 have ah := (al.st ap)
 refine L_pu (P_ld ag3 cL ⟨ab, 0, none⟩ (vi a.Kind) rfl (ah.cell rfl)) ?_
 refine L_pu (P_fa fa68_0 ⟨ac, 0, none⟩ ⟨ac, 0, none⟩ rfl rfl) ?_
 refine L_pu (P_ld ag3 cL ⟨ac, 0, none⟩ (vi b.Kind) rfl (ag.cell rfl)) ?_
 refine L_pu (P_cmp a.Kind b.Kind (a.Kind == b.Kind) rfl rfl rfl) ?_
 refine L_pu (P_move (vb (a.Kind == b.Kind)) rfl) ?_
 rcases bool_or (a.Kind == b.Kind) with aa | aa
 ·have H := ite_t H aa
  refine L_run (dj := 10) rfl rfl (by exact congrArg Value.bool aa) ?_
  refine L_pu (P_fa fa68_1 ⟨ab, 0, none⟩ ⟨ab, 1, none⟩ rfl rfl) ?_
  refine L_run (dj := 10) rfl rfl (by exact congrArg Value.bool aa) ?_
  refine L_pu (P_ld ag23 cL ⟨ab, 1, none⟩ (.slice A1 n2 c3) rfl (ah.cell rfl)) ?_
  refine L_run (dj := 10) rfl rfl (by exact congrArg Value.bool aa) ?_
  refine L_pu (P_fa fa68_1 ⟨ac, 0, none⟩ ⟨ac, 1, none⟩ rfl rfl) ?_
  refine L_run (dj := 10) rfl rfl (by exact congrArg Value.bool aa) ?_
  refine L_pu (P_ld ag23 cL ⟨ac, 1, none⟩ (.slice A6 n7 c8) rfl (ag.cell rfl)) ?_
  refine L_run (dj := 10) rfl rfl (by exact congrArg Value.bool aa) ?_
  refine L_call go49 [.slice A1 n2 c3, .slice A6 n7 c8] rfl ((slices_Equal_Pt.calls am ad.ok a.Pts A1 n2 c3 (hp4.st ad.st) b.Pts A6 n7 c8 (hp9.st ad.st) _ H).mono ?_)
  rintro _ av ⟨r, rfl, H, aq⟩
  have ar := ad.k0 aq
  refine L_pu (P_pick true (vb r) (by exact congrArg Value.bool aa) rfl) ?_
  refine L_pu (P_assign (vb r) rfl) ?_
  refine L_nil ?_
  refine W_ret ?_
  exact ⟨[vb r], ⟨_, rfl, rfl⟩, r, rfl, H, ar.gr.g0⟩
 ·have H := ite_f H aa
  refine L_pass (dj := 10) rfl rfl (.inl (by exact congrArg Value.bool aa)) ?_
  refine L_pass (dj := 10) rfl rfl (.inl (by exact congrArg Value.bool aa)) ?_
  refine L_pass (dj := 10) rfl rfl (.inl (by exact congrArg Value.bool aa)) ?_
  refine L_pass (dj := 10) rfl rfl (.inl (by exact congrArg Value.bool aa)) ?_
  refine L_pass (dj := 10) rfl rfl (.inl (by exact congrArg Value.bool aa)) ?_
  refine L_pu (P_pick false (vb false) (by exact congrArg Value.bool aa) rfl) ?_
  refine L_pu (P_assign (vb false) rfl) ?_
  refine L_nil ?_
  refine W_ret ?_
  exact ⟨[vb false], ⟨_, rfl, rfl⟩, false, rfl, H, ad.gr.g0⟩
end Go.Proofs.Ytndjggncgpjolaa

namespace Go.Proofs.Ytndjggncgpjolaa
open Go.RowKit
set_option linter.unusedVariables false
set_option linter.unusedSimpArgs false
def impl_lengths.E (a : List Pt) (b : List Pt) (Q : List (List Int) → Prop) : Prop :=
 ((a.length : Int) ≤ 9223372036854775807 → I64 ((a.length : Int) + 1)) ∧ ((0 : Int) ≤ (a.length : Int) + 1 ∧ (a.length : Int) + 1 ≤ (268435456 : Int)) ∧ (∃ (I59 : (List (List Int)) → Int → Prop) (mu60 : (List (List Int)) → Int → Nat), I59 (List.replicate ((a.length : Int) + 1).toNat ([] : List Int)) 0 ∧ ∀ (xs2 : List (List Int)) (v2 : Int), I59 xs2 v2 → (if decide (v2 < ((List.replicate ((a.length : Int) + 1).toNat ([] : List Int)).length : Int)) then ((b.length : Int) ≤ 9223372036854775807 → I64 ((b.length : Int) + 1)) ∧ ((0 : Int) ≤ (b.length : Int) + 1 ∧ (b.length : Int) + 1 ≤ (268435456 : Int)) ∧ ((0 : Int) ≤ v2 ∧ v2 < (xs2.length : Int)) ∧ ((b.length : Int) ≤ 9223372036854775807 → I64 (v2 + 1)) ∧ I59 (xs2.set v2.toNat (List.replicate ((b.length : Int) + 1).toNat (0 : Int))) (v2 + 1) ∧ mu60 (xs2.set v2.toNat (List.replicate ((b.length : Int) + 1).toNat (0 : Int))) (v2 + 1) < mu60 xs2 v2 else ((a.length : Int) ≤ 9223372036854775807 → I64 ((a.length : Int) - 1)) ∧ (∃ (I147 : (List (List Int)) → Int → Prop) (mu148 : (List (List Int)) → Int → Nat), I147 xs2 ((a.length : Int) - 1) ∧ ∀ (xs4 : List (List Int)) (i2 : Int), I147 xs4 i2 → (if decide (i2 ≥ 0) then ((b.length : Int) ≤ 9223372036854775807 → I64 ((b.length : Int) - 1)) ∧ (∃ (I189 : (List (List Int)) → Int → Prop) (mu190 : (List (List Int)) → Int → Nat), I189 xs4 ((b.length : Int) - 1) ∧ ∀ (xs6 : List (List Int)) (j2 : Int), I189 xs6 j2 → (if decide (j2 ≥ 0) then ((0 : Int) ≤ i2 ∧ i2 < (a.length : Int)) ∧ ((0 : Int) ≤ j2 ∧ j2 < (b.length : Int)) ∧ (if eqPt (nth a i2) (nth b j2) then ((0 : Int) ≤ i2 ∧ i2 < (xs6.length : Int)) ∧ (I64 (i2 + 1)) ∧ ((0 : Int) ≤ i2 + 1 ∧ i2 + 1 < (xs6.length : Int)) ∧ (I64 (j2 + 1)) ∧ ((0 : Int) ≤ j2 + 1 ∧ j2 + 1 < ((nth xs6 (i2 + 1)).length : Int)) ∧ (I64 ((nth (nth xs6 (i2 + 1)) (j2 + 1)) + 1)) ∧ ((0 : Int) ≤ j2 ∧ j2 < ((nth xs6 i2).length : Int)) ∧ (I64 (j2 - 1)) ∧ I189 (xs6.set i2.toNat ((nth xs6 i2).set j2.toNat ((nth (nth xs6 (i2 + 1)) (j2 + 1)) + 1))) (j2 - 1) ∧ mu190 (xs6.set i2.toNat ((nth xs6 i2).set j2.toNat ((nth (nth xs6 (i2 + 1)) (j2 + 1)) + 1))) (j2 - 1) < mu190 xs6 j2 else ((0 : Int) ≤ i2 ∧ i2 < (xs6.length : Int)) ∧ (I64 (i2 + 1)) ∧ ((0 : Int) ≤ i2 + 1 ∧ i2 + 1 < (xs6.length : Int)) ∧ ((0 : Int) ≤ j2 ∧ j2 < ((nth xs6 (i2 + 1)).length : Int)) ∧ ((0 : Int) ≤ i2 ∧ i2 < (xs6.length : Int)) ∧ (I64 (j2 + 1)) ∧ ((0 : Int) ≤ j2 + 1 ∧ j2 + 1 < ((nth xs6 i2).length : Int)) ∧ ((0 : Int) ≤ j2 ∧ j2 < ((nth xs6 i2).length : Int)) ∧ (I64 (j2 - 1)) ∧ I189 (xs6.set i2.toNat ((nth xs6 i2).set j2.toNat (max (nth (nth xs6 (i2 + 1)) j2) (nth (nth xs6 i2) (j2 + 1))))) (j2 - 1) ∧ mu190 (xs6.set i2.toNat ((nth xs6 i2).set j2.toNat (max (nth (nth xs6 (i2 + 1)) j2) (nth (nth xs6 i2) (j2 + 1))))) (j2 - 1) < mu190 xs6 j2) else (I64 (i2 - 1)) ∧ I147 xs6 (i2 - 1) ∧ mu148 xs6 (i2 - 1) < mu148 xs4 i2)) else Q xs4))))
set_option maxHeartbeats 8000000 in
set_option maxRecDepth 100000 in
theorem impl_lengths.calls {O : Ob} (w0 : World) (hO : Ok w0 O) (a : List Pt) (A1 : Option Addr) (n2 c3 : Nat) (hp4 : Sl kPt w0 (Fr O) (.slice A1 n2 c3) a) (b : List Pt) (A6 : Option Addr) (n7 c8 : Nat) (hp9 : Sl kPt w0 (Fr O) (.slice A6 n7 c8) b) (Q : List (List Int) → Prop) (h : impl_lengths.E a b Q) :
  Ret Try.prog 108 [.slice A1 n2 c3, .slice A6 n7 c8] w0 (fun v w' => ∃ (r0 : List (List Int)) (A0 : Option Addr) (n0 c0 : Nat), v = .slice A0 n0 c0 ∧ Q r0 ∧ Gr w0 w' none ∧ Sl (Kd.sl (Kd.int .i64)) w' (Fr O) (.slice A0 n0 c0) r0) := by
 unfold impl_lengths.E at h
 have H := h
 clear h
 have hc0 := Ct.init hO
 refine Ret_enter Try.func108 rfl 89 rfl [.tmp 4] rfl rfl ?_
 refine W_seq ?_
 refine W_reg ?_
 refine L_pu (P_assign (.slice none 0 0) rfl) ?_
 refine L_nil ?_
 refine W_seq ?_
 refine W_reg ?_
 refine L_pu (P_move (.slice A1 n2 c3) rfl) ?_
 have dk := hp4.le
 refine L_pu (P_len Try.underlying23 A1 n2 c3 hp4.len rfl) ?_
 obtain ⟨dl, H⟩ := H
 have dm := dl (len_le dk)
 refine L_pu (P_add (a.length : Int) 1 rfl rfl dm) ?_
 obtain ⟨dn, H⟩ := H
 refine L_make (kd := Kd.raw) ei145 hc0 (.slice none 0 0 : Value) ⟨rfl, rfl⟩ ((a.length : Int) + 1) rfl rfl dn fun dp ad ae af f6 hr20 dq dr => ?_
 have a2 : Tb (Kd.int .i64) 89 3 dp _ _ _ (List.replicate ((a.length : Int) + 1).toNat []) := dr.nones
 have a3 := dq.nones ((a.length : Int) + 1).toNat
 refine L_pu (P_assign (.slice ad ae af) rfl) ?_
 refine L_nil ?_
 refine W_seq ?_
 refine W_seq ?_
 refine W_reg ?_
 refine L_pu (P_move (.slice ad ae af) rfl) ?_
 have f7 := a2.le
 refine L_pu (P_len Try.underlying145 ad ae af a2.len rfl) ?_
 refine L_pu (P_move (vi 0) rfl) ?_
 refine L_nil ?_
 refine W_block ?_
 obtain ⟨ds, dt, a4, H⟩ := H
 refine W_loop (α := (List (List Int)) × (List Value) × Int) (fun (sv__ : (List (List Int)) × (List Value) × Int) t ap => match sv__ with | (xs2, ag, v2) => ds xs2 v2 ∧ Has t [(0, .slice A1 n2 c3), (1, .slice A6 n7 c8), (5, .slice ad ae af), (14, vi ((List.replicate ((a.length : Int) + 1).toNat ([] : List Int)).length : Int)), (15, vi v2)] ∧ Ct [] w0 ap (blk (.slice ad ae af) :: (ag).map blk) O ∧ Sl kPt ap (Fr ((blk (.slice ad ae af) :: (ag).map blk) ++ O)) (.slice A1 n2 c3) a ∧ Sl kPt ap (Fr ((blk (.slice ad ae af) :: (ag).map blk) ++ O)) (.slice A6 n7 c8) b ∧ Tb (Kd.int .i64) 89 3 ap ((blk (.slice ad ae af) :: (ag).map blk) ++ O) (.slice ad ae af) ag xs2) (fun (sv__ : (List (List Int)) × (List Value) × Int) => match sv__ with | (xs2, _, v2) => dt xs2 v2) ((List.replicate ((a.length : Int) + 1).toNat ([] : List Int)), (List.replicate ((a.length : Int) + 1).toNat (Value.slice none 0 0)), 0) ⟨a4, ⟨rfl, rfl, rfl, rfl, rfl, trivial⟩, a3, (hp4.st a3.st), (hp9.st a3.st), a2⟩ ?_
 rintro ⟨xs2, ag, v2⟩ _ ap ⟨a4, du, a5, ax, ay, b0⟩
 obtain ⟨f8, rfl⟩ := Has.ins du
 have H := H xs2 v2 a4
 refine W_seq ?_
 refine W_reg ?_
 refine L_pu (P_cmp v2 ((List.replicate ((a.length : Int) + 1).toNat ([] : List Int)).length : Int) (decide (v2 < ((List.replicate ((a.length : Int) + 1).toNat ([] : List Int)).length : Int))) rfl rfl rfl) ?_
 refine L_nil ?_
 refine W_seq ?_
 refine W_cond (decide (v2 < ((List.replicate ((a.length : Int) + 1).toNat ([] : List Int)).length : Int))) rfl (fun a6 => ?_) (fun a6 => ?_)
 ·have H := ite_t H a6
  refine W_skip ?_
  refine W_seq ?_
  refine W_block ?_
  refine W_seq ?_
  refine W_reg ?_
  refine L_pu (P_move (vi v2) rfl) ?_
  refine L_pu (P_assign (vi v2) rfl) ?_
  refine L_nil ?_
  refine W_reg ?_
  refine L_pu (P_move (.slice ad ae af) rfl) ?_
  refine L_pu (P_move (vi v2) rfl) ?_
  refine L_pu (P_move (.slice A6 n7 c8) rfl) ?_
  have b1 := ay.le
  refine L_pu (P_len Try.underlying23 A6 n7 c8 ay.len rfl) ?_
  obtain ⟨dv, H⟩ := H
  have dw := dv (len_le b1)
  refine L_pu (P_add (b.length : Int) 1 rfl rfl dw) ?_
  obtain ⟨dx, H⟩ := H
  refine L_make (kd := (Kd.int .i64)) ei89 a5 (0 : Int) (rfl) ((b.length : Int) + 1) rfl rfl dx fun f9 ak al am b2 hr75 b3 dy => ?_
  obtain ⟨az, H⟩ := H
  have an := (b0.own _ b2 hr75)
  obtain ⟨b4, ga, gb, gc, a7, gd, ge, gf⟩ := an.get v2 az
  refine L_pu (P_ia Try.underlying145 se145 ad b4 ae af an.len v2 rfl a7 rfl az) ?_
  have a8 : (0 : Int) ≤ v2 ∧ v2 < ((ag).length : Int) := by rw [an.2.1]; exact az
  obtain ⟨gg, gh, dz, b5, d0⟩ := an.1.get (default : Value) (by decide) v2 a8
  obtain rfl := Option.some.inj (a7.symm.trans dz)
  refine L_ste0 ad ae af ag an.1 v2 a8 b4 a7 0 rfl [.slice ak al am] rfl sz89 rfl (.slice ak al am) _ [.slice ak al am] d0 (by rw [b5.1]; rfl) (by rw [b5.1]; rfl) ⟨rfl, rfl⟩ fun gi a9 d1 => ?_
  have d2 := Tb.sto (O := O) an b3 dy v2 az a9 d1
  have d3 := Ct.sto (u := .slice ak al am) b3 v2 a8 a9
  have b6 := St.sto (u := (.slice ak al am)) (vs := ag) (O := O) v2 a9
  refine L_nil ?_
  refine W_reg ?_
  obtain ⟨d4, H⟩ := H
  have d5 := d4 (len_le b1)
  refine L_pu (P_add v2 1 rfl rfl d5) ?_
  refine L_pu (P_move (vi (v2 + 1)) rfl) ?_
  refine L_nil ?_
  obtain ⟨d6, d7⟩ := H
  have b7 := a5.stown _ b2 hr75
  have d8 := ((ax.st b7).st b6)
  have d9 := ((ay.st b7).st b6)
  exact ⟨((xs2.set v2.toNat (List.replicate ((b.length : Int) + 1).toNat (0 : Int))), (ag.set v2.toNat (.slice ak al am)), v2 + 1), d7, d6, ⟨rfl, rfl, rfl, rfl, rfl, trivial⟩, d3, d8, d9, d2⟩
 ·have H := ite_f H a6
  refine W_exit (xin_hit ?_)
  refine W_seq ?_
  refine W_seq ?_
  refine W_reg ?_
  refine L_pu (P_move (.slice A1 n2 c3) rfl) ?_
  have ea := ax.le
  refine L_pu (P_len Try.underlying23 A1 n2 c3 ax.len rfl) ?_
  obtain ⟨eb, H⟩ := H
  have ec := eb (len_le ea)
  refine L_pu (P_sub (a.length : Int) 1 rfl rfl ec) ?_
  refine L_pu (P_assign (vi ((a.length : Int) - 1)) rfl) ?_
  refine L_nil ?_
  refine W_block ?_
  obtain ⟨ed, ee, ba, H⟩ := H
  refine W_loop (α := (List (List Int)) × (List Value) × (Option Addr) × Nat × Nat × Int) (fun (sv__ : (List (List Int)) × (List Value) × (Option Addr) × Nat × Nat × Int) t aq => match sv__ with | (xs4, ai, aa, ab, ac, i2) => ed xs4 i2 ∧ Has t [(0, .slice A1 n2 c3), (1, .slice A6 n7 c8), (5, .slice aa ab ac), (7, vi i2)] ∧ Ct [] w0 aq (blk (.slice aa ab ac) :: (ai).map blk) O ∧ Sl kPt aq (Fr ((blk (.slice aa ab ac) :: (ai).map blk) ++ O)) (.slice A1 n2 c3) a ∧ Sl kPt aq (Fr ((blk (.slice aa ab ac) :: (ai).map blk) ++ O)) (.slice A6 n7 c8) b ∧ Tb (Kd.int .i64) 89 3 aq ((blk (.slice aa ab ac) :: (ai).map blk) ++ O) (.slice aa ab ac) ai xs4) (fun (sv__ : (List (List Int)) × (List Value) × (Option Addr) × Nat × Nat × Int) => match sv__ with | (xs4, _, _, _, _, i2) => ee xs4 i2) (xs2, ag, ad, ae, af, (a.length : Int) - 1) ⟨ba, ⟨rfl, rfl, rfl, rfl, trivial⟩, a5, ax, ay, b0⟩ ?_
  rintro ⟨xs4, ai, aa, ab, ac, i2⟩ _ aq ⟨ba, ef, bb, eg, bc, b8⟩
  obtain ⟨gj, rfl⟩ := Has.ins ef
  have H := H xs4 i2 ba
  refine W_seq ?_
  refine W_seq ?_
  refine W_reg ?_
  refine L_pu (P_move (vi i2) rfl) ?_
  refine L_pu (P_cmp i2 0 (decide (i2 ≥ 0)) rfl rfl rfl) ?_
  refine L_nil ?_
  refine W_cond (decide (i2 ≥ 0)) rfl (fun bd => ?_) (fun bd => ?_)
  ·have H := ite_t H bd
   refine W_skip ?_
   refine W_seq ?_
   refine W_block ?_
   refine W_seq ?_
   refine W_reg ?_
   refine L_pu (P_move (.slice A6 n7 c8) rfl) ?_
   have eh := bc.le
   refine L_pu (P_len Try.underlying23 A6 n7 c8 bc.len rfl) ?_
   obtain ⟨ei, H⟩ := H
   have ej := ei (len_le eh)
   refine L_pu (P_sub (b.length : Int) 1 rfl rfl ej) ?_
   refine L_pu (P_assign (vi ((b.length : Int) - 1)) rfl) ?_
   refine L_nil ?_
   refine W_block ?_
   obtain ⟨ek, el, be, H⟩ := H
   refine W_loop (α := (List (List Int)) × (List Value) × Int) (fun (sv__ : (List (List Int)) × (List Value) × Int) t ao => match sv__ with | (xs6, ah, j2) => ek xs6 j2 ∧ Has t [(0, .slice A1 n2 c3), (1, .slice A6 n7 c8), (5, .slice aa ab ac), (7, vi i2), (8, vi j2)] ∧ Ct [] w0 ao (blk (.slice aa ab ac) :: (ah).map blk) O ∧ Sl kPt ao (Fr ((blk (.slice aa ab ac) :: (ah).map blk) ++ O)) (.slice A1 n2 c3) a ∧ Sl kPt ao (Fr ((blk (.slice aa ab ac) :: (ah).map blk) ++ O)) (.slice A6 n7 c8) b ∧ Tb (Kd.int .i64) 89 3 ao ((blk (.slice aa ab ac) :: (ah).map blk) ++ O) (.slice aa ab ac) ah xs6) (fun (sv__ : (List (List Int)) × (List Value) × Int) => match sv__ with | (xs6, _, j2) => el xs6 j2) (xs4, ai, (b.length : Int) - 1) ⟨be, ⟨rfl, rfl, rfl, rfl, rfl, trivial⟩, bb, eg, bc, b8⟩ ?_
   rintro ⟨xs6, ah, j2⟩ _ ao ⟨be, em, a0, ar, au, bf⟩
   obtain ⟨gk, rfl⟩ := Has.ins em
   have H := H xs6 j2 be
   refine W_seq ?_
   refine W_seq ?_
   refine W_reg ?_
   refine L_pu (P_move (vi j2) rfl) ?_
   refine L_pu (P_cmp j2 0 (decide (j2 ≥ 0)) rfl rfl rfl) ?_
   refine L_nil ?_
   refine W_cond (decide (j2 ≥ 0)) rfl (fun bg => ?_) (fun bg => ?_)
   ·have H := ite_t H bg
    refine W_skip ?_
    refine W_seq ?_
    refine W_block ?_
    refine W_seq ?_
    refine W_draw (fun x => Gr ao x none) (by kernel_rfl) (by kernel_rfl) (Gr.drew _) ?_
    refine Q_pu (P_move (.slice A1 n2 c3) rfl) ?_
    refine Q_pu (P_move (vi i2) rfl) ?_
    obtain ⟨b9, H⟩ := H
    obtain ⟨ca, gl, en, gm, eo, ep⟩ := ar.get default (by decide) i2 b9
    obtain rfl := kPt.op eo
    refine Q_pu (P_ia Try.underlying23 se23 A1 ca n2 c3 ar.len i2 rfl en rfl b9) ?_
    refine Q_pu (P_lda ag29 sz29 cQ (ca.add (i2.toNat * 2)) [vi ((nth a i2).X), vi ((nth a i2).Y)] rfl rfl ep) ?_
    refine Q_pu (P_move (.slice A6 n7 c8) rfl) ?_
    refine Q_pu (P_move (vi j2) rfl) ?_
    obtain ⟨cb, H⟩ := H
    obtain ⟨cc, gn, eq, gp, er, es⟩ := au.get default (by decide) j2 cb
    obtain rfl := kPt.op er
    refine Q_pu (P_ia Try.underlying23 se23 A6 cc n7 c8 au.len j2 rfl eq rfl cb) ?_
    refine Q_pu (P_lda ag29 sz29 cQ (cc.add (j2.toNat * 2)) [vi ((nth b j2).X), vi ((nth b j2).Y)] rfl rfl es) ?_
    refine Q_pu (P_eq _ _ (eqPt (nth a i2) (nth b j2)) (qt29 (nth a i2) (nth b j2)) rfl rfl) ?_
    refine Q_nil fun gq av => ?_
    have a1 := a0.k0 av
    refine W_cond (eqPt (nth a i2) (nth b j2)) rfl (fun bh => ?_) (fun bh => ?_)
    ·have H := ite_t H bh
     refine W_tail 16 (by kernel_rfl) (by kernel_rfl) fun gs bi => ?_
     have cd := a1.k0 bi
     refine S_pu (P_move (.slice aa ab ac) rfl) ?_
     refine S_pu (P_move (vi i2) rfl) ?_
     obtain ⟨ce, H⟩ := H
     have aw := ((bf.k0 av).k0 bi)
     obtain ⟨cf, bj, bl, bm, et, bn, eu, bo⟩ := aw.get i2 ce
     refine S_pu (P_ia Try.underlying145 se145 aa cf ab ac aw.len i2 rfl et rfl ce) ?_
     refine S_pu (P_ld ag89 cL (cf.add (i2.toNat * 1)) (.slice bj bl bm) rfl (eu 0 _ rfl)) ?_
     refine S_pu (P_move (vi j2) rfl) ?_
     refine S_pu (P_move (.slice aa ab ac) rfl) ?_
     refine S_pu (P_move (vi i2) rfl) ?_
     obtain ⟨ev, H⟩ := H
     refine S_pu (P_add i2 1 rfl rfl ev) ?_
     obtain ⟨cg, H⟩ := H
     obtain ⟨ch, ci, cj, ck, ew, gt, ex, cl⟩ := aw.get (i2 + 1) cg
     refine S_pu (P_ia Try.underlying145 se145 aa ch ab ac aw.len (i2 + 1) rfl ew rfl cg) ?_
     refine S_pu (P_ld ag89 cL (ch.add ((i2 + 1).toNat * 1)) (.slice ci cj ck) rfl (ex 0 _ rfl)) ?_
     refine S_pu (P_move (vi j2) rfl) ?_
     obtain ⟨ey, H⟩ := H
     refine S_pu (P_add j2 1 rfl rfl ey) ?_
     obtain ⟨cm, H⟩ := H
     obtain ⟨cn, gu, ez, e0, e1⟩ := cl.get default (by decide) (j2 + 1) cm
     obtain rfl := Kd.int.op e0
     refine S_pu (P_ia Try.underlying89 se89 ci cn cj ck cl.len (j2 + 1) rfl ez rfl cm) ?_
     refine S_pu (P_ld ag3 cL (cn.add ((j2 + 1).toNat * 1)) (vi (nth (nth xs6 (i2 + 1)) (j2 + 1))) rfl (e1 0 _ rfl)) ?_
     obtain ⟨e2, H⟩ := H
     refine S_pu (P_add (nth (nth xs6 (i2 + 1)) (j2 + 1)) 1 rfl rfl e2) ?_
     obtain ⟨bp, H⟩ := H
     obtain ⟨co, gv, cp, e3, e4⟩ := bo.get default (by decide) j2 bp
     obtain rfl := Kd.int.op e3
     refine S_pu (P_ia Try.underlying89 se89 bj co bl bm bo.len j2 rfl cp rfl bp) ?_
     refine S_nil ?_
     refine L_ste0 bj bl bm (nth xs6 i2) bo j2 bp co cp 0 rfl [vi ((nth (nth xs6 (i2 + 1)) (j2 + 1)) + 1)] rfl sz3 rfl ((nth (nth xs6 (i2 + 1)) (j2 + 1)) + 1) [vi (nth (nth xs6 i2) j2)] [vi ((nth (nth xs6 (i2 + 1)) (j2 + 1)) + 1)] e4 rfl rfl rfl fun gw bq e5 => ?_
     have e6 := Tb.ste (O := O) aw cd bn bq e5
     have e7 := Ct.tb cd bn bq
     have cq := St.tb (v := .slice aa ab ac) (O := O) ⟨_, bn⟩ bq
     refine L_nil ?_
     refine W_reg ?_
     refine L_pu (P_move (vi j2) rfl) ?_
     obtain ⟨e8, H⟩ := H
     refine L_pu (P_sub j2 1 rfl rfl e8) ?_
     refine L_pu (P_assign (vi (j2 - 1)) rfl) ?_
     refine L_nil ?_
     obtain ⟨e9, fa⟩ := H
     have cr := a0.stn av
     have cs := a1.stn bi
     have fb := (((ar.st cr).st cs).st cq)
     have fc := (((au.st cr).st cs).st cq)
     exact ⟨((xs6.set i2.toNat ((nth xs6 i2).set j2.toNat ((nth (nth xs6 (i2 + 1)) (j2 + 1)) + 1))), ah, j2 - 1), fa, e9, ⟨rfl, rfl, rfl, rfl, rfl, trivial⟩, e7, fb, fc, e6⟩
    ·have H := ite_f H bh
     refine W_tail 23 (by kernel_rfl) (by kernel_rfl) fun gx br => ?_
     have ct := a1.k0 br
     refine S_pu (P_move (.slice aa ab ac) rfl) ?_
     refine S_pu (P_move (vi i2) rfl) ?_
     obtain ⟨cu, H⟩ := H
     have aj := ((bf.k0 av).k0 br)
     obtain ⟨cv, bs, bt, bu, fd, bv, fe, bw⟩ := aj.get i2 cu
     refine S_pu (P_ia Try.underlying145 se145 aa cv ab ac aj.len i2 rfl fd rfl cu) ?_
     refine S_pu (P_ld ag89 cL (cv.add (i2.toNat * 1)) (.slice bs bt bu) rfl (fe 0 _ rfl)) ?_
     refine S_pu (P_move (vi j2) rfl) ?_
     refine S_pu (P_move (.slice aa ab ac) rfl) ?_
     refine S_pu (P_move (vi i2) rfl) ?_
     obtain ⟨ff, H⟩ := H
     refine S_pu (P_add i2 1 rfl rfl ff) ?_
     obtain ⟨cw, H⟩ := H
     obtain ⟨cx, cy, cz, c1, fg, gy, fh, c2⟩ := aj.get (i2 + 1) cw
     refine S_pu (P_ia Try.underlying145 se145 aa cx ab ac aj.len (i2 + 1) rfl fg rfl cw) ?_
     refine S_pu (P_ld ag89 cL (cx.add ((i2 + 1).toNat * 1)) (.slice cy cz c1) rfl (fh 0 _ rfl)) ?_
     refine S_pu (P_move (vi j2) rfl) ?_
     obtain ⟨c4, H⟩ := H
     obtain ⟨c5, gz, fi, fj, fk⟩ := c2.get default (by decide) j2 c4
     obtain rfl := Kd.int.op fj
     refine S_pu (P_ia Try.underlying89 se89 cy c5 cz c1 c2.len j2 rfl fi rfl c4) ?_
     refine S_pu (P_ld ag3 cL (c5.add (j2.toNat * 1)) (vi (nth (nth xs6 (i2 + 1)) j2)) rfl (fk 0 _ rfl)) ?_
     refine S_pu (P_move (.slice aa ab ac) rfl) ?_
     refine S_pu (P_move (vi i2) rfl) ?_
     obtain ⟨c6, H⟩ := H
     obtain ⟨c7, c9, da, db, fl, g1, fm, dc⟩ := aj.get i2 c6
     refine S_pu (P_ia Try.underlying145 se145 aa c7 ab ac aj.len i2 rfl fl rfl c6) ?_
     refine S_pu (P_ld ag89 cL (c7.add (i2.toNat * 1)) (.slice c9 da db) rfl (fm 0 _ rfl)) ?_
     refine S_pu (P_move (vi j2) rfl) ?_
     obtain ⟨fn, H⟩ := H
     refine S_pu (P_add j2 1 rfl rfl fn) ?_
     obtain ⟨dd, H⟩ := H
     obtain ⟨de, g2, fo, fp, fq⟩ := dc.get default (by decide) (j2 + 1) dd
     obtain rfl := Kd.int.op fp
     refine S_pu (P_ia Try.underlying89 se89 c9 de da db dc.len (j2 + 1) rfl fo rfl dd) ?_
     refine S_pu (P_ld ag3 cL (de.add ((j2 + 1).toNat * 1)) (vi (nth (nth xs6 i2) (j2 + 1))) rfl (fq 0 _ rfl)) ?_
     refine S_pu (P_max (nth (nth xs6 (i2 + 1)) j2) (nth (nth xs6 i2) (j2 + 1)) rfl rfl) ?_
     obtain ⟨bx, H⟩ := H
     obtain ⟨df, g3, dg, fr, fs⟩ := bw.get default (by decide) j2 bx
     obtain rfl := Kd.int.op fr
     refine S_pu (P_ia Try.underlying89 se89 bs df bt bu bw.len j2 rfl dg rfl bx) ?_
     refine S_nil ?_
     refine L_ste0 bs bt bu (nth xs6 i2) bw j2 bx df dg 0 rfl [vi (max (nth (nth xs6 (i2 + 1)) j2) (nth (nth xs6 i2) (j2 + 1)))] rfl sz3 rfl (max (nth (nth xs6 (i2 + 1)) j2) (nth (nth xs6 i2) (j2 + 1))) [vi (nth (nth xs6 i2) j2)] [vi (max (nth (nth xs6 (i2 + 1)) j2) (nth (nth xs6 i2) (j2 + 1)))] fs rfl rfl rfl fun g4 bz ft => ?_
     have fu := Tb.ste (O := O) aj ct bv bz ft
     have fv := Ct.tb ct bv bz
     have dh := St.tb (v := .slice aa ab ac) (O := O) ⟨_, bv⟩ bz
     refine L_nil ?_
     refine W_reg ?_
     refine L_pu (P_move (vi j2) rfl) ?_
     obtain ⟨fw, H⟩ := H
     refine L_pu (P_sub j2 1 rfl rfl fw) ?_
     refine L_pu (P_assign (vi (j2 - 1)) rfl) ?_
     refine L_nil ?_
     obtain ⟨fx, fy⟩ := H
     have di := a0.stn av
     have dj := a1.stn br
     have fz := (((ar.st di).st dj).st dh)
     have f0 := (((au.st di).st dj).st dh)
     exact ⟨((xs6.set i2.toNat ((nth xs6 i2).set j2.toNat (max (nth (nth xs6 (i2 + 1)) j2) (nth (nth xs6 i2) (j2 + 1))))), ah, j2 - 1), fy, fx, ⟨rfl, rfl, rfl, rfl, rfl, trivial⟩, fv, fz, f0, fu⟩
   ·have H := ite_f H bg
    refine W_exit (xin_hit ?_)
    refine W_reg ?_
    refine L_pu (P_move (vi i2) rfl) ?_
    obtain ⟨f1, H⟩ := H
    refine L_pu (P_sub i2 1 rfl rfl f1) ?_
    refine L_pu (P_assign (vi (i2 - 1)) rfl) ?_
    refine L_nil ?_
    obtain ⟨f2, f3⟩ := H
    exact ⟨(xs6, ah, aa, ab, ac, i2 - 1), f3, f2, ⟨rfl, rfl, rfl, rfl, trivial⟩, a0, ar, au, bf⟩
  ·have H := ite_f H bd
   refine W_exit (xin_hit ?_)
   refine W_seq ?_
   refine W_reg ?_
   refine L_pu (P_move (.slice aa ab ac) rfl) ?_
   refine L_pu (P_assign (.slice aa ab ac) rfl) ?_
   refine L_nil ?_
   refine W_ret ?_
   have f4 := b8.sl bb
   have f5 := bb.clear
   exact ⟨[.slice aa ab ac], ⟨_, rfl, rfl⟩, xs4, aa, ab, ac, rfl, H, f5.gr.g0, f4⟩
end Go.Proofs.Ytndjggncgpjolaa

namespace Go.Proofs.Ytndjggncgpjolaa
open Go.RowKit
set_option linter.unusedVariables false
set_option linter.unusedSimpArgs false
def impl_SeqPairs.E (a : List Pt) (b : List Pt) (Q : List Pair → Prop) : Prop :=
 (if decide ((a.length : Int) > 12) then Q ([] : List Pair) else (if decide ((b.length : Int) > 12) then Q ([] : List Pair) else impl_lengths.E a b (fun r => (∃ (I71 : (List Pair) → Int → Int → Prop) (mu72 : (List Pair) → Int → Int → Nat), I71 ([] : List Pair) 0 0 ∧ ∀ (xs2 : List Pair) (i2 : Int) (j2 : Int), I71 xs2 i2 j2 → (if decide (i2 < (a.length : Int)) then (if decide (j2 < (b.length : Int)) then ((0 : Int) ≤ i2 ∧ i2 < (a.length : Int)) ∧ ((0 : Int) ≤ j2 ∧ j2 < (b.length : Int)) ∧ (if eqPt (nth a i2) (nth b j2) then (xs2.length + ([(⟨i2, j2⟩ : Pair)] : List Pair).length ≤ 268435456) ∧ (-9223372036854775808 ≤ i2) ∧ (-9223372036854775808 ≤ j2) ∧ I71 (xs2 ++ ([(⟨i2, j2⟩ : Pair)] : List Pair)) (i2 + 1) (j2 + 1) ∧ mu72 (xs2 ++ ([(⟨i2, j2⟩ : Pair)] : List Pair)) (i2 + 1) (j2 + 1) < mu72 xs2 i2 j2 else (-9223372036854775808 ≤ i2) ∧ ((0 : Int) ≤ i2 + 1 ∧ i2 + 1 < (r.length : Int)) ∧ ((0 : Int) ≤ j2 ∧ j2 < ((nth r (i2 + 1)).length : Int)) ∧ ((0 : Int) ≤ i2 ∧ i2 < (r.length : Int)) ∧ (-9223372036854775808 ≤ j2) ∧ ((0 : Int) ≤ j2 + 1 ∧ j2 + 1 < ((nth r i2).length : Int)) ∧ (if decide ((nth (nth r (i2 + 1)) j2) ≥ (nth (nth r i2) (j2 + 1))) then (-9223372036854775808 ≤ i2) ∧ I71 xs2 (i2 + 1) j2 ∧ mu72 xs2 (i2 + 1) j2 < mu72 xs2 i2 j2 else (-9223372036854775808 ≤ j2) ∧ I71 xs2 i2 (j2 + 1) ∧ mu72 xs2 i2 (j2 + 1) < mu72 xs2 i2 j2)) else Q xs2) else Q xs2)))))
set_option maxHeartbeats 8000000 in
set_option maxRecDepth 100000 in
theorem impl_SeqPairs.calls {O : Ob} (w0 : World) (hO : Ok w0 O) (a : List Pt) (A1 : Option Addr) (n2 c3 : Nat) (hp4 : Sl kPt w0 (Fr O) (.slice A1 n2 c3) a) (b : List Pt) (A6 : Option Addr) (n7 c8 : Nat) (hp9 : Sl kPt w0 (Fr O) (.slice A6 n7 c8) b) (Q : List Pair → Prop) (h : impl_SeqPairs.E a b Q) :
  Ret Try.prog 47 [.slice A1 n2 c3, .slice A6 n7 c8] w0 (fun v w' => ∃ (r0 : List Pair) (A0 : Option Addr) (n0 c0 : Nat), v = .slice A0 n0 c0 ∧ Q r0 ∧ Gr w0 w' none ∧ Ok w' ([bk A0] ++ O) ∧ (∀ b, some b ∈ [bk A0] → w0.heap.size ≤ b) ∧ Ow kPair 148 w' ([bk A0] ++ O) (.slice A0 n0 c0) r0) := by
 unfold impl_SeqPairs.E at h
 have H := h
 clear h
 have hc0 := Ct.init hO
 refine Ret_enter Try.func47 rfl 75 rfl [.tmp 4] rfl rfl ?_
 refine W_seq ?_
 refine W_reg ?_
 refine L_pu (P_assign (.slice none 0 0) rfl) ?_
 refine L_nil ?_
 refine W_seq ?_
 refine W_reg ?_
 refine L_lit (kd := kPair) ei86 hc0 ([] : List Pair) (cells := []) rfl (fun _ => by kernel_rfl) fun b6 ag ah ai d3 hr16 ae az => ?_
 refine L_pu (P_assign (.slice ag ah ai) rfl) ?_
 refine L_nil ?_
 refine W_seq ?_
 refine W_seq ?_
 refine W_reg ?_
 refine L_pu (P_move (.slice A1 n2 c3) rfl) ?_
 have d4 := (hp4.st ae.st).le
 refine L_pu (P_len Try.underlying23 A1 n2 c3 (hp4.st ae.st).len rfl) ?_
 refine L_pu (P_cmp (a.length : Int) 12 (decide ((a.length : Int) > 12)) rfl rfl rfl) ?_
 refine L_pu (P_move (vb (decide ((a.length : Int) > 12))) rfl) ?_
 rcases bool_or (decide ((a.length : Int) > 12)) with af | af
 ·have H := ite_t H af
  refine L_pass (dj := 13) rfl rfl (.inl (by exact congrArg Value.bool af)) ?_
  refine L_pass (dj := 13) rfl rfl (.inl (by exact congrArg Value.bool af)) ?_
  refine L_pass (dj := 13) rfl rfl (.inl (by exact congrArg Value.bool af)) ?_
  refine L_pu (P_pick true (vb true) (by exact congrArg Value.bool af) rfl) ?_
  refine L_nil ?_
  refine W_ct (b := true) rfl rfl ?_
  refine W_seq ?_
  refine W_reg ?_
  refine L_pu (P_move (.slice ag ah ai) rfl) ?_
  refine L_pu (P_assign (.slice ag ah ai) rfl) ?_
  refine L_nil ?_
  refine W_ret ?_
  exact ⟨[.slice ag ah ai], ⟨_, rfl, rfl⟩, ([] : List Pair), ag, ah, ai, rfl, H, ae.gr.g0, ae.ok, ae.ge, az⟩
 ·have H := ite_f H af
  refine L_run (dj := 13) rfl rfl (by exact congrArg Value.bool af) ?_
  refine L_pu (P_move (.slice A6 n7 c8) rfl) ?_
  refine L_run (dj := 13) rfl rfl (by exact congrArg Value.bool af) ?_
  have d5 := (hp9.st ae.st).le
  refine L_pu (P_len Try.underlying23 A6 n7 c8 (hp9.st ae.st).len rfl) ?_
  refine L_run (dj := 13) rfl rfl (by exact congrArg Value.bool af) ?_
  refine L_pu (P_cmp (b.length : Int) 12 (decide ((b.length : Int) > 12)) rfl rfl rfl) ?_
  refine L_pu (P_pick false (vb (decide ((b.length : Int) > 12))) (by exact congrArg Value.bool af) rfl) ?_
  refine L_nil ?_
  refine W_cond (decide ((b.length : Int) > 12)) rfl (fun a0 => ?_) (fun a0 => ?_)
  ·have H := ite_t H a0
   refine W_seq ?_
   refine W_reg ?_
   refine L_pu (P_move (.slice ag ah ai) rfl) ?_
   refine L_pu (P_assign (.slice ag ah ai) rfl) ?_
   refine L_nil ?_
   refine W_ret ?_
   exact ⟨[.slice ag ah ai], ⟨_, rfl, rfl⟩, ([] : List Pair), ag, ah, ai, rfl, H, ae.gr.g0, ae.ok, ae.ge, az⟩
  ·have H := ite_f H a0
   refine W_skip ?_
   refine W_seq ?_
   refine W_reg ?_
   refine L_pu (P_move (.slice A1 n2 c3) rfl) ?_
   refine L_pu (P_move (.slice A6 n7 c8) rfl) ?_
   refine L_call go108 [.slice A1 n2 c3, .slice A6 n7 c8] rfl ((impl_lengths.calls b6 ae.ok a A1 n2 c3 (hp4.st ae.st) b A6 n7 c8 (hp9.st ae.st) _ H).mono ?_)
   rintro _ d6 ⟨r, al, am, an, rfl, H, be, b7⟩
   have a1 := ae.k0 be
   refine L_pu (P_assign (.slice al am an) rfl) ?_
   refine L_nil ?_
   refine W_seq ?_
   refine W_seq ?_
   refine W_reg ?_
   refine L_pu (P_assign (vi 0) rfl) ?_
   refine L_pu (P_assign (vi 0) rfl) ?_
   refine L_nil ?_
   refine W_block ?_
   obtain ⟨b8, b9, a2, H⟩ := H
   have ca := (az.sn be)
   refine W_loop (α := (List Pair) × (Option Addr) × Nat × Nat × Int × Int) (fun (sv__ : (List Pair) × (Option Addr) × Nat × Nat × Int × Int) t ao => match sv__ with | (xs2, aa, ac, ad, i2, j2) => b8 xs2 i2 j2 ∧ Has t [(0, .slice A1 n2 c3), (1, .slice A6 n7 c8), (5, .slice aa ac ad), (6, .slice al am an), (7, vi i2), (8, vi j2)] ∧ Ct [] w0 ao [bk aa] O ∧ Sl kPt ao (Fr ([bk aa] ++ O)) (.slice A1 n2 c3) a ∧ Sl kPt ao (Fr ([bk aa] ++ O)) (.slice A6 n7 c8) b ∧ Sl (Kd.sl (Kd.int .i64)) ao (Fr ([bk aa] ++ O)) (.slice al am an) r ∧ Ow kPair 148 ao ([bk aa] ++ O) (.slice aa ac ad) xs2) (fun (sv__ : (List Pair) × (Option Addr) × Nat × Nat × Int × Int) => match sv__ with | (xs2, _, _, _, i2, j2) => b9 xs2 i2 j2) (([] : List Pair), ag, ah, ai, 0, 0) ⟨a2, ⟨rfl, rfl, rfl, rfl, rfl, rfl, trivial⟩, a1, (hp4.st a1.st), (hp9.st a1.st), b7, ca⟩ ?_
   rintro ⟨xs2, aa, ac, ad, i2, j2⟩ _ ao ⟨a2, cb, ak, ap, aq, ar, aw⟩
   obtain ⟨d7, rfl⟩ := Has.ins cb
   have H := H xs2 i2 j2 a2
   refine W_seq ?_
   refine W_seq ?_
   refine W_reg ?_
   refine L_pu (P_move (vi i2) rfl) ?_
   refine L_pu (P_move (.slice A1 n2 c3) rfl) ?_
   have a3 := ap.le
   refine L_pu (P_len Try.underlying23 A1 n2 c3 ap.len rfl) ?_
   refine L_pu (P_cmp i2 (a.length : Int) (decide (i2 < (a.length : Int))) rfl rfl rfl) ?_
   refine L_pu (P_move (vb (decide (i2 < (a.length : Int)))) rfl) ?_
   rcases bool_or (decide (i2 < (a.length : Int))) with ab | ab
   ·have H := ite_t H ab
    refine L_run (dj := 26) rfl rfl (by exact congrArg Value.bool ab) ?_
    refine L_pu (P_move (vi j2) rfl) ?_
    refine L_run (dj := 26) rfl rfl (by exact congrArg Value.bool ab) ?_
    refine L_pu (P_move (.slice A6 n7 c8) rfl) ?_
    refine L_run (dj := 26) rfl rfl (by exact congrArg Value.bool ab) ?_
    have a4 := aq.le
    refine L_pu (P_len Try.underlying23 A6 n7 c8 aq.len rfl) ?_
    refine L_run (dj := 26) rfl rfl (by exact congrArg Value.bool ab) ?_
    refine L_pu (P_cmp j2 (b.length : Int) (decide (j2 < (b.length : Int))) rfl rfl rfl) ?_
    refine L_pu (P_pick true (vb (decide (j2 < (b.length : Int)))) (by exact congrArg Value.bool ab) rfl) ?_
    refine L_nil ?_
    refine W_cond (decide (j2 < (b.length : Int))) rfl (fun au => ?_) (fun au => ?_)
    ·have H := ite_t H au
     refine W_skip ?_
     refine W_block ?_
     refine W_block ?_
     refine W_seq ?_
     refine W_draw (fun x => Gr ao x none) (by kernel_rfl) (by kernel_rfl) (Gr.drew _) ?_
     refine Q_pu (P_move (.slice A1 n2 c3) rfl) ?_
     refine Q_pu (P_move (vi i2) rfl) ?_
     obtain ⟨bf, H⟩ := H
     obtain ⟨bg, d8, cc, d9, cd, ce⟩ := ap.get default (by decide) i2 bf
     obtain rfl := kPt.op cd
     refine Q_pu (P_ia Try.underlying23 se23 A1 bg n2 c3 ap.len i2 rfl cc rfl bf) ?_
     refine Q_pu (P_lda ag29 sz29 cQ (bg.add (i2.toNat * 2)) [vi ((nth a i2).X), vi ((nth a i2).Y)] rfl rfl ce) ?_
     refine Q_pu (P_move (.slice A6 n7 c8) rfl) ?_
     refine Q_pu (P_move (vi j2) rfl) ?_
     obtain ⟨bh, H⟩ := H
     obtain ⟨bi, ea, cf, eb, cg, ch⟩ := aq.get default (by decide) j2 bh
     obtain rfl := kPt.op cg
     refine Q_pu (P_ia Try.underlying23 se23 A6 bi n7 c8 aq.len j2 rfl cf rfl bh) ?_
     refine Q_pu (P_lda ag29 sz29 cQ (bi.add (j2.toNat * 2)) [vi ((nth b j2).X), vi ((nth b j2).Y)] rfl rfl ch) ?_
     refine Q_pu (P_eq _ _ (eqPt (nth a i2) (nth b j2)) (qt29 (nth a i2) (nth b j2)) rfl rfl) ?_
     refine Q_pu (P_assign (vb (eqPt (nth a i2) (nth b j2))) rfl) ?_
     refine Q_nil fun ci av => ?_
     have ax := ak.k0 av
     refine W_cond (eqPt (nth a i2) (nth b j2)) rfl (fun a5 => ?_) (fun a5 => ?_)
     ·have H := ite_t H a5
      refine W_seq ?_
      refine W_reg ?_
      refine L_pu (P_move (.slice aa ac ad) rfl) ?_
      refine L_pu (P_move (vi i2) rfl) ?_
      refine L_pu (P_move (vi j2) rfl) ?_
      refine L_pu (P_build (.agg #[vi i2, vi j2]) (fun _ => by kernel_rfl)) ?_
      refine L_lit (kd := kPair) ei86 ax ([(⟨i2, j2⟩ : Pair)] : List Pair) (cells := [vi i2, vi j2]) ⟨[vi i2, vi j2], _, rfl, (kPair.mk _ _ (⟨i2, j2⟩ : Pair)), rfl⟩ (fun _ => by kernel_rfl) fun ec cj ck cl bj hr106 cm cn => ?_
      obtain ⟨co, H⟩ := H
      have cp := ((aw.sn av).so _ bj hr106)
      refine L_app ei86 cm (.slice aa ac ad) xs2 ([(⟨i2, j2⟩ : Pair)] : List Pair) rfl cp (.slice cj ck cl) rfl cn.sx 1 rfl co fun ed bl bm bn ee a6 a7 cq => ?_
      refine L_pu (P_assign (.slice bl bm bn) rfl) ?_
      refine L_nil ?_
      refine W_seq ?_
      refine W_reg ?_
      refine L_pu (P_move (vi i2) rfl) ?_
      obtain ⟨cr, H⟩ := H
      have cs : I64 (i2 + 1) := i64_succ (of_decide_eq_true ab) a3 cr
      refine L_pu (P_add i2 1 rfl rfl cs) ?_
      refine L_pu (P_assign (vi (i2 + 1)) rfl) ?_
      refine L_nil ?_
      refine W_reg ?_
      refine L_pu (P_move (vi j2) rfl) ?_
      obtain ⟨ct, H⟩ := H
      have cu : I64 (j2 + 1) := i64_succ (of_decide_eq_true au) a4 ct
      refine L_pu (P_add j2 1 rfl rfl cu) ?_
      refine L_pu (P_assign (vi (j2 + 1)) rfl) ?_
      refine L_nil ?_
      have cv := a7.drop 0 rfl
      obtain ⟨cw, cx⟩ := H
      have a8 := ak.stn av
      have a9 := ax.stown _ bj hr106
      have ba := a7.std 0 rfl
      have cy := ((((ap.st a8).st a9).st a6).st ba)
      have cz := ((((aq.st a8).st a9).st a6).st ba)
      have c1 := ((((ar.st a8).st a9).st a6).st ba)
      have c2 := (a7.sd cq 1 0 rfl rfl rfl)
      exact ⟨((xs2 ++ ([(⟨i2, j2⟩ : Pair)] : List Pair)), bl, bm, bn, i2 + 1, j2 + 1), cx, cw, ⟨rfl, rfl, rfl, rfl, rfl, rfl, trivial⟩, cv, cy, cz, c1, c2⟩
     ·have H := ite_f H a5
      refine W_seq ?_
      refine W_draw (fun x => Gr ci x none) (by kernel_rfl) (by kernel_rfl) (Gr.drew _) ?_
      refine Q_pu (P_move (.slice al am an) rfl) ?_
      refine Q_pu (P_move (vi i2) rfl) ?_
      obtain ⟨c4, H⟩ := H
      have c5 : I64 (i2 + 1) := i64_succ (of_decide_eq_true ab) a3 c4
      refine Q_pu (P_add i2 1 rfl rfl c5) ?_
      obtain ⟨bo, H⟩ := H
      have aj := ak.stn av
      obtain ⟨bp, ef, c6, eg, c7, c9⟩ := (ar.st aj).get default (by decide) (i2 + 1) bo
      obtain ⟨bq, br, bs, rfl, bt⟩ := Kd.sl.op c7
      refine Q_pu (P_ia Try.underlying145 se145 al bp am an (ar.st aj).len (i2 + 1) rfl c6 rfl bo) ?_
      refine Q_pu (P_ld ag89 cQ (bp.add ((i2 + 1).toNat * 1)) (.slice bq br bs) rfl (c9 0 _ rfl)) ?_
      refine Q_pu (P_move (vi j2) rfl) ?_
      obtain ⟨bu, H⟩ := H
      obtain ⟨bv, eh, da, ei, db, dc⟩ := bt.get default (by decide) j2 bu
      obtain rfl := Kd.int.op db
      refine Q_pu (P_ia Try.underlying89 se89 bq bv br bs bt.len j2 rfl da rfl bu) ?_
      refine Q_pu (P_ld ag3 cQ (bv.add (j2.toNat * 1)) (vi (nth (nth r (i2 + 1)) j2)) rfl (dc 0 _ rfl)) ?_
      refine Q_pu (P_move (.slice al am an) rfl) ?_
      refine Q_pu (P_move (vi i2) rfl) ?_
      obtain ⟨bw, H⟩ := H
      obtain ⟨bx, ej, dd, ek, de, df⟩ := (ar.st aj).get default (by decide) i2 bw
      obtain ⟨bz, b0, b1, rfl, b2⟩ := Kd.sl.op de
      refine Q_pu (P_ia Try.underlying145 se145 al bx am an (ar.st aj).len i2 rfl dd rfl bw) ?_
      refine Q_pu (P_ld ag89 cQ (bx.add (i2.toNat * 1)) (.slice bz b0 b1) rfl (df 0 _ rfl)) ?_
      refine Q_pu (P_move (vi j2) rfl) ?_
      obtain ⟨dg, H⟩ := H
      have dh : I64 (j2 + 1) := i64_succ (of_decide_eq_true au) a4 dg
      refine Q_pu (P_add j2 1 rfl rfl dh) ?_
      obtain ⟨b3, H⟩ := H
      obtain ⟨b4, el, di, em, dk, dl⟩ := b2.get default (by decide) (j2 + 1) b3
      obtain rfl := Kd.int.op dk
      refine Q_pu (P_ia Try.underlying89 se89 bz b4 b0 b1 b2.len (j2 + 1) rfl di rfl b3) ?_
      refine Q_pu (P_ld ag3 cQ (b4.add ((j2 + 1).toNat * 1)) (vi (nth (nth r i2) (j2 + 1))) rfl (dl 0 _ rfl)) ?_
      refine Q_pu (P_cmp (nth (nth r (i2 + 1)) j2) (nth (nth r i2) (j2 + 1)) (decide ((nth (nth r (i2 + 1)) j2) ≥ (nth (nth r i2) (j2 + 1)))) rfl rfl rfl) ?_
      refine Q_pu (P_assign (vb (decide ((nth (nth r (i2 + 1)) j2) ≥ (nth (nth r i2) (j2 + 1))))) rfl) ?_
      refine Q_nil fun en ay => ?_
      have b5 := ax.k0 ay
      refine W_cond (decide ((nth (nth r (i2 + 1)) j2) ≥ (nth (nth r i2) (j2 + 1)))) rfl (fun bb => ?_) (fun bb => ?_)
      ·have H := ite_t H bb
       refine W_reg ?_
       refine L_pu (P_move (vi i2) rfl) ?_
       obtain ⟨dm, H⟩ := H
       have dn : I64 (i2 + 1) := i64_succ (of_decide_eq_true ab) a3 dm
       refine L_pu (P_add i2 1 rfl rfl dn) ?_
       refine L_pu (P_assign (vi (i2 + 1)) rfl) ?_
       refine L_nil ?_
       obtain ⟨dp, dq⟩ := H
       have bc := ax.stn ay
       have dr := ((ap.st aj).st bc)
       have ds := ((aq.st aj).st bc)
       have dt := ((ar.st aj).st bc)
       have du := ((aw.sn av).sn ay)
       exact ⟨(xs2, aa, ac, ad, i2 + 1, j2), dq, dp, ⟨rfl, rfl, rfl, rfl, rfl, rfl, trivial⟩, b5, dr, ds, dt, du⟩
      ·have H := ite_f H bb
       refine W_reg ?_
       refine L_pu (P_move (vi j2) rfl) ?_
       obtain ⟨dv, H⟩ := H
       have dw : I64 (j2 + 1) := i64_succ (of_decide_eq_true au) a4 dv
       refine L_pu (P_add j2 1 rfl rfl dw) ?_
       refine L_pu (P_assign (vi (j2 + 1)) rfl) ?_
       refine L_nil ?_
       obtain ⟨dx, dy⟩ := H
       have bd := ax.stn ay
       have dz := ((ap.st aj).st bd)
       have d0 := ((aq.st aj).st bd)
       have d1 := ((ar.st aj).st bd)
       have d2 := ((aw.sn av).sn ay)
       exact ⟨(xs2, aa, ac, ad, i2, j2 + 1), dy, dx, ⟨rfl, rfl, rfl, rfl, rfl, rfl, trivial⟩, b5, dz, d0, d1, d2⟩
    ·have H := ite_f H au
     refine W_exit (xin_hit ?_)
     refine W_seq ?_
     refine W_reg ?_
     refine L_pu (P_move (.slice aa ac ad) rfl) ?_
     refine L_pu (P_assign (.slice aa ac ad) rfl) ?_
     refine L_nil ?_
     refine W_ret ?_
     exact ⟨[.slice aa ac ad], ⟨_, rfl, rfl⟩, xs2, aa, ac, ad, rfl, H, ak.gr.g0, ak.ok, ak.ge, aw⟩
   ·have H := ite_f H ab
    refine L_pass (dj := 26) rfl rfl (.inl (by exact congrArg Value.bool ab)) ?_
    refine L_pass (dj := 26) rfl rfl (.inl (by exact congrArg Value.bool ab)) ?_
    refine L_pass (dj := 26) rfl rfl (.inl (by exact congrArg Value.bool ab)) ?_
    refine L_pass (dj := 26) rfl rfl (.inl (by exact congrArg Value.bool ab)) ?_
    refine L_pu (P_pick false (vb false) (by exact congrArg Value.bool ab) rfl) ?_
    refine L_nil ?_
    refine W_cf (b := false) rfl rfl ?_
    refine W_exit (xin_hit ?_)
    refine W_seq ?_
    refine W_reg ?_
    refine L_pu (P_move (.slice aa ac ad) rfl) ?_
    refine L_pu (P_assign (.slice aa ac ad) rfl) ?_
    refine L_nil ?_
    refine W_ret ?_
    exact ⟨[.slice aa ac ad], ⟨_, rfl, rfl⟩, xs2, aa, ac, ad, rfl, H, ak.gr.g0, ak.ok, ak.ge, aw⟩
end Go.Proofs.Ytndjggncgpjolaa

namespace Go.Proofs.Ytndjggncgpjolaa
open Go.RowKit
set_option linter.unusedVariables false
set_option linter.unusedSimpArgs false
def impl_partner.E (list : List Pair) (at_ : Int) (Q : Int → Prop) : Prop :=
 (∃ (I19 : Int → Prop) (mu20 : Int → Nat), I19 0 ∧ ∀ (v2 : Int), I19 v2 → (if decide (v2 < (list.length : Int)) then ((0 : Int) ≤ v2 ∧ v2 < (list.length : Int)) ∧ (if ((nth list v2).A) == at_ then Q ((nth list v2).B) else (I64 (v2 + 1)) ∧ I19 (v2 + 1) ∧ mu20 (v2 + 1) < mu20 v2) else Q (-1)))
set_option maxHeartbeats 8000000 in
set_option maxRecDepth 100000 in
theorem impl_partner.calls {O : Ob} (w0 : World) (hO : Ok w0 O) (list : List Pair) (A1 : Option Addr) (n2 c3 : Nat) (hp4 : Sl kPair w0 (Fr O) (.slice A1 n2 c3) list) (at_ : Int) (Q : Int → Prop) (h : impl_partner.E list at_ Q) :
  Ret Try.prog 48 [.slice A1 n2 c3, vi at_] w0 (fun v w' => ∃ (r0 : Int), v = vi r0 ∧ Q r0 ∧ Gr w0 w' none) := by
 unfold impl_partner.E at h
 have H := h
 clear h
 have hc0 := Ct.init hO
 refine Ret_enter Try.func48 rfl 20 rfl [.tmp 4] rfl rfl ?_
 refine W_seq ?_
 refine W_reg ?_
 refine L_pu (P_assign (vi 0) rfl) ?_
 refine L_nil ?_
 refine W_seq ?_
 refine W_seq ?_
 refine W_reg ?_
 refine L_pu (P_move (.slice A1 n2 c3) rfl) ?_
 have hl6 := hp4.le
 refine L_pu (P_len Try.underlying86 A1 n2 c3 hp4.len rfl) ?_
 refine L_pu (P_move (vi 0) rfl) ?_
 refine L_nil ?_
 refine W_block ?_
 obtain ⟨ap, aq, ab, H⟩ := H
 refine W_loop (α := Int) (fun (sv__ : Int) t ac => match sv__ with | v2 => ap v2 ∧ Has t [(1, vi at_), (7, .slice A1 n2 c3), (8, vi (list.length : Int)), (9, vi v2)] ∧ Ct [] w0 ac [] O ∧ Sl kPair ac (Fr ([] ++ O)) (.slice A1 n2 c3) list) (fun (sv__ : Int) => match sv__ with | v2 => aq v2) 0 ⟨ab, ⟨rfl, rfl, rfl, rfl, trivial⟩, hc0, hp4⟩ ?_
 rintro v2 _ ac ⟨ab, ar, ad, ae⟩
 obtain ⟨a7, rfl⟩ := Has.ins ar
 have H := H v2 ab
 refine W_seq ?_
 refine W_reg ?_
 refine L_pu (P_cmp v2 (list.length : Int) (decide (v2 < (list.length : Int))) rfl rfl rfl) ?_
 refine L_nil ?_
 refine W_seq ?_
 refine W_cond (decide (v2 < (list.length : Int))) rfl (fun af => ?_) (fun af => ?_)
 ·have H := ite_t H af
  refine W_skip ?_
  refine W_seq ?_
  refine W_block ?_
  refine W_seq ?_
  refine W_reg ?_
  obtain ⟨ai, H⟩ := H
  obtain ⟨aj, a8, au, a9, av, aw⟩ := ae.get default (by decide) v2 ai
  obtain rfl := kPair.op av
  refine L_pu (P_ia Try.underlying86 se86 A1 aj n2 c3 ae.len v2 rfl au rfl ai) ?_
  refine L_pu (P_lda ag148 sz148 cL (aj.add (v2.toNat * 2)) [vi ((nth list v2).A), vi ((nth list v2).B)] rfl rfl aw) ?_
  refine L_alloc [.int .i64 0, .int .i64 0] ze148 fun ba aa ak hu37 al ax => ?_
  have am := ad.own al (some aa) (oglt ak hu37)
  refine L_stb aa 0 [vi 0, vi 0] [vi ((nth list v2).A), vi ((nth list v2).B)] [vi ((nth list v2).A), vi ((nth list v2).B)] rfl ax rfl sz148 rfl rfl rfl fun bb an ao => ?_
  have ag := am.wr 0 rfl an
  refine L_nil ?_
  refine W_seq ?_
  refine W_reg ?_
  refine L_pu (P_fa fa148_0 ⟨aa, 0, none⟩ ⟨aa, 0, none⟩ rfl rfl) ?_
  refine L_pu (P_ld ag3 cL ⟨aa, 0, none⟩ (vi ((nth list v2).A)) rfl (ao.cell rfl)) ?_
  refine L_pu (P_move (vi at_) rfl) ?_
  refine L_pu (P_cmp ((nth list v2).A) at_ (((nth list v2).A) == at_) rfl rfl rfl) ?_
  refine L_nil ?_
  refine W_cond (((nth list v2).A) == at_) rfl (fun ah => ?_) (fun ah => ?_)
  ·have H := ite_t H ah
   refine W_seq ?_
   refine W_reg ?_
   refine L_pu (P_fa fa148_1 ⟨aa, 0, none⟩ ⟨aa, 1, none⟩ rfl rfl) ?_
   refine L_pu (P_ld ag3 cL ⟨aa, 1, none⟩ (vi ((nth list v2).B)) rfl (ao.cell rfl)) ?_
   refine L_pu (P_assign (vi ((nth list v2).B)) rfl) ?_
   refine L_nil ?_
   refine W_ret ?_
   have ay := ag.drop 0 rfl
   exact ⟨[vi ((nth list v2).B)], ⟨_, rfl, rfl⟩, (nth list v2).B, rfl, H, ay.gr.g0⟩
  ·have H := ite_f H ah
   refine W_skip ?_
   refine W_reg ?_
   obtain ⟨az, H⟩ := H
   refine L_pu (P_add v2 1 rfl rfl az) ?_
   refine L_pu (P_move (vi (v2 + 1)) rfl) ?_
   refine L_nil ?_
   have a0 := ag.drop 0 rfl
   obtain ⟨a1, a2⟩ := H
   have a3 := ad.stown _ al (oge ak)
   have a4 := am.stw 0 rfl an
   have a5 := ag.std 0 rfl
   have a6 := (((ae.st a3).st a4).st a5)
   exact ⟨v2 + 1, a2, a1, ⟨rfl, rfl, rfl, rfl, trivial⟩, a0, a6⟩
 ·have H := ite_f H af
  refine W_exit (xin_hit ?_)
  refine W_seq ?_
  refine W_reg ?_
  refine L_pu (P_assign (vi (-1)) rfl) ?_
  refine L_nil ?_
  refine W_ret ?_
  exact ⟨[vi (-1)], ⟨_, rfl, rfl⟩, (-1), rfl, H, ad.gr.g0⟩
end Go.Proofs.Ytndjggncgpjolaa

namespace Go.Proofs.Ytndjggncgpjolaa
open Go.RowKit
set_option linter.unusedVariables false
set_option linter.unusedSimpArgs false
def impl_SeqMerge.E (base_ : List Pt) (a : List Pt) (b : List Pt) (Q : List Pt → Bool → Prop) : Prop :=
 (if decide ((base_.length : Int) > 12) then Q ([] : List Pt) false else (if decide ((a.length : Int) > 12) then Q ([] : List Pt) false else (if decide ((b.length : Int) > 12) then Q ([] : List Pt) false else impl_SeqPairs.E base_ a (fun r => impl_SeqPairs.E base_ b (fun r2 => (∃ (I128 : (List Pt) → Int → Int → Int → Int → Prop) (mu129 : (List Pt) → Int → Int → Int → Int → Nat), I128 ([] : List Pt) 0 0 0 0 ∧ ∀ (xs2 : List Pt) (i2 : Int) (j2 : Int) (k2 : Int) (at_2 : Int), I128 xs2 i2 j2 k2 at_2 → (if decide (at_2 ≤ (base_.length : Int)) then (if decide (at_2 < (base_.length : Int)) then impl_partner.E r at_2 (fun r3 => impl_partner.E r2 at_2 (fun r4 => (if decide (r3 < 0) then (-9223372036854775808 ≤ at_2) ∧ I128 xs2 i2 j2 k2 (at_2 + 1) ∧ mu129 xs2 i2 j2 k2 (at_2 + 1) < mu129 xs2 i2 j2 k2 at_2 else (if decide (r4 < 0) then (-9223372036854775808 ≤ at_2) ∧ I128 xs2 i2 j2 k2 (at_2 + 1) ∧ mu129 xs2 i2 j2 k2 (at_2 + 1) < mu129 xs2 i2 j2 k2 at_2 else ((0 : Int) ≤ i2 ∧ (i2 : Int) ≤ at_2 ∧ at_2 ≤ (base_.length : Int)) ∧ ((0 : Int) ≤ j2 ∧ (j2 : Int) ≤ r3 ∧ r3 ≤ (a.length : Int)) ∧ ((0 : Int) ≤ k2 ∧ (k2 : Int) ≤ r4 ∧ r4 ≤ (b.length : Int)) ∧ slices_Equal_Pt.E ((a.drop j2.toNat).take (r3.toNat - j2.toNat)) ((base_.drop i2.toNat).take (at_2.toNat - i2.toNat)) (fun r5 => (if r5 then (xs2.length + ((b.drop k2.toNat).take (r4.toNat - k2.toNat)).length ≤ 268435456) ∧ ((0 : Int) ≤ at_2 ∧ at_2 < (base_.length : Int)) ∧ ((xs2 ++ ((b.drop k2.toNat).take (r4.toNat - k2.toNat))).length + ([(nth base_ at_2)] : List Pt).length ≤ 268435456) ∧ (-9223372036854775808 ≤ at_2) ∧ ((base_.length : Int) ≤ 9223372036854775807 → (a.length : Int) ≤ 9223372036854775807 → (b.length : Int) ≤ 9223372036854775807 → I64 (r3 + 1)) ∧ ((base_.length : Int) ≤ 9223372036854775807 → (a.length : Int) ≤ 9223372036854775807 → (b.length : Int) ≤ 9223372036854775807 → I64 (r4 + 1)) ∧ (-9223372036854775808 ≤ at_2) ∧ I128 ((xs2 ++ ((b.drop k2.toNat).take (r4.toNat - k2.toNat))) ++ ([(nth base_ at_2)] : List Pt)) (at_2 + 1) (r3 + 1) (r4 + 1) (at_2 + 1) ∧ mu129 ((xs2 ++ ((b.drop k2.toNat).take (r4.toNat - k2.toNat))) ++ ([(nth base_ at_2)] : List Pt)) (at_2 + 1) (r3 + 1) (r4 + 1) (at_2 + 1) < mu129 xs2 i2 j2 k2 at_2 else slices_Equal_Pt.E ((b.drop k2.toNat).take (r4.toNat - k2.toNat)) ((base_.drop i2.toNat).take (at_2.toNat - i2.toNat)) (fun r6 => (if r6 then (xs2.length + ((a.drop j2.toNat).take (r3.toNat - j2.toNat)).length ≤ 268435456) ∧ ((0 : Int) ≤ at_2 ∧ at_2 < (base_.length : Int)) ∧ ((xs2 ++ ((a.drop j2.toNat).take (r3.toNat - j2.toNat))).length + ([(nth base_ at_2)] : List Pt).length ≤ 268435456) ∧ (-9223372036854775808 ≤ at_2) ∧ ((base_.length : Int) ≤ 9223372036854775807 → (a.length : Int) ≤ 9223372036854775807 → (b.length : Int) ≤ 9223372036854775807 → I64 (r3 + 1)) ∧ ((base_.length : Int) ≤ 9223372036854775807 → (a.length : Int) ≤ 9223372036854775807 → (b.length : Int) ≤ 9223372036854775807 → I64 (r4 + 1)) ∧ (-9223372036854775808 ≤ at_2) ∧ I128 ((xs2 ++ ((a.drop j2.toNat).take (r3.toNat - j2.toNat))) ++ ([(nth base_ at_2)] : List Pt)) (at_2 + 1) (r3 + 1) (r4 + 1) (at_2 + 1) ∧ mu129 ((xs2 ++ ((a.drop j2.toNat).take (r3.toNat - j2.toNat))) ++ ([(nth base_ at_2)] : List Pt)) (at_2 + 1) (r3 + 1) (r4 + 1) (at_2 + 1) < mu129 xs2 i2 j2 k2 at_2 else slices_Equal_Pt.E ((a.drop j2.toNat).take (r3.toNat - j2.toNat)) ((b.drop k2.toNat).take (r4.toNat - k2.toNat)) (fun r7 => (if r7 then (xs2.length + ((a.drop j2.toNat).take (r3.toNat - j2.toNat)).length ≤ 268435456) ∧ ((0 : Int) ≤ at_2 ∧ at_2 < (base_.length : Int)) ∧ ((xs2 ++ ((a.drop j2.toNat).take (r3.toNat - j2.toNat))).length + ([(nth base_ at_2)] : List Pt).length ≤ 268435456) ∧ (-9223372036854775808 ≤ at_2) ∧ ((base_.length : Int) ≤ 9223372036854775807 → (a.length : Int) ≤ 9223372036854775807 → (b.length : Int) ≤ 9223372036854775807 → I64 (r3 + 1)) ∧ ((base_.length : Int) ≤ 9223372036854775807 → (a.length : Int) ≤ 9223372036854775807 → (b.length : Int) ≤ 9223372036854775807 → I64 (r4 + 1)) ∧ (-9223372036854775808 ≤ at_2) ∧ I128 ((xs2 ++ ((a.drop j2.toNat).take (r3.toNat - j2.toNat))) ++ ([(nth base_ at_2)] : List Pt)) (at_2 + 1) (r3 + 1) (r4 + 1) (at_2 + 1) ∧ mu129 ((xs2 ++ ((a.drop j2.toNat).take (r3.toNat - j2.toNat))) ++ ([(nth base_ at_2)] : List Pt)) (at_2 + 1) (r3 + 1) (r4 + 1) (at_2 + 1) < mu129 xs2 i2 j2 k2 at_2 else Q ([] : List Pt) false)))))))))) else ((0 : Int) ≤ i2 ∧ (i2 : Int) ≤ at_2 ∧ at_2 ≤ (base_.length : Int)) ∧ ((0 : Int) ≤ j2 ∧ (j2 : Int) ≤ (a.length : Int) ∧ (a.length : Int) ≤ (a.length : Int)) ∧ ((0 : Int) ≤ k2 ∧ (k2 : Int) ≤ (b.length : Int) ∧ (b.length : Int) ≤ (b.length : Int)) ∧ slices_Equal_Pt.E ((a.drop j2.toNat).take ((a.length : Int).toNat - j2.toNat)) ((base_.drop i2.toNat).take (at_2.toNat - i2.toNat)) (fun r8 => (if r8 then (xs2.length + ((b.drop k2.toNat).take ((b.length : Int).toNat - k2.toNat)).length ≤ 268435456) ∧ ((base_.length : Int) ≤ 9223372036854775807 → (a.length : Int) ≤ 9223372036854775807 → (b.length : Int) ≤ 9223372036854775807 → I64 (at_2 + 1)) ∧ ((base_.length : Int) ≤ 9223372036854775807 → (a.length : Int) ≤ 9223372036854775807 → (b.length : Int) ≤ 9223372036854775807 → I64 ((a.length : Int) + 1)) ∧ ((base_.length : Int) ≤ 9223372036854775807 → (a.length : Int) ≤ 9223372036854775807 → (b.length : Int) ≤ 9223372036854775807 → I64 ((b.length : Int) + 1)) ∧ ((base_.length : Int) ≤ 9223372036854775807 → (a.length : Int) ≤ 9223372036854775807 → (b.length : Int) ≤ 9223372036854775807 → I64 (at_2 + 1)) ∧ I128 (xs2 ++ ((b.drop k2.toNat).take ((b.length : Int).toNat - k2.toNat))) (at_2 + 1) ((a.length : Int) + 1) ((b.length : Int) + 1) (at_2 + 1) ∧ mu129 (xs2 ++ ((b.drop k2.toNat).take ((b.length : Int).toNat - k2.toNat))) (at_2 + 1) ((a.length : Int) + 1) ((b.length : Int) + 1) (at_2 + 1) < mu129 xs2 i2 j2 k2 at_2 else slices_Equal_Pt.E ((b.drop k2.toNat).take ((b.length : Int).toNat - k2.toNat)) ((base_.drop i2.toNat).take (at_2.toNat - i2.toNat)) (fun r9 => (if r9 then (xs2.length + ((a.drop j2.toNat).take ((a.length : Int).toNat - j2.toNat)).length ≤ 268435456) ∧ ((base_.length : Int) ≤ 9223372036854775807 → (a.length : Int) ≤ 9223372036854775807 → (b.length : Int) ≤ 9223372036854775807 → I64 (at_2 + 1)) ∧ ((base_.length : Int) ≤ 9223372036854775807 → (a.length : Int) ≤ 9223372036854775807 → (b.length : Int) ≤ 9223372036854775807 → I64 ((a.length : Int) + 1)) ∧ ((base_.length : Int) ≤ 9223372036854775807 → (a.length : Int) ≤ 9223372036854775807 → (b.length : Int) ≤ 9223372036854775807 → I64 ((b.length : Int) + 1)) ∧ ((base_.length : Int) ≤ 9223372036854775807 → (a.length : Int) ≤ 9223372036854775807 → (b.length : Int) ≤ 9223372036854775807 → I64 (at_2 + 1)) ∧ I128 (xs2 ++ ((a.drop j2.toNat).take ((a.length : Int).toNat - j2.toNat))) (at_2 + 1) ((a.length : Int) + 1) ((b.length : Int) + 1) (at_2 + 1) ∧ mu129 (xs2 ++ ((a.drop j2.toNat).take ((a.length : Int).toNat - j2.toNat))) (at_2 + 1) ((a.length : Int) + 1) ((b.length : Int) + 1) (at_2 + 1) < mu129 xs2 i2 j2 k2 at_2 else slices_Equal_Pt.E ((a.drop j2.toNat).take ((a.length : Int).toNat - j2.toNat)) ((b.drop k2.toNat).take ((b.length : Int).toNat - k2.toNat)) (fun r10 => (if r10 then (xs2.length + ((a.drop j2.toNat).take ((a.length : Int).toNat - j2.toNat)).length ≤ 268435456) ∧ ((base_.length : Int) ≤ 9223372036854775807 → (a.length : Int) ≤ 9223372036854775807 → (b.length : Int) ≤ 9223372036854775807 → I64 (at_2 + 1)) ∧ ((base_.length : Int) ≤ 9223372036854775807 → (a.length : Int) ≤ 9223372036854775807 → (b.length : Int) ≤ 9223372036854775807 → I64 ((a.length : Int) + 1)) ∧ ((base_.length : Int) ≤ 9223372036854775807 → (a.length : Int) ≤ 9223372036854775807 → (b.length : Int) ≤ 9223372036854775807 → I64 ((b.length : Int) + 1)) ∧ ((base_.length : Int) ≤ 9223372036854775807 → (a.length : Int) ≤ 9223372036854775807 → (b.length : Int) ≤ 9223372036854775807 → I64 (at_2 + 1)) ∧ I128 (xs2 ++ ((a.drop j2.toNat).take ((a.length : Int).toNat - j2.toNat))) (at_2 + 1) ((a.length : Int) + 1) ((b.length : Int) + 1) (at_2 + 1) ∧ mu129 (xs2 ++ ((a.drop j2.toNat).take ((a.length : Int).toNat - j2.toNat))) (at_2 + 1) ((a.length : Int) + 1) ((b.length : Int) + 1) (at_2 + 1) < mu129 xs2 i2 j2 k2 at_2 else Q ([] : List Pt) false))))))) else Q xs2 true)))))))
set_option maxHeartbeats 8000000 in
set_option maxRecDepth 100000 in
theorem impl_SeqMerge.calls {O : Ob} (w0 : World) (hO : Ok w0 O) (base_ : List Pt) (A1 : Option Addr) (n2 c3 : Nat) (hp4 : Sl kPt w0 (Fr O) (.slice A1 n2 c3) base_) (a : List Pt) (A6 : Option Addr) (n7 c8 : Nat) (hp9 : Sl kPt w0 (Fr O) (.slice A6 n7 c8) a) (b : List Pt) (al : Option Addr) (am an : Nat) (cm : Sl kPt w0 (Fr O) (.slice al am an) b) (Q : List Pt → Bool → Prop) (h : impl_SeqMerge.E base_ a b Q) :
  Ret Try.prog 10 [.slice A1 n2 c3, .slice A6 n7 c8, .slice al am an] w0 (fun v w' => ∃ (r0 : List Pt) (r1 : Bool) (A0 : Option Addr) (n0 c0 : Nat), v = .tuple #[.slice A0 n0 c0, vb r1] ∧ Q r0 r1 ∧ Gr w0 w' none ∧ Ok w' ([bk A0] ++ O) ∧ (∀ b, some b ∈ [bk A0] → w0.heap.size ≤ b) ∧ Ow kPt 29 w' ([bk A0] ++ O) (.slice A0 n0 c0) r0) := by
 unfold impl_SeqMerge.E at h
 have H := h
 clear h
 have hc0 := Ct.init hO
 refine Ret_enter Try.func10 rfl 117 rfl [.tmp 6, .tmp 7] rfl rfl ?_
 refine W_seq ?_
 refine W_reg ?_
 refine L_pu (P_assign (.slice none 0 0) rfl) ?_
 refine L_pu (P_assign (vb false) rfl) ?_
 refine L_nil ?_
 refine W_seq ?_
 refine W_seq ?_
 refine W_reg ?_
 refine L_pu (P_move (.slice A1 n2 c3) rfl) ?_
 have my := hp4.le
 refine L_pu (P_len Try.underlying23 A1 n2 c3 hp4.len rfl) ?_
 refine L_pu (P_cmp (base_.length : Int) 12 (decide ((base_.length : Int) > 12)) rfl rfl rfl) ?_
 refine L_pu (P_move (vb (decide ((base_.length : Int) > 12))) rfl) ?_
 rcases bool_or (decide ((base_.length : Int) > 12)) with au | au
 ·have H := ite_t H au
  refine L_pass (dj := 23) rfl rfl (.inl (by exact congrArg Value.bool au)) ?_
  refine L_pass (dj := 23) rfl rfl (.inl (by exact congrArg Value.bool au)) ?_
  refine L_pass (dj := 23) rfl rfl (.inl (by exact congrArg Value.bool au)) ?_
  refine L_pu (P_pick true (vb true) (by exact congrArg Value.bool au) rfl) ?_
  refine L_pu (P_move (vb true) rfl) ?_
  refine L_pass (dj := 28) rfl rfl (.inl rfl) ?_
  refine L_pass (dj := 28) rfl rfl (.inl rfl) ?_
  refine L_pass (dj := 28) rfl rfl (.inl rfl) ?_
  refine L_pu (P_pick true (vb true) (by exact congrArg Value.bool rfl) rfl) ?_
  refine L_nil ?_
  refine W_ct (b := true) rfl rfl ?_
  refine W_seq ?_
  refine W_reg ?_
  refine L_lit (kd := kPt) ei23 hc0 ([] : List Pt) (cells := []) rfl (fun _ => by kernel_rfl) fun mz de df dg m0 hr23 dh gm => ?_
  refine L_pu (P_assign (.slice de df dg) rfl) ?_
  refine L_pu (P_assign (vb false) rfl) ?_
  refine L_nil ?_
  refine W_ret ?_
  exact ⟨[.slice de df dg, vb false], ⟨_, rfl, ⟨_, rfl, rfl⟩⟩, ([] : List Pt), false, de, df, dg, rfl, H, dh.gr.g0, dh.ok, dh.ge, gm⟩
 ·have H := ite_f H au
  refine L_run (dj := 23) rfl rfl (by exact congrArg Value.bool au) ?_
  refine L_pu (P_move (.slice A6 n7 c8) rfl) ?_
  refine L_run (dj := 23) rfl rfl (by exact congrArg Value.bool au) ?_
  have m1 := hp9.le
  refine L_pu (P_len Try.underlying23 A6 n7 c8 hp9.len rfl) ?_
  refine L_run (dj := 23) rfl rfl (by exact congrArg Value.bool au) ?_
  refine L_pu (P_cmp (a.length : Int) 12 (decide ((a.length : Int) > 12)) rfl rfl rfl) ?_
  refine L_pu (P_pick false (vb (decide ((a.length : Int) > 12))) (by exact congrArg Value.bool au) rfl) ?_
  refine L_pu (P_move (vb (decide ((a.length : Int) > 12))) rfl) ?_
  rcases bool_or (decide ((a.length : Int) > 12)) with av | av
  ·have H := ite_t H av
   refine L_pass (dj := 28) rfl rfl (.inl (by exact congrArg Value.bool av)) ?_
   refine L_pass (dj := 28) rfl rfl (.inl (by exact congrArg Value.bool av)) ?_
   refine L_pass (dj := 28) rfl rfl (.inl (by exact congrArg Value.bool av)) ?_
   refine L_pu (P_pick true (vb true) (by exact congrArg Value.bool av) rfl) ?_
   refine L_nil ?_
   refine W_ct (b := true) rfl rfl ?_
   refine W_seq ?_
   refine W_reg ?_
   refine L_lit (kd := kPt) ei23 hc0 ([] : List Pt) (cells := []) rfl (fun _ => by kernel_rfl) fun m2 di dk dl m3 hr34 dm gn => ?_
   refine L_pu (P_assign (.slice di dk dl) rfl) ?_
   refine L_pu (P_assign (vb false) rfl) ?_
   refine L_nil ?_
   refine W_ret ?_
   exact ⟨[.slice di dk dl, vb false], ⟨_, rfl, ⟨_, rfl, rfl⟩⟩, ([] : List Pt), false, di, dk, dl, rfl, H, dm.gr.g0, dm.ok, dm.ge, gn⟩
  ·have H := ite_f H av
   refine L_run (dj := 28) rfl rfl (by exact congrArg Value.bool av) ?_
   refine L_pu (P_move (.slice al am an) rfl) ?_
   refine L_run (dj := 28) rfl rfl (by exact congrArg Value.bool av) ?_
   have m4 := cm.le
   refine L_pu (P_len Try.underlying23 al am an cm.len rfl) ?_
   refine L_run (dj := 28) rfl rfl (by exact congrArg Value.bool av) ?_
   refine L_pu (P_cmp (b.length : Int) 12 (decide ((b.length : Int) > 12)) rfl rfl rfl) ?_
   refine L_pu (P_pick false (vb (decide ((b.length : Int) > 12))) (by exact congrArg Value.bool av) rfl) ?_
   refine L_nil ?_
   refine W_cond (decide ((b.length : Int) > 12)) rfl (fun dn => ?_) (fun dn => ?_)
   ·have H := ite_t H dn
    refine W_seq ?_
    refine W_reg ?_
    refine L_lit (kd := kPt) ei23 hc0 ([] : List Pt) (cells := []) rfl (fun _ => by kernel_rfl) fun m5 dp dq dr m6 hr45 ds gp => ?_
    refine L_pu (P_assign (.slice dp dq dr) rfl) ?_
    refine L_pu (P_assign (vb false) rfl) ?_
    refine L_nil ?_
    refine W_ret ?_
    exact ⟨[.slice dp dq dr, vb false], ⟨_, rfl, ⟨_, rfl, rfl⟩⟩, ([] : List Pt), false, dp, dq, dr, rfl, H, ds.gr.g0, ds.ok, ds.ge, gp⟩
   ·have H := ite_f H dn
    refine W_skip ?_
    refine W_seq ?_
    refine W_reg ?_
    refine L_pu (P_move (.slice A1 n2 c3) rfl) ?_
    refine L_pu (P_move (.slice A6 n7 c8) rfl) ?_
    refine L_call go47 [.slice A1 n2 c3, .slice A6 n7 c8] rfl ((impl_SeqPairs.calls w0 hc0.ok base_ A1 n2 c3 hp4 a A6 n7 c8 hp9 _ H).mono ?_)
    rintro _ gq ⟨r, ao, bz, b0, rfl, H, gs, gt, gu, gw⟩
    have cn := hc0.owns gs gt gu
    refine L_pu (P_move (.slice A1 n2 c3) rfl) ?_
    refine L_pu (P_move (.slice al am an) rfl) ?_
    refine L_call go47 [.slice A1 n2 c3, .slice al am an] rfl ((impl_SeqPairs.calls gq cn.ok base_ A1 n2 c3 (hp4.st cn.st) b al am an (cm.st cn.st) _ H).mono ?_)
    rintro _ m7 ⟨r2, ap, b1, b2, rfl, H, ex, gx, ey, gy⟩
    have gz := cn.owns ex gx ey
    refine L_pu (P_assign (.slice ao bz b0) rfl) ?_
    refine L_pu (P_assign (.slice ap b1 b2) rfl) ?_
    refine L_nil ?_
    refine W_seq ?_
    refine W_reg ?_
    refine L_lit (kd := kPt) ei23 gz ([] : List Pt) (cells := []) rfl (fun _ => by kernel_rfl) fun m8 ez e0 e1 e2 hr76 co g1 => ?_
    refine L_pu (P_assign (.slice ez e0 e1) rfl) ?_
    refine L_nil ?_
    refine W_seq ?_
    refine W_reg ?_
    refine L_pu (P_assign (vi 0) rfl) ?_
    refine L_pu (P_assign (vi 0) rfl) ?_
    refine L_pu (P_assign (vi 0) rfl) ?_
    refine L_nil ?_
    refine W_seq ?_
    refine W_seq ?_
    refine W_reg ?_
    refine L_pu (P_assign (vi 0) rfl) ?_
    refine L_nil ?_
    refine W_block ?_
    obtain ⟨g2, g3, dt, H⟩ := H
    have g4 := ((gw.sos ex ey).so _ e2 hr76)
    have g5 := (gy.so _ e2 hr76)
    refine W_loop (α := (List Pt) × (Option Addr) × Nat × Nat × Int × Int × Int × Int) (fun (sv__ : (List Pt) × (Option Addr) × Nat × Nat × Int × Int × Int × Int) t a6 => match sv__ with | (xs2, aa, ac, ad, i2, j2, k2, at_2) => g2 xs2 i2 j2 k2 at_2 ∧ Has t [(0, .slice A1 n2 c3), (1, .slice A6 n7 c8), (2, .slice al am an), (8, .slice ao bz b0), (9, .slice ap b1 b2), (10, .slice aa ac ad), (11, vi i2), (12, vi j2), (13, vi k2), (14, vi at_2)] ∧ Ct [] w0 a6 [bk aa, bk ap, bk ao] O ∧ Sl kPt a6 (Fr ([bk aa, bk ap, bk ao] ++ O)) (.slice A1 n2 c3) base_ ∧ Sl kPt a6 (Fr ([bk aa, bk ap, bk ao] ++ O)) (.slice A6 n7 c8) a ∧ Sl kPt a6 (Fr ([bk aa, bk ap, bk ao] ++ O)) (.slice al am an) b ∧ Ow kPair 148 a6 ([bk aa, bk ap, bk ao] ++ O) (.slice ao bz b0) r ∧ Ow kPair 148 a6 ([bk aa, bk ap, bk ao] ++ O) (.slice ap b1 b2) r2 ∧ Ow kPt 29 a6 ([bk aa, bk ap, bk ao] ++ O) (.slice aa ac ad) xs2) (fun (sv__ : (List Pt) × (Option Addr) × Nat × Nat × Int × Int × Int × Int) => match sv__ with | (xs2, _, _, _, i2, j2, k2, at_2) => g3 xs2 i2 j2 k2 at_2) (([] : List Pt), ez, e0, e1, 0, 0, 0, 0) ⟨dt, ⟨rfl, rfl, rfl, rfl, rfl, rfl, rfl, rfl, rfl, rfl, trivial⟩, co, (hp4.st co.st), (hp9.st co.st), (cm.st co.st), g4, g5, g1⟩ ?_
    rintro ⟨xs2, aa, ac, ad, i2, j2, k2, at_2⟩ _ a6 ⟨dt, g6, a7, a8, bb, bc, bd, be, bf⟩
    obtain ⟨m9, rfl⟩ := Has.ins g6
    have H := H xs2 i2 j2 k2 at_2 dt
    refine W_seq ?_
    refine W_seq ?_
    refine W_reg ?_
    refine L_pu (P_move (vi at_2) rfl) ?_
    refine L_pu (P_move (.slice A1 n2 c3) rfl) ?_
    have ab := a8.le
    refine L_pu (P_len Try.underlying23 A1 n2 c3 a8.len rfl) ?_
    refine L_pu (P_cmp at_2 (base_.length : Int) (decide (at_2 ≤ (base_.length : Int))) rfl rfl rfl) ?_
    refine L_nil ?_
    refine W_cond (decide (at_2 ≤ (base_.length : Int))) rfl (fun du => ?_) (fun du => ?_)
    ·have H := ite_t H du
     refine W_skip ?_
     refine W_seq ?_
     refine W_block ?_
     refine W_seq ?_
     refine W_reg ?_
     refine L_pu (P_move (.slice A6 n7 c8) rfl) ?_
     have ag := bb.le
     refine L_pu (P_len Try.underlying23 A6 n7 c8 bb.len rfl) ?_
     refine L_pu (P_move (.slice al am an) rfl) ?_
     have ah := bc.le
     refine L_pu (P_len Try.underlying23 al am an bc.len rfl) ?_
     refine L_pu (P_assign (vi (a.length : Int)) rfl) ?_
     refine L_pu (P_assign (vi (b.length : Int)) rfl) ?_
     refine L_nil ?_
     refine W_seq ?_
     refine W_seq ?_
     refine W_reg ?_
     refine L_pu (P_move (vi at_2) rfl) ?_
     refine L_pu (P_move (.slice A1 n2 c3) rfl) ?_
     refine L_pu (P_len Try.underlying23 A1 n2 c3 a8.len rfl) ?_
     refine L_pu (P_cmp at_2 (base_.length : Int) (decide (at_2 < (base_.length : Int))) rfl rfl rfl) ?_
     refine L_nil ?_
     refine W_cond (decide (at_2 < (base_.length : Int))) rfl (fun ai => ?_) (fun ai => ?_)
     ·have H := ite_t H ai
      refine W_seq ?_
      refine W_reg ?_
      refine L_pu (P_move (.slice ao bz b0) rfl) ?_
      refine L_pu (P_move (vi at_2) rfl) ?_
      have g7 := a7.gv bd 2 rfl
      have g8 := a7.drop 2 rfl
      refine L_call go48 [.slice ao bz b0, vi at_2] rfl ((impl_partner.calls a6 g8.ok r ao bz b0 g7 at_2 _ H).mono ?_)
      rintro _ g9 ⟨r3, rfl, H, ae⟩
      have b3 := a7.k0 ae
      refine L_pu (P_move (.slice ap b1 b2) rfl) ?_
      refine L_pu (P_move (vi at_2) rfl) ?_
      have ha := (be.sn ae)
      have hb := b3.gv ha 1 rfl
      have hc := b3.drop 1 rfl
      refine L_call go48 [.slice ap b1 b2, vi at_2] rfl ((impl_partner.calls g9 hc.ok r2 ap b1 b2 hb at_2 _ H).mono ?_)
      rintro _ hd ⟨r4, rfl, H, af⟩
      have cp := b3.k0 af
      refine L_pu (P_assign (vi r3) rfl) ?_
      refine L_pu (P_assign (vi r4) rfl) ?_
      refine L_nil ?_
      refine W_seq ?_
      refine W_reg ?_
      refine L_pu (P_move (vi r3) rfl) ?_
      refine L_pu (P_cmp r3 0 (decide (r3 < 0)) rfl rfl rfl) ?_
      refine L_pu (P_move (vb (decide (r3 < 0))) rfl) ?_
      rcases bool_or (decide (r3 < 0)) with bg | bg
      ·have H := ite_t H bg
       refine L_pass (dj := 63) rfl rfl (.inl (by exact congrArg Value.bool bg)) ?_
       refine L_pass (dj := 63) rfl rfl (.inl (by exact congrArg Value.bool bg)) ?_
       refine L_pu (P_pick true (vb true) (by exact congrArg Value.bool bg) rfl) ?_
       refine L_nil ?_
       refine W_ct (b := true) rfl rfl ?_
       refine W_exit (xin_hit ?_)
       refine W_reg ?_
       refine L_pu (P_move (vi at_2) rfl) ?_
       obtain ⟨he, H⟩ := H
       have hf : I64 (at_2 + 1) := i64_succ (of_decide_eq_true ai) ab he
       refine L_pu (P_add at_2 1 rfl rfl hf) ?_
       refine L_pu (P_assign (vi (at_2 + 1)) rfl) ?_
       refine L_nil ?_
       obtain ⟨hg, hh⟩ := H
       have dv := a7.stn ae
       have dw := b3.stn af
       have hi := ((a8.st dv).st dw)
       have hj := ((bb.st dv).st dw)
       have hk := ((bc.st dv).st dw)
       have hl := ((bd.sn ae).sn af)
       have hm := ((be.sn ae).sn af)
       have hn := ((bf.sn ae).sn af)
       exact ⟨(xs2, aa, ac, ad, i2, j2, k2, at_2 + 1), hh, hg, ⟨rfl, rfl, rfl, rfl, rfl, rfl, rfl, rfl, rfl, rfl, trivial⟩, cp, hi, hj, hk, hl, hm, hn⟩
      ·have H := ite_f H bg
       refine L_run (dj := 63) rfl rfl (by exact congrArg Value.bool bg) ?_
       refine L_pu (P_move (vi r4) rfl) ?_
       refine L_run (dj := 63) rfl rfl (by exact congrArg Value.bool bg) ?_
       refine L_pu (P_cmp r4 0 (decide (r4 < 0)) rfl rfl rfl) ?_
       refine L_pu (P_pick false (vb (decide (r4 < 0))) (by exact congrArg Value.bool bg) rfl) ?_
       refine L_nil ?_
       refine W_cond (decide (r4 < 0)) rfl (fun dx => ?_) (fun dx => ?_)
       ·have H := ite_t H dx
        refine W_exit (xin_hit ?_)
        refine W_reg ?_
        refine L_pu (P_move (vi at_2) rfl) ?_
        obtain ⟨ho, H⟩ := H
        have hp : I64 (at_2 + 1) := i64_succ (of_decide_eq_true ai) ab ho
        refine L_pu (P_add at_2 1 rfl rfl hp) ?_
        refine L_pu (P_assign (vi (at_2 + 1)) rfl) ?_
        refine L_nil ?_
        obtain ⟨hq, hr⟩ := H
        have dy := a7.stn ae
        have dz := b3.stn af
        have hs := ((a8.st dy).st dz)
        have ht := ((bb.st dy).st dz)
        have hu := ((bc.st dy).st dz)
        have hv := ((bd.sn ae).sn af)
        have hw := ((be.sn ae).sn af)
        have hx := ((bf.sn ae).sn af)
        exact ⟨(xs2, aa, ac, ad, i2, j2, k2, at_2 + 1), hr, hq, ⟨rfl, rfl, rfl, rfl, rfl, rfl, rfl, rfl, rfl, rfl, trivial⟩, cp, hs, ht, hu, hv, hw, hx⟩
       ·have H := ite_f H dx
        refine W_skip ?_
        refine W_seq ?_
        refine W_draw (fun x => Gr hd x none) (by kernel_rfl) (by kernel_rfl) (Gr.drew _) ?_
        refine Q_pu (P_move (.slice A1 n2 c3) rfl) ?_
        refine Q_pu (P_move (vi i2) rfl) ?_
        refine Q_pu (P_move (vi at_2) rfl) ?_
        obtain ⟨hy, H⟩ := H
        have d0 := a7.stn ae
        have d1 := b3.stn af
        have cq := ((a8.st d0).st d1)
        refine Q_cuts Try.underlying23 se23 A1 n2 c3 base_ rfl cq i2 at_2 rfl rfl hy fun bq br bs e3 => ?_
        refine Q_pu (P_move (.slice A6 n7 c8) rfl) ?_
        refine Q_pu (P_move (vi j2) rfl) ?_
        refine Q_pu (P_move (vi r3) rfl) ?_
        obtain ⟨hz, H⟩ := H
        have cr := ((bb.st d0).st d1)
        refine Q_cuts Try.underlying23 se23 A6 n7 c8 a rfl cr j2 r3 rfl rfl hz fun aw ax ay d2 => ?_
        refine Q_pu (P_move (.slice al am an) rfl) ?_
        refine Q_pu (P_move (vi k2) rfl) ?_
        refine Q_pu (P_move (vi r4) rfl) ?_
        obtain ⟨h0, H⟩ := H
        have cs := ((bc.st d0).st d1)
        refine Q_cuts Try.underlying23 se23 al am an b rfl cs k2 r4 rfl rfl h0 fun bh bi bj e4 => ?_
        refine Q_pu (P_assign (.slice bq br bs) rfl) ?_
        refine Q_pu (P_assign (.slice aw ax ay) rfl) ?_
        refine Q_pu (P_assign (.slice bh bi bj) rfl) ?_
        refine Q_nil fun h1 az => ?_
        have ct := cp.k0 az
        refine W_seq ?_
        refine W_block ?_
        refine W_seq ?_
        refine W_reg ?_
        refine L_pu (P_move (.slice aw ax ay) rfl) ?_
        refine L_pu (P_move (.slice bq br bs) rfl) ?_
        have aj := cp.stn az
        refine L_call go49 [.slice aw ax ay, .slice bq br bs] rfl ((slices_Equal_Pt.calls h1 ct.ok ((a.drop j2.toNat).take (r3.toNat - j2.toNat)) aw ax ay (d2.st aj) ((base_.drop i2.toNat).take (at_2.toNat - i2.toNat)) bq br bs (e3.st aj) _ H).mono ?_)
        rintro _ h2 ⟨r5, rfl, H, aq⟩
        have bt := ct.k0 aq
        refine L_pu (P_assign (vb r5) rfl) ?_
        refine L_nil ?_
        refine W_cond r5 rfl (fun d3 => ?_) (fun d3 => ?_)
        ·have H := ite_t H d3
         refine W_reg ?_
         refine L_pu (P_move (.slice aa ac ad) rfl) ?_
         refine L_pu (P_move (.slice bh bi bj) rfl) ?_
         have cu := ct.stn aq
         have h3 := ((e4.st aj).st cu)
         obtain ⟨h4, H⟩ := H
         have h5 := ((((bf.sn ae).sn af).sn az).sn aq)
         refine L_app ei23 bt (.slice aa ac ad) xs2 ((b.drop k2.toNat).take (r4.toNat - k2.toNat)) rfl h5 (.slice bh bi bj) rfl h3.sx 0 rfl h4 fun na d4 d5 d6 e5 b6 e6 h6 => ?_
         refine L_pu (P_assign (.slice d4 d5 d6) rfl) ?_
         refine L_nil ?_
         refine W_seq ?_
         refine W_seq ?_
         refine W_reg ?_
         refine L_pu (P_move (vi at_2) rfl) ?_
         refine L_pu (P_move (.slice A1 n2 c3) rfl) ?_
         have cv := (((cq.st aj).st cu).st b6)
         refine L_pu (P_len Try.underlying23 A1 n2 c3 cv.len rfl) ?_
         refine L_pu (P_cmp at_2 (base_.length : Int) (decide (at_2 < (base_.length : Int))) rfl rfl rfl) ?_
         refine L_nil ?_
         refine W_ct (b := decide (at_2 < (base_.length : Int))) rfl ai ?_
         refine W_reg ?_
         refine L_pu (P_move (.slice d4 d5 d6) rfl) ?_
         refine L_pu (P_move (.slice A1 n2 c3) rfl) ?_
         refine L_pu (P_move (vi at_2) rfl) ?_
         obtain ⟨e7, H⟩ := H
         obtain ⟨e8, nb, h7, nc, h8, h9⟩ := cv.get default (by decide) at_2 e7
         obtain rfl := kPt.op h8
         refine L_pu (P_ia Try.underlying23 se23 A1 e8 n2 c3 cv.len at_2 rfl h7 rfl e7) ?_
         refine L_pu (P_lda ag29 sz29 cL (e8.add (at_2.toNat * 2)) [vi ((nth base_ at_2).X), vi ((nth base_ at_2).Y)] rfl rfl h9) ?_
         refine L_lit (kd := kPt) ei23 e6 ([(nth base_ at_2)] : List Pt) (cells := [vi ((nth base_ at_2).X), vi ((nth base_ at_2).Y)]) ⟨[vi ((nth base_ at_2).X), vi ((nth base_ at_2).Y)], _, rfl, (kPt.mk _ _ (nth base_ at_2)), rfl⟩ (fun _ => by kernel_rfl) fun nd ia ib ic cw hr247 d7 id => ?_
         obtain ⟨ie, H⟩ := H
         have ig := (h6.so _ cw hr247)
         refine L_app ei23 d7 (.slice d4 d5 d6) (xs2 ++ ((b.drop k2.toNat).take (r4.toNat - k2.toNat))) ([(nth base_ at_2)] : List Pt) rfl ig (.slice ia ib ic) rfl id.sx 1 rfl ie fun ne e9 fa fb fc b7 b8 ih => ?_
         refine L_pu (P_assign (.slice e9 fa fb) rfl) ?_
         refine L_nil ?_
         refine W_reg ?_
         refine L_pu (P_move (vi at_2) rfl) ?_
         obtain ⟨ii, H⟩ := H
         have ij : I64 (at_2 + 1) := i64_succ (of_decide_eq_true ai) ab ii
         refine L_pu (P_add at_2 1 rfl rfl ij) ?_
         refine L_pu (P_move (vi r3) rfl) ?_
         obtain ⟨ik, H⟩ := H
         have il := ik (len_le ab) (len_le ag) (len_le ah)
         refine L_pu (P_add r3 1 rfl rfl il) ?_
         refine L_pu (P_move (vi r4) rfl) ?_
         obtain ⟨im, H⟩ := H
         have io := im (len_le ab) (len_le ag) (len_le ah)
         refine L_pu (P_add r4 1 rfl rfl io) ?_
         refine L_pu (P_assign (vi (at_2 + 1)) rfl) ?_
         refine L_pu (P_assign (vi (r3 + 1)) rfl) ?_
         refine L_pu (P_assign (vi (r4 + 1)) rfl) ?_
         refine L_nil ?_
         refine W_reg ?_
         refine L_pu (P_move (vi at_2) rfl) ?_
         obtain ⟨ip, H⟩ := H
         have iq : I64 (at_2 + 1) := i64_succ (of_decide_eq_true ai) ab ip
         refine L_pu (P_add at_2 1 rfl rfl iq) ?_
         refine L_pu (P_assign (vi (at_2 + 1)) rfl) ?_
         refine L_nil ?_
         have ir := b8.drop 0 rfl
         obtain ⟨it, iu⟩ := H
         have d8 := e6.stown _ cw hr247
         have d9 := b8.std 0 rfl
         have iv := (((cv.st d8).st b7).st d9)
         have iw := ((((((cr.st aj).st cu).st b6).st d8).st b7).st d9)
         have ix := ((((((cs.st aj).st cu).st b6).st d8).st b7).st d9)
         have iy := (b8.sd (d7.sm ((bt.sm ((((bd.sn ae).sn af).sn az).sn aq) 2 0 rfl rfl rfl e5 b6).so _ cw hr247) 3 1 rfl rfl rfl fc b7) 3 0 rfl rfl rfl)
         have iz := (b8.sd (d7.sm ((bt.sm ((((be.sn ae).sn af).sn az).sn aq) 1 0 rfl rfl rfl e5 b6).so _ cw hr247) 2 1 rfl rfl rfl fc b7) 2 0 rfl rfl rfl)
         have i0 := (b8.sd ih 1 0 rfl rfl rfl)
         exact ⟨(((xs2 ++ ((b.drop k2.toNat).take (r4.toNat - k2.toNat))) ++ ([(nth base_ at_2)] : List Pt)), e9, fa, fb, at_2 + 1, r3 + 1, r4 + 1, at_2 + 1), iu, it, ⟨rfl, rfl, rfl, rfl, rfl, rfl, rfl, rfl, rfl, rfl, trivial⟩, ir, iv, iw, ix, iy, iz, i0⟩
        ·have H := ite_f H d3
         refine W_seq ?_
         refine W_reg ?_
         refine L_pu (P_move (.slice bh bi bj) rfl) ?_
         refine L_pu (P_move (.slice bq br bs) rfl) ?_
         have a9 := ct.stn aq
         have fd := ((e4.st aj).st a9)
         have i1 := ((e3.st aj).st a9)
         refine L_call go49 [.slice bh bi bj, .slice bq br bs] rfl ((slices_Equal_Pt.calls h2 bt.ok ((b.drop k2.toNat).take (r4.toNat - k2.toNat)) bh bi bj fd ((base_.drop i2.toNat).take (at_2.toNat - i2.toNat)) bq br bs i1 _ H).mono ?_)
         rintro _ i3 ⟨r6, rfl, H, bl⟩
         have b4 := bt.k0 bl
         refine L_pu (P_move (vb r6) rfl) ?_
         rcases bool_or r6 with a0 | a0
         ·have H := ite_t H a0
          refine L_pass (dj := 91) rfl rfl (.inl (by exact congrArg Value.bool a0)) ?_
          refine L_pass (dj := 91) rfl rfl (.inl (by exact congrArg Value.bool a0)) ?_
          refine L_pass (dj := 91) rfl rfl (.inl (by exact congrArg Value.bool a0)) ?_
          refine L_pu (P_pick true (vb true) (by exact congrArg Value.bool a0) rfl) ?_
          refine L_pu (P_assign (vb true) rfl) ?_
          refine L_nil ?_
          refine W_ct (b := true) rfl rfl ?_
          refine W_reg ?_
          refine L_pu (P_move (.slice aa ac ad) rfl) ?_
          refine L_pu (P_move (.slice aw ax ay) rfl) ?_
          have cx := bt.stn bl
          have i4 := (((d2.st aj).st a9).st cx)
          obtain ⟨i5, H⟩ := H
          have i6 := (((((bf.sn ae).sn af).sn az).sn aq).sn bl)
          refine L_app ei23 b4 (.slice aa ac ad) xs2 ((a.drop j2.toNat).take (r3.toNat - j2.toNat)) rfl i6 (.slice aw ax ay) rfl i4.sx 0 rfl i5 fun nf ea eb ec fe b9 ff i7 => ?_
          refine L_pu (P_assign (.slice ea eb ec) rfl) ?_
          refine L_nil ?_
          refine W_seq ?_
          refine W_seq ?_
          refine W_reg ?_
          refine L_pu (P_move (vi at_2) rfl) ?_
          refine L_pu (P_move (.slice A1 n2 c3) rfl) ?_
          have cy := ((((cq.st aj).st a9).st cx).st b9)
          refine L_pu (P_len Try.underlying23 A1 n2 c3 cy.len rfl) ?_
          refine L_pu (P_cmp at_2 (base_.length : Int) (decide (at_2 < (base_.length : Int))) rfl rfl rfl) ?_
          refine L_nil ?_
          refine W_ct (b := decide (at_2 < (base_.length : Int))) rfl ai ?_
          refine W_reg ?_
          refine L_pu (P_move (.slice ea eb ec) rfl) ?_
          refine L_pu (P_move (.slice A1 n2 c3) rfl) ?_
          refine L_pu (P_move (vi at_2) rfl) ?_
          obtain ⟨fg, H⟩ := H
          obtain ⟨fh, ng, i8, nh, i9, ja⟩ := cy.get default (by decide) at_2 fg
          obtain rfl := kPt.op i9
          refine L_pu (P_ia Try.underlying23 se23 A1 fh n2 c3 cy.len at_2 rfl i8 rfl fg) ?_
          refine L_pu (P_lda ag29 sz29 cL (fh.add (at_2.toNat * 2)) [vi ((nth base_ at_2).X), vi ((nth base_ at_2).Y)] rfl rfl ja) ?_
          refine L_lit (kd := kPt) ei23 ff ([(nth base_ at_2)] : List Pt) (cells := [vi ((nth base_ at_2).X), vi ((nth base_ at_2).Y)]) ⟨[vi ((nth base_ at_2).X), vi ((nth base_ at_2).Y)], _, rfl, (kPt.mk _ _ (nth base_ at_2)), rfl⟩ (fun _ => by kernel_rfl) fun ni jb jc jd cz hr317 ed je => ?_
          obtain ⟨jf, H⟩ := H
          have jg := (i7.so _ cz hr317)
          refine L_app ei23 ed (.slice ea eb ec) (xs2 ++ ((a.drop j2.toNat).take (r3.toNat - j2.toNat))) ([(nth base_ at_2)] : List Pt) rfl jg (.slice jb jc jd) rfl je.sx 1 rfl jf fun nj fi fj fk fl ca cb jh => ?_
          refine L_pu (P_assign (.slice fi fj fk) rfl) ?_
          refine L_nil ?_
          refine W_reg ?_
          refine L_pu (P_move (vi at_2) rfl) ?_
          obtain ⟨ji, H⟩ := H
          have jj : I64 (at_2 + 1) := i64_succ (of_decide_eq_true ai) ab ji
          refine L_pu (P_add at_2 1 rfl rfl jj) ?_
          refine L_pu (P_move (vi r3) rfl) ?_
          obtain ⟨jk, H⟩ := H
          have jl := jk (len_le ab) (len_le ag) (len_le ah)
          refine L_pu (P_add r3 1 rfl rfl jl) ?_
          refine L_pu (P_move (vi r4) rfl) ?_
          obtain ⟨jm, H⟩ := H
          have jn := jm (len_le ab) (len_le ag) (len_le ah)
          refine L_pu (P_add r4 1 rfl rfl jn) ?_
          refine L_pu (P_assign (vi (at_2 + 1)) rfl) ?_
          refine L_pu (P_assign (vi (r3 + 1)) rfl) ?_
          refine L_pu (P_assign (vi (r4 + 1)) rfl) ?_
          refine L_nil ?_
          refine W_reg ?_
          refine L_pu (P_move (vi at_2) rfl) ?_
          obtain ⟨jo, H⟩ := H
          have jp : I64 (at_2 + 1) := i64_succ (of_decide_eq_true ai) ab jo
          refine L_pu (P_add at_2 1 rfl rfl jp) ?_
          refine L_pu (P_assign (vi (at_2 + 1)) rfl) ?_
          refine L_nil ?_
          have jq := cb.drop 0 rfl
          obtain ⟨jr, js⟩ := H
          have ee := ff.stown _ cz hr317
          have ef := cb.std 0 rfl
          have jt := (((cy.st ee).st ca).st ef)
          have ju := (((((((cr.st aj).st a9).st cx).st b9).st ee).st ca).st ef)
          have jv := (((((((cs.st aj).st a9).st cx).st b9).st ee).st ca).st ef)
          have jw := (cb.sd (ed.sm ((b4.sm (((((bd.sn ae).sn af).sn az).sn aq).sn bl) 2 0 rfl rfl rfl fe b9).so _ cz hr317) 3 1 rfl rfl rfl fl ca) 3 0 rfl rfl rfl)
          have jx := (cb.sd (ed.sm ((b4.sm (((((be.sn ae).sn af).sn az).sn aq).sn bl) 1 0 rfl rfl rfl fe b9).so _ cz hr317) 2 1 rfl rfl rfl fl ca) 2 0 rfl rfl rfl)
          have jy := (cb.sd jh 1 0 rfl rfl rfl)
          exact ⟨(((xs2 ++ ((a.drop j2.toNat).take (r3.toNat - j2.toNat))) ++ ([(nth base_ at_2)] : List Pt)), fi, fj, fk, at_2 + 1, r3 + 1, r4 + 1, at_2 + 1), js, jr, ⟨rfl, rfl, rfl, rfl, rfl, rfl, rfl, rfl, rfl, rfl, trivial⟩, jq, jt, ju, jv, jw, jx, jy⟩
         ·have H := ite_f H a0
          refine L_run (dj := 91) rfl rfl (by exact congrArg Value.bool a0) ?_
          refine L_pu (P_move (.slice aw ax ay) rfl) ?_
          refine L_run (dj := 91) rfl rfl (by exact congrArg Value.bool a0) ?_
          refine L_pu (P_move (.slice bh bi bj) rfl) ?_
          refine L_run (dj := 91) rfl rfl (by exact congrArg Value.bool a0) ?_
          have cc := bt.stn bl
          have fm := (((d2.st aj).st a9).st cc)
          refine L_call go49 [.slice aw ax ay, .slice bh bi bj] rfl ((slices_Equal_Pt.calls i3 b4.ok ((a.drop j2.toNat).take (r3.toNat - j2.toNat)) aw ax ay fm ((b.drop k2.toNat).take (r4.toNat - k2.toNat)) bh bi bj (fd.st cc) _ H).mono ?_)
          rintro _ nk ⟨r7, rfl, H, cd⟩
          have c1 := b4.k0 cd
          refine L_pu (P_pick false (vb r7) (by exact congrArg Value.bool a0) rfl) ?_
          refine L_pu (P_assign (vb r7) rfl) ?_
          refine L_nil ?_
          refine W_cond r7 rfl (fun eg => ?_) (fun eg => ?_)
          ·have H := ite_t H eg
           refine W_reg ?_
           refine L_pu (P_move (.slice aa ac ad) rfl) ?_
           refine L_pu (P_move (.slice aw ax ay) rfl) ?_
           have c2 := b4.stn cd
           obtain ⟨jz, H⟩ := H
           have j0 := ((((((bf.sn ae).sn af).sn az).sn aq).sn bl).sn cd)
           refine L_app ei23 c1 (.slice aa ac ad) xs2 ((a.drop j2.toNat).take (r3.toNat - j2.toNat)) rfl j0 (.slice aw ax ay) rfl (fm.st c2).sx 0 rfl jz fun nl eh ei ej fn ce fo j1 => ?_
           refine L_pu (P_assign (.slice eh ei ej) rfl) ?_
           refine L_nil ?_
           refine W_seq ?_
           refine W_seq ?_
           refine W_reg ?_
           refine L_pu (P_move (vi at_2) rfl) ?_
           refine L_pu (P_move (.slice A1 n2 c3) rfl) ?_
           have c4 := (((((cq.st aj).st a9).st cc).st c2).st ce)
           refine L_pu (P_len Try.underlying23 A1 n2 c3 c4.len rfl) ?_
           refine L_pu (P_cmp at_2 (base_.length : Int) (decide (at_2 < (base_.length : Int))) rfl rfl rfl) ?_
           refine L_nil ?_
           refine W_ct (b := decide (at_2 < (base_.length : Int))) rfl ai ?_
           refine W_reg ?_
           refine L_pu (P_move (.slice eh ei ej) rfl) ?_
           refine L_pu (P_move (.slice A1 n2 c3) rfl) ?_
           refine L_pu (P_move (vi at_2) rfl) ?_
           obtain ⟨fp, H⟩ := H
           obtain ⟨fq, nm, j3, nn, j4, j5⟩ := c4.get default (by decide) at_2 fp
           obtain rfl := kPt.op j4
           refine L_pu (P_ia Try.underlying23 se23 A1 fq n2 c3 c4.len at_2 rfl j3 rfl fp) ?_
           refine L_pu (P_lda ag29 sz29 cL (fq.add (at_2.toNat * 2)) [vi ((nth base_ at_2).X), vi ((nth base_ at_2).Y)] rfl rfl j5) ?_
           refine L_lit (kd := kPt) ei23 fo ([(nth base_ at_2)] : List Pt) (cells := [vi ((nth base_ at_2).X), vi ((nth base_ at_2).Y)]) ⟨[vi ((nth base_ at_2).X), vi ((nth base_ at_2).Y)], _, rfl, (kPt.mk _ _ (nth base_ at_2)), rfl⟩ (fun _ => by kernel_rfl) fun no j6 j7 j8 c5 hr385 ek j9 => ?_
           obtain ⟨ka, H⟩ := H
           have kb := (j1.so _ c5 hr385)
           refine L_app ei23 ek (.slice eh ei ej) (xs2 ++ ((a.drop j2.toNat).take (r3.toNat - j2.toNat))) ([(nth base_ at_2)] : List Pt) rfl kb (.slice j6 j7 j8) rfl j9.sx 1 rfl ka fun np fr fs ft fu cf cg kc => ?_
           refine L_pu (P_assign (.slice fr fs ft) rfl) ?_
           refine L_nil ?_
           refine W_reg ?_
           refine L_pu (P_move (vi at_2) rfl) ?_
           obtain ⟨ke, H⟩ := H
           have kf : I64 (at_2 + 1) := i64_succ (of_decide_eq_true ai) ab ke
           refine L_pu (P_add at_2 1 rfl rfl kf) ?_
           refine L_pu (P_move (vi r3) rfl) ?_
           obtain ⟨kg, H⟩ := H
           have kh := kg (len_le ab) (len_le ag) (len_le ah)
           refine L_pu (P_add r3 1 rfl rfl kh) ?_
           refine L_pu (P_move (vi r4) rfl) ?_
           obtain ⟨ki, H⟩ := H
           have kj := ki (len_le ab) (len_le ag) (len_le ah)
           refine L_pu (P_add r4 1 rfl rfl kj) ?_
           refine L_pu (P_assign (vi (at_2 + 1)) rfl) ?_
           refine L_pu (P_assign (vi (r3 + 1)) rfl) ?_
           refine L_pu (P_assign (vi (r4 + 1)) rfl) ?_
           refine L_nil ?_
           refine W_reg ?_
           refine L_pu (P_move (vi at_2) rfl) ?_
           obtain ⟨kk, H⟩ := H
           have kl : I64 (at_2 + 1) := i64_succ (of_decide_eq_true ai) ab kk
           refine L_pu (P_add at_2 1 rfl rfl kl) ?_
           refine L_pu (P_assign (vi (at_2 + 1)) rfl) ?_
           refine L_nil ?_
           have km := cg.drop 0 rfl
           obtain ⟨kn, ko⟩ := H
           have el := fo.stown _ c5 hr385
           have em := cg.std 0 rfl
           have kp := (((c4.st el).st cf).st em)
           have kq := ((((((((cr.st aj).st a9).st cc).st c2).st ce).st el).st cf).st em)
           have kr := ((((((((cs.st aj).st a9).st cc).st c2).st ce).st el).st cf).st em)
           have ks := (cg.sd (ek.sm ((c1.sm ((((((bd.sn ae).sn af).sn az).sn aq).sn bl).sn cd) 2 0 rfl rfl rfl fn ce).so _ c5 hr385) 3 1 rfl rfl rfl fu cf) 3 0 rfl rfl rfl)
           have kt := (cg.sd (ek.sm ((c1.sm ((((((be.sn ae).sn af).sn az).sn aq).sn bl).sn cd) 1 0 rfl rfl rfl fn ce).so _ c5 hr385) 2 1 rfl rfl rfl fu cf) 2 0 rfl rfl rfl)
           have ku := (cg.sd kc 1 0 rfl rfl rfl)
           exact ⟨(((xs2 ++ ((a.drop j2.toNat).take (r3.toNat - j2.toNat))) ++ ([(nth base_ at_2)] : List Pt)), fr, fs, ft, at_2 + 1, r3 + 1, r4 + 1, at_2 + 1), ko, kn, ⟨rfl, rfl, rfl, rfl, rfl, rfl, rfl, rfl, rfl, rfl, trivial⟩, km, kp, kq, kr, ks, kt, ku⟩
          ·have H := ite_f H eg
           refine W_seq ?_
           refine W_reg ?_
           refine L_lit (kd := kPt) ei23 c1 ([] : List Pt) (cells := []) rfl (fun _ => by kernel_rfl) fun kv c6 en eo nq hr424 fv kx => ?_
           refine L_pu (P_assign (.slice c6 en eo) rfl) ?_
           refine L_pu (P_assign (vb false) rfl) ?_
           refine L_nil ?_
           refine W_ret ?_
           have fw := fv.drop 1 rfl
           have fx := fw.drop 1 rfl
           have ep : Ct [] w0 kv [bk c6] O := fx.drop 1 rfl
           have ky := (fx.sd (fw.sd (fv.sd kx 0 1 rfl rfl rfl) 0 1 rfl rfl rfl) 0 1 rfl rfl rfl)
           exact ⟨[.slice c6 en eo, vb false], ⟨_, rfl, ⟨_, rfl, rfl⟩⟩, ([] : List Pt), false, c6, en, eo, rfl, H, ep.gr.g0, ep.ok, ep.ge, ky⟩
     ·have H := ite_f H ai
      refine W_skip ?_
      refine W_seq ?_
      refine W_draw (fun x => Gr a6 x none) (by kernel_rfl) (by kernel_rfl) (Gr.drew _) ?_
      refine Q_pu (P_move (.slice A1 n2 c3) rfl) ?_
      refine Q_pu (P_move (vi i2) rfl) ?_
      refine Q_pu (P_move (vi at_2) rfl) ?_
      obtain ⟨kz, H⟩ := H
      refine Q_cuts Try.underlying23 se23 A1 n2 c3 base_ rfl a8 i2 at_2 rfl rfl kz fun bu bv bw fy => ?_
      refine Q_pu (P_move (.slice A6 n7 c8) rfl) ?_
      refine Q_pu (P_move (vi j2) rfl) ?_
      refine Q_pu (P_move (vi (a.length : Int)) rfl) ?_
      obtain ⟨k1, H⟩ := H
      refine Q_cuts Try.underlying23 se23 A6 n7 c8 a rfl bb j2 (a.length : Int) rfl rfl k1 fun a1 a2 a3 eq => ?_
      refine Q_pu (P_move (.slice al am an) rfl) ?_
      refine Q_pu (P_move (vi k2) rfl) ?_
      refine Q_pu (P_move (vi (b.length : Int)) rfl) ?_
      obtain ⟨k3, H⟩ := H
      refine Q_cuts Try.underlying23 se23 al am an b rfl bc k2 (b.length : Int) rfl rfl k3 fun bm bn bo fz => ?_
      refine Q_pu (P_assign (.slice bu bv bw) rfl) ?_
      refine Q_pu (P_assign (.slice a1 a2 a3) rfl) ?_
      refine Q_pu (P_assign (.slice bm bn bo) rfl) ?_
      refine Q_nil fun k4 a4 => ?_
      have c7 := a7.k0 a4
      refine W_seq ?_
      refine W_block ?_
      refine W_seq ?_
      refine W_reg ?_
      refine L_pu (P_move (.slice a1 a2 a3) rfl) ?_
      refine L_pu (P_move (.slice bu bv bw) rfl) ?_
      have ak := a7.stn a4
      refine L_call go49 [.slice a1 a2 a3, .slice bu bv bw] rfl ((slices_Equal_Pt.calls k4 c7.ok ((a.drop j2.toNat).take ((a.length : Int).toNat - j2.toNat)) a1 a2 a3 (eq.st ak) ((base_.drop i2.toNat).take (at_2.toNat - i2.toNat)) bu bv bw (fy.st ak) _ H).mono ?_)
      rintro _ k5 ⟨r8, rfl, H, ar⟩
      have bx := c7.k0 ar
      refine L_pu (P_assign (vb r8) rfl) ?_
      refine L_nil ?_
      refine W_cond r8 rfl (fun er => ?_) (fun er => ?_)
      ·have H := ite_t H er
       refine W_reg ?_
       refine L_pu (P_move (.slice aa ac ad) rfl) ?_
       refine L_pu (P_move (.slice bm bn bo) rfl) ?_
       have c9 := c7.stn ar
       have k6 := ((fz.st ak).st c9)
       obtain ⟨k7, H⟩ := H
       have k8 := ((bf.sn a4).sn ar)
       refine L_app ei23 bx (.slice aa ac ad) xs2 ((b.drop k2.toNat).take ((b.length : Int).toNat - k2.toNat)) rfl k8 (.slice bm bn bo) rfl k6.sx 0 rfl k7 fun nr f0 f1 f2 f3 ch k9 la => ?_
       refine L_pu (P_assign (.slice f0 f1 f2) rfl) ?_
       refine L_nil ?_
       refine W_seq ?_
       refine W_seq ?_
       refine W_reg ?_
       refine L_pu (P_move (vi at_2) rfl) ?_
       refine L_pu (P_move (.slice A1 n2 c3) rfl) ?_
       have f4 := (((a8.st ak).st c9).st ch)
       refine L_pu (P_len Try.underlying23 A1 n2 c3 f4.len rfl) ?_
       refine L_pu (P_cmp at_2 (base_.length : Int) (decide (at_2 < (base_.length : Int))) rfl rfl rfl) ?_
       refine L_nil ?_
       refine W_cf (b := decide (at_2 < (base_.length : Int))) rfl ai ?_
       refine W_skip ?_
       refine W_reg ?_
       refine L_pu (P_move (vi at_2) rfl) ?_
       obtain ⟨lb, H⟩ := H
       have lc := lb (len_le ab) (len_le ag) (len_le ah)
       refine L_pu (P_add at_2 1 rfl rfl lc) ?_
       refine L_pu (P_move (vi (a.length : Int)) rfl) ?_
       obtain ⟨ld, H⟩ := H
       have lf := ld (len_le ab) (len_le ag) (len_le ah)
       refine L_pu (P_add (a.length : Int) 1 rfl rfl lf) ?_
       refine L_pu (P_move (vi (b.length : Int)) rfl) ?_
       obtain ⟨lg, H⟩ := H
       have lh := lg (len_le ab) (len_le ag) (len_le ah)
       refine L_pu (P_add (b.length : Int) 1 rfl rfl lh) ?_
       refine L_pu (P_assign (vi (at_2 + 1)) rfl) ?_
       refine L_pu (P_assign (vi ((a.length : Int) + 1)) rfl) ?_
       refine L_pu (P_assign (vi ((b.length : Int) + 1)) rfl) ?_
       refine L_nil ?_
       refine W_reg ?_
       refine L_pu (P_move (vi at_2) rfl) ?_
       obtain ⟨li, H⟩ := H
       have lj := li (len_le ab) (len_le ag) (len_le ah)
       refine L_pu (P_add at_2 1 rfl rfl lj) ?_
       refine L_pu (P_assign (vi (at_2 + 1)) rfl) ?_
       refine L_nil ?_
       obtain ⟨lk, ll⟩ := H
       have lm := (((bb.st ak).st c9).st ch)
       have ln := (((bc.st ak).st c9).st ch)
       have lo := (bx.sm ((bd.sn a4).sn ar) 2 0 rfl rfl rfl f3 ch)
       have lp := (bx.sm ((be.sn a4).sn ar) 1 0 rfl rfl rfl f3 ch)
       exact ⟨((xs2 ++ ((b.drop k2.toNat).take ((b.length : Int).toNat - k2.toNat))), f0, f1, f2, at_2 + 1, (a.length : Int) + 1, (b.length : Int) + 1, at_2 + 1), ll, lk, ⟨rfl, rfl, rfl, rfl, rfl, rfl, rfl, rfl, rfl, rfl, trivial⟩, k9, f4, lm, ln, lo, lp, la⟩
      ·have H := ite_f H er
       refine W_seq ?_
       refine W_reg ?_
       refine L_pu (P_move (.slice bm bn bo) rfl) ?_
       refine L_pu (P_move (.slice bu bv bw) rfl) ?_
       have ba := c7.stn ar
       have f5 := ((fz.st ak).st ba)
       have lq := ((fy.st ak).st ba)
       refine L_call go49 [.slice bm bn bo, .slice bu bv bw] rfl ((slices_Equal_Pt.calls k5 bx.ok ((b.drop k2.toNat).take ((b.length : Int).toNat - k2.toNat)) bm bn bo f5 ((base_.drop i2.toNat).take (at_2.toNat - i2.toNat)) bu bv bw lq _ H).mono ?_)
       rintro _ lr ⟨r9, rfl, H, bp⟩
       have b5 := bx.k0 bp
       refine L_pu (P_move (vb r9) rfl) ?_
       rcases bool_or r9 with a5 | a5
       ·have H := ite_t H a5
        refine L_pass (dj := 91) rfl rfl (.inl (by exact congrArg Value.bool a5)) ?_
        refine L_pass (dj := 91) rfl rfl (.inl (by exact congrArg Value.bool a5)) ?_
        refine L_pass (dj := 91) rfl rfl (.inl (by exact congrArg Value.bool a5)) ?_
        refine L_pu (P_pick true (vb true) (by exact congrArg Value.bool a5) rfl) ?_
        refine L_pu (P_assign (vb true) rfl) ?_
        refine L_nil ?_
        refine W_ct (b := true) rfl rfl ?_
        refine W_reg ?_
        refine L_pu (P_move (.slice aa ac ad) rfl) ?_
        refine L_pu (P_move (.slice a1 a2 a3) rfl) ?_
        have da := bx.stn bp
        have ls := (((eq.st ak).st ba).st da)
        obtain ⟨lt, H⟩ := H
        have lu := (((bf.sn a4).sn ar).sn bp)
        refine L_app ei23 b5 (.slice aa ac ad) xs2 ((a.drop j2.toNat).take ((a.length : Int).toNat - j2.toNat)) rfl lu (.slice a1 a2 a3) rfl ls.sx 0 rfl lt fun ns f6 f7 f8 f9 ci lv lw => ?_
        refine L_pu (P_assign (.slice f6 f7 f8) rfl) ?_
        refine L_nil ?_
        refine W_seq ?_
        refine W_seq ?_
        refine W_reg ?_
        refine L_pu (P_move (vi at_2) rfl) ?_
        refine L_pu (P_move (.slice A1 n2 c3) rfl) ?_
        have ga := ((((a8.st ak).st ba).st da).st ci)
        refine L_pu (P_len Try.underlying23 A1 n2 c3 ga.len rfl) ?_
        refine L_pu (P_cmp at_2 (base_.length : Int) (decide (at_2 < (base_.length : Int))) rfl rfl rfl) ?_
        refine L_nil ?_
        refine W_cf (b := decide (at_2 < (base_.length : Int))) rfl ai ?_
        refine W_skip ?_
        refine W_reg ?_
        refine L_pu (P_move (vi at_2) rfl) ?_
        obtain ⟨lx, H⟩ := H
        have ly := lx (len_le ab) (len_le ag) (len_le ah)
        refine L_pu (P_add at_2 1 rfl rfl ly) ?_
        refine L_pu (P_move (vi (a.length : Int)) rfl) ?_
        obtain ⟨lz, H⟩ := H
        have l0 := lz (len_le ab) (len_le ag) (len_le ah)
        refine L_pu (P_add (a.length : Int) 1 rfl rfl l0) ?_
        refine L_pu (P_move (vi (b.length : Int)) rfl) ?_
        obtain ⟨l1, H⟩ := H
        have l2 := l1 (len_le ab) (len_le ag) (len_le ah)
        refine L_pu (P_add (b.length : Int) 1 rfl rfl l2) ?_
        refine L_pu (P_assign (vi (at_2 + 1)) rfl) ?_
        refine L_pu (P_assign (vi ((a.length : Int) + 1)) rfl) ?_
        refine L_pu (P_assign (vi ((b.length : Int) + 1)) rfl) ?_
        refine L_nil ?_
        refine W_reg ?_
        refine L_pu (P_move (vi at_2) rfl) ?_
        obtain ⟨l3, H⟩ := H
        have l4 := l3 (len_le ab) (len_le ag) (len_le ah)
        refine L_pu (P_add at_2 1 rfl rfl l4) ?_
        refine L_pu (P_assign (vi (at_2 + 1)) rfl) ?_
        refine L_nil ?_
        obtain ⟨l5, l6⟩ := H
        have l7 := ((((bb.st ak).st ba).st da).st ci)
        have l8 := ((((bc.st ak).st ba).st da).st ci)
        have l9 := (b5.sm (((bd.sn a4).sn ar).sn bp) 2 0 rfl rfl rfl f9 ci)
        have ma := (b5.sm (((be.sn a4).sn ar).sn bp) 1 0 rfl rfl rfl f9 ci)
        exact ⟨((xs2 ++ ((a.drop j2.toNat).take ((a.length : Int).toNat - j2.toNat))), f6, f7, f8, at_2 + 1, (a.length : Int) + 1, (b.length : Int) + 1, at_2 + 1), l6, l5, ⟨rfl, rfl, rfl, rfl, rfl, rfl, rfl, rfl, rfl, rfl, trivial⟩, lv, ga, l7, l8, l9, ma, lw⟩
       ·have H := ite_f H a5
        refine L_run (dj := 91) rfl rfl (by exact congrArg Value.bool a5) ?_
        refine L_pu (P_move (.slice a1 a2 a3) rfl) ?_
        refine L_run (dj := 91) rfl rfl (by exact congrArg Value.bool a5) ?_
        refine L_pu (P_move (.slice bm bn bo) rfl) ?_
        refine L_run (dj := 91) rfl rfl (by exact congrArg Value.bool a5) ?_
        have cj := bx.stn bp
        have gb := (((eq.st ak).st ba).st cj)
        refine L_call go49 [.slice a1 a2 a3, .slice bm bn bo] rfl ((slices_Equal_Pt.calls lr b5.ok ((a.drop j2.toNat).take ((a.length : Int).toNat - j2.toNat)) a1 a2 a3 gb ((b.drop k2.toNat).take ((b.length : Int).toNat - k2.toNat)) bm bn bo (f5.st cj) _ H).mono ?_)
        rintro _ nt ⟨r10, rfl, H, ck⟩
        have db := b5.k0 ck
        refine L_pu (P_pick false (vb r10) (by exact congrArg Value.bool a5) rfl) ?_
        refine L_pu (P_assign (vb r10) rfl) ?_
        refine L_nil ?_
        refine W_cond r10 rfl (fun es => ?_) (fun es => ?_)
        ·have H := ite_t H es
         refine W_reg ?_
         refine L_pu (P_move (.slice aa ac ad) rfl) ?_
         refine L_pu (P_move (.slice a1 a2 a3) rfl) ?_
         have dc := b5.stn ck
         obtain ⟨mb, H⟩ := H
         have mc := ((((bf.sn a4).sn ar).sn bp).sn ck)
         refine L_app ei23 db (.slice aa ac ad) xs2 ((a.drop j2.toNat).take ((a.length : Int).toNat - j2.toNat)) rfl mc (.slice a1 a2 a3) rfl (gb.st dc).sx 0 rfl mb fun nu gc gd gf gg cl md me => ?_
         refine L_pu (P_assign (.slice gc gd gf) rfl) ?_
         refine L_nil ?_
         refine W_seq ?_
         refine W_seq ?_
         refine W_reg ?_
         refine L_pu (P_move (vi at_2) rfl) ?_
         refine L_pu (P_move (.slice A1 n2 c3) rfl) ?_
         have gh := (((((a8.st ak).st ba).st cj).st dc).st cl)
         refine L_pu (P_len Try.underlying23 A1 n2 c3 gh.len rfl) ?_
         refine L_pu (P_cmp at_2 (base_.length : Int) (decide (at_2 < (base_.length : Int))) rfl rfl rfl) ?_
         refine L_nil ?_
         refine W_cf (b := decide (at_2 < (base_.length : Int))) rfl ai ?_
         refine W_skip ?_
         refine W_reg ?_
         refine L_pu (P_move (vi at_2) rfl) ?_
         obtain ⟨mf, H⟩ := H
         have mg := mf (len_le ab) (len_le ag) (len_le ah)
         refine L_pu (P_add at_2 1 rfl rfl mg) ?_
         refine L_pu (P_move (vi (a.length : Int)) rfl) ?_
         obtain ⟨mh, H⟩ := H
         have mi := mh (len_le ab) (len_le ag) (len_le ah)
         refine L_pu (P_add (a.length : Int) 1 rfl rfl mi) ?_
         refine L_pu (P_move (vi (b.length : Int)) rfl) ?_
         obtain ⟨mj, H⟩ := H
         have ml := mj (len_le ab) (len_le ag) (len_le ah)
         refine L_pu (P_add (b.length : Int) 1 rfl rfl ml) ?_
         refine L_pu (P_assign (vi (at_2 + 1)) rfl) ?_
         refine L_pu (P_assign (vi ((a.length : Int) + 1)) rfl) ?_
         refine L_pu (P_assign (vi ((b.length : Int) + 1)) rfl) ?_
         refine L_nil ?_
         refine W_reg ?_
         refine L_pu (P_move (vi at_2) rfl) ?_
         obtain ⟨mm, H⟩ := H
         have mn := mm (len_le ab) (len_le ag) (len_le ah)
         refine L_pu (P_add at_2 1 rfl rfl mn) ?_
         refine L_pu (P_assign (vi (at_2 + 1)) rfl) ?_
         refine L_nil ?_
         obtain ⟨mo, mp⟩ := H
         have mq := (((((bb.st ak).st ba).st cj).st dc).st cl)
         have mr := (((((bc.st ak).st ba).st cj).st dc).st cl)
         have ms := (db.sm ((((bd.sn a4).sn ar).sn bp).sn ck) 2 0 rfl rfl rfl gg cl)
         have mt := (db.sm ((((be.sn a4).sn ar).sn bp).sn ck) 1 0 rfl rfl rfl gg cl)
         exact ⟨((xs2 ++ ((a.drop j2.toNat).take ((a.length : Int).toNat - j2.toNat))), gc, gd, gf, at_2 + 1, (a.length : Int) + 1, (b.length : Int) + 1, at_2 + 1), mp, mo, ⟨rfl, rfl, rfl, rfl, rfl, rfl, rfl, rfl, rfl, rfl, trivial⟩, md, gh, mq, mr, ms, mt, me⟩
        ·have H := ite_f H es
         refine W_seq ?_
         refine W_reg ?_
         refine L_lit (kd := kPt) ei23 db ([] : List Pt) (cells := []) rfl (fun _ => by kernel_rfl) fun mu dd et eu nv hr569 gi mv => ?_
         refine L_pu (P_assign (.slice dd et eu) rfl) ?_
         refine L_pu (P_assign (vb false) rfl) ?_
         refine L_nil ?_
         refine W_ret ?_
         have gj := gi.drop 1 rfl
         have gk := gj.drop 1 rfl
         have ev : Ct [] w0 mu [bk dd] O := gk.drop 1 rfl
         have mw := (gk.sd (gj.sd (gi.sd mv 0 1 rfl rfl rfl) 0 1 rfl rfl rfl) 0 1 rfl rfl rfl)
         exact ⟨[.slice dd et eu, vb false], ⟨_, rfl, ⟨_, rfl, rfl⟩⟩, ([] : List Pt), false, dd, et, eu, rfl, H, ev.gr.g0, ev.ok, ev.ge, mw⟩
    ·have H := ite_f H du
     refine W_exit (xin_hit ?_)
     refine W_seq ?_
     refine W_reg ?_
     refine L_pu (P_move (.slice aa ac ad) rfl) ?_
     refine L_pu (P_assign (.slice aa ac ad) rfl) ?_
     refine L_pu (P_assign (vb true) rfl) ?_
     refine L_nil ?_
     refine W_ret ?_
     have gl := a7.drop 1 rfl
     have ew := gl.drop 1 rfl
     have mx := (gl.sd (a7.sd bf 0 1 rfl rfl rfl) 0 1 rfl rfl rfl)
     exact ⟨[.slice aa ac ad, vb true], ⟨_, rfl, ⟨_, rfl, rfl⟩⟩, xs2, true, aa, ac, ad, rfl, H, ew.gr.g0, ew.ok, ew.ge, mx⟩
end Go.Proofs.Ytndjggncgpjolaa

namespace Go.Proofs.Ytndjggncgpjolaa
open Go.RowKit
set_option linter.unusedVariables false
set_option linter.unusedSimpArgs false
def impl_cloneShape.E (s : Shape) (Q : Shape → Prop) : Prop :=
 (([] : List Pt).length + s.Pts.length ≤ 268435456) ∧ Q (⟨s.Kind, (([] : List Pt) ++ s.Pts)⟩ : Shape)
set_option maxHeartbeats 8000000 in
set_option maxRecDepth 100000 in
theorem impl_cloneShape.calls {O : Ob} (w0 : World) (hO : Ok w0 O) (s : Shape) (A1 : Option Addr) (n2 c3 : Nat) (hp4 : Sl kPt w0 (Fr O) (.slice A1 n2 c3) s.Pts) (Q : Shape → Prop) (h : impl_cloneShape.E s Q) :
  Ret Try.prog 97 [.agg #[vi s.Kind, .slice A1 n2 c3]] w0 (fun v w' => ∃ (r0 : Shape) (A0 : Option Addr) (n0 c0 : Nat), v = .agg #[vi r0.Kind, .slice A0 n0 c0] ∧ Q r0 ∧ Gr w0 w' none ∧ Ok w' ([bk A0] ++ O) ∧ (∀ b, some b ∈ [bk A0] → w0.heap.size ≤ b) ∧ Ow kPt 29 w' ([bk A0] ++ O) (.slice A0 n0 c0) r0.Pts) := by
 unfold impl_cloneShape.E at h
 have H := h
 clear h
 have hc0 := Ct.init hO
 refine Ret_enter Try.func97 rfl 10 rfl [.cell 2 68] rfl rfl ?_
 refine W_seq ?_
 refine W_reg ?_
 refine L_box [vi s.Kind, .slice A1 n2 c3] rfl fun w6 b7 hl9 hu10 g8 ay => ?_
 have az := Fb.mk hc0.ok hl9 ay
 have ap := hc0.k0 g8
 refine L_alloc [.int .i64 0, .slice none 0 0] ze68 fun be ae aq hu19 ar a0 => ?_
 have au := ap.own ar (some ae) (oglt aq hu19)
 refine L_nil ?_
 refine W_seq ?_
 refine W_mixr 8 [some ae] (by kernel_rfl) rfl fun bf ag aa => ?_
 have ah := au.k0 ag
 refine M_pu 0 rfl (by kernel_rfl) aa (P_fa fa68_0 ⟨b7, 0, none⟩ ⟨b7, 0, none⟩ rfl rfl) ?_
 have a1 := ap.stown _ ar (oge aq)
 have a2 := au.stn ag
 have af := ((az.st a1).st a2)
 refine M_pu 1 rfl (by kernel_rfl) aa (P_ldr ag3 cR ⟨b7, 0, none⟩ (vi s.Kind) rfl (af.cell rfl) (nm_cons (ah.fne 0 af.2 rfl) nm_nil)) ?_
 refine M_pu 3 rfl (by kernel_rfl) aa (P_fa fa68_1 ⟨b7, 0, none⟩ ⟨b7, 1, none⟩ rfl rfl) ?_
 refine M_pu 4 rfl (by kernel_rfl) aa (P_ldr ag23 cR ⟨b7, 1, none⟩ (.slice A1 n2 c3) rfl (af.cell rfl) (nm_cons (ah.fne 0 af.2 rfl) nm_nil)) ?_
 refine M_any1 2 (by kernel_rfl) rfl ?_
 refine L_lit (kd := kPt) ei23 ah ([] : List Pt) (cells := []) rfl (fun _ => by kernel_rfl) fun bg av a3 a4 aw hr35 ai a5 => ?_
 have aj := Gm.tm aa aw
 refine L_nil ⟨aj, ?_⟩
 refine M_any1 5 (by kernel_rfl) rfl ?_
 obtain ⟨a6, H⟩ := H
 refine L_app ei23 ai (.slice av a3 a4) ([] : List Pt) s.Pts rfl a5 (.slice A1 n2 c3) rfl (hp4.st ai.st).sx 0 rfl a6 fun bh ab ac ad ax a7 ak a8 => ?_
 have al := Gm.tq aj ax (hv_new aa hr35)
 have bi := hv_app (L := [bk av, some ae]) (O := O) (i := 0) aj rfl (hv_new aa hr35) a7 ak
 refine L_nil ⟨al, ?_⟩
 refine M_pu 6 rfl (by kernel_rfl) al (P_build (.agg #[vi s.Kind, .slice ab ac ad]) (fun _ => by kernel_rfl)) ?_
 refine M_any1 7 (by kernel_rfl) rfl ?_
 have a9 := (ai.bm ((a0.k0 ag).k0 aw) 1 0 rfl rfl rfl ax)
 refine L_stb ae 0 [vi 0, .slice none 0 0] [vi s.Kind, .slice ab ac ad] [vi s.Kind, .slice ab ac ad] rfl a9 rfl sz68 rfl rfl rfl fun bj am ba => ?_
 have an := ak.wr 1 rfl am
 have bb := Gm.tq al am (hv_mem 0 rfl)
 refine L_nil ⟨bb, ?_⟩
 refine M_nil (by kernel_rfl) ?_
 refine W_ret ?_
 have bc := an.bgv ba 1 rfl
 have ao := an.drop 1 rfl
 have bd := (an.sd (ak.sw a8 0 1 rfl rfl rfl am) 0 1 rfl rfl rfl)
 exact ⟨[.agg #[vi s.Kind, .slice ab ac ad]], ⟨_, _, rfl, bc.1.res rfl ag68 sz68, rfl⟩, (⟨s.Kind, (([] : List Pt) ++ s.Pts)⟩ : Shape), ab, ac, ad, rfl, H, ao.gr.g0, ao.ok, ao.ge, bd⟩
end Go.Proofs.Ytndjggncgpjolaa

namespace Go.Proofs.Ytndjggncgpjolaa
open Go.RowKit
set_option linter.unusedSimpArgs false
set_option linter.unusedVariables false
section
variable {P : Program} {n : Nat} {N R : Ps} {X : Nat → Ps} {t : Tm} {w : World} {ops : Array Oper} {rest : List Oper} {ty : TypeId} {pos : String} {aft : Array Edge} {x y : Operand} {d : Nat} {C : World → Prop}
theorem P_capn {T e : TypeId} (hu : P.underlying T = some (.slice e)) (hx : evt n t x = .slice none 0 0) : Pu P n t C ⟨some d, .call ⟨.builtin .cap, #[x], #[T]⟩, ty, pos, aft, none⟩ (vi 0) := fun w hw => by
  simp [execOp, resolve, hx, invoke, builtin, Builtin.cap_, run_underlying hu]; rfl
theorem P_cutn {T e : TypeId} {s : Nat} (hu : P.underlying T = some (.slice e)) (hs : SizeOf P e s) {lo hi : Option Operand} (hx : evt n t x = .slice none 0 0) (hlo : bound n t lo 0 0) (hhi : bound n t hi ((0 : Nat) : Int) 0) :
    Pu P n t C ⟨some d, .slice T x lo hi none, ty, pos, aft, none⟩ (.slice none 0 0) := by
  have h := P_cut (C := C) (d := d) (ty := ty) (pos := pos) (aft := aft) hu hs none 0 0 hx 0 0 hlo hhi ⟨Int.le_refl _, Int.le_refl _, Int.le_refl _⟩
  rw [show (0 : Int).toNat = 0 from rfl, sliced0] at h
  exact h
theorem run_append_zeros (T U e : TypeId) (i : TypeInfo) (z : Value) (k : IntKind) (ht : P.underlying T = some (.slice e)) (hu : P.underlying U = some (.int k)) (hi : P.info? e = some i) (hz : i.zero = some z) (m : Nat) (h0 : 0 < m) (hm : (m : Int) ≤ 268435456) (hb : i.bytes ≤ 524288) (hsz : 0 < i.size) :
    (Builtin.append_ #[T, U] ty #[.slice none 0 0, vi (m : Int)]).run P w = .ok (.slice (some ⟨w.heap.size, 0, none⟩) m (grownCap w m 0 e)) (w.drew.alloc (.cells (Builtin.zeroCells z.cells m ++ Builtin.zeroCells z.cells (grownCap w m 0 e - m)) e)) := by
  have hw : I64 (m : Int) := by unfold I64; omega
  have hn : m ≠ 0 := by omega
  have h1 : ¬ ((m : Int) < 0) := by omega
  have hmul : m * i.bytes ≤ 140737488355328 := Nat.le_trans (Nat.mul_le_mul (show m ≤ 268435456 by omega) hb) (by omega)
  have h2 : ¬ ((281474976710656 : Int) < (m : Int) * (i.bytes : Int)) := by
    have : ((m * i.bytes : Nat) : Int) ≤ 140737488355328 := by omega
    rw [Int.natCast_mul] at this; omega
  have h63' : ¬ (9223372036854775807 < (m : Int)) := by omega
  have h48' : ¬ (281474976710656 < Builtin.nextslicecap m 0 * i.bytes) := by rw [nextslicecap_zero h0]; omega
  have hms : ¬ (m * i.size = 0) := by have := Nat.mul_pos h0 hsz; omega
  have hms2 : ¬ i.size = 0 := by omega
  simp [Builtin.append_, run_underlying ht, run_underlying hu, sizeOf, typeInfo, zeroValue, hi, hz, hn, h1, h2, h63', h48', hms2, Question.forced, run_firstCells_none, newRow, grownCap, hw.wrap, asInt, asIntOf]
  intro h; exact absurd h hms
theorem zero_list (zc : List Value) (hpos : 0 < zc.length) (m : Nat) : (Builtin.zeroCells zc.toArray m).toList = (List.replicate m zc).flatten := by
  have := made_list zc hpos m
  rw [← this]
  simp only [Builtin.zeroCells, madeCells, List.size_toArray]
theorem L_appz {T U e : TypeId} {k0 : IntKind} {bytes : Nat} {zc : List Value} {α : Type} {kd : Kd α} (E : EI P T e kd.sz bytes zc) (hU : P.underlying U = some (.int k0)) {O M : Ob} {w0 : World} {mr : Ob} (hC : Ct mr w0 w M O) (z : α) (hz : kd.R w (Fr (M ++ O)) z zc) (m : Int) (hx : evt n t x = .slice none 0 0) (hy : evt n t y = vi m) (hm : 0 < m ∧ m ≤ 268435456)
    (k : ∀ w' A l c, Gr w w' none → (∀ b, bk A = some b → w.heap.size ≤ b) → Ct mr w0 w' (bk A :: M) O →
      Ow kd e w' (bk A :: M ++ O) (.slice A l c) (List.replicate m.toNat z) → L P n ops N R X rest (upd d (.slice A l c) t) w') :
    L P n ops N R X (⟨some d, .call ⟨.builtin .append, #[x, y], #[T, U]⟩, ty, pos, aft, none⟩ :: rest) t w := by
  obtain ⟨ti, zv, hti, hzv, hsz, hb, hzc⟩ := E.inf
  have hbb := E.byt
  have hmn : ((m.toNat : Nat) : Int) = m := by omega
  have hr := run_append_zeros (P := P) (w := w) (ty := ty) T U e ti zv k0 E.un hU hti hzv m.toNat (by omega) (by omega) (by omega) (by rw [hsz]; exact E.pos)
  rw [hmn] at hr
  have hzl : zv.cells = zc.toArray := by rw [← hzc]
  have hpos : 0 < zc.length := by rw [E.len]; exact E.pos
  have harr := Arr.rep (w := w) z zc hz m.toNat
  have hal := harr.len
  rw [List.length_replicate] at hal
  have g : Gr w (w.drew.alloc (.cells (Builtin.zeroCells zv.cells m.toNat ++ Builtin.zeroCells zv.cells (grownCap w m.toNat 0 e - m.toNat)) e)) none := (Gr.drew w).t0 (Gr.alloc _ _)
  have hge := grownCap_ge w m.toNat 0 e
  have hle := grownCap_le_maxLen w m.toNat 0 e (by unfold maxLen; omega)
  have e1 : (Builtin.zeroCells zv.cells m.toNat).toList = (List.replicate m.toNat zc).flatten := by rw [hzl]; exact zero_list zc hpos _
  have e2 : (Builtin.zeroCells zv.cells (grownCap w m.toNat 0 e - m.toNat)).size = (grownCap w m.toNat 0 e - m.toNat) * kd.sz := by simp only [Builtin.zeroCells, Array.size_map, Array.size_range]; rw [hzl, List.size_toArray, E.len]
  have e3 : (Builtin.zeroCells zv.cells m.toNat).size = m.toNat * kd.sz := by simp only [Builtin.zeroCells, Array.size_map, Array.size_range]; rw [hzl, List.size_toArray, E.len]
  refine L_op rfl (.slice (some ⟨w.heap.size, 0, none⟩) (List.replicate m.toNat z).length (grownCap w m.toNat 0 e)) _ (by rw [List.length_replicate]; simp [execOp, resolve, hx, hy, invoke, builtin, hr]) (k _ (some ⟨w.heap.size, 0, none⟩) _ _ g (fun b e => by cases e; exact Nat.le_refl _)
    (hC.own g _ fun b e => by cases e; simp) ⟨(List.replicate m.toNat zc).flatten, ?_, ?_, fun b e => by rw [← e]; exact List.mem_cons_self⟩)
  · rw [List.length_replicate]
    refine ⟨by rw [hal], .inr ⟨w.heap.size, grownCap w m.toNat 0 e, _, rfl, Nat.zero_le _, heap_alloc_new w.drew _, hge, hle, ?_, ?_⟩⟩
    · rw [Array.size_append, e2, e3, ← Nat.add_mul]; congr 1; omega
    · rw [Array.toList_append, e1, List.take_left']
      rw [hal]
  · exact (harr.mono fun b hS hb => (⟨hS, hb⟩ : some b ∉ M ++ O ∧ b < w.heap.size)).keep (fun b hS hb => g.block b hb (by simp)) |>.mono fun b hS _ hm => by
      rcases List.mem_cons.1 hm with e' | hm
      · cases e'; exact absurd hS.2 (Nat.lt_irrefl _)
      · exact hS.1 hm
end
end Go.Proofs.Ytndjggncgpjolaa
