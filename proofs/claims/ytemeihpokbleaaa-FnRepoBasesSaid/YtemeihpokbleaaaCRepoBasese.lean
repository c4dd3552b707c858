/- It is proved here that the law FnRepoBases of the given program holds whatever it is handed: the walks through the code, the plain laws and the row, in this order.
   Conditions: none. -/
import Derived.Below
import Derived.ChangeArms
import Derived.ChangeOld
import Derived.ChangeSlices
import Derived.DataReads
import Derived.Deep.Quiet
import Derived.KernelRfl
import Derived.Laws.Build
import Derived.Laws.IdiomStrings
import Derived.Laws.OwnMore
import Derived.Laws.Slices
import Derived.Laws.Strings2
import Derived.Laws.StructEq
import Derived.OpenShut
import Derived.ProofKit
import Derived.Shelf.Slices.CompactS
import Derived.Shelf.Sort.Plain
import Derived.ShutString
import Derived.SizedLaws
import Derived.StillTail
import Derived.Test.YtemeihpokbleaaaProg
import Derived.Test.YtemeihpokbleaaaRows
import Derived.WalkKit
import Derived.Test.YtemeihpokbleaaaCRepoBasesa
import Derived.Test.YtemeihpokbleaaaCRepoBasesb
import Derived.Test.YtemeihpokbleaaaCRepoBasesc
import Derived.Test.YtemeihpokbleaaaCRepoBasesd
namespace Go.Proofs.Ytemeihpokbleaaa
set_option linter.unusedVariables false
set_option linter.unusedSimpArgs false
set_option linter.unusedSectionVars false
set_option maxHeartbeats 8000000
set_option maxRecDepth 100000
open Go.RowKit
variable {O : Ob} {w0 : World}
def laws_FnRepoBases.E (code : List UInt8) (Q : Bool → Prop) : Prop :=
 (if decide ((code.length : Int) > 1048576) then Q true else F10.E code (fun r r2 r3 => F37.E r r2 r3 (fun r4 => F38.E r r2 r3 (fun r5 => F37.E r r3 r2 (fun r6 => (if (r4.length : Int) != (r5.length : Int) then Q false else (if (r6.length : Int) != (r4.length : Int) then Q false else F67.E r (fun r7 => (if !r7 then Q ((r4.length : Int) == 0) else (if decide (r2 < 0) then Q ((r4.length : Int) == 0) else (if decide (r3 < 0) then Q ((r4.length : Int) == 0) else (if decide (r2 ≥ (r.Commits.length : Int)) then Q ((r4.length : Int) == 0) else (if decide (r3 ≥ (r.Commits.length : Int)) then Q ((r4.length : Int) == 0) else (∃ (I228 : (List Int) → (List Int) → (List Int) → Int → (List Commit) → (List Head) → Prop) (mu229 : (List Int) → (List Int) → (List Int) → Int → (List Commit) → (List Head) → Nat), I228 r4 r5 r6 0 r.Commits r.Heads ∧ ∀ (xs6 xs7 xs8 : List Int) (i2 : Int) (xs9 : List Commit) (xs10 : List Head), I228 xs6 xs7 xs8 i2 xs9 xs10 → (if decide (i2 < (xs6.length : Int)) then ((0 : Int) ≤ i2 ∧ i2 < (xs6.length : Int)) ∧ ((0 : Int) ≤ i2 ∧ i2 < (xs7.length : Int)) ∧ (if (nth xs6 i2) != (nth xs7 i2) then Q false else ((0 : Int) ≤ i2 ∧ i2 < (xs8.length : Int)) ∧ ((0 : Int) ≤ i2 ∧ i2 < (xs6.length : Int)) ∧ (if (nth xs8 i2) != (nth xs6 i2) then Q false else ((0 : Int) ≤ i2 ∧ i2 < (xs6.length : Int)) ∧ (∃ q : Bool, F35.E (⟨xs9, xs10⟩ : Repo) (nth xs6 i2) r2 (fun x => x = q) ∧ (if !q then Q false else ((0 : Int) ≤ i2 ∧ i2 < (xs6.length : Int)) ∧ (∃ q2 : Bool, F35.E (⟨xs9, xs10⟩ : Repo) (nth xs6 i2) r3 (fun x => x = q2) ∧ (if !q2 then Q false else (∃ (I379 : Int → Prop) (mu380 : Int → Nat), I379 0 ∧ ∀ (k2 : Int), I379 k2 → (if decide (k2 < (xs6.length : Int)) then (if k2 != i2 then ((0 : Int) ≤ k2 ∧ k2 < (xs6.length : Int)) ∧ ((0 : Int) ≤ i2 ∧ i2 < (xs6.length : Int)) ∧ (∃ q3 : Bool, F35.E (⟨xs9, xs10⟩ : Repo) (nth xs6 k2) (nth xs6 i2) (fun x => x = q3) ∧ (if q3 then Q false else (-9223372036854775808 ≤ k2) ∧ I379 (k2 + 1) ∧ mu380 (k2 + 1) < mu380 k2)) else (-9223372036854775808 ≤ k2) ∧ I379 (k2 + 1) ∧ mu380 (k2 + 1) < mu380 k2) else (-9223372036854775808 ≤ i2) ∧ I228 xs6 xs7 xs8 (i2 + 1) xs9 xs10 ∧ mu229 xs6 xs7 xs8 (i2 + 1) xs9 xs10 < mu229 xs6 xs7 xs8 i2 xs9 xs10)))))))) else (∃ (I505 : (List Int) → Int → (List Commit) → (List Head) → Prop) (mu506 : (List Int) → Int → (List Commit) → (List Head) → Nat), I505 xs6 0 xs9 xs10 ∧ ∀ (xs14 : List Int) (i4 : Int) (xs15 : List Commit) (xs16 : List Head), I505 xs14 i4 xs15 xs16 → (if decide (i4 < (xs15.length : Int)) then (∃ (I544 : Bool → Int → Prop) (mu545 : Bool → Int → Nat), I544 false 0 ∧ ∀ (some2 : Bool) (k4 : Int), I544 some2 k4 → (if decide (k4 < (xs14.length : Int)) then (if some2 then (-9223372036854775808 ≤ k4) ∧ I544 true (k4 + 1) ∧ mu545 true (k4 + 1) < mu545 some2 k4 else ((0 : Int) ≤ k4 ∧ k4 < (xs14.length : Int)) ∧ (∃ q4 : Bool, F35.E (⟨xs15, xs16⟩ : Repo) i4 (nth xs14 k4) (fun x => x = q4) ∧ (-9223372036854775808 ≤ k4) ∧ I544 q4 (k4 + 1) ∧ mu545 q4 (k4 + 1) < mu545 some2 k4)) else F35.E (⟨xs15, xs16⟩ : Repo) i4 r2 (fun r12 => (if r12 then F35.E (⟨xs15, xs16⟩ : Repo) i4 r3 (fun r13 => (if some2 != r13 then Q false else ((xs14.length : Int) ≤ 9223372036854775807 → I64 (i4 + 1)) ∧ I505 xs14 (i4 + 1) xs15 xs16 ∧ mu506 xs14 (i4 + 1) xs15 xs16 < mu506 xs14 i4 xs15 xs16)) else (if some2 != false then Q false else ((xs14.length : Int) ≤ 9223372036854775807 → I64 (i4 + 1)) ∧ I505 xs14 (i4 + 1) xs15 xs16 ∧ mu506 xs14 (i4 + 1) xs15 xs16 < mu506 xs14 i4 xs15 xs16))))) else (if decide ((xs14.length : Int) > 0) then F35.E (⟨xs15, xs16⟩ : Repo) r2 r3 (fun r14 => (if !r14 then Q true else (if (xs14.length : Int) == 1 then ((0 : Int) ≤ 0 ∧ 0 < (xs14.length : Int)) ∧ Q ((nth xs14 0) == r2) else Q false))) else Q false))))))))))))))))))
theorem laws_FnRepoBases.calls {O : Ob} (w0 : World) (hO : Ok w0 O) (code : List UInt8) (A1 : Option Addr) (n2 c3 : Nat) (hp4 : Sl Kd.byte w0 (Fr O) (G A1 n2 c3) code) (Q : Bool → Prop) (h : laws_FnRepoBases.E code Q) :
  Ret Try.prog 6 [G A1 n2 c3] w0 (fun v w' => ∃ (r0 : Bool), v = vb r0 ∧ Q r0 ∧ Gr w0 w' none) := by
 unfold laws_FnRepoBases.E at h;have H := h;clear h;have hc0 := Ct.init hO;refine X9 Try.func6 Z 199 Z [.tmp 2] Z Z ?_;refine Xc (Xd (Xf (vb false) Z (Xb (Xc (Xc (Xd (Xe (G A1 n2 c3) Z ?_)))))));have hl6 := hp4.le;refine Xa (X4 u22_ A1 n2 c3 hp4.len Z) (Xa (Xw (code.length : Int) 1048576 (decide ((code.length : Int) > 1048576)) Z Z Z) (Xb ?_));refine Xy (decide ((code.length : Int) > 1048576)) Z (fun hq7 => ?_) (fun hq7 => ?_)
 ·have H := Xm H hq7;exact Xc (Xd (Xf (vb true) Z (Xb (Xj ⟨[vb true], ⟨_, Z, Z⟩, true, Z, H, hc0.gr.g0⟩))))
 have H := Xn H hq7;refine Xz (Xc (Xd (Xe (G A1 n2 c3) Z ?_)));refine Xu go17 (F10.calls H hc0.ok hp4) Z ?_;rintro _ w8 ⟨r, r2, r3, ac, an, ao, ad, a0, a1, rfl, H, g9, ff, fg, cp, cq⟩;have fh := hc0.owns g9 ff fg;refine Xe (.tuple #[.agg #[G ac an ao, G ad a0 a1], vi r2, vi r3]) Z (Xa (Y9 [.agg #[G ac an ao, G ad a0 a1], vi r2, vi r3] 0 (.agg #[G ac an ao, G ad a0 a1]) Z Z) (Xa (Y9 [.agg #[G ac an ao, G ad a0 a1], vi r2, vi r3] 1 (vi r2) Z Z) (Xa (Y9 [.agg #[G ac an ao, G ad a0 a1], vi r2, vi r3] 2 (vi r3) Z Z) (Yi [G none 0 0, G none 0 0] ze26 fun ml aa bo hu28 bp fi => ?_))));have bq := fh.own bp (some aa) (Yf bo hu28);refine X3 [G ac an ao, G ad a0 a1] fi Z Z sz26 Z Z fun fj br ef => ?_;have cr := bq.wr 0 Z br;refine Xf (vi r2) Z (Xf (vi r3) Z (Xb (Xc (Xd (Xa (Xx ag26 sz26 cL (Ad aa 0) [G ac an ao, G ad a0 a1] Z Z (ef.cells (off := 00) Z)) (Xe (vi r2) Z (Xe (vi r3) Z ?_)))))));have fk := (bq.sw (cp.so _ bp (Xp bo)) 1 0 Z Z Z br);have fl := cr.gv fk 1 Z;have dg := cr.drop 1 Z;have fm := (cr.sd (bq.sw (cq.so _ bp (Xp bo)) 2 0 Z Z Z br) 2 1 Z Z Z);have fn := dg.gv fm 1 Z;have fo := dg.drop 1 Z;have fp := dg.std 1 Z;refine Xu go18 (F37.calls H fo.ok (fl.st fp) fn) Z ?_;rintro _ fq ⟨r4, ae, a9, ba, rfl, H, bs, fr, bv, fs⟩;have ft := Ok.unl (L := [some aa, bk ac, bk ad]) (L' := [some aa]) (O := O) cr bs fr bv;have fu := Ow.unl (L := [some aa, bk ac, bk ad]) (L' := [some aa]) (O := O) (fun _ _ _ _ _ _ h => h) (.cons_cons _ (.cons _ (.cons _ (.slnil)))) fs;have cs := cr.owns bs ft bv;refine Xf (G ae a9 ba) Z (Xb (Xc (Xd ?_)));have eg := (ef.k0 bs);refine Xa (Xx ag26 sz26 cL (Ad aa 0) [G ac an ao, G ad a0 a1] Z Z (eg.cells (off := 00) Z)) (Xe (vi r2) Z (Xe (vi r3) Z ?_));have fv := ((bq.sw (cp.so _ bp (Xp bo)) 1 0 Z Z Z br).sos bs bv);have fw := cs.gv fv 2 Z;have dh := cs.drop 2 Z;have fx := (cs.sd ((bq.sw (cq.so _ bp (Xp bo)) 2 0 Z Z Z br).sos bs bv) 3 2 Z Z Z);have fy := dh.gv fx 2 Z;have fz := dh.drop 2 Z;have f0 := dh.std 2 Z;refine Xu go19 (F38.calls H fz.ok (fw.st f0) fy) Z ?_;rintro _ f1 ⟨r5, av, cz, c0, rfl, H, bw, f2, bz, f3⟩;have f4 := Ok.unl (L := [bk ae, some aa, bk ac, bk ad]) (L' := [bk ae, some aa]) (O := O) cs bw f2 bz;have f5 := Ow.unl (L := [bk ae, some aa, bk ac, bk ad]) (L' := [bk ae, some aa]) (O := O) (fun _ _ _ _ _ _ h => h) (.cons_cons _ (.cons_cons _ (.cons _ (.cons _ (.slnil))))) f3;have ct := cs.owns bw f4 bz;refine Xf (G av cz c0) Z (Xb (Xc (Xd ?_)));have eh := (eg.k0 bw);refine Xa (Xx ag26 sz26 cL (Ad aa 0) [G ac an ao, G ad a0 a1] Z Z (eh.cells (off := 00) Z)) (Xe (vi r3) Z (Xe (vi r2) Z ?_));have f6 := (((bq.sw (cp.so _ bp (Xp bo)) 1 0 Z Z Z br).sos bs bv).sos bw bz);have f7 := ct.gv f6 3 Z;have di := ct.drop 3 Z;have f8 := (ct.sd (((bq.sw (cq.so _ bp (Xp bo)) 2 0 Z Z Z br).sos bs bv).sos bw bz) 4 3 Z Z Z);have f9 := di.gv f8 3 Z;have ga := di.drop 3 Z;have gb := di.std 3 Z;refine Xu go18 (F37.calls H ga.ok (f7.st gb) f9) Z ?_;rintro _ gc ⟨r6, a5, c1, c2, rfl, H, b0, gd, b8, ge⟩;have gf := Ok.unl (L := [bk av, bk ae, some aa, bk ac, bk ad]) (L' := [bk av, bk ae, some aa]) (O := O) ct b0 gd b8;have dk := Ow.unl (L := [bk av, bk ae, some aa, bk ac, bk ad]) (L' := [bk av, bk ae, some aa]) (O := O) (fun _ _ _ _ _ _ h => h) (.cons_cons _ (.cons_cons _ (.cons_cons _ (.cons _ (.cons _ (.slnil)))))) ge;have ck := ct.owns b0 gf b8;refine Xf (G a5 c1 c2) Z (Xb (Xc (Xc (Xd (Xe (G ae a9 ba) Z ?_)))));have b1 := ((fu.sos bw bz).sos b0 b8);have mm := b1.le;refine Xa (X4 u30_ ae a9 ba b1.len Z) (Xe (G av cz c0) Z ?_);have dl := (f5.sos b0 b8);have mn := dl.le;refine Xa (X4 u30_ av cz c0 dl.len Z) (Xa (Xw (r4.length : Int) (r5.length : Int) ((r4.length : Int) != (r5.length : Int)) Z Z Z) (Xe (vb ((r4.length : Int) != (r5.length : Int))) Z ?_));rcases X7 ((r4.length : Int) != (r5.length : Int)) with bf | bf
 ·have H := Xm H bf;refine Xl bf Z (Xl bf Z (Xl bf Z (Xl bf Z (Xl bf Z (Xa (Xt true (vb true) bf Z) (Xb (Yn (b := true) Z Z ?_)))))));refine Xc ?_;have gg : ([bk a5, bk av, bk ae, some aa, bk ac, bk ad] : Ob).Perm ((bk a5 :: bk av :: bk ae :: some aa :: bk ac :: bk ad :: []) ++ []) := RP;have gh := ck.drops gg;exact Xd (Xf (vb false) Z (Xb (Xj ⟨[vb false], ⟨_, Z, Z⟩, false, Z, H, gh.gr.g0⟩)))
 have H := Xn H bf;refine Xk bf Z (Xe (G a5 c1 c2) Z (Xk bf Z ?_));have mo := dk.le;refine Xa (X4 u30_ a5 c1 c2 dk.len Z) (Xk bf Z (Xe (G ae a9 ba) Z (Xk bf Z (Xa (X4 u30_ ae a9 ba b1.len Z) (Xk bf Z (Xa (Xw (r6.length : Int) (r4.length : Int) ((r6.length : Int) != (r4.length : Int)) Z Z Z) (Xa (Xt false (vb ((r6.length : Int) != (r4.length : Int))) bf Z) (Xb ?_))))))));refine Xy ((r6.length : Int) != (r4.length : Int)) Z (fun dm => ?_) (fun dm => ?_)
 ·have H := Xm H dm;refine Xc ?_;have gi : ([bk a5, bk av, bk ae, some aa, bk ac, bk ad] : Ob).Perm ((bk a5 :: bk av :: bk ae :: some aa :: bk ac :: bk ad :: []) ++ []) := RP;have gj := ck.drops gi;exact Xd (Xf (vb false) Z (Xb (Xj ⟨[vb false], ⟨_, Z, Z⟩, false, Z, H, gj.gr.g0⟩)))
 have H := Xn H dm;refine Xz (Xc (Xc (Xd ?_)));have ei := (eh.k0 b0);refine Xa (Xx ag26 sz26 cL (Ad aa 0) [G ac an ao, G ad a0 a1] Z Z (ei.cells (off := 00) Z)) ?_;have gk := ((((bq.sw (cp.so _ bp (Xp bo)) 1 0 Z Z Z br).sos bs bv).sos bw bz).sos b0 b8);have gl := ck.gv gk 4 Z;have dn := ck.drop 4 Z;have gm := (ck.sd ((((bq.sw (cq.so _ bp (Xp bo)) 2 0 Z Z Z br).sos bs bv).sos bw bz).sos b0 b8) 5 4 Z Z Z);have gn := dn.gv gm 4 Z;have gp := dn.drop 4 Z;have gq := dn.std 4 Z;refine Xu go13 (F67.calls H gp.ok (gl.st gq) gn) Z ?_;rintro _ mp ⟨r7, rfl, H, bm⟩;have bt := ck.k0 bm;refine Xa (Yk r7 Z) (Xe (vb (!r7)) Z ?_);rcases X7 (!r7) with b2 | b2
 ·have H := Xm H b2;refine Xl b2 Z (Xl b2 Z (Xa (Xt true (vb true) b2 Z) (Xe (vb true) Z (X0 (dj := 54) Z Z (.inl Z) (X0 (dj := 54) Z Z (.inl Z) (Xa (Xt true (vb true) Z Z) (Xe (vb true) Z (X0 (dj := 58) Z Z (.inl Z) ?_))))))));refine X0 (dj := 58) Z Z (.inl Z) (X0 (dj := 58) Z Z (.inl Z) (X0 (dj := 58) Z Z (.inl Z) (X0 (dj := 58) Z Z (.inl Z) (Xa (Xt true (vb true) Z Z) (Xe (vb true) Z (X0 (dj := 65) Z Z (.inl Z) (X0 (dj := 65) Z Z (.inl Z) (X0 (dj := 65) Z Z (.inl Z) ?_))))))));refine X0 (dj := 65) Z Z (.inl Z) (X0 (dj := 65) Z Z (.inl Z) (Xa (Xt true (vb true) Z Z) (Xb (Yn (b := true) Z Z ?_))));refine Xc ?_;have ej : ([bk a5, bk av, bk ae, some aa, bk ac, bk ad] : Ob).Perm ((bk a5 :: bk av :: some aa :: bk ac :: bk ad :: []) ++ [bk ae]) := RP;have gs := bt.drops ej;refine Xd (Xe (G ae a9 ba) Z ?_);have gt := (bt.odr (b1.sn bm) ej 0 Z);refine Xa (X4 u30_ ae a9 ba gt.len Z) (Xa (Xw (r4.length : Int) 0 ((r4.length : Int) == 0) Z Z Z) (Xf (vb ((r4.length : Int) == 0)) Z (Xb (Xj ?_))));have gu := gs.drop 0 Z;exact ⟨[vb ((r4.length : Int) == 0)], ⟨_, Z, Z⟩, (r4.length : Int) == 0, Z, H, gu.gr.g0⟩
 have H := Xn H b2;refine Xk b2 Z (Xe (vi r2) Z (Xk b2 Z (Xa (Xw r2 0 (decide (r2 < 0)) Z Z Z) (Xa (Xt false (vb (decide (r2 < 0))) b2 Z) (Xe (vb (decide (r2 < 0))) Z ?_)))));rcases X7 (decide (r2 < 0)) with b3 | b3
 ·have H := Xm H b3;refine Xl b3 Z (Xl b3 Z (Xa (Xt true (vb true) b3 Z) (Xe (vb true) Z (X0 (dj := 58) Z Z (.inl Z) (X0 (dj := 58) Z Z (.inl Z) (X0 (dj := 58) Z Z (.inl Z) (X0 (dj := 58) Z Z (.inl Z) (X0 (dj := 58) Z Z (.inl Z) ?_))))))));refine Xa (Xt true (vb true) Z Z) (Xe (vb true) Z (X0 (dj := 65) Z Z (.inl Z) (X0 (dj := 65) Z Z (.inl Z) (X0 (dj := 65) Z Z (.inl Z) (X0 (dj := 65) Z Z (.inl Z) (X0 (dj := 65) Z Z (.inl Z) (Xa (Xt true (vb true) Z Z) (Xb ?_))))))));refine Yn (b := true) Z Z ?_;refine Xc ?_;have ek : ([bk a5, bk av, bk ae, some aa, bk ac, bk ad] : Ob).Perm ((bk a5 :: bk av :: some aa :: bk ac :: bk ad :: []) ++ [bk ae]) := RP;have gw := bt.drops ek;refine Xd (Xe (G ae a9 ba) Z ?_);have gx := (bt.odr (b1.sn bm) ek 0 Z);refine Xa (X4 u30_ ae a9 ba gx.len Z) (Xa (Xw (r4.length : Int) 0 ((r4.length : Int) == 0) Z Z Z) (Xf (vb ((r4.length : Int) == 0)) Z (Xb (Xj ?_))));have gy := gw.drop 0 Z;exact ⟨[vb ((r4.length : Int) == 0)], ⟨_, Z, Z⟩, (r4.length : Int) == 0, Z, H, gy.gr.g0⟩
 have H := Xn H b3;refine Xk b3 Z (Xe (vi r3) Z (Xk b3 Z (Xa (Xw r3 0 (decide (r3 < 0)) Z Z Z) (Xa (Xt false (vb (decide (r3 < 0))) b3 Z) (Xe (vb (decide (r3 < 0))) Z ?_)))));rcases X7 (decide (r3 < 0)) with bg | bg
 ·have H := Xm H bg;refine Xl bg Z (Xl bg Z (Xl bg Z (Xl bg Z (Xl bg Z (Xa (Xt true (vb true) bg Z) (Xe (vb true) Z (X0 (dj := 65) Z Z (.inl Z) (X0 (dj := 65) Z Z (.inl Z) ?_))))))));refine X0 (dj := 65) Z Z (.inl Z) (X0 (dj := 65) Z Z (.inl Z) (X0 (dj := 65) Z Z (.inl Z) (Xa (Xt true (vb true) Z Z) (Xb (Yn (b := true) Z Z ?_)))));refine Xc ?_;have el : ([bk a5, bk av, bk ae, some aa, bk ac, bk ad] : Ob).Perm ((bk a5 :: bk av :: some aa :: bk ac :: bk ad :: []) ++ [bk ae]) := RP;have gz := bt.drops el;refine Xd (Xe (G ae a9 ba) Z ?_);have g1 := (bt.odr (b1.sn bm) el 0 Z);refine Xa (X4 u30_ ae a9 ba g1.len Z) (Xa (Xw (r4.length : Int) 0 ((r4.length : Int) == 0) Z Z Z) (Xf (vb ((r4.length : Int) == 0)) Z (Xb (Xj ?_))));have g3 := gz.drop 0 Z;exact ⟨[vb ((r4.length : Int) == 0)], ⟨_, Z, Z⟩, (r4.length : Int) == 0, Z, H, g3.gr.g0⟩
 have H := Xn H bg;refine Xk bg Z (Xe (vi r2) Z (Xk bg Z (Xa (Xh fa26_0 (Ad aa 0) (Ad aa 0) Z Z) (Xk bg Z ?_))));have dp := (ei.k0 bm);refine Xa (Xi ag23 cL (Ad aa 0) (G ac an ao) Z (dp.cell Z)) (Xk bg Z ?_);have c4 := (((((bq.sw (cp.so _ bp (Xp bo)) 1 0 Z Z Z br).sos bs bv).sos bw bz).sos b0 b8).sn bm);have mq := c4.le;refine Xa (X4 u23_ ac an ao c4.len Z) (Xk bg Z (Xa (Xw r2 (r.Commits.length : Int) (decide (r2 ≥ (r.Commits.length : Int))) Z Z Z) (Xa (Yp false (vb (decide (r2 ≥ (r.Commits.length : Int)))) (by exact congrArg Value.bool bg) Z) (Xe (vb (decide (r2 ≥ (r.Commits.length : Int)))) Z ?_))));rcases X7 (decide (r2 ≥ (r.Commits.length : Int))) with bh | bh
 ·have H := Xm H bh;refine Xl bh Z (Xl bh Z (Xl bh Z (Xl bh Z (Xl bh Z (Xa (Xt true (vb true) bh Z) (Xb (Yn (b := true) Z Z ?_)))))));refine Xc ?_;have em : ([bk a5, bk av, bk ae, some aa, bk ac, bk ad] : Ob).Perm ((bk a5 :: bk av :: some aa :: bk ac :: bk ad :: []) ++ [bk ae]) := RP;have g4 := bt.drops em;refine Xd (Xe (G ae a9 ba) Z ?_);have g5 := (bt.odr (b1.sn bm) em 0 Z);refine Xa (X4 u30_ ae a9 ba g5.len Z) (Xa (Xw (r4.length : Int) 0 ((r4.length : Int) == 0) Z Z Z) (Xf (vb ((r4.length : Int) == 0)) Z (Xb (Xj ?_))));have g6 := g4.drop 0 Z;exact ⟨[vb ((r4.length : Int) == 0)], ⟨_, Z, Z⟩, (r4.length : Int) == 0, Z, H, g6.gr.g0⟩
 have H := Xn H bh;refine Xk bh Z (Xe (vi r3) Z (Xk bh Z (Xa (Xh fa26_0 (Ad aa 0) (Ad aa 0) Z Z) (Xk bh Z (Xa (Xi ag23 cL (Ad aa 0) (G ac an ao) Z (dp.cell Z)) (Xk bh Z (Xa (X4 u23_ ac an ao c4.len Z) (Xk bh Z ?_))))))));refine Xa (Xw r3 (r.Commits.length : Int) (decide (r3 ≥ (r.Commits.length : Int))) Z Z Z) (Xa (Yp false (vb (decide (r3 ≥ (r.Commits.length : Int)))) (by exact congrArg Value.bool bh) Z) (Xb ?_));refine Xy (decide (r3 ≥ (r.Commits.length : Int))) Z (fun dq => ?_) (fun dq => ?_)
 ·have H := Xm H dq;refine Xc ?_;have en : ([bk a5, bk av, bk ae, some aa, bk ac, bk ad] : Ob).Perm ((bk a5 :: bk av :: some aa :: bk ac :: bk ad :: []) ++ [bk ae]) := RP;have g7 := bt.drops en;refine Xd (Xe (G ae a9 ba) Z ?_);have g8 := (bt.odr (b1.sn bm) en 0 Z);refine Xa (X4 u30_ ae a9 ba g8.len Z) (Xa (Xw (r4.length : Int) 0 ((r4.length : Int) == 0) Z Z Z) (Xf (vb ((r4.length : Int) == 0)) Z (Xb (Xj ?_))));have ha := g7.drop 0 Z;exact ⟨[vb ((r4.length : Int) == 0)], ⟨_, Z, Z⟩, (r4.length : Int) == 0, Z, H, ha.gr.g0⟩
 have H := Xn H dq;refine Xz (Xc (Xc (Xd (Xf (vi 0) Z (Xb (X6 ?_))))));obtain ⟨hb, hc, dr, H⟩ := H;have hd := (b1.sn bm);have he := (dl.sn bm);have hf := (dk.sn bm);have hg := (((((bq.sw (cq.so _ bp (Xp bo)) 2 0 Z Z Z br).sos bs bv).sos bw bz).sos b0 b8).sn bm);refine Yh (α := (List Int) × (Option Addr) × Nat × Nat × (List Int) × (Option Addr) × Nat × Nat × (List Int) × (Option Addr) × Nat × Nat × Int × (List Commit) × (Option Addr) × Nat × Nat × (List Head) × (Option Addr) × Nat × Nat) (fun (xs6, ab, ap, aq, xs7, ak, b9, ca, xs8, al, cb, cc, i2, xs9, af, bb, bc, xs10, ag, bd, be) t b4 => hb xs6 xs7 xs8 i2 xs9 xs10 ∧ Has t [(3, Pz aa), (4, vi r2), (5, vi r3), (6, G ab ap aq), (7, G ak b9 ca), (8, G al cb cc), (9, vi i2)] ∧ Cw [] w0 b4 [bk al, bk ak, bk ab, some aa, bk af, bk ag] O fun M => Ow (Kd.int .i64) 3 b4 M (G ab ap aq) xs6 ∧ Ow (Kd.int .i64) 3 b4 M (G ak b9 ca) xs7 ∧ Ow (Kd.int .i64) 3 b4 M (G al cb cc) xs8 ∧ Ow kCommit 33 b4 M (G af bb bc) xs9 ∧ Ow kHead 35 b4 M (G ag bd be) xs10 ∧ Bx b4 aa [G af bb bc, G ag bd be]) (fun (xs6, _, _, _, xs7, _, _, _, xs8, _, _, _, i2, xs9, _, _, _, xs10, _, _, _) => hc xs6 xs7 xs8 i2 xs9 xs10) (r4, ae, a9, ba, r5, av, cz, c0, r6, a5, c1, c2, 0, r.Commits, ac, an, ao, r.Heads, ad, a0, a1) ⟨dr, (Xv Z), bt, hd, he, hf, c4, hg, dp⟩ ?_;rintro ⟨xs6, ab, ap, aq, xs7, ak, b9, ca, xs8, al, cb, cc, i2, xs9, af, bb, bc, xs10, ag, bd, be⟩ _ b4 ⟨dr, hh, bj, bn, ds, dt, c5, c6, c7⟩;obtain ⟨mr, rfl⟩ := Has.ins hh;have H := H xs6 xs7 xs8 i2 xs9 xs10 dr;refine Xc (Xc (Xd (Xe (vi i2) Z (Xe (G ab ap aq) Z ?_))));have ms := bn.le;refine Xa (X4 u30_ ab ap aq bn.len Z) (Xa (Xw i2 (xs6.length : Int) (decide (i2 < (xs6.length : Int))) Z Z Z) (Xb ?_));refine Xy (decide (i2 < (xs6.length : Int))) Z (fun c8 => ?_) (fun c8 => ?_)
 ·have H := Xm H c8;refine Xz (Xc (X6 (Xc (Xc (Yv (fun x => Gr b4 x none) RK RK (Gr.drew _) ?_)))));refine X1 (G ab ap aq) Z (X1 (vi i2) Z ?_);obtain ⟨eo, H⟩ := H;obtain ⟨ep, mt, hi, hj, hk⟩ := bn.get default RD i2 eo;obtain rfl := Kd.int.op hj;refine Xg (X2 u30_ Yt ab ep ap aq bn.len i2 Z hi Z eo) (Xg (Xi ag3 cQ (ep.add (i2.toNat * 1)) (vi (nth xs6 i2)) Z (hk 0 _ Z)) (X1 (G ak b9 ca) Z (X1 (vi i2) Z ?_)));obtain ⟨eq, H⟩ := H;obtain ⟨er, mu, hl, hm, hn⟩ := ds.get default RD i2 eq;obtain rfl := Kd.int.op hm;refine Xg (X2 u30_ Yt ak er b9 ca ds.len i2 Z hl Z eq) (Xg (Xi ag3 cQ (er.add (i2.toNat * 1)) (vi (nth xs7 i2)) Z (hn 0 _ Z)) (Xg (Xw (nth xs6 i2) (nth xs7 i2) ((nth xs6 i2) != (nth xs7 i2)) Z Z Z) (X1 (vb ((nth xs6 i2) != (nth xs7 i2))) Z ?_)));rcases X7 ((nth xs6 i2) != (nth xs7 i2)) with ar | ar
  ·have H := Xm H ar;refine Xr ar Z (Xr ar Z (Xr ar Z (Xr ar Z (Xr ar Z (Xr ar Z (Xr ar Z (Xr ar Z (Xr ar Z ?_))))))));refine Xg (Xt true (vb true) ar Z) (X1 (vb true) Z (Yo (dj := 101) Z Z (.inl Z) (Yo (dj := 101) Z Z (.inl Z) (Yo (dj := 101) Z Z (.inl Z) (Yo (dj := 101) Z Z (.inl Z) (Yo (dj := 101) Z Z (.inl Z) (Yo (dj := 101) Z Z (.inl Z) (Yo (dj := 101) Z Z (.inl Z) ?_))))))));refine Yo (dj := 101) Z Z (.inl Z) (Xg (Xt true (vb true) Z Z) (X1 (vb true) Z (Yo (dj := 111) Z Z (.inl Z) (Yo (dj := 111) Z Z (.inl Z) (Yo (dj := 111) Z Z (.inl Z) (Yo (dj := 111) Z Z (.inl Z) (Yo (dj := 111) Z Z (.inl Z) (Yo (dj := 111) Z Z (.inl Z) ?_))))))));refine Yo (dj := 111) Z Z (.inl Z) (Yo (dj := 111) Z Z (.inl Z) (Xg (Xt true (vb true) Z Z) (Yg fun mv ho => ?_)));have hp := bj.k0 ho;refine Yn (b := true) Z Z ?_;refine Xc ?_;have hq : ([bk al, bk ak, bk ab, some aa, bk af, bk ag] : Ob).Perm ((bk al :: bk ak :: bk ab :: some aa :: bk af :: bk ag :: []) ++ []) := RP;have hr := hp.drops hq;exact Xd (Xf (vb false) Z (Xb (Xj ⟨[vb false], ⟨_, Z, Z⟩, false, Z, H, hr.gr.g0⟩)))
  have H := Xn H ar;refine Xq ar Z (X1 (G al cb cc) Z (Xq ar Z (X1 (vi i2) Z (Xq ar Z ?_))));obtain ⟨es, H⟩ := H;obtain ⟨et, mw, hs, ht, hu⟩ := dt.get default RD i2 es;obtain rfl := Kd.int.op ht;refine Xg (X2 u30_ Yt al et cb cc dt.len i2 Z hs Z es) (Xq ar Z (Xg (Xi ag3 cQ (et.add (i2.toNat * 1)) (vi (nth xs8 i2)) Z (hu 0 _ Z)) (Xq ar Z (X1 (G ab ap aq) Z (Xq ar Z (X1 (vi i2) Z (Xq ar Z ?_)))))));obtain ⟨eu, H⟩ := H;obtain ⟨ev, mx, hv, hw, hx⟩ := bn.get default RD i2 eu;obtain rfl := Kd.int.op hw;refine Xg (X2 u30_ Yt ab ev ap aq bn.len i2 Z hv Z eu) (Xq ar Z (Xg (Xi ag3 cQ (ev.add (i2.toNat * 1)) (vi (nth xs6 i2)) Z (hx 0 _ Z)) (Xq ar Z (Xg (Xw (nth xs8 i2) (nth xs6 i2) ((nth xs8 i2) != (nth xs6 i2)) Z Z Z) (Xg (Xt false (vb ((nth xs8 i2) != (nth xs6 i2))) ar Z) (X1 (vb ((nth xs8 i2) != (nth xs6 i2))) Z ?_))))));rcases X7 ((nth xs8 i2) != (nth xs6 i2)) with aw | aw
  ·have H := Xm H aw;refine Xr aw Z (Xr aw Z (Xr aw Z (Xr aw Z (Xr aw Z (Xr aw Z (Xr aw Z (Xr aw Z (Xg (Xt true (vb true) aw Z) ?_))))))));refine X1 (vb true) Z (Yo (dj := 111) Z Z (.inl Z) (Yo (dj := 111) Z Z (.inl Z) (Yo (dj := 111) Z Z (.inl Z) (Yo (dj := 111) Z Z (.inl Z) (Yo (dj := 111) Z Z (.inl Z) (Yo (dj := 111) Z Z (.inl Z) (Yo (dj := 111) Z Z (.inl Z) (Yo (dj := 111) Z Z (.inl Z) ?_))))))));refine Xg (Xt true (vb true) Z Z) (Yg fun my hy => ?_);have hz := bj.k0 hy;refine Yn (b := true) Z Z ?_;refine Xc ?_;have h0 : ([bk al, bk ak, bk ab, some aa, bk af, bk ag] : Ob).Perm ((bk al :: bk ak :: bk ab :: some aa :: bk af :: bk ag :: []) ++ []) := RP;have h1 := hz.drops h0;exact Xd (Xf (vb false) Z (Xb (Xj ⟨[vb false], ⟨_, Z, Z⟩, false, Z, H, h1.gr.g0⟩)))
  have H := Xn H aw;refine Xq aw Z (Xg (Xx ag26 sz26 cQ (Ad aa 0) [G af bb bc, G ag bd be] Z Z (c7.cells (off := 00) Z)) (Xq aw Z (X1 (G ab ap aq) Z (Xq aw Z (X1 (vi i2) Z (Xq aw Z ?_))))));obtain ⟨ew, H⟩ := H;obtain ⟨ex, mz, h2, h3, h4⟩ := bn.get default RD i2 ew;obtain rfl := Kd.int.op h3;refine Xg (X2 u30_ Yt ab ex ap aq bn.len i2 Z h2 Z ew) (Xq aw Z (Xg (Xi ag3 cQ (ex.add (i2.toNat * 1)) (vi (nth xs6 i2)) Z (h4 0 _ Z)) (Xq aw Z (X1 (vi r2) Z (Xq aw Z ?_)))));have h5 := bj.gv c5 4 Z;have du := bj.drop 4 Z;have h6 := (bj.sd c6 5 4 Z Z Z);have h7 := du.gv h6 4 Z;have h8 := du.drop 4 Z;have h9 := du.std 4 Z;obtain ⟨q, ia, H⟩ := H;refine Y7 go11 [.agg #[G af bb bc, G ag bd be], vi (nth xs6 i2), vi r2] Z (vb q) (fun w g => (F35.calls ia (h8.k0 g).ok ((h5.st h9).st (.new _ g)) (h7.st (.new _ g))).mono ?_) ?_
  ·rintro _ w ⟨r, rfl, rfl, g2⟩;exact ⟨Z, Gr.t0 g g2⟩
  refine Xq aw Z (Xg (Yk q Z) (Xg (Xt false (vb (!q)) aw Z) (X1 (vb (!q)) Z ?_)));rcases X7 (!q) with ax | ax
  ·have H := Xm H ax;refine Xr ax Z (Xr ax Z (Xr ax Z (Xr ax Z (Xr ax Z (Xr ax Z (Xr ax Z (Xr ax Z (Xg (Xt true (vb true) ax Z) ?_))))))));refine Yg fun m0 ib => ?_;have ic := bj.k0 ib;refine Yn (b := true) Z Z ?_;refine Xc ?_;have id : ([bk al, bk ak, bk ab, some aa, bk af, bk ag] : Ob).Perm ((bk al :: bk ak :: bk ab :: some aa :: bk af :: bk ag :: []) ++ []) := RP;have ie := ic.drops id;exact Xd (Xf (vb false) Z (Xb (Xj ⟨[vb false], ⟨_, Z, Z⟩, false, Z, H, ie.gr.g0⟩)))
  have H := Xn H ax;refine Xq ax Z (Xg (Xx ag26 sz26 cQ (Ad aa 0) [G af bb bc, G ag bd be] Z Z (c7.cells (off := 00) Z)) (Xq ax Z (X1 (G ab ap aq) Z (Xq ax Z (X1 (vi i2) Z (Xq ax Z ?_))))));obtain ⟨ey, H⟩ := H;obtain ⟨ez, m1, ig, ih, ii⟩ := bn.get default RD i2 ey;obtain rfl := Kd.int.op ih;refine Xg (X2 u30_ Yt ab ez ap aq bn.len i2 Z ig Z ey) (Xq ax Z (Xg (Xi ag3 cQ (ez.add (i2.toNat * 1)) (vi (nth xs6 i2)) Z (ii 0 _ Z)) (Xq ax Z (X1 (vi r3) Z (Xq ax Z ?_)))));have ij := bj.gv c5 4 Z;have dv := bj.drop 4 Z;have ik := (bj.sd c6 5 4 Z Z Z);have il := dv.gv ik 4 Z;have im := dv.drop 4 Z;have io := dv.std 4 Z;obtain ⟨q2, ip, H⟩ := H;refine Y7 go11 [.agg #[G af bb bc, G ag bd be], vi (nth xs6 i2), vi r3] Z (vb q2) (fun w g => (F35.calls ip (im.k0 g).ok ((ij.st io).st (.new _ g)) (il.st (.new _ g))).mono ?_) ?_
  ·rintro _ w ⟨r, rfl, rfl, g2⟩;exact ⟨Z, Gr.t0 g g2⟩
  refine Xq ax Z (Xg (Yk q2 Z) (Xg (Xt false (vb (!q2)) ax Z) (Yg fun m2 cf => ?_)));have e0 := bj.k0 cf;refine Xy (!q2) Z (fun dw => ?_) (fun dw => ?_)
  ·have H := Xm H dw;refine Xc ?_;have iq : ([bk al, bk ak, bk ab, some aa, bk af, bk ag] : Ob).Perm ((bk al :: bk ak :: bk ab :: some aa :: bk af :: bk ag :: []) ++ []) := RP;have ir := e0.drops iq;exact Xd (Xf (vb false) Z (Xb (Xj ⟨[vb false], ⟨_, Z, Z⟩, false, Z, H, ir.gr.g0⟩)))
  have H := Xn H dw;refine Xz (Xc (Xd (Xf (vi 0) Z (Xb (X6 ?_)))));obtain ⟨it, iu, dx, H⟩ := H;have iv := (bn.sn cf);have iw := (ds.sn cf);have ix := (dt.sn cf);have iy := (c5.sn cf);have iz := (c6.sn cf);have i0 := (c7.k0 cf);refine Yh (α := Int) (fun (sv__ : Int) t b5 => match sv__ with | k2 => it k2 ∧ Has t [(3, Pz aa), (4, vi r2), (5, vi r3), (6, G ab ap aq), (7, G ak b9 ca), (8, G al cb cc), (9, vi i2), (10, vi k2)] ∧ Cw [] w0 b5 [bk al, bk ak, bk ab, some aa, bk af, bk ag] O fun M => Ow (Kd.int .i64) 3 b5 M (G ab ap aq) xs6 ∧ Ow (Kd.int .i64) 3 b5 M (G ak b9 ca) xs7 ∧ Ow (Kd.int .i64) 3 b5 M (G al cb cc) xs8 ∧ Ow kCommit 33 b5 M (G af bb bc) xs9 ∧ Ow kHead 35 b5 M (G ag bd be) xs10 ∧ Bx b5 aa [G af bb bc, G ag bd be]) (fun (sv__ : Int) => match sv__ with | k2 => iu k2) 0 ⟨dx, (Xv Z), e0, iv, iw, ix, iy, iz, i0⟩ ?_;rintro k2 _ b5 ⟨dx, i1, cl, b6, dy, dz, c9, da, db⟩;obtain ⟨m3, rfl⟩ := Has.ins i1;have H := H k2 dx;refine Xc (Xc (Xd (Xe (vi k2) Z (Xe (G ab ap aq) Z ?_))));have d0 := b6.le;refine Xa (X4 u30_ ab ap aq b6.len Z) (Xa (Xw k2 (xs6.length : Int) (decide (k2 < (xs6.length : Int))) Z Z Z) (Xb ?_));refine Xy (decide (k2 < (xs6.length : Int))) Z (fun cu => ?_) (fun cu => ?_)
  ·have H := Xm H cu;refine Xz (Xc (X6 (Xc (Yv (fun x => Gr b5 x none) RK RK (Gr.drew _) ?_))));refine X1 (vi k2) Z (X1 (vi i2) Z (Xg (Xw k2 i2 (k2 != i2) Z Z Z) (X1 (vb (k2 != i2)) Z ?_)));rcases X7 (k2 != i2) with am | am
   ·have H := Xm H am;refine Xq am Z (Xg (Xx ag26 sz26 cQ (Ad aa 0) [G af bb bc, G ag bd be] Z Z (db.cells (off := 00) Z)) (Xq am Z (X1 (G ab ap aq) Z (Xq am Z (X1 (vi k2) Z (Xq am Z ?_))))));obtain ⟨e1, H⟩ := H;obtain ⟨e2, m4, i3, i5, i6⟩ := b6.get default RD k2 e1;obtain rfl := Kd.int.op i5;refine Xg (X2 u30_ Yt ab e2 ap aq b6.len k2 Z i3 Z e1) (Xq am Z (Xg (Xi ag3 cQ (e2.add (k2.toNat * 1)) (vi (nth xs6 k2)) Z (i6 0 _ Z)) (Xq am Z (X1 (G ab ap aq) Z (Xq am Z (X1 (vi i2) Z (Xq am Z ?_)))))));obtain ⟨e3, H⟩ := H;obtain ⟨e4, m5, i7, i8, i9⟩ := b6.get default RD i2 e3;obtain rfl := Kd.int.op i8;refine Xg (X2 u30_ Yt ab e4 ap aq b6.len i2 Z i7 Z e3) (Xq am Z (Xg (Xi ag3 cQ (e4.add (i2.toNat * 1)) (vi (nth xs6 i2)) Z (i9 0 _ Z)) (Xq am Z ?_)));have ja := cl.gv c9 4 Z;have d1 := cl.drop 4 Z;have jb := (cl.sd da 5 4 Z Z Z);have jc := d1.gv jb 4 Z;have jd := d1.drop 4 Z;have je := d1.std 4 Z;obtain ⟨q3, jf, H⟩ := H;refine Y7 go11 [.agg #[G af bb bc, G ag bd be], vi (nth xs6 k2), vi (nth xs6 i2)] Z (vb q3) (fun w g => (F35.calls jf (jd.k0 g).ok ((ja.st je).st (.new _ g)) (jc.st (.new _ g))).mono ?_) ?_
    ·rintro _ w ⟨r, rfl, rfl, g2⟩;exact ⟨Z, Gr.t0 g g2⟩
    refine Xg (Xt true (vb q3) am Z) (Yg fun m6 cg => ?_);have e5 := cl.k0 cg;refine Xy q3 Z (fun d2 => ?_) (fun d2 => ?_)
    ·have H := Xm H d2;refine Xc ?_;have jg : ([bk al, bk ak, bk ab, some aa, bk af, bk ag] : Ob).Perm ((bk al :: bk ak :: bk ab :: some aa :: bk af :: bk ag :: []) ++ []) := RP;have jh := e5.drops jg;exact Xd (Xf (vb false) Z (Xb (Xj ⟨[vb false], ⟨_, Z, Z⟩, false, Z, H, jh.gr.g0⟩)))
    have H := Xn H d2;refine Xz (Xd (Xe (vi k2) Z ?_));obtain ⟨ji, H⟩ := H;have jj : I64 (k2 + 1) := i64_succ (of_decide_eq_true cu) d0 ji;refine Xa (Ya k2 1 Z Z jj) (Xf (vi (k2 + 1)) Z (Xb ?_));obtain ⟨jk, jl⟩ := H;have jm := (b6.sn cg);have jn := (dy.sn cg);have jo := (dz.sn cg);have jp := (c9.sn cg);have jq := (da.sn cg);have jr := (db.k0 cg);exact ⟨k2 + 1, jl, jk, (Xv Z), e5, jm, jn, jo, jp, jq, jr⟩
   have H := Xn H am;refine Xr am Z (Xr am Z (Xr am Z (Xr am Z (Xr am Z (Xr am Z (Xr am Z (Xr am Z (Xr am Z ?_))))))));refine Xr am Z (Xg (Xt false (vb false) am Z) (Yg fun m7 ch => ?_));have js := cl.k0 ch;refine Ze (b := false) Z Z ?_;refine Xz (Xd (Xe (vi k2) Z ?_));obtain ⟨jt, H⟩ := H;have ju : I64 (k2 + 1) := i64_succ (of_decide_eq_true cu) d0 jt;refine Xa (Ya k2 1 Z Z ju) (Xf (vi (k2 + 1)) Z (Xb ?_));obtain ⟨jv, jw⟩ := H;have jx := (b6.sn ch);have jy := (dy.sn ch);have jz := (dz.sn ch);have j0 := (c9.sn ch);have j1 := (da.sn ch);have j2 := (db.k0 ch);exact ⟨k2 + 1, jw, jv, (Xv Z), js, jx, jy, jz, j0, j1, j2⟩
  have H := Xn H cu;refine Ye (xin_hit ?_);refine Xd (Xe (vi i2) Z ?_);obtain ⟨j3, H⟩ := H;have j4 : I64 (i2 + 1) := i64_succ (of_decide_eq_true c8) d0 j3;refine Xa (Ya i2 1 Z Z j4) (Xf (vi (i2 + 1)) Z (Xb ?_));obtain ⟨j5, j6⟩ := H;exact ⟨(xs6, ab, ap, aq, xs7, ak, b9, ca, xs8, al, cb, cc, i2 + 1, xs9, af, bb, bc, xs10, ag, bd, be), j6, j5, (Xv Z), cl, b6, dy, dz, c9, da, db⟩
 have H := Xn H c8;refine Ye (xin_hit ?_);refine Xc (Xc (Xd (Xf (vi 0) Z (Xb (X6 ?_)))));have dc := bj.drop 0 Z;have j7 := dc.drop 0 Z;obtain ⟨j8, j9, d3, H⟩ := H;have ka := (dc.sd (bj.sd bn 2 0 Z Z Z) 1 0 Z Z Z);have kb := (dc.sd (bj.sd c5 4 0 Z Z Z) 3 0 Z Z Z);have kc := (dc.sd (bj.sd c6 5 0 Z Z Z) 4 0 Z Z Z);have kd := c7;refine Yh (α := (List Int) × (Option Addr) × Nat × Nat × Int × (List Commit) × (Option Addr) × Nat × Nat × (List Head) × (Option Addr) × Nat × Nat) (fun (xs14, ai, a6, a7, i4, xs15, aj, ay, az, xs16, ah, a2, a3) t cd => j8 xs14 i4 xs15 xs16 ∧ Has t [(3, Pz aa), (4, vi r2), (5, vi r3), (6, G ai a6 a7), (11, vi i4)] ∧ Cw [] w0 cd [bk ai, some aa, bk aj, bk ah] O fun M => Ow (Kd.int .i64) 3 cd M (G ai a6 a7) xs14 ∧ Ow kCommit 33 cd M (G aj ay az) xs15 ∧ Ow kHead 35 cd M (G ah a2 a3) xs16 ∧ Bx cd aa [G aj ay az, G ah a2 a3]) (fun (xs14, _, _, _, i4, xs15, _, _, _, xs16, _, _, _) => j9 xs14 i4 xs15 xs16) (xs6, ab, ap, aq, 0, xs9, af, bb, bc, xs10, ag, bd, be) ⟨d3, (Xv Z), j7, ka, kb, kc, kd⟩ ?_;rintro ⟨xs14, ai, a6, a7, i4, xs15, aj, ay, az, xs16, ah, a2, a3⟩ _ cd ⟨d3, ke, cm, dd, de, e6, d4⟩;obtain ⟨m8, rfl⟩ := Has.ins ke;have H := H xs14 i4 xs15 xs16 d3;refine Xc (Xc (Xd (Xe (vi i4) Z (Xa (Xh fa26_0 (Ad aa 0) (Ad aa 0) Z Z) (Xa (Xi ag23 cL (Ad aa 0) (G aj ay az) Z (d4.cell Z)) ?_)))));have m9 := de.le;refine Xa (X4 u23_ aj ay az de.len Z) (Xa (Xw i4 (xs15.length : Int) (decide (i4 < (xs15.length : Int))) Z Z Z) (Xb ?_));refine Xy (decide (i4 < (xs15.length : Int))) Z (fun d5 => ?_) (fun d5 => ?_)
 ·have H := Xm H d5;refine Xz (Xc (X6 (Xc (Xd (Xf (vb false) Z (Xb (Xc (Xc ?_))))))));refine Xd (Xf (vi 0) Z (Xb (X6 ?_)));obtain ⟨kf, kg, d6, H⟩ := H;refine Yh (α := Bool × Int) (fun (some2, k4) t bx => kf some2 k4 ∧ Has t [(3, Pz aa), (4, vi r2), (5, vi r3), (6, G ai a6 a7), (11, vi i4), (12, vb some2), (13, vi k4)] ∧ Cw [] w0 bx [bk ai, some aa, bk aj, bk ah] O fun M => Ow (Kd.int .i64) 3 bx M (G ai a6 a7) xs14 ∧ Ow kCommit 33 bx M (G aj ay az) xs15 ∧ Ow kHead 35 bx M (G ah a2 a3) xs16 ∧ Bx bx aa [G aj ay az, G ah a2 a3]) (fun (some2, k4) => kg some2 k4) (false, 0) ⟨d6, (Xv Z), cm, dd, de, e6, d4⟩ ?_;rintro ⟨some2, k4⟩ _ bx ⟨d6, kh, b7, ce, ci, cj, cn⟩;obtain ⟨na, rfl⟩ := Has.ins kh;have H := H some2 k4 d6;refine Xc (Xc (Xd (Xe (vi k4) Z (Xe (G ai a6 a7) Z ?_))));have df := ce.le;refine Xa (X4 u30_ ai a6 a7 ce.len Z) (Xa (Xw k4 (xs14.length : Int) (decide (k4 < (xs14.length : Int))) Z Z Z) (Xb ?_));refine Xy (decide (k4 < (xs14.length : Int))) Z (fun cv => ?_) (fun cv => ?_)
  ·have H := Xm H cv;refine Xz (Xc (X6 (Yv (fun x => Gr bx x none) RK RK (Gr.drew _) ?_)));refine X1 (vb some2) Z (X1 (vb some2) Z ?_);rcases X7 some2 with a4 | a4
   ·have H := Xm H a4;refine Xr a4 Z (Xr a4 Z (Xr a4 Z (Xr a4 Z (Xr a4 Z (Xr a4 Z (Xr a4 Z (Xg (Xt true (vb true) a4 Z) (Zf (vb true) Z ?_))))))));refine Yg fun nb cw => ?_;have ki := b7.k0 cw;refine Xd (Xe (vi k4) Z ?_);obtain ⟨kj, H⟩ := H;have kk : I64 (k4 + 1) := i64_succ (of_decide_eq_true cv) df kj;refine Xa (Ya k4 1 Z Z kk) (Xf (vi (k4 + 1)) Z (Xb ?_));obtain ⟨kl, km⟩ := H;have kn := (ce.sn cw);have ko := (ci.sn cw);have kp := (cj.sn cw);have kq := (cn.k0 cw);exact ⟨(true, k4 + 1), km, kl, (Xv Z), ki, kn, ko, kp, kq⟩
   have H := Xn H a4;refine Xq a4 Z (Xg (Xx ag26 sz26 cQ (Ad aa 0) [G aj ay az, G ah a2 a3] Z Z (cn.cells (off := 00) Z)) (Xq a4 Z (X1 (vi i4) Z (Xq a4 Z (X1 (G ai a6 a7) Z (Xq a4 Z (X1 (vi k4) Z (Xq a4 Z ?_))))))));obtain ⟨e7, H⟩ := H;obtain ⟨e8, nc, kr, ks, kt⟩ := ce.get default RD k4 e7;obtain rfl := Kd.int.op ks;refine Xg (X2 u30_ Yt ai e8 a6 a7 ce.len k4 Z kr Z e7) (Xq a4 Z (Xg (Xi ag3 cQ (e8.add (k4.toNat * 1)) (vi (nth xs14 k4)) Z (kt 0 _ Z)) (Xq a4 Z ?_)));have ku := b7.gv ci 2 Z;have d7 : Ct [] w0 bx [bk ai, some aa, bk ah] O := b7.drop 2 Z;have kv := (b7.sd cj 3 2 Z Z Z);have kx := d7.gv kv 2 Z;have ky := d7.drop 2 Z;have kz := d7.std 2 Z;obtain ⟨q4, k1, H⟩ := H;refine Y7 go11 [.agg #[G aj ay az, G ah a2 a3], vi i4, vi (nth xs14 k4)] Z (vb q4) (fun w g => (F35.calls k1 (ky.k0 g).ok ((ku.st kz).st (.new _ g)) (kx.st (.new _ g))).mono ?_) ?_
   ·rintro _ w ⟨r, rfl, rfl, g2⟩;exact ⟨Z, Gr.t0 g g2⟩
   refine Xg (Xt false (vb q4) a4 Z) (Zf (vb q4) Z (Yg fun nd cx => ?_));have k3 := b7.k0 cx;refine Xd (Xe (vi k4) Z ?_);obtain ⟨k5, H⟩ := H;have k6 : I64 (k4 + 1) := i64_succ (of_decide_eq_true cv) df k5;refine Xa (Ya k4 1 Z Z k6) (Xf (vi (k4 + 1)) Z (Xb ?_));obtain ⟨k7, k8⟩ := H;have k9 := (ce.sn cx);have la := (ci.sn cx);have lb := (cj.sn cx);have lc := (cn.k0 cx);exact ⟨(q4, k4 + 1), k8, k7, (Xv Z), k3, k9, la, lb, lc⟩
  have H := Xn H cv;refine Ye (xin_hit ?_);refine Xc (Xd (Xe (vb some2) Z (Xa (Xx ag26 sz26 cL (Ad aa 0) [G aj ay az, G ah a2 a3] Z Z (cn.cells (off := 00) Z)) (Xe (vi i4) Z (Xe (vi r2) Z ?_)))));have ld := b7.gv ci 2 Z;have d8 : Ct [] w0 bx [bk ai, some aa, bk ah] O := b7.drop 2 Z;have lf := (b7.sd cj 3 2 Z Z Z);have lg := d8.gv lf 2 Z;have lh := d8.drop 2 Z;have li := d8.std 2 Z;refine Xu go11 (F35.calls H lh.ok (ld.st li) lg) Z ?_;rintro _ e9 ⟨r12, rfl, H, bu⟩;have co := b7.k0 bu;refine Xe (vb r12) Z ?_;rcases X7 r12 with bl | bl
  ·have H := Xm H bl;refine Xk bl Z ?_;have fa := (cn.k0 bu);refine Xa (Xx ag26 sz26 cL (Ad aa 0) [G aj ay az, G ah a2 a3] Z Z (fa.cells (off := 00) Z)) (Xk bl Z (Xe (vi i4) Z (Xk bl Z (Xe (vi r3) Z (Xk bl Z ?_)))));have lj := (ci.sn bu);have lk := co.gv lj 2 Z;have d9 : Ct [] w0 e9 [bk ai, some aa, bk ah] O := co.drop 2 Z;have ll := (co.sd (cj.sn bu) 3 2 Z Z Z);have lm := d9.gv ll 2 Z;have ln := d9.drop 2 Z;have lo := d9.std 2 Z;refine Xu go11 (F35.calls H ln.ok (lk.st lo) lm) Z ?_;rintro _ ne ⟨r13, rfl, H, cy⟩;have fb := co.k0 cy;refine Xa (Xt true (vb r13) bl Z) (Xa (Zv u4_ some2 r13 (some2 != r13) Z Z Z) (Xb ?_));refine Xy (some2 != r13) Z (fun ea => ?_) (fun ea => ?_)
   ·have H := Xm H ea;refine Xc ?_;have lp : ([bk ai, some aa, bk aj, bk ah] : Ob).Perm ((bk ai :: some aa :: bk aj :: bk ah :: []) ++ []) := RP;have lq := fb.drops lp;exact Xd (Xf (vb false) Z (Xb (Xj ⟨[vb false], ⟨_, Z, Z⟩, false, Z, H, lq.gr.g0⟩)))
   have H := Xn H ea;refine Xz (Xd (Xe (vi i4) Z ?_));obtain ⟨lr, H⟩ := H;have ls := lr (len_le df);refine Xa (Ya i4 1 Z Z ls) (Xf (vi (i4 + 1)) Z (Xb ?_));obtain ⟨lt, lu⟩ := H;have lv := ((ce.sn bu).sn cy);have lw := ((ci.sn bu).sn cy);have lx := ((cj.sn bu).sn cy);have ly := (fa.k0 cy);exact ⟨(xs14, ai, a6, a7, i4 + 1, xs15, aj, ay, az, xs16, ah, a2, a3), lu, lt, (Xv Z), fb, lv, lw, lx, ly⟩
  have H := Xn H bl;refine Xl bl Z (Xl bl Z (Xl bl Z (Xl bl Z (Xa (Xt false (vb false) bl Z) (Xa (Zv u4_ some2 false (some2 != false) Z Z Z) (Xb ?_))))));refine Xy (some2 != false) Z (fun eb => ?_) (fun eb => ?_)
  ·have H := Xm H eb;refine Xc ?_;have lz : ([bk ai, some aa, bk aj, bk ah] : Ob).Perm ((bk ai :: some aa :: bk aj :: bk ah :: []) ++ []) := RP;have l0 := co.drops lz;exact Xd (Xf (vb false) Z (Xb (Xj ⟨[vb false], ⟨_, Z, Z⟩, false, Z, H, l0.gr.g0⟩)))
  have H := Xn H eb;refine Xz (Xd (Xe (vi i4) Z ?_));obtain ⟨l1, H⟩ := H;have l2 := l1 (len_le df);refine Xa (Ya i4 1 Z Z l2) (Xf (vi (i4 + 1)) Z (Xb ?_));obtain ⟨l3, l4⟩ := H;have l5 := (ce.sn bu);have l6 := (ci.sn bu);have l7 := (cj.sn bu);have l8 := (cn.k0 bu);exact ⟨(xs14, ai, a6, a7, i4 + 1, xs15, aj, ay, az, xs16, ah, a2, a3), l4, l3, (Xv Z), co, l5, l6, l7, l8⟩
 have H := Xn H d5;refine Ye (xin_hit ?_);refine Xc (Xd (Xe (G ai a6 a7) Z ?_));have nf := dd.le;refine Xa (X4 u30_ ai a6 a7 dd.len Z) (Xa (Xw (xs14.length : Int) 0 (decide ((xs14.length : Int) > 0)) Z Z Z) (Xe (vb (decide ((xs14.length : Int) > 0))) Z ?_));rcases X7 (decide ((xs14.length : Int) > 0)) with au | au
 ·have H := Xm H au;refine Xk au Z (Xa (Xx ag26 sz26 cL (Ad aa 0) [G aj ay az, G ah a2 a3] Z Z (d4.cells (off := 00) Z)) (Xk au Z (Xe (vi r2) Z (Xk au Z (Xe (vi r3) Z (Xk au Z ?_))))));have l9 := cm.gv de 2 Z;have ec : Ct [] w0 cd [bk ai, some aa, bk ah] O := cm.drop 2 Z;have ma := (cm.sd e6 3 2 Z Z Z);have mb := ec.gv ma 2 Z;have mc := ec.drop 2 Z;have md := ec.std 2 Z;refine Xu go11 (F35.calls H mc.ok (l9.st md) mb) Z ?_;rintro _ ng ⟨r14, rfl, H, fc⟩;have ed := cm.k0 fc;refine Xk au Z (Xa (Yk r14 Z) (Xk au Z (Xe (vb (!r14)) Z ?_)));rcases X7 (!r14) with a8 | a8
  ·have H := Xm H a8;refine Xl a8 Z (Xl a8 Z (Xl a8 Z (Xl a8 Z (Zb Z (Zb Z (Zb Z (Zb Z (Zb Z ?_))))))));refine Xl a8 Z (Xk au Z (Xa (Xt true (vb true) a8 Z) (Xa (Xt true (vb true) au Z) (Xf (vb true) Z (Xb (Xj ?_))))));have me := ed.clear;exact ⟨[vb true], ⟨_, Z, Z⟩, true, Z, H, me.gr.g0⟩
  have H := Xn H a8;refine Xk a8 Z (Xe (G ai a6 a7) Z (Xk a8 Z ?_));have ee := (dd.sn fc);refine Xa (X4 u30_ ai a6 a7 ee.len Z) (Xk a8 Z (Xa (Xw (xs14.length : Int) 1 ((xs14.length : Int) == 1) Z Z Z) (Xk a8 Z (Xe (vb ((xs14.length : Int) == 1)) Z ?_))));rcases X7 ((xs14.length : Int) == 1) with bi | bi
  ·have H := Xm H bi;refine Xk bi Z (Xe (G ai a6 a7) Z (Xk bi Z ?_));obtain ⟨fd, H⟩ := H;obtain ⟨fe, nh, mf, mg, mh⟩ := ee.get default RD 0 fd;obtain rfl := Kd.int.op mg;refine Xa (X2 u30_ Yt ai fe a6 a7 ee.len 0 Z mf Z fd) (Xk bi Z (Xa (Xi ag3 cL (fe.add ((0 : Int).toNat * 1)) (vi (nth xs14 0)) Z (mh 0 _ Z)) (Xk bi Z (Xe (vi r2) Z (Xk bi Z (Xa (Xw (nth xs14 0) r2 ((nth xs14 0) == r2) Z Z Z) (Xk a8 Z (Xa (Xt true (vb ((nth xs14 0) == r2)) bi Z) ?_))))))));refine Xk au Z (Xa (Xt false (vb ((nth xs14 0) == r2)) a8 Z) (Xa (Xt true (vb ((nth xs14 0) == r2)) au Z) (Xf (vb ((nth xs14 0) == r2)) Z (Xb (Xj ?_)))));have mi := ed.clear;exact ⟨[vb ((nth xs14 0) == r2)], ⟨_, Z, Z⟩, (nth xs14 0) == r2, Z, H, mi.gr.g0⟩
  have H := Xn H bi;refine Xl bi Z (Xl bi Z (Xl bi Z (Xl bi Z (Xl bi Z (Xk a8 Z (Xa (Xt false (vb false) bi Z) (Xk au Z (Xa (Xt false (vb false) a8 Z) ?_))))))));refine Xa (Xt true (vb false) au Z) (Xf (vb false) Z (Xb (Xj ?_)));have mj := ed.clear;exact ⟨[vb false], ⟨_, Z, Z⟩, false, Z, H, mj.gr.g0⟩
 have H := Xn H au;refine Xl au Z (Xl au Z (Xl au Z (Xl au Z (Xl au Z (Xl au Z (Zb Z (Zb Z (Zb Z ?_))))))));refine Zb Z (Zb Z (Zb Z (Zb Z (Zb Z (Zb Z (Zb Z (Xl au Z (Xa (Xt false (vb false) au Z) ?_))))))));refine Xf (vb false) Z (Xb (Xj ?_));have mk := cm.clear;exact ⟨[vb false], ⟨_, Z, Z⟩, false, Z, H, mk.gr.g0⟩
section
section
variable {α : Type} [DecidableEq α]
def lcsR (x : α) (p : List α → Nat) : List α → Nat
 | [] => 0
 | y :: b => if x = y then p b + 1 else max (p (y :: b)) (lcsR x p b)
def lcs : List α → List α → Nat
 | [] => fun _ => 0
 | x :: a => lcsR x (lcs a)
@[simp] theorem lcs_nil (b : List α) : lcs [] b = 0 := rfl
@[simp] theorem lcs_nil2 (a : List α) : lcs a [] = 0 := by cases a <;> rfl
theorem pp {a b c d : Nat} (h : a = c) (k : b = d) : (a, b) = (c, d) := by rw [h, k]
def pairs (i j : Nat) : List α → List α → List (Nat × Nat)
 | x :: a, y :: b => if x = y then (i, j) :: pairs (i + 1) (j + 1) a b else if lcs (x :: a) b ≤ lcs a (y :: b) then pairs (i + 1) j a (y :: b) else pairs i (j + 1) (x :: a) b
 | [], _ => []
 | _ :: _, [] => []
 termination_by a b => a.length + b.length
theorem pairs_nil (i j : Nat) (b : List α) : pairs i j [] b = [] := by rw [pairs]
theorem pairs_nil2 (i j : Nat) (a : List α) : pairs i j a [] = [] := by cases a <;> rw [pairs]
theorem pairs_cons (i j : Nat) (x y : α) (a b : List α) : pairs i j (x :: a) (y :: b) = if x = y then (i, j) :: pairs (i + 1) (j + 1) a b else if lcs (x :: a) b ≤ lcs a (y :: b) then pairs (i + 1) j a (y :: b) else pairs i (j + 1) (x :: a) b := by rw [pairs]
theorem pairs_ind {C : Nat → Nat → List α → List α → Prop} (h0 : ∀ i j b, C i j [] b) (h1 : ∀ i j a, C i j a [])
  (he : ∀ i j x a b, C (i + 1) (j + 1) a b → C i j (x :: a) (x :: b))
  (ha : ∀ i j x y a b, x ≠ y → lcs (x :: a) b ≤ lcs a (y :: b) → C (i + 1) j a (y :: b) → C i j (x :: a) (y :: b))
  (hb : ∀ i j x y a b, x ≠ y → ¬ lcs (x :: a) b ≤ lcs a (y :: b) → C i (j + 1) (x :: a) b → C i j (x :: a) (y :: b)) : ∀ i j (a b : List α), C i j a b := by
 have : ∀ n i j (a b : List α), a.length + b.length ≤ n → C i j a b := by
  intro n
  induction n with
  | zero => intro i j a b h; cases a with
   | nil => exact h0 _ _ _
   | cons _ _ => simp at h
  | succ n ih =>
   intro i j a b h
   cases a with
   | nil => exact h0 _ _ _
   | cons x a => cases b with
    | nil => exact h1 _ _ _
    | cons y b =>
     simp only [List.length_cons] at h
     by_cases e : x = y
     ·subst e; exact he _ _ _ _ _ (ih _ _ _ _ OM)
     ·by_cases l : lcs (x :: a) b ≤ lcs a (y :: b)
      ·exact ha _ _ _ _ _ _ e l (ih _ _ _ _ (by simp only [List.length_cons]; omega))
      ·exact hb _ _ _ _ _ _ e l (ih _ _ _ _ (by simp only [List.length_cons]; omega))
 exact fun i j a b => this _ i j a b (Nat.le_refl _)
theorem pairs_mem (i j : Nat) (a b : List α) : ∀ p ∈ pairs i j a b, ∃ k l, p = (i + k, j + l) ∧ ∃ x, a[k]? = some x ∧ b[l]? = some x := by
 refine pairs_ind (C := fun i j a b => ∀ p ∈ pairs i j a b, ∃ k l, p = (i + k, j + l) ∧ ∃ x, a[k]? = some x ∧ b[l]? = some x) ?_ ?_ ?_ ?_ ?_ i j a b
 ·intro i j b p h; rw [pairs_nil] at h; cases h
 ·intro i j a p h; rw [pairs_nil2] at h; cases h
 ·intro i j x a b ih p h
  rw [pairs_cons, if_pos rfl] at h
  rcases List.mem_cons.1 h with rfl | h
  ·exact ⟨0, 0, rfl, x, rfl, rfl⟩
  ·obtain ⟨k, l, rfl, z, h1, h2⟩ := ih p h
   exact ⟨k + 1, l + 1, pp OM OM, z, h1, h2⟩
 ·intro i j x y a b e l ih p h
  rw [pairs_cons, if_neg e, if_pos l] at h
  obtain ⟨k, l, rfl, z, h1, h2⟩ := ih p h
  exact ⟨k + 1, l, pp OM OM, z, h1, h2⟩
 ·intro i j x y a b e l ih p h
  rw [pairs_cons, if_neg e, if_neg l] at h
  obtain ⟨k, l, rfl, z, h1, h2⟩ := ih p h
  exact ⟨k, l + 1, pp OM OM, z, h1, h2⟩
theorem pairs_ord (i j : Nat) (a b : List α) : (pairs i j a b).Pairwise (fun p q => p.1 < q.1 ∧ p.2 < q.2) := by
 refine pairs_ind (C := fun i j a b => (pairs i j a b).Pairwise (fun p q => p.1 < q.1 ∧ p.2 < q.2)) ?_ ?_ ?_ ?_ ?_ i j a b
 ·intros; rw [pairs_nil]; exact List.Pairwise.nil
 ·intros; rw [pairs_nil2]; exact List.Pairwise.nil
 ·intro i j x a b h; rw [pairs_cons, if_pos rfl]
  refine List.Pairwise.cons (fun p hp => ?_) h
  obtain ⟨k, l, rfl, _⟩ := pairs_mem _ _ _ _ p hp
  exact ⟨by dsimp only; omega, by dsimp only; omega⟩
 ·intro i j x y a b e l h; rw [pairs_cons, if_neg e, if_pos l]; exact h
 ·intro i j x y a b e l h; rw [pairs_cons, if_neg e, if_neg l]; exact h
end
section
variable {α : Type} [Inhabited α]
theorem nth_set (l : List α) {k : Nat} (h : k < l.length) (m : Nat) (v : α) : nth (l.set k v) (m : Int) = if m = k then v else nth l (m : Int) := by
 unfold nth
 rw [Int.toNat_natCast, List.getD_eq_getElem?_getD, List.getD_eq_getElem?_getD, List.getElem?_set]
 by_cases e : m = k
 ·subst e; rw [if_pos rfl, if_pos rfl, if_pos h]; rfl
 ·rw [if_neg (fun x => e x.symm), if_neg e]
theorem nth_rep (n m : Nat) (v : α) (h : m < n) : nth (List.replicate n v) (m : Int) = v := by
 rw [nth_nat _ (by simpa using h)]; simp
def seg (l : List α) (i j : Nat) : List α := (l.drop i).take (j - i)
theorem seg_len (l : List α) (i j : Nat) (h : j ≤ l.length) : (seg l i j).length = j - i := by
 unfold seg; rw [List.length_take, List.length_drop]; omega
theorem mem_nth {l : List α} {x : α} (h : x ∈ l) : ∃ k : Nat, k < l.length ∧ nth l (k : Int) = x := by
 obtain ⟨k, hk, rfl⟩ := List.getElem_of_mem h
 exact ⟨k, hk, nth_nat l hk⟩
variable [DecidableEq α]
def pickL (o a b : List α) : Option (List α) := if a = o then some b else if b = o then some a else if a = b then some a else none
theorem pickL_mem {o a b r : List α} (h : pickL o a b = some r) : (∀ z ∈ r, z ∈ a ∨ z ∈ b) ∧ (∀ z ∈ a, z ∈ o ∨ z ∈ r) ∧ (∀ z ∈ b, z ∈ o ∨ z ∈ r) ∧ r.length ≤ a.length + b.length := by
 unfold pickL at h
 by_cases h1 : a = o
 ·rw [if_pos h1] at h; cases h; subst h1
  exact ⟨fun z hz => .inr hz, fun z hz => .inl hz, fun z hz => .inr hz, OM⟩
 ·rw [if_neg h1] at h
  by_cases h2 : b = o
  ·rw [if_pos h2] at h; cases h; subst h2
   exact ⟨fun z hz => .inl hz, fun z hz => .inr hz, fun z hz => .inl hz, OM⟩
  ·rw [if_neg h2] at h
   by_cases h3 : a = b
   ·rw [if_pos h3] at h; cases h; subst h3
    exact ⟨fun z hz => .inl hz, fun z hz => .inr hz, fun z hz => .inr hz, OM⟩
   ·rw [if_neg h3] at h; cases h
def mloop (o a b : List α) (f g : Nat → Option Nat) : Nat → Nat → Nat → Nat → Nat → Option (List α)
 | 0, _, i, j, k => pickL (o.drop i) (a.drop j) (b.drop k)
 | n + 1, at_, i, j, k => match f at_, g at_ with
  | some x, some y => (pickL (seg o i at_) (seg a j x) (seg b k y)).bind fun p => (mloop o a b f g n (at_ + 1) (at_ + 1) (x + 1) (y + 1)).map fun r => p ++ nth o (at_ : Int) :: r
  | _, _ => mloop o a b f g n (at_ + 1) i j k
theorem mloop_zero (o a b : List α) (f g : Nat → Option Nat) (t i j k : Nat) : mloop o a b f g 0 t i j k = pickL (o.drop i) (a.drop j) (b.drop k) := rfl
theorem mloop_some {o a b : List α} {f g : Nat → Option Nat} {n t i j k x y : Nat} (hf : f t = some x) (hg : g t = some y) : mloop o a b f g (n + 1) t i j k = (pickL (seg o i t) (seg a j x) (seg b k y)).bind fun p => (mloop o a b f g n (t + 1) (t + 1) (x + 1) (y + 1)).map fun r => p ++ nth o (t : Int) :: r := by
 rw [mloop, hf, hg]
theorem mloop_none {o a b : List α} {f g : Nat → Option Nat} {n t i j k : Nat} (h : f t = none ∨ g t = none) : mloop o a b f g (n + 1) t i j k = mloop o a b f g n (t + 1) i j k := by
 rw [mloop]
 rcases h with h | h
 ·rw [h]
 ·rw [h]; cases f t <;> rfl
structure Mates (o a : List α) (f : Nat → Option Nat) : Prop where
 lt : ∀ {t x}, f t = some x → t < o.length ∧ x < a.length
 eq : ∀ {t x}, f t = some x → nth o (t : Int) = nth a (x : Int)
 mono : ∀ {t x u y}, f t = some x → f u = some y → t < u → x < y
def From (f : Nat → Option Nat) (t j : Nat) : Prop := ∀ u x, t ≤ u → f u = some x → j ≤ x
theorem From.zero (f : Nat → Option Nat) (t : Nat) : From f t 0 := fun _ _ _ _ => Nat.zero_le _
theorem From.skip {f : Nat → Option Nat} {t j : Nat} (h : From f t j) : From f (t + 1) j := fun u x hu hx => h u x OM hx
theorem From.step {o a : List α} {f : Nat → Option Nat} (m : Mates o a f) {t x : Nat} (h : f t = some x) : From f (t + 1) (x + 1) := fun u y hu hy => m.mono h hy OM
end
end
def few (a b : List Pt) : Bool := decide (a.length ≤ 12) && decide (b.length ≤ 12)
def Tab (a b : List Pt) (D : Nat → Nat → Prop) (t : List (List Int)) : Prop := t.length = a.length + 1 ∧ ∀ r : Nat, r ≤ a.length → (nth t (r : Int)).length = b.length + 1 ∧ ∀ m : Nat, m ≤ b.length → D r m → nth (nth t (r : Int)) (m : Int) = (lcs (a.drop r) (b.drop m) : Nat)
theorem Tab.set {a b : List Pt} {D : Nat → Nat → Prop} {t : List (List Int)} (h : Tab a b D t) {i j : Nat} (hi : i ≤ a.length) (hj : j ≤ b.length) {v : Int} (hv : v = (lcs (a.drop i) (b.drop j) : Nat)) {D' : Nat → Nat → Prop} (hD : ∀ r m, D' r m → D r m ∨ (r = i ∧ m = j)) :
  Tab a b D' (t.set i ((nth t (i : Int)).set j v)) := by
 obtain ⟨h1, h2⟩ := h
 refine ⟨by rw [List.length_set]; exact h1, fun r hr => ?_⟩
 rw [nth_set _ OM]
 by_cases e : r = i
 ·subst e
  rw [if_pos rfl]
  refine ⟨by rw [List.length_set]; exact (h2 r hr).1, fun m hm hd => ?_⟩
  rw [nth_set _ (by rw [(h2 r hr).1]; omega)]
  by_cases f : m = j
  ·subst f; rw [if_pos rfl, hv]
  ·rw [if_neg f]
   exact (h2 r hr).2 m hm ((hD r m hd).resolve_right fun x => f x.2)
 ·rw [if_neg e]
  exact ⟨(h2 r hr).1, fun m hm hd => (h2 r hr).2 m hm ((hD r m hd).resolve_right fun x => e x.1)⟩
def mateN (l : List (Nat × Nat)) (k : Nat) : Option Nat := match l with
 | [] => none
 | p :: l => if p.1 = k then some p.2 else mateN l k
theorem mateN_mem {l : List (Nat × Nat)} {k x : Nat} (h : mateN l k = some x) : (k, x) ∈ l := by
 induction l with
 | nil => cases h
 | cons p l ih =>
  rw [mateN] at h
  by_cases e : p.1 = k
  ·rw [if_pos e] at h; cases h; subst e; exact List.mem_cons_self
  ·rw [if_neg e] at h; exact List.mem_cons_of_mem _ (ih h)
def part (o a : List Pt) : Nat → Option Nat := mateN (pairs 0 0 o a)
theorem part_mates (o a : List Pt) : Mates o a (part o a) := by
 have hm : ∀ {t x}, part o a t = some x → ∃ z, o[t]? = some z ∧ a[x]? = some z := fun {t x} h => by
  obtain ⟨k, l, e, z, h1, h2⟩ := pairs_mem 0 0 o a _ (mateN_mem h)
  rw [Nat.zero_add, Nat.zero_add] at e; cases e
  exact ⟨z, h1, h2⟩
 refine ⟨fun {t x} h => ?_, fun {t x} h => ?_, fun {t x u y} h1 h2 hu => ?_⟩
 ·obtain ⟨z, h1, h2⟩ := hm h
  exact ⟨(List.getElem?_eq_some_iff.1 h1).1, (List.getElem?_eq_some_iff.1 h2).1⟩
 ·obtain ⟨z, h1, h2⟩ := hm h
  obtain ⟨e1, e2⟩ := List.getElem?_eq_some_iff.1 h1
  obtain ⟨e3, e4⟩ := List.getElem?_eq_some_iff.1 h2
  rw [nth_nat _ e1, nth_nat _ e3, e2, e4]
 ·have ho := pairs_ord 0 0 o a
  have m1 := mateN_mem h1; have m2 := mateN_mem h2
  generalize pairs 0 0 o a = l at ho m1 m2
  induction l with
  | nil => cases m1
  | cons p l ih =>
   obtain ⟨q1, q2⟩ := List.pairwise_cons.1 ho
   rcases List.mem_cons.1 m1 with e1 | n1
   ·rcases List.mem_cons.1 m2 with e2 | n2
    ·subst e1; cases e2; omega
    ·subst e1; exact (q1 _ n2).2
   ·rcases List.mem_cons.1 m2 with e2 | n2
    ·subst e2; have := (q1 _ n1).1; dsimp only at this; omega
    ·exact ih q2 n1 n2
def smerge (o a b : List Pt) : Option (List Pt) := if few o a && few o b then mloop o a b (part o a) (part o b) o.length 0 0 0 0 else none
theorem smerge_few {o a b : List Pt} (h1 : few o a = true) (h2 : few o b = true) : smerge o a b = mloop o a b (part o a) (part o b) o.length 0 0 0 0 := by unfold smerge; rw [h1, h2]; rfl
def allN (n : Nat) (c : Nat → Bool) : Bool := (List.range n).all c
theorem allN_true {n : Nat} {c : Nat → Bool} (h : ∀ j, j < n → c j = true) : allN n c = true := by
 unfold allN; rw [List.all_eq_true]; intro j hj; exact h j (List.mem_range.1 hj)
theorem allN_false {n k : Nat} {c : Nat → Bool} (hk : k < n) (h : c k = false) : allN n c = false := by
 unfold allN
 rw [Bool.eq_false_iff]; intro ha
 rw [List.all_eq_true] at ha
 rw [ha k (List.mem_range.2 hk)] at h; cases h
theorem allN_iff {n : Nat} {c : Nat → Bool} : allN n c = true ↔ ∀ j, j < n → c j = true := by
 unfold allN; rw [List.all_eq_true]; exact ⟨fun h j hj => h j (List.mem_range.2 hj), fun h j hj => h j (List.mem_range.1 hj)⟩
theorem loop_all (n : Nat) (c : Nat → Bool) {B : (Int → Prop) → (Int → Nat) → Int → Prop} {F : Prop}
  (hs : ∀ (I : Int → Prop) (mu : Int → Nat) (k : Nat), k < n → (∀ j, j < k → c j = true) → (c k = true → I ((k : Int) + 1) ∧ mu ((k : Int) + 1) < mu (k : Int)) → B I mu (k : Int))
  (hF : (∀ j, j < n → c j = true) → F) :
  ∃ (I : Int → Prop) (mu : Int → Nat), I 0 ∧ ∀ (i : Int), I i → (if decide (i < (n : Int)) then B I mu i else F) := by
 refine ⟨fun i => ∃ k : Nat, i = k ∧ k ≤ n ∧ ∀ j, j < k → c j = true, fun i => ((n : Int) - i).toNat, ⟨0, rfl, Nat.zero_le _, fun j hj => absurd hj (Nat.not_lt_zero _)⟩, ?_⟩
 rintro _ ⟨k, rfl, hk, ha⟩
 by_cases h : (k : Int) < (n : Int)
 ·rw [if_pos (by simpa using h)]
  refine hs _ _ k OM ha fun hc => ⟨⟨k + 1, OM, OM, fun j hj => ?_⟩, OM⟩
  by_cases e : j = k
  ·subst e; exact hc
  ·exact ha j OM
 ·rw [if_neg (by simpa using h)]
  exact hF fun j hj => ha j OM
theorem less_irr : ∀ a : Str, Op.bytesLess a a = false
 | [] => rfl
 | x :: a => by rw [Op.bytesLess]; simp [less_irr a]
theorem less_tri : ∀ a b : Str, (!(Op.bytesLess a b)) = (Op.bytesLess b a || b == a)
 | [], [] => rfl
 | [], y :: b => rfl
 | x :: a, [] => rfl
 | x :: a, y :: b => by
  rw [Op.bytesLess, Op.bytesLess]
  have h := less_tri a b
  by_cases h1 : x < y
  ·have h2 : ¬ y < x := fun h => absurd (UInt8.lt_trans h1 h) (UInt8.lt_irrefl _)
   have h3 : ¬ y = x := fun e => by subst e; exact UInt8.lt_irrefl _ h1
   simp [h1, h2, h3]
  ·by_cases h2 : y < x
   ·have h3 : ¬ x = y := fun e => by subst e; exact UInt8.lt_irrefl _ h2
    simp [h1, h2, h3]
   ·have h3 : x = y := UInt8.le_antisymm (UInt8.not_lt.1 h2) (UInt8.not_lt.1 h1)
    subst h3
    simp only [h1, decide_false, Bool.false_or, beq_self_eq_true, Bool.true_and]
    rw [h]
    congr 1
    rw [Bool.eq_iff_iff, beq_iff_eq, beq_iff_eq]
    simp
def byteOk (b : UInt8) : Bool := !(decide ((b.toNat : Int) < 97)) && !(decide ((b.toNat : Int) > 122))
def wordOk (s : Str) : Bool := allN s.length (fun k => byteOk (nth s (k : Int))) && (decide (1 ≤ s.length) && decide (s.length ≤ 6))
def inR (x : Int) : Bool := decide (-1000 ≤ x) && decide (x ≤ 1000)
def ptOk (p : Pt) : Bool := inR p.X && inR p.Y
def ptsOk (p : List Pt) : Bool := allN p.length fun k => ptOk (nth p (k : Int)) && (decide (k = 0) || !(decide (nth p ((k : Int) - 1) = nth p (k : Int))))
def kindOk (kind : Int) (p : List Pt) : Bool :=
 if kind = 1 then decide (p.length = 1) else if kind = 2 then decide (2 ≤ p.length) && decide (p.length ≤ 6)
 else if kind = 3 then decide (3 ≤ p.length) && decide (p.length ≤ 6) && !(decide (nth p 0 = nth p ((p.length : Int) - 1))) else false
def shapeOk (s : Shape) : Bool := ptsOk s.Pts && kindOk s.Kind s.Pts
def tagsOk (t : List Tag) : Bool := allN t.length fun k => wordOk (nth t (k : Int)).Key && wordOk (nth t (k : Int)).Val && (decide (k = 0) || Op.bytesLess (nth t ((k : Int) - 1)).Key (nth t (k : Int)).Key)
def featOk (f : Feat) : Bool := tagsOk f.Tags && decide (f.Tags.length ≤ 4) && wordOk f.Id && shapeOk f.Shape
def sheetOk (s : List Feat) : Bool := allN s.length (fun k => featOk (nth s (k : Int)) && (decide (k = 0) || Op.bytesLess (nth s ((k : Int) - 1)).Id (nth s (k : Int)).Id)) && decide (s.length ≤ 8)
theorem Feat.ext_iff' (a b : Feat) : a = b ↔ a.Id = b.Id ∧ a.Shape = b.Shape ∧ a.Tags = b.Tags := by cases a; cases b; simp
theorem Shape.ext_iff' (a b : Shape) : a = b ↔ a.Kind = b.Kind ∧ a.Pts = b.Pts := by cases a; cases b; simp
section
def findN (n : Nat) (c : Nat → Bool) : Int := match (List.range n).find? c with | some k => (k : Int) | none => -1
theorem findN_hit {n k : Nat} {c : Nat → Bool} (hk : k < n) (h : c k = true) (hp : ∀ j, j < k → c j = false) : findN n c = (k : Int) := by
 unfold findN
 have : (List.range n).find? c = some k := by
  rw [List.find?_range_eq_some]
  exact ⟨h, List.mem_range.2 hk, fun j hj => by rw [hp j hj]; rfl⟩
 rw [this]
theorem findN_none {n : Nat} {c : Nat → Bool} (h : ∀ j, j < n → c j = false) : findN n c = -1 := by
 unfold findN
 have : (List.range n).find? c = none := by
  rw [List.find?_eq_none]; intro j hj; rw [h j (List.mem_range.1 hj)]; exact Bool.false_ne_true
 rw [this]
theorem findN_le (n : Nat) (c : Nat → Bool) : -1 ≤ findN n c ∧ findN n c < n := by
 unfold findN
 cases h : (List.range n).find? c with
 | none => exact ⟨Int.le_refl _, by dsimp only; omega⟩
 | some k => have := List.mem_range.1 (List.mem_of_find?_eq_some h); exact ⟨by dsimp only; omega, by dsimp only; omega⟩
theorem loop_find (n : Nat) (c : Nat → Bool) {B : (Int → Prop) → (Int → Nat) → Int → Prop} {Q : Int → Prop} (hq : Q (findN n c))
  (hs : ∀ (I : Int → Prop) (mu : Int → Nat) (k : Nat), k < n → (c k = true → Q (k : Int)) → (c k = false → I ((k : Int) + 1) ∧ mu ((k : Int) + 1) < mu (k : Int)) → B I mu (k : Int)) :
  ∃ (I : Int → Prop) (mu : Int → Nat), I 0 ∧ ∀ (i : Int), I i → (if decide (i < (n : Int)) then B I mu i else Q (-1)) := by
 refine loop_all n (fun k => !(c k)) (fun I mu k hk hp hn => hs I mu k hk (fun h => ?_) (fun h => hn (by rw [h]; rfl))) (fun ha => ?_)
 ·rw [findN_hit hk h (fun j hj => by have := hp j hj; rwa [Bool.not_eq_true'] at this)] at hq; exact hq
 ·rw [findN_none (fun j hj => by have := ha j hj; rwa [Bool.not_eq_true'] at this)] at hq; exact hq
section
variable {α : Type} [Inhabited α] [DecidableEq α]
theorem list_eq_iff (a b : List α) (h : a.length = b.length) : a = b ↔ ∀ k, k < a.length → nth a (k : Int) = nth b (k : Int) := ⟨fun e k _ => by rw [e], ext_nth h⟩
theorem eqF_shape (a b : List α) (el : α → α → Bool) (ok : α → α → Prop) (hok : ∀ x y, x ∈ a → ok x y) (hel : ∀ x y, x ∈ a → el x y = decide (x = y)) (hb : a.length ≤ 1048576) (Q : Bool → Prop) (hq : Q (decide (a = b))) :
  (if (a.length : Int) != (b.length : Int) then Q false else (∃ (I36 : Int → Prop) (mu37 : Int → Nat), I36 0 ∧ ∀ (v2 : Int), I36 v2 → (if decide (v2 < (a.length : Int)) then ((0 : Int) ≤ v2 ∧ v2 < (a.length : Int)) ∧ ((0 : Int) ≤ v2 ∧ v2 < (b.length : Int)) ∧ (ok (nth a v2) (nth b v2)) ∧ (if !(el (nth a v2) (nth b v2)) then Q false else (I64 (v2 + 1)) ∧ I36 (v2 + 1) ∧ mu37 (v2 + 1) < mu37 v2) else Q true))) := by
 by_cases hl : a.length = b.length
 ·rw [if_neg (by simp [hl])]
  refine loop_all a.length (fun k => decide (nth a (k : Int) = nth b (k : Int))) (fun I mu k hk hp hn => ?_) (fun ha => ?_)
  ·refine ⟨OM, OM, hok _ _ (nth_mem a hk), ?_⟩
   rw [hel _ _ (nth_mem a hk)]
   by_cases h : nth a (k : Int) = nth b (k : Int)
   ·rw [decide_eq_true h, if_neg RD]
    obtain ⟨i1, i2⟩ := hn (decide_eq_true h)
    exact ⟨by unfold I64; omega, i1, i2⟩
   ·rw [decide_eq_false h, if_pos RD]
    rw [decide_eq_false (by rw [list_eq_iff a b hl]; exact fun g => h (g k hk))] at hq; exact hq
  ·rw [decide_eq_true ((list_eq_iff a b hl).2 fun k hk => of_decide_eq_true (ha k hk))] at hq; exact hq
 ·rw [if_pos (by rw [bne_iff_ne]; omega)]
  rw [decide_eq_false (fun e => hl (by rw [e]))] at hq; exact hq
theorem eqQ_shape (a b : List α) (el : α → α → (Bool → Prop) → Prop) (hel : ∀ x y, x ∈ a → el x y (fun r => r = decide (x = y))) (Q : Prop) (Q' : Prop) (hl : a.length = b.length) (hn : a ≠ b → Q) (hy : a = b → Q') :
  (∃ (I32 : Int → Prop) (mu33 : Int → Nat), I32 0 ∧ ∀ (i2 : Int), I32 i2 → (if decide (i2 < (a.length : Int)) then ((0 : Int) ≤ i2 ∧ i2 < (a.length : Int)) ∧ ((0 : Int) ≤ i2 ∧ i2 < (b.length : Int)) ∧ (∃ q : Bool, el (nth a i2) (nth b i2) (fun x => x = q) ∧ (if !q then Q else (-9223372036854775808 ≤ i2) ∧ I32 (i2 + 1) ∧ mu33 (i2 + 1) < mu33 i2)) else Q')) := by
 refine loop_all a.length (fun k => decide (nth a (k : Int) = nth b (k : Int))) (fun I mu k hk hp hn' => ?_) (fun ha => ?_)
 ·refine ⟨OM, OM, _, hel _ _ (nth_mem a hk), ?_⟩
  by_cases h : nth a (k : Int) = nth b (k : Int)
  ·rw [decide_eq_true h, if_neg RD]
   obtain ⟨i1, i2⟩ := hn' (decide_eq_true h)
   exact ⟨OM, i1, i2⟩
  ·rw [decide_eq_false h, if_pos RD]
   exact hn (by rw [Ne, list_eq_iff a b hl]; exact fun g => h (g k hk))
 ·exact hy ((list_eq_iff a b hl).2 fun k hk => of_decide_eq_true (ha k hk))
end
end
def findCommit (r : Repo) (c : Commit) : Int := findN r.Commits.length fun j => decide (nth r.Commits (j : Int) = c)
def findHead (r : Repo) (name : Str) : Int := findN r.Heads.length fun j => decide ((nth r.Heads (j : Int)).Name = name)
def inUp (up : List Int) (k j : Nat) : Bool := decide (0 ≤ nth up (j : Int)) && decide (nth up (j : Int) < (k : Int))
def upOk (up : List Int) (k : Nat) : Bool := (decide (k = 0) == decide (up.length = 0)) && decide (up.length ≤ 2) && allN up.length fun j => inUp up k j && !(decide (nth up (j : Int) ∈ up.take j))
theorem upOk_eq (up : List Int) (k : Nat) : (allN up.length (inUp up k) && (decide (up.length ≤ 2) && ((decide (0 < up.length) == decide (0 < k)) && (decide (up.length < 2) || !(decide (nth up 0 = nth up 1)))))) = upOk up k := by
 unfold upOk
 have h0 : (decide (k = 0) == decide (up.length = 0)) = (decide (0 < up.length) == decide (0 < k)) := by
  rcases Nat.eq_zero_or_pos k with h | h <;> rcases Nat.eq_zero_or_pos up.length with g | g
  ·rw [h, g]; rfl
  ·rw [h, decide_eq_false (show ¬ up.length = 0 by omega), decide_eq_true g]; rfl
  ·rw [g, decide_eq_false (show ¬ k = 0 by omega), decide_eq_true h]; rfl
  ·rw [decide_eq_false (show ¬ k = 0 by omega), decide_eq_false (show ¬ up.length = 0 by omega), decide_eq_true h, decide_eq_true g]; rfl
 rw [h0]
 match up with
 | [] => simp [allN]
 | [x] => simp [allN, Bool.and_comm]
 | [x, y] =>
  have e : allN 2 (fun j => inUp [x, y] k j && !(decide (nth [x, y] (j : Int) ∈ [x, y].take j))) = (inUp [x, y] k 0 && inUp [x, y] k 1 && !(decide (x = y))) := by
   have : (decide (y = x)) = decide (x = y) := decide_eq_decide.2 eq_comm
   simp [allN, List.range_succ, nth, this, Bool.and_assoc]
  have e2 : allN 2 (inUp [x, y] k) = (inUp [x, y] k 0 && inUp [x, y] k 1) := by simp [allN, List.range_succ]
  show (allN 2 (inUp [x, y] k) && _) = (_ && allN 2 _)
  rw [e, e2]
  have e3 : decide (nth [x, y] 0 = nth [x, y] 1) = decide (x = y) := rfl
  rw [e3]
  simp only [show decide ([x, y].length ≤ 2) = true from rfl, show decide ([x, y].length < 2) = false from rfl, Bool.true_and, Bool.false_or, Bool.and_true]
  cases decide (x = y) <;> cases inUp [x, y] k 0 <;> cases inUp [x, y] k 1 <;> cases (decide (0 < [x, y].length) == decide (0 < k)) <;> rfl
 | x :: y :: z :: l =>
  have : decide ((x :: y :: z :: l).length ≤ 2) = false := decide_eq_false (by simp)
  rw [this]; simp
def repoOk (r : Repo) : Bool :=
 (decide (1 ≤ r.Commits.length) && decide (r.Commits.length ≤ 14)) && (decide (1 ≤ r.Heads.length) && decide (r.Heads.length ≤ 4)) &&
 allN r.Commits.length (fun k => sheetOk (nth r.Commits (k : Int)).Sheet && wordOk (nth r.Commits (k : Int)).Note && decide (findCommit r (nth r.Commits (k : Int)) = (k : Int)) && upOk (nth r.Commits (k : Int)).Up k) &&
 allN r.Heads.length (fun k => wordOk (nth r.Heads (k : Int)).Name && decide (findHead r (nth r.Heads (k : Int)).Name = (k : Int)) && (decide (0 ≤ (nth r.Heads (k : Int)).At) && decide ((nth r.Heads (k : Int)).At < (r.Commits.length : Int))))
def stepUp (up : List Int) (m : List Bool) : List Bool := up.foldl (fun m u => m.set u.toNat true) m
theorem stepUp_len (up : List Int) (m : List Bool) : (stepUp up m).length = m.length := by
 unfold stepUp
 induction up generalizing m with
 | nil => rfl
 | cons u up ih => rw [List.foldl_cons, ih, List.length_set]
theorem stepUp_take (up : List Int) (m : List Bool) {k : Nat} (h : k < up.length) : stepUp (up.take (k + 1)) m = (stepUp (up.take k) m).set (nth up (k : Int)).toNat true := by
 unfold stepUp; rw [take_nth up h, List.foldl_append]; rfl
theorem stepUp_nth (up : List Int) (m : List Bool) (i : Nat) (h : ∀ u ∈ up, u.toNat < i) : nth (stepUp up m) (i : Int) = nth m (i : Int) := by
 unfold stepUp
 induction up generalizing m with
 | nil => rfl
 | cons u up ih =>
  rw [List.foldl_cons, ih _ (fun x hx => h x (List.mem_cons_of_mem _ hx))]
  by_cases hl : u.toNat < m.length
  ·rw [nth_set _ hl, if_neg (by have := h u List.mem_cons_self; omega)]
  ·rw [List.set_eq_of_length_le OM]
def back (r : Repo) : Nat → List Bool → List Bool
 | 0, m => m
 | k + 1, m => back r k (if nth m (k : Int) then stepUp (nth r.Commits (k : Int)).Up m else m)
theorem back_len (r : Repo) (k : Nat) (m : List Bool) : (back r k m).length = m.length := by
 induction k generalizing m with
 | zero => rfl
 | succ k ih => rw [back, ih]; split <;> simp [stepUp_len]
theorem back_skip (r : Repo) (m : List Bool) (a : Nat) (n : Nat) (h : ∀ i : Nat, a ≤ i → i < a + n → nth m (i : Int) = false) : back r (a + n) m = back r a m := by
 induction n with
 | zero => rfl
 | succ n ih =>
  rw [show a + (n + 1) = (a + n) + 1 by omega, back, h (a + n) OM OM, if_neg RD]
  exact ih fun i hi hj => h i hi OM
def pastOf (r : Repo) (b : Nat) : List Bool := back r (b + 1) ((List.replicate r.Commits.length false).set b true)
theorem pastOf_len (r : Repo) (b : Nat) : (pastOf r b).length = r.Commits.length := by unfold pastOf; rw [back_len]; simp
theorem pastOf_all (r : Repo) {b : Nat} (h : b < r.Commits.length) : back r r.Commits.length ((List.replicate r.Commits.length false).set b true) = pastOf r b := by
 unfold pastOf
 have := back_skip r ((List.replicate r.Commits.length false).set b true) (b + 1) (r.Commits.length - (b + 1)) fun i hi hj => by
  rw [nth_set _ (by simpa using h), if_neg OM, nth_rep _ _ _ OM]
 rw [← this]; congr 1; omega
theorem repoOk_up {r : Repo} (h : repoOk r = true) {k : Nat} (hk : k < r.Commits.length) : ∀ u ∈ (nth r.Commits (k : Int)).Up, 0 ≤ u ∧ u < (k : Int) := by
 unfold repoOk at h
 simp only [Bool.and_eq_true] at h
 have h1 := allN_iff.1 h.1.2 k hk
 simp only [Bool.and_eq_true] at h1
 have h2 := h1.2
 unfold upOk at h2
 rw [Bool.and_eq_true] at h2
 intro u hu
 obtain ⟨j, hj, e⟩ := mem_nth hu
 have h3 := allN_iff.1 h2.2 j hj
 unfold inUp at h3
 simp only [Bool.and_eq_true, decide_eq_true_eq] at h3
 rw [← e]; exact h3.1
theorem repoOk_len {r : Repo} (h : repoOk r = true) : r.Commits.length ≤ 14 := by
 unfold repoOk at h
 simp only [Bool.and_eq_true, decide_eq_true_eq] at h
 exact h.1.1.1.2
inductive Reach (r : Repo) : Nat → Nat → Prop
 | refl (b : Nat) : Reach r b b
 | step {b i : Nat} (u : Int) : u ∈ (nth r.Commits (b : Int)).Up → Reach r u.toNat i → Reach r b i
theorem Reach.trans {r : Repo} {a b c : Nat} (h : Reach r a b) (g : Reach r b c) : Reach r a c := by
 induction h with
 | refl b => exact g
 | step u hu _ ih => exact .step u hu (ih g)
def Ups (r : Repo) : Prop := ∀ k : Nat, k < r.Commits.length → ∀ u ∈ (nth r.Commits (k : Int)).Up, 0 ≤ u ∧ u < (k : Int)
theorem Reach.le {r : Repo} (hr : Ups r) {a b : Nat} (h : Reach r a b) (ha : a < r.Commits.length) : b ≤ a := by
 induction h with
 | refl b => exact Nat.le_refl _
 | step u hu _ ih =>
  have := hr _ ha u hu
  have := ih OM
  omega
theorem nth_mark (m : List Bool) {i : Nat} (hi : i < m.length) (j : Nat) : nth (m.set i true) (j : Int) = true ↔ nth m (j : Int) = true ∨ j = i := by
 rw [nth_set _ hi]
 by_cases e : j = i
 ·rw [if_pos OM]; simp [e]
 ·rw [if_neg OM]; simp [e]
theorem stepUp_mark (up : List Int) (m : List Bool) (h : ∀ u ∈ up, u.toNat < m.length) (j : Nat) : nth (stepUp up m) (j : Int) = true ↔ nth m (j : Int) = true ∨ ∃ u ∈ up, u.toNat = j := by
 unfold stepUp
 induction up generalizing m with
 | nil => simp
 | cons u up ih =>
  rw [List.foldl_cons, ih _ (fun x hx => by rw [List.length_set]; exact h x (List.mem_cons_of_mem _ hx)), nth_mark m (h u (List.mem_cons_self ..))]
  simp only [List.mem_cons, exists_eq_or_imp]
  constructor
  ·rintro ((h | h) | h)
   ·exact .inl h
   ·exact .inr (.inl h.symm)
   ·exact .inr (.inr h)
  ·rintro (h | h | h)
   ·exact .inl (.inl h)
   ·exact .inl (.inr h.symm)
   ·exact .inr h
theorem back_mark {r : Repo} (hr : Ups r) : ∀ (n : Nat) (m : List Bool), n ≤ r.Commits.length → m.length = r.Commits.length → ∀ i : Nat,
  (nth (back r n m) (i : Int) = true ↔ ∃ j : Nat, nth m (j : Int) = true ∧ (i = j ∨ (j < n ∧ Reach r j i))) := by
 intro n
 induction n with
 | zero =>
  intro m _ _ i
  show nth m (i : Int) = true ↔ _
  constructor
  ·intro h; exact ⟨i, h, .inl rfl⟩
  ·rintro ⟨j, h, rfl | ⟨h0, _⟩⟩
   ·exact h
   ·omega
 | succ n ih =>
  intro m hn hm i
  have hu := hr n OM
  have hs : ∀ j : Nat, nth (if nth m (n : Int) then stepUp (nth r.Commits (n : Int)).Up m else m) (j : Int) = true ↔ nth m (j : Int) = true ∨ (nth m (n : Int) = true ∧ ∃ u ∈ (nth r.Commits (n : Int)).Up, u.toNat = j) := fun j => by
   split
   ·rename_i h
    rw [stepUp_mark _ _ fun u hx => by have := hu u hx; omega]
    exact ⟨fun g => g.imp id fun g => ⟨h, g⟩, fun g => g.imp id fun g => g.2⟩
   ·rename_i h
    exact ⟨.inl, fun g => g.elim id fun g => absurd g.1 h⟩
  rw [back, ih _ OM (by split <;> simp [stepUp_len, hm])]
  constructor
  ·rintro ⟨j, h1, h2⟩
   rcases (hs j).1 h1 with h | ⟨h, u, hx, rfl⟩
   ·exact ⟨j, h, h2.imp id fun ⟨a, b⟩ => ⟨OM, b⟩⟩
   ·refine ⟨n, h, .inr ⟨OM, ?_⟩⟩
    rcases h2 with rfl | ⟨_, h2⟩
    ·exact .step u hx (.refl _)
    ·exact .step u hx h2
  ·rintro ⟨j, h, rfl | ⟨h1, h2⟩⟩
   ·exact ⟨i, (hs i).2 (.inl h), .inl rfl⟩
   ·by_cases e : j < n
    ·exact ⟨j, (hs j).2 (.inl h), .inr ⟨e, h2⟩⟩
    ·have en : j = n := by omega
     rw [en] at h h2
     cases h2 with
     | refl => exact ⟨n, (hs n).2 (.inl h), .inl rfl⟩
     | step u hx h2 =>
      have := hu u hx
      exact ⟨u.toNat, (hs _).2 (.inr ⟨h, u, hx, rfl⟩), .inr ⟨OM, h2⟩⟩
theorem pastOf_mark {r : Repo} (hr : Ups r) {b : Nat} (hb : b < r.Commits.length) (i : Nat) : nth (pastOf r b) (i : Int) = true ↔ Reach r b i := by
 unfold pastOf
 rw [back_mark hr _ _ OM (by simp)]
 have h0 : ∀ j : Nat, nth ((List.replicate r.Commits.length false).set b true) (j : Int) = true ↔ j = b := fun j => by
  rw [nth_mark _ (by simpa using hb)]
  have : nth (List.replicate r.Commits.length false) (j : Int) = false := by
   unfold nth
   rw [Int.toNat_natCast, List.getD_eq_getElem?_getD, List.getElem?_replicate]
   split <;> rfl
  rw [this]; simp
 constructor
 ·rintro ⟨j, h1, h2⟩
  obtain rfl := (h0 j).1 h1
  rcases h2 with rfl | ⟨_, h2⟩
  ·exact .refl _
  ·exact h2
 ·intro h
  exact ⟨b, (h0 b).2 rfl, .inr ⟨OM, h⟩⟩
section
open Go.RowKit Go.Shelf Go.Sort Go.Lib
theorem strs_arr {w : World} {S : Sp} : ∀ {xs : List Str} {cs : List Value}, Arr Kd.str w S xs cs → cs = xs.map vs ∧ ∀ x ∈ xs, Lim x
 | [], _, h => ⟨h, fun x hx => by cases hx⟩
 | x :: xs, _, ⟨c1, c2, e, h1, h2⟩ => by
  obtain ⟨e2, h3⟩ := strs_arr h2
  refine ⟨by rw [e, h1.1, e2]; rfl, fun y hy => ?_⟩
  rcases List.mem_cons.1 hy with rfl | hy
  ·exact h1.2
  ·exact h3 y hy
theorem Ow.holds {e : TypeId} {w : World} {O : Ob} {g n c : Nat} {xs : List Str} (h : Ow Kd.str e w O (.slice (some ⟨g, 0, none⟩) n c) xs) : Holds encStr w g 0 xs.toArray := by
 obtain ⟨cells, o1, o2, o3⟩ := h
 obtain ⟨e2, _⟩ := strs_arr o2
 intro j hj
 simp only [List.size_toArray] at hj
 rcases o1.2 with ⟨_, e'⟩ | ⟨g', cap, cur, ev, h0, hg, hle, hmx, hcur, htake⟩
 ·omega
 ·cases ev
  have hc := World.ownsRow.cells o1 (g := g) rfl j (vs xs[j]) (by rw [e2]; simp [hj])
  have ha : (⟨g, 0, none⟩ : Addr).add j = ⟨g, 0 + j, none⟩ := by unfold Addr.add; split <;> simp_all
  rw [ha] at hc
  refine ⟨by rw [hc]; simp [hj], ?_⟩
  simp [World.frozen?, hg]
end
section
theorem less_trans : ∀ {a b c : Str}, Op.bytesLess a b = true → Op.bytesLess b c = true → Op.bytesLess a c = true
 | _, _, [], _, h => by rename_i b _; cases b <;> simp [Op.bytesLess] at h
 | _, [], _ :: _, h, _ => by rename_i a _ _ _; cases a <;> simp [Op.bytesLess] at h
 | [], _ :: _, _ :: _, _, _ => by simp [Op.bytesLess]
 | x :: a, y :: b, z :: c, h1, h2 => by
  rw [Op.bytesLess] at h1 h2 ⊢
  simp only [Bool.or_eq_true, Bool.and_eq_true, decide_eq_true_eq, beq_iff_eq] at h1 h2 ⊢
  rcases h1 with h1 | ⟨rfl, h1⟩
  ·rcases h2 with h2 | ⟨rfl, h2⟩
   ·exact .inl (UInt8.lt_trans h1 h2)
   ·exact .inl h1
  ·rcases h2 with h2 | ⟨rfl, h2⟩
   ·exact .inl h2
   ·exact .inr ⟨rfl, less_trans h1 h2⟩
theorem less_or {a b : Str} (h : Op.bytesLess a b = false) : Op.bytesLess b a = true ∨ b = a := by
 have := less_tri a b
 rw [h] at this
 simpa using this.symm
def SS (l : List Str) : Prop := l.Pairwise fun x y => Op.bytesLess x y = true
theorem SS.ext : ∀ {l m : List Str}, SS l → SS m → (∀ x, x ∈ l ↔ x ∈ m) → l = m
 | [], [], _, _, _ => rfl
 | [], y :: m, _, _, h => by have := (h y).2 List.mem_cons_self; cases this
 | x :: l, [], _, _, h => by have := (h x).1 List.mem_cons_self; cases this
 | x :: l, y :: m, hl, hm, h => by
  obtain ⟨l1, l2⟩ := List.pairwise_cons.1 hl
  obtain ⟨m1, m2⟩ := List.pairwise_cons.1 hm
  have e : x = y := by
   rcases List.mem_cons.1 ((h x).1 List.mem_cons_self) with e | e
   ·exact e
   ·rcases List.mem_cons.1 ((h y).2 List.mem_cons_self) with e' | e'
    ·exact e'.symm
    ·have := less_trans (m1 x e) (l1 y e'); rw [less_irr] at this; cases this
  subst e
  rw [SS.ext l2 m2 fun z => ⟨fun hz => ?_, fun hz => ?_⟩]
  ·rcases List.mem_cons.1 ((h z).1 (List.mem_cons_of_mem _ hz)) with e | e
   ·subst e; have := l1 z hz; rw [less_irr] at this; cases this
   ·exact e
  ·rcases List.mem_cons.1 ((h z).2 (List.mem_cons_of_mem _ hz)) with e | e
   ·subst e; have := m1 z hz; rw [less_irr] at this; cases this
   ·exact e
section
open Go.Lib
end
def ids (s : List Feat) : List Str := s.map (·.Id)
theorem ids_app (s t : List Feat) : ids (s ++ t) = ids s ++ ids t := List.map_append
theorem sheet_ss {s : List Feat} (h : sheetOk s = true) : SS (ids s) ∧ s.length ≤ 8 ∧ ∀ f ∈ s, featOk f = true := by
 unfold sheetOk at h
 simp only [Bool.and_eq_true, decide_eq_true_eq] at h
 obtain ⟨h1, h2⟩ := h
 have h1 := allN_iff.1 h1
 have hadj : ∀ k, 0 < k → k < s.length → Op.bytesLess (nth s ((k : Int) - 1)).Id (nth s (k : Int)).Id = true := fun k h0 hk => by
  have := h1 k hk
  simp only [Bool.and_eq_true, Bool.or_eq_true, decide_eq_true_eq] at this
  rcases this.2 with h | h
  ·omega
  ·exact h
 refine ⟨?_, h2, fun f hf => ?_⟩
 ·unfold SS ids
  rw [List.pairwise_map]
  refine List.pairwise_iff_getElem.2 fun i j hi hj hij => ?_
  have key : ∀ d, i + d + 1 < s.length → Op.bytesLess s[i].Id (nth s ((i + d + 1 : Nat) : Int)).Id = true := by
   intro d
   induction d with
   | zero =>
    intro hd
    have := hadj (i + 0 + 1) OM hd
    rw [show (((i + 0 + 1 : Nat) : Int) - 1) = (i : Int) by omega, nth_nat s hi] at this
    exact this
   | succ d ih =>
    intro hd
    have := hadj (i + (d + 1) + 1) OM hd
    rw [show (((i + (d + 1) + 1 : Nat) : Int) - 1) = ((i + d + 1 : Nat) : Int) by omega] at this
    exact less_trans (ih OM) this
  have := key (j - i - 1) OM
  rw [show i + (j - i - 1) + 1 = j by omega, nth_nat s hj] at this
  exact this
 ·obtain ⟨k, hk, rfl⟩ := List.getElem_of_mem hf
  have := h1 k hk
  rw [nth_nat s hk] at this
  simp only [Bool.and_eq_true] at this
  exact this.1
theorem word_len {s : Str} (h : wordOk s = true) : s.length ≤ 6 := by
 unfold wordOk at h
 simp only [Bool.and_eq_true, decide_eq_true_eq] at h
 exact h.2.2
theorem bulk_small {α : Type} [Bulk α] (l : List α) (m : Nat) (h : ∀ x ∈ l, bulk x ≤ m) : bulk l ≤ l.length * (m + 1) := by
 induction l with
 | nil => exact Nat.zero_le _
 | cons x l ih =>
  have h1 := h x List.mem_cons_self
  have h2 := ih fun y hy => h y (List.mem_cons_of_mem _ hy)
  rw [bulk_cons, List.length_cons, Nat.add_mul]
  omega
theorem feat_small {f : Feat} (h : featOk f = true) : bulk f ≤ 100 ∧ f.Id.length ≤ 6 := by
 unfold featOk at h
 simp only [Bool.and_eq_true, decide_eq_true_eq] at h
 obtain ⟨⟨⟨h1, h2⟩, h3⟩, h4⟩ := h
 have hi := word_len h3
 have e1 : bulk f = bulk f.Id + (bulk f.Shape.Kind + bulk f.Shape.Pts) + bulk f.Tags := rfl
 have e2 : bulk f.Id = f.Id.length := bulk_str _
 have e3 : bulk f.Shape.Kind = 0 := rfl
 have e4 : bulk f.Shape.Pts = f.Shape.Pts.length := bulk_flat (fun _ => rfl) _
 have ht : bulk f.Tags ≤ f.Tags.length * (12 + 1) := bulk_small _ 12 fun t hm => by
  unfold tagsOk at h1
  obtain ⟨k, hk, rfl⟩ := List.getElem_of_mem hm
  have := allN_iff.1 h1 k hk
  rw [nth_nat _ hk] at this
  simp only [Bool.and_eq_true] at this
  have a1 := word_len this.1.1
  have a2 := word_len this.1.2
  have b0 : bulk f.Tags[k] = bulk f.Tags[k].Key + bulk f.Tags[k].Val := rfl
  have b1 : bulk f.Tags[k].Key = f.Tags[k].Key.length := bulk_str _
  have b2 : bulk f.Tags[k].Val = f.Tags[k].Val.length := bulk_str _
  omega
 have hp : f.Shape.Pts.length ≤ 6 := by
  unfold shapeOk kindOk at h4
  simp only [Bool.and_eq_true] at h4
  have := h4.2
  split at this
  ·simp only [decide_eq_true_eq] at this; omega
  ·split at this
   ·simp only [Bool.and_eq_true, decide_eq_true_eq] at this; omega
   ·split at this
    ·simp only [Bool.and_eq_true, decide_eq_true_eq] at this; omega
    ·cases this
 have : f.Tags.length * (12 + 1) ≤ 52 := by omega
 omega
end
structure MInv (o a b : List Pt) (xs : List Pt) (i j k t : Nat) : Prop where
 hi : i ≤ t
 ht : t ≤ o.length
 hj : j ≤ a.length
 hk : k ≤ b.length
 fj : From (part o a) t j
 fk : From (part o b) t k
 len : xs.length ≤ j + k
 eq : (mloop o a b (part o a) (part o b) (o.length - t) t i j k).map (xs ++ ·) = smerge o a b
theorem MInv.zero {o a b : List Pt} (h1 : few o a = true) (h2 : few o b = true) : MInv o a b [] 0 0 0 0 :=
 ⟨Nat.le_refl _, Nat.zero_le _, Nat.zero_le _, Nat.zero_le _, From.zero _ _, From.zero _ _, Nat.le_refl _, by rw [smerge_few h1 h2, Nat.sub_zero]; cases mloop o a b (part o a) (part o b) o.length 0 0 0 0 <;> rfl⟩
theorem MInv.skip {o a b xs : List Pt} {i j k t : Nat} (h : MInv o a b xs i j k t) (ht : t < o.length) (hn : part o a t = none ∨ part o b t = none) : MInv o a b xs i j k (t + 1) :=
 ⟨by have := h.hi; omega, ht, h.hj, h.hk, h.fj.skip, h.fk.skip, h.len, by
  have := h.eq
  rw [show o.length - t = (o.length - (t + 1)) + 1 by omega, mloop_none hn] at this
  exact this⟩
theorem MInv.step {o a b xs : List Pt} {i j k t x y : Nat} (h : MInv o a b xs i j k t) (ht : t < o.length) (hx : part o a t = some x) (hy : part o b t = some y) {p : List Pt} (hp : pickL (seg o i t) (seg a j x) (seg b k y) = some p) : MInv o a b (xs ++ p ++ [nth o (t : Int)]) (t + 1) (x + 1) (y + 1) (t + 1) := by
 have h1 := (part_mates o a).lt hx
 have h2 := (part_mates o b).lt hy
 refine ⟨Nat.le_refl _, ht, h1.2, h2.2, .step (part_mates o a) hx, .step (part_mates o b) hy, ?_, ?_⟩
 ·have := (pickL_mem hp).2.2.2
  rw [seg_len a _ _ OM, seg_len b _ _ OM] at this
  have h3 := h.fj t x (Nat.le_refl _) hx
  have h4 := h.fk t y (Nat.le_refl _) hy
  have h5 := h.len
  simp only [List.length_append, List.length_singleton]; omega
 ·have := h.eq
  rw [show o.length - t = (o.length - (t + 1)) + 1 by omega, mloop_some hx hy, hp, Option.bind_some, Option.map_map] at this
  rw [← this]
  congr 1
  funext r
  simp
theorem MInv.last {o a b xs : List Pt} {i j k : Nat} (h : MInv o a b xs i j k o.length) : (pickL (o.drop i) (a.drop j) (b.drop k)).map (xs ++ ·) = smerge o a b := by
 have := h.eq
 rw [Nat.sub_self, mloop_zero] at this
 exact this
theorem MInv.from {o a b xs : List Pt} {i j k t x y : Nat} (h : MInv o a b xs i j k t) (hx : part o a t = some x) (hy : part o b t = some y) : j ≤ x ∧ x < a.length ∧ k ≤ y ∧ y < b.length :=
 ⟨h.fj t x (Nat.le_refl _) hx, ((part_mates o a).lt hx).2, h.fk t y (Nat.le_refl _) hy, ((part_mates o b).lt hy).2⟩
def keysT (t : List Tag) : List Str := t.map (·.Key)
theorem keys_app (s t : List Tag) : keysT (s ++ t) = keysT s ++ keysT t := List.map_append
theorem feat_facts {f : Feat} (h : featOk f = true) : f.Tags.length ≤ 4 ∧ shapeOk f.Shape = true ∧ f.Shape.Pts.length ≤ 6 ∧ f.Id.length ≤ 6 ∧ ∀ t ∈ f.Tags, t.Key.length ≤ 6 ∧ t.Val.length ≤ 6 := by
 have hb := (feat_small h).2
 unfold featOk at h
 simp only [Bool.and_eq_true, decide_eq_true_eq] at h
 obtain ⟨⟨⟨h1, h2⟩, h3⟩, h4⟩ := h
 refine ⟨h2, h4, ?_, hb, fun t hm => ?_⟩
 ·unfold shapeOk kindOk at h4
  simp only [Bool.and_eq_true] at h4
  have := h4.2
  split at this
  ·simp only [decide_eq_true_eq] at this; omega
  ·split at this
   ·simp only [Bool.and_eq_true, decide_eq_true_eq] at this; omega
   ·split at this
    ·simp only [Bool.and_eq_true, decide_eq_true_eq] at this; omega
    ·cases this
 ·unfold tagsOk at h1
  obtain ⟨k, hk, rfl⟩ := List.getElem_of_mem hm
  have := allN_iff.1 h1 k hk
  rw [nth_nat _ hk] at this
  simp only [Bool.and_eq_true] at this
  exact ⟨word_len this.1.1, word_len this.1.2⟩
theorem shape_pts {s : Shape} (h : shapeOk s = true) : s.Pts.length ≤ 6 := by
 unfold shapeOk kindOk at h
 simp only [Bool.and_eq_true] at h
 have := h.2
 split at this
 ·simp only [decide_eq_true_eq] at this; omega
 ·split at this
  ·simp only [Bool.and_eq_true, decide_eq_true_eq] at this; omega
  ·split at this
   ·simp only [Bool.and_eq_true, decide_eq_true_eq] at this; omega
   ·cases this
section
def mkL {α : Type} (g : α → Int → α × Int) : List α → Int → List α × Int
 | [], k => ([], k)
 | x :: l, k => ((g x k).1 :: (mkL g l (g x k).2).1, (mkL g l (g x k).2).2)
section
variable {α : Type} {g : α → Int → α × Int}
theorem mkL_snoc (x : α) : ∀ (l : List α) (k : Int), mkL g (l ++ [x]) k = ((mkL g l k).1 ++ [(g x (mkL g l k).2).1], (g x (mkL g l k).2).2)
 | [], k => rfl
 | y :: l, k => by
  rw [List.cons_append, mkL, mkL_snoc x l]; rfl
theorem mkL_len : ∀ (l : List α) (k : Int), (mkL g l k).1.length = l.length
 | [], k => rfl
 | y :: l, k => by rw [mkL, List.length_cons, List.length_cons, mkL_len l]
theorem mkL_app : ∀ (l m : List α) (k : Int), mkL g (l ++ m) k = ((mkL g l k).1 ++ (mkL g m (mkL g l k).2).1, (mkL g m (mkL g l k).2).2)
 | [], m, k => rfl
 | y :: l, m, k => by rw [List.cons_append, mkL, mkL_app l]; rfl
variable [Inhabited α]
def Mk (g : α → Int → α × Int) (a : List α) (k : Int) (u : Nat) (xs : List α) (k' : Int) : Prop := u ≤ a.length ∧ xs = (mkL g (a.take u) k).1 ++ a.drop u ∧ k' = (mkL g (a.take u) k).2
variable {a xs : List α} {k k' : Int} {u : Nat}
theorem Mk.zero (a : List α) (k : Int) : Mk g a k 0 a k := ⟨Nat.zero_le _, by simp [mkL], by simp [mkL]⟩
theorem Mk.len (h : Mk g a k u xs k') : xs.length = a.length := by
 rw [h.2.1, List.length_append, mkL_len, List.length_take, List.length_drop]; have := h.1; omega
theorem Mk.nth (h : Mk g a k u xs k') (hu : u < a.length) : nth xs (u : Int) = Go.Proofs.Ytemeihpokbleaaa.nth a (u : Int) := by
 rw [nth_nat xs (by rw [h.len]; exact hu), nth_nat a hu]
 have hl : (mkL g (a.take u) k).1.length = u := by rw [mkL_len, List.length_take]; omega
 have := h.2.1
 subst this
 rw [List.getElem_append_right OM]
 simp [hl]
def Hd (g : α → Int → α × Int) (a : List α) (k : Int) (u : Nat) (k' : Int) : Prop := u ≤ a.length ∧ k' = (mkL g (a.take u) k).2
theorem Hd.zero (a : List α) (k : Int) : Hd g a k 0 k := ⟨Nat.zero_le _, by simp [mkL]⟩
theorem Hd.nth (h : Hd g a k u k') (hu : u < a.length) : nth (mkL g a k).1 (u : Int) = (g (Go.Proofs.Ytemeihpokbleaaa.nth a (u : Int)) k').1 := by
 have e : a = (a.take u ++ [Go.Proofs.Ytemeihpokbleaaa.nth a (u : Int)]) ++ a.drop (u + 1) := by rw [← take_nth a hu, List.take_append_drop]
 have hl : (mkL g (a.take u) k).1.length = u := by rw [mkL_len, List.length_take]; omega
 rw [nth_nat _ (by rw [mkL_len]; exact hu)]
 have h1 : (mkL g a k).1[u]? = some (g (Go.Proofs.Ytemeihpokbleaaa.nth a (u : Int)) k').1 := by
  conv => lhs; rw [e]
  rw [mkL_app, mkL_snoc]
  dsimp only
  rw [List.append_assoc, List.getElem?_append_right OM, hl, Nat.sub_self, h.2]; rfl
 rw [List.getElem?_eq_getElem (by rw [mkL_len]; exact hu)] at h1
 exact Option.some.inj h1
end
theorem bulk_feat (x : Feat) : bulk x = bulk x.Id + (bulk x.Shape.Kind + bulk x.Shape.Pts) + bulk x.Tags := rfl
end
theorem pw_ext {α : Type} {R : α → α → Prop} (irr : ∀ x, ¬ R x x) (tr : ∀ x y z, R x y → R y z → R x z) : ∀ {l m : List α}, l.Pairwise R → m.Pairwise R → (∀ x, x ∈ l ↔ x ∈ m) → l = m
 | [], [], _, _, _ => rfl
 | [], y :: m, _, _, h => by have := (h y).2 List.mem_cons_self; cases this
 | x :: l, [], _, _, h => by have := (h x).1 List.mem_cons_self; cases this
 | x :: l, y :: m, hl, hm, h => by
  obtain ⟨l1, l2⟩ := List.pairwise_cons.1 hl
  obtain ⟨m1, m2⟩ := List.pairwise_cons.1 hm
  have e : x = y := by
   rcases List.mem_cons.1 ((h x).1 List.mem_cons_self) with e | e
   ·exact e
   ·rcases List.mem_cons.1 ((h y).2 List.mem_cons_self) with e' | e'
    ·exact e'.symm
    ·exact absurd (tr _ _ _ (m1 x e) (l1 y e')) (irr _)
  subst e
  rw [pw_ext irr tr l2 m2 fun z => ⟨fun hz => ?_, fun hz => ?_⟩]
  ·rcases List.mem_cons.1 ((h z).1 (List.mem_cons_of_mem _ hz)) with e | e
   ·subst e; exact absurd (l1 z hz) (irr _)
   ·exact e
  ·rcases List.mem_cons.1 ((h z).2 (List.mem_cons_of_mem _ hz)) with e | e
   ·subst e; exact absurd (m1 z hz) (irr _)
   ·exact e
def FS (l : List Feat) : Prop := l.Pairwise fun x y => Op.bytesLess x.Id y.Id = true
theorem FS.ext {l m : List Feat} (hl : FS l) (hm : FS m) (h : ∀ x, x ∈ l ↔ x ∈ m) : l = m :=
 pw_ext (R := fun x y : Feat => Op.bytesLess x.Id y.Id = true) (fun x e => by rw [less_irr] at e; cases e) (fun x y z h1 h2 => less_trans h1 h2) hl hm h
theorem FS.inj {d : List Feat} (h : FS d) {x y : Feat} (hx : x ∈ d) (hy : y ∈ d) (e : x.Id = y.Id) : x = y := by
 obtain ⟨i, hi, rfl⟩ := List.getElem_of_mem hx
 obtain ⟨j, hj, rfl⟩ := List.getElem_of_mem hy
 rcases Nat.lt_trichotomy i j with g | g | g
 ·have := List.pairwise_iff_getElem.1 h i j hi hj g
  rw [e, less_irr] at this; cases this
 ·subst g; rfl
 ·have := List.pairwise_iff_getElem.1 h j i hj hi g
  rw [e, less_irr] at this; cases this
theorem tags_ss {t : List Tag} (h : tagsOk t = true) : SS (keysT t) := by
 have h1 := allN_iff.1 h
 have hadj : ∀ k, 0 < k → k < t.length → Op.bytesLess (nth t ((k : Int) - 1)).Key (nth t (k : Int)).Key = true := fun k h0 hk => by
  have := h1 k hk
  simp only [Bool.and_eq_true, Bool.or_eq_true, decide_eq_true_eq] at this
  rcases this.2 with h | h
  ·omega
  ·exact h
 unfold SS keysT
 rw [List.pairwise_map]
 refine List.pairwise_iff_getElem.2 fun i j hi hj hij => ?_
 have key : ∀ d, i + d + 1 < t.length → Op.bytesLess t[i].Key (nth t ((i + d + 1 : Nat) : Int)).Key = true := by
  intro d
  induction d with
  | zero =>
   intro hd
   have := hadj (i + 0 + 1) OM hd
   rw [show (((i + 0 + 1 : Nat) : Int) - 1) = (i : Int) by omega, nth_nat t hi] at this
   exact this
  | succ d ih =>
   intro hd
   have := hadj (i + (d + 1) + 1) OM hd
   rw [show (((i + (d + 1) + 1 : Nat) : Int) - 1) = ((i + d + 1 : Nat) : Int) by omega] at this
   exact less_trans (ih OM) this
 have := key (j - i - 1) OM
 rw [show i + (j - i - 1) + 1 = j by omega, nth_nat t hj] at this
 exact this
theorem featOk_tags {f : Feat} (h : featOk f = true) : SS (keysT f.Tags) := by
 unfold featOk at h
 simp only [Bool.and_eq_true] at h
 exact tags_ss h.1.1.1
theorem tagsOk_of {t : List Tag} (hs : SS (keysT t)) (hw : ∀ x ∈ t, wordOk x.Key = true ∧ wordOk x.Val = true) : tagsOk t = true := by
 unfold tagsOk
 refine allN_true fun k hk => ?_
 obtain ⟨h1, h2⟩ := hw _ (nth_mem t hk)
 rw [h1, h2, Bool.true_and, Bool.true_and, Bool.or_eq_true, decide_eq_true_eq]
 rcases Nat.eq_zero_or_pos k with h0 | h0
 ·exact .inl h0
 refine .inr ?_
 unfold SS keysT at hs
 have := List.pairwise_iff_getElem.1 (List.pairwise_map.1 hs) (k - 1) k OM hk OM
 rw [show ((k : Int) - 1) = ((k - 1 : Nat) : Int) by omega, nth_nat t hk, nth_nat t OM]
 exact this
theorem shape_pos {s : Shape} (h : shapeOk s = true) : 1 ≤ s.Pts.length := by
 unfold shapeOk kindOk at h
 simp only [Bool.and_eq_true] at h
 have := h.2
 split at this
 ·simp only [decide_eq_true_eq] at this; omega
 ·split at this
  ·simp only [Bool.and_eq_true, decide_eq_true_eq] at this; omega
  ·split at this
   ·simp only [Bool.and_eq_true, decide_eq_true_eq] at this; omega
   ·cases this
theorem dot_ok {x y : Int} (h1 : 0 ≤ x) (h2 : x ≤ 5) (h3 : 0 ≤ y) (h4 : y ≤ 5) : shapeOk ⟨1, [⟨x, y⟩]⟩ = true := by
 have e : ptOk (⟨x, y⟩ : Pt) = true := by
  unfold ptOk inR
  simp only [Bool.and_eq_true, decide_eq_true_eq]; omega
 unfold shapeOk ptsOk kindOk
 rw [Bool.and_eq_true]
 refine ⟨allN_true fun k hk => ?_, by rw [if_pos rfl]; rfl⟩
 have hk : k < 1 := hk
 obtain rfl : k = 0 := by omega
 rw [Bool.and_eq_true]
 exact ⟨e, rfl⟩
def NX (q : Pt) : Prop := q.X ≠ 71 ∧ q.X ≠ 72
theorem NX.of {x y : Int} (h : x ≤ 3) : NX ⟨x, y⟩ := ⟨by dsimp only; omega, by dsimp only; omega⟩
def keyL : List Str := [[110, 97, 109, 101], [107, 105, 110, 100], [117, 115, 101], [116, 111, 110, 101]]
def valL : List Str := [[97], [98], [111, 97, 107], [97, 115, 104], [114, 111, 97, 100]]
def idL : List Str := [[97], [98], [99], [100], [101]]
def DT (x : Tag) : Prop := x.Key ∈ keyL ∧ x.Val ∈ valL
theorem keyL_ok : ∀ k ∈ keyL, wordOk k = true := by decide
theorem valL_ok : ∀ k ∈ valL, wordOk k = true := by decide
theorem idL_ok : ∀ k ∈ idL, wordOk k = true := by decide
def plainK (k : Str) : Prop := k ≠ [97, 97, 97] ∧ k ≠ [122, 122, 122]
theorem keyL_plain : ∀ k ∈ keyL, plainK k := by
 intro k hk
 simp only [keyL, List.mem_cons, List.not_mem_nil, or_false] at hk
 unfold plainK
 rcases hk with rfl | rfl | rfl | rfl <;> decide
theorem feat_of {id : Str} {s : Shape} {t : List Tag} (h1 : wordOk id = true) (h2 : shapeOk s = true) (h3 : SS (keysT t)) (h4 : t.length ≤ 4) (h5 : ∀ x ∈ t, wordOk x.Key = true ∧ wordOk x.Val = true) : featOk ⟨id, s, t⟩ = true := by
 unfold featOk
 dsimp only
 rw [tagsOk_of h3 h5, h1, h2, decide_eq_true h4]; rfl
structure FB (n : Nat) (f : Feat) : Prop where
 id : f.Id.length ≤ 7
 pts : f.Shape.Pts.length ≤ 7
 len : f.Tags.length ≤ n
 wd : ∀ x ∈ f.Tags, x.Key.length ≤ 6 ∧ x.Val.length ≤ 6
theorem FB.small {n : Nat} {f : Feat} (h : FB n f) : bulk f ≤ 14 + 13 * n := by
 have e : bulk f = bulk f.Id + (0 + bulk f.Shape.Pts) + bulk f.Tags := rfl
 have e2 : bulk f.Id = f.Id.length := bulk_str _
 have e3 : bulk f.Shape.Pts = f.Shape.Pts.length := bulk_flat (fun _ => rfl) _
 have hs := bulk_small f.Tags 12 fun t ht => by
  have := h.wd t ht
  have e : bulk t = bulk t.Key + bulk t.Val := rfl
  rw [e, bulk_str, bulk_str]; omega
 have : f.Tags.length * (12 + 1) ≤ n * 13 := Nat.mul_le_mul h.len (Nat.le_refl _)
 have := h.id; have := h.pts
 omega
theorem FB.of {f : Feat} (h : featOk f = true) : FB 4 f := by
 have := feat_facts h
 exact ⟨OM, OM, this.1, this.2.2.2.2⟩
theorem FB.mono {n m : Nat} {f : Feat} (h : FB n f) (hm : n ≤ m) : FB m f := ⟨h.id, h.pts, Nat.le_trans h.len hm, h.wd⟩
theorem DT.len {x : Tag} (h : DT x) : x.Key.length ≤ 6 ∧ x.Val.length ≤ 6 := ⟨word_len (keyL_ok _ h.1), word_len (valL_ok _ h.2)⟩
theorem DT.ok {x : Tag} (h : DT x) : wordOk x.Key = true ∧ wordOk x.Val = true := ⟨keyL_ok _ h.1, valL_ok _ h.2⟩
structure MB (n m : Nat) (s : List Feat) : Prop where
 len : s.length ≤ n
 fb : ∀ f ∈ s, FB m f
theorem MB.small {n m : Nat} {s : List Feat} (h : MB n m s) : bulk s ≤ n * (15 + 13 * m) := by
 have hs := bulk_small s (14 + 13 * m) fun f hf => (h.fb f hf).small
 have : s.length * (14 + 13 * m + 1) ≤ n * (15 + 13 * m) := Nat.mul_le_mul h.len OM
 omega
theorem MB.of {s : List Feat} (h : sheetOk s = true) : MB 8 4 s := ⟨(sheet_ss h).2.1, fun f hf => FB.of ((sheet_ss h).2.2 f hf)⟩
theorem MB.mono {n n' m m' : Nat} {s : List Feat} (h : MB n m s) (h1 : n ≤ n') (h2 : m ≤ m') : MB n' m' s := ⟨Nat.le_trans h.len h1, fun f hf => (h.fb f hf).mono h2⟩
theorem sheet_of {s : List Feat} (h1 : SS (ids s)) (h2 : s.length ≤ 8) (h3 : ∀ f ∈ s, featOk f = true) : sheetOk s = true := by
 unfold sheetOk
 rw [Bool.and_eq_true]
 refine ⟨allN_true fun k hk => ?_, decide_eq_true h2⟩
 rw [Bool.and_eq_true, Bool.or_eq_true, decide_eq_true_eq]
 refine ⟨h3 _ (nth_mem s hk), ?_⟩
 rcases Nat.eq_zero_or_pos k with h0 | h0
 ·exact .inl h0
 refine .inr ?_
 unfold SS ids at h1
 have := List.pairwise_iff_getElem.1 (List.pairwise_map.1 h1) (k - 1) k OM hk OM
 rw [show ((k : Int) - 1) = ((k - 1 : Nat) : Int) by omega, nth_nat s hk, nth_nat s OM]
 exact this
def zzI : Str := [122, 122]
theorem idL_nz : ∀ k ∈ idL, k ≠ zzI := by
 intro k hk
 simp only [idL, List.mem_cons, List.not_mem_nil, or_false] at hk
 rcases hk with rfl | rfl | rfl | rfl | rfl <;> decide
structure MD (s : List Feat) : Prop where
 mb : MB 14 4 s
 nz : ∀ f ∈ s, f.Id ≠ zzI
theorem MD.small {s : List Feat} (h : MD s) : bulk s ≤ 1048576 := Nat.le_trans h.mb.small RD
def verIn (r : Repo) (k : Int) : Bool := repoOk r && (decide (0 ≤ k) && decide (k < (r.Commits.length : Int)))
def ahead (r : Repo) (a b : Int) : Bool := verIn r a && verIn r b && nth (pastOf r b.toNat) a
structure RW (r : Repo) : Prop where
 c0 : 1 ≤ r.Commits.length
 c1 : r.Commits.length ≤ 12
 h0 : 1 ≤ r.Heads.length
 h1 : r.Heads.length ≤ 4
 cs : ∀ c ∈ r.Commits, c.Up.length ≤ 2 ∧ sheetOk c.Sheet = true ∧ c.Note.length ≤ 5
 hs : ∀ h ∈ r.Heads, h.Name.length ≤ 6 ∧ 0 ≤ h.At ∧ h.At < (r.Commits.length : Int)
structure RB (r : Repo) : Prop where
 c0 : 1 ≤ r.Commits.length
 c1 : r.Commits.length ≤ 12
 h0 : 1 ≤ r.Heads.length
 h1 : r.Heads.length ≤ 5
 cs : ∀ c ∈ r.Commits, c.Up.length ≤ 3 ∧ bulk c.Sheet ≤ 938 ∧ c.Note.length ≤ 6
 hs : ∀ h ∈ r.Heads, h.Name.length ≤ 6
theorem sheet_bulk {s : List Feat} (h : sheetOk s = true) : bulk s ≤ 938 := Nat.le_trans (MB.of h).small RD
theorem md_bulk {s : List Feat} (h : MD s) : bulk s ≤ 938 := Nat.le_trans h.mb.small RD
theorem RW.rb {r : Repo} (h : RW r) : RB r := ⟨h.c0, h.c1, h.h0, Nat.le_trans h.h1 RD, fun c hc => by
 obtain ⟨h1, h2, h3⟩ := h.cs c hc
 exact ⟨OM, sheet_bulk h2, OM⟩, fun x hx => (h.hs x hx).1⟩
theorem commit_bulk {c : Commit} {a b d : Nat} (h1 : c.Up.length ≤ a) (h2 : bulk c.Sheet ≤ b) (h3 : c.Note.length ≤ d) : bulk c ≤ a + b + d := by
 have e : bulk c = bulk c.Up + bulk c.Sheet + bulk c.Note := rfl
 have e1 : bulk c.Up = c.Up.length := bulk_ints _
 have e3 : bulk c.Note = c.Note.length := bulk_str _
 omega
theorem repo_bulk {r : Repo} {n m a b : Nat} (h1 : r.Commits.length ≤ n) (h2 : r.Heads.length ≤ m) (h3 : ∀ c ∈ r.Commits, bulk c ≤ a) (h4 : ∀ h ∈ r.Heads, h.Name.length ≤ b) : bulk r ≤ n * (a + 1) + m * (b + 1) := by
 have e : bulk r = bulk r.Commits + bulk r.Heads := rfl
 have g1 := bulk_small r.Commits a h3
 have g2 := bulk_small r.Heads b fun h hh => by
  have e : bulk h = bulk h.Name + 0 := rfl
  have e2 : bulk h.Name = h.Name.length := bulk_str _
  have := h4 h hh
  omega
 have g3 : r.Commits.length * (a + 1) ≤ n * (a + 1) := Nat.mul_le_mul h1 (Nat.le_refl _)
 have g4 : r.Heads.length * (b + 1) ≤ m * (b + 1) := Nat.mul_le_mul h2 (Nat.le_refl _)
 omega
theorem RB.small {r : Repo} (h : RB r) : bulk r ≤ 20000 := by
 have := repo_bulk h.c1 h.h1 (fun c hc => commit_bulk (h.cs c hc).1 (h.cs c hc).2.1 (h.cs c hc).2.2) h.hs
 omega
theorem RB.big {r : Repo} (h : RB r) : bulk r ≤ 1048576 := Nat.le_trans h.small RD
theorem RB.set {r : Repo} (h : RB r) (k : Nat) {c : Commit} (hc : c.Up.length ≤ 3 ∧ bulk c.Sheet ≤ 938 ∧ c.Note.length ≤ 6) : RB ⟨r.Commits.set k c, r.Heads⟩ :=
 ⟨by dsimp only; rw [List.length_set]; exact h.c0, by dsimp only; rw [List.length_set]; exact h.c1, h.h0, h.h1, fun x hx => by
  rcases List.mem_or_eq_of_mem_set hx with hx | rfl
  ·exact h.cs x hx
  ·exact hc, h.hs⟩
theorem name_len {n : Str} (h : n ∈ ([[109, 97, 105, 110], [97, 110, 110], [98, 111, 98]] : List Str)) : n.length ≤ 6 := by
 simp only [List.mem_cons, List.not_mem_nil, or_false] at h
 rcases h with rfl | rfl | rfl <;> decide
theorem note_len {n : Str} (h : n ∈ ([[97, 110, 110], [98, 111, 98], [102, 105, 120]] : List Str)) : n.length ≤ 5 := by
 simp only [List.mem_cons, List.not_mem_nil, or_false] at h
 rcases h with rfl | rfl | rfl <;> decide
theorem iteB {c : Bool} {A B : Prop} (h1 : c = true → A) (h2 : c = false → B) : (if c = true then A else B) := by
 cases c with
 | true => rw [if_pos rfl]; exact h1 rfl
 | false => rw [if_neg RD]; exact h2 rfl
def told (m : List Bool) : Nat → List Int
 | 0 => []
 | k + 1 => if nth m (k : Int) then (k : Int) :: told m k else told m k
theorem told_mem {m : List Bool} : ∀ {n : Nat} {x : Int}, x ∈ told m n ↔ 0 ≤ x ∧ x < n ∧ nth m x = true
 | 0, x => by simp [told]; omega
 | k + 1, x => by
  have ih := @told_mem m k x
  rw [told]
  cases g : nth m (k : Int) with
  | true =>
   rw [if_pos rfl, List.mem_cons, ih]
   constructor
   ·rintro (rfl | ⟨h1, h2, h3⟩)
    ·exact ⟨OM, OM, g⟩
    ·exact ⟨h1, OM, h3⟩
   ·rintro ⟨h1, h2, h3⟩
    by_cases e : x = (k : Int)
    ·exact .inl e
    ·exact .inr ⟨h1, OM, h3⟩
  | false =>
   rw [if_neg RD, ih]
   constructor
   ·rintro ⟨h1, h2, h3⟩; exact ⟨h1, OM, h3⟩
   ·rintro ⟨h1, h2, h3⟩
    refine ⟨h1, ?_, h3⟩
    by_cases e : x = (k : Int)
    ·rw [e, g] at h3; cases h3
    ·omega
theorem told_len (m : List Bool) (n : Nat) : (told m n).length ≤ n := by
 induction n with
 | zero => exact Nat.le_refl _
 | succ k ih =>
  rw [told]
  split
  ·rw [List.length_cons]; omega
  ·omega
theorem ahead_iff {r : Repo} (hr : repoOk r = true) {a b : Int} (ha : 0 ≤ a ∧ a < (r.Commits.length : Int)) (hb : 0 ≤ b ∧ b < (r.Commits.length : Int)) : ahead r a b = true ↔ Reach r b.toNat a.toNat := by
 have e : ∀ k : Int, 0 ≤ k ∧ k < (r.Commits.length : Int) → verIn r k = true := fun k hk => by
  unfold verIn
  simp only [hr, hk.1, hk.2, decide_true, Bool.and_self]
 unfold ahead
 rw [e a ha, e b hb, Bool.true_and, Bool.true_and]
 have := pastOf_mark (r := r) (fun k hk => repoOk_up hr hk) (b := b.toNat) OM a.toNat
 rw [show ((a.toNat : Nat) : Int) = a by omega] at this
 exact this
theorem reach_root {r : Repo} (hr : repoOk r = true) : ∀ b : Nat, b < r.Commits.length → Reach r b 0 := by
 intro b
 induction b using Nat.strongRecOn with
 | _ b ih =>
  intro hb
  by_cases h0 : b = 0
  ·rw [h0]; exact .refl 0
  have hu := repoOk_up hr hb
  have hne : (nth r.Commits (b : Int)).Up ≠ [] := fun e => by
   have h := hr
   unfold repoOk at h
   simp only [Bool.and_eq_true] at h
   have h1 := allN_iff.1 h.1.2 b hb
   simp only [Bool.and_eq_true] at h1
   have h2 := h1.2
   unfold upOk at h2
   rw [e] at h2
   simp [h0] at h2
  obtain ⟨u, l, e⟩ := List.exists_cons_of_ne_nil hne
  have hm : u ∈ (nth r.Commits (b : Int)).Up := by rw [e]; exact List.mem_cons_self
  have := hu u hm
  exact .step u hm (ih u.toNat OM OM)
theorem ver_in {r : Repo} (hr : repoOk r = true) {k : Int} (hk : 0 ≤ k ∧ k < (r.Commits.length : Int)) : verIn r k = true := by
 unfold verIn
 simp only [hr, hk.1, hk.2, decide_true, Bool.and_self]
theorem ver_of {r : Repo} {k : Int} (h : verIn r k = true) : repoOk r = true ∧ 0 ≤ k ∧ k < (r.Commits.length : Int) := by
 unfold verIn at h
 simpa only [Bool.and_eq_true, decide_eq_true_eq] using h
section
theorem Reach.last {r : Repo} {a i : Nat} (h : Reach r a i) (hne : a ≠ i) : ∃ (j : Nat) (u : Int), Reach r a j ∧ u ∈ (nth r.Commits (j : Int)).Up ∧ u.toNat = i := by
 induction h with
 | refl b => exact absurd rfl hne
 | @step b i u hu _ ih =>
  by_cases e : u.toNat = i
  ·exact ⟨b, u, .refl b, hu, e⟩
  ·obtain ⟨j, v, h1, h2, h3⟩ := ih e
   exact ⟨j, v, .step u hu h1, h2, h3⟩
theorem Reach.snoc {r : Repo} {a j : Nat} {u : Int} (h : Reach r a j) (hu : u ∈ (nth r.Commits (j : Int)).Up) : Reach r a u.toNat := h.trans (.step u hu (.refl _))
theorem nth_rmap {n : Nat} (f : Nat → Bool) {k : Nat} (hk : k < n) : nth ((List.range n).map f) (k : Int) = f k := by
 rw [nth_nat _ (by simpa using hk)]
 simp
def com (r : Repo) (a b k : Nat) : Bool := nth (pastOf r a) (k : Int) && nth (pastOf r b) (k : Int)
def baseM (r : Repo) (a b : Nat) : List Bool := (List.range r.Commits.length).map fun k => com r a b k && !((List.range r.Commits.length).any fun i => com r a b i && decide ((k : Int) ∈ (nth r.Commits (i : Int)).Up))
def basesL (r : Repo) (a b : Int) : List Int := if verIn r a && verIn r b then told (baseM r a.toNat b.toNat) r.Commits.length else []
theorem com_comm (r : Repo) (a b k : Nat) : com r a b k = com r b a k := by unfold com; exact Bool.and_comm ..
theorem baseM_comm (r : Repo) (a b : Nat) : baseM r a b = baseM r b a := by
 unfold baseM
 simp only [com_comm r a b]
theorem basesL_comm (r : Repo) (a b : Int) : basesL r a b = basesL r b a := by
 unfold basesL
 rw [Bool.and_comm, baseM_comm]
theorem baseM_iff {r : Repo} {a b k : Nat} (hk : k < r.Commits.length) : nth (baseM r a b) (k : Int) = true ↔ com r a b k = true ∧ ∀ i : Nat, i < r.Commits.length → com r a b i = true → (k : Int) ∉ (nth r.Commits (i : Int)).Up := by
 unfold baseM
 rw [nth_rmap _ hk, Bool.and_eq_true, Bool.not_eq_true', List.any_eq_false]
 refine and_congr Iff.rfl ⟨fun h i hi hc hm => ?_, fun h i hi => ?_⟩
 ·exact h i (List.mem_range.2 hi) (by rw [hc, Bool.true_and]; exact decide_eq_true hm)
 ·rw [Bool.and_eq_true, decide_eq_true_eq]
  exact fun ⟨hc, hm⟩ => h i (List.mem_range.1 hi) hc hm
section
variable {r : Repo} {a b : Nat}
theorem com_iff (hr : repoOk r = true) (ha : a < r.Commits.length) (hb : b < r.Commits.length) (k : Nat) : com r a b k = true ↔ Reach r a k ∧ Reach r b k := by
 have up : Ups r := fun k hk => repoOk_up hr hk
 unfold com
 rw [Bool.and_eq_true, pastOf_mark up ha, pastOf_mark up hb]
theorem com_lt (hr : repoOk r = true) (ha : a < r.Commits.length) (hb : b < r.Commits.length) {k : Nat} (h : com r a b k = true) : k < r.Commits.length := by
 have := Reach.le (fun k hk => repoOk_up hr hk) ((com_iff hr ha hb k).1 h).1 ha
 omega
theorem com_down (hr : repoOk r = true) (ha : a < r.Commits.length) (hb : b < r.Commits.length) {k i : Nat} (h : com r a b k = true) (g : Reach r k i) : com r a b i = true :=
 (com_iff hr ha hb i).2 ⟨((com_iff hr ha hb k).1 h).1.trans g, ((com_iff hr ha hb k).1 h).2.trans g⟩
theorem base_of (hr : repoOk r = true) (ha : a < r.Commits.length) (hb : b < r.Commits.length) : ∀ (n i : Nat), r.Commits.length - i = n → com r a b i = true → ∃ k : Nat, k < r.Commits.length ∧ nth (baseM r a b) (k : Int) = true ∧ Reach r k i := by
 intro n
 induction n using Nat.strongRecOn with
 | _ n ih =>
  intro i hn hc
  have hi := com_lt hr ha hb hc
  by_cases h : nth (baseM r a b) (i : Int) = true
  ·exact ⟨i, hi, h, .refl i⟩
  rw [baseM_iff hi] at h
  have : ∃ j : Nat, j < r.Commits.length ∧ com r a b j = true ∧ (i : Int) ∈ (nth r.Commits (j : Int)).Up := by
   apply Classical.byContradiction
   intro hn
   exact h ⟨hc, fun j hj hcj hm => hn ⟨j, hj, hcj, hm⟩⟩
  obtain ⟨j, hj, hcj, hm⟩ := this
  have hlt := repoOk_up hr hj _ hm
  obtain ⟨k, h1, h2, h3⟩ := ih (r.Commits.length - j) OM j rfl hcj
  exact ⟨k, h1, h2, h3.snoc hm⟩
theorem base_low (hr : repoOk r = true) (ha : a < r.Commits.length) (hb : b < r.Commits.length) {k i : Nat} (hi : nth (baseM r a b) (i : Int) = true) (hl : i < r.Commits.length) (hk : com r a b k = true) (h : Reach r k i) : k = i := by
 apply Classical.byContradiction
 intro hne
 obtain ⟨j, u, h1, h2, h3⟩ := h.last hne
 have hcj := com_down hr ha hb hk h1
 have hj := com_lt hr ha hb hcj
 have := repoOk_up hr hj u h2
 exact ((baseM_iff hl).1 hi).2 j hj hcj (by rw [← h3, Int.toNat_of_nonneg this.1]; exact h2)
end
theorem told_gt (m : List Bool) : ∀ n : Nat, (told m n).Pairwise (fun x y => y < x)
 | 0 => List.Pairwise.nil
 | n + 1 => by
  rw [told]
  split
  ·exact List.Pairwise.cons (fun y hy => (told_mem.1 hy).2.1) (told_gt m n)
  ·exact told_gt m n
theorem told_inj {m : List Bool} {n : Nat} {i k : Nat} (hi : i < (told m n).length) (hk : k < (told m n).length) (h : nth (told m n) (i : Int) = nth (told m n) (k : Int)) : i = k := by
 rw [nth_nat _ hi, nth_nat _ hk] at h
 rcases Nat.lt_trichotomy i k with g | g | g
 ·have := List.pairwise_iff_getElem.1 (told_gt m n) i k hi hk g; omega
 ·exact g
 ·have := List.pairwise_iff_getElem.1 (told_gt m n) k i hk hi g; omega
theorem told_one {l : List Int} (hp : l.Pairwise (fun x y => y < x)) {a : Int} (h : ∀ x, x ∈ l ↔ x = a) : l = [a] := by
 match l with
 | [] => exact absurd ((h a).2 rfl) (by simp)
 | [x] => rw [(h x).1 (by simp)]
 | x :: y :: l =>
  have h1 := (h x).1 (by simp)
  have h2 := (h y).1 (by simp)
  have := List.rel_of_pairwise_cons hp (show y ∈ y :: l by simp)
  omega
theorem findN_no {n : Nat} {c : Nat → Bool} (h : findN n c = -1) {j : Nat} (hj : j < n) : c j = false := by
 unfold findN at h
 cases e : (List.range n).find? c with
 | some k => rw [e] at h; dsimp only at h; omega
 | none =>
  have := List.find?_eq_none.1 e j (List.mem_range.2 hj)
  simpa using this
theorem findN_any (s : List Int) (f : Int → Bool) : decide (findN s.length (fun j => f (nth s (j : Int))) ≥ 0) = s.any f := by
 cases h : s.any f with
 | true =>
  rw [List.any_eq_true] at h
  obtain ⟨x, hx, hf⟩ := h
  rw [decide_eq_true_eq]
  apply Classical.byContradiction
  intro hn
  have hle := findN_le s.length fun j => f (nth s (j : Int))
  have e : findN s.length (fun j => f (nth s (j : Int))) = -1 := by omega
  obtain ⟨j, hj, ej⟩ := mem_nth hx
  have := findN_no e hj
  rw [ej, hf] at this; cases this
 | false =>
  rw [List.any_eq_false] at h
  rw [findN_none fun j hj => by
   cases g : f (nth s (j : Int)) with
   | false => rfl
   | true => exact absurd g (h _ (nth_mem s hj))]
  rfl
end
theorem F81.law (n lo hi : Int) (Q : Bool → Prop) (hq : Q (decide (lo ≤ n) && decide (n ≤ hi))) : F81.E n lo hi Q := by
 unfold F81.E
 by_cases h : lo ≤ n
 ·rw [if_pos (by simpa using h)]; rw [decide_eq_true h, Bool.true_and] at hq; exact hq
 ·rw [if_neg (by simpa using h)]; rw [decide_eq_false h, Bool.false_and] at hq; exact hq
theorem F81.m_is (n lo hi : Int) : F81.m n lo hi = (decide (lo ≤ n) && decide (n ≤ hi)) := by
 unfold F81.m
 by_cases h : lo ≤ n
 ·rw [if_pos (by simpa using h), decide_eq_true h, Bool.true_and]
 ·rw [if_neg (by simpa using h), decide_eq_false h, Bool.false_and]
theorem F82.law (s : Str) (Q : Bool → Prop) (hl : s.length ≤ 1048576) (hq : Q (wordOk s)) : F82.E s Q := by
 unfold F82.E
 unfold wordOk at hq
 refine loop_all s.length (fun k => byteOk (nth s (k : Int))) (fun I mu k hk hp hn => ?_) (fun ha => ?_)
 ·refine ⟨OM, ?_⟩
  cases h1 : decide (((nth s (k : Int)).toNat : Int) < 97) with
  | true => rw [if_pos rfl]; rw [allN_false hk (by simp only [byteOk, h1]; rfl), Bool.false_and] at hq; exact hq
  | false =>
   rw [if_neg RD]
   refine ⟨OM, ?_⟩
   cases h2 : decide (((nth s (k : Int)).toNat : Int) > 122) with
   | true => rw [if_pos rfl]; rw [allN_false hk (by simp only [byteOk, h1, h2]; rfl), Bool.false_and] at hq; exact hq
   | false =>
    rw [if_neg RD]
    obtain ⟨i1, i2⟩ := hn (by simp only [byteOk, h1, h2]; rfl)
    exact ⟨by unfold I64; omega, i1, i2⟩
 ·rw [allN_true ha, Bool.true_and] at hq
  refine F81.law _ _ _ _ ?_
  have e1 : decide ((1 : Int) ≤ (s.length : Int)) = decide (1 ≤ s.length) := decide_eq_decide.2 OM
  have e2 : decide ((s.length : Int) ≤ 6) = decide (s.length ≤ 6) := decide_eq_decide.2 OM
  rw [e1, e2]; exact hq
theorem F97.law (p : Pt) (Q : Bool → Prop) (hq : Q (ptOk p)) : F97.E p Q := by
 unfold F97.E
 unfold ptOk at hq
 refine F81.law _ _ _ _ ?_
 change if inR p.X = true then _ else _
 cases h : inR p.X with
 | true => rw [if_pos rfl]; rw [h, Bool.true_and] at hq; exact F81.law _ _ _ _ hq
 | false => rw [if_neg RD]; rw [h, Bool.false_and] at hq; exact hq
theorem F53.law (s : Shape) (Q : Bool → Prop) (hl : s.Pts.length ≤ 1048576) (hq : Q (shapeOk s)) : F53.E s Q := by
 unfold F53.E
 unfold shapeOk ptsOk at hq
 refine loop_all s.Pts.length (fun k => ptOk (nth s.Pts (k : Int)) && (decide (k = 0) || !(decide (nth s.Pts ((k : Int) - 1) = nth s.Pts (k : Int))))) (fun I mu k hk hp hn => ?_) (fun ha => ?_)
 ·refine ⟨OM, _, F97.law _ _ rfl, ?_⟩
  have bad : (ptOk (nth s.Pts (k : Int)) && (decide (k = 0) || !(decide (nth s.Pts ((k : Int) - 1) = nth s.Pts (k : Int))))) = false → Q false := fun h => by
   rw [allN_false hk h, Bool.false_and] at hq; exact hq
  cases h1 : ptOk (nth s.Pts (k : Int)) with
  | false => rw [if_pos RD]; exact bad (by rw [h1]; rfl)
  | true =>
   rw [if_neg RD]
   by_cases hk0 : k = 0
   ·rw [if_neg (by rw [decide_eq_true_eq]; omega)]
    obtain ⟨i1, i2⟩ := hn (by rw [h1, decide_eq_true hk0]; rfl)
    exact ⟨by unfold I64; omega, i1, i2⟩
   ·rw [if_pos (by rw [decide_eq_true_eq]; omega)]
    refine ⟨by unfold I64; omega, OM, ?_⟩
    rw [eqPt_is]
    by_cases he : nth s.Pts ((k : Int) - 1) = nth s.Pts (k : Int)
    ·rw [if_pos (by rw [decide_eq_true_eq]; exact he)]
     exact bad (by rw [h1, decide_eq_false hk0, decide_eq_true he]; rfl)
    ·rw [if_neg (by rw [decide_eq_true_eq]; exact he)]
     obtain ⟨i1, i2⟩ := hn (by simp only [h1, decide_eq_false hk0, decide_eq_false he]; rfl)
     exact ⟨by unfold I64; omega, i1, i2⟩
 ·rw [allN_true ha, Bool.true_and] at hq
  unfold kindOk at hq
  by_cases k1 : s.Kind = 1
  ·rw [if_pos k1] at hq
   rw [if_pos (by rw [beq_iff_eq]; exact k1)]
   have : ((s.Pts.length : Int) == 1) = decide (s.Pts.length = 1) := by rw [Bool.eq_iff_iff, beq_iff_eq, decide_eq_true_eq]; omega
   rw [this]; exact hq
  rw [if_neg k1] at hq
  rw [if_neg (by rw [beq_iff_eq]; exact k1)]
  have e2 : decide ((2 : Int) ≤ (s.Pts.length : Int)) = decide (2 ≤ s.Pts.length) := decide_eq_decide.2 OM
  have e3 : decide ((3 : Int) ≤ (s.Pts.length : Int)) = decide (3 ≤ s.Pts.length) := decide_eq_decide.2 OM
  have e6 : decide ((s.Pts.length : Int) ≤ 6) = decide (s.Pts.length ≤ 6) := decide_eq_decide.2 OM
  by_cases k2 : s.Kind = 2
  ·rw [if_pos k2] at hq
   rw [if_pos (by rw [beq_iff_eq]; exact k2)]
   refine F81.law _ _ _ _ ?_
   rw [e2, e6]; exact hq
  rw [if_neg k2] at hq
  rw [if_neg (by rw [beq_iff_eq]; exact k2)]
  by_cases k3 : s.Kind = 3
  ·rw [if_pos k3] at hq
   rw [if_pos (by rw [beq_iff_eq]; exact k3), F81.m_is, e3, e6]
   cases hc : decide (3 ≤ s.Pts.length) && decide (s.Pts.length ≤ 6) with
   | true =>
    rw [hc, Bool.true_and] at hq
    rw [Bool.and_eq_true, decide_eq_true_eq, decide_eq_true_eq] at hc
    rw [if_pos rfl, eqPt_is]
    exact ⟨OM, fun _ => by unfold I64; omega, OM, hq⟩
   | false =>
    rw [hc, Bool.false_and] at hq
    rw [if_neg RD]; exact hq
  ·rw [if_neg k3] at hq
   rw [if_neg (by rw [beq_iff_eq]; exact k3)]; exact hq
theorem F83.law (f : Feat) (Q : Bool → Prop) (hb : bulk f ≤ 1048576) (hq : Q (featOk f)) : F83.E f Q := by
 unfold F83.E
 unfold featOk at hq
 have b1 : bulk f = bulk f.Id + bulk f.Shape + bulk f.Tags := rfl
 have b2 : bulk f.Shape = bulk f.Shape.Kind + bulk f.Shape.Pts := rfl
 have l1 := bulk_len f.Tags; have l2 := bulk_len f.Shape.Pts; have l3 := bulk_len f.Id
 have core : (tagsOk f.Tags = true → F82.E f.Id (fun r3 => (if r3 then F53.E f.Shape (fun r4 => (if r4 then Q (decide ((f.Tags.length : Int) ≤ 4)) else Q false)) else Q false))) := fun ha => by
  rw [ha, Bool.true_and] at hq
  refine F82.law _ _ OM ?_
  cases h1 : wordOk f.Id with
  | false => rw [h1, Bool.and_false, Bool.false_and] at hq; rw [if_neg RD]; exact hq
  | true =>
   rw [h1, Bool.and_true] at hq
   rw [if_pos rfl]
   refine F53.law _ _ OM ?_
   cases h2 : shapeOk f.Shape with
   | false => rw [h2, Bool.and_false] at hq; rw [if_neg RD]; exact hq
   | true =>
    rw [h2, Bool.and_true] at hq; rw [if_pos rfl]
    have e2 : decide ((f.Tags.length : Int) ≤ 4) = decide (f.Tags.length ≤ 4) := decide_eq_decide.2 OM
    rw [e2]; exact hq
 have bad : tagsOk f.Tags = false → Q false := fun h => by
  rw [h, Bool.false_and, Bool.false_and, Bool.false_and] at hq; exact hq
 unfold tagsOk at core bad
 refine loop_all f.Tags.length (fun k => wordOk (nth f.Tags (k : Int)).Key && wordOk (nth f.Tags (k : Int)).Val && (decide (k = 0) || Op.bytesLess (nth f.Tags ((k : Int) - 1)).Key (nth f.Tags (k : Int)).Key)) (fun I mu k hk hp hn => ?_) (fun ha => core (allN_true ha))
 have bad := fun h => bad (allN_false hk h)
 have m1 := bulk_mem (nth_mem f.Tags hk)
 have m2 : bulk (nth f.Tags (k : Int)) = bulk (nth f.Tags (k : Int)).Key + bulk (nth f.Tags (k : Int)).Val := rfl
 have m3 := bulk_len (nth f.Tags (k : Int)).Key; have m4 := bulk_len (nth f.Tags (k : Int)).Val
 refine ⟨OM, _, F82.law _ _ OM rfl, ?_⟩
 cases h1 : wordOk (nth f.Tags (k : Int)).Key with
 | false => rw [if_pos RD]; exact bad (by rw [h1]; rfl)
 | true =>
  rw [if_neg RD]
  refine ⟨_, F82.law _ _ OM rfl, ?_⟩
  cases h2 : wordOk (nth f.Tags (k : Int)).Val with
  | false => rw [if_pos RD]; exact bad (by rw [h2, Bool.and_false]; rfl)
  | true =>
   rw [if_neg RD]
   by_cases hk0 : k = 0
   ·rw [if_neg (by rw [decide_eq_true_eq]; omega)]
    obtain ⟨i1, i2⟩ := hn (by rw [h1, h2, decide_eq_true hk0]; rfl)
    exact ⟨by unfold I64; omega, i1, i2⟩
   ·rw [if_pos (by rw [decide_eq_true_eq]; omega)]
    refine ⟨by unfold I64; omega, OM, ?_⟩
    cases h3 : Op.bytesLess (nth f.Tags ((k : Int) - 1)).Key (nth f.Tags (k : Int)).Key with
    | false => rw [if_pos RD]; exact bad (by rw [h3, h1, h2, decide_eq_false hk0]; rfl)
    | true =>
     rw [if_neg RD]
     obtain ⟨i1, i2⟩ := hn (by rw [h3, h1, h2, decide_eq_false hk0]; rfl)
     exact ⟨by unfold I64; omega, i1, i2⟩
theorem F54.law (d : List Feat) (Q : Bool → Prop) (hb : bulk d ≤ 1048576) (hq : Q (sheetOk d)) : F54.E d Q := by
 unfold F54.E
 unfold sheetOk at hq
 have hl := bulk_len d
 refine loop_all d.length (fun k => featOk (nth d (k : Int)) && (decide (k = 0) || Op.bytesLess (nth d ((k : Int) - 1)).Id (nth d (k : Int)).Id)) (fun I mu k hk hp hn => ?_) (fun ha => ?_)
 ·have bad : (featOk (nth d (k : Int)) && (decide (k = 0) || Op.bytesLess (nth d ((k : Int) - 1)).Id (nth d (k : Int)).Id)) = false → Q false := fun h => by
   rw [allN_false hk h, Bool.false_and] at hq; exact hq
  have m1 := bulk_mem (nth_mem d hk)
  refine ⟨OM, _, F83.law _ _ OM rfl, ?_⟩
  cases h1 : featOk (nth d (k : Int)) with
  | false => rw [if_pos RD]; exact bad (by rw [h1]; rfl)
  | true =>
   rw [if_neg RD]
   by_cases hk0 : k = 0
   ·rw [if_neg (by rw [decide_eq_true_eq]; omega)]
    obtain ⟨i1, i2⟩ := hn (by rw [h1, decide_eq_true hk0]; rfl)
    exact ⟨by unfold I64; omega, i1, i2⟩
   ·rw [if_pos (by rw [decide_eq_true_eq]; omega)]
    refine ⟨by unfold I64; omega, OM, ?_⟩
    cases h3 : Op.bytesLess (nth d ((k : Int) - 1)).Id (nth d (k : Int)).Id with
    | false => rw [if_pos RD]; exact bad (by rw [h3, h1, decide_eq_false hk0]; rfl)
    | true =>
     rw [if_neg RD]
     obtain ⟨i1, i2⟩ := hn (by rw [h3, h1, decide_eq_false hk0]; rfl)
     exact ⟨by unfold I64; omega, i1, i2⟩
 ·rw [allN_true ha, Bool.true_and] at hq
  have e2 : decide ((d.length : Int) ≤ 8) = decide (d.length ≤ 8) := decide_eq_decide.2 OM
  rw [e2]; exact hq
theorem F1.law (s : List Commit) (f : Commit → Bool) (ok : Commit → Prop) (Q : Int → Prop) (hl : s.length ≤ 1048576) (hok : ∀ x ∈ s, ok x) (hq : Q (findN s.length fun j => f (nth s (j : Int)))) : F1.E s f ok Q := by
 unfold F1.E
 refine loop_find s.length (fun j => f (nth s (j : Int))) hq (fun I mu k hk h1 h2 => ⟨OM, hok _ (nth_mem s hk), ?_⟩)
 cases h : f (nth s (k : Int)) with
 | true => rw [if_pos rfl]; exact h1 h
 | false => rw [if_neg RD]; obtain ⟨i1, i2⟩ := h2 h; exact ⟨by unfold I64; omega, i1, i2⟩
theorem F16.law (a b : List Tag) (Q : Bool → Prop) (hb : a.length ≤ 1048576) (hq : Q (decide (a = b))) : F16.E a b Q := by
 unfold F16.E
 exact eqI_shape eqTag eqTag_is a b Q hb hq
theorem F24.law (a b : List Pt) (Q : Bool → Prop) (hb : a.length ≤ 1048576) (hq : Q (decide (a = b))) : F24.E a b Q := by
 unfold F24.E
 exact eqI_shape eqPt eqPt_is a b Q hb hq
theorem F31.law (a b : Shape) (Q : Bool → Prop) (hl : a.Pts.length ≤ 1048576) (hq : Q (decide (a = b))) : F31.E a b Q := by
 unfold F31.E
 by_cases h : a.Kind = b.Kind
 ·rw [if_pos (by rw [beq_iff_eq]; exact h)]
  refine F24.law _ _ _ OM ?_
  have : decide (a.Pts = b.Pts) = decide (a = b) := decide_eq_decide.2 (by rw [Shape.ext_iff']; exact ⟨fun e => ⟨h, e⟩, fun e => e.2⟩)
  rw [this]; exact hq
 ·rw [if_neg (by rw [beq_iff_eq]; exact h)]
  rw [decide_eq_false (by rw [Shape.ext_iff']; exact fun e => h e.1)] at hq; exact hq
theorem F41.law (a b : Feat) (Q : Bool → Prop) (hl : a.Shape.Pts.length ≤ 1048576 ∧ a.Tags.length ≤ 1048576) (hq : Q (decide (a = b))) : F41.E a b Q := by
 unfold F41.E
 by_cases h : a.Id = b.Id
 ·rw [if_pos (by rw [beq_iff_eq]; exact h)]
  refine F31.law _ _ _ OM ?_
  by_cases h2 : a.Shape = b.Shape
  ·rw [decide_eq_true h2, if_pos rfl]
   refine F16.law _ _ _ OM ?_
   have : decide (a.Tags = b.Tags) = decide (a = b) := decide_eq_decide.2 (by rw [Feat.ext_iff']; exact ⟨fun e => ⟨h, h2, e⟩, fun e => e.2.2⟩)
   rw [this]; exact hq
  ·rw [decide_eq_false h2, if_neg RD]
   rw [decide_eq_false (by rw [Feat.ext_iff']; exact fun e => h2 e.2.1)] at hq; exact hq
 ·rw [if_neg (by rw [beq_iff_eq]; exact h)]
  rw [decide_eq_false (by rw [Feat.ext_iff']; exact fun e => h e.1)] at hq; exact hq
theorem F3.law (a b : List Feat) (el : Feat → Feat → Bool) (ok : Feat → Feat → Prop) (Q : Bool → Prop) (hb : a.length ≤ 1048576) (hok : ∀ x y, x ∈ a → ok x y) (hel : ∀ x y, x ∈ a → el x y = decide (x = y)) (hq : Q (decide (a = b))) : F3.E a b el ok Q := by
 unfold F3.E
 exact eqF_shape a b el ok hok hel hb Q hq
theorem F32.law (a b : List Feat) (Q : Bool → Prop) (hb : bulk a ≤ 1048576) (hq : Q (decide (a = b))) : F32.E a b Q := by
 unfold F32.E
 have hl := bulk_len a
 refine ⟨fun x y => decide (x = y), fun x _ => x ∈ a, fun x y hx => F41.law x y _ ?_ rfl, F3.law a b _ _ _ OM (fun x y hx => hx) (fun _ _ _ => rfl) hq⟩
 have m := bulk_mem hx
 have b1 : bulk x = bulk x.Id + bulk x.Shape + bulk x.Tags := rfl
 have b2 : bulk x.Shape = bulk x.Shape.Kind + bulk x.Shape.Pts := rfl
 have l1 := bulk_len x.Tags; have l2 := bulk_len x.Shape.Pts
 omega
theorem F15.law (a b : List Int) (Q : Bool → Prop) (hb : a.length ≤ 1048576) (hq : Q (decide (a = b))) : F15.E a b Q := by
 unfold F15.E
 exact eqI_shape (fun x y => x == y) (fun x y => by by_cases h : x = y <;> simp [h]) a b Q hb hq
theorem Commit.ext_iff' (a b : Commit) : a = b ↔ a.Up = b.Up ∧ a.Sheet = b.Sheet ∧ a.Note = b.Note := by cases a; cases b; simp
theorem F25.law (a b : Commit) (Q : Bool → Prop) (hb : bulk a ≤ 1048576) (hq : Q (decide (a = b))) : F25.E a b Q := by
 unfold F25.E
 have b1 : bulk a = bulk a.Up + bulk a.Sheet + bulk a.Note := rfl
 have l1 := bulk_len a.Up
 have e : decide (a = b) = (decide (a.Up = b.Up) && (decide (a.Sheet = b.Sheet) && decide (a.Note = b.Note))) := by
  rw [Bool.eq_iff_iff]; simp only [Bool.and_eq_true, decide_eq_true_eq]; exact Commit.ext_iff' a b
 rw [e] at hq
 refine F15.law _ _ _ OM ?_
 cases h1 : decide (a.Up = b.Up) with
 | false => rw [h1] at hq; rw [if_neg RD]; exact hq
 | true =>
  rw [h1, Bool.true_and] at hq
  rw [if_pos rfl]
  refine F32.law _ _ _ OM ?_
  cases h2 : decide (a.Sheet = b.Sheet) with
  | false => rw [h2] at hq; rw [if_neg RD]; exact hq
  | true =>
   rw [h2, Bool.true_and] at hq
   rw [if_pos rfl]
   have : (a.Note == b.Note) = decide (a.Note = b.Note) := by rw [Bool.eq_iff_iff, beq_iff_eq, decide_eq_true_eq]
   rw [this]; exact hq
theorem F17.law (r : Repo) (c : Commit) (Q : Int → Prop) (hb : bulk r ≤ 1048576) (hq : Q (findCommit r c)) : F17.E r c Q := by
 unfold F17.E
 have b1 : bulk r = bulk r.Commits + bulk r.Heads := rfl
 have l1 := bulk_len r.Commits
 refine ⟨fun x => decide (x = c), fun x => x ∈ r.Commits, fun x hx => ?_, F1.law _ _ _ _ OM (fun x hx => hx) hq⟩
 unfold F8.E
 exact F25.law _ _ _ (by have := bulk_mem hx; omega) rfl
theorem F4.law (s : List Head) (f : Head → Bool) (ok : Head → Prop) (Q : Int → Prop) (hl : s.length ≤ 1048576) (hok : ∀ x ∈ s, ok x) (hq : Q (findN s.length fun j => f (nth s (j : Int)))) : F4.E s f ok Q := by
 unfold F4.E
 refine loop_find s.length (fun j => f (nth s (j : Int))) hq (fun I mu k hk h1 h2 => ⟨OM, hok _ (nth_mem s hk), ?_⟩)
 cases h : f (nth s (k : Int)) with
 | true => rw [if_pos rfl]; exact h1 h
 | false => rw [if_neg RD]; obtain ⟨i1, i2⟩ := h2 h; exact ⟨by unfold I64; omega, i1, i2⟩
theorem F33.law (r : Repo) (name : Str) (Q : Int → Prop) (hb : bulk r ≤ 1048576) (hq : Q (findHead r name)) : F33.E r name Q := by
 unfold F33.E
 have b1 : bulk r = bulk r.Commits + bulk r.Heads := rfl
 have l1 := bulk_len r.Heads
 refine ⟨fun x => decide (x.Name = name), fun _ => True, fun x _ => ?_, F4.law _ _ _ _ OM (fun x _ => trivial) hq⟩
 unfold F19.E
 show (x.Name == name) = decide (x.Name = name)
 rw [Bool.eq_iff_iff, beq_iff_eq, decide_eq_true_eq]
theorem F13.law (r : Repo) (k : Int) (Q : Bool → Prop) (hq : Q (decide (0 ≤ k) && decide (k < (r.Commits.length : Int)))) : F13.E r k Q := by
 unfold F13.E
 refine ⟨fun _ => by unfold I64; omega, F81.law _ _ _ _ ?_⟩
 have : decide (k ≤ (r.Commits.length : Int) - 1) = decide (k < (r.Commits.length : Int)) := decide_eq_decide.2 OM
 rw [this]; exact hq
theorem F18.law (s : List Int) (v : Int) (Q : Int → Prop) (hl : s.length ≤ 1048576) (hq : Q (findN s.length fun j => decide (v = nth s (j : Int)))) : F18.E s v Q := by
 unfold F18.E
 refine loop_find s.length (fun j => decide (v = nth s (j : Int))) hq (fun I mu k hk h1 h2 => ⟨OM, ?_⟩)
 have e : (v == nth s (k : Int)) = decide (v = nth s (k : Int)) := by rw [Bool.eq_iff_iff, beq_iff_eq, decide_eq_true_eq]
 rw [e]
 cases h : decide (v = nth s (k : Int)) with
 | true => rw [if_pos rfl]; exact h1 h
 | false => rw [if_neg RD]; obtain ⟨i1, i2⟩ := h2 h; exact ⟨by unfold I64; omega, i1, i2⟩
theorem F6.law (s : List Int) (v : Int) (Q : Bool → Prop) (hl : s.length ≤ 1048576) (hq : Q (decide (v ∈ s))) : F6.E s v Q := by
 unfold F6.E
 refine F18.law _ _ _ hl ?_
 have : decide ((findN s.length fun j => decide (v = nth s (j : Int))) ≥ 0) = decide (v ∈ s) := by
  by_cases h : v ∈ s
  ·rw [decide_eq_true h, decide_eq_true_eq]
   apply Decidable.byContradiction
   intro hc
   obtain ⟨k, hk, e⟩ := mem_nth h
   have hle := findN_le s.length fun j => decide (v = nth s (j : Int))
   -- the first place
   have : ∀ m, (∃ j, j < m ∧ j < s.length ∧ v = nth s (j : Int)) → (findN s.length fun j => decide (v = nth s (j : Int))) ≥ 0 := by
    intro m
    induction m with
    | zero => rintro ⟨j, hj, _⟩; exact absurd hj (Nat.not_lt_zero _)
    | succ m ih =>
     rintro ⟨j, hj, hjl, hjv⟩
     by_cases hex : ∃ i, i < m ∧ i < s.length ∧ v = nth s (i : Int)
     ·exact ih hex
     ·by_cases hjm : j < m
      ·exact absurd ⟨j, hjm, hjl, hjv⟩ hex
      ·have : j = m := by omega
       subst this
       rw [findN_hit hjl (decide_eq_true hjv) (fun i hi => decide_eq_false fun e => hex ⟨i, hi, OM, e⟩)]
       omega
   exact hc (this (k + 1) ⟨k, OM, hk, e.symm⟩)
  ·rw [decide_eq_false h, decide_eq_false_iff_not, findN_none (fun j hj => decide_eq_false fun e => h (by rw [e]; exact nth_mem s hj))]
   omega
 rw [this]; exact hq
theorem F84.law (r : Repo) (Q : Bool → Prop) (hb : bulk r ≤ 1048576) (hq : Q (repoOk r)) : F84.E r Q := by
 unfold F84.E
 unfold repoOk at hq
 have b1 : bulk r = bulk r.Commits + bulk r.Heads := rfl
 have l1 := bulk_len r.Commits; have l2 := bulk_len r.Heads
 have e1 : decide ((1 : Int) ≤ (r.Commits.length : Int)) = decide (1 ≤ r.Commits.length) := decide_eq_decide.2 OM
 have e2 : decide ((r.Commits.length : Int) ≤ 14) = decide (r.Commits.length ≤ 14) := decide_eq_decide.2 OM
 have e3 : decide ((1 : Int) ≤ (r.Heads.length : Int)) = decide (1 ≤ r.Heads.length) := decide_eq_decide.2 OM
 have e4 : decide ((r.Heads.length : Int) ≤ 4) = decide (r.Heads.length ≤ 4) := decide_eq_decide.2 OM
 refine F81.law _ _ _ _ ?_
 rw [e1, e2]
 cases h1 : (decide (1 ≤ r.Commits.length) && decide (r.Commits.length ≤ 14)) with
 | false => rw [h1] at hq; rw [if_pos RD]; exact hq
 | true =>
 rw [h1, Bool.true_and] at hq
 rw [if_neg RD]
 refine F81.law _ _ _ _ ?_
 rw [e3, e4]
 cases h2 : (decide (1 ≤ r.Heads.length) && decide (r.Heads.length ≤ 4)) with
 | false => rw [h2] at hq; rw [if_pos RD]; exact hq
 | true =>
 rw [h2, Bool.true_and] at hq
 rw [if_neg RD]
 refine loop_all r.Commits.length (fun k => sheetOk (nth r.Commits (k : Int)).Sheet && wordOk (nth r.Commits (k : Int)).Note && decide (findCommit r (nth r.Commits (k : Int)) = (k : Int)) && upOk (nth r.Commits (k : Int)).Up k) (fun I mu k hk hp hn => ?_) (fun ha => ?_)
 ·have bad : (sheetOk (nth r.Commits (k : Int)).Sheet && wordOk (nth r.Commits (k : Int)).Note && decide (findCommit r (nth r.Commits (k : Int)) = (k : Int)) && upOk (nth r.Commits (k : Int)).Up k) = false → Q false := fun h => by
   rw [allN_false hk h, Bool.false_and] at hq; exact hq
  have m1 := bulk_mem (nth_mem r.Commits hk)
  have m2 : bulk (nth r.Commits (k : Int)) = bulk (nth r.Commits (k : Int)).Up + bulk (nth r.Commits (k : Int)).Sheet + bulk (nth r.Commits (k : Int)).Note := rfl
  have m3 := bulk_len (nth r.Commits (k : Int)).Up; have m4 := bulk_len (nth r.Commits (k : Int)).Note
  refine ⟨OM, F54.law _ _ OM ?_⟩
  cases a2 : sheetOk (nth r.Commits (k : Int)).Sheet with
  | false => rw [if_pos RD]; exact bad (by rw [a2]; rfl)
  | true =>
  rw [if_neg RD]
  refine F82.law _ _ OM ?_
  cases a3 : wordOk (nth r.Commits (k : Int)).Note with
  | false => rw [if_pos RD]; exact bad (by rw [a3, Bool.and_false]; rfl)
  | true =>
  rw [if_neg RD]
  refine F17.law _ _ _ hb ?_
  by_cases a4 : findCommit r (nth r.Commits (k : Int)) = (k : Int)
  case neg => rw [if_pos (by rw [bne_iff_ne]; exact a4)]; exact bad (by rw [decide_eq_false a4, Bool.and_false]; rfl)
  rw [if_neg (by rw [bne_iff_ne]; exact fun h => h a4)]
  have bad : upOk (nth r.Commits (k : Int)).Up k = false → Q false := fun h => bad (by rw [h, Bool.and_false])
  have hn : upOk (nth r.Commits (k : Int)).Up k = true → I ((k : Int) + 1) ∧ mu ((k : Int) + 1) < mu (k : Int) := fun h => hn (by rw [a2, a3, decide_eq_true a4, h]; rfl)
  generalize (nth r.Commits (k : Int)).Up = up at *
  unfold upOk at bad hn
  have z1 : ((k : Int) == 0) = decide (k = 0) := by rw [Bool.eq_iff_iff, beq_iff_eq, decide_eq_true_eq]; omega
  have z2 : ((up.length : Int) == 0) = decide (up.length = 0) := by rw [Bool.eq_iff_iff, beq_iff_eq, decide_eq_true_eq]; omega
  rw [z1, z2]
  cases a5 : (decide (k = 0) == decide (up.length = 0)) with
  | false =>
   rw [if_pos (by rw [bne, a5]; rfl)]; exact bad (by rw [a5]; rfl)
  | true =>
  rw [if_neg (by rw [bne, a5]; decide)]
  by_cases a6 : up.length ≤ 2
  case neg => rw [if_pos (by rw [decide_eq_true_eq]; omega)]; exact bad (by rw [decide_eq_false a6, Bool.and_false]; rfl)
  rw [if_neg (by rw [decide_eq_true_eq]; omega)]
  rw [a5, decide_eq_true a6, Bool.and_self, Bool.true_and] at bad hn
  refine loop_all up.length (fun j => inUp up k j && !(decide (nth up (j : Int) ∈ up.take j))) (fun I' mu' j hj hp' hn' => ?_) (fun ha => ?_)
  ·have bad : (inUp up k j && !(decide (nth up (j : Int) ∈ up.take j))) = false → Q false := fun h => bad (allN_false hj h)
   refine ⟨OM, by unfold I64; omega, F81.law _ _ _ _ ?_⟩
   have e : (decide (0 ≤ nth up (j : Int)) && decide (nth up (j : Int) ≤ (k : Int) - 1)) = inUp up k j := by
    unfold inUp
    rw [show decide (nth up (j : Int) ≤ (k : Int) - 1) = decide (nth up (j : Int) < (k : Int)) from decide_eq_decide.2 OM]
   rw [e]
   cases a7 : inUp up k j with
   | false => rw [if_pos RD]; exact bad (by rw [a7]; rfl)
   | true =>
   rw [if_neg RD]
   have ec : (up.drop (0 : Int).toNat).take ((j : Int).toNat - (0 : Int).toNat) = up.take j := by simp
   rw [ec]
   refine ⟨OM, F6.law _ _ _ (by rw [List.length_take]; omega) ?_⟩
   cases a8 : decide (nth up (j : Int) ∈ up.take j) with
   | true => rw [if_pos rfl]; exact bad (by rw [a7, a8]; rfl)
   | false =>
    rw [if_neg RD]
    obtain ⟨i1, i2⟩ := hn' (by rw [a7, a8]; rfl)
    exact ⟨by unfold I64; omega, i1, i2⟩
  ·obtain ⟨i1, i2⟩ := hn (allN_true ha)
   exact ⟨by unfold I64; omega, i1, i2⟩
 ·rw [allN_true ha, Bool.true_and] at hq
  refine loop_all r.Heads.length (fun k => wordOk (nth r.Heads (k : Int)).Name && decide (findHead r (nth r.Heads (k : Int)).Name = (k : Int)) && (decide (0 ≤ (nth r.Heads (k : Int)).At) && decide ((nth r.Heads (k : Int)).At < (r.Commits.length : Int)))) (fun I mu k hk hp hn => ?_) (fun ha => ?_)
  ·have bad : (wordOk (nth r.Heads (k : Int)).Name && decide (findHead r (nth r.Heads (k : Int)).Name = (k : Int)) && (decide (0 ≤ (nth r.Heads (k : Int)).At) && decide ((nth r.Heads (k : Int)).At < (r.Commits.length : Int)))) = false → Q false := fun h => by
    rw [allN_false hk h] at hq; exact hq
   have m1 := bulk_mem (nth_mem r.Heads hk)
   have m2 : bulk (nth r.Heads (k : Int)) = bulk (nth r.Heads (k : Int)).Name + bulk (nth r.Heads (k : Int)).At := rfl
   have m3 := bulk_len (nth r.Heads (k : Int)).Name
   refine ⟨OM, F82.law _ _ OM ?_⟩
   cases a1 : wordOk (nth r.Heads (k : Int)).Name with
   | false => rw [if_pos RD]; exact bad (by rw [a1]; rfl)
   | true =>
   rw [if_neg RD]
   refine F33.law _ _ _ hb ?_
   by_cases a2 : findHead r (nth r.Heads (k : Int)).Name = (k : Int)
   case neg => rw [if_pos (by rw [bne_iff_ne]; exact a2)]; exact bad (by rw [decide_eq_false a2, Bool.and_false]; rfl)
   rw [if_neg (by rw [bne_iff_ne]; exact fun h => h a2)]
   refine F13.law _ _ _ ?_
   cases a3 : (decide (0 ≤ (nth r.Heads (k : Int)).At) && decide ((nth r.Heads (k : Int)).At < (r.Commits.length : Int))) with
   | false => rw [if_pos RD]; exact bad (by rw [a3, Bool.and_false])
   | true =>
    rw [if_neg RD]
    obtain ⟨i1, i2⟩ := hn (by rw [a1, decide_eq_true a2, a3]; rfl)
    exact ⟨by unfold I64; omega, i1, i2⟩
  ·rw [allN_true ha] at hq; exact hq
theorem F34.law (r : Repo) (b : Nat) (Q : List Bool → Prop) (hr : repoOk r = true) (hb : b < r.Commits.length) (hl : bulk r ≤ 1048576) (hq : Q (pastOf r b)) : F34.E r (b : Int) Q := by
 unfold F34.E
 have hc := repoOk_len hr
 have b1 : bulk r = bulk r.Commits + bulk r.Heads := rfl
 simp only [Int.toNat_natCast]
 refine ⟨OM, by simp; omega, ?_⟩
 refine ⟨fun xs k => ∃ j : Nat, k = (j : Int) - 1 ∧ j ≤ b + 1 ∧ xs.length = r.Commits.length ∧ back r j xs = pastOf r b, fun _ k => (k + 1).toNat, ⟨b + 1, OM, Nat.le_refl _, by simp, rfl⟩, ?_⟩
 rintro xs _ ⟨j, rfl, hj, hx, hbk⟩
 by_cases h0 : (j : Int) - 1 ≥ 0
 ·rw [if_pos (by rw [decide_eq_true_eq]; exact h0)]
  obtain ⟨i, rfl⟩ : ∃ i, j = i + 1 := ⟨j - 1, OM⟩
  have ei : ((i + 1 : Nat) : Int) - 1 = (i : Int) := by omega
  rw [ei]
  rw [back] at hbk
  refine ⟨OM, ?_⟩
  cases hn : nth xs (i : Int) with
  | false =>
   rw [if_neg RD]
   rw [hn, if_neg RD] at hbk
   exact ⟨by unfold I64; omega, ⟨i, rfl, OM, hx, hbk⟩, by dsimp only; omega⟩
  | true =>
   rw [if_pos rfl]
   rw [hn, if_pos rfl] at hbk
   have hu := repoOk_up hr (k := i) OM
   have m1 := bulk_mem (nth_mem r.Commits (show i < r.Commits.length by omega))
   have m2 : bulk (nth r.Commits (i : Int)) = bulk (nth r.Commits (i : Int)).Up + bulk (nth r.Commits (i : Int)).Sheet + bulk (nth r.Commits (i : Int)).Note := rfl
   have m3 := bulk_len (nth r.Commits (i : Int)).Up
   generalize (nth r.Commits (i : Int)).Up = up at *
   refine ⟨OM, fun ys v => ∃ u : Nat, v = u ∧ u ≤ up.length ∧ ys = stepUp (up.take u) xs, fun _ v => (up.length - v).toNat, ⟨0, rfl, Nat.zero_le _, rfl⟩, ?_⟩
   rintro _ _ ⟨u, rfl, hu', rfl⟩
   by_cases h1 : (u : Int) < (up.length : Int)
   ·rw [if_pos (by rw [decide_eq_true_eq]; exact h1)]
    have hm := hu _ (nth_mem up (show u < up.length by omega))
    exact ⟨OM, by rw [stepUp_len]; omega, by unfold I64; omega, ⟨u + 1, OM, OM, (stepUp_take up xs OM).symm⟩, by dsimp only; omega⟩
   ·rw [if_neg (by rw [decide_eq_true_eq]; exact h1)]
    have : u = up.length := by omega
    subst this
    rw [List.take_length]
    exact ⟨by unfold I64; omega, ⟨i, rfl, OM, by rw [stepUp_len]; exact hx, hbk⟩, by dsimp only; omega⟩
 ·rw [if_neg (by rw [decide_eq_true_eq]; exact h0)]
  have : j = 0 := by omega
  subst this
  rw [back] at hbk
  rw [hbk]; exact hq
theorem F5.law (s : List Int) (f : Int → Bool) (ok : Int → Prop) (Q : Int → Prop) (hl : s.length ≤ 1048576) (hok : ∀ x ∈ s, ok x) (hq : Q (findN s.length fun j => f (nth s (j : Int)))) : F5.E s f ok Q := by
 unfold F5.E
 refine loop_find s.length (fun j => f (nth s (j : Int))) hq (fun I mu k hk h1 h2 => ⟨OM, hok _ (nth_mem s hk), ?_⟩)
 cases h : f (nth s (k : Int)) with
 | true => rw [if_pos rfl]; exact h1 h
 | false => rw [if_neg RD]; obtain ⟨i1, i2⟩ := h2 h; exact ⟨by unfold I64; omega, i1, i2⟩
theorem F2.law (s : List Int) (f : Int → Bool) (ok : Int → Prop) (Q : Bool → Prop) (hl : s.length ≤ 1048576) (hok : ∀ x ∈ s, ok x) (hq : Q (s.any f)) : F2.E s f ok Q := by
 unfold F2.E
 refine F5.law _ _ _ _ hl hok ?_
 rw [findN_any]; exact hq
theorem bases_any {r : Repo} (ho : repoOk r = true) {a b : Nat} (ha : a < r.Commits.length) (hb : b < r.Commits.length) {i : Nat} (hi : i < r.Commits.length) (hc : com r a b i = true) {xs : List Int}
  (hx : ∀ x, x ∈ xs ↔ ((i : Int) + 1 ≤ x ∧ x < (r.Commits.length : Int)) ∧ nth (baseM r a b) x = true) : (xs.any fun j => nth (pastOf r j.toNat) (i : Int)) = !nth (baseM r a b) (i : Int) := by
 have up : Ups r := fun k hk => repoOk_up ho hk
 cases h : nth (baseM r a b) (i : Int) with
 | true =>
  show _ = false
  rw [List.any_eq_false]
  intro x hxm hp
  obtain ⟨⟨h1, h2⟩, h3⟩ := (hx x).1 hxm
  obtain ⟨j, rfl⟩ := Int.eq_ofNat_of_zero_le (show 0 ≤ x by omega)
  have hj : j < r.Commits.length := by omega
  have hr := (pastOf_mark up hj i).1 hp
  have := base_low ho ha hb h hi ((baseM_iff hj).1 h3).1 hr
  omega
 | false =>
  show _ = true
  rw [List.any_eq_true]
  obtain ⟨k, h1, h2, h3⟩ := base_of ho ha hb _ i rfl hc
  have hne : k ≠ i := fun e => by rw [e, h] at h2; cases h2
  have := Reach.le up h3 h1
  exact ⟨(k : Int), (hx _).2 ⟨⟨OM, OM⟩, h2⟩, (pastOf_mark up h1 i).2 h3⟩
theorem F37.law (r : Repo) (a b : Int) (Q : List Int → Prop) (hb : bulk r ≤ 1048576) (hq : Q (basesL r a b)) : F37.E r a b Q := by
 unfold F37.E
 refine F84.law _ _ hb (iteB (fun h => ?_) fun h => F13.law _ _ _ (iteB (fun g => ?_) fun g => F13.law _ _ _ (iteB (fun f => ?_) fun f => ?_)))
 ·have e : basesL r a b = [] := by unfold basesL verIn; rw [show repoOk r = false by simpa using h]; rfl
  rw [← e]; exact hq
 ·have e : basesL r a b = [] := by unfold basesL verIn; rw [show (decide (0 ≤ a) && decide (a < (r.Commits.length : Int))) = false by simpa only [Bool.not_eq_true'] using g, Bool.and_false]; rfl
  rw [← e]; exact hq
 ·have e : basesL r a b = [] := by unfold basesL verIn; rw [show (decide (0 ≤ b) && decide (b < (r.Commits.length : Int))) = false by simpa only [Bool.not_eq_true'] using f, Bool.and_false, Bool.and_false]; rfl
  rw [← e]; exact hq
 have ho : repoOk r = true := by simpa using h
 simp only [Bool.not_eq_false', Bool.and_eq_true, decide_eq_true_eq] at g f
 obtain ⟨A, rfl⟩ := Int.eq_ofNat_of_zero_le g.1
 obtain ⟨B, rfl⟩ := Int.eq_ofNat_of_zero_le f.1
 have hA : A < r.Commits.length := by omega
 have hB : B < r.Commits.length := by omega
 have h14 := repoOk_len ho
 have e : basesL r (A : Int) (B : Int) = told (baseM r A B) r.Commits.length := by unfold basesL; rw [ver_in ho ⟨OM, g.2⟩, ver_in ho ⟨OM, f.2⟩]; rfl
 rw [e] at hq
 have l1 := pastOf_len r A
 have l2 := pastOf_len r B
 refine F34.law _ _ _ ho hA hb (F34.law _ _ _ ho hB hb ⟨fun _ => by unfold I64; omega, ?_⟩)
 refine ⟨fun xs z => ∃ j : Nat, z = (j : Int) - 1 ∧ j ≤ r.Commits.length ∧ xs ++ told (baseM r A B) j = told (baseM r A B) r.Commits.length ∧ xs.length ≤ r.Commits.length - j ∧ ∀ x, x ∈ xs ↔ ((j : Int) ≤ x ∧ x < (r.Commits.length : Int)) ∧ nth (baseM r A B) x = true, fun _ z => (z + 1).toNat,
  ⟨r.Commits.length, OM, Nat.le_refl _, rfl, by simp, fun x => ⟨fun h => absurd h (by simp), fun h => by have := h.1; omega⟩⟩, ?_⟩
 rintro xs _ ⟨j, rfl, hj, hd, hn, hx⟩
 by_cases h : j = 0
 ·subst h
  rw [if_neg RD]
  rw [show told (baseM r A B) 0 = [] from rfl, List.append_nil] at hd
  rw [hd]; exact hq
 obtain ⟨i, rfl⟩ : ∃ i, j = i + 1 := ⟨j - 1, OM⟩
 rw [show ((i + 1 : Nat) : Int) - 1 = (i : Int) by omega]
 rw [if_pos (by rw [decide_eq_true_eq]; omega)]
 have hi : i < r.Commits.length := by omega
 have hI : I64 ((i : Int) - 1) := by unfold I64; omega
 have skip : nth (baseM r A B) (i : Int) = false → ∃ j : Nat, (i : Int) - 1 = (j : Int) - 1 ∧ j ≤ r.Commits.length ∧ xs ++ told (baseM r A B) j = told (baseM r A B) r.Commits.length ∧ xs.length ≤ r.Commits.length - j ∧ ∀ x, x ∈ xs ↔ ((j : Int) ≤ x ∧ x < (r.Commits.length : Int)) ∧ nth (baseM r A B) x = true := fun hm => by
  rw [told, hm, if_neg RD] at hd
  refine ⟨i, rfl, OM, hd, OM, fun x => (hx x).trans ⟨fun ⟨⟨h1, h2⟩, h3⟩ => ⟨⟨OM, h2⟩, h3⟩, fun ⟨⟨h1, h2⟩, h3⟩ => ⟨⟨?_, h2⟩, h3⟩⟩⟩
  by_cases e : x = (i : Int)
  ·rw [e, hm] at h3; cases h3
  ·omega
 have put : nth (baseM r A B) (i : Int) = true → ∃ j : Nat, (i : Int) - 1 = (j : Int) - 1 ∧ j ≤ r.Commits.length ∧ (xs ++ [(i : Int)]) ++ told (baseM r A B) j = told (baseM r A B) r.Commits.length ∧ (xs ++ [(i : Int)]).length ≤ r.Commits.length - j ∧ ∀ x, x ∈ xs ++ [(i : Int)] ↔ ((j : Int) ≤ x ∧ x < (r.Commits.length : Int)) ∧ nth (baseM r A B) x = true := fun hm => by
  rw [told, hm, if_pos rfl] at hd
  refine ⟨i, rfl, OM, by rw [List.append_assoc]; exact hd, by rw [List.length_append, List.length_singleton]; omega, fun x => ?_⟩
  rw [List.mem_append, List.mem_singleton, hx x]
  constructor
  ·rintro (⟨⟨h1, h2⟩, h3⟩ | rfl)
   ·exact ⟨⟨OM, h2⟩, h3⟩
   ·exact ⟨⟨OM, OM⟩, hm⟩
  ·rintro ⟨⟨h1, h2⟩, h3⟩
   by_cases e : x = (i : Int)
   ·exact .inr e
   ·exact .inl ⟨⟨OM, h2⟩, h3⟩
 have nc : com r A B i = false → nth (baseM r A B) (i : Int) = false := fun h => by
  cases g : nth (baseM r A B) (i : Int) with
  | false => rfl
  | true => rw [((baseM_iff hi).1 g).1] at h; cases h
 refine ⟨OM, iteB (fun h => ⟨hI, skip (nc ?_), by dsimp only; omega⟩) fun h1 => ⟨OM, iteB (fun h => ⟨hI, skip (nc ?_), by dsimp only; omega⟩) fun h2 => ?_⟩⟩
 ·unfold com; rw [show nth (pastOf r A) (i : Int) = false by simpa using h]; rfl
 ·unfold com; rw [show nth (pastOf r B) (i : Int) = false by simpa using h, Bool.and_false]
 have hc : com r A B i = true := by
  unfold com
  rw [show nth (pastOf r A) (i : Int) = true by simpa using h1, show nth (pastOf r B) (i : Int) = true by simpa using h2]; rfl
 refine ⟨fun j => nth (pastOf r j.toNat) (i : Int), fun j => 0 ≤ j ∧ j < (r.Commits.length : Int), fun x hxv => ?_, F2.law _ _ _ _ OM (fun x hxm => ?_) ?_⟩
 ·unfold F21.E
  obtain ⟨k, rfl⟩ := Int.eq_ofNat_of_zero_le hxv.1
  exact F34.law r k _ ho OM hb ⟨by rw [pastOf_len]; omega, rfl⟩
 ·have := ((hx x).1 hxm).1
  omega
 rw [bases_any ho hA hB hi hc (fun x => by rw [hx x]; simp only [Int.natCast_add, Int.cast_ofNat_Int])]
 refine iteB (fun h => ⟨by simp only [List.length_cons, List.length_nil]; omega, hI, put (by simpa using h), by dsimp only; omega⟩) fun h => ⟨hI, skip (by simpa using h), by dsimp only; omega⟩
theorem F96.law (up : List Int) (k : Nat) (Q : Bool → Prop) (hq : Q (upOk up k)) : F96.E up (k : Int) Q := by
 unfold F96.E
 rw [← upOk_eq] at hq
 refine loop_all up.length (inUp up k) (fun I mu j hj hp hn => ?_) (fun ha => ?_)
 ·have bad : inUp up k j = false → Q false := fun h => by rw [allN_false hj h, Bool.false_and] at hq; exact hq
  refine ⟨OM, ?_⟩
  by_cases h1 : 0 ≤ nth up (j : Int)
  ·rw [if_neg (by rw [decide_eq_true_eq]; omega)]
   refine ⟨OM, ?_⟩
   by_cases h2 : nth up (j : Int) < (k : Int)
   ·rw [if_neg (by rw [decide_eq_true_eq]; omega)]
    obtain ⟨i1, i2⟩ := hn (by unfold inUp; rw [decide_eq_true h1, decide_eq_true h2]; rfl)
    exact ⟨OM, i1, i2⟩
   ·rw [if_pos (by rw [decide_eq_true_eq]; omega)]
    exact bad (by unfold inUp; rw [decide_eq_false h2, Bool.and_false])
  ·rw [if_pos (by rw [decide_eq_true_eq]; omega)]
   exact bad (by unfold inUp; rw [decide_eq_false h1]; rfl)
 ·rw [allN_true ha, Bool.true_and] at hq
  by_cases h1 : up.length ≤ 2
  ·rw [decide_eq_true h1, Bool.true_and] at hq
   rw [if_pos (by rw [decide_eq_true_eq]; omega)]
   have e1 : decide ((up.length : Int) > 0) = decide (0 < up.length) := decide_eq_decide.2 OM
   have e2 : decide ((k : Int) > 0) = decide (0 < k) := decide_eq_decide.2 OM
   rw [e1, e2]
   cases h2 : (decide (0 < up.length) == decide (0 < k)) with
   | false => rw [h2] at hq; rw [if_neg RD]; exact hq
   | true =>
    rw [h2, Bool.true_and] at hq
    rw [if_pos rfl]
    by_cases h3 : up.length < 2
    ·rw [decide_eq_true h3, Bool.true_or] at hq
     rw [if_pos (by rw [decide_eq_true_eq]; omega)]; exact hq
    ·rw [decide_eq_false h3, Bool.false_or] at hq
     rw [if_neg (by rw [decide_eq_true_eq]; omega)]
     refine ⟨OM, OM, ?_⟩
     have : (nth up 0 != nth up 1) = !(decide (nth up 0 = nth up 1)) := by
      by_cases h : nth up 0 = nth up 1
      ·rw [decide_eq_true h, h]; simp
      ·rw [decide_eq_false h]; simpa using h
     rw [this]; exact hq
  ·rw [decide_eq_false h1] at hq
   rw [if_neg (by rw [decide_eq_true_eq]; omega)]; exact hq
theorem F56.law (s : Str) (Q : Bool → Prop) (hq : Q (wordOk s)) : F56.E s Q := by
 unfold F56.E
 unfold wordOk at hq
 refine loop_all s.length (fun k => byteOk (nth s (k : Int))) (fun I mu k hk hp hn => ?_) (fun ha => ?_)
 ·refine ⟨OM, ?_⟩
  cases h1 : decide (((nth s (k : Int)).toNat : Int) < 97) with
  | true => rw [if_pos rfl]; rw [allN_false hk (by simp only [byteOk, h1]; rfl), Bool.false_and] at hq; exact hq
  | false =>
   rw [if_neg RD]
   refine ⟨OM, ?_⟩
   cases h2 : decide (((nth s (k : Int)).toNat : Int) > 122) with
   | true => rw [if_pos rfl]; rw [allN_false hk (by simp only [byteOk, h1, h2]; rfl), Bool.false_and] at hq; exact hq
   | false =>
    rw [if_neg RD]
    obtain ⟨i1, i2⟩ := hn (by simp only [byteOk, h1, h2]; rfl)
    exact ⟨OM, i1, i2⟩
 ·rw [allN_true ha, Bool.true_and] at hq
  by_cases h : 1 ≤ s.length
  ·rw [decide_eq_true h, Bool.true_and] at hq
   rw [if_pos (by rw [decide_eq_true_eq]; omega)]
   have e2 : decide ((s.length : Int) ≤ 6) = decide (s.length ≤ 6) := decide_eq_decide.2 OM
   rw [e2]; exact hq
  ·rw [decide_eq_false h, Bool.false_and] at hq
   rw [if_neg (by rw [decide_eq_true_eq]; omega)]; exact hq
theorem F86.m_is (n : Int) : F86.m n = inR n := by
 unfold F86.m inR
 by_cases h : -1000 ≤ n
 ·rw [if_pos (by rw [decide_eq_true_eq]; omega), decide_eq_true h, Bool.true_and]
 ·rw [if_neg (by rw [decide_eq_true_eq]; omega), decide_eq_false h, Bool.false_and]
theorem F87.law (p : List Pt) (Q : Bool → Prop) (hq : Q (ptsOk p && decide (p.length ≤ 6))) : F87.E p Q := by
 unfold F87.E
 unfold ptsOk at hq
 refine loop_all p.length (fun k => ptOk (nth p (k : Int)) && (decide (k = 0) || !(decide (nth p ((k : Int) - 1) = nth p (k : Int))))) (fun I mu k hk hp hn => ?_) (fun ha => ?_)
 ·refine ⟨OM, ?_⟩
  rw [F86.m_is, F86.m_is]
  have bad : (ptOk (nth p (k : Int)) && (decide (k = 0) || !(decide (nth p ((k : Int) - 1) = nth p (k : Int))))) = false → Q false := fun h => by
   rw [allN_false hk h, Bool.false_and] at hq; exact hq
  cases h1 : inR (nth p (k : Int)).X with
  | false => rw [if_pos RD]; exact bad (by simp only [ptOk, h1, Bool.false_and])
  | true =>
   rw [if_neg RD]
   refine ⟨OM, ?_⟩
   cases h2 : inR (nth p (k : Int)).Y with
   | false => rw [if_pos RD]; exact bad (by simp only [ptOk, h2, Bool.and_false, Bool.false_and])
   | true =>
    rw [if_neg RD]
    have hpt : ptOk (nth p (k : Int)) = true := by simp only [ptOk, h1, h2, Bool.and_self]
    by_cases hk0 : k = 0
    ·rw [if_neg (by rw [decide_eq_true_eq]; omega)]
     obtain ⟨i1, i2⟩ := hn (by rw [hpt, decide_eq_true hk0]; rfl)
     exact ⟨OM, i1, i2⟩
    ·rw [if_pos (by rw [decide_eq_true_eq]; omega)]
     refine ⟨OM, fun _ => by unfold I64; omega, OM, ?_⟩
     rw [eqPt_is]
     by_cases he : nth p ((k : Int) - 1) = nth p (k : Int)
     ·rw [if_pos (by rw [decide_eq_true_eq]; exact he.symm)]
      exact bad (by rw [hpt, decide_eq_false hk0, decide_eq_true he]; rfl)
     ·rw [if_neg (by rw [decide_eq_true_eq]; exact fun e => he e.symm)]
      obtain ⟨i1, i2⟩ := hn (by rw [hpt, decide_eq_false hk0, decide_eq_false he]; rfl)
      exact ⟨OM, i1, i2⟩
 ·rw [allN_true ha, Bool.true_and] at hq
  have e2 : decide ((p.length : Int) ≤ 6) = decide (p.length ≤ 6) := decide_eq_decide.2 OM
  rw [e2]; exact hq
theorem F49.law (s : Shape) (Q : Bool → Prop) (hq : Q (shapeOk s)) : F49.E s Q := by
 unfold F49.E
 unfold shapeOk at hq
 refine F87.law _ _ ?_
 cases h1 : ptsOk s.Pts with
 | false => rw [h1, Bool.false_and] at hq; rw [Bool.false_and, if_pos RD]; exact hq
 | true =>
  rw [h1, Bool.true_and] at hq
  rw [Bool.true_and]
  unfold kindOk at hq
  by_cases h6 : s.Pts.length ≤ 6
  ·rw [decide_eq_true h6, if_neg RD]
   by_cases k1 : s.Kind = 1
   ·rw [if_pos k1] at hq
    rw [if_pos (by rw [beq_iff_eq]; exact k1)]
    have : ((s.Pts.length : Int) == 1) = decide (s.Pts.length = 1) := by rw [Bool.eq_iff_iff, beq_iff_eq, decide_eq_true_eq]; omega
    rw [this]; exact hq
   rw [if_neg k1] at hq
   rw [if_neg (by rw [beq_iff_eq]; exact k1)]
   by_cases k2 : s.Kind = 2
   ·rw [if_pos k2, decide_eq_true h6, Bool.and_true] at hq
    rw [if_pos (by rw [beq_iff_eq]; exact k2)]
    have : decide ((s.Pts.length : Int) ≥ 2) = decide (2 ≤ s.Pts.length) := decide_eq_decide.2 OM
    rw [this]; exact hq
   rw [if_neg k2] at hq
   rw [if_neg (by rw [beq_iff_eq]; exact k2)]
   by_cases k3 : s.Kind = 3
   ·rw [if_pos k3, decide_eq_true h6, Bool.and_true] at hq
    rw [if_pos (by rw [beq_iff_eq]; exact k3)]
    by_cases h3 : 3 ≤ s.Pts.length
    ·rw [decide_eq_true h3, Bool.true_and] at hq
     rw [if_pos (by rw [decide_eq_true_eq]; omega), eqPt_is]
     exact ⟨OM, fun _ => by unfold I64; omega, OM, hq⟩
    ·rw [decide_eq_false h3, Bool.false_and] at hq
     rw [if_neg (by rw [decide_eq_true_eq]; omega)]; exact hq
   ·rw [if_neg k3] at hq
    rw [if_neg (by rw [beq_iff_eq]; exact k3)]; exact hq
  ·rw [decide_eq_false h6, if_pos RD]
   have : (if s.Kind = 1 then decide (s.Pts.length = 1) else if s.Kind = 2 then decide (2 ≤ s.Pts.length) && decide (s.Pts.length ≤ 6)
 else if s.Kind = 3 then decide (3 ≤ s.Pts.length) && decide (s.Pts.length ≤ 6) && !(decide (nth s.Pts 0 = nth s.Pts ((s.Pts.length : Int) - 1))) else false) = false := by
    rw [decide_eq_false h6, decide_eq_false (show ¬ s.Pts.length = 1 by omega)]
    simp
   rw [this] at hq; exact hq
theorem F60.law (t : List Tag) (Q : Bool → Prop) (hq : Q (tagsOk t && decide (t.length ≤ 4))) : F60.E t Q := by
 unfold F60.E
 unfold tagsOk at hq
 refine loop_all t.length (fun k => wordOk (nth t (k : Int)).Key && wordOk (nth t (k : Int)).Val && (decide (k = 0) || Op.bytesLess (nth t ((k : Int) - 1)).Key (nth t (k : Int)).Key)) (fun I mu k hk hp hn => ?_) (fun ha => ?_)
 ·have bad : (wordOk (nth t (k : Int)).Key && wordOk (nth t (k : Int)).Val && (decide (k = 0) || Op.bytesLess (nth t ((k : Int) - 1)).Key (nth t (k : Int)).Key)) = false → Q false := fun h => by
   rw [allN_false hk h, Bool.false_and] at hq; exact hq
  refine ⟨OM, _, F56.law _ _ rfl, ?_⟩
  cases h1 : wordOk (nth t (k : Int)).Key with
  | false => rw [if_pos RD]; exact bad (by rw [h1]; rfl)
  | true =>
   rw [if_neg RD]
   refine ⟨OM, _, F56.law _ _ rfl, ?_⟩
   cases h2 : wordOk (nth t (k : Int)).Val with
   | false => rw [if_pos RD]; exact bad (by rw [h2, Bool.and_false]; rfl)
   | true =>
    rw [if_neg RD]
    by_cases hk0 : k = 0
    ·rw [if_neg (by rw [decide_eq_true_eq]; omega)]
     obtain ⟨i1, i2⟩ := hn (by rw [h1, h2, decide_eq_true hk0]; rfl)
     exact ⟨OM, i1, i2⟩
    ·rw [if_pos (by rw [decide_eq_true_eq]; omega)]
     refine ⟨OM, fun _ => by unfold I64; omega, OM, ?_⟩
     rw [← less_tri]
     cases h3 : Op.bytesLess (nth t ((k : Int) - 1)).Key (nth t (k : Int)).Key with
     | false => rw [if_pos RD]; exact bad (by rw [h3, h1, h2, decide_eq_false hk0]; rfl)
     | true =>
      rw [if_neg RD]
      obtain ⟨i1, i2⟩ := hn (by rw [h3, h1, h2, decide_eq_false hk0]; rfl)
      exact ⟨OM, i1, i2⟩
 ·rw [allN_true ha, Bool.true_and] at hq
  have e2 : decide ((t.length : Int) ≤ 4) = decide (t.length ≤ 4) := decide_eq_decide.2 OM
  rw [e2]; exact hq
theorem F61.law (f : Feat) (Q : Bool → Prop) (hq : Q (featOk f)) : F61.E f Q := by
 unfold F61.E
 unfold featOk at hq
 refine F56.law _ _ ?_
 cases h1 : wordOk f.Id with
 | false => rw [h1, Bool.and_false, Bool.false_and] at hq; rw [if_neg RD]; exact hq
 | true =>
  rw [h1, Bool.and_true] at hq
  rw [if_pos rfl]
  refine F49.law _ _ ?_
  cases h2 : shapeOk f.Shape with
  | false => rw [h2, Bool.and_false] at hq; rw [if_neg RD]; exact hq
  | true => rw [h2, Bool.and_true] at hq; rw [if_pos rfl]; exact F60.law _ _ hq
theorem F52.law (d : List Feat) (Q : Bool → Prop) (hq : Q (sheetOk d)) : F52.E d Q := by
 unfold F52.E
 unfold sheetOk at hq
 refine loop_all d.length (fun k => featOk (nth d (k : Int)) && (decide (k = 0) || Op.bytesLess (nth d ((k : Int) - 1)).Id (nth d (k : Int)).Id)) (fun I mu k hk hp hn => ?_) (fun ha => ?_)
 ·have bad : (featOk (nth d (k : Int)) && (decide (k = 0) || Op.bytesLess (nth d ((k : Int) - 1)).Id (nth d (k : Int)).Id)) = false → Q false := fun h => by
   rw [allN_false hk h, Bool.false_and] at hq; exact hq
  refine ⟨OM, _, F61.law _ _ rfl, ?_⟩
  cases h1 : featOk (nth d (k : Int)) with
  | false => rw [if_pos RD]; exact bad (by rw [h1]; rfl)
  | true =>
   rw [if_neg RD]
   by_cases hk0 : k = 0
   ·rw [if_neg (by rw [decide_eq_true_eq]; omega)]
    obtain ⟨i1, i2⟩ := hn (by rw [h1, decide_eq_true hk0]; rfl)
    exact ⟨OM, i1, i2⟩
   ·rw [if_pos (by rw [decide_eq_true_eq]; omega)]
    refine ⟨OM, fun _ => by unfold I64; omega, OM, ?_⟩
    rw [← less_tri]
    cases h3 : Op.bytesLess (nth d ((k : Int) - 1)).Id (nth d (k : Int)).Id with
    | false => rw [if_pos RD]; exact bad (by rw [h3, h1, decide_eq_false hk0]; rfl)
    | true =>
     rw [if_neg RD]
     obtain ⟨i1, i2⟩ := hn (by rw [h3, h1, decide_eq_false hk0]; rfl)
     exact ⟨OM, i1, i2⟩
 ·rw [allN_true ha, Bool.true_and] at hq
  have e2 : decide ((d.length : Int) ≤ 8) = decide (d.length ≤ 8) := decide_eq_decide.2 OM
  rw [e2]; exact hq
theorem F64.law (a b : List Tag) (Q : Bool → Prop) (hq : Q (decide (a = b))) : F64.E a b Q := by
 unfold F64.E
 exact eqS_shape eqTag eqTag_is a b Q hq
theorem F63.law (a b : List Pt) (Q : Bool → Prop) (hq : Q (decide (a = b))) : F63.E a b Q := by
 unfold F63.E
 exact eqS_shape eqPt eqPt_is a b Q hq
theorem F29.law (a b : Shape) (Q : Bool → Prop) (hq : Q (decide (a = b))) : F29.E a b Q := by
 unfold F29.E
 by_cases h : a.Kind = b.Kind
 ·rw [if_pos (by rw [beq_iff_eq]; exact h)]
  refine F63.law _ _ _ ?_
  have : decide (a.Pts = b.Pts) = decide (a = b) := decide_eq_decide.2 (by rw [Shape.ext_iff']; exact ⟨fun e => ⟨h, e⟩, fun e => e.2⟩)
  rw [this]; exact hq
 ·rw [if_neg (by rw [beq_iff_eq]; exact h)]
  rw [decide_eq_false (by rw [Shape.ext_iff']; exact fun e => h e.1)] at hq; exact hq
theorem F40.law (a b : Feat) (Q : Bool → Prop) (hq : Q (decide (a = b))) : F40.E a b Q := by
 unfold F40.E
 by_cases h : a.Id = b.Id
 ·rw [if_pos (by rw [beq_iff_eq]; exact h)]
  refine F29.law _ _ _ ?_
  by_cases h2 : a.Shape = b.Shape
  ·rw [decide_eq_true h2, if_pos rfl]
   refine F64.law _ _ _ ?_
   have : decide (a.Tags = b.Tags) = decide (a = b) := decide_eq_decide.2 (by rw [Feat.ext_iff']; exact ⟨fun e => ⟨h, h2, e⟩, fun e => e.2.2⟩)
   rw [this]; exact hq
  ·rw [decide_eq_false h2, if_neg RD]
   rw [decide_eq_false (by rw [Feat.ext_iff']; exact fun e => h2 e.2.1)] at hq; exact hq
 ·rw [if_neg (by rw [beq_iff_eq]; exact h)]
  rw [decide_eq_false (by rw [Feat.ext_iff']; exact fun e => h e.1)] at hq; exact hq
theorem F30.law (a b : List Feat) (Q : Bool → Prop) (hq : Q (decide (a = b))) : F30.E a b Q := by
 unfold F30.E
 by_cases hl : a.length = b.length
 ·rw [if_neg (by simp [hl])]
  exact eqQ_shape a b F40.E (fun x y _ => F40.law x y _ rfl) _ _ hl (fun h => by rw [decide_eq_false h] at hq; exact hq) (fun h => by rw [decide_eq_true h] at hq; exact hq)
 ·rw [if_pos (by rw [bne_iff_ne]; omega)]
  rw [decide_eq_false (fun e => hl (by rw [e]))] at hq; exact hq
theorem F62.law (a b : List Int) (Q : Bool → Prop) (hq : Q (decide (a = b))) : F62.E a b Q := by
 unfold F62.E
 exact eqN_shape a b Q hq
theorem Commit.ext_iff2 (a b : Commit) : a = b ↔ a.Up = b.Up ∧ a.Sheet = b.Sheet ∧ a.Note = b.Note := by cases a; cases b; simp
theorem F65.law (a b : Commit) (Q : Bool → Prop) (hq : Q (decide (a = b))) : F65.E a b Q := by
 unfold F65.E
 have e : decide (a = b) = (decide (a.Up = b.Up) && (decide (a.Sheet = b.Sheet) && decide (a.Note = b.Note))) := by
  rw [Bool.eq_iff_iff]; simp only [Bool.and_eq_true, decide_eq_true_eq]; exact Commit.ext_iff2 a b
 rw [e] at hq
 refine F62.law _ _ _ ?_
 cases h1 : decide (a.Up = b.Up) with
 | false => rw [h1] at hq; rw [if_neg RD]; exact hq
 | true =>
  rw [h1, Bool.true_and] at hq
  rw [if_pos rfl]
  refine F30.law _ _ _ ?_
  cases h2 : decide (a.Sheet = b.Sheet) with
  | false => rw [h2] at hq; rw [if_neg RD]; exact hq
  | true =>
   rw [h2, Bool.true_and] at hq
   rw [if_pos rfl]
   have : (a.Note == b.Note) = decide (a.Note = b.Note) := by rw [Bool.eq_iff_iff, beq_iff_eq, decide_eq_true_eq]
   rw [this]; exact hq
theorem F66.law (r : Repo) (c : Commit) (Q : Int → Prop) (hq : Q (findCommit r c)) : F66.E r c Q := by
 unfold F66.E
 refine loop_find r.Commits.length (fun j => decide (nth r.Commits (j : Int) = c)) hq (fun I mu k hk h1 h2 => ⟨OM, _, F65.law _ _ _ rfl, ?_⟩)
 cases h : decide (nth r.Commits (k : Int) = c) with
 | true => rw [if_pos rfl]; exact h1 h
 | false => rw [if_neg RD]; obtain ⟨i1, i2⟩ := h2 h; exact ⟨OM, i1, i2⟩
theorem F59.law (r : Repo) (name : Str) (Q : Int → Prop) (hq : Q (findHead r name)) : F59.E r name Q := by
 unfold F59.E
 refine loop_find r.Heads.length (fun j => decide ((nth r.Heads (j : Int)).Name = name)) hq (fun I mu k hk h1 h2 => ⟨OM, ?_⟩)
 have e : ((nth r.Heads (k : Int)).Name == name) = decide ((nth r.Heads (k : Int)).Name = name) := by rw [Bool.eq_iff_iff, beq_iff_eq, decide_eq_true_eq]
 rw [e]
 cases h : decide ((nth r.Heads (k : Int)).Name = name) with
 | true => rw [if_pos rfl]; exact h1 h
 | false => rw [if_neg RD]; obtain ⟨i1, i2⟩ := h2 h; exact ⟨OM, i1, i2⟩
theorem F67.law (r : Repo) (Q : Bool → Prop) (hq : Q (repoOk r)) : F67.E r Q := by
 unfold F67.E
 unfold repoOk at hq
 by_cases h1 : 1 ≤ r.Commits.length
 case neg => rw [if_pos (by rw [decide_eq_true_eq]; omega)]; rw [decide_eq_false h1] at hq; exact hq
 rw [if_neg (by rw [decide_eq_true_eq]; omega)]
 by_cases h2 : r.Commits.length ≤ 14
 case neg => rw [if_pos (by rw [decide_eq_true_eq]; omega)]; rw [decide_eq_false h2, Bool.and_false] at hq; exact hq
 rw [if_neg (by rw [decide_eq_true_eq]; omega)]
 by_cases h3 : 1 ≤ r.Heads.length
 case neg => rw [if_pos (by rw [decide_eq_true_eq]; omega)]; rw [decide_eq_false h3, Bool.false_and, Bool.and_false] at hq; exact hq
 rw [if_neg (by rw [decide_eq_true_eq]; omega)]
 by_cases h4 : r.Heads.length ≤ 4
 case neg => rw [if_pos (by rw [decide_eq_true_eq]; omega)]; rw [decide_eq_false h4, Bool.and_false, Bool.and_false] at hq; exact hq
 rw [if_neg (by rw [decide_eq_true_eq]; omega)]
 rw [decide_eq_true h1, decide_eq_true h2, decide_eq_true h3, decide_eq_true h4, Bool.and_self, Bool.and_self, Bool.true_and] at hq
 refine loop_all r.Commits.length (fun k => sheetOk (nth r.Commits (k : Int)).Sheet && wordOk (nth r.Commits (k : Int)).Note && decide (findCommit r (nth r.Commits (k : Int)) = (k : Int)) && upOk (nth r.Commits (k : Int)).Up k) (fun I mu k hk hp hn => ?_) (fun ha => ?_)
 ·have bad : (sheetOk (nth r.Commits (k : Int)).Sheet && wordOk (nth r.Commits (k : Int)).Note && decide (findCommit r (nth r.Commits (k : Int)) = (k : Int)) && upOk (nth r.Commits (k : Int)).Up k) = false → Q false := fun h => by
   rw [allN_false hk h, Bool.false_and] at hq; exact hq
  refine ⟨OM, F96.law _ _ _ ?_⟩
  cases a1 : upOk (nth r.Commits (k : Int)).Up k with
  | false => rw [if_pos RD]; exact bad (by rw [a1, Bool.and_false])
  | true =>
   rw [if_neg RD]
   refine F52.law _ _ ?_
   cases a2 : sheetOk (nth r.Commits (k : Int)).Sheet with
   | false => rw [if_pos RD]; exact bad (by rw [a2]; rfl)
   | true =>
    rw [if_neg RD]
    refine F56.law _ _ ?_
    cases a3 : wordOk (nth r.Commits (k : Int)).Note with
    | false => rw [if_pos RD]; exact bad (by rw [a3, Bool.and_false]; rfl)
    | true =>
     rw [if_neg RD]
     refine F66.law _ _ _ ?_
     by_cases a4 : findCommit r (nth r.Commits (k : Int)) = (k : Int)
     ·rw [if_neg (by rw [bne_iff_ne]; exact fun h => h a4)]
      obtain ⟨i1, i2⟩ := hn (by rw [a1, a2, a3, decide_eq_true a4]; rfl)
      exact ⟨OM, i1, i2⟩
     ·rw [if_pos (by rw [bne_iff_ne]; exact a4)]
      exact bad (by rw [decide_eq_false a4, Bool.and_false]; rfl)
 ·rw [allN_true ha, Bool.true_and] at hq
  refine loop_all r.Heads.length (fun k => wordOk (nth r.Heads (k : Int)).Name && decide (findHead r (nth r.Heads (k : Int)).Name = (k : Int)) && (decide (0 ≤ (nth r.Heads (k : Int)).At) && decide ((nth r.Heads (k : Int)).At < (r.Commits.length : Int)))) (fun I mu k hk hp hn => ?_) (fun ha => ?_)
  ·have bad : (wordOk (nth r.Heads (k : Int)).Name && decide (findHead r (nth r.Heads (k : Int)).Name = (k : Int)) && (decide (0 ≤ (nth r.Heads (k : Int)).At) && decide ((nth r.Heads (k : Int)).At < (r.Commits.length : Int)))) = false → Q false := fun h => by
    rw [allN_false hk h] at hq; exact hq
   refine ⟨OM, F56.law _ _ ?_⟩
   cases a1 : wordOk (nth r.Heads (k : Int)).Name with
   | false => rw [if_pos RD]; exact bad (by rw [a1]; rfl)
   | true =>
    rw [if_neg RD]
    refine F59.law _ _ _ ?_
    by_cases a2 : findHead r (nth r.Heads (k : Int)).Name = (k : Int)
    ·rw [if_neg (by rw [bne_iff_ne]; exact fun h => h a2)]
     by_cases a3 : 0 ≤ (nth r.Heads (k : Int)).At
     ·rw [if_neg (by rw [decide_eq_true_eq]; omega)]
      by_cases a4 : (nth r.Heads (k : Int)).At < (r.Commits.length : Int)
      ·rw [if_neg (by rw [decide_eq_true_eq]; omega)]
       obtain ⟨i1, i2⟩ := hn (by rw [a1, decide_eq_true a2, decide_eq_true a3, decide_eq_true a4]; rfl)
       exact ⟨OM, i1, i2⟩
      ·rw [if_pos (by rw [decide_eq_true_eq]; omega)]
       exact bad (by rw [decide_eq_false a4, Bool.and_false, Bool.and_false])
     ·rw [if_pos (by rw [decide_eq_true_eq]; omega)]
      exact bad (by rw [decide_eq_false a3, Bool.false_and, Bool.and_false])
    ·rw [if_pos (by rw [bne_iff_ne]; exact a2)]
     exact bad (by rw [decide_eq_false a2, Bool.and_false]; rfl)
  ·rw [allN_true ha] at hq; exact hq
theorem F98.law (r : Repo) (k : Int) (Q : Bool → Prop) (hq : Q (verIn r k)) : F98.E r k Q := by
 unfold F98.E
 unfold verIn at hq
 refine F67.law _ _ ?_
 cases h : repoOk r with
 | false => rw [h] at hq; rw [if_neg RD]; exact hq
 | true =>
  rw [h, Bool.true_and] at hq; rw [if_pos rfl]
  by_cases h1 : 0 ≤ k
  ·rw [decide_eq_true h1, Bool.true_and] at hq; rw [if_pos (by rw [decide_eq_true_eq]; exact h1)]; exact hq
  ·rw [decide_eq_false h1, Bool.false_and] at hq; rw [if_neg (by rw [decide_eq_true_eq]; exact h1)]; exact hq
theorem F55.law (r : Repo) (b : Nat) (Q : List Bool → Prop) (hr : repoOk r = true) (hb : b < r.Commits.length) (hq : Q (pastOf r b)) : F55.E r [(b : Int)] Q := by
 unfold F55.E
 have hc := repoOk_len hr
 simp only [Int.toNat_natCast]
 refine ⟨OM, ?_⟩
 refine ⟨fun xs i => (i = 0 ∧ xs = List.replicate r.Commits.length false) ∨ (i = 1 ∧ xs = (List.replicate r.Commits.length false).set b true), fun _ i => (1 - i).toNat, .inl ⟨rfl, rfl⟩, ?_⟩
 rintro xs _ (⟨rfl, rfl⟩ | ⟨rfl, rfl⟩)
 ·rw [if_pos (by simp)]
  have e : nth [(b : Int)] 0 = (b : Int) := rfl
  rw [e, Int.toNat_natCast]
  exact ⟨⟨OM, by simp⟩, ⟨OM, by simp; omega⟩, OM, .inr ⟨rfl, rfl⟩, by dsimp only; omega⟩
 rw [if_neg (by simp)]
 refine ⟨fun _ _ => by unfold I64; omega, ?_⟩
 refine ⟨fun xs k => ∃ j : Nat, k = (j : Int) - 1 ∧ j ≤ r.Commits.length ∧ xs.length = r.Commits.length ∧ back r j xs = pastOf r b, fun _ k => (k + 1).toNat, ⟨r.Commits.length, rfl, Nat.le_refl _, by simp, pastOf_all r hb⟩, ?_⟩
 rintro xs _ ⟨j, rfl, hj, hx, hbk⟩
 by_cases h0 : (j : Int) - 1 ≥ 0
 ·rw [if_pos (by rw [decide_eq_true_eq]; exact h0)]
  obtain ⟨i, rfl⟩ : ∃ i, j = i + 1 := ⟨j - 1, OM⟩
  have ei : ((i + 1 : Nat) : Int) - 1 = (i : Int) := by omega
  rw [ei]
  rw [back] at hbk
  have hu := repoOk_up hr (k := i) OM
  generalize (nth r.Commits (i : Int)).Up = up at *
  refine ⟨fun ys v => ∃ u : Nat, v = u ∧ u ≤ up.length ∧ ys = (if nth xs (i : Int) then stepUp (up.take u) xs else xs) ∧ (nth xs (i : Int) = false → u = 0), fun _ v => (up.length - v).toNat, ⟨0, rfl, Nat.zero_le _, by split <;> rfl, fun _ => rfl⟩, ?_⟩
  rintro ys _ ⟨u, rfl, hu', hy, hz⟩
  have hyl : ys.length = r.Commits.length := by rw [hy]; split <;> simp [stepUp_len, hx]
  have hyn : nth ys (i : Int) = nth xs (i : Int) := by
   rw [hy]; split
   ·exact stepUp_nth _ _ _ fun x hxm => by have := hu x (List.mem_of_mem_take hxm); omega
   ·rfl
  refine ⟨OM, ?_⟩
  by_cases h1 : (u : Int) < (up.length : Int)
  ·rw [if_pos (by rw [decide_eq_true_eq]; exact h1)]
   refine ⟨OM, ?_⟩
   rw [hyn]
   cases hn : nth xs (i : Int) with
   | true =>
    rw [if_pos rfl]
    rw [hn, if_pos rfl] at hy
    have hm := hu _ (nth_mem up (show u < up.length by omega))
    exact ⟨OM, OM, OM, OM, ⟨u + 1, OM, OM, by rw [if_pos rfl, hy]; exact (stepUp_take up xs OM).symm, fun h => (by cases h)⟩, by dsimp only; omega⟩
   | false =>
    rw [if_neg RD]
    rw [hn, if_neg RD] at hbk hy
    exact ⟨fun _ => by unfold I64; omega, ⟨i, rfl, OM, hyl, by rw [hy]; exact hbk⟩, by dsimp only; omega⟩
  ·rw [if_neg (by rw [decide_eq_true_eq]; exact h1)]
   have hul : u = up.length := by omega
   refine ⟨fun _ => by unfold I64; omega, ⟨i, rfl, OM, hyl, ?_⟩, by dsimp only; omega⟩
   rw [hy, hul, List.take_length]; exact hbk
 ·rw [if_neg (by rw [decide_eq_true_eq]; exact h0)]
  have : j = 0 := by omega
  subst this
  rw [back] at hbk
  rw [hbk]; exact hq
theorem F38.law (r : Repo) (a b : Int) (Q : List Int → Prop) (hq : Q (basesL r a b)) : F38.E r a b Q := by
 unfold F38.E
 refine F98.law _ _ _ (iteB (fun h => ?_) fun h => F98.law _ _ _ (iteB (fun g => ?_) fun g => ?_))
 ·have e : basesL r a b = [] := by unfold basesL; rw [show verIn r a = false by simpa using h]; rfl
  rw [← e]; exact hq
 ·have e : basesL r a b = [] := by unfold basesL; rw [show verIn r b = false by simpa using g, Bool.and_false]; rfl
  rw [← e]; exact hq
 have va : verIn r a = true := by simpa using h
 have vb : verIn r b = true := by simpa using g
 obtain ⟨ho, g1⟩ := ver_of va
 have g2 := (ver_of vb).2
 obtain ⟨A, rfl⟩ := Int.eq_ofNat_of_zero_le g1.1
 obtain ⟨B, rfl⟩ := Int.eq_ofNat_of_zero_le g2.1
 have hA : A < r.Commits.length := by omega
 have hB : B < r.Commits.length := by omega
 have h14 := repoOk_len ho
 have e : basesL r (A : Int) (B : Int) = told (baseM r A B) r.Commits.length := by unfold basesL; rw [va, vb]; rfl
 rw [e] at hq
 have l1 := pastOf_len r A
 have l2 := pastOf_len r B
 refine F55.law _ _ _ ho hA (F55.law _ _ _ ho hB ⟨OM, fun _ => by unfold I64; omega, ?_⟩)
 refine ⟨fun xs X Y D z => X = pastOf r A ∧ Y = pastOf r B ∧ D.length = r.Commits.length ∧ ∃ j : Nat, z = (j : Int) - 1 ∧ j ≤ r.Commits.length ∧ xs ++ told (baseM r A B) j = told (baseM r A B) r.Commits.length ∧ xs.length ≤ r.Commits.length - j ∧
   ∀ k : Nat, k < j → (nth D (k : Int) = true ↔ ∃ i : Nat, j ≤ i ∧ i < r.Commits.length ∧ com r A B i = true ∧ (k : Int) ∈ (nth r.Commits (i : Int)).Up),
  fun _ _ _ _ z => (z + 1).toNat, ⟨rfl, rfl, by rw [List.length_replicate]; omega, r.Commits.length, rfl, Nat.le_refl _, rfl, by simp, fun k hk => ?_⟩, ?_⟩
 ·rw [nth_rep _ _ _ OM]
  constructor
  ·intro h; cases h
  ·rintro ⟨i, h1, h2, _⟩; omega
 rintro xs _ _ D _ ⟨rfl, rfl, hD, j, rfl, hj, hd, hn, hx⟩
 by_cases h : j = 0
 ·subst h
  rw [if_neg RD]
  rw [show told (baseM r A B) 0 = [] from rfl, List.append_nil] at hd
  rw [hd]; exact hq
 obtain ⟨i, rfl⟩ : ∃ i, j = i + 1 := ⟨j - 1, OM⟩
 rw [show ((i + 1 : Nat) : Int) - 1 = (i : Int) by omega]
 rw [if_pos (by rw [decide_eq_true_eq]; omega)]
 have hi : i < r.Commits.length := by omega
 have hI : I64 ((i : Int) - 1) := by unfold I64; omega
 have hup := repoOk_up ho hi
 -- what is done, one further
 have more : ∀ D' : List Bool, (com r A B i = false ∧ D' = D ∨ com r A B i = true ∧ D' = stepUp (nth r.Commits (i : Int)).Up D) → ∀ k : Nat, k < i → (nth D' (k : Int) = true ↔ ∃ i' : Nat, i ≤ i' ∧ i' < r.Commits.length ∧ com r A B i' = true ∧ (k : Int) ∈ (nth r.Commits (i' : Int)).Up) := fun D' hD' k hk => by
  rcases hD' with ⟨hc, rfl⟩ | ⟨hc, rfl⟩
  ·rw [hx k OM]
   constructor
   ·rintro ⟨i', h1, h2⟩; exact ⟨i', OM, h2⟩
   ·rintro ⟨i', h1, h2, h3, h4⟩
    refine ⟨i', ?_, h2, h3, h4⟩
    by_cases e : i' = i
    ·rw [e, hc] at h3; cases h3
    ·omega
  ·rw [stepUp_mark _ _ (fun u hu => by have := hup u hu; omega), hx k OM]
   constructor
   ·rintro (⟨i', h1, h2⟩ | ⟨u, h1, h2⟩)
    ·exact ⟨i', OM, h2⟩
    ·have := hup u h1
     exact ⟨i, Nat.le_refl _, hi, hc, by rw [← h2, Int.toNat_of_nonneg this.1]; exact h1⟩
   ·rintro ⟨i', h1, h2, h3, h4⟩
    by_cases e : i' = i
    ·rw [e] at h4
     exact .inr ⟨(k : Int), h4, rfl⟩
    ·exact .inl ⟨i', OM, h2, h3, h4⟩
 have nc : com r A B i = false → nth (baseM r A B) (i : Int) = false := fun h => by
  cases g : nth (baseM r A B) (i : Int) with
  | false => rfl
  | true => rw [((baseM_iff hi).1 g).1] at h; cases h
 have skip : nth (baseM r A B) (i : Int) = false → xs ++ told (baseM r A B) i = told (baseM r A B) r.Commits.length := fun hm => by
  rw [told, hm, if_neg RD] at hd; exact hd
 have put : nth (baseM r A B) (i : Int) = true → (xs ++ [(i : Int)]) ++ told (baseM r A B) i = told (baseM r A B) r.Commits.length := fun hm => by
  rw [told, hm, if_pos rfl] at hd
  rw [List.append_assoc]; exact hd
 have idle : com r A B i = false → pastOf r A = pastOf r A ∧ pastOf r B = pastOf r B ∧ D.length = r.Commits.length ∧ ∃ j : Nat, (i : Int) - 1 = (j : Int) - 1 ∧ j ≤ r.Commits.length ∧ xs ++ told (baseM r A B) j = told (baseM r A B) r.Commits.length ∧ xs.length ≤ r.Commits.length - j ∧
   ∀ k : Nat, k < j → (nth D (k : Int) = true ↔ ∃ i : Nat, j ≤ i ∧ i < r.Commits.length ∧ com r A B i = true ∧ (k : Int) ∈ (nth r.Commits (i : Int)).Up) :=
  fun hc => ⟨rfl, rfl, hD, i, rfl, OM, skip (nc hc), OM, more D (.inl ⟨hc, rfl⟩)⟩
 refine ⟨OM, iteB (fun h => ⟨hI, idle ?_, by dsimp only; omega⟩) fun h1 => ⟨OM, iteB (fun h => ⟨hI, idle ?_, by dsimp only; omega⟩) fun h2 => ?_⟩⟩
 ·unfold com; rw [show nth (pastOf r A) (i : Int) = false by simpa using h]; rfl
 ·unfold com; rw [show nth (pastOf r B) (i : Int) = false by simpa using h, Bool.and_false]
 have hc : com r A B i = true := by
  unfold com
  rw [show nth (pastOf r A) (i : Int) = true by simpa using h1, show nth (pastOf r B) (i : Int) = true by simpa using h2]; rfl
 have hm : nth (baseM r A B) (i : Int) = true ↔ nth D (i : Int) = false := by
  rw [baseM_iff hi]
  have := hx i OM
  constructor
  ·rintro ⟨_, h⟩
   cases g : nth D (i : Int) with
   | false => rfl
   | true =>
    obtain ⟨i', g1, g2, g3, g4⟩ := this.1 g
    exact absurd g4 (h i' g2 g3)
  ·intro h
   refine ⟨hc, fun i' g1 g2 g3 => ?_⟩
   have g4 := repoOk_up ho g1 _ g3
   rw [this.2 ⟨i', OM, g1, g2, g3⟩] at h
   cases h
 refine ⟨OM, iteB (fun h => ⟨by simp only [List.length_cons, List.length_nil]; omega, ?_⟩) fun h => ?_⟩
 ·refine ⟨fun E k => ∃ u : Nat, k = (u : Int) ∧ u ≤ (nth r.Commits (i : Int)).Up.length ∧ E = stepUp ((nth r.Commits (i : Int)).Up.take u) D, fun _ k => (((nth r.Commits (i : Int)).Up.length : Int) - k).toNat, ⟨0, rfl, Nat.zero_le _, rfl⟩, ?_⟩
  rintro _ _ ⟨u, rfl, hu, rfl⟩
  refine ⟨OM, iteB (fun hl => ?_) fun hl => ?_⟩
  ·simp only [decide_eq_true_eq] at hl
   have hl2 : u < (nth r.Commits (i : Int)).Up.length := by omega
   have hv := hup _ (nth_mem (nth r.Commits (i : Int)).Up hl2)
   exact ⟨OM, OM, ⟨hv.1, by rw [stepUp_len]; omega⟩, OM, ⟨u + 1, OM, OM, (stepUp_take _ _ hl2).symm⟩, by dsimp only; omega⟩
  ·simp only [decide_eq_false_iff_not] at hl
   have : u = (nth r.Commits (i : Int)).Up.length := by omega
   rw [this, List.take_length]
   exact ⟨fun _ => hI, ⟨rfl, rfl, by rw [stepUp_len]; exact hD, i, rfl, OM, put (hm.2 (by simpa using h)), by rw [List.length_append, List.length_singleton]; omega, more _ (.inr ⟨hc, rfl⟩)⟩, by dsimp only; omega⟩
 ·refine ⟨fun E k => ∃ u : Nat, k = (u : Int) ∧ u ≤ (nth r.Commits (i : Int)).Up.length ∧ E = stepUp ((nth r.Commits (i : Int)).Up.take u) D, fun _ k => (((nth r.Commits (i : Int)).Up.length : Int) - k).toNat, ⟨0, rfl, Nat.zero_le _, rfl⟩, ?_⟩
  rintro _ _ ⟨u, rfl, hu, rfl⟩
  refine ⟨OM, iteB (fun hl => ?_) fun hl => ?_⟩
  ·simp only [decide_eq_true_eq] at hl
   have hl2 : u < (nth r.Commits (i : Int)).Up.length := by omega
   have hv := hup _ (nth_mem (nth r.Commits (i : Int)).Up hl2)
   exact ⟨OM, OM, ⟨hv.1, by rw [stepUp_len]; omega⟩, OM, ⟨u + 1, OM, OM, (stepUp_take _ _ hl2).symm⟩, by dsimp only; omega⟩
  ·simp only [decide_eq_false_iff_not] at hl
   have : u = (nth r.Commits (i : Int)).Up.length := by omega
   rw [this, List.take_length]
   have nm : nth (baseM r A B) (i : Int) = false := by
    cases g : nth (baseM r A B) (i : Int) with
    | false => rfl
    | true => rw [hm.1 g] at h; cases h
   exact ⟨fun _ => hI, ⟨rfl, rfl, by rw [stepUp_len]; exact hD, i, rfl, OM, skip nm, OM, more _ (.inr ⟨hc, rfl⟩)⟩, by dsimp only; omega⟩
theorem F35.law (r : Repo) (a b : Int) (Q : Bool → Prop) (hb : bulk r ≤ 1048576) (hq : Q (ahead r a b)) : F35.E r a b Q := by
 unfold F35.E
 unfold ahead verIn at hq
 refine F84.law _ _ hb ?_
 cases hr : repoOk r with
 | false => rw [hr] at hq; rw [if_neg RD]; exact hq
 | true =>
 rw [hr, Bool.true_and, Bool.true_and] at hq
 rw [if_pos rfl]
 refine F13.law _ _ _ ?_
 cases h1 : (decide (0 ≤ a) && decide (a < (r.Commits.length : Int))) with
 | false => rw [h1] at hq; rw [if_neg RD]; exact hq
 | true =>
 rw [h1, Bool.true_and] at hq; rw [if_pos rfl]
 refine F13.law _ _ _ ?_
 cases h2 : (decide (0 ≤ b) && decide (b < (r.Commits.length : Int))) with
 | false => rw [h2] at hq; rw [if_neg RD]; exact hq
 | true =>
 rw [h2, Bool.true_and] at hq; rw [if_pos rfl]
 simp only [Bool.and_eq_true, decide_eq_true_eq] at h1 h2
 obtain ⟨hb0, hb1⟩ := h2
 obtain ⟨n, rfl⟩ := Int.eq_ofNat_of_zero_le hb0
 rw [Int.toNat_natCast] at hq
 refine F34.law r n _ hr OM hb ?_
 exact ⟨by rw [pastOf_len]; omega, hq⟩
theorem F48.law (name : Str) (Q : Repo → Bool → Prop) (hw : wordOk name = true) (hq : Q ⟨[⟨[], [], [98, 101, 103, 105, 110]⟩], [⟨name, 0⟩]⟩ true) : F48.E name Q := by
 unfold F48.E
 refine F56.law _ _ ?_
 rw [hw]
 exact hq
theorem ediv_le {p l : Int} (hp : 0 ≤ p) (hl : 0 < l) : 0 ≤ p / l ∧ p / l ≤ p := ⟨Int.ediv_nonneg hp OM, Int.ediv_le_self _ hp⟩
theorem F22.law (b : List UInt8) (p n : Int) (Q : Int → Int → Prop) (hb : b.length ≤ 2000) (hp : 0 ≤ p) (hp1 : p ≤ 1099511627776) (hq : ∀ v, 0 ≤ v → (v < n ∨ v = 0) → Q v (p + 1)) : F22.E b p n Q := by
 unfold F22.E
 refine ⟨by unfold I64; omega, ?_⟩
 by_cases hn : n < 1
 ·rw [if_pos (by simpa using hn)]; exact hq 0 OM (.inr rfl)
 rw [if_neg (by simpa using hn)]
 by_cases hl : (b.length : Int) = 0
 ·rw [if_pos (by simpa using hl)]; exact hq 0 OM (.inr rfl)
 rw [if_neg (by simpa using hl)]
 refine ⟨fun _ => by unfold I64; omega, ?_⟩
 rw [show p + 1 - 1 = p by omega]
 have fin : ∀ z : Int, 0 ≤ z → Q (z % n) (p + 1) := fun z hz => hq _ (Int.emod_nonneg _ OM) (.inl (Int.emod_lt_of_pos _ OM))
 by_cases hc : p < (b.length : Int)
 ·rw [if_pos (by simpa using hc)]
  exact ⟨OM, ⟨OM, OM⟩, fin _ OM⟩
 rw [if_neg (by simpa using hc)]
 have hlen : (0 : Int) < (b.length : Int) := by omega
 generalize hL : (b.length : Int) = L at *
 have m1 := Int.emod_nonneg p (show L ≠ 0 by omega)
 have m2 := Int.emod_lt_of_pos p hlen
 have m3 := Int.emod_nonneg (p * 7 + 3) (show L ≠ 0 by omega)
 have m4 := Int.emod_lt_of_pos (p * 7 + 3) hlen
 obtain ⟨d1, d2⟩ := ediv_le hp hlen
 generalize p % L = r1 at *
 generalize (p * 7 + 3) % L = r2 at *
 generalize p / L = q at *
 have u1 := (nth b r1).toNat_lt
 have u2 := (nth b r2).toNat_lt
 generalize (nth b r1).toNat = x1 at *
 generalize (nth b r2).toNat = x2 at *
 have s0 : 0 ≤ (x1 : Int) * 131 + (x2 : Int) * 1117 + p * 29 + q * 53 := by omega
 have s1 : (x1 : Int) * 131 + (x2 : Int) * 1117 + p * 29 + q * 53 ≤ 9223372036854775807 := by omega
 refine ⟨OM, OM, fun _ => by unfold I64; omega, fun _ => by unfold I64; omega, fun _ => by unfold I64; omega, OM, OM, fun _ => by unfold I64; omega, fun _ => by unfold I64; omega, fun _ => by unfold I64; omega, fun _ => by unfold I64; omega, OM, fun _ => by unfold I64; omega, fun _ => by unfold I64; omega, OM, ?_⟩
 generalize (x1 : Int) * 131 + (x2 : Int) * 1117 + p * 29 + q * 53 = s at *
 have hx : 0 ≤ xor64 s (s / 64) := xor64_nonneg ⟨s0, s1⟩ OM
 exact ⟨OM, fin _ hx⟩
theorem F28.law (b : List UInt8) (p : Int) (l : List Int) (Q : Int → Int → Prop) (hb : b.length ≤ 2000) (hp : 0 ≤ p) (hp1 : p ≤ 1099511627776) (hl : 0 < l.length) (hq : ∀ s ∈ l, Q s (p + 1)) : F28.E b p l Q := by
 unfold F28.E
 exact F22.law _ _ _ _ hb hp hp1 fun v h0 h1 => ⟨OM, hq _ (nth_memi l h0 OM)⟩
theorem F95.law (b : List UInt8) (p : Int) (Q : Pt → Int → Prop) (hb : b.length ≤ 2000) (hp : 0 ≤ p) (hp1 : p ≤ 1000000000) (hq : ∀ x y, 0 ≤ x → x ≤ 3 → 0 ≤ y → y ≤ 5 → Q ⟨x, y⟩ (p + 2)) : F95.E b p Q := by
 unfold F95.E
 refine F22.law _ _ _ _ hb hp OM fun v h0 h1 => F28.law _ _ _ _ hb OM OM RD fun y hy => ?_
 rw [show p + 1 + 1 = p + 2 by omega]
 simp only [List.mem_cons, List.not_mem_nil, or_false] at hy
 exact hq _ _ h0 OM OM OM
theorem F85.m_is (a b : Int) : F85.m a b = min a b := by
 unfold F85.m
 by_cases h : a < b
 ·simp [h]; omega
 ·simp [h]; omega
theorem F50.law (b : List UInt8) (p : Int) (Q : Shape → Int → Prop) (hb : b.length ≤ 2000) (hp : 0 ≤ p) (hp1 : p ≤ 100000000) (hq : ∀ s p', shapeOk s = true → (∀ q ∈ s.Pts, NX q) → p ≤ p' → p' ≤ p + 40 → Q s p') : F50.E b p Q := by
 unfold F50.E
 refine F28.law _ _ _ _ hb hp OM RD fun k hk => F22.law _ _ _ _ hb OM OM fun v hv0 hv1 => ?_
 have hk' : 1 ≤ k ∧ k ≤ 3 := by
  simp only [List.mem_cons, List.not_mem_nil, or_false] at hk; omega
 have fin : ∀ (xs : List Pt) (z : Int), (∀ q ∈ xs, NX q) → p ≤ z → z ≤ p + 30 → F49.E ⟨k, xs⟩ (fun r6 => (if !r6 then F95.E b z (fun r7 m4 => Q (⟨1, ([r7] : List Pt)⟩ : Shape) m4) else Q (⟨k, xs⟩ : Shape) z)) := fun xs z hx h1 h2 => by
  refine F49.law _ _ ?_
  cases h : shapeOk ⟨k, xs⟩ with
  | true => rw [if_neg RD]; exact hq _ _ h hx h1 OM
  | false => rw [if_pos RD]; exact F95.law _ _ _ hb OM OM fun x y x0 x1 y0 y1 => hq _ _ (dot_ok x0 OM y0 y1) (fun q hq' => by rw [List.mem_singleton.1 hq']; exact .of x1) OM OM
 refine ⟨by unfold I64; omega, fun w => 1 ≤ w ∧ w ≤ 6, by split <;> omega, ?_⟩
 rintro want ⟨w1, w2⟩
 refine ⟨fun i xs z => 0 ≤ i ∧ i ≤ 12 ∧ (xs.length : Int) ≤ i ∧ (∀ q ∈ xs, NX q) ∧ p + 2 ≤ z ∧ z ≤ p + 2 + 2 * i, fun i _ _ => (12 - i).toNat, ⟨OM, OM, by simp, by simp, OM, OM⟩, ?_⟩
 rintro i xs z ⟨h0, h1, h2, hx, h3, h4⟩
 by_cases hi : i < 12
 case neg => rw [if_neg (by simpa using hi)]; exact fin _ _ hx OM OM
 rw [if_pos (by simpa using hi)]
 by_cases hl : (xs.length : Int) < F85.m want 6
 case neg => rw [if_neg (by simpa using hl)]; exact fin _ _ hx OM OM
 rw [if_pos (by simpa using hl)]
 refine F95.law _ _ _ hb OM OM fun x y x0 x1 y0 y1 => ⟨fun _ => True, ?_, fun v _ => ⟨fun ys => (ys.length : Int) ≤ i + 1 ∧ ∀ q ∈ ys, NX q, ?_, fun ys hys => ⟨by unfold I64; omega, ⟨OM, OM, hys.1, hys.2, OM, OM⟩, by dsimp only; omega⟩⟩⟩
 ·by_cases h0 : (xs.length : Int) = 0
  ·rw [if_pos (by simpa using h0)]; trivial
  ·rw [if_neg (by simpa using h0)]
   refine ⟨fun _ => by unfold I64; omega, OM, ?_⟩
   split
   ·split
    ·trivial
    ·exact ⟨OM, trivial⟩
   ·trivial
 ·cases v with
  | true => rw [if_pos rfl]; exact ⟨by simp only [List.length_cons, List.length_nil]; omega, by simp only [List.length_append, List.length_cons, List.length_nil]; omega, fun q hq' => (List.mem_append.1 hq').elim (hx q) fun g => by rw [List.mem_singleton.1 g]; exact .of x1⟩
  | false => rw [if_neg RD]; exact ⟨OM, hx⟩
theorem F39.law (b : List UInt8) (p : Int) (l : List Str) (Q : Str → Int → Prop) (hb : b.length ≤ 2000) (hp : 0 ≤ p) (hp1 : p ≤ 1099511627776) (hl : 0 < l.length) (hq : ∀ s ∈ l, Q s (p + 1)) : F39.E b p l Q := by
 unfold F39.E
 exact F22.law _ _ _ _ hb hp hp1 fun v h0 h1 => ⟨OM, hq _ (nth_memi l h0 OM)⟩
theorem F88.law (b : List UInt8) (p : Int) (Q : Str → Int → Prop) (hb : b.length ≤ 2000) (hp : 0 ≤ p) (hp1 : p ≤ 1000000000) (hq : ∀ k ∈ keyL, Q k (p + 1)) : F88.E b p Q := by
 unfold F88.E
 exact F39.law _ _ _ _ hb hp OM RD hq
theorem F89.law (b : List UInt8) (p : Int) (Q : Str → Int → Prop) (hb : b.length ≤ 2000) (hp : 0 ≤ p) (hp1 : p ≤ 1000000000) (hq : ∀ k ∈ valL, Q k (p + 1)) : F89.E b p Q := by
 unfold F89.E
 exact F39.law _ _ _ _ hb hp OM RD hq
def PutT (s : List Tag) (key val : Str) (u : Nat) (xs : List Tag) (done : Bool) : Prop :=
 u ≤ s.length ∧ SS (keysT xs) ∧ (∀ x, x ∈ keysT xs ↔ x ∈ keysT (s.take u) ∨ (done = true ∧ x = key)) ∧ (done = false → (∀ x ∈ keysT (s.take u), Op.bytesLess x key = true) ∧ xs = s.take u) ∧
  (done = true → ∀ y ∈ keysT (s.drop u), Op.bytesLess key y = true) ∧ xs.length ≤ u + 1 ∧ (∀ z ∈ xs, z ∈ s ∨ z = ⟨key, val⟩)
theorem ss_snocT {l : List Str} {x : Str} (h : SS l) (hx : ∀ y ∈ l, Op.bytesLess y x = true) : SS (l ++ [x]) := by
 unfold SS
 rw [List.pairwise_append]
 exact ⟨h, List.pairwise_singleton _ _, fun a ha b hb => by rw [List.mem_singleton.1 hb]; exact hx a ha⟩
theorem keys_take {s : List Tag} {u : Nat} (hu : u < s.length) : keysT (s.take (u + 1)) = keysT (s.take u) ++ [(nth s (u : Int)).Key] := by rw [take_nth s hu, keys_app]; rfl
theorem keys_cut (s : List Tag) (u : Nat) : keysT s = keysT (s.take u) ++ keysT (s.drop u) := by rw [← keys_app, List.take_append_drop]
theorem dropNthT {s : List Tag} {u : Nat} (hu : u < s.length) : s.drop u = nth s (u : Int) :: s.drop (u + 1) := by rw [nth_nat s hu]; exact List.drop_eq_getElem_cons hu
theorem ss_ltT {s : List Tag} (h : SS (keysT s)) {u : Nat} (hu : u < s.length) : (∀ x ∈ keysT (s.take u), Op.bytesLess x (nth s (u : Int)).Key = true) ∧ ∀ y ∈ keysT (s.drop (u + 1)), Op.bytesLess (nth s (u : Int)).Key y = true := by
 have e := keys_cut s u
 rw [dropNthT hu] at e
 have e2 : keysT (nth s (u : Int) :: s.drop (u + 1)) = (nth s (u : Int)).Key :: keysT (s.drop (u + 1)) := rfl
 rw [e2] at e
 rw [e] at h
 obtain ⟨h1, h2, h3⟩ := List.pairwise_append.1 h
 exact ⟨fun x hx => h3 x hx _ List.mem_cons_self, (List.pairwise_cons.1 h2).1⟩
theorem F90.law (s : List Tag) (key val : Str) (Q : List Tag → Prop) (hl : s.length ≤ 1048576) (hs : SS (keysT s)) (hq : ∀ r, SS (keysT r) → (∀ x, x ∈ keysT r ↔ x ∈ keysT s ∨ x = key) → r.length ≤ s.length + 1 → (∀ z ∈ r, z ∈ s ∨ z = ⟨key, val⟩) → Q r) : F90.E s key val Q := by
 unfold F90.E
 refine ⟨fun xs done i => ∃ u : Nat, i = u ∧ PutT s key val u xs done, fun _ _ i => (s.length - i).toNat, ⟨0, rfl, Nat.zero_le _, by simp [keysT, SS], by simp [keysT], fun _ => ⟨by simp [keysT], by simp⟩, (fun h => by cases h), by simp, by simp⟩, ?_⟩
 rintro xs done _ ⟨u, rfl, hu, h1, h2, h3, h4, h5, h6⟩
 by_cases h : u < s.length
 ·rw [if_pos (by simpa using h)]
  obtain ⟨b1, b2⟩ := ss_ltT hs h
  have hin : nth s (u : Int) ∈ s := nth_mem s h
  have hdr : ∀ y ∈ keysT (s.drop u), y = (nth s (u : Int)).Key ∨ y ∈ keysT (s.drop (u + 1)) := fun y hy => by rw [dropNthT h] at hy; exact List.mem_cons.1 hy
  have hcur : (nth s (u : Int)).Key ∈ keysT (s.drop u) := by rw [dropNthT h]; exact List.mem_cons_self
  have hdr' : ∀ y ∈ keysT (s.drop (u + 1)), y ∈ keysT (s.drop u) := fun y hy => by rw [dropNthT h]; exact List.mem_cons_of_mem _ hy
  have stay : ∀ d, d = done → Op.bytesLess (nth s (u : Int)).Key key = true ∨ d = true → xs.length + 1 ≤ u + 1 + 1 → PutT s key val (u + 1) (xs ++ [nth s (u : Int)]) d := fun d hd hor hlen => by
   subst hd
   refine ⟨h, ?_, fun x => ?_, fun hdn => ⟨fun x hx => ?_, ?_⟩, fun hdn y hy => h4 hdn y (hdr' y hy), by simp only [List.length_append, List.length_singleton]; omega, fun z hz => ?_⟩
   ·rw [keys_app]
    refine ss_snocT h1 fun y hy => ?_
    rcases (h2 y).1 hy with hy | ⟨hd, rfl⟩
    ·exact b1 y hy
    ·exact h4 hd _ hcur
   ·rw [keys_app, List.mem_append, h2, keys_take h, List.mem_append]
    constructor
    ·rintro ((hx | hx) | hx)
     ·exact .inl (.inl hx)
     ·exact .inr hx
     ·exact .inl (.inr hx)
    ·rintro ((hx | hx) | hx)
     ·exact .inl (.inl hx)
     ·exact .inr hx
     ·exact .inl (.inr hx)
   ·rw [keys_take h] at hx
    rcases List.mem_append.1 hx with hx | hx
    ·exact (h3 hdn).1 x hx
    ·rw [List.mem_singleton.1 hx]
     rcases hor with hor | hor
     ·exact hor
     ·rw [hdn] at hor; cases hor
   ·rw [(h3 hdn).2, ← take_nth s h]
   ·rcases List.mem_append.1 hz with hz | hz
    ·exact h6 z hz
    ·rw [List.mem_singleton.1 hz]; exact .inl hin
  cases done with
  | true =>
   rw [if_neg RD]
   have hlt := h4 rfl _ hcur
   have hne : (nth s (u : Int)).Key ≠ key := fun e => by rw [e, less_irr] at hlt; cases hlt
   refine ⟨OM, ?_⟩
   rw [if_pos (by rw [bne_iff_ne]; exact hne)]
   exact ⟨OM, by simp only [List.length_cons, List.length_nil]; omega, OM, ⟨u + 1, OM, stay true rfl (.inr rfl) OM⟩, by dsimp only; omega⟩
  | false =>
   rw [if_pos RD]
   obtain ⟨c1, c2⟩ := h3 rfl
   have hxl : xs.length = u := by rw [c2, List.length_take]; omega
   refine ⟨OM, ?_⟩
   cases k : Op.bytesLess (nth s (u : Int)).Key key with
   | true =>
    rw [if_neg RD]
    have hne : (nth s (u : Int)).Key ≠ key := fun e => by rw [e, less_irr] at k; cases k
    refine ⟨OM, ?_⟩
    rw [if_pos (by rw [bne_iff_ne]; exact hne)]
    exact ⟨OM, by simp only [List.length_cons, List.length_nil]; omega, OM, ⟨u + 1, OM, stay false rfl (.inl k) OM⟩, by dsimp only; omega⟩
   | false =>
    rw [if_pos RD]
    have g1 : SS (keysT (xs ++ [(⟨key, val⟩ : Tag)])) := by
     rw [keys_app]
     refine ss_snocT h1 fun y hy => ?_
     rcases (h2 y).1 hy with hy | ⟨hd, _⟩
     ·exact c1 y hy
     ·cases hd
    refine ⟨by simp only [List.length_cons, List.length_nil]; omega, OM, ?_⟩
    by_cases hne : (nth s (u : Int)).Key = key
    ·rw [if_neg (by rw [hne]; simp)]
     refine ⟨OM, ⟨u + 1, OM, h, g1, fun x => ?_, (fun hd => by cases hd), fun _ y hy => by rw [← hne]; exact b2 y hy, by simp only [List.length_append, List.length_singleton]; omega, fun z hz => ?_⟩, by dsimp only; omega⟩
     ·rw [keys_app, List.mem_append, h2, keys_take h, List.mem_append, hne]
      show _ ∨ x ∈ [key] ↔ _
      rw [List.mem_singleton]
      constructor
      ·rintro ((hx | ⟨hd, _⟩) | hx)
       ·exact .inl (.inl hx)
       ·cases hd
       ·exact .inr ⟨rfl, hx⟩
      ·rintro ((hx | hx) | ⟨_, hx⟩)
       ·exact .inl (.inl hx)
       ·exact .inr hx
       ·exact .inr hx
     ·rcases List.mem_append.1 hz with hz | hz
      ·exact h6 z hz
      ·exact .inr (List.mem_singleton.1 hz)
    ·rw [if_pos (by rw [bne_iff_ne]; exact hne)]
     have hlt : Op.bytesLess key (nth s (u : Int)).Key = true := by
      rcases less_or k with g | g
      ·exact g
      ·exact absurd g.symm hne
     refine ⟨OM, by simp only [List.length_append, List.length_cons, List.length_nil]; omega, OM, ⟨u + 1, OM, h, ?_, fun x => ?_, (fun hd => by cases hd), fun _ y hy => less_trans hlt (b2 y hy), by simp only [List.length_append, List.length_singleton]; omega, fun z hz => ?_⟩, by dsimp only; omega⟩
     ·rw [keys_app]
      refine ss_snocT g1 fun y hy => ?_
      rw [keys_app] at hy
      rcases List.mem_append.1 hy with hy | hy
      ·rcases (h2 y).1 hy with hy | ⟨hd, _⟩
       ·exact b1 y hy
       ·cases hd
      ·have hy : y = key := List.mem_singleton.1 hy
       rw [hy]; exact hlt
     ·rw [keys_app, keys_app, List.mem_append, List.mem_append, h2, keys_take h, List.mem_append]
      show (_ ∨ x ∈ [key]) ∨ x ∈ [(nth s (u : Int)).Key] ↔ _
      rw [List.mem_singleton, List.mem_singleton]
      constructor
      ·rintro (((hx | ⟨hd, _⟩) | hx) | hx)
       ·exact .inl (.inl hx)
       ·cases hd
       ·exact .inr ⟨rfl, hx⟩
       ·exact .inl (.inr hx)
      ·rintro ((hx | hx) | ⟨_, hx⟩)
       ·exact .inl (.inl (.inl hx))
       ·exact .inr hx
       ·exact .inl (.inr hx)
     ·rcases List.mem_append.1 hz with hz | hz
      ·rcases List.mem_append.1 hz with hz | hz
       ·exact h6 z hz
       ·exact .inr (List.mem_singleton.1 hz)
      ·rw [List.mem_singleton.1 hz]; exact .inl hin
 ·rw [if_neg (by simpa using h)]
  have : u = s.length := by omega
  subst this
  rw [List.take_length] at h2 h3
  cases done with
  | true =>
   rw [if_neg RD]
   exact hq xs h1 (fun x => by rw [h2]; simp) h5 h6
  | false =>
   rw [if_pos RD]
   obtain ⟨c1, c2⟩ := h3 rfl
   refine ⟨by simp only [List.length_cons, List.length_nil]; omega, hq _ ?_ (fun x => ?_) (by rw [c2]; simp) fun z hz => ?_⟩
   ·rw [keys_app]
    refine ss_snocT h1 fun y hy => ?_
    rcases (h2 y).1 hy with hy | ⟨hd, _⟩
    ·exact c1 y hy
    ·cases hd
   ·rw [keys_app, List.mem_append, h2]
    show _ ∨ x ∈ [key] ↔ _
    rw [List.mem_singleton]; simp
   ·rcases List.mem_append.1 hz with hz | hz
    ·exact h6 z hz
    ·exact .inr (List.mem_singleton.1 hz)
theorem keys_drawn {s : List Tag} {k v : Str} (hk : k ∈ keyL) (hv : v ∈ valL) (h : ∀ x ∈ s, DT x) {r : List Tag} (hr : ∀ z ∈ r, z ∈ s ∨ z = ⟨k, v⟩) : ∀ x ∈ r, DT x := fun x hx => by
 rcases hr x hx with g | rfl
 ·exact h x g
 ·exact ⟨hk, hv⟩
theorem F57.law (b : List UInt8) (p : Int) (id : Str) (Q : Feat → Int → Prop) (hb : b.length ≤ 2000) (hp : 0 ≤ p) (hp1 : p ≤ 10000000) (hq : ∀ s t p', shapeOk s = true → SS (keysT t) → t.length ≤ 3 → (∀ x ∈ t, DT x) → (∀ q ∈ s.Pts, NX q) → p ≤ p' → p' ≤ p + 60 → Q ⟨id, s, t⟩ p') : F57.E b p id Q := by
 unfold F57.E
 refine F50.law _ _ _ hb hp OM fun s p1 hs hx p0 p2 => F22.law _ _ _ _ hb OM OM fun k hk0 hk1 => ?_
 refine ⟨fun i t z => 0 ≤ i ∧ i ≤ 3 ∧ SS (keysT t) ∧ (t.length : Int) + i ≤ 3 ∧ (∀ x ∈ t, DT x) ∧ p ≤ z ∧ z ≤ p + 41 + 2 * (3 - i), fun i _ _ => i.toNat, ⟨OM, OM, List.Pairwise.nil, by simp only [List.length_nil]; omega, by simp, OM, OM⟩, ?_⟩
 rintro i t z ⟨h0, h1, h2, h3, h4, h5, h6⟩
 by_cases hi : i > 0
 case neg => rw [if_neg (by simpa using hi)]; exact hq _ _ _ hs h2 OM h4 hx h5 OM
 rw [if_pos (by simpa using hi)]
 refine F88.law _ _ _ hb OM OM fun key hkey => F89.law _ _ _ hb OM OM fun val hval => F90.law _ _ _ _ OM h2 fun r r1 r2 r3 r4 => ⟨by unfold I64; omega, ⟨OM, OM, r1, OM, keys_drawn hkey hval h4 r4, OM, OM⟩, by dsimp only; omega⟩
theorem feat_drawn {id : Str} {s : Shape} {t : List Tag} (h1 : wordOk id = true) (h2 : shapeOk s = true) (h3 : SS (keysT t)) (h4 : t.length ≤ 3) (h5 : ∀ x ∈ t, DT x) : featOk ⟨id, s, t⟩ = true := feat_of h1 h2 h3 OM fun x hx => (h5 x hx).ok
theorem F94.law (b : List UInt8) (p : Int) (Q : Str → Int → Prop) (hb : b.length ≤ 2000) (hp : 0 ≤ p) (hp1 : p ≤ 1000000000) (hq : ∀ k ∈ idL, Q k (p + 1)) : F94.E b p Q := by
 unfold F94.E
 exact F39.law _ _ _ _ hb hp OM RD hq
def PutS (s : List Feat) (f : Feat) (u : Nat) (xs : List Feat) (done : Bool) : Prop :=
 u ≤ s.length ∧ SS (ids xs) ∧ (∀ x, x ∈ ids xs ↔ x ∈ ids (s.take u) ∨ (done = true ∧ x = f.Id)) ∧ (done = false → (∀ x ∈ ids (s.take u), Op.bytesLess x f.Id = true) ∧ xs = s.take u) ∧
  (done = true → ∀ y ∈ ids (s.drop u), Op.bytesLess f.Id y = true) ∧ xs.length ≤ u + 1 ∧ (∀ z ∈ xs, z ∈ s ∨ z = f)
theorem ss_snoc {l : List Str} {x : Str} (h : SS l) (hx : ∀ y ∈ l, Op.bytesLess y x = true) : SS (l ++ [x]) := by
 unfold SS
 rw [List.pairwise_append]
 exact ⟨h, List.pairwise_singleton _ _, fun a ha b hb => by rw [List.mem_singleton.1 hb]; exact hx a ha⟩
theorem ids_take {s : List Feat} {u : Nat} (hu : u < s.length) : ids (s.take (u + 1)) = ids (s.take u) ++ [(nth s (u : Int)).Id] := by rw [take_nth s hu, ids_app]; rfl
theorem ids_cut (s : List Feat) (u : Nat) : ids s = ids (s.take u) ++ ids (s.drop u) := by rw [← ids_app, List.take_append_drop]
theorem dropNth {s : List Feat} {u : Nat} (hu : u < s.length) : s.drop u = nth s (u : Int) :: s.drop (u + 1) := by rw [nth_nat s hu]; exact List.drop_eq_getElem_cons hu
theorem ss_lt {s : List Feat} (h : SS (ids s)) {u : Nat} (hu : u < s.length) : (∀ x ∈ ids (s.take u), Op.bytesLess x (nth s (u : Int)).Id = true) ∧ ∀ y ∈ ids (s.drop (u + 1)), Op.bytesLess (nth s (u : Int)).Id y = true := by
 have e := ids_cut s u
 rw [dropNth hu] at e
 have e2 : ids (nth s (u : Int) :: s.drop (u + 1)) = (nth s (u : Int)).Id :: ids (s.drop (u + 1)) := rfl
 rw [e2] at e
 rw [e] at h
 obtain ⟨h1, h2, h3⟩ := List.pairwise_append.1 h
 exact ⟨fun x hx => h3 x hx _ List.mem_cons_self, (List.pairwise_cons.1 h2).1⟩
theorem F91.law (s : List Feat) (f : Feat) (Q : List Feat → Prop) (hl : s.length ≤ 1048576) (hs : SS (ids s)) (hq : ∀ r, SS (ids r) → (∀ x, x ∈ ids r ↔ x ∈ ids s ∨ x = f.Id) → r.length ≤ s.length + 1 → (∀ z ∈ r, z ∈ s ∨ z = f) → Q r) : F91.E s f Q := by
 unfold F91.E
 refine ⟨fun xs done i => ∃ u : Nat, i = u ∧ PutS s f u xs done, fun _ _ i => (s.length - i).toNat, ⟨0, rfl, Nat.zero_le _, by simp [ids, SS], by simp [ids], fun _ => ⟨by simp [ids], by simp⟩, (fun h => by cases h), by simp, by simp⟩, ?_⟩
 rintro xs done _ ⟨u, rfl, hu, h1, h2, h3, h4, h5, h6⟩
 by_cases h : u < s.length
 ·rw [if_pos (by simpa using h)]
  obtain ⟨b1, b2⟩ := ss_lt hs h
  have hin : nth s (u : Int) ∈ s := nth_mem s h
  have hdr : ∀ y ∈ ids (s.drop u), y = (nth s (u : Int)).Id ∨ y ∈ ids (s.drop (u + 1)) := fun y hy => by rw [dropNth h] at hy; exact List.mem_cons.1 hy
  have hcur : (nth s (u : Int)).Id ∈ ids (s.drop u) := by rw [dropNth h]; exact List.mem_cons_self
  have hdr' : ∀ y ∈ ids (s.drop (u + 1)), y ∈ ids (s.drop u) := fun y hy => by rw [dropNth h]; exact List.mem_cons_of_mem _ hy
  have stay : ∀ d, d = done → Op.bytesLess (nth s (u : Int)).Id f.Id = true ∨ d = true → xs.length + 1 ≤ u + 1 + 1 → PutS s f (u + 1) (xs ++ [nth s (u : Int)]) d := fun d hd hor hlen => by
   subst hd
   refine ⟨h, ?_, fun x => ?_, fun hdn => ⟨fun x hx => ?_, ?_⟩, fun hdn y hy => h4 hdn y (hdr' y hy), by simp only [List.length_append, List.length_singleton]; omega, fun z hz => ?_⟩
   ·rw [ids_app]
    refine ss_snoc h1 fun y hy => ?_
    rcases (h2 y).1 hy with hy | ⟨hd, rfl⟩
    ·exact b1 y hy
    ·exact h4 hd _ hcur
   ·rw [ids_app, List.mem_append, h2, ids_take h, List.mem_append]
    constructor
    ·rintro ((hx | hx) | hx)
     ·exact .inl (.inl hx)
     ·exact .inr hx
     ·exact .inl (.inr hx)
    ·rintro ((hx | hx) | hx)
     ·exact .inl (.inl hx)
     ·exact .inr hx
     ·exact .inl (.inr hx)
   ·rw [ids_take h] at hx
    rcases List.mem_append.1 hx with hx | hx
    ·exact (h3 hdn).1 x hx
    ·rw [List.mem_singleton.1 hx]
     rcases hor with hor | hor
     ·exact hor
     ·rw [hdn] at hor; cases hor
   ·rw [(h3 hdn).2, ← take_nth s h]
   ·rcases List.mem_append.1 hz with hz | hz
    ·exact h6 z hz
    ·rw [List.mem_singleton.1 hz]; exact .inl hin
  cases done with
  | true =>
   rw [if_neg RD]
   have hlt := h4 rfl _ hcur
   have hne : (nth s (u : Int)).Id ≠ f.Id := fun e => by rw [e, less_irr] at hlt; cases hlt
   refine ⟨OM, ?_⟩
   rw [if_pos (by rw [bne_iff_ne]; exact hne)]
   exact ⟨OM, by simp only [List.length_cons, List.length_nil]; omega, OM, ⟨u + 1, OM, stay true rfl (.inr rfl) OM⟩, by dsimp only; omega⟩
  | false =>
   rw [if_pos RD]
   obtain ⟨c1, c2⟩ := h3 rfl
   have hxl : xs.length = u := by rw [c2, List.length_take]; omega
   refine ⟨OM, ?_⟩
   cases k : Op.bytesLess (nth s (u : Int)).Id f.Id with
   | true =>
    rw [if_neg RD]
    have hne : (nth s (u : Int)).Id ≠ f.Id := fun e => by rw [e, less_irr] at k; cases k
    refine ⟨OM, ?_⟩
    rw [if_pos (by rw [bne_iff_ne]; exact hne)]
    exact ⟨OM, by simp only [List.length_cons, List.length_nil]; omega, OM, ⟨u + 1, OM, stay false rfl (.inl k) OM⟩, by dsimp only; omega⟩
   | false =>
    rw [if_pos RD]
    have g1 : SS (ids (xs ++ [f])) := by
     rw [ids_app]
     refine ss_snoc h1 fun y hy => ?_
     rcases (h2 y).1 hy with hy | ⟨hd, _⟩
     ·exact c1 y hy
     ·cases hd
    refine ⟨by simp only [List.length_cons, List.length_nil]; omega, OM, ?_⟩
    by_cases hne : (nth s (u : Int)).Id = f.Id
    ·rw [if_neg (by rw [hne]; simp)]
     refine ⟨OM, ⟨u + 1, OM, h, g1, fun x => ?_, (fun hd => by cases hd), fun _ y hy => by rw [← hne]; exact b2 y hy, by simp only [List.length_append, List.length_singleton]; omega, fun z hz => ?_⟩, by dsimp only; omega⟩
     ·rw [ids_app, List.mem_append, h2, ids_take h, List.mem_append, hne]
      show _ ∨ x ∈ [f.Id] ↔ _
      rw [List.mem_singleton]
      constructor
      ·rintro ((hx | ⟨hd, _⟩) | hx)
       ·exact .inl (.inl hx)
       ·cases hd
       ·exact .inr ⟨rfl, hx⟩
      ·rintro ((hx | hx) | ⟨_, hx⟩)
       ·exact .inl (.inl hx)
       ·exact .inr hx
       ·exact .inr hx
     ·rcases List.mem_append.1 hz with hz | hz
      ·exact h6 z hz
      ·exact .inr (List.mem_singleton.1 hz)
    ·rw [if_pos (by rw [bne_iff_ne]; exact hne)]
     have hlt : Op.bytesLess f.Id (nth s (u : Int)).Id = true := by
      rcases less_or k with g | g
      ·exact g
      ·exact absurd g.symm hne
     refine ⟨OM, by simp only [List.length_append, List.length_cons, List.length_nil]; omega, OM, ⟨u + 1, OM, h, ?_, fun x => ?_, (fun hd => by cases hd), fun _ y hy => less_trans hlt (b2 y hy), by simp only [List.length_append, List.length_singleton]; omega, fun z hz => ?_⟩, by dsimp only; omega⟩
     ·rw [ids_app]
      refine ss_snoc g1 fun y hy => ?_
      rw [ids_app] at hy
      rcases List.mem_append.1 hy with hy | hy
      ·rcases (h2 y).1 hy with hy | ⟨hd, _⟩
       ·exact b1 y hy
       ·cases hd
      ·have hy : y = f.Id := List.mem_singleton.1 hy
       rw [hy]; exact hlt
     ·rw [ids_app, ids_app, List.mem_append, List.mem_append, h2, ids_take h, List.mem_append]
      show (_ ∨ x ∈ [f.Id]) ∨ x ∈ [(nth s (u : Int)).Id] ↔ _
      rw [List.mem_singleton, List.mem_singleton]
      constructor
      ·rintro (((hx | ⟨hd, _⟩) | hx) | hx)
       ·exact .inl (.inl hx)
       ·cases hd
       ·exact .inr ⟨rfl, hx⟩
       ·exact .inl (.inr hx)
      ·rintro ((hx | hx) | ⟨_, hx⟩)
       ·exact .inl (.inl (.inl hx))
       ·exact .inr hx
       ·exact .inl (.inr hx)
     ·rcases List.mem_append.1 hz with hz | hz
      ·rcases List.mem_append.1 hz with hz | hz
       ·exact h6 z hz
       ·exact .inr (List.mem_singleton.1 hz)
      ·rw [List.mem_singleton.1 hz]; exact .inl hin
 ·rw [if_neg (by simpa using h)]
  have : u = s.length := by omega
  subst this
  rw [List.take_length] at h2 h3
  cases done with
  | true =>
   rw [if_neg RD]
   exact hq xs h1 (fun x => by rw [h2]; simp) h5 h6
  | false =>
   rw [if_pos RD]
   obtain ⟨c1, c2⟩ := h3 rfl
   refine ⟨by simp only [List.length_cons, List.length_nil]; omega, hq _ ?_ (fun x => ?_) (by rw [c2]; simp) fun z hz => ?_⟩
   ·rw [ids_app]
    refine ss_snoc h1 fun y hy => ?_
    rcases (h2 y).1 hy with hy | ⟨hd, _⟩
    ·exact c1 y hy
    ·cases hd
   ·rw [ids_app, List.mem_append, h2]
    show _ ∨ x ∈ [f.Id] ↔ _
    rw [List.mem_singleton]; simp
   ·rcases List.mem_append.1 hz with hz | hz
    ·exact h6 z hz
    ·exact .inr (List.mem_singleton.1 hz)
theorem F51.gen (P : Str → Prop) (hP : ∀ k ∈ idL, P k) (b : List UInt8) (p : Int) (Q : List Feat → Int → Prop) (hb : b.length ≤ 2000) (hp : 0 ≤ p) (hp1 : p ≤ 1000000) (hq : ∀ s p', sheetOk s = true → s.length ≤ 4 → (∀ f ∈ s, P f.Id) → (∀ f ∈ s, ∀ q ∈ f.Shape.Pts, NX q) → p ≤ p' → p' ≤ p + 300 → Q s p') : F51.E b p Q := by
 unfold F51.E
 refine F22.law _ _ _ _ hb hp OM fun k hk0 hk1 => ?_
 refine ⟨fun s i z => 0 ≤ i ∧ i ≤ 4 ∧ SS (ids s) ∧ (s.length : Int) + i ≤ 4 ∧ (∀ f ∈ s, featOk f = true ∧ P f.Id ∧ ∀ q ∈ f.Shape.Pts, NX q) ∧ p ≤ z ∧ z ≤ p + 1 + 61 * (4 - i), fun _ i _ => i.toNat, ⟨OM, OM, List.Pairwise.nil, by simp only [List.length_nil]; omega, by simp, OM, OM⟩, ?_⟩
 rintro s i z ⟨h0, h1, h2, h3, h4, h5, h6⟩
 by_cases hi : i > 0
 case neg => rw [if_neg (by simpa using hi)]; exact hq _ _ (sheet_of h2 OM fun f hf => (h4 f hf).1) OM (fun f hf => (h4 f hf).2.1) (fun f hf => (h4 f hf).2.2) h5 OM
 rw [if_pos (by simpa using hi)]
 refine F94.law _ _ _ hb OM OM fun id hid => F57.law _ _ _ _ hb OM OM fun sh t p1 hs ht tl td hx p2 p3 => F91.law _ _ _ OM h2 fun r r1 r2 r3 r4 => ⟨by unfold I64; omega, ⟨OM, OM, r1, OM, fun f hf => ?_, OM, OM⟩, by dsimp only; omega⟩
 rcases r4 f hf with g | rfl
 ·exact h4 f g
 ·exact ⟨feat_drawn (idL_ok _ hid) hs ht tl td, hP _ hid, hx⟩
theorem F51.law (b : List UInt8) (p : Int) (Q : List Feat → Int → Prop) (hb : b.length ≤ 2000) (hp : 0 ≤ p) (hp1 : p ≤ 1000000) (hq : ∀ s p', sheetOk s = true → s.length ≤ 4 → (∀ f ∈ s, f.Id ≠ zzI) → (∀ f ∈ s, ∀ q ∈ f.Shape.Pts, NX q) → p ≤ p' → p' ≤ p + 300 → Q s p') : F51.E b p Q :=
 F51.gen (fun i => i ≠ zzI) idL_nz b p Q hb hp hp1 hq
theorem F58.law (b : List UInt8) (p : Int) (Q : Str → Int → Prop) (hb : b.length ≤ 2000) (hp : 0 ≤ p) (hp1 : p ≤ 1000000) (hq : ∀ n : Str, n.length ≤ 6 → Q n (p + 1)) : F58.E b p Q := by
 unfold F58.E
 exact F39.law _ _ _ _ hb hp OM RD fun n hn => hq n (name_len hn)
theorem F69.law (f : Feat) (Q : Feat → Prop) (hb : bulk f ≤ 1048576) (hq : Q f) : F69.E f Q := by
 unfold F69.E F68.E
 have h := bulk_feat f
 have h1 := bulk_len f.Tags
 have h2 := bulk_len f.Shape.Pts
 exact ⟨by simp only [List.length_nil]; omega, by simp only [List.length_nil]; omega, hq⟩
theorem F70.law (s : List Feat) (Q : List Feat → Prop) (hb : bulk s ≤ 1048576) (hq : Q s) : F70.E s Q := by
 unfold F70.E
 have hl := bulk_len s
 refine ⟨fun xs i => ∃ u : Nat, i = u ∧ u ≤ s.length ∧ xs = s.take u, fun _ i => (s.length - i).toNat, ⟨0, rfl, Nat.zero_le _, rfl⟩, ?_⟩
 rintro _ _ ⟨u, rfl, hu, rfl⟩
 by_cases h : u < s.length
 ·rw [if_pos (by simpa using h)]
  have hm := bulk_mem (nth_mem s h)
  refine ⟨OM, F69.law _ _ OM ⟨by simp only [List.length_take, List.length_cons, List.length_nil]; omega, OM, ⟨u + 1, OM, OM, ?_⟩, by dsimp only; omega⟩⟩
  rw [take_nth s h]
 ·rw [if_neg (by simpa using h)]
  have : u = s.length := by omega
  subst this
  rw [List.take_length]; exact hq
theorem F92.law (c : Commit) (Q : Commit → Prop) (h1 : c.Up.length ≤ 1000) (h2 : bulk c.Sheet ≤ 1048576) (hq : Q c) : F92.E c Q := by
 unfold F92.E
 exact ⟨by simp only [List.length_nil]; omega, F70.law _ _ h2 (by simpa using hq)⟩
theorem F71.law (r : Repo) (Q : Repo → Prop) (h0 : r.Commits.length ≤ 1000) (h1 : r.Heads.length ≤ 1000) (h2 : ∀ c ∈ r.Commits, c.Up.length ≤ 1000 ∧ bulk c.Sheet ≤ 1048576) (hq : Q r) : F71.E r Q := by
 unfold F71.E
 refine ⟨by simp only [List.length_nil]; omega, fun i xs => ∃ u : Nat, i = u ∧ u ≤ r.Commits.length ∧ xs = r.Commits.take u, fun i _ => (r.Commits.length - i).toNat, ⟨0, rfl, Nat.zero_le _, rfl⟩, ?_⟩
 rintro _ _ ⟨u, rfl, hu, rfl⟩
 by_cases h : u < r.Commits.length
 ·rw [if_pos (by simpa using h)]
  have hm := h2 _ (nth_mem r.Commits h)
  refine ⟨OM, F92.law _ _ hm.1 hm.2 ⟨by simp only [List.length_take, List.length_cons, List.length_nil]; omega, OM, ⟨u + 1, OM, OM, ?_⟩, by dsimp only; omega⟩⟩
  rw [take_nth r.Commits h]
 ·rw [if_neg (by simpa using h)]
  have : u = r.Commits.length := by omega
  subst this
  rw [List.take_length]; exact hq
theorem RW.branch {r : Repo} (h : RW r) {name : Str} (hn : name.length ≤ 6) {a : Int} (h4 : ¬ 4 ≤ r.Heads.length) (ha : 0 ≤ a ∧ a < (r.Commits.length : Int)) : RW ⟨r.Commits, r.Heads ++ [⟨name, a⟩]⟩ :=
 ⟨h.c0, h.c1, by have := h.h0; dsimp only; rw [List.length_append]; omega, by dsimp only; rw [List.length_append, List.length_singleton]; omega, h.cs, fun x hx => by
  rcases List.mem_append.1 hx with hx | hx
  ·exact h.hs x hx
  ·rw [List.mem_singleton.1 hx]; exact ⟨hn, ha⟩⟩
theorem F23.law (r : Repo) (name src : Str) (Q : Repo → Int → Prop) (h : RW r) (hn : name.length ≤ 6) (h0 : ∀ k, Q ⟨[], []⟩ k) (hq : ∀ x k, RW x → Q x k) : F23.E r name src Q := by
 unfold F23.E
 refine F67.law _ _ ?_
 split
 ·exact h0 _
 refine F56.law _ _ ?_
 split
 ·exact h0 _
 refine F71.law _ _ (Nat.le_trans h.c1 RD) (Nat.le_trans h.h1 RD) (fun c hc => ?_) (F59.law _ _ _ ?_)
 ·obtain ⟨h1, h2, h3⟩ := h.cs c hc
  exact ⟨OM, Nat.le_trans (sheet_bulk h2) RD⟩
 split
 ·exact hq _ _ h
 rename_i ha
 refine F59.law _ _ _ ?_
 split
 ·exact hq _ _ h
 split
 ·exact hq _ _ h
 rename_i h4
 have hle := findN_le r.Heads.length fun j => decide ((nth r.Heads (j : Int)).Name = src)
 have e : findHead r src = findN r.Heads.length fun j => decide ((nth r.Heads (j : Int)).Name = src) := rfl
 rw [← e] at hle
 simp only [decide_eq_true_eq] at ha h4
 have hb : 0 ≤ findHead r src ∧ findHead r src < (r.Heads.length : Int) := by omega
 have hm := h.hs _ (nth_memi r.Heads hb.1 hb.2)
 exact ⟨hb, by have := h.h1; simp only [List.length_cons, List.length_nil]; omega, hq _ _ (h.branch hn OM hm.2)⟩
theorem F72.law (s : List Feat) (id : Str) (Q : Int → Prop) (hq : Q (findN s.length fun j => (nth s (j : Int)).Id == id)) : F72.E s id Q := by
 unfold F72.E
 refine loop_find s.length (fun j => (nth s (j : Int)).Id == id) hq (fun I mu k hk h1 h2 => ⟨OM, ?_⟩)
 cases h : (nth s (k : Int)).Id == id with
 | true => rw [if_pos rfl]; exact h1 h
 | false => rw [if_neg RD]; obtain ⟨i1, i2⟩ := h2 h; exact ⟨OM, i1, i2⟩
theorem F93.law (s : List Feat) (id : Str) (Q : List Feat → Prop) (hl : s.length ≤ 1048576) (hq : Q (s.filter fun f => decide (f.Id ≠ id))) : F93.E s id Q := by
 unfold F93.E
 refine ⟨fun xs i => ∃ u : Nat, i = u ∧ u ≤ s.length ∧ xs = (s.take u).filter fun f => decide (f.Id ≠ id), fun _ i => (s.length - i).toNat, ⟨0, rfl, Nat.zero_le _, rfl⟩, ?_⟩
 rintro _ _ ⟨u, rfl, hu, rfl⟩
 have hfl := List.length_filter_le (fun f : Feat => decide (f.Id ≠ id)) (s.take u)
 rw [List.length_take] at hfl
 by_cases h : u < s.length
 ·rw [if_pos (by simpa using h)]
  refine ⟨OM, ?_⟩
  by_cases e : (nth s (u : Int)).Id = id
  ·rw [if_neg (by rw [e]; simp)]
   refine ⟨OM, ⟨u + 1, OM, OM, ?_⟩, by dsimp only; omega⟩
   rw [take_nth s h, List.filter_append, List.filter_cons_of_neg (by rw [decide_eq_true_eq]; exact fun g => g e), List.filter_nil, List.append_nil]
  ·rw [if_pos (by rw [bne_iff_ne]; exact e)]
   refine ⟨OM, by simp only [List.length_cons, List.length_nil]; omega, OM, ⟨u + 1, OM, OM, ?_⟩, by dsimp only; omega⟩
   rw [take_nth s h, List.filter_append, List.filter_cons_of_pos (by rw [decide_eq_true_eq]; exact e), List.filter_nil]
 ·rw [if_neg (by simpa using h)]
  have : u = s.length := by omega
  subst this
  rw [List.take_length]; exact hq
theorem F73.law (b : List UInt8) (p : Int) (s : Shape) (Q : Shape → Int → Prop) (hb : b.length ≤ 2000) (hp : 0 ≤ p) (hp1 : p ≤ 10000000) (hs : s.Pts.length ≤ 1000) (hq : ∀ r p', (r = s ∨ shapeOk r = true) → p ≤ p' → p' ≤ p + 4 → Q r p') : F73.E b p s Q := by
 unfold F73.E
 by_cases h0 : (s.Pts.length : Int) = 0
 ·rw [if_pos (by simpa using h0)]; exact hq _ _ (.inl rfl) OM OM
 rw [if_neg (by simpa using h0)]
 refine F22.law _ _ _ _ hb hp OM fun k hk0 hk1 => ⟨OM, by simp only [List.length_take, List.length_drop, List.length_nil]; omega, F22.law _ _ _ _ hb OM OM fun v hv0 hv1 => ?_⟩
 have fin : ∀ (r : Shape) (z : Int), p ≤ z → z ≤ p + 4 → F49.E r (fun r5 => (if !r5 then Q s z else Q r z)) := fun r z h1 h2 => by
  refine F49.law _ _ ?_
  cases h : shapeOk r with
  | true => rw [if_neg RD]; exact hq _ _ (.inr h) h1 h2
  | false => rw [if_pos RD]; exact hq _ _ (.inl rfl) h1 h2
 refine ⟨fun _ z => p ≤ z ∧ z ≤ p + 4, ?_, fun xs z hz => fin _ _ hz.1 hz.2⟩
 split
 ·exact ⟨OM, F95.law _ _ _ hb OM OM fun x y _ _ _ _ => ⟨by simp only [List.length_append, List.length_take, List.length_drop, List.length_nil, List.length_cons]; omega, by simp only [List.length_append, List.length_take, List.length_drop, List.length_nil, List.length_cons]; omega, OM, OM⟩⟩
 split
 ·exact ⟨fun _ => by unfold I64; omega, OM, by simp only [List.length_append, List.length_take, List.length_drop, List.length_nil, List.length_cons]; omega, OM, OM⟩
 exact ⟨fun _ => by unfold I64; omega, OM, F95.law _ _ _ hb OM OM fun x y _ _ _ _ => ⟨by simp only [List.length_append, List.length_take, List.length_drop, List.length_nil, List.length_cons]; omega, by simp only [List.length_append, List.length_take, List.length_drop, List.length_nil, List.length_cons]; omega, OM, OM⟩⟩
theorem FB.put {n : Nat} {f : Feat} (h : FB n f) {k v : Str} (hk : k ∈ keyL) (hv : v ∈ valL) {r : List Tag} (hl : r.length ≤ f.Tags.length + 1) (hr : ∀ z ∈ r, z ∈ f.Tags ∨ z = ⟨k, v⟩) : FB (n + 1) ⟨f.Id, f.Shape, r⟩ := ⟨h.id, h.pts, Nat.le_trans hl (Nat.succ_le_succ h.len), fun x hx => by
 rcases hr x hx with g | rfl
 ·exact h.wd x g
 ·exact DT.len ⟨hk, hv⟩⟩
theorem F74.gen (P : Str → Prop) (hP : ∀ k ∈ idL, P k) (b : List UInt8) (p : Int) (s : List Feat) (Q : List Feat → Int → Prop) (hb : b.length ≤ 2000) (hp : 0 ≤ p) (hp1 : p ≤ 1000000) (hs : sheetOk s = true) (hz : ∀ f ∈ s, P f.Id) (hq : ∀ r p', sheetOk r = true → (∀ f ∈ r, P f.Id) → p ≤ p' → p' ≤ p + 250 → Q r p') : F74.E b p s Q := by
 unfold F74.E
 have mb := MB.of hs
 refine F22.law _ _ _ _ hb hp OM fun k hk0 hk1 => ⟨by unfold I64; omega, ?_⟩
 refine ⟨fun s i z => 0 ≤ i ∧ i ≤ 3 ∧ SS (ids s) ∧ (s.length : Int) + i ≤ 11 ∧ (∀ f ∈ s, SS (keysT f.Tags) ∧ FB (7 - i.toNat) f ∧ P f.Id) ∧ p ≤ z ∧ z ≤ p + 1 + 65 * (3 - i), fun _ i _ => i.toNat, ⟨OM, OM, (sheet_ss hs).1, by have := mb.len; omega, fun f hf => ⟨featOk_tags ((sheet_ss hs).2.2 f hf), (mb.fb f hf).mono OM, hz f hf⟩, OM, OM⟩, ?_⟩
 rintro s2 i z ⟨h0, h1, h2, h3, h4, h5, h6⟩
 by_cases hi : i > 0
 case neg =>
  rw [if_neg (by simpa using hi)]
  refine F52.law _ _ ?_
  cases h : sheetOk s2 with
  | true => rw [if_neg RD]; exact hq _ _ h (fun f hf => (h4 f hf).2.2) h5 OM
  | false => rw [if_pos RD]; exact hq _ _ hs hz h5 OM
 rw [if_pos (by simpa using hi)]
 have em : 7 - (i - 1).toNat = 7 - i.toNat + 1 := by omega
 have step : ∀ (f : Feat), SS (keysT f.Tags) → FB (7 - i.toNat + 1) f → P f.Id → ∀ r : List Feat, (∀ z ∈ r, z ∈ s2 ∨ z = f) → ∀ x ∈ r, SS (keysT x.Tags) ∧ FB (7 - (i - 1).toNat) x ∧ P x.Id := fun f a1 a2 a3 r hr x hx => by
  rw [em]
  rcases hr x hx with g | rfl
  ·have := h4 x g
   exact ⟨this.1, this.2.1.mono OM, this.2.2⟩
  ·exact ⟨a1, a2, a3⟩
 refine F94.law _ _ _ hb OM OM fun id hid => F72.law _ _ _ ?_
 have hle := findN_le s2.length fun j => (nth s2 (j : Int)).Id == id
 generalize findN s2.length (fun j => (nth s2 (j : Int)).Id == id) = at_ at *
 by_cases ha : at_ < 0
 ·rw [if_pos (by simpa using ha)]
  refine F57.law _ _ _ _ hb OM OM fun sh t p1 hsh ht tl td _ p2 p3 => F91.law _ _ _ OM h2 fun r r1 r2 r3 r4 => ⟨by unfold I64; omega, ⟨OM, OM, r1, OM, step _ ht ?_ (hP _ hid) r r4, OM, OM⟩, by dsimp only; omega⟩
  exact ((FB.of (feat_drawn (idL_ok _ hid) hsh ht tl td)).mono OM)
 rw [if_neg (by simpa using ha)]
 have hm : nth s2 at_ ∈ s2 := nth_memi s2 OM hle.2
 obtain ⟨f1, f2, f3⟩ := h4 _ hm
 have fb := f2.small
 refine F22.law _ _ _ _ hb OM OM fun v hv0 hv1 => ?_
 split
 ·refine F93.law _ _ _ OM ⟨by unfold I64; omega, ⟨OM, OM, ?_, ?_, fun x hx => ?_, OM, OM⟩, by dsimp only; omega⟩
  ·unfold SS ids at h2 ⊢
   exact List.Pairwise.sublist (List.filter_sublist.map _) h2
  ·have := List.length_filter_le (fun f : Feat => decide (f.Id ≠ id)) s2; omega
  ·have := h4 x (List.mem_filter.1 hx).1
   exact ⟨this.1, this.2.1.mono OM, this.2.2⟩
 refine F22.law _ _ _ _ hb OM OM fun w hw0 hw1 => ?_
 split
 ·refine ⟨OM, F69.law _ _ OM (F88.law _ _ _ hb OM OM fun key hkey => F89.law _ _ _ hb OM OM fun val hval => F90.law _ _ _ _ (by have := f2.len; omega) f1 fun t t1 t2 t3 t4 => F91.law _ _ _ OM h2 fun r r1 r2 r3 r4 => ⟨by unfold I64; omega, ⟨OM, OM, r1, OM, step _ t1 (f2.put hkey hval t3 t4) f3 r r4, OM, OM⟩, by dsimp only; omega⟩)⟩
 ·refine ⟨OM, F69.law _ _ OM (F73.law _ _ _ _ hb OM OM (by have := f2.pts; omega) fun sh p' hsh p1 p2 => F91.law _ _ _ OM h2 fun r r1 r2 r3 r4 => ⟨by unfold I64; omega, ⟨OM, OM, r1, OM, step ⟨(nth s2 at_).Id, sh, (nth s2 at_).Tags⟩ f1 ⟨f2.id, ?_, Nat.le_trans f2.len OM, f2.wd⟩ f3 r r4, OM, OM⟩, by dsimp only; omega⟩)⟩
  rcases hsh with rfl | hsh
  ·exact f2.pts
  ·exact Nat.le_trans (shape_pts hsh) RD
theorem F74.law (b : List UInt8) (p : Int) (s : List Feat) (Q : List Feat → Int → Prop) (hb : b.length ≤ 2000) (hp : 0 ≤ p) (hp1 : p ≤ 1000000) (hs : sheetOk s = true) (hz : ∀ f ∈ s, f.Id ≠ zzI) (hq : ∀ r p', sheetOk r = true → (∀ f ∈ r, f.Id ≠ zzI) → p ≤ p' → p' ≤ p + 250 → Q r p') : F74.E b p s Q :=
 F74.gen (fun i => i ≠ zzI) idL_nz b p s Q hb hp hp1 hs hz hq
theorem F75.law (b : List UInt8) (p : Int) (Q : Str → Int → Prop) (hb : b.length ≤ 2000) (hp : 0 ≤ p) (hp1 : p ≤ 1000000) (hq : ∀ n : Str, n.length ≤ 5 → Q n (p + 1)) : F75.E b p Q := by
 unfold F75.E
 exact F39.law _ _ _ _ hb hp OM RD fun n hn => hq n (note_len hn)
theorem RW.head {r : Repo} (h : RW r) {k : Int} (hk : 0 ≤ k ∧ k < (r.Heads.length : Int)) {a n : Int} (ha : 0 ≤ a ∧ a < n) {cs : List Commit} (hn : (cs.length : Int) = n) (hl : (r.Commits.length : Int) ≤ n) (h12 : n ≤ 12)
  (hc : ∀ c ∈ cs, c.Up.length ≤ 2 ∧ sheetOk c.Sheet = true ∧ c.Note.length ≤ 5) : RW ⟨cs, r.Heads.set k.toNat ⟨(nth r.Heads k).Name, a⟩⟩ :=
 ⟨by have := h.c0; dsimp only; omega, by dsimp only; omega, by dsimp only; rw [List.length_set]; exact h.h0, by dsimp only; rw [List.length_set]; exact h.h1, hc, fun x hx => by
  dsimp only
  rcases List.mem_or_eq_of_mem_set hx with hx | rfl
  ·obtain ⟨h1, h2, h3⟩ := h.hs x hx
   exact ⟨h1, h2, OM⟩
  ·exact ⟨(h.hs _ (nth_memi _ hk.1 hk.2)).1, ha.1, by dsimp only; omega⟩⟩
theorem RW.add1 {xs : List Commit} {ys : List Head} (h : RW ⟨xs, ys⟩) {k : Int} (hk : 0 ≤ k ∧ k < (ys.length : Int)) {c : Commit} (hc : c.Up.length ≤ 2 ∧ sheetOk c.Sheet = true ∧ c.Note.length ≤ 5) (hl : xs.length < 12) :
  RW ⟨xs ++ [c], ys.set k.toNat ⟨(nth ys k).Name, (xs.length : Int)⟩⟩ :=
 RW.head h hk (n := (xs.length : Int) + 1) ⟨OM, OM⟩ (by rw [List.length_append]; rfl) (by dsimp only; omega) OM fun x hx => by
  rcases List.mem_append.1 hx with hx | hx
  ·exact h.cs x hx
  ·rw [List.mem_singleton.1 hx]; exact hc
theorem RW.add2 {xs : List Commit} {ys : List Head} (h : RW ⟨xs, ys⟩) {k : Int} (hk : 0 ≤ k ∧ k < (ys.length : Int)) {j : Int} (hj : 0 ≤ j ∧ j < (xs.length : Int)) : RW ⟨xs, ys.set k.toNat ⟨(nth ys k).Name, j⟩⟩ :=
 RW.head h hk (n := (xs.length : Int)) hj rfl (Int.le_refl _) (by have := h.c1; dsimp only at this; omega) h.cs
theorem grow_tail {xs : List Commit} {ys : List Head} (h : RW ⟨xs, ys⟩) {c : Commit} (hc : c.Up.length ≤ 2 ∧ sheetOk c.Sheet = true ∧ c.Note.length ≤ 5) (A0 : Prop) (A : Repo → Commit → Prop) (B : Repo → Int → Prop)
  (h0 : A0) (h1 : xs.length < 12 → A ⟨xs, ys⟩ c) (h2 : ∀ j : Int, 0 ≤ j → j < (xs.length : Int) → B ⟨xs, ys⟩ j) :
  (if decide ((xs.length : Int) ≥ 12) then A0 else F71.E ⟨xs, ys⟩ (fun r => F66.E r c (fun j => (if decide (j < 0) then F92.E c (fun d => A r d) else B r j)))) := by
 split
 ·exact h0
 rename_i hl
 simp only [ge_iff_le, decide_eq_true_eq] at hl
 refine F71.law _ _ (Nat.le_trans h.c1 RD) (Nat.le_trans h.h1 RD) (fun x hx => ?_) (F66.law _ _ _ ?_)
 ·obtain ⟨g1, g2, g3⟩ := h.cs x hx
  exact ⟨OM, Nat.le_trans (sheet_bulk g2) RD⟩
 split
 ·exact F92.law _ _ OM (Nat.le_trans (sheet_bulk hc.2.1) RD) (h1 OM)
 rename_i hj
 simp only [decide_eq_true_eq] at hj
 have hle : findCommit ⟨xs, ys⟩ c < (xs.length : Int) := (findN_le _ _).2
 exact h2 _ OM hle
theorem F76.law (b : List UInt8) (p : Int) (Q : Repo → Int → Prop) (hb : b.length ≤ 2000) (hp : 0 ≤ p) (hp1 : p ≤ 100000) (hq : ∀ x p', RW x → p ≤ p' → p' ≤ p + 3000 → Q x p') : F76.E b p Q := by
 unfold F76.E
 refine F48.law _ _ RD (F51.law _ _ _ hb hp OM fun s m hs _ _ _ m1 m2 => ⟨by decide, F22.law _ _ _ _ hb OM OM fun v hv0 hv1 => ⟨by unfold I64; omega, ?_⟩⟩)
 refine ⟨fun i z xs ys => 0 ≤ i ∧ i ≤ 8 ∧ RW ⟨xs, ys⟩ ∧ p ≤ z ∧ z ≤ p + 301 + 260 * (8 - i), fun i _ _ _ => i.toNat, ⟨OM, OM, ?_, OM, OM⟩, ?_⟩
 ·show RW ⟨[⟨[], s, [98, 101, 103, 105, 110]⟩], [⟨[109, 97, 105, 110], 0⟩]⟩
  refine ⟨by simp, by simp, by simp, by simp, fun c hc => ?_, fun h hh => ?_⟩
  ·have e : c = ⟨[], s, [98, 101, 103, 105, 110]⟩ := List.mem_singleton.1 hc
   rw [e]; exact ⟨by simp, hs, by simp⟩
  ·have e : h = ⟨[109, 97, 105, 110], 0⟩ := List.mem_singleton.1 hh
   rw [e]; exact ⟨by simp, by simp, by simp⟩
 rintro i z xs ys ⟨h0, h1, hr, h2, h3⟩
 have r0 := hr.h0
 have r1 := hr.h1
 dsimp only at r0 r1
 by_cases hi : i > 0
 case neg =>
  rw [if_neg (by simpa using hi)]
  refine F22.law _ _ _ _ hb OM OM fun v hv0 hv1 => ?_
  split
  ·split
   ·rename_i hl
    simp only [gt_iff_lt, decide_eq_true_eq] at hl
    refine ⟨fun _ => by unfold I64; omega, OM, hq _ _ ⟨hr.c0, hr.c1, ?_, ?_, hr.cs, fun x hx => hr.hs x (List.mem_of_mem_take hx)⟩ OM OM⟩
    ·dsimp only; rw [List.length_take]; omega
    ·dsimp only; rw [List.length_take]; omega
   ·exact hq _ _ hr OM OM
  ·exact hq _ _ hr OM OM
 rw [if_pos (by simpa using hi)]
 have hI : I64 (i - 1) := by unfold I64; omega
 refine F58.law _ _ _ hb OM OM fun n hn => F59.law _ _ _ ?_
 have hle : findHead ⟨xs, ys⟩ n < (ys.length : Int) := (findN_le _ _).2
 generalize findHead ⟨xs, ys⟩ n = k at *
 by_cases hk : k < 0
 ·rw [if_pos (by simpa using hk)]
  refine F22.law _ _ _ _ hb OM OM fun v hv0 hv1 => ⟨OM, F23.law _ _ _ _ hr hn (fun _ => ?_) fun x _ hx => ?_⟩
  ·rw [if_neg RD]
   exact ⟨fun _ _ => hI, ⟨OM, OM, hr, OM, OM⟩, by dsimp only; omega⟩
  ·have := hx.h0
   rw [if_pos (by rw [decide_eq_true_eq]; omega)]
   exact ⟨fun _ _ => hI, ⟨OM, OM, hx, OM, OM⟩, by dsimp only; omega⟩
 rw [if_neg (by simpa using hk)]
 have hk2 : 0 ≤ k ∧ k < (ys.length : Int) := ⟨OM, hle⟩
 have hm := hr.hs _ (nth_memi ys hk2.1 hk2.2)
 have hc := hr.cs _ (nth_memi xs hm.2.1 hm.2.2)
 refine ⟨hk2, hm.2, F74.gen (fun _ => True) (fun _ _ => trivial) _ _ _ _ hb OM OM hc.2.1 (fun _ _ => trivial) fun s' z' hs' _ z1 z2 => F75.law _ _ _ hb OM OM fun nt hnt => F22.law _ _ _ _ hb OM OM fun v hv0 hv1 => ⟨OM, ?_⟩⟩
 split
 ·refine F22.law _ _ _ _ hb OM OM fun u hu0 hu1 => ?_
  split
  ·refine grow_tail hr ⟨by simp, hs', hnt⟩ _ _ _ ?_ (fun hl => ?_) (fun j j0 j1 => ?_)
   ·exact ⟨fun _ _ => hI, ⟨OM, OM, hr, OM, OM⟩, by dsimp only; omega⟩
   ·exact ⟨by simp only [List.length_cons, List.length_nil]; omega, hk2, fun _ _ _ => hI, ⟨OM, OM, hr.add1 hk2 ⟨by simp, hs', hnt⟩ hl, OM, OM⟩, by dsimp only; omega⟩
   ·exact ⟨hk2, fun _ _ => hI, ⟨OM, OM, hr.add2 hk2 ⟨j0, j1⟩, OM, OM⟩, by dsimp only; omega⟩
  ·refine grow_tail hr ⟨by simp, hs', hnt⟩ _ _ _ ?_ (fun hl => ?_) (fun j j0 j1 => ?_)
   ·exact ⟨fun _ _ => hI, ⟨OM, OM, hr, OM, OM⟩, by dsimp only; omega⟩
   ·exact ⟨by simp only [List.length_cons, List.length_nil]; omega, hk2, fun _ _ _ => hI, ⟨OM, OM, hr.add1 hk2 ⟨by simp, hs', hnt⟩ hl, OM, OM⟩, by dsimp only; omega⟩
   ·exact ⟨hk2, fun _ _ => hI, ⟨OM, OM, hr.add2 hk2 ⟨j0, j1⟩, OM, OM⟩, by dsimp only; omega⟩
 ·refine grow_tail hr ⟨by simp, hs', hnt⟩ _ _ _ ?_ (fun hl => ?_) (fun j j0 j1 => ?_)
  ·exact ⟨fun _ _ => hI, ⟨OM, OM, hr, OM, OM⟩, by dsimp only; omega⟩
  ·exact ⟨by simp only [List.length_cons, List.length_nil]; omega, hk2, fun _ _ _ => hI, ⟨OM, OM, hr.add1 hk2 ⟨by simp, hs', hnt⟩ hl, OM, OM⟩, by dsimp only; omega⟩
  ·exact ⟨hk2, fun _ _ => hI, ⟨OM, OM, hr.add2 hk2 ⟨j0, j1⟩, OM, OM⟩, by dsimp only; omega⟩
theorem F77.law (b : List UInt8) (p : Int) (Q : Shape → Int → Prop) (hb : b.length ≤ 2000) (hp : 0 ≤ p) (hp1 : p ≤ 10000000) (hq : ∀ s p', s.Pts.length ≤ 7 → (∀ q ∈ s.Pts, NX q) → p ≤ p' → p' ≤ p + 50 → Q s p') : F77.E b p Q := by
 unfold F77.E
 refine F50.law _ _ _ hb hp OM fun s p1 hs hx p0 p2 => F22.law _ _ _ _ hb OM OM fun k hk0 hk1 => F22.law _ _ _ _ hb OM OM fun v hv0 hv1 => ?_
 have l1 := shape_pos hs
 have l2 := shape_pts hs
 split
 ·exact F28.law _ _ _ _ hb OM OM RD fun n hn => hq _ _ (by dsimp only; omega) hx OM OM
 split
 ·exact F28.law _ _ _ _ hb OM OM RD fun n hn => ⟨OM, hq _ _ (by simp only [List.length_set]; omega) (fun q hq' => by
   rcases List.mem_or_eq_of_mem_set hq' with g | rfl
   ·exact hx q g
   ·simp only [List.mem_cons, List.not_mem_nil, or_false] at hn
    exact ⟨by dsimp only; omega, by dsimp only; omega⟩) OM OM⟩
 split
 ·exact ⟨fun _ => by unfold I64; omega, OM, by simp only [List.length_cons, List.length_nil]; omega, hq _ _ (by simp only [List.length_append, List.length_cons, List.length_nil]; omega) (fun q hq' => (List.mem_append.1 hq').elim (hx q) fun g => by rw [List.mem_singleton.1 g]; exact hx _ (nth_memi _ OM OM)) OM OM⟩
 split
 ·exact ⟨OM, hq _ _ (by simp only [List.length_take, List.length_drop]; omega) (fun q hq' => hx q (List.mem_of_mem_drop (List.mem_of_mem_take hq'))) OM OM⟩
 exact hq _ _ OM hx OM OM
theorem F78.law (b : List UInt8) (p : Int) (Q : Feat → Int → Prop) (hb : b.length ≤ 2000) (hp : 0 ≤ p) (hp1 : p ≤ 1000000) (hq : ∀ f p', FB 4 f → (∀ x ∈ f.Tags, plainK x.Key) → f.Id ≠ zzI → (∀ q ∈ f.Shape.Pts, NX q) → p ≤ p' → p' ≤ p + 120 → Q f p') : F78.E b p Q := by
 unfold F78.E
 refine F94.law _ _ _ hb hp OM fun id hid => F57.law _ _ _ _ hb OM OM fun s t p1 hs ht tl td hx p2 p3 => F22.law _ _ _ _ hb OM OM fun v hv0 hv1 => ?_
 have li := word_len (idL_ok _ hid)
 have lp := shape_pts hs
 have tp : ∀ x ∈ t, plainK x.Key := fun x hx => keyL_plain _ (td x hx).1
 have tw : ∀ x ∈ t, x.Key.length ≤ 6 ∧ x.Val.length ≤ 6 := fun x hx => (td x hx).len
 have iz := idL_nz _ hid
 split
 ·refine F39.law _ _ _ _ hb OM OM RD fun w hw => hq _ _ ⟨?_, by dsimp only; omega, by dsimp only; omega, tw⟩ tp ?_ hx OM OM
  all_goals
   simp only [List.mem_cons, List.not_mem_nil, or_false] at hw
   dsimp only
   rcases hw with rfl | rfl | rfl <;> decide
 split
 ·exact F77.law _ _ _ hb OM OM fun s' p4 h4 hx' h5 h6 => hq _ _ ⟨by dsimp only; omega, h4, by dsimp only; omega, tw⟩ tp iz hx' OM OM
 split
 ·refine ⟨by simp only [List.length_cons, List.length_nil]; omega, hq _ _ ⟨by dsimp only; omega, by dsimp only; omega, by simp only [List.length_append, List.length_cons, List.length_nil]; omega, fun x hx2 => ?_⟩ (fun x hx2 => ?_) iz hx OM OM⟩
  ·rcases List.mem_append.1 hx2 with hx2 | hx2
   ·exact tw x hx2
   ·rw [List.mem_singleton.1 hx2]; decide
  ·rcases List.mem_append.1 hx2 with hx2 | hx2
   ·exact tp x hx2
   ·rw [List.mem_singleton.1 hx2]; unfold plainK; dsimp only; decide
 split
 ·refine F39.law _ _ _ _ hb OM OM RD fun w hw => ⟨by simp only [List.length_cons, List.length_nil]; omega, hq _ _ ⟨by dsimp only; omega, by dsimp only; omega, by simp only [List.length_append, List.length_cons, List.length_nil]; omega, fun x hx2 => ?_⟩ (fun x hx2 => ?_) iz hx OM OM⟩
  ·rcases List.mem_append.1 hx2 with hx2 | hx2
   ·exact tw x hx2
   ·rw [List.mem_singleton.1 hx2]
    simp only [List.mem_cons, List.not_mem_nil, or_false] at hw
    rcases hw with rfl | rfl <;> decide
  ·rcases List.mem_append.1 hx2 with hx2 | hx2
   ·exact tp x hx2
   ·rw [List.mem_singleton.1 hx2]; unfold plainK; dsimp only; decide
 exact hq _ _ ⟨by dsimp only; omega, by dsimp only; omega, by dsimp only; omega, tw⟩ tp iz hx OM OM
theorem F79.law (b : List UInt8) (p : Int) (Q : List Feat → Int → Prop) (hb : b.length ≤ 2000) (hp : 0 ≤ p) (hp1 : p ≤ 100000) (hq : ∀ s p', MD s → (∀ f ∈ s, ∀ q ∈ f.Shape.Pts, NX q) → p ≤ p' → p' ≤ p + 500 → Q s p') : F79.E b p Q := by
 unfold F79.E
 refine F51.law _ _ _ hb hp OM fun s p1 hs hl hz hn p2 p3 => F22.law _ _ _ _ hb OM OM fun v hv0 hv1 => ?_
 have mb := MB.of hs
 have hm : MD s := ⟨⟨OM, mb.fb⟩, hz⟩
 split
 ·refine F78.law _ _ _ hb OM OM fun f p4 h1 _ h2 hfx h3 h4 => ⟨by simp only [List.length_cons, List.length_nil]; omega, hq _ _ ⟨⟨by simp only [List.length_append, List.length_cons, List.length_nil]; omega, fun x hx => ?_⟩, fun x hx => ?_⟩ (fun x hx => ?_) OM OM⟩
  ·rcases List.mem_append.1 hx with hx | hx
   ·exact mb.fb x hx
   ·rw [List.mem_singleton.1 hx]; exact h1
  ·rcases List.mem_append.1 hx with hx | hx
   ·exact hz x hx
   ·rw [List.mem_singleton.1 hx]; exact h2
  ·rcases List.mem_append.1 hx with hx | hx
   ·exact hn x hx
   ·rw [List.mem_singleton.1 hx]; exact hfx
 split
 ·refine ⟨OM, hq _ _ ⟨⟨by simp only [List.length_append]; omega, fun x hx => ?_⟩, fun x hx => ?_⟩ (fun x hx => ?_) OM OM⟩
  ·rcases List.mem_append.1 hx with hx | hx <;> exact mb.fb x hx
  ·rcases List.mem_append.1 hx with hx | hx <;> exact hz x hx
  ·rcases List.mem_append.1 hx with hx | hx <;> exact hn x hx
 split
 ·refine ⟨fun s i => 0 ≤ i ∧ i ≤ 9 ∧ SS (ids s) ∧ (s.length : Int) ≤ 4 + i ∧ (∀ f ∈ s, FB 4 f ∧ f.Id ≠ zzI ∧ ∀ q ∈ f.Shape.Pts, NX q), fun _ i => (9 - i).toNat, ⟨OM, OM, (sheet_ss hs).1, OM, fun f hf => ⟨mb.fb f hf, hz f hf, hn f hf⟩⟩, ?_⟩
  rintro s i ⟨h0, h1, h2, h3, h4⟩
  by_cases hi : i ≤ 8
  case neg => rw [if_neg (by simpa using hi)]; exact hq _ _ ⟨⟨OM, fun f hf => (h4 f hf).1⟩, fun f hf => (h4 f hf).2.1⟩ (fun f hf => (h4 f hf).2.2) OM OM
  rw [if_pos (by simpa using hi)]
  have hl1 : ∀ l : Str, ((l.drop i.toNat).take ((i + 1).toNat - i.toNat)).length ≤ 1 := fun l => by rw [List.length_take]; omega
  refine ⟨by unfold I64; omega, by simp only [List.length_cons, List.length_nil]; omega, F91.law _ _ _ OM h2 fun r r1 r2 r3 r4 => ⟨by unfold I64; omega, ⟨OM, OM, r1, OM, fun f hf => ?_⟩, by dsimp only; omega⟩⟩
  rcases r4 f hf with g | rfl
  ·exact h4 f g
  ·refine ⟨⟨Nat.le_trans (hl1 _) RD, by dsimp only [List.length_cons, List.length_nil]; omega, by simp only [List.length_nil]; omega, by simp⟩, fun e => ?_, fun q hq' => by rw [List.mem_singleton.1 hq']; exact .of RD⟩
   have := hl1 [113, 114, 115, 116, 117, 118, 119, 120, 121, 122]
   dsimp only at e
   rw [e] at this
   exact absurd this RD
 exact hq _ _ hm hn OM OM
theorem RB.heads {r : Repo} (h : RB r) {hs : List Head} (h0 : 1 ≤ hs.length) (h1 : hs.length ≤ 5) (h2 : ∀ x ∈ hs, x.Name.length ≤ 6) : RB ⟨r.Commits, hs⟩ := ⟨h.c0, h.c1, h0, h1, h.cs, h2⟩
theorem F80.law (b : List UInt8) (p : Int) (Q : Repo → Int → Prop) (hb : b.length ≤ 2000) (hp : 0 ≤ p) (hp1 : p ≤ 10000) (hq : ∀ x p', RB x → p ≤ p' → p' ≤ p + 4000 → Q x p') : F80.E b p Q := by
 unfold F80.E
 refine F76.law _ _ _ hb hp OM fun x m hx m1 m2 => ?_
 have hr := hx.rb
 have c0 := hx.c0
 have h0 := hx.h0
 have h1 := hx.h1
 have hh : nth x.Heads 0 ∈ x.Heads := nth_memi _ OM OM
 refine F22.law _ _ _ _ hb OM OM fun k hk0 hk1 => ?_
 have hk : 0 ≤ k ∧ k < (x.Commits.length : Int) := by omega
 have hc := hr.cs _ (nth_memi x.Commits hk.1 hk.2)
 have hu := hx.cs _ (nth_memi x.Commits hk.1 hk.2)
 refine F22.law _ _ _ _ hb OM OM fun v hv0 hv1 => ?_
 split
 ·refine F28.law _ _ _ _ hb OM OM (by simp) fun a _ => ⟨OM, hq _ _ (hr.heads (by rw [List.length_set]; exact h0) (by rw [List.length_set]; omega) fun y hy => ?_) OM OM⟩
  rcases List.mem_or_eq_of_mem_set hy with hy | rfl
  ·exact hr.hs y hy
  ·show (nth x.Heads 0).Name.length ≤ 6
   exact hr.hs _ hh
 split
 ·refine ⟨hk, by simp only [List.length_cons, List.length_nil]; omega, hq _ _ (hr.set _ ⟨?_, hc.2.1, hc.2.2⟩) OM OM⟩
  dsimp only
  rw [List.length_append, List.length_singleton]; omega
 split
 ·exact F79.law _ _ _ hb OM OM fun s p' hs _ p1 p2 => ⟨hk, hq _ _ (hr.set _ ⟨hc.1, md_bulk hs, hc.2.2⟩) OM OM⟩
 split
 ·exact ⟨hk, hq _ _ (hr.set _ ⟨hc.1, hc.2.1, Nat.zero_le _⟩) OM OM⟩
 split
 ·refine ⟨OM, by simp only [List.length_cons, List.length_nil]; omega, hq _ _ (hr.heads (by rw [List.length_append]; omega) (by rw [List.length_append, List.length_singleton]; omega) fun y hy => ?_) OM OM⟩
  rcases List.mem_append.1 hy with hy | hy
  ·exact hr.hs y hy
  ·rw [List.mem_singleton.1 hy]; exact hr.hs _ hh
 split
 ·exact ⟨hk, hq _ _ (hr.set _ ⟨Nat.zero_le _, hc.2.1, hc.2.2⟩) OM OM⟩
 exact hq _ _ hr OM OM
theorem F47.law (code : List UInt8) (Q : List UInt8 → Int → Prop) (hq : ∀ b, b.length ≤ 2000 → Q b 0) : F47.E code Q := by
 unfold F47.E
 by_cases h : (code.length : Int) > 2000
 ·rw [if_pos (by simpa using h)]
  exact ⟨OM, hq _ (by rw [List.length_take]; omega)⟩
 ·rw [if_neg (by simpa using h)]
  exact hq _ OM
theorem F44.law (code : List UInt8) (Q : Repo → Int → Int → Prop) (hq : ∀ r a b, RB r → I64 a → I64 b → Q r a b) : F44.E code Q := by
 unfold F44.E
 refine F47.law _ _ fun b hb => F80.law _ _ _ hb OM OM fun x m hx m1 m2 => ?_
 have c1 := hx.c1
 refine ⟨fun _ => by unfold I64; omega, F22.law _ _ _ _ hb OM OM fun u u0 u1 => F22.law _ _ _ _ hb OM OM fun v v0 v1 => ⟨OM, fun _ => by unfold I64; omega, F22.law _ _ _ _ hb OM OM fun y y0 y1 => F22.law _ _ _ _ hb OM OM fun z z0 z1 => ⟨OM, fun _ => by unfold I64; omega, hq _ _ _ hx (by unfold I64; omega) (by unfold I64; omega)⟩⟩⟩
theorem F10.law (code : List UInt8) (Q : Repo → Int → Int → Prop) (hq : ∀ r a b, RB r → I64 a → I64 b → Q r a b) : F10.E code Q := by
 unfold F10.E
 exact F44.law _ _ fun r a b h ha hb => hq r a b h ha hb
theorem laws_FnRepoBases.law (code : List UInt8) (_ : ∀ x ∈ code, True) : laws_FnRepoBases.E code (fun r => r = true) := by
 unfold laws_FnRepoBases.E
 refine iteB (fun _ => rfl) fun _ => F10.law _ _ fun r a b hr ha hb => ?_
 refine F37.law _ _ _ _ hr.big (F38.law _ _ _ _ (F37.law _ _ _ _ hr.big ?_))
 rw [basesL_comm r b a]
 refine iteB (fun h => by simp at h) fun _ => iteB (fun h => by simp at h) fun _ => F67.law _ _ ?_
 have none : (verIn r a && verIn r b) = false → ((((basesL r a b).length : Int) == 0) = true) := fun h => by unfold basesL; rw [h]; rfl
 refine iteB (fun h => ?_) fun ho => iteB (fun h1 => ?_) fun h1 => iteB (fun h2 => ?_) fun h2 => iteB (fun h3 => ?_) fun h3 => iteB (fun h4 => ?_) fun h4 => ?_
 ·exact none (by unfold verIn; rw [show repoOk r = false by simpa using h]; rfl)
 ·simp only [decide_eq_true_eq] at h1
  exact none (by unfold verIn; rw [decide_eq_false (show ¬ 0 ≤ a by omega), Bool.false_and, Bool.and_false]; rfl)
 ·simp only [decide_eq_true_eq] at h2
  exact none (by unfold verIn; rw [decide_eq_false (show ¬ 0 ≤ b by omega), Bool.false_and, Bool.and_false, Bool.and_false])
 ·simp only [decide_eq_true_eq, ge_iff_le] at h3
  exact none (by unfold verIn; rw [decide_eq_false (show ¬ a < (r.Commits.length : Int) by omega), Bool.and_false, Bool.and_false]; rfl)
 ·simp only [decide_eq_true_eq, ge_iff_le] at h4
  exact none (by unfold verIn; rw [decide_eq_false (show ¬ b < (r.Commits.length : Int) by omega), Bool.and_false, Bool.and_false, Bool.and_false])
 have ho : repoOk r = true := by simpa using ho
 simp only [decide_eq_false_iff_not, ge_iff_le] at h1 h2 h3 h4
 have va : 0 ≤ a ∧ a < (r.Commits.length : Int) := by omega
 have vb : 0 ≤ b ∧ b < (r.Commits.length : Int) := by omega
 have L1 : ∀ x y (Q : Bool → Prop), Q (ahead r x y) → F35.E r x y Q := fun x y Q h => F35.law _ _ _ _ hr.big h
 obtain ⟨A, rfl⟩ := Int.eq_ofNat_of_zero_le va.1
 obtain ⟨B, rfl⟩ := Int.eq_ofNat_of_zero_le vb.1
 have hA : A < r.Commits.length := by omega
 have hB : B < r.Commits.length := by omega
 have h14 := repoOk_len ho
 have up : Ups r := fun k hk => repoOk_up ho hk
 have el : basesL r (A : Int) (B : Int) = told (baseM r A B) r.Commits.length := by unfold basesL; rw [ver_in ho va, ver_in ho vb]; rfl
 rw [el]
 have hll := told_len (baseM r A B) r.Commits.length
 have hmem : ∀ x, x ∈ told (baseM r A B) r.Commits.length ↔ 0 ≤ x ∧ x < (r.Commits.length : Int) ∧ nth (baseM r A B) x = true := fun x => told_mem
 have hinj : ∀ i k : Nat, i < (told (baseM r A B) r.Commits.length).length → k < (told (baseM r A B) r.Commits.length).length → nth (told (baseM r A B) r.Commits.length) (i : Int) = nth (told (baseM r A B) r.Commits.length) (k : Int) → i = k := fun i k hi hk h => told_inj hi hk h
 have hgt := told_gt (baseM r A B) r.Commits.length
 generalize told (baseM r A B) r.Commits.length = l at *
 -- an element of the list
 have elem : ∀ i : Int, 0 ≤ i ∧ i < (l.length : Int) → ∃ k : Nat, nth l i = (k : Int) ∧ k < r.Commits.length ∧ nth (baseM r A B) (k : Int) = true ∧ com r A B k = true := fun i hi => by
  have h := (hmem _).1 (nth_memi l hi.1 hi.2)
  obtain ⟨k, e⟩ := Int.eq_ofNat_of_zero_le h.1
  rw [e] at h ⊢
  exact ⟨k, rfl, OM, h.2.2, ((baseM_iff OM).1 h.2.2).1⟩
 have ah : ∀ x y : Nat, x < r.Commits.length → y < r.Commits.length → (ahead r (x : Int) (y : Int) = true ↔ Reach r y x) := fun x y hx hy => ahead_iff ho ⟨OM, OM⟩ ⟨OM, OM⟩
 have ci := com_iff ho hA hB
 refine ⟨fun xs ys zs i cs hs => l = xs ∧ l = ys ∧ l = zs ∧ 0 ≤ i ∧ cs = r.Commits ∧ hs = r.Heads, fun _ _ _ i _ _ => ((l.length : Int) - i).toNat, ⟨rfl, rfl, rfl, Int.le_refl _, rfl, rfl⟩, ?_⟩
 rintro _ _ _ i _ _ ⟨rfl, rfl, rfl, hi0, rfl, rfl⟩
 refine iteB (fun hi => ?_) fun hi => ?_
 ·simp only [decide_eq_true_eq] at hi
  obtain ⟨k, ek, hk, hM, hC⟩ := elem i ⟨hi0, hi⟩
  refine ⟨⟨hi0, hi⟩, ⟨hi0, hi⟩, iteB (fun h => by simp at h) fun _ => ⟨⟨hi0, hi⟩, ⟨hi0, hi⟩, iteB (fun h => by simp at h) fun _ => ⟨⟨hi0, hi⟩, _, L1 _ _ _ rfl, ?_⟩⟩⟩
  rw [ek, (ah k A hk hA).2 ((ci k).1 hC).1]
  refine iteB (fun h => by simp at h) fun _ => ⟨⟨hi0, hi⟩, _, L1 _ _ _ rfl, ?_⟩
  rw [(ah k B hk hB).2 ((ci k).1 hC).2]
  refine iteB (fun h => by simp at h) fun _ => ⟨fun z => 0 ≤ z, fun z => ((l.length : Int) - z).toNat, Int.le_refl _, fun z hz0 => iteB (fun hz => ?_) fun hz => ?_⟩
  ·simp only [decide_eq_true_eq] at hz
   refine iteB (fun hne => ⟨⟨hz0, hz⟩, ⟨hi0, hi⟩, _, L1 _ _ _ rfl, ?_⟩) fun _ => ⟨OM, OM, by dsimp only; omega⟩
   obtain ⟨k2, ek2, hk2, hM2, hC2⟩ := elem z ⟨hz0, hz⟩
   have hf : ahead r (k2 : Int) (k : Int) = false := by
    cases g : ahead r (k2 : Int) (k : Int) with
    | false => rfl
    | true =>
     have e := base_low ho hA hB hM2 hk2 hC ((ah k2 k hk2 hk).1 g)
     have := hinj i.toNat z.toNat OM OM (by rw [Int.toNat_of_nonneg hi0, Int.toNat_of_nonneg hz0, ek, ek2, e])
     have : z = i := by omega
     rw [this] at hne
     simp at hne
   rw [ek2, hf]
   exact iteB (fun h => by cases h) fun _ => ⟨OM, OM, by dsimp only; omega⟩
  ·exact ⟨OM, ⟨rfl, rfl, rfl, OM, rfl, rfl⟩, by dsimp only; omega⟩
 refine ⟨fun xs i cs hs => l = xs ∧ 0 ≤ i ∧ cs = r.Commits ∧ hs = r.Heads, fun _ i _ _ => ((r.Commits.length : Int) - i).toNat, ⟨rfl, Int.le_refl _, rfl, rfl⟩, ?_⟩
 rintro _ i _ _ ⟨rfl, hi0, rfl, rfl⟩
 refine iteB (fun hi => ?_) fun hi => ?_
 ·simp only [decide_eq_true_eq] at hi
  obtain ⟨i, rfl⟩ := Int.eq_ofNat_of_zero_le hi0
  have hi2 : i < r.Commits.length := by omega
  have key : (l.any fun j => ahead r (i : Int) j) = (ahead r (i : Int) (A : Int) && ahead r (i : Int) (B : Int)) := by
   rw [Bool.eq_iff_iff, List.any_eq_true, Bool.and_eq_true, ah i A hi2 hA, ah i B hi2 hB, ← ci i]
   constructor
   ·rintro ⟨x, hx, h⟩
    have hx := (hmem x).1 hx
    obtain ⟨k, rfl⟩ := Int.eq_ofNat_of_zero_le hx.1
    have hk : k < r.Commits.length := by omega
    exact com_down ho hA hB ((baseM_iff hk).1 hx.2.2).1 ((ah i k hi2 hk).1 h)
   ·intro h
    obtain ⟨k, g1, g2, g3⟩ := base_of ho hA hB _ i rfl h
    exact ⟨(k : Int), (hmem _).2 ⟨OM, OM, g2⟩, (ah i k hi2 g1).2 g3⟩
  refine ⟨fun s k => ∃ u : Nat, k = (u : Int) ∧ u ≤ l.length ∧ s = (l.take u).any fun j => ahead r (i : Int) j, fun _ k => ((l.length : Int) - k).toNat, ⟨0, rfl, Nat.zero_le _, rfl⟩, ?_⟩
  rintro _ _ ⟨u, rfl, hu, rfl⟩
  refine iteB (fun hl => ?_) fun hl => ?_
  ·simp only [decide_eq_true_eq] at hl
   have hl2 : u < l.length := by omega
   have e : ((l.take (u + 1)).any fun j => ahead r (i : Int) j) = (((l.take u).any fun j => ahead r (i : Int) j) || ahead r (i : Int) (nth l (u : Int))) := by
    rw [take_nth l hl2, List.any_append]; simp
   refine iteB (fun hs => ⟨OM, ⟨u + 1, OM, OM, by rw [e, hs]; rfl⟩, by dsimp only; omega⟩) fun hs => ⟨OM, _, L1 _ _ _ rfl, OM, ⟨u + 1, OM, OM, by rw [e, hs]; rfl⟩, by dsimp only; omega⟩
  ·simp only [decide_eq_false_iff_not] at hl
   have : u = l.length := by omega
   rw [this, List.take_length, key]
   have fin : ((l.length : Int) ≤ 9223372036854775807 → I64 ((i : Int) + 1)) ∧ (l = l ∧ 0 ≤ (i : Int) + 1 ∧ r.Commits = r.Commits ∧ r.Heads = r.Heads) ∧ ((r.Commits.length : Int) - ((i : Int) + 1)).toNat < ((r.Commits.length : Int) - (i : Int)).toNat :=
    ⟨fun _ => by unfold I64; omega, ⟨rfl, OM, rfl, rfl⟩, OM⟩
   refine L1 _ _ _ (iteB (fun h => L1 _ _ _ (iteB (fun g => ?_) fun _ => fin)) fun h => iteB (fun g => ?_) fun _ => fin)
   ·rw [h] at g; simp at g
   ·rw [h] at g; simp at g
 have c0 : com r A B 0 = true := (ci 0).2 ⟨reach_root ho _ hA, reach_root ho _ hB⟩
 have pos : 0 < l.length := by
  obtain ⟨k, g1, g2, _⟩ := base_of ho hA hB _ 0 rfl c0
  exact List.length_pos_of_mem ((hmem (k : Int)).2 ⟨OM, OM, g2⟩)
 refine iteB (fun _ => L1 _ _ _ (iteB (fun _ => rfl) fun h => ?_)) fun h => ?_
 ·have hAB : Reach r B A := (ah A B hA hB).1 (by simpa using h)
  have hone : l = [(A : Int)] := by
   refine told_one hgt fun x => ?_
   rw [hmem x]
   constructor
   ·rintro ⟨x0, x1, hx⟩
    obtain ⟨k, rfl⟩ := Int.eq_ofNat_of_zero_le x0
    have hk : k < r.Commits.length := by omega
    have hcA : com r A B A = true := (ci A).2 ⟨.refl _, hAB⟩
    have := base_low ho hA hB hx hk hcA ((ci k).1 ((baseM_iff hk).1 hx).1).1
    omega
   ·rintro rfl
    refine ⟨OM, OM, (baseM_iff hA).2 ⟨(ci A).2 ⟨.refl _, hAB⟩, fun i hi hc hm => ?_⟩⟩
    have h1 := Reach.le up ((ci i).1 hc).1 hA
    have h2 := up i hi _ hm
    omega
  rw [hone]
  exact iteB (fun _ => ⟨by simp, by show (_ == _) = true; rw [show nth [(A : Int)] 0 = (A : Int) from rfl]; simp⟩) fun h => by simp at h
 ·simp only [decide_eq_false_iff_not] at h
  omega
end Go.Proofs.Ytemeihpokbleaaa
namespace Go.Proofs.Ytemeihpokbleaaa.rFnRepoBases
open Go.ChangeShapes Go.WideShapes Go.ChangeAt Go.RowKit
open Go.ChangeMaps (open_string shut_string)
set_option linter.unusedVariables false
theorem own : ownKnob Try.prog.godebug = none := by kernel_rfl
theorem laidOut : laidOutB Try.prog = true := by kernel_rfl
set_option maxHeartbeats 4000000 in
set_option maxRecDepth 100000 in
theorem lifted (os : Os) (started : os.Started) (H : Type) (enc : TypeId × Value → H) :
    ReturnsInHanded {} Try.checked os 6 .any (Rows.fnRepoBasesSpec.pre6 enc Try.prog Try.f6 Rows.fnRepoBasesRow.domain false) (Rows.fnRepoBasesSpec.post enc Try.prog Try.f6 false true false false) := by
  refine returnsInHanded_of_change_sized (C := Try.checked) own started (by kernel_rfl) Try.func6
    (ChangeSpec.witness6 (enc := enc) (C := Try.checked) false ⟨#[], #[.slice none 0 0], []⟩ 8 (by kernel_rfl) (by kernel_rfl) (by kernel_rfl) (by kernel_rfl)) ?_
  intro W base args ds gs before hval0 hW hcnd hsz0 _
  have hval : ∀ (j : Nat) t v, Try.f6.params[j]? = some t → args[j]? = some v → Value.okWide Try.prog W .any base t v := hval0
  have hW' := hW
  obtain ⟨p, q, hA0, hV, rfl, hfz, hnd⟩ := hW
  have hA : DataW.TrodAll enc Try.prog W 0 (fun _ => true) true Try.f6.params.toList args.toList ds p := hA0
  rw [Try.params6] at hA hval
  obtain ⟨v0, vs0, d0, ds0, p0, q0, hargs, rfl, rfl, h0, r0⟩ := trodAll_cons hA
  obtain ⟨rfl, rfl, rfl⟩ := trodAll_nil r0
  obtain rfl : args = #[v0] := by cases args; simp_all
  obtain ⟨rfl, rfl⟩ := trodVars_none hV
  have k0 := h0
  have lt0 : ∀ x ∈ p0, x.block < W.heap.size := by obtain ⟨m, hm⟩ := k0; exact DataW.trod_lt m _ _ _ hm
  obtain ⟨x0, hv0, hx0⟩ : ∃ a : List UInt8, (∀ y0 ∈ a, True) ∧ (Kd.sl Kd.byte).R W (Fr []) a v0.cells.toList := by obtain ⟨fuel, hf⟩ := h0; exact (Tr.sl Try.underlying22 (by kernel_rfl) (Tr.byte Try.underlying5)) H enc W fuel _ _ hf
  obtain ⟨a0, n0, c0, rfl⟩ := okWide_slice Try.underlying22 (hval 0 22 v0 rfl rfl)
  have s0 : Sl Kd.byte W (Fr []) (.slice a0 n0 c0) x0 := by obtain ⟨_, e, h⟩ := hx0; simp [Value.cells] at e; subst e; exact h
  clear hA0 hval0 hsz0
  refine Calls.mono (laws_FnRepoBases.calls W (Ok.nil W) x0 a0 n0 c0 s0 (fun r => r = true) (laws_FnRepoBases.law x0 hv0)) fun e W' ⟨v, he, r, hr, hq, hg⟩ => ?_
  subst he; subst hr; subst hq
  have bel := Gr.below hg
  exact ⟨_, rfl, _, _, _, [], _, [], hW', trodAll_mk1 (shut_bool Try.underlying4 _), (trodAll_cons_mk (Below.trod laidOut (by kernel_rfl) (of_decide_eq_true (by kernel_rfl)) k0 bel lt0) trodAll_mk0), rfl, bel.frame _, fun h => by cases h⟩
theorem over : Rows.fnRepoBasesRow.holds Try.pinned (OpenSpec.ofChange Rows.fnRepoBasesSpec) :=
  OpenClaim.holds_of_wide 6 Try.f6 rfl rfl rfl rfl rfl rfl rfl ⟨rfl, rfl, rfl, rfl, rfl⟩ rfl rfl rfl rfl rfl (by kernel_rfl) Try.func6 (by kernel_rfl)
    (of_decide_eq_true (by kernel_rfl)) (by unfold Func.isWrapper; first | (rw [if_pos (by decide +kernel)]; kernel_rfl) | (rw [if_neg (by decide +kernel)]; exact ⟨rfl, rfl⟩))
    (fun os started H enc _ => lifted os started H enc)
theorem proved : Rows.FnRepoBasesSaid := over
#print axioms proved
end Go.Proofs.Ytemeihpokbleaaa.rFnRepoBases
namespace Go.Proofs.Ytemeihpokbleaaa
theorem fnRepoBases_holds : Rows.FnRepoBasesSaid := rFnRepoBases.proved
end Go.Proofs.Ytemeihpokbleaaa