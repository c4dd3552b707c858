/- It is proved here that the law FnExactDiffDo of the given program holds whatever it is handed: the walks through the code, the plain laws and the row, in this order.
   Conditions: none. -/
import Derived.Below
import Derived.ChangeArms
import Derived.ChangeOld
import Derived.ChangeSlices
import Derived.DataReads
import Derived.Deep.MidRow
import Derived.Deep.Quiet
import Derived.Deep.RegionLaw
import Derived.Deep.Upon
import Derived.KernelRfl
import Derived.Laws.Build
import Derived.Laws.IdiomStrings
import Derived.Laws.OwnMore
import Derived.Laws.Slices
import Derived.Laws.StructEq
import Derived.Lib.SliceRun
import Derived.OpenShut
import Derived.ProofKit
import Derived.Shelf.SlSortCmp.NoneTotal
import Derived.Shelf.SlSortCmp.WholeK
import Derived.Shelf.Slices.Cells
import Derived.Shelf.Slices.CompactS
import Derived.Shelf.Slices.In.SortNone
import Derived.Shelf.Small.Bits
import Derived.Shelf.Sort.Plain
import Derived.Shelf.Strconv.Itoa0
import Derived.ShutString
import Derived.SizedLaws
import Derived.StillTail
import Derived.Test.YtndjggncgpjolaaGreatProg
import Derived.Test.YtndjggncgpjolaaGreatRows
import Derived.WalkKit
import Derived.Test.YtndjggncgpjolaaGreatCExactDiffDoa
namespace Go.Proofs.YtndjggncgpjolaaGreat
set_option linter.unusedVariables false
set_option linter.unusedSimpArgs false
set_option linter.unusedSectionVars false
set_option maxHeartbeats 8000000
set_option maxRecDepth 100000
section
open Go.RowKit
def F34.E (a : Change) (Q : Change → Prop) : Prop :=
 F71.E a.Was (fun r => F71.E a.Now (fun r2 => Q (⟨a.Id, a.Had, r, a.Has, r2⟩ : Change)))
theorem F34.calls {O : Ob} (w0 : World) (hO : Ok w0 O) (a : Change) (A3 : Option Addr) (n4 c5 : Nat) (A8 : Option Addr) (n9 ao : Nat) (ap : Option Addr) (aq ar : Nat) (au : Option Addr) (av aw : Nat) (hs1 : Lim a.Id) (hs2 : Lim a.Was.Id) (hp6 : Sl kPt w0 (Fr O) (.slice A3 n4 c5) a.Was.Shape.Pts) (bx : Sl kTag w0 (Fr O) (.slice A8 n9 ao) a.Was.Tags) (bz : Lim a.Now.Id) (b0 : Sl kPt w0 (Fr O) (.slice ap aq ar) a.Now.Shape.Pts) (b1 : Sl kTag w0 (Fr O) (.slice au av aw) a.Now.Tags) (Q : Change → Prop) (h : F34.E a Q) :
  Ret Tryz.prog 30 [.agg #[vs a.Id, vb a.Had, vs a.Was.Id, vi a.Was.Shape.Kind, .slice A3 n4 c5, .slice A8 n9 ao, vb a.Has, vs a.Now.Id, vi a.Now.Shape.Kind, .slice ap aq ar, .slice au av aw]] w0 (fun v w' => ∃ (r0 : Change) (A0 : Option Addr) (n0 c0 : Nat) (A2 : Option Addr) (n2 c2 : Nat) (A4 : Option Addr) (n4 c4 : Nat) (A6 : Option Addr) (n6 c6 : Nat), v = .agg #[vs r0.Id, vb r0.Had, vs r0.Was.Id, vi r0.Was.Shape.Kind, .slice A0 n0 c0, .slice A2 n2 c2, vb r0.Has, vs r0.Now.Id, vi r0.Now.Shape.Kind, .slice A4 n4 c4, .slice A6 n6 c6] ∧ Q r0 ∧ Gr w0 w' none ∧ Ok w' ([bk A0, bk A2, bk A4, bk A6] ++ O) ∧ (∀ b, some b ∈ [bk A0, bk A2, bk A4, bk A6] → w0.heap.size ≤ b) ∧ Lim r0.Id ∧ Lim r0.Was.Id ∧ Ow kPt 114 w' ([bk A0, bk A2, bk A4, bk A6] ++ O) (.slice A0 n0 c0) r0.Was.Shape.Pts ∧ Ow kTag 106 w' ([bk A0, bk A2, bk A4, bk A6] ++ O) (.slice A2 n2 c2) r0.Was.Tags ∧ Lim r0.Now.Id ∧ Ow kPt 114 w' ([bk A0, bk A2, bk A4, bk A6] ++ O) (.slice A4 n4 c4) r0.Now.Shape.Pts ∧ Ow kTag 106 w' ([bk A0, bk A2, bk A4, bk A6] ++ O) (.slice A6 n6 c6) r0.Now.Tags) := by
 unfold F34.E at h
 have H := h
 clear h
 have hc0 := Ct.init hO
 refine Ret_enter Tryz.func30 rfl 22 rfl [.cell 2 63] rfl rfl ?_
 refine W_seq (W_reg (L_box [vs a.Id, vb a.Had, vs a.Was.Id, vi a.Was.Shape.Kind, .slice A3 n4 c5, .slice A8 n9 ao, vb a.Has, vs a.Now.Id, vi a.Now.Shape.Kind, .slice ap aq ar, .slice au av aw] rfl fun dc ab b2 hu28 b3 b4 => ?_))
 have b5 := Fb.mk hc0.ok b2 b4
 have bl := hc0.k0 b3
 refine L_alloc [vs [], vb false, vs [], .int .i64 0, .slice none 0 0, .slice none 0 0, vb false, vs [], .int .i64 0, .slice none 0 0, .slice none 0 0] ze63 fun dd bn bo hu37 bp b6 => ?_
 have bq := bl.own bp (some bn) (oglt bo hu37)
 refine L_nil (W_seq (W_reg (L_alloc [vs [], vb false, vs [], .int .i64 0, .slice none 0 0, .slice none 0 0, vb false, vs [], .int .i64 0, .slice none 0 0, .slice none 0 0] ze63 fun de aa br hu45 bd b7 => ?_)))
 have be := bq.own bd (some aa) (oglt br hu45)
 refine L_nil (W_seq (W_reg (L_pu (P_fa fa52_0 ⟨ab, 0, none⟩ ⟨ab, 0, none⟩ rfl rfl) ?_)))
 have b8 := bl.stown _ bp (oge bo)
 have b9 := bq.stown _ bd (oge br)
 have bs := ((b5.st b8).st b9)
 refine L_pu (P_ld ag9 cL ⟨ab, 0, none⟩ (vs a.Id) rfl (bs.cell rfl)) (L_pu (P_fa fa63_0 ⟨aa, 0, none⟩ ⟨aa, 0, none⟩ rfl rfl) (L_stb aa 0 [vs ([] : Str), vb false, vs ([] : Str), vi 0, .slice none 0 0, .slice none 0 0, vb false, vs ([] : Str), vi 0, .slice none 0 0, .slice none 0 0] [vs a.Id] [vs a.Id, vb false, vs ([] : Str), vi 0, .slice none 0 0, .slice none 0 0, vb false, vs ([] : Str), vi 0, .slice none 0 0, .slice none 0 0] rfl b7 rfl sz9 rfl rfl rfl fun df bf ca => ?_))
 have bg := be.wr 0 rfl bf
 refine L_nil (W_seq (W_reg (L_pu (P_fa fa52_1 ⟨ab, 0, none⟩ ⟨ab, 1, none⟩ rfl rfl) ?_)))
 have cb := be.stw 0 rfl bf
 have bt := (bs.st cb)
 refine L_pu (P_ld ag4 cL ⟨ab, 1, none⟩ (vb a.Had) rfl (bt.cell rfl)) (L_pu (P_fa fa63_1 ⟨aa, 0, none⟩ ⟨aa, 1, none⟩ rfl rfl) (L_stb aa 1 [vs a.Id, vb false, vs ([] : Str), vi 0, .slice none 0 0, .slice none 0 0, vb false, vs ([] : Str), vi 0, .slice none 0 0, .slice none 0 0] [vb a.Had] [vs a.Id, vb a.Had, vs ([] : Str), vi 0, .slice none 0 0, .slice none 0 0, vb false, vs ([] : Str), vi 0, .slice none 0 0, .slice none 0 0] rfl ca rfl sz4 rfl rfl rfl fun cc bh cd => ?_))
 have a3 := bg.wr 0 rfl bh
 refine L_nil (W_seq (W_reg (L_pu (P_fa fa52_2 ⟨ab, 0, none⟩ ⟨ab, 2, none⟩ rfl rfl) ?_)))
 have ce := bg.stw 0 rfl bh
 have bu := (bt.st ce)
 refine L_pu (P_lda ag49 sz49 cL ⟨ab, 2, none⟩ [vs a.Was.Id, vi a.Was.Shape.Kind, .slice A3 n4 c5, .slice A8 n9 ao] rfl rfl (bu.cells (off := 2) rfl)) ?_
 refine L_call go29 [.agg #[vs a.Was.Id, vi a.Was.Shape.Kind, .slice A3 n4 c5, .slice A8 n9 ao]] rfl ((F71.calls cc a3.ok a.Was A3 n4 c5 A8 n9 ao hs2 (hp6.st a3.st) (bx.st a3.st) _ H).mono ?_)
 rintro _ dg ⟨r, ac, ae, af, ad, ag, ah, rfl, H, bb, cf, bv, cg, ch, ci⟩
 have a4 := a3.owns bb cf bv
 refine L_pu (P_fa fa63_2 ⟨aa, 0, none⟩ ⟨aa, 2, none⟩ rfl rfl) ?_
 have cj := (cd.k0 bb)
 refine L_stb aa 2 [vs a.Id, vb a.Had, vs ([] : Str), vi 0, .slice none 0 0, .slice none 0 0, vb false, vs ([] : Str), vi 0, .slice none 0 0, .slice none 0 0] [vs r.Id, vi r.Shape.Kind, .slice ac ae af, .slice ad ag ah] [vs a.Id, vb a.Had, vs r.Id, vi r.Shape.Kind, .slice ac ae af, .slice ad ag ah, vb false, vs ([] : Str), vi 0, .slice none 0 0, .slice none 0 0] rfl cj rfl sz61 rfl rfl rfl fun dh a5 ck => ?_
 have a6 := a4.wr 2 rfl a5
 refine L_nil (W_seq (W_reg (L_pu (P_fa fa52_3 ⟨ab, 0, none⟩ ⟨ab, 6, none⟩ rfl rfl) ?_)))
 have cl := a3.stos bb bv
 have cm := a4.stw 2 rfl a5
 have bw := ((bu.st cl).st cm)
 refine L_pu (P_ld ag4 cL ⟨ab, 6, none⟩ (vb a.Has) rfl (bw.cell rfl)) (L_pu (P_fa fa63_3 ⟨aa, 0, none⟩ ⟨aa, 6, none⟩ rfl rfl) (L_stb aa 6 [vs a.Id, vb a.Had, vs r.Id, vi r.Shape.Kind, .slice ac ae af, .slice ad ag ah, vb false, vs ([] : Str), vi 0, .slice none 0 0, .slice none 0 0] [vb a.Has] [vs a.Id, vb a.Had, vs r.Id, vi r.Shape.Kind, .slice ac ae af, .slice ad ag ah, vb a.Has, vs ([] : Str), vi 0, .slice none 0 0, .slice none 0 0] rfl ck rfl sz4 rfl rfl rfl fun cn a7 co => ?_))
 have bc := a6.wr 2 rfl a7
 refine L_nil (W_seq (W_reg (L_pu (P_fa fa52_4 ⟨ab, 0, none⟩ ⟨ab, 7, none⟩ rfl rfl) ?_)))
 have cp := a6.stw 2 rfl a7
 have cq := (bw.st cp)
 refine L_pu (P_lda ag49 sz49 cL ⟨ab, 7, none⟩ [vs a.Now.Id, vi a.Now.Shape.Kind, .slice ap aq ar, .slice au av aw] rfl rfl (cq.cells (off := 7) rfl)) ?_
 refine L_call go29 [.agg #[vs a.Now.Id, vi a.Now.Shape.Kind, .slice ap aq ar, .slice au av aw]] rfl ((F71.calls cn bc.ok a.Now ap aq ar au av aw bz (b0.st bc.st) (b1.st bc.st) _ H).mono ?_)
 rintro _ di ⟨r2, ai, ak, al, aj, am, an, rfl, H, a8, cr, bi, cs, ct, cu⟩
 have ax := bc.owns a8 cr bi
 refine L_pu (P_fa fa63_4 ⟨aa, 0, none⟩ ⟨aa, 7, none⟩ rfl rfl) ?_
 have cv := (co.k0 a8)
 refine L_stb aa 7 [vs a.Id, vb a.Had, vs r.Id, vi r.Shape.Kind, .slice ac ae af, .slice ad ag ah, vb a.Has, vs ([] : Str), vi 0, .slice none 0 0, .slice none 0 0] [vs r2.Id, vi r2.Shape.Kind, .slice ai ak al, .slice aj am an] [vs a.Id, vb a.Had, vs r.Id, vi r.Shape.Kind, .slice ac ae af, .slice ad ag ah, vb a.Has, vs r2.Id, vi r2.Shape.Kind, .slice ai ak al, .slice aj am an] rfl cv rfl sz61 rfl rfl rfl fun dj ay cw => ?_
 have a9 := ax.wr 4 rfl ay
 refine L_nil (W_seq (W_reg (L_pu (P_lda ag63 sz63 cL ⟨aa, 0, none⟩ [vs a.Id, vb a.Had, vs r.Id, vi r.Shape.Kind, .slice ac ae af, .slice ad ag ah, vb a.Has, vs r2.Id, vi r2.Shape.Kind, .slice ai ak al, .slice aj am an] rfl rfl (cw.cells (off := 0) rfl)) ?_)))
 have cx := (ax.bm ((a6.bm (a4.bm ((bg.bm (be.bm (b6.k0 bd) 1 0 rfl rfl rfl bf) 1 0 rfl rfl rfl bh).k0 bb) 3 2 rfl rfl rfl a5) 3 2 rfl rfl rfl a7).k0 a8) 5 4 rfl rfl rfl ay)
 refine L_stb bn 0 [vs ([] : Str), vb false, vs ([] : Str), vi 0, .slice none 0 0, .slice none 0 0, vb false, vs ([] : Str), vi 0, .slice none 0 0, .slice none 0 0] [vs a.Id, vb a.Had, vs r.Id, vi r.Shape.Kind, .slice ac ae af, .slice ad ag ah, vb a.Has, vs r2.Id, vi r2.Shape.Kind, .slice ai ak al, .slice aj am an] [vs a.Id, vb a.Had, vs r.Id, vi r.Shape.Kind, .slice ac ae af, .slice ad ag ah, vb a.Has, vs r2.Id, vi r2.Shape.Kind, .slice ai ak al, .slice aj am an] rfl cx rfl sz63 rfl rfl rfl fun dk ba cy => ?_
 have az := a9.wr 5 rfl ba
 refine L_nil (W_ret ?_)
 have cz := az.bgv cy 5 rfl
 have a0 := az.drop 5 rfl
 have a1 := a0.drop 4 rfl
 have a2 : ([bk ai, bk aj, bk ac, bk ad] : Ob).Perm [bk ac, bk ad, bk ai, bk aj] := (pc fun a => by (try simp only [pca, pcc, pcn, Nat.add_zero, Nat.zero_add]); first | done | ac_rfl)
 have bj := a1.perm a2
 have c1 := a0.std 4 rfl
 have c3 := a1.stp a2
 have c7 := ((cz.st c1).st c3)
 have c8 := (a1.sp (a0.sd (az.sd (a9.sw (ax.sw ((a6.sw (a4.sw ch 0 2 rfl rfl rfl a5) 0 2 rfl rfl rfl a7).sos a8 bi) 2 4 rfl rfl rfl ay) 2 5 rfl rfl rfl ba) 2 5 rfl rfl rfl) 2 4 rfl rfl rfl) a2)
 have c9 := (a1.sp (a0.sd (az.sd (a9.sw (ax.sw ((a6.sw (a4.sw ci 1 2 rfl rfl rfl a5) 1 2 rfl rfl rfl a7).sos a8 bi) 3 4 rfl rfl rfl ay) 3 5 rfl rfl rfl ba) 3 5 rfl rfl rfl) 3 4 rfl rfl rfl) a2)
 have da := (a1.sp (a0.sd (az.sd (a9.sw (ax.sw ct 0 4 rfl rfl rfl ay) 0 5 rfl rfl rfl ba) 0 5 rfl rfl rfl) 0 4 rfl rfl rfl) a2)
 have db := (a1.sp (a0.sd (az.sd (a9.sw (ax.sw cu 1 4 rfl rfl rfl ay) 1 5 rfl rfl rfl ba) 1 5 rfl rfl rfl) 1 4 rfl rfl rfl) a2)
 exact ⟨[.agg #[vs a.Id, vb a.Had, vs r.Id, vi r.Shape.Kind, .slice ac ae af, .slice ad ag ah, vb a.Has, vs r2.Id, vi r2.Shape.Kind, .slice ai ak al, .slice aj am an]], ⟨_, _, rfl, c7.1.res rfl ag63 sz63, rfl⟩, (⟨a.Id, a.Had, r, a.Has, r2⟩ : Change), ac, ae, af, ad, ag, ah, ai, ak, al, aj, am, an, rfl, H, bj.gr.g0, bj.ok, bj.ge, hs1, cg, c8, c9, cs, da, db⟩
end
section
open Go.RowKit
def F23.E (a : List Change) (Q : List Change → Prop) : Prop :=
 ((0 : Int) ≤ (a.length : Int) ∧ (a.length : Int) ≤ (268435456 : Int)) ∧ (∃ (I62 : (List Change) → Int → Prop) (mu63 : (List Change) → Int → Nat), I62 (List.replicate (a.length : Int).toNat ((⟨([] : Str), false, (⟨([] : Str), (⟨0, []⟩ : Shape), []⟩ : Feat), false, (⟨([] : Str), (⟨0, []⟩ : Shape), []⟩ : Feat)⟩ : Change) : Change)) 0 ∧ ∀ (xs2 : List Change) (i2 : Int), I62 xs2 i2 → (if decide (i2 < (a.length : Int)) then ((0 : Int) ≤ i2 ∧ i2 < (a.length : Int)) ∧ F34.E (nth a i2) (fun r => ((0 : Int) ≤ i2 ∧ i2 < (xs2.length : Int)) ∧ (-9223372036854775808 ≤ i2) ∧ I62 (xs2.set i2.toNat r) (i2 + 1) ∧ mu63 (xs2.set i2.toNat r) (i2 + 1) < mu63 xs2 i2) else Q xs2))
theorem F23.calls {O : Ob} (w0 : World) (hO : Ok w0 O) (a : List Change) (A1 : Option Addr) (n2 c3 : Nat) (hp4 : Sl kChange w0 (Fr O) (.slice A1 n2 c3) a) (Q : List Change → Prop) (h : F23.E a Q) :
  Ret Tryz.prog 9 [.slice A1 n2 c3] w0 (fun v w' => ∃ (r0 : List Change) (A0 : Option Addr) (n0 c0 : Nat) (q0 : Ob) (ra0 : List (List Value)), v = .slice A0 n0 c0 ∧ Q r0 ∧ Gr w0 w' none ∧ Ok w' ((bk A0 :: (q0 ++ [])) ++ O) ∧ (∀ b, some b ∈ (bk A0 :: (q0 ++ [])) → w0.heap.size ≤ b) ∧ Ow (Kd.cells 11) 63 w' ((bk A0 :: (q0 ++ [])) ++ O) (.slice A0 n0 c0) ra0 ∧ DArr dChange_63 w' q0 r0 ra0) := by
 unfold F23.E at h
 have H := h
 clear h
 have hc0 := Ct.init hO
 refine Ret_enter Tryz.func9 rfl 23 rfl [.tmp 2] rfl rfl ?_
 refine W_seq (W_reg (L_as (.slice none 0 0) rfl (L_nil (W_seq (W_reg (L_mv (.slice A1 n2 c3) rfl ?_))))))
 have hl6 := hp4.le
 refine L_pu (P_len Tryz.underlying23 A1 n2 c3 hp4.len rfl) ?_
 obtain ⟨hb7, H⟩ := H
 have bo : (dChange_63).D w0 ([] ++ ([] ++ (([] ++ (([] ++ [none]) ++ [none])) ++ ([] ++ ([] ++ (([] ++ [none]) ++ [none])))))) (⟨([] : Str), false, (⟨([] : Str), (⟨0, []⟩ : Shape), []⟩ : Feat), false, (⟨([] : Str), (⟨0, []⟩ : Shape), []⟩ : Feat)⟩ : Change) [vs ([] : Str), vb false, vs ([] : Str), vi 0, .slice none 0 0, .slice none 0 0, vb false, vs ([] : Str), vi 0, .slice none 0 0, .slice none 0 0] := (dChange_63.mk _ (⟨([] : Str), false, (⟨([] : Str), (⟨0, []⟩ : Shape), []⟩ : Feat), false, (⟨([] : Str), (⟨0, []⟩ : Shape), []⟩ : Feat)⟩ : Change) (by decide) (by decide) Ds.nil Ds.nil (by decide) Ds.nil Ds.nil)
 have b7 := DArr.rep bo (a.length : Int).toNat
 have a4 := none_rep (qs := ([] ++ ([] ++ (([] ++ (([] ++ [none]) ++ [none])) ++ ([] ++ ([] ++ (([] ++ [none]) ++ [none]))))))) (by simp) (a.length : Int).toNat
 refine L_make (kd := Kd.cells 11) ei30 hc0 [vs ([] : Str), vb false, vs ([] : Str), vi 0, .slice none 0 0, .slice none 0 0, vb false, vs ([] : Str), vi 0, .slice none 0 0, .slice none 0 0] (Dd.raw _ bo) (a.length : Int) rfl rfl hb7 fun b8 aa af ag b9 hr21 ca cb => ?_
 have a5 : ((List.replicate (a.length : Int).toNat ([] ++ ([] ++ (([] ++ (([] ++ [none]) ++ [none])) ++ ([] ++ ([] ++ (([] ++ [none]) ++ [none]))))))).flatten ++ ([bk aa] : Ob)).Perm (bk aa :: ((List.replicate (a.length : Int).toNat ([] ++ ([] ++ (([] ++ (([] ++ [none]) ++ [none])) ++ ([] ++ ([] ++ (([] ++ [none]) ++ [none]))))))).flatten ++ [])) := (pc fun a => by (try simp only [pca, pcc, pcn, Nat.add_zero, Nat.zero_add]); first | done | ac_rfl)
 have bp := ca.noned a4 a5
 have dl := St.noned b8 O a4 a5
 refine L_as (.slice aa af ag) rfl (L_nil (W_seq (W_seq (W_reg (L_as (vi 0) rfl (L_nil (W_block ?_)))))))
 obtain ⟨cc, cd, a6, H⟩ := H
 have ce := (Ow.noned cb a4 a5)
 have cf := (b7.k0 b9)
 refine W_loop (α := (List Change) × (List (List Value)) × Ob × Int) (fun (sv__ : (List Change) × (List (List Value)) × Ob × Int) t al => match sv__ with | (xs2, ai, ah, i2) => cc xs2 i2 ∧ Has t [(0, .slice A1 n2 c3), (3, .slice aa af ag), (4, vi i2)] ∧ Ct [] w0 al (bk aa :: (ah ++ [])) O ∧ Sl kChange al (Fr ((bk aa :: (ah ++ [])) ++ O)) (.slice A1 n2 c3) a ∧ Ow (Kd.cells 11) 63 al ((bk aa :: (ah ++ [])) ++ O) (.slice aa af ag) ai ∧ DArr dChange_63 al ah xs2 ai) (fun (sv__ : (List Change) × (List (List Value)) × Ob × Int) => match sv__ with | (xs2, _, _, i2) => cd xs2 i2) ((List.replicate (a.length : Int).toNat ((⟨([] : Str), false, (⟨([] : Str), (⟨0, []⟩ : Shape), []⟩ : Feat), false, (⟨([] : Str), (⟨0, []⟩ : Shape), []⟩ : Feat)⟩ : Change) : Change)), (List.replicate (a.length : Int).toNat [vs ([] : Str), vb false, vs ([] : Str), vi 0, .slice none 0 0, .slice none 0 0, vb false, vs ([] : Str), vi 0, .slice none 0 0, .slice none 0 0]), (List.replicate (a.length : Int).toNat ([] ++ ([] ++ (([] ++ (([] ++ [none]) ++ [none])) ++ ([] ++ ([] ++ (([] ++ [none]) ++ [none]))))))).flatten, 0) ⟨a6, (hasI rfl), bp, (hp4.st bp.st), ce, cf⟩ ?_
 rintro ⟨xs2, ai, ah, i2⟩ _ al ⟨a6, cg, am, ax, bq, br⟩
 obtain ⟨dm, rfl⟩ := Has.ins cg
 have H := H xs2 i2 a6
 refine W_seq (W_seq (W_reg (L_mv (vi i2) rfl (L_mv (.slice A1 n2 c3) rfl ?_))))
 have ch := ax.le
 refine L_pu (P_len Tryz.underlying23 A1 n2 c3 ax.len rfl) (L_pu (P_cmp i2 (a.length : Int) (decide (i2 < (a.length : Int))) rfl rfl rfl) (L_nil ?_))
 refine W_cond (decide (i2 < (a.length : Int))) rfl (fun ay => ?_) (fun ay => ?_)
 ·have H := ite_t H ay
  refine W_skip (W_seq (W_block (W_reg (L_mv (.slice aa af ag) rfl (L_mv (vi i2) rfl (L_mv (.slice A1 n2 c3) rfl (L_mv (vi i2) rfl ?_)))))))
  obtain ⟨bs, H⟩ := H
  obtain ⟨bt, dn, ci, dp, cj, ck⟩ := ax.get default (by decide) i2 bs
  obtain ⟨a7, a8, a9, ba, bb, bc, bd, be, bf, bg, bh, bi, rfl, cl, cm, cn, co, cp, cq, cr⟩ := kChange.op cj
  refine L_pu (P_ia Tryz.underlying23 se23 A1 bt n2 c3 ax.len i2 rfl ci rfl bs) (L_pu (P_lda ag52 sz52 cL (bt.add (i2.toNat * 11)) [vs ((nth a i2).Id), vb ((nth a i2).Had), vs ((nth a i2).Was.Id), vi ((nth a i2).Was.Shape.Kind), .slice a7 a8 a9, .slice ba bb bc, vb ((nth a i2).Has), vs ((nth a i2).Now.Id), vi ((nth a i2).Now.Shape.Kind), .slice bd be bf, .slice bg bh bi] rfl rfl ck) ?_)
  refine L_call go30 [.agg #[vs ((nth a i2).Id), vb ((nth a i2).Had), vs ((nth a i2).Was.Id), vi ((nth a i2).Was.Shape.Kind), .slice a7 a8 a9, .slice ba bb bc, vb ((nth a i2).Has), vs ((nth a i2).Now.Id), vi ((nth a i2).Now.Shape.Kind), .slice bd be bf, .slice bg bh bi]] rfl ((F34.calls al am.ok (nth a i2) a7 a8 a9 ba bb bc bd be bf bg bh bi cl cm cn co cp cq cr _ H).mono ?_)
  rintro _ cs ⟨r, ab, an, ao, ac, ap, aq, ad, ar, au, ae, av, aw, rfl, H, az, ct, bj, bu, bv, bw, bx, bz, b0, b1⟩
  have aj := am.owns az ct bj
  obtain ⟨a0, H⟩ := H
  have a1 := (bq.sos az bj)
  have a2 := (br.k0 az)
  have cu : (0 : Int) ≤ i2 ∧ i2 < (ai.length : Int) := by rw [a2.len]; exact a0
  obtain ⟨b2, dq, bl, cv, dr⟩ := a1.get default (by decide) i2 cu
  obtain rfl := Kd.cells.op cv
  refine L_pu (P_ia Tryz.underlying30 se30 aa b2 af ag (Dp.len a1 a2) i2 rfl bl rfl a0) ?_
  have cw : (dChange_63).D cs ([] ++ ([] ++ (([] ++ (([] ++ [bk ab]) ++ [bk ac])) ++ ([] ++ ([] ++ (([] ++ [bk ad]) ++ [bk ae])))))) r [vs r.Id, vb r.Had, vs r.Was.Id, vi r.Was.Shape.Kind, .slice ab an ao, .slice ac ap aq, vb r.Has, vs r.Now.Id, vi r.Now.Shape.Kind, .slice ad ar au, .slice ae av aw] := (dChange_63.mk _ r bu bv (Ds.ofOw kPt_flat bw) (Ds.ofOw kTag_flat bx) bz (Ds.ofOw kPt_flat b0) (Ds.ofOw kTag_flat b1))
  have b3 : (0 : Int) ≤ i2 ∧ i2 < (ai.length : Int) := by rw [a2.len]; exact a0
  obtain ⟨ds, b4, cx, cy, cz⟩ := a1.get default (by decide) i2 b3
  obtain rfl := Option.some.inj (bl.symm.trans cx)
  have b5 : b4.length = 11 := (Kd.cells 11).len cy
  refine L_ste0 (kd := Kd.cells 11) aa af ag ai a1 i2 b3 b2 bl 0 rfl [vs r.Id, vb r.Had, vs r.Was.Id, vi r.Was.Shape.Kind, .slice ab an ao, .slice ac ap aq, vb r.Has, vs r.Now.Id, vi r.Now.Shape.Kind, .slice ad ar au, .slice ae av aw] rfl sz63 rfl [vs r.Id, vb r.Had, vs r.Was.Id, vi r.Was.Shape.Kind, .slice ab an ao, .slice ac ap aq, vb r.Has, vs r.Now.Id, vi r.Now.Shape.Kind, .slice ad ar au, .slice ae av aw] b4 [vs r.Id, vb r.Had, vs r.Was.Id, vi r.Was.Shape.Kind, .slice ab an ao, .slice ac ap aq, vb r.Has, vs r.Now.Id, vi r.Now.Shape.Kind, .slice ad ar au, .slice ae av aw] cz b5 (whole_put b5) (Dd.raw _ cw) fun c1 ak c2 => ?_
  have b6 := aj.wr 4 rfl ak
  have c4 := (aj.sw bw 0 4 rfl rfl rfl ak)
  have c5 := (aj.sw bx 1 4 rfl rfl rfl ak)
  have c6 := (aj.sw b0 2 4 rfl rfl rfl ak)
  have c7 := (aj.sw b1 3 4 rfl rfl rfl ak)
  have c8 : (dChange_63).D c1 ([] ++ ([] ++ (([] ++ (([] ++ [bk ab]) ++ [bk ac])) ++ ([] ++ ([] ++ (([] ++ [bk ad]) ++ [bk ae])))))) r [vs r.Id, vb r.Had, vs r.Was.Id, vi r.Was.Shape.Kind, .slice ab an ao, .slice ac ap aq, vb r.Has, vs r.Now.Id, vi r.Now.Shape.Kind, .slice ad ar au, .slice ae av aw] := (dChange_63.mk _ r bu bv (Ds.ofOw kPt_flat c4) (Ds.ofOw kTag_flat c5) bz (Ds.ofOw kPt_flat c6) (Ds.ofOw kTag_flat c7))
  have c9 := (DArr.sm (L := (bk ab :: bk ac :: bk ad :: bk ae :: bk aa :: (ah ++ []))) (O := O) (i := 4) a2 aj rfl (fun b hb => (List.mem_append_left _ hb)) ak)
  obtain ⟨a3, bm, da, db⟩ := DArr.put c8 (Int.toNat i2) c9 (by have := a0; omega)
  have bn : ((bk ab :: bk ac :: bk ad :: bk ae :: bk aa :: (ah ++ [])) : Ob).Perm (bm ++ (bk aa :: (a3 ++ []))) := (show ((bk ab :: bk ac :: bk ad :: bk ae :: bk aa :: (ah ++ [])) : Ob).Perm ((ah ++ ([] ++ ([] ++ (([] ++ (([] ++ [bk ab]) ++ [bk ac])) ++ ([] ++ ([] ++ (([] ++ [bk ad]) ++ [bk ae]))))))) ++ (bk aa :: [])) from (pc fun a => by (try simp only [pca, pcc, pcn, Nat.add_zero, Nat.zero_add]); first | done | ac_rfl)).trans ((da.append_right (bk aa :: [])).trans (show ((bm ++ a3) ++ (bk aa :: []) : Ob).Perm (bm ++ (bk aa :: (a3 ++ []))) from (pc fun a => by (try simp only [pca, pcc, pcn, Nat.add_zero, Nat.zero_add]); first | done | ac_rfl)))
  have dc := b6.drops bn
  refine L_nil (W_reg (L_mv (vi i2) rfl ?_))
  obtain ⟨dd, H⟩ := H
  have de : I64 (i2 + 1) := i64_succ (of_decide_eq_true ay) ch dd
  refine L_pu (P_add i2 1 rfl rfl de) (L_as (vi (i2 + 1)) rfl (L_nil ?_))
  obtain ⟨df, dg⟩ := H
  have dh := am.stos az bj
  have di := aj.stw 4 rfl ak
  have dj := (((ax.st dh).st di).st (St.drops _ O bn))
  have dk := (b6.odr c2 bn 0 rfl)
  exact ⟨((xs2.set i2.toNat r), (ai.set i2.toNat [vs r.Id, vb r.Had, vs r.Was.Id, vi r.Was.Shape.Kind, .slice ab an ao, .slice ac ap aq, vb r.Has, vs r.Now.Id, vi r.Now.Shape.Kind, .slice ad ar au, .slice ae av aw]), a3, i2 + 1), dg, df, (hasI rfl), dc, dj, dk, db⟩
 have H := ite_f H ay
 refine W_exit (xin_hit ?_)
 exact W_seq (W_reg (L_mv (.slice aa af ag) rfl (L_as (.slice aa af ag) rfl (L_nil (W_ret ⟨[.slice aa af ag], ⟨_, rfl, rfl⟩, xs2, aa, af, ag, ah, ai, rfl, H, am.gr.g0, am.ok, am.ge, bq, br⟩)))))
end
section
open Go.RowKit
def F72.E (s : Str) (Q : Bool → Prop) : Prop :=
 (∃ (I8 : Int → Prop) (mu9 : Int → Nat), I8 0 ∧ ∀ (i2 : Int), I8 i2 → (if decide (i2 < (s.length : Int)) then ((0 : Int) ≤ i2 ∧ i2 < (s.length : Int)) ∧ (if decide (((nth s i2).toNat : Int) < 97) then Q false else ((0 : Int) ≤ i2 ∧ i2 < (s.length : Int)) ∧ (if decide (((nth s i2).toNat : Int) > 122) then Q false else (-9223372036854775808 ≤ i2) ∧ I8 (i2 + 1) ∧ mu9 (i2 + 1) < mu9 i2)) else (if decide ((s.length : Int) ≥ 1) then Q (decide ((s.length : Int) ≤ 6)) else Q false)))
theorem F72.calls {O : Ob} (w0 : World) (hO : Ok w0 O) (s : Str) (hs1 : Lim s) (Q : Bool → Prop) (h : F72.E s Q) :
  Ret Tryz.prog 90 [vs s] w0 (fun v w' => ∃ (r0 : Bool), v = vb r0 ∧ Q r0 ∧ Gr w0 w' none) := by
 unfold F72.E at h
 have H := h
 clear h
 have hc0 := Ct.init hO
 refine Ret_enter Tryz.func90 rfl 28 rfl [.tmp 2] rfl rfl ?_
 refine W_seq (W_reg (L_as (vb false) rfl (L_nil (W_seq (W_seq (W_reg (L_as (vi 0) rfl (L_nil ?_))))))))
 refine W_block ?_
 obtain ⟨I8, mu9, ad, H⟩ := H
 refine W_loop (α := Int) (fun (sv__ : Int) t w6 => match sv__ with | i2 => I8 i2 ∧ Has t [(0, vs s), (3, vi i2)] ∧ Ct [] w0 w6 [] O) (fun (sv__ : Int) => match sv__ with | i2 => mu9 i2) 0 ⟨ad, (hasI rfl), hc0⟩ ?_
 rintro i2 _ w6 ⟨ad, af, hc7⟩
 obtain ⟨an, rfl⟩ := Has.ins af
 have H := H i2 ad
 refine W_seq (W_seq (W_reg (L_mv (vi i2) rfl (L_mv (vs s) rfl ?_))))
 have ag := hs1
 refine L_pu (P_lens Tryz.underlying9 s rfl) (L_pu (P_cmp i2 (s.length : Int) (decide (i2 < (s.length : Int))) rfl rfl rfl) (L_nil ?_))
 refine W_cond (decide (i2 < (s.length : Int))) rfl (fun ac => ?_) (fun ac => ?_)
 ·have H := ite_t H ac
  refine W_skip (W_seq (W_block (W_seq (W_reg (L_mv (vs s) rfl (L_mv (vi i2) rfl ?_))))))
  obtain ⟨ah, H⟩ := H
  refine L_pu (P_index Tryz.underlying9 s i2 rfl rfl ah) (L_pu (P_cmp ((nth s i2).toNat : Int) 97 (decide (((nth s i2).toNat : Int) < 97)) rfl rfl rfl) (L_mv (vb (decide (((nth s i2).toNat : Int) < 97))) rfl ?_))
  rcases bool_or (decide (((nth s i2).toNat : Int) < 97)) with aa | aa
  ·have H := ite_t H aa
   refine L_pb aa rfl (L_pb aa rfl (L_pb aa rfl (L_pb aa rfl (L_pu (P_pick true (vb true) (by exact congrArg Value.bool aa) rfl) (L_nil (W_ct (b := true) rfl rfl ?_))))))
   exact W_seq (W_reg (L_as (vb false) rfl (L_nil (W_ret ⟨[vb false], ⟨_, rfl, rfl⟩, false, rfl, H, hc7.gr.g0⟩))))
  have H := ite_f H aa
  refine L_rb aa rfl (L_mv (vs s) rfl (L_rb aa rfl (L_mv (vi i2) rfl (L_rb aa rfl ?_))))
  obtain ⟨ai, H⟩ := H
  refine L_pu (P_index Tryz.underlying9 s i2 rfl rfl ai) (L_rb aa rfl (L_pu (P_cmp ((nth s i2).toNat : Int) 122 (decide (((nth s i2).toNat : Int) > 122)) rfl rfl rfl) (L_pu (P_pick false (vb (decide (((nth s i2).toNat : Int) > 122))) (by exact congrArg Value.bool aa) rfl) (L_nil ?_))))
  refine W_cond (decide (((nth s i2).toNat : Int) > 122)) rfl (fun ae => ?_) (fun ae => ?_)
  ·have H := ite_t H ae
   exact W_seq (W_reg (L_as (vb false) rfl (L_nil (W_ret ⟨[vb false], ⟨_, rfl, rfl⟩, false, rfl, H, hc7.gr.g0⟩))))
  have H := ite_f H ae
  refine W_skip (W_reg (L_mv (vi i2) rfl ?_))
  obtain ⟨aj, H⟩ := H
  have ak : I64 (i2 + 1) := i64_succ (of_decide_eq_true ac) ag aj
  refine L_pu (P_add i2 1 rfl rfl ak) (L_as (vi (i2 + 1)) rfl (L_nil ?_))
  obtain ⟨al, am⟩ := H
  exact ⟨i2 + 1, am, al, (hasI rfl), hc7⟩
 have H := ite_f H ac
 refine W_exit (xin_hit ?_)
 refine W_seq (W_reg (L_mv (vs s) rfl (L_pu (P_lens Tryz.underlying9 s rfl) (L_pu (P_cmp (s.length : Int) 1 (decide ((s.length : Int) ≥ 1)) rfl rfl rfl) (L_mv (vb (decide ((s.length : Int) ≥ 1))) rfl ?_)))))
 rcases bool_or (decide ((s.length : Int) ≥ 1)) with ab | ab
 ·have H := ite_t H ab
  refine L_rb ab rfl (L_mv (vs s) rfl (L_rb ab rfl (L_pu (P_lens Tryz.underlying9 s rfl) (L_rb ab rfl (L_pu (P_cmp (s.length : Int) 6 (decide ((s.length : Int) ≤ 6)) rfl rfl rfl) (L_pu (P_pick true (vb (decide ((s.length : Int) ≤ 6))) (by exact congrArg Value.bool ab) rfl) (L_as (vb (decide ((s.length : Int) ≤ 6))) rfl (L_nil ?_))))))))
  exact W_ret ⟨[vb (decide ((s.length : Int) ≤ 6))], ⟨_, rfl, rfl⟩, decide ((s.length : Int) ≤ 6), rfl, H, hc7.gr.g0⟩
 have H := ite_f H ab
 exact L_pb ab rfl (L_pb ab rfl (L_pb ab rfl (L_pu (P_pick false (vb false) (by exact congrArg Value.bool ab) rfl) (L_as (vb false) rfl (L_nil (W_ret ⟨[vb false], ⟨_, rfl, rfl⟩, false, rfl, H, hc7.gr.g0⟩))))))
end
section
open Go.RowKit
def F104.E (n : Int) (Q : Bool → Prop) : Prop :=
 (if decide (n ≥ (-1000)) then Q (decide (n ≤ 1000)) else Q false)
theorem F104.calls {O : Ob} (w0 : World) (hO : Ok w0 O) (n : Int) (Q : Bool → Prop) (h : F104.E n Q) :
  Ret Tryz.prog 146 [vi n] w0 (fun v w' => ∃ (r0 : Bool), v = vb r0 ∧ Q r0 ∧ Gr w0 w' none ∧ w' = w0) := by
 unfold F104.E at h
 have H := h
 clear h
 have hc0 := Ct.init hO
 refine Ret_enter Tryz.func146 rfl 9 rfl [.tmp 2] rfl rfl ?_
 refine W_seq (W_reg (L_as (vb false) rfl (L_nil (W_seq (W_reg (L_mv (vi n) rfl (L_pu (P_cmp n (-1000) (decide (n ≥ (-1000))) rfl rfl rfl) (L_mv (vb (decide (n ≥ (-1000)))) rfl ?_))))))))
 rcases bool_or (decide (n ≥ (-1000))) with hq1 | hq1
 ·have H := ite_t H hq1
  exact L_rb hq1 rfl (L_mv (vi n) rfl (L_rb hq1 rfl (L_pu (P_cmp n 1000 (decide (n ≤ 1000)) rfl rfl rfl) (L_pu (P_pick true (vb (decide (n ≤ 1000))) (by exact congrArg Value.bool hq1) rfl) (L_as (vb (decide (n ≤ 1000))) rfl (L_nil (W_ret ⟨[vb (decide (n ≤ 1000))], ⟨_, rfl, rfl⟩, decide (n ≤ 1000), rfl, H, hc0.gr.g0, rfl⟩)))))))
 have H := ite_f H hq1
 exact L_pb hq1 rfl (L_pb hq1 rfl (L_pu (P_pick false (vb false) (by exact congrArg Value.bool hq1) rfl) (L_as (vb false) rfl (L_nil (W_ret ⟨[vb false], ⟨_, rfl, rfl⟩, false, rfl, H, hc0.gr.g0, rfl⟩)))))
def F104.m (n : Int) : Bool := (if decide (n ≥ (-1000)) then (decide (n ≤ 1000)) else false)
theorem F104.fn (n : Int) : F104.E n (fun r => r = F104.m n) := by
 unfold F104.E F104.m
 (repeat' split) <;> simp_all
end
section
open Go.RowKit
def F105.E (p : List Pt) (Q : Bool → Prop) : Prop :=
 (∃ (I18 : Int → Prop) (mu19 : Int → Nat), I18 0 ∧ ∀ (i2 : Int), I18 i2 → (if decide (i2 < (p.length : Int)) then ((0 : Int) ≤ i2 ∧ i2 < (p.length : Int)) ∧ (if !(F104.m ((nth p i2).X)) then Q false else ((0 : Int) ≤ i2 ∧ i2 < (p.length : Int)) ∧ (if !(F104.m ((nth p i2).Y)) then Q false else (if decide (i2 > 0) then ((0 : Int) ≤ i2 ∧ i2 < (p.length : Int)) ∧ ((p.length : Int) ≤ 9223372036854775807 → I64 (i2 - 1)) ∧ ((0 : Int) ≤ i2 - 1 ∧ i2 - 1 < (p.length : Int)) ∧ (if eqPt (nth p i2) (nth p (i2 - 1)) then Q false else (-9223372036854775808 ≤ i2) ∧ I18 (i2 + 1) ∧ mu19 (i2 + 1) < mu19 i2) else (-9223372036854775808 ≤ i2) ∧ I18 (i2 + 1) ∧ mu19 (i2 + 1) < mu19 i2))) else Q (decide ((p.length : Int) ≤ 6))))
theorem F105.calls {O : Ob} (w0 : World) (hO : Ok w0 O) (p : List Pt) (A1 : Option Addr) (n2 c3 : Nat) (hp4 : Sl kPt w0 (Fr O) (.slice A1 n2 c3) p) (Q : Bool → Prop) (h : F105.E p Q) :
  Ret Tryz.prog 122 [.slice A1 n2 c3] w0 (fun v w' => ∃ (r0 : Bool), v = vb r0 ∧ Q r0 ∧ Gr w0 w' none) := by
 unfold F105.E at h
 have H := h
 clear h
 have hc0 := Ct.init hO
 refine Ret_enter Tryz.func122 rfl 45 rfl [.tmp 2] rfl rfl ?_
 refine W_seq (W_reg (L_as (vb false) rfl (L_nil (W_seq (W_seq (W_reg (L_as (vi 0) rfl (L_nil ?_))))))))
 refine W_block ?_
 obtain ⟨ax, ay, aj, H⟩ := H
 refine W_loop (α := Int) (fun (sv__ : Int) t ag => match sv__ with | i2 => ax i2 ∧ Has t [(0, .slice A1 n2 c3), (3, vi i2)] ∧ Ct [] w0 ag [] O ∧ Sl kPt ag (Fr ([] ++ O)) (.slice A1 n2 c3) p) (fun (sv__ : Int) => match sv__ with | i2 => ay i2) 0 ⟨aj, (hasI rfl), hc0, hp4⟩ ?_
 rintro i2 _ ag ⟨aj, az, ae, ad⟩
 obtain ⟨bu, rfl⟩ := Has.ins az
 have H := H i2 aj
 refine W_seq (W_seq (W_reg (L_mv (vi i2) rfl (L_mv (.slice A1 n2 c3) rfl ?_))))
 have ak := ad.le
 refine L_pu (P_len Tryz.underlying56 A1 n2 c3 ad.len rfl) (L_pu (P_cmp i2 (p.length : Int) (decide (i2 < (p.length : Int))) rfl rfl rfl) (L_nil ?_))
 refine W_cond (decide (i2 < (p.length : Int))) rfl (fun af => ?_) (fun af => ?_)
 ·have H := ite_t H af
  refine W_skip (W_seq (W_block (W_seq (W_draw (fun x => Gr ag x none) (by kernel_rfl) (by kernel_rfl) (Gr.drew _) ?_))))
  refine Q_mv (.slice A1 n2 c3) rfl (Q_mv (vi i2) rfl ?_)
  obtain ⟨am, H⟩ := H
  obtain ⟨ah, bv, a0, bw, a1, a2⟩ := ad.get default (by decide) i2 am
  obtain rfl := kPt.op a1
  refine Q_pu (P_ia Tryz.underlying56 se56 A1 ah n2 c3 ad.len i2 rfl a0 rfl am) (Q_pu (P_fa fa114_0 (ah.add (i2.toNat * 2)) ((ah.add (i2.toNat * 2)).add 0) rfl rfl) (Q_pu (P_ld ag3 cQ ((ah.add (i2.toNat * 2)).add 0) (vi ((nth p i2).X)) rfl (a2 0 _ rfl)) ?_))
  refine Q_call go146 [vi ((nth p i2).X)] rfl (vb (F104.m ((nth p i2).X))) (fun w g => (F104.calls w (ae.k0 g).ok ((nth p i2).X) _ (F104.fn ((nth p i2).X))).mono ?_) ?_
  ·rintro _ w ⟨r, rfl, rfl, g2, _⟩
   exact ⟨rfl, Gr.t0 g g2⟩
  refine Q_pu (P_not (F104.m ((nth p i2).X)) rfl) (Q_mv (vb (!(F104.m ((nth p i2).X)))) rfl ?_)
  rcases bool_or (!(F104.m ((nth p i2).X))) with ab | ab
  ·have H := ite_t H ab
   refine Q_pb ab rfl (Q_pb ab rfl (Q_pb ab rfl (Q_pb ab rfl (Q_pb ab rfl (Q_pb ab rfl (Q_pb ab rfl (Q_pu (P_pick true (vb true) (by exact congrArg Value.bool ab) rfl) (Q_mv (vb true) rfl ?_))))))))
   refine Q_pass (dj := 26) rfl rfl (.inl rfl) (Q_pass (dj := 26) rfl rfl (.inl rfl) (Q_pass (dj := 26) rfl rfl (.inl rfl) (Q_pn rfl (Q_pn rfl (Q_pn rfl (Q_pn rfl (Q_pn rfl (Q_pn rfl ?_))))))))
   refine Q_pn rfl (Q_pn rfl (Q_pn rfl (Q_pn rfl (Q_pass (dj := 26) rfl rfl (.inl rfl) (Q_pu (P_pick true (vb true) (by exact congrArg Value.bool rfl) rfl) (Q_nil fun bx a3 => ?_))))))
   have a4 := ae.k0 a3
   refine W_ct (b := true) rfl rfl ?_
   exact W_seq (W_reg (L_as (vb false) rfl (L_nil (W_ret ⟨[vb false], ⟨_, rfl, rfl⟩, false, rfl, H, a4.gr.g0⟩))))
  have H := ite_f H ab
  refine Q_rb ab rfl (Q_mv (.slice A1 n2 c3) rfl (Q_rb ab rfl (Q_mv (vi i2) rfl (Q_rb ab rfl ?_))))
  obtain ⟨an, H⟩ := H
  obtain ⟨ai, bz, a5, b0, a6, a7⟩ := ad.get default (by decide) i2 an
  obtain rfl := kPt.op a6
  refine Q_pu (P_ia Tryz.underlying56 se56 A1 ai n2 c3 ad.len i2 rfl a5 rfl an) (Q_rb ab rfl (Q_pu (P_fa fa114_1 (ai.add (i2.toNat * 2)) ((ai.add (i2.toNat * 2)).add 1) rfl rfl) (Q_rb ab rfl (Q_pu (P_ld ag3 cQ ((ai.add (i2.toNat * 2)).add 1) (vi ((nth p i2).Y)) rfl (a7 1 _ rfl)) (Q_rb ab rfl ?_)))))
  refine Q_call go146 [vi ((nth p i2).Y)] rfl (vb (F104.m ((nth p i2).Y))) (fun w g => (F104.calls w (ae.k0 g).ok ((nth p i2).Y) _ (F104.fn ((nth p i2).Y))).mono ?_) ?_
  ·rintro _ w ⟨r, rfl, rfl, g2, _⟩
   exact ⟨rfl, Gr.t0 g g2⟩
  refine Q_rb ab rfl (Q_pu (P_not (F104.m ((nth p i2).Y)) rfl) (Q_pu (P_pick false (vb (!(F104.m ((nth p i2).Y)))) (by exact congrArg Value.bool ab) rfl) (Q_mv (vb (!(F104.m ((nth p i2).Y)))) rfl ?_)))
  rcases bool_or (!(F104.m ((nth p i2).Y))) with ac | ac
  ·have H := ite_t H ac
   refine Q_pb ac rfl (Q_pb ac rfl (Q_pb ac rfl (Q_pn rfl (Q_pn rfl (Q_pn rfl (Q_pn rfl (Q_pn rfl (Q_pn rfl ?_))))))))
   refine Q_pn rfl (Q_pn rfl (Q_pn rfl (Q_pn rfl (Q_pb ac rfl (Q_pu (P_pick true (vb true) (by exact congrArg Value.bool ac) rfl) (Q_nil fun b1 a8 => ?_))))))
   have a9 := ae.k0 a8
   refine W_ct (b := true) rfl rfl ?_
   exact W_seq (W_reg (L_as (vb false) rfl (L_nil (W_ret ⟨[vb false], ⟨_, rfl, rfl⟩, false, rfl, H, a9.gr.g0⟩))))
  have H := ite_f H ac
  refine Q_rb ac rfl (Q_mv (vi i2) rfl (Q_rb ac rfl (Q_pu (P_cmp i2 0 (decide (i2 > 0)) rfl rfl rfl) (Q_rb ac rfl (Q_mv (vb (decide (i2 > 0))) rfl ?_)))))
  rcases bool_or (decide (i2 > 0)) with aa | aa
  ·have H := ite_t H aa
   refine Q_rb aa rfl (Q_mv (.slice A1 n2 c3) rfl (Q_rb aa rfl (Q_mv (vi i2) rfl (Q_rb aa rfl ?_))))
   obtain ⟨ao, H⟩ := H
   obtain ⟨ap, b2, ba, b3, bb, bc⟩ := ad.get default (by decide) i2 ao
   obtain rfl := kPt.op bb
   refine Q_pu (P_ia Tryz.underlying56 se56 A1 ap n2 c3 ad.len i2 rfl ba rfl ao) (Q_rb aa rfl (Q_pu (P_lda ag114 sz114 cQ (ap.add (i2.toNat * 2)) [vi ((nth p i2).X), vi ((nth p i2).Y)] rfl rfl bc) (Q_rb aa rfl (Q_mv (.slice A1 n2 c3) rfl (Q_rb aa rfl (Q_mv (vi i2) rfl (Q_rb aa rfl ?_)))))))
   obtain ⟨bd, H⟩ := H
   have be := bd (len_le ak)
   refine Q_pu (P_sub i2 1 rfl rfl be) (Q_rb aa rfl ?_)
   obtain ⟨aq, H⟩ := H
   obtain ⟨ar, b4, bf, b5, bg, bh⟩ := ad.get default (by decide) (i2 - 1) aq
   obtain rfl := kPt.op bg
   refine Q_pu (P_ia Tryz.underlying56 se56 A1 ar n2 c3 ad.len (i2 - 1) rfl bf rfl aq) (Q_rb aa rfl (Q_pu (P_lda ag114 sz114 cQ (ar.add ((i2 - 1).toNat * 2)) [vi ((nth p (i2 - 1)).X), vi ((nth p (i2 - 1)).Y)] rfl rfl bh) (Q_rb aa rfl (Q_pu (P_eq _ _ (eqPt (nth p i2) (nth p (i2 - 1))) (qt114 (nth p i2) (nth p (i2 - 1))) rfl rfl) (Q_rb ac rfl (Q_pu (P_pick true (vb (eqPt (nth p i2) (nth p (i2 - 1)))) (by exact congrArg Value.bool aa) rfl) (Q_pu (P_pick false (vb (eqPt (nth p i2) (nth p (i2 - 1)))) (by exact congrArg Value.bool ac) rfl) (Q_nil fun b6 au => ?_))))))))
   have av := ae.k0 au
   refine W_cond (eqPt (nth p i2) (nth p (i2 - 1))) rfl (fun al => ?_) (fun al => ?_)
   ·have H := ite_t H al
    exact W_seq (W_reg (L_as (vb false) rfl (L_nil (W_ret ⟨[vb false], ⟨_, rfl, rfl⟩, false, rfl, H, av.gr.g0⟩))))
   have H := ite_f H al
   refine W_skip (W_reg (L_mv (vi i2) rfl ?_))
   obtain ⟨bi, H⟩ := H
   have bj : I64 (i2 + 1) := i64_succ (of_decide_eq_true af) ak bi
   refine L_pu (P_add i2 1 rfl rfl bj) (L_as (vi (i2 + 1)) rfl (L_nil ?_))
   obtain ⟨bl, bm⟩ := H
   have bn := ae.stn au
   exact ⟨i2 + 1, bm, bl, (hasI rfl), av, (ad.st bn)⟩
  have H := ite_f H aa
  refine Q_pb aa rfl (Q_pb aa rfl (Q_pb aa rfl (Q_pb aa rfl (Q_pb aa rfl (Q_pb aa rfl (Q_pb aa rfl (Q_pb aa rfl (Q_pb aa rfl ?_))))))))
  refine Q_pb aa rfl (Q_rb ac rfl (Q_pu (P_pick false (vb false) (by exact congrArg Value.bool aa) rfl) (Q_pu (P_pick false (vb false) (by exact congrArg Value.bool ac) rfl) (Q_nil fun b7 aw => ?_))))
  have bo := ae.k0 aw
  refine W_cf (b := false) rfl rfl ?_
  refine W_skip (W_reg (L_mv (vi i2) rfl ?_))
  obtain ⟨bp, H⟩ := H
  have bq : I64 (i2 + 1) := i64_succ (of_decide_eq_true af) ak bp
  refine L_pu (P_add i2 1 rfl rfl bq) (L_as (vi (i2 + 1)) rfl (L_nil ?_))
  obtain ⟨br, bs⟩ := H
  have bt := ae.stn aw
  exact ⟨i2 + 1, bs, br, (hasI rfl), bo, (ad.st bt)⟩
 have H := ite_f H af
 refine W_exit (xin_hit ?_)
 exact W_seq (W_reg (L_mv (.slice A1 n2 c3) rfl (L_pu (P_len Tryz.underlying56 A1 n2 c3 ad.len rfl) (L_pu (P_cmp (p.length : Int) 6 (decide ((p.length : Int) ≤ 6)) rfl rfl rfl) (L_as (vb (decide ((p.length : Int) ≤ 6))) rfl (L_nil (W_ret ⟨[vb (decide ((p.length : Int) ≤ 6))], ⟨_, rfl, rfl⟩, decide ((p.length : Int) ≤ 6), rfl, H, ae.gr.g0⟩)))))))
end
section
open Go.RowKit
def F53.E (s : Shape) (Q : Bool → Prop) : Prop :=
 F105.E s.Pts (fun r => (if !r then Q false else (if s.Kind == 1 then Q ((s.Pts.length : Int) == 1) else (if s.Kind == 2 then Q (decide ((s.Pts.length : Int) ≥ 2)) else (if s.Kind == 3 then (if decide ((s.Pts.length : Int) ≥ 3) then ((0 : Int) ≤ 0 ∧ 0 < (s.Pts.length : Int)) ∧ ((s.Pts.length : Int) ≤ 9223372036854775807 → I64 ((s.Pts.length : Int) - 1)) ∧ ((0 : Int) ≤ (s.Pts.length : Int) - 1 ∧ (s.Pts.length : Int) - 1 < (s.Pts.length : Int)) ∧ Q (!(eqPt (nth s.Pts 0) (nth s.Pts ((s.Pts.length : Int) - 1)))) else Q false) else Q false)))))
theorem F53.calls {O : Ob} (w0 : World) (hO : Ok w0 O) (s : Shape) (A1 : Option Addr) (n2 c3 : Nat) (hp4 : Sl kPt w0 (Fr O) (.slice A1 n2 c3) s.Pts) (Q : Bool → Prop) (h : F53.E s Q) :
  Ret Tryz.prog 91 [.agg #[vi s.Kind, .slice A1 n2 c3]] w0 (fun v w' => ∃ (r0 : Bool), v = vb r0 ∧ Q r0 ∧ Gr w0 w' none) := by
 unfold F53.E at h
 have H := h
 clear h
 have hc0 := Ct.init hO
 refine Ret_enter Tryz.func91 rfl 38 rfl [.tmp 2] rfl rfl ?_
 refine W_seq (W_reg (L_box [vi s.Kind, .slice A1 n2 c3] rfl fun w6 b7 hl9 hu10 g8 ao => ?_))
 have ad := Fb.mk hc0.ok hl9 ao
 have ac := hc0.k0 g8
 refine L_as (vb false) rfl (L_nil (W_seq (W_reg (L_pu (P_fa fa58_1 ⟨b7, 0, none⟩ ⟨b7, 1, none⟩ rfl rfl) (L_pu (P_ld ag56 cL ⟨b7, 1, none⟩ (.slice A1 n2 c3) rfl (ad.cell rfl)) ?_)))))
 have ap := (hp4.st ac.st).le
 refine L_pu (P_len Tryz.underlying56 A1 n2 c3 (hp4.st ac.st).len rfl) (L_as (vi (s.Pts.length : Int)) rfl (L_nil (W_seq (W_seq (W_reg (L_pu (P_fa fa58_1 ⟨b7, 0, none⟩ ⟨b7, 1, none⟩ rfl rfl) (L_pu (P_ld ag56 cL ⟨b7, 1, none⟩ (.slice A1 n2 c3) rfl (ad.cell rfl)) ?_)))))))
 refine L_call go122 [.slice A1 n2 c3] rfl ((F105.calls w6 ac.ok s.Pts A1 n2 c3 (hp4.st ac.st) _ H).mono ?_)
 rintro _ aq ⟨r, rfl, H, aj⟩
 have ab := ac.k0 aj
 refine L_pu (P_not r rfl) (L_nil ?_)
 refine W_cond (!r) rfl (fun ae => ?_) (fun ae => ?_)
 ·have H := ite_t H ae
  exact W_seq (W_reg (L_as (vb false) rfl (L_nil (W_ret ⟨[vb false], ⟨_, rfl, rfl⟩, false, rfl, H, ab.gr.g0⟩))))
 have H := ite_f H ae
 refine W_skip (W_seq (W_seq (W_reg (L_pu (P_fa fa58_0 ⟨b7, 0, none⟩ ⟨b7, 0, none⟩ rfl rfl) ?_))))
 have ar := ac.stn aj
 have af := (ad.st ar)
 refine L_pu (P_ld ag3 cL ⟨b7, 0, none⟩ (vi s.Kind) rfl (af.cell rfl)) (L_nil (W_block (W_seq (W_reg (L_pu (P_cmp s.Kind 1 (s.Kind == 1) rfl rfl rfl) (L_as (vb (s.Kind == 1)) rfl (L_nil ?_)))))))
 refine W_cond (s.Kind == 1) rfl (fun ag => ?_) (fun ag => ?_)
 ·have H := ite_t H ag
  exact W_seq (W_reg (L_mv (vi (s.Pts.length : Int)) rfl (L_pu (P_cmp (s.Pts.length : Int) 1 ((s.Pts.length : Int) == 1) rfl rfl rfl) (L_as (vb ((s.Pts.length : Int) == 1)) rfl (L_nil (W_ret ⟨[vb ((s.Pts.length : Int) == 1)], ⟨_, rfl, rfl⟩, (s.Pts.length : Int) == 1, rfl, H, ab.gr.g0⟩))))))
 have H := ite_f H ag
 refine W_seq (W_reg (L_pu (P_cmp s.Kind 2 (s.Kind == 2) rfl rfl rfl) (L_as (vb (s.Kind == 2)) rfl (L_nil ?_))))
 refine W_cond (s.Kind == 2) rfl (fun ah => ?_) (fun ah => ?_)
 ·have H := ite_t H ah
  exact W_seq (W_reg (L_mv (vi (s.Pts.length : Int)) rfl (L_pu (P_cmp (s.Pts.length : Int) 2 (decide ((s.Pts.length : Int) ≥ 2)) rfl rfl rfl) (L_as (vb (decide ((s.Pts.length : Int) ≥ 2))) rfl (L_nil (W_ret ⟨[vb (decide ((s.Pts.length : Int) ≥ 2))], ⟨_, rfl, rfl⟩, decide ((s.Pts.length : Int) ≥ 2), rfl, H, ab.gr.g0⟩))))))
 have H := ite_f H ah
 refine W_seq (W_reg (L_pu (P_cmp s.Kind 3 (s.Kind == 3) rfl rfl rfl) (L_as (vb (s.Kind == 3)) rfl (L_nil ?_))))
 refine W_cond (s.Kind == 3) rfl (fun ai => ?_) (fun ai => ?_)
 ·have H := ite_t H ai
  refine W_seq (W_draw (fun x => Gr aq x none) (by kernel_rfl) (by kernel_rfl) (Gr.drew _) ?_)
  refine Q_mv (vi (s.Pts.length : Int)) rfl (Q_pu (P_cmp (s.Pts.length : Int) 3 (decide ((s.Pts.length : Int) ≥ 3)) rfl rfl rfl) (Q_mv (vb (decide ((s.Pts.length : Int) ≥ 3))) rfl ?_))
  rcases bool_or (decide ((s.Pts.length : Int) ≥ 3)) with aa | aa
  ·have H := ite_t H aa
   refine Q_rb aa rfl (Q_pu (P_fa fa58_1 ⟨b7, 0, none⟩ ⟨b7, 1, none⟩ rfl rfl) (Q_rb aa rfl (Q_pu (P_ld ag56 cQ ⟨b7, 1, none⟩ (.slice A1 n2 c3) rfl (af.cell rfl)) (Q_rb aa rfl ?_))))
   obtain ⟨ak, H⟩ := H
   obtain ⟨al, a6, au, a7, av, aw⟩ := (hp4.st ab.st).get default (by decide) 0 ak
   obtain rfl := kPt.op av
   refine Q_pu (P_ia Tryz.underlying56 se56 A1 al n2 c3 (hp4.st ab.st).len 0 rfl au rfl ak) (Q_rb aa rfl (Q_pu (P_lda ag114 sz114 cQ (al.add ((0 : Int).toNat * 2)) [vi ((nth s.Pts 0).X), vi ((nth s.Pts 0).Y)] rfl rfl aw) (Q_rb aa rfl (Q_pu (P_fa fa58_1 ⟨b7, 0, none⟩ ⟨b7, 1, none⟩ rfl rfl) (Q_rb aa rfl (Q_pu (P_ld ag56 cQ ⟨b7, 1, none⟩ (.slice A1 n2 c3) rfl (af.cell rfl)) (Q_rb aa rfl (Q_mv (vi (s.Pts.length : Int)) rfl ?_))))))))
   refine Q_rb aa rfl ?_
   obtain ⟨ax, H⟩ := H
   have ay := ax (len_le ap)
   refine Q_pu (P_sub (s.Pts.length : Int) 1 rfl rfl ay) (Q_rb aa rfl ?_)
   obtain ⟨am, H⟩ := H
   obtain ⟨an, a8, az, a9, a0, a1⟩ := (hp4.st ab.st).get default (by decide) ((s.Pts.length : Int) - 1) am
   obtain rfl := kPt.op a0
   refine Q_pu (P_ia Tryz.underlying56 se56 A1 an n2 c3 (hp4.st ab.st).len ((s.Pts.length : Int) - 1) rfl az rfl am) (Q_rb aa rfl (Q_pu (P_lda ag114 sz114 cQ (an.add (((s.Pts.length : Int) - 1).toNat * 2)) [vi ((nth s.Pts ((s.Pts.length : Int) - 1)).X), vi ((nth s.Pts ((s.Pts.length : Int) - 1)).Y)] rfl rfl a1) (Q_rb aa rfl (Q_pu (P_ne _ _ (eqPt (nth s.Pts 0) (nth s.Pts ((s.Pts.length : Int) - 1))) (qt114 (nth s.Pts 0) (nth s.Pts ((s.Pts.length : Int) - 1))) rfl rfl) (Q_pu (P_pick true (vb (!(eqPt (nth s.Pts 0) (nth s.Pts ((s.Pts.length : Int) - 1))))) (by exact congrArg Value.bool aa) rfl) (Q_as (vb (!(eqPt (nth s.Pts 0) (nth s.Pts ((s.Pts.length : Int) - 1))))) rfl (Q_nil fun ba a2 => ?_)))))))
   have a3 := ab.k0 a2
   exact W_ret ⟨[vb (!(eqPt (nth s.Pts 0) (nth s.Pts ((s.Pts.length : Int) - 1))))], ⟨_, rfl, rfl⟩, !(eqPt (nth s.Pts 0) (nth s.Pts ((s.Pts.length : Int) - 1))), rfl, H, a3.gr.g0⟩
  have H := ite_f H aa
  refine Q_pb aa rfl (Q_pb aa rfl (Q_pb aa rfl (Q_pb aa rfl (Q_pb aa rfl (Q_pb aa rfl (Q_pb aa rfl (Q_pb aa rfl (Q_pb aa rfl ?_))))))))
  refine Q_pb aa rfl (Q_pb aa rfl (Q_pu (P_pick false (vb false) (by exact congrArg Value.bool aa) rfl) (Q_as (vb false) rfl (Q_nil fun bb a4 => ?_))))
  have a5 := ab.k0 a4
  exact W_ret ⟨[vb false], ⟨_, rfl, rfl⟩, false, rfl, H, a5.gr.g0⟩
 have H := ite_f H ai
 exact W_skip (W_seq (W_reg (L_as (vb false) rfl (L_nil (W_ret ⟨[vb false], ⟨_, rfl, rfl⟩, false, rfl, H, ab.gr.g0⟩)))))
end
section
open Go.RowKit
def F73.E (t_ : List Tag) (Q : Bool → Prop) : Prop :=
 (∃ (I18 : Int → Prop) (mu19 : Int → Nat), I18 0 ∧ ∀ (i2 : Int), I18 i2 → (if decide (i2 < (t_.length : Int)) then ((0 : Int) ≤ i2 ∧ i2 < (t_.length : Int)) ∧ (∃ q : Bool, F72.E ((nth t_ i2).Key) (fun x => x = q) ∧ (if !q then Q false else ((0 : Int) ≤ i2 ∧ i2 < (t_.length : Int)) ∧ (∃ q2 : Bool, F72.E ((nth t_ i2).Val) (fun x => x = q2) ∧ (if !q2 then Q false else (if decide (i2 > 0) then ((0 : Int) ≤ i2 ∧ i2 < (t_.length : Int)) ∧ ((t_.length : Int) ≤ 9223372036854775807 → I64 (i2 - 1)) ∧ ((0 : Int) ≤ i2 - 1 ∧ i2 - 1 < (t_.length : Int)) ∧ (if Op.bytesLess ((nth t_ i2).Key) ((nth t_ (i2 - 1)).Key) || ((nth t_ i2).Key) == ((nth t_ (i2 - 1)).Key) then Q false else (-9223372036854775808 ≤ i2) ∧ I18 (i2 + 1) ∧ mu19 (i2 + 1) < mu19 i2) else (-9223372036854775808 ≤ i2) ∧ I18 (i2 + 1) ∧ mu19 (i2 + 1) < mu19 i2))))) else Q (decide ((t_.length : Int) ≤ 4))))
theorem F73.calls {O : Ob} (w0 : World) (hO : Ok w0 O) (t_ : List Tag) (A1 : Option Addr) (n2 c3 : Nat) (hp4 : Sl kTag w0 (Fr O) (.slice A1 n2 c3) t_) (Q : Bool → Prop) (h : F73.E t_ Q) :
  Ret Tryz.prog 92 [.slice A1 n2 c3] w0 (fun v w' => ∃ (r0 : Bool), v = vb r0 ∧ Q r0 ∧ Gr w0 w' none) := by
 unfold F73.E at h
 have H := h
 clear h
 have hc0 := Ct.init hO
 refine Ret_enter Tryz.func92 rfl 47 rfl [.tmp 2] rfl rfl ?_
 refine W_seq (W_reg (L_as (vb false) rfl (L_nil (W_seq (W_seq (W_reg (L_as (vi 0) rfl (L_nil ?_))))))))
 refine W_block ?_
 obtain ⟨ax, ay, al, H⟩ := H
 refine W_loop (α := Int) (fun (sv__ : Int) t ag => match sv__ with | i2 => ax i2 ∧ Has t [(0, .slice A1 n2 c3), (3, vi i2)] ∧ Ct [] w0 ag [] O ∧ Sl kTag ag (Fr ([] ++ O)) (.slice A1 n2 c3) t_) (fun (sv__ : Int) => match sv__ with | i2 => ay i2) 0 ⟨al, (hasI rfl), hc0, hp4⟩ ?_
 rintro i2 _ ag ⟨al, az, ae, ad⟩
 obtain ⟨bz, rfl⟩ := Has.ins az
 have H := H i2 al
 refine W_seq (W_seq (W_reg (L_mv (vi i2) rfl (L_mv (.slice A1 n2 c3) rfl ?_))))
 have am := ad.le
 refine L_pu (P_len Tryz.underlying59 A1 n2 c3 ad.len rfl) (L_pu (P_cmp i2 (t_.length : Int) (decide (i2 < (t_.length : Int))) rfl rfl rfl) (L_nil ?_))
 refine W_cond (decide (i2 < (t_.length : Int))) rfl (fun af => ?_) (fun af => ?_)
 ·have H := ite_t H af
  refine W_skip (W_seq (W_block (W_seq (W_draw (fun x => Gr ag x none) (by kernel_rfl) (by kernel_rfl) (Gr.drew _) ?_))))
  refine Q_mv (.slice A1 n2 c3) rfl (Q_mv (vi i2) rfl ?_)
  obtain ⟨ao, H⟩ := H
  obtain ⟨ah, b0, a0, b1, a1, a2⟩ := ad.get default (by decide) i2 ao
  obtain ⟨rfl, a3, b2⟩ := kTag.op a1
  refine Q_pu (P_ia Tryz.underlying59 se59 A1 ah n2 c3 ad.len i2 rfl a0 rfl ao) (Q_pu (P_fa fa106_0 (ah.add (i2.toNat * 2)) ((ah.add (i2.toNat * 2)).add 0) rfl rfl) (Q_pu (P_ld ag9 cQ ((ah.add (i2.toNat * 2)).add 0) (vs ((nth t_ i2).Key)) rfl (a2 0 _ rfl)) ?_))
  obtain ⟨q, a4, H⟩ := H
  refine Q_call go90 [vs ((nth t_ i2).Key)] rfl (vb q) (fun w g => (F72.calls w (ae.k0 g).ok ((nth t_ i2).Key) a3 _ a4).mono ?_) ?_
  ·rintro _ w ⟨r, rfl, rfl, g2⟩
   exact ⟨rfl, Gr.t0 g g2⟩
  refine Q_pu (P_not q rfl) (Q_mv (vb (!q)) rfl ?_)
  rcases bool_or (!q) with ab | ab
  ·have H := ite_t H ab
   refine Q_pb ab rfl (Q_pb ab rfl (Q_pb ab rfl (Q_pb ab rfl (Q_pb ab rfl (Q_pb ab rfl (Q_pb ab rfl (Q_pu (P_pick true (vb true) (by exact congrArg Value.bool ab) rfl) (Q_mv (vb true) rfl ?_))))))))
   refine Q_pass (dj := 26) rfl rfl (.inl rfl) (Q_pass (dj := 26) rfl rfl (.inl rfl) (Q_pass (dj := 26) rfl rfl (.inl rfl) (Q_pn rfl (Q_pn rfl (Q_pn rfl (Q_pn rfl (Q_pn rfl (Q_pn rfl ?_))))))))
   refine Q_pn rfl (Q_pn rfl (Q_pn rfl (Q_pn rfl (Q_pn rfl (Q_pn rfl (Q_pass (dj := 26) rfl rfl (.inl rfl) (Q_pu (P_pick true (vb true) (by exact congrArg Value.bool rfl) rfl) (Q_nil fun b3 a5 => ?_))))))))
   have a6 := ae.k0 a5
   refine W_ct (b := true) rfl rfl ?_
   exact W_seq (W_reg (L_as (vb false) rfl (L_nil (W_ret ⟨[vb false], ⟨_, rfl, rfl⟩, false, rfl, H, a6.gr.g0⟩))))
  have H := ite_f H ab
  refine Q_rb ab rfl (Q_mv (.slice A1 n2 c3) rfl (Q_rb ab rfl (Q_mv (vi i2) rfl (Q_rb ab rfl ?_))))
  obtain ⟨ap, H⟩ := H
  obtain ⟨ai, b4, a7, b5, a8, a9⟩ := ad.get default (by decide) i2 ap
  obtain ⟨rfl, b6, ba⟩ := kTag.op a8
  refine Q_pu (P_ia Tryz.underlying59 se59 A1 ai n2 c3 ad.len i2 rfl a7 rfl ap) (Q_rb ab rfl (Q_pu (P_fa fa106_1 (ai.add (i2.toNat * 2)) ((ai.add (i2.toNat * 2)).add 1) rfl rfl) (Q_rb ab rfl (Q_pu (P_ld ag9 cQ ((ai.add (i2.toNat * 2)).add 1) (vs ((nth t_ i2).Val)) rfl (a9 1 _ rfl)) (Q_rb ab rfl ?_)))))
  obtain ⟨q2, bb, H⟩ := H
  refine Q_call go90 [vs ((nth t_ i2).Val)] rfl (vb q2) (fun w g => (F72.calls w (ae.k0 g).ok ((nth t_ i2).Val) ba _ bb).mono ?_) ?_
  ·rintro _ w ⟨r, rfl, rfl, g2⟩
   exact ⟨rfl, Gr.t0 g g2⟩
  refine Q_rb ab rfl (Q_pu (P_not q2 rfl) (Q_pu (P_pick false (vb (!q2)) (by exact congrArg Value.bool ab) rfl) (Q_mv (vb (!q2)) rfl ?_)))
  rcases bool_or (!q2) with ac | ac
  ·have H := ite_t H ac
   refine Q_pb ac rfl (Q_pb ac rfl (Q_pb ac rfl (Q_pn rfl (Q_pn rfl (Q_pn rfl (Q_pn rfl (Q_pn rfl (Q_pn rfl ?_))))))))
   refine Q_pn rfl (Q_pn rfl (Q_pn rfl (Q_pn rfl (Q_pn rfl (Q_pn rfl (Q_pb ac rfl (Q_pu (P_pick true (vb true) (by exact congrArg Value.bool ac) rfl) (Q_nil fun b7 bc => ?_))))))))
   have bd := ae.k0 bc
   refine W_ct (b := true) rfl rfl ?_
   exact W_seq (W_reg (L_as (vb false) rfl (L_nil (W_ret ⟨[vb false], ⟨_, rfl, rfl⟩, false, rfl, H, bd.gr.g0⟩))))
  have H := ite_f H ac
  refine Q_rb ac rfl (Q_mv (vi i2) rfl (Q_rb ac rfl (Q_pu (P_cmp i2 0 (decide (i2 > 0)) rfl rfl rfl) (Q_rb ac rfl (Q_mv (vb (decide (i2 > 0))) rfl ?_)))))
  rcases bool_or (decide (i2 > 0)) with aa | aa
  ·have H := ite_t H aa
   refine Q_rb aa rfl (Q_mv (.slice A1 n2 c3) rfl (Q_rb aa rfl (Q_mv (vi i2) rfl (Q_rb aa rfl ?_))))
   obtain ⟨aq, H⟩ := H
   obtain ⟨aj, b8, be, b9, bf, bg⟩ := ad.get default (by decide) i2 aq
   obtain ⟨rfl, ca, cb⟩ := kTag.op bf
   refine Q_pu (P_ia Tryz.underlying59 se59 A1 aj n2 c3 ad.len i2 rfl be rfl aq) (Q_rb aa rfl (Q_pu (P_fa fa106_0 (aj.add (i2.toNat * 2)) ((aj.add (i2.toNat * 2)).add 0) rfl rfl) (Q_rb aa rfl (Q_pu (P_ld ag9 cQ ((aj.add (i2.toNat * 2)).add 0) (vs ((nth t_ i2).Key)) rfl (bg 0 _ rfl)) (Q_rb aa rfl (Q_mv (.slice A1 n2 c3) rfl (Q_rb aa rfl (Q_mv (vi i2) rfl ?_))))))))
   refine Q_rb aa rfl ?_
   obtain ⟨bh, H⟩ := H
   have bi := bh (len_le am)
   refine Q_pu (P_sub i2 1 rfl rfl bi) (Q_rb aa rfl ?_)
   obtain ⟨ar, H⟩ := H
   obtain ⟨ak, cc, bj, cd, bl, bm⟩ := ad.get default (by decide) (i2 - 1) ar
   obtain ⟨rfl, ce, cf⟩ := kTag.op bl
   refine Q_pu (P_ia Tryz.underlying59 se59 A1 ak n2 c3 ad.len (i2 - 1) rfl bj rfl ar) (Q_rb aa rfl (Q_pu (P_fa fa106_0 (ak.add ((i2 - 1).toNat * 2)) ((ak.add ((i2 - 1).toNat * 2)).add 0) rfl rfl) (Q_rb aa rfl (Q_pu (P_ld ag9 cQ ((ak.add ((i2 - 1).toNat * 2)).add 0) (vs ((nth t_ (i2 - 1)).Key)) rfl (bm 0 _ rfl)) (Q_rb aa rfl (Q_pu (P_scmp ((nth t_ i2).Key) ((nth t_ (i2 - 1)).Key) (Op.bytesLess ((nth t_ i2).Key) ((nth t_ (i2 - 1)).Key) || ((nth t_ i2).Key) == ((nth t_ (i2 - 1)).Key)) rfl rfl rfl) (Q_rb ac rfl (Q_pu (P_pick true (vb (Op.bytesLess ((nth t_ i2).Key) ((nth t_ (i2 - 1)).Key) || ((nth t_ i2).Key) == ((nth t_ (i2 - 1)).Key))) (by exact congrArg Value.bool aa) rfl) ?_))))))))
   refine Q_pu (P_pick false (vb (Op.bytesLess ((nth t_ i2).Key) ((nth t_ (i2 - 1)).Key) || ((nth t_ i2).Key) == ((nth t_ (i2 - 1)).Key))) (by exact congrArg Value.bool ac) rfl) (Q_nil fun cg au => ?_)
   have av := ae.k0 au
   refine W_cond (Op.bytesLess ((nth t_ i2).Key) ((nth t_ (i2 - 1)).Key) || ((nth t_ i2).Key) == ((nth t_ (i2 - 1)).Key)) rfl (fun an => ?_) (fun an => ?_)
   ·have H := ite_t H an
    exact W_seq (W_reg (L_as (vb false) rfl (L_nil (W_ret ⟨[vb false], ⟨_, rfl, rfl⟩, false, rfl, H, av.gr.g0⟩))))
   have H := ite_f H an
   refine W_skip (W_reg (L_mv (vi i2) rfl ?_))
   obtain ⟨bn, H⟩ := H
   have bo : I64 (i2 + 1) := i64_succ (of_decide_eq_true af) am bn
   refine L_pu (P_add i2 1 rfl rfl bo) (L_as (vi (i2 + 1)) rfl (L_nil ?_))
   obtain ⟨bp, bq⟩ := H
   have br := ae.stn au
   exact ⟨i2 + 1, bq, bp, (hasI rfl), av, (ad.st br)⟩
  have H := ite_f H aa
  refine Q_pb aa rfl (Q_pb aa rfl (Q_pb aa rfl (Q_pb aa rfl (Q_pb aa rfl (Q_pb aa rfl (Q_pb aa rfl (Q_pb aa rfl (Q_pb aa rfl ?_))))))))
  refine Q_pb aa rfl (Q_pb aa rfl (Q_pb aa rfl (Q_rb ac rfl (Q_pu (P_pick false (vb false) (by exact congrArg Value.bool aa) rfl) (Q_pu (P_pick false (vb false) (by exact congrArg Value.bool ac) rfl) (Q_nil fun ch aw => ?_))))))
  have bs := ae.k0 aw
  refine W_cf (b := false) rfl rfl ?_
  refine W_skip (W_reg (L_mv (vi i2) rfl ?_))
  obtain ⟨bt, H⟩ := H
  have bu : I64 (i2 + 1) := i64_succ (of_decide_eq_true af) am bt
  refine L_pu (P_add i2 1 rfl rfl bu) (L_as (vi (i2 + 1)) rfl (L_nil ?_))
  obtain ⟨bv, bw⟩ := H
  have bx := ae.stn aw
  exact ⟨i2 + 1, bw, bv, (hasI rfl), bs, (ad.st bx)⟩
 have H := ite_f H af
 refine W_exit (xin_hit ?_)
 exact W_seq (W_reg (L_mv (.slice A1 n2 c3) rfl (L_pu (P_len Tryz.underlying59 A1 n2 c3 ad.len rfl) (L_pu (P_cmp (t_.length : Int) 4 (decide ((t_.length : Int) ≤ 4)) rfl rfl rfl) (L_as (vb (decide ((t_.length : Int) ≤ 4))) rfl (L_nil (W_ret ⟨[vb (decide ((t_.length : Int) ≤ 4))], ⟨_, rfl, rfl⟩, decide ((t_.length : Int) ≤ 4), rfl, H, ae.gr.g0⟩)))))))
end
section
open Go.RowKit
def F74.E (f : Feat) (Q : Bool → Prop) : Prop :=
 F72.E f.Id (fun r => (if r then F53.E f.Shape (fun r2 => (if r2 then F73.E f.Tags (fun r3 => Q r3) else Q false)) else Q false))
theorem F74.calls {O : Ob} (w0 : World) (hO : Ok w0 O) (f : Feat) (A2 : Option Addr) (n3 c4 : Nat) (A7 : Option Addr) (n8 c9 : Nat) (hs1 : Lim f.Id) (hp5 : Sl kPt w0 (Fr O) (.slice A2 n3 c4) f.Shape.Pts) (ak : Sl kTag w0 (Fr O) (.slice A7 n8 c9) f.Tags) (Q : Bool → Prop) (h : F74.E f Q) :
  Ret Tryz.prog 57 [.agg #[vs f.Id, vi f.Shape.Kind, .slice A2 n3 c4, .slice A7 n8 c9]] w0 (fun v w' => ∃ (r0 : Bool), v = vb r0 ∧ Q r0 ∧ Gr w0 w' none) := by
 unfold F74.E at h
 have H := h
 clear h
 have hc0 := Ct.init hO
 refine Ret_enter Tryz.func57 rfl 16 rfl [.tmp 2] rfl rfl ?_
 refine W_seq (W_reg (L_box [vs f.Id, vi f.Shape.Kind, .slice A2 n3 c4, .slice A7 n8 c9] rfl fun al ac am hu16 an ao => ?_))
 have ag := Fb.mk hc0.ok am ao
 have af := hc0.k0 an
 refine L_as (vb false) rfl (L_nil (W_seq (W_reg (L_pu (P_fa fa61_0 ⟨ac, 0, none⟩ ⟨ac, 0, none⟩ rfl rfl) (L_pu (P_ld ag9 cL ⟨ac, 0, none⟩ (vs f.Id) rfl (ag.cell rfl)) ?_)))))
 refine L_call go90 [vs f.Id] rfl ((F72.calls al af.ok f.Id hs1 _ H).mono ?_)
 rintro _ ap ⟨r, rfl, H, ah⟩
 have ad := af.k0 ah
 refine L_mv (vb r) rfl ?_
 rcases bool_or r with aa | aa
 ·have H := ite_t H aa
  refine L_rb aa rfl (L_pu (P_fa fa61_1 ⟨ac, 0, none⟩ ⟨ac, 1, none⟩ rfl rfl) (L_rb aa rfl ?_))
  have aq := af.stn ah
  have ai := (ag.st aq)
  refine L_pu (P_lda ag58 sz58 cL ⟨ac, 1, none⟩ [vi f.Shape.Kind, .slice A2 n3 c4] rfl rfl (ai.cells (off := 1) rfl)) (L_rb aa rfl ?_)
  refine L_call go91 [.agg #[vi f.Shape.Kind, .slice A2 n3 c4]] rfl ((F53.calls ap ad.ok f.Shape A2 n3 c4 (hp5.st ad.st) _ H).mono ?_)
  rintro _ ar ⟨r2, rfl, H, aj⟩
  have ae := ad.k0 aj
  refine L_pu (P_pick true (vb r2) (by exact congrArg Value.bool aa) rfl) (L_mv (vb r2) rfl ?_)
  rcases bool_or r2 with ab | ab
  ·have H := ite_t H ab
   refine L_rb ab rfl (L_pu (P_fa fa61_2 ⟨ac, 0, none⟩ ⟨ac, 3, none⟩ rfl rfl) (L_rb ab rfl ?_))
   have au := ad.stn aj
   have av := (ai.st au)
   refine L_pu (P_ld ag59 cL ⟨ac, 3, none⟩ (.slice A7 n8 c9) rfl (av.cell rfl)) (L_rb ab rfl ?_)
   refine L_call go92 [.slice A7 n8 c9] rfl ((F73.calls ar ae.ok f.Tags A7 n8 c9 (ak.st ae.st) _ H).mono ?_)
   rintro _ ay ⟨r3, rfl, H, aw⟩
   have ax := ae.k0 aw
   exact L_pu (P_pick true (vb r3) (by exact congrArg Value.bool ab) rfl) (L_as (vb r3) rfl (L_nil (W_ret ⟨[vb r3], ⟨_, rfl, rfl⟩, r3, rfl, H, ax.gr.g0⟩)))
  have H := ite_f H ab
  exact L_pb ab rfl (L_pb ab rfl (L_pb ab rfl (L_pu (P_pick false (vb false) (by exact congrArg Value.bool ab) rfl) (L_as (vb false) rfl (L_nil (W_ret ⟨[vb false], ⟨_, rfl, rfl⟩, false, rfl, H, ae.gr.g0⟩))))))
 have H := ite_f H aa
 refine L_pb aa rfl (L_pb aa rfl (L_pb aa rfl (L_pu (P_pick false (vb false) (by exact congrArg Value.bool aa) rfl) (L_mv (vb false) rfl (L_pass (dj := 11) rfl rfl (.inl rfl) (L_pass (dj := 11) rfl rfl (.inl rfl) (L_pass (dj := 11) rfl rfl (.inl rfl) (L_pu (P_pick false (vb false) (by exact congrArg Value.bool rfl) rfl) ?_))))))))
 exact L_as (vb false) rfl (L_nil (W_ret ⟨[vb false], ⟨_, rfl, rfl⟩, false, rfl, H, ad.gr.g0⟩))
end
section
open Go.RowKit
def F54.E (s : List Feat) (Q : Bool → Prop) : Prop :=
 (∃ (I18 : Int → Prop) (mu19 : Int → Nat), I18 0 ∧ ∀ (i2 : Int), I18 i2 → (if decide (i2 < (s.length : Int)) then ((0 : Int) ≤ i2 ∧ i2 < (s.length : Int)) ∧ (∃ q : Bool, F74.E (nth s i2) (fun x => x = q) ∧ (if !q then Q false else (if decide (i2 > 0) then ((0 : Int) ≤ i2 ∧ i2 < (s.length : Int)) ∧ ((s.length : Int) ≤ 9223372036854775807 → I64 (i2 - 1)) ∧ ((0 : Int) ≤ i2 - 1 ∧ i2 - 1 < (s.length : Int)) ∧ (if Op.bytesLess ((nth s i2).Id) ((nth s (i2 - 1)).Id) || ((nth s i2).Id) == ((nth s (i2 - 1)).Id) then Q false else (-9223372036854775808 ≤ i2) ∧ I18 (i2 + 1) ∧ mu19 (i2 + 1) < mu19 i2) else (-9223372036854775808 ≤ i2) ∧ I18 (i2 + 1) ∧ mu19 (i2 + 1) < mu19 i2))) else Q (decide ((s.length : Int) ≤ 8))))
theorem F54.calls {O : Ob} (w0 : World) (hO : Ok w0 O) (s : List Feat) (A1 : Option Addr) (n2 c3 : Nat) (hp4 : Sl kFeat w0 (Fr O) (.slice A1 n2 c3) s) (Q : Bool → Prop) (h : F54.E s Q) :
  Ret Tryz.prog 23 [.slice A1 n2 c3] w0 (fun v w' => ∃ (r0 : Bool), v = vb r0 ∧ Q r0 ∧ Gr w0 w' none) := by
 unfold F54.E at h
 have H := h
 clear h
 have hc0 := Ct.init hO
 refine Ret_enter Tryz.func23 rfl 37 rfl [.tmp 2] rfl rfl ?_
 refine W_seq (W_reg (L_as (vb false) rfl (L_nil (W_seq (W_seq (W_reg (L_as (vi 0) rfl (L_nil ?_))))))))
 refine W_block ?_
 obtain ⟨a0, a1, ai, H⟩ := H
 refine W_loop (α := Int) (fun (sv__ : Int) t af => match sv__ with | i2 => a0 i2 ∧ Has t [(0, .slice A1 n2 c3), (3, vi i2)] ∧ Ct [] w0 af [] O ∧ Sl kFeat af (Fr ([] ++ O)) (.slice A1 n2 c3) s) (fun (sv__ : Int) => match sv__ with | i2 => a1 i2) 0 ⟨ai, (hasI rfl), hc0, hp4⟩ ?_
 rintro i2 _ af ⟨ai, a2, ad, ac⟩
 obtain ⟨bw, rfl⟩ := Has.ins a2
 have H := H i2 ai
 refine W_seq (W_seq (W_reg (L_mv (vi i2) rfl (L_mv (.slice A1 n2 c3) rfl ?_))))
 have aj := ac.le
 refine L_pu (P_len Tryz.underlying26 A1 n2 c3 ac.len rfl) (L_pu (P_cmp i2 (s.length : Int) (decide (i2 < (s.length : Int))) rfl rfl rfl) (L_nil ?_))
 refine W_cond (decide (i2 < (s.length : Int))) rfl (fun ae => ?_) (fun ae => ?_)
 ·have H := ite_t H ae
  refine W_skip (W_seq (W_block (W_seq (W_draw (fun x => Gr af x none) (by kernel_rfl) (by kernel_rfl) (Gr.drew _) ?_))))
  refine Q_mv (.slice A1 n2 c3) rfl (Q_mv (vi i2) rfl ?_)
  obtain ⟨ar, H⟩ := H
  obtain ⟨au, bx, a3, bz, a4, a5⟩ := ac.get default (by decide) i2 ar
  obtain ⟨ak, al, am, an, ao, ap, rfl, a6, a7, a8⟩ := kFeat.op a4
  refine Q_pu (P_ia Tryz.underlying26 se26 A1 au n2 c3 ac.len i2 rfl a3 rfl ar) (Q_pu (P_lda ag61 sz61 cQ (au.add (i2.toNat * 4)) [vs ((nth s i2).Id), vi ((nth s i2).Shape.Kind), .slice ak al am, .slice an ao ap] rfl rfl a5) ?_)
  obtain ⟨q, a9, H⟩ := H
  refine Q_call go57 [.agg #[vs ((nth s i2).Id), vi ((nth s i2).Shape.Kind), .slice ak al am, .slice an ao ap]] rfl (vb q) (fun w g => (F74.calls w (ad.k0 g).ok (nth s i2) ak al am an ao ap a6 (a7.st (.new _ g)) (a8.st (.new _ g)) _ a9).mono ?_) ?_
  ·rintro _ w ⟨r, rfl, rfl, g2⟩
   exact ⟨rfl, Gr.t0 g g2⟩
  refine Q_pu (P_not q rfl) (Q_mv (vb (!q)) rfl ?_)
  rcases bool_or (!q) with ab | ab
  ·have H := ite_t H ab
   refine Q_pb ab rfl (Q_pb ab rfl (Q_pb ab rfl (Q_pn rfl (Q_pn rfl (Q_pn rfl (Q_pn rfl (Q_pn rfl (Q_pn rfl ?_))))))))
   refine Q_pn rfl (Q_pn rfl (Q_pn rfl (Q_pn rfl (Q_pn rfl (Q_pn rfl (Q_pb ab rfl (Q_pu (P_pick true (vb true) (by exact congrArg Value.bool ab) rfl) (Q_nil fun b0 ba => ?_))))))))
   have bb := ad.k0 ba
   refine W_ct (b := true) rfl rfl ?_
   exact W_seq (W_reg (L_as (vb false) rfl (L_nil (W_ret ⟨[vb false], ⟨_, rfl, rfl⟩, false, rfl, H, bb.gr.g0⟩))))
  have H := ite_f H ab
  refine Q_rb ab rfl (Q_mv (vi i2) rfl (Q_rb ab rfl (Q_pu (P_cmp i2 0 (decide (i2 > 0)) rfl rfl rfl) (Q_rb ab rfl (Q_mv (vb (decide (i2 > 0))) rfl ?_)))))
  rcases bool_or (decide (i2 > 0)) with aa | aa
  ·have H := ite_t H aa
   refine Q_rb aa rfl (Q_mv (.slice A1 n2 c3) rfl (Q_rb aa rfl (Q_mv (vi i2) rfl (Q_rb aa rfl ?_))))
   obtain ⟨av, H⟩ := H
   obtain ⟨ag, b1, bc, b2, bd, be⟩ := ac.get default (by decide) i2 av
   obtain ⟨b3, b4, b5, b6, b7, b8, rfl, b9, ca, cb⟩ := kFeat.op bd
   refine Q_pu (P_ia Tryz.underlying26 se26 A1 ag n2 c3 ac.len i2 rfl bc rfl av) (Q_rb aa rfl (Q_pu (P_fa fa61_0 (ag.add (i2.toNat * 4)) ((ag.add (i2.toNat * 4)).add 0) rfl rfl) (Q_rb aa rfl (Q_pu (P_ld ag9 cQ ((ag.add (i2.toNat * 4)).add 0) (vs ((nth s i2).Id)) rfl (be 0 _ rfl)) (Q_rb aa rfl (Q_mv (.slice A1 n2 c3) rfl (Q_rb aa rfl (Q_mv (vi i2) rfl ?_))))))))
   refine Q_rb aa rfl ?_
   obtain ⟨bf, H⟩ := H
   have bg := bf (len_le aj)
   refine Q_pu (P_sub i2 1 rfl rfl bg) (Q_rb aa rfl ?_)
   obtain ⟨aw, H⟩ := H
   obtain ⟨ah, cc, bh, cd, bi, bj⟩ := ac.get default (by decide) (i2 - 1) aw
   obtain ⟨ce, cf, cg, ch, ci, cj, rfl, ck, cl, cm⟩ := kFeat.op bi
   refine Q_pu (P_ia Tryz.underlying26 se26 A1 ah n2 c3 ac.len (i2 - 1) rfl bh rfl aw) (Q_rb aa rfl (Q_pu (P_fa fa61_0 (ah.add ((i2 - 1).toNat * 4)) ((ah.add ((i2 - 1).toNat * 4)).add 0) rfl rfl) (Q_rb aa rfl (Q_pu (P_ld ag9 cQ ((ah.add ((i2 - 1).toNat * 4)).add 0) (vs ((nth s (i2 - 1)).Id)) rfl (bj 0 _ rfl)) (Q_rb aa rfl (Q_pu (P_scmp ((nth s i2).Id) ((nth s (i2 - 1)).Id) (Op.bytesLess ((nth s i2).Id) ((nth s (i2 - 1)).Id) || ((nth s i2).Id) == ((nth s (i2 - 1)).Id)) rfl rfl rfl) (Q_rb ab rfl (Q_pu (P_pick true (vb (Op.bytesLess ((nth s i2).Id) ((nth s (i2 - 1)).Id) || ((nth s i2).Id) == ((nth s (i2 - 1)).Id))) (by exact congrArg Value.bool aa) rfl) ?_))))))))
   refine Q_pu (P_pick false (vb (Op.bytesLess ((nth s i2).Id) ((nth s (i2 - 1)).Id) || ((nth s i2).Id) == ((nth s (i2 - 1)).Id))) (by exact congrArg Value.bool ab) rfl) (Q_nil fun cn ax => ?_)
   have ay := ad.k0 ax
   refine W_cond (Op.bytesLess ((nth s i2).Id) ((nth s (i2 - 1)).Id) || ((nth s i2).Id) == ((nth s (i2 - 1)).Id)) rfl (fun aq => ?_) (fun aq => ?_)
   ·have H := ite_t H aq
    exact W_seq (W_reg (L_as (vb false) rfl (L_nil (W_ret ⟨[vb false], ⟨_, rfl, rfl⟩, false, rfl, H, ay.gr.g0⟩))))
   have H := ite_f H aq
   refine W_skip (W_reg (L_mv (vi i2) rfl ?_))
   obtain ⟨bl, H⟩ := H
   have bm : I64 (i2 + 1) := i64_succ (of_decide_eq_true ae) aj bl
   refine L_pu (P_add i2 1 rfl rfl bm) (L_as (vi (i2 + 1)) rfl (L_nil ?_))
   obtain ⟨bn, bo⟩ := H
   have bp := ad.stn ax
   exact ⟨i2 + 1, bo, bn, (hasI rfl), ay, (ac.st bp)⟩
  have H := ite_f H aa
  refine Q_pb aa rfl (Q_pb aa rfl (Q_pb aa rfl (Q_pb aa rfl (Q_pb aa rfl (Q_pb aa rfl (Q_pb aa rfl (Q_pb aa rfl (Q_pb aa rfl ?_))))))))
  refine Q_pb aa rfl (Q_pb aa rfl (Q_pb aa rfl (Q_rb ab rfl (Q_pu (P_pick false (vb false) (by exact congrArg Value.bool aa) rfl) (Q_pu (P_pick false (vb false) (by exact congrArg Value.bool ab) rfl) (Q_nil fun co az => ?_))))))
  have bq := ad.k0 az
  refine W_cf (b := false) rfl rfl ?_
  refine W_skip (W_reg (L_mv (vi i2) rfl ?_))
  obtain ⟨br, H⟩ := H
  have bs : I64 (i2 + 1) := i64_succ (of_decide_eq_true ae) aj br
  refine L_pu (P_add i2 1 rfl rfl bs) (L_as (vi (i2 + 1)) rfl (L_nil ?_))
  obtain ⟨bt, bu⟩ := H
  have bv := ad.stn az
  exact ⟨i2 + 1, bu, bt, (hasI rfl), bq, (ac.st bv)⟩
 have H := ite_f H ae
 refine W_exit (xin_hit ?_)
 exact W_seq (W_reg (L_mv (.slice A1 n2 c3) rfl (L_pu (P_len Tryz.underlying26 A1 n2 c3 ac.len rfl) (L_pu (P_cmp (s.length : Int) 8 (decide ((s.length : Int) ≤ 8)) rfl rfl rfl) (L_as (vb (decide ((s.length : Int) ≤ 8))) rfl (L_nil (W_ret ⟨[vb (decide ((s.length : Int) ≤ 8))], ⟨_, rfl, rfl⟩, decide ((s.length : Int) ≤ 8), rfl, H, ad.gr.g0⟩)))))))
end
section
open Go.RowKit
def F75.E (a : List Pt) (b : List Pt) (Q : Bool → Prop) : Prop :=
 (if (a.length : Int) != (b.length : Int) then Q false else (∃ (I32 : Int → Prop) (mu33 : Int → Nat), I32 0 ∧ ∀ (i2 : Int), I32 i2 → (if decide (i2 < (a.length : Int)) then ((0 : Int) ≤ i2 ∧ i2 < (a.length : Int)) ∧ ((0 : Int) ≤ i2 ∧ i2 < (b.length : Int)) ∧ (if !(eqPt (nth a i2) (nth b i2)) then Q false else (-9223372036854775808 ≤ i2) ∧ I32 (i2 + 1) ∧ mu33 (i2 + 1) < mu33 i2) else Q true)))
theorem F75.calls {O : Ob} (w0 : World) (hO : Ok w0 O) (a : List Pt) (A1 : Option Addr) (n2 c3 : Nat) (hp4 : Sl kPt w0 (Fr O) (.slice A1 n2 c3) a) (b : List Pt) (A6 : Option Addr) (n7 c8 : Nat) (hp9 : Sl kPt w0 (Fr O) (.slice A6 n7 c8) b) (Q : Bool → Prop) (h : F75.E a b Q) :
  Ret Tryz.prog 123 [.slice A1 n2 c3, .slice A6 n7 c8] w0 (fun v w' => ∃ (r0 : Bool), v = vb r0 ∧ Q r0 ∧ Gr w0 w' none) := by
 unfold F75.E at h
 have H := h
 clear h
 have hc0 := Ct.init hO
 refine Ret_enter Tryz.func123 rfl 26 rfl [.tmp 4] rfl rfl ?_
 refine W_seq (W_reg (L_as (vb false) rfl (L_nil (W_seq (W_seq (W_reg (L_mv (.slice A1 n2 c3) rfl ?_)))))))
 have a5 := hp4.le
 refine L_pu (P_len Tryz.underlying56 A1 n2 c3 hp4.len rfl) (L_mv (.slice A6 n7 c8) rfl ?_)
 have a6 := hp9.le
 refine L_pu (P_len Tryz.underlying56 A6 n7 c8 hp9.len rfl) (L_pu (P_cmp (a.length : Int) (b.length : Int) ((a.length : Int) != (b.length : Int)) rfl rfl rfl) (L_nil ?_))
 refine W_cond ((a.length : Int) != (b.length : Int)) rfl (fun ad => ?_) (fun ad => ?_)
 ·have H := ite_t H ad
  exact W_seq (W_reg (L_as (vb false) rfl (L_nil (W_ret ⟨[vb false], ⟨_, rfl, rfl⟩, false, rfl, H, hc0.gr.g0⟩))))
 have H := ite_f H ad
 refine W_skip (W_seq (W_seq (W_reg (L_as (vi 0) rfl (L_nil (W_block ?_))))))
 obtain ⟨ap, aq, ae, H⟩ := H
 refine W_loop (α := Int) (fun (sv__ : Int) t aa => match sv__ with | i2 => ap i2 ∧ Has t [(0, .slice A1 n2 c3), (1, .slice A6 n7 c8), (5, vi i2)] ∧ Ct [] w0 aa [] O ∧ Sl kPt aa (Fr ([] ++ O)) (.slice A1 n2 c3) a ∧ Sl kPt aa (Fr ([] ++ O)) (.slice A6 n7 c8) b) (fun (sv__ : Int) => match sv__ with | i2 => aq i2) 0 ⟨ae, (hasI rfl), hc0, hp4, hp9⟩ ?_
 rintro i2 _ aa ⟨ae, ar, af, ab, ag⟩
 obtain ⟨a7, rfl⟩ := Has.ins ar
 have H := H i2 ae
 refine W_seq (W_seq (W_reg (L_mv (vi i2) rfl (L_mv (.slice A1 n2 c3) rfl ?_))))
 have au := ab.le
 refine L_pu (P_len Tryz.underlying56 A1 n2 c3 ab.len rfl) (L_pu (P_cmp i2 (a.length : Int) (decide (i2 < (a.length : Int))) rfl rfl rfl) (L_nil ?_))
 refine W_cond (decide (i2 < (a.length : Int))) rfl (fun ac => ?_) (fun ac => ?_)
 ·have H := ite_t H ac
  refine W_skip (W_seq (W_block (W_seq (W_draw (fun x => Gr aa x none) (by kernel_rfl) (by kernel_rfl) (Gr.drew _) ?_))))
  refine Q_mv (.slice A1 n2 c3) rfl (Q_mv (vi i2) rfl ?_)
  obtain ⟨ai, H⟩ := H
  obtain ⟨aj, a8, av, a9, aw, ax⟩ := ab.get default (by decide) i2 ai
  obtain rfl := kPt.op aw
  refine Q_pu (P_ia Tryz.underlying56 se56 A1 aj n2 c3 ab.len i2 rfl av rfl ai) (Q_pu (P_lda ag114 sz114 cQ (aj.add (i2.toNat * 2)) [vi ((nth a i2).X), vi ((nth a i2).Y)] rfl rfl ax) (Q_mv (.slice A6 n7 c8) rfl (Q_mv (vi i2) rfl ?_)))
  obtain ⟨ak, H⟩ := H
  obtain ⟨al, ba, ay, bb, az, a0⟩ := ag.get default (by decide) i2 ak
  obtain rfl := kPt.op az
  refine Q_pu (P_ia Tryz.underlying56 se56 A6 al n7 c8 ag.len i2 rfl ay rfl ak) (Q_pu (P_lda ag114 sz114 cQ (al.add (i2.toNat * 2)) [vi ((nth b i2).X), vi ((nth b i2).Y)] rfl rfl a0) (Q_pu (P_ne _ _ (eqPt (nth a i2) (nth b i2)) (qt114 (nth a i2) (nth b i2)) rfl rfl) (Q_nil fun bc am => ?_)))
  have an := af.k0 am
  refine W_cond (!(eqPt (nth a i2) (nth b i2))) rfl (fun ah => ?_) (fun ah => ?_)
  ·have H := ite_t H ah
   exact W_seq (W_reg (L_as (vb false) rfl (L_nil (W_ret ⟨[vb false], ⟨_, rfl, rfl⟩, false, rfl, H, an.gr.g0⟩))))
  have H := ite_f H ah
  refine W_skip (W_reg (L_mv (vi i2) rfl ?_))
  obtain ⟨a1, H⟩ := H
  have a2 : I64 (i2 + 1) := i64_succ (of_decide_eq_true ac) au a1
  refine L_pu (P_add i2 1 rfl rfl a2) (L_as (vi (i2 + 1)) rfl (L_nil ?_))
  obtain ⟨a3, a4⟩ := H
  have ao := af.stn am
  exact ⟨i2 + 1, a4, a3, (hasI rfl), an, (ab.st ao), (ag.st ao)⟩
 have H := ite_f H ac
 refine W_exit (xin_hit ?_)
 exact W_seq (W_reg (L_as (vb true) rfl (L_nil (W_ret ⟨[vb true], ⟨_, rfl, rfl⟩, true, rfl, H, af.gr.g0⟩))))
end
section
open Go.RowKit
def F24.E (a : Shape) (b : Shape) (Q : Bool → Prop) : Prop :=
 (if a.Kind == b.Kind then F75.E a.Pts b.Pts (fun r => Q r) else Q false)
theorem F24.calls {O : Ob} (w0 : World) (hO : Ok w0 O) (a : Shape) (A1 : Option Addr) (n2 c3 : Nat) (hp4 : Sl kPt w0 (Fr O) (.slice A1 n2 c3) a.Pts) (b : Shape) (A6 : Option Addr) (n7 c8 : Nat) (hp9 : Sl kPt w0 (Fr O) (.slice A6 n7 c8) b.Pts) (Q : Bool → Prop) (h : F24.E a b Q) :
  Ret Tryz.prog 94 [.agg #[vi a.Kind, .slice A1 n2 c3], .agg #[vi b.Kind, .slice A6 n7 c8]] w0 (fun v w' => ∃ (r0 : Bool), v = vb r0 ∧ Q r0 ∧ Gr w0 w' none) := by
 unfold F24.E at h
 have H := h
 clear h
 have hc0 := Ct.init hO
 refine Ret_enter Tryz.func94 rfl 17 rfl [.tmp 4] rfl rfl ?_
 refine W_seq (W_reg (L_box [vi a.Kind, .slice A1 n2 c3] rfl fun au ab ai hu15 aj ak => ?_))
 have al := Fb.mk hc0.ok ai ak
 have ae := hc0.k0 aj
 refine L_box [vi b.Kind, .slice A6 n7 c8] rfl fun am ac an hu24 af ao => ?_
 have ag := Fb.mk ae.ok an ao
 have ad := ae.k0 af
 refine L_as (vb false) rfl (L_nil (W_seq (W_reg (L_pu (P_fa fa58_0 ⟨ab, 0, none⟩ ⟨ab, 0, none⟩ rfl rfl) ?_))))
 have ap := ae.stn af
 have ah := (al.st ap)
 refine L_pu (P_ld ag3 cL ⟨ab, 0, none⟩ (vi a.Kind) rfl (ah.cell rfl)) (L_pu (P_fa fa58_0 ⟨ac, 0, none⟩ ⟨ac, 0, none⟩ rfl rfl) (L_pu (P_ld ag3 cL ⟨ac, 0, none⟩ (vi b.Kind) rfl (ag.cell rfl)) (L_pu (P_cmp a.Kind b.Kind (a.Kind == b.Kind) rfl rfl rfl) (L_mv (vb (a.Kind == b.Kind)) rfl ?_))))
 rcases bool_or (a.Kind == b.Kind) with aa | aa
 ·have H := ite_t H aa
  refine L_rb aa rfl (L_pu (P_fa fa58_1 ⟨ab, 0, none⟩ ⟨ab, 1, none⟩ rfl rfl) (L_rb aa rfl (L_pu (P_ld ag56 cL ⟨ab, 1, none⟩ (.slice A1 n2 c3) rfl (ah.cell rfl)) (L_rb aa rfl (L_pu (P_fa fa58_1 ⟨ac, 0, none⟩ ⟨ac, 1, none⟩ rfl rfl) (L_rb aa rfl (L_pu (P_ld ag56 cL ⟨ac, 1, none⟩ (.slice A6 n7 c8) rfl (ag.cell rfl)) (L_rb aa rfl ?_))))))))
  refine L_call go123 [.slice A1 n2 c3, .slice A6 n7 c8] rfl ((F75.calls am ad.ok a.Pts A1 n2 c3 (hp4.st ad.st) b.Pts A6 n7 c8 (hp9.st ad.st) _ H).mono ?_)
  rintro _ av ⟨r, rfl, H, aq⟩
  have ar := ad.k0 aq
  exact L_pu (P_pick true (vb r) (by exact congrArg Value.bool aa) rfl) (L_as (vb r) rfl (L_nil (W_ret ⟨[vb r], ⟨_, rfl, rfl⟩, r, rfl, H, ar.gr.g0⟩)))
 have H := ite_f H aa
 refine L_pb aa rfl (L_pb aa rfl (L_pb aa rfl (L_pb aa rfl (L_pb aa rfl (L_pu (P_pick false (vb false) (by exact congrArg Value.bool aa) rfl) (L_as (vb false) rfl (L_nil (W_ret ?_))))))))
 exact ⟨[vb false], ⟨_, rfl, rfl⟩, false, rfl, H, ad.gr.g0⟩
end
section
open Go.RowKit
def F76.E (a : List Tag) (b : List Tag) (Q : Bool → Prop) : Prop :=
 (if (a.length : Int) != (b.length : Int) then Q false else (∃ (I32 : Int → Prop) (mu33 : Int → Nat), I32 0 ∧ ∀ (i2 : Int), I32 i2 → (if decide (i2 < (a.length : Int)) then ((0 : Int) ≤ i2 ∧ i2 < (a.length : Int)) ∧ ((0 : Int) ≤ i2 ∧ i2 < (b.length : Int)) ∧ (if !(eqTag (nth a i2) (nth b i2)) then Q false else (-9223372036854775808 ≤ i2) ∧ I32 (i2 + 1) ∧ mu33 (i2 + 1) < mu33 i2) else Q true)))
theorem F76.calls {O : Ob} (w0 : World) (hO : Ok w0 O) (a : List Tag) (A1 : Option Addr) (n2 c3 : Nat) (hp4 : Sl kTag w0 (Fr O) (.slice A1 n2 c3) a) (b : List Tag) (A6 : Option Addr) (n7 c8 : Nat) (hp9 : Sl kTag w0 (Fr O) (.slice A6 n7 c8) b) (Q : Bool → Prop) (h : F76.E a b Q) :
  Ret Tryz.prog 95 [.slice A1 n2 c3, .slice A6 n7 c8] w0 (fun v w' => ∃ (r0 : Bool), v = vb r0 ∧ Q r0 ∧ Gr w0 w' none) := by
 unfold F76.E at h
 have H := h
 clear h
 have hc0 := Ct.init hO
 refine Ret_enter Tryz.func95 rfl 26 rfl [.tmp 4] rfl rfl ?_
 refine W_seq (W_reg (L_as (vb false) rfl (L_nil (W_seq (W_seq (W_reg (L_mv (.slice A1 n2 c3) rfl ?_)))))))
 have a5 := hp4.le
 refine L_pu (P_len Tryz.underlying59 A1 n2 c3 hp4.len rfl) (L_mv (.slice A6 n7 c8) rfl ?_)
 have a6 := hp9.le
 refine L_pu (P_len Tryz.underlying59 A6 n7 c8 hp9.len rfl) (L_pu (P_cmp (a.length : Int) (b.length : Int) ((a.length : Int) != (b.length : Int)) rfl rfl rfl) (L_nil ?_))
 refine W_cond ((a.length : Int) != (b.length : Int)) rfl (fun ad => ?_) (fun ad => ?_)
 ·have H := ite_t H ad
  exact W_seq (W_reg (L_as (vb false) rfl (L_nil (W_ret ⟨[vb false], ⟨_, rfl, rfl⟩, false, rfl, H, hc0.gr.g0⟩))))
 have H := ite_f H ad
 refine W_skip (W_seq (W_seq (W_reg (L_as (vi 0) rfl (L_nil (W_block ?_))))))
 obtain ⟨ap, aq, ae, H⟩ := H
 refine W_loop (α := Int) (fun (sv__ : Int) t aa => match sv__ with | i2 => ap i2 ∧ Has t [(0, .slice A1 n2 c3), (1, .slice A6 n7 c8), (5, vi i2)] ∧ Ct [] w0 aa [] O ∧ Sl kTag aa (Fr ([] ++ O)) (.slice A1 n2 c3) a ∧ Sl kTag aa (Fr ([] ++ O)) (.slice A6 n7 c8) b) (fun (sv__ : Int) => match sv__ with | i2 => aq i2) 0 ⟨ae, (hasI rfl), hc0, hp4, hp9⟩ ?_
 rintro i2 _ aa ⟨ae, ar, af, ab, ag⟩
 obtain ⟨a7, rfl⟩ := Has.ins ar
 have H := H i2 ae
 refine W_seq (W_seq (W_reg (L_mv (vi i2) rfl (L_mv (.slice A1 n2 c3) rfl ?_))))
 have au := ab.le
 refine L_pu (P_len Tryz.underlying59 A1 n2 c3 ab.len rfl) (L_pu (P_cmp i2 (a.length : Int) (decide (i2 < (a.length : Int))) rfl rfl rfl) (L_nil ?_))
 refine W_cond (decide (i2 < (a.length : Int))) rfl (fun ac => ?_) (fun ac => ?_)
 ·have H := ite_t H ac
  refine W_skip (W_seq (W_block (W_seq (W_draw (fun x => Gr aa x none) (by kernel_rfl) (by kernel_rfl) (Gr.drew _) ?_))))
  refine Q_mv (.slice A1 n2 c3) rfl (Q_mv (vi i2) rfl ?_)
  obtain ⟨ai, H⟩ := H
  obtain ⟨aj, a8, av, a9, aw, ax⟩ := ab.get default (by decide) i2 ai
  obtain ⟨rfl, ba, bb⟩ := kTag.op aw
  refine Q_pu (P_ia Tryz.underlying59 se59 A1 aj n2 c3 ab.len i2 rfl av rfl ai) (Q_pu (P_lda ag106 sz106 cQ (aj.add (i2.toNat * 2)) [vs ((nth a i2).Key), vs ((nth a i2).Val)] rfl rfl ax) (Q_mv (.slice A6 n7 c8) rfl (Q_mv (vi i2) rfl ?_)))
  obtain ⟨ak, H⟩ := H
  obtain ⟨al, bc, ay, bd, az, a0⟩ := ag.get default (by decide) i2 ak
  obtain ⟨rfl, be, bf⟩ := kTag.op az
  refine Q_pu (P_ia Tryz.underlying59 se59 A6 al n7 c8 ag.len i2 rfl ay rfl ak) (Q_pu (P_lda ag106 sz106 cQ (al.add (i2.toNat * 2)) [vs ((nth b i2).Key), vs ((nth b i2).Val)] rfl rfl a0) (Q_pu (P_ne _ _ (eqTag (nth a i2) (nth b i2)) (qt106 (nth a i2) (nth b i2)) rfl rfl) (Q_nil fun bg am => ?_)))
  have an := af.k0 am
  refine W_cond (!(eqTag (nth a i2) (nth b i2))) rfl (fun ah => ?_) (fun ah => ?_)
  ·have H := ite_t H ah
   exact W_seq (W_reg (L_as (vb false) rfl (L_nil (W_ret ⟨[vb false], ⟨_, rfl, rfl⟩, false, rfl, H, an.gr.g0⟩))))
  have H := ite_f H ah
  refine W_skip (W_reg (L_mv (vi i2) rfl ?_))
  obtain ⟨a1, H⟩ := H
  have a2 : I64 (i2 + 1) := i64_succ (of_decide_eq_true ac) au a1
  refine L_pu (P_add i2 1 rfl rfl a2) (L_as (vi (i2 + 1)) rfl (L_nil ?_))
  obtain ⟨a3, a4⟩ := H
  have ao := af.stn am
  exact ⟨i2 + 1, a4, a3, (hasI rfl), an, (ab.st ao), (ag.st ao)⟩
 have H := ite_f H ac
 refine W_exit (xin_hit ?_)
 exact W_seq (W_reg (L_as (vb true) rfl (L_nil (W_ret ⟨[vb true], ⟨_, rfl, rfl⟩, true, rfl, H, af.gr.g0⟩))))
end
section
open Go.RowKit
def F35.E (a : Feat) (b : Feat) (Q : Bool → Prop) : Prop :=
 (if a.Id == b.Id then F24.E a.Shape b.Shape (fun r => (if r then F76.E a.Tags b.Tags (fun r2 => Q r2) else Q false)) else Q false)
theorem F35.calls {O : Ob} (w0 : World) (hO : Ok w0 O) (a : Feat) (A2 : Option Addr) (n3 c4 : Nat) (A7 : Option Addr) (n8 c9 : Nat) (hs1 : Lim a.Id) (hp5 : Sl kPt w0 (Fr O) (.slice A2 n3 c4) a.Shape.Pts) (au : Sl kTag w0 (Fr O) (.slice A7 n8 c9) a.Tags) (b : Feat) (ae : Option Addr) (af ag : Nat) (ah : Option Addr) (ai aj : Nat) (ba : Lim b.Id) (av : Sl kPt w0 (Fr O) (.slice ae af ag) b.Shape.Pts) (aw : Sl kTag w0 (Fr O) (.slice ah ai aj) b.Tags) (Q : Bool → Prop) (h : F35.E a b Q) :
  Ret Tryz.prog 60 [.agg #[vs a.Id, vi a.Shape.Kind, .slice A2 n3 c4, .slice A7 n8 c9], .agg #[vs b.Id, vi b.Shape.Kind, .slice ae af ag, .slice ah ai aj]] w0 (fun v w' => ∃ (r0 : Bool), v = vb r0 ∧ Q r0 ∧ Gr w0 w' none) := by
 unfold F35.E at h
 have H := h
 clear h
 have hc0 := Ct.init hO
 refine Ret_enter Tryz.func60 rfl 24 rfl [.tmp 4] rfl rfl ?_
 refine W_seq (W_reg (L_box [vs a.Id, vi a.Shape.Kind, .slice A2 n3 c4, .slice A7 n8 c9] rfl fun bb ac ax hu27 ay az => ?_))
 have a0 := Fb.mk hc0.ok ax az
 have am := hc0.k0 ay
 refine L_box [vs b.Id, vi b.Shape.Kind, .slice ae af ag, .slice ah ai aj] rfl fun a1 ad a2 hu36 ap a3 => ?_
 have an := Fb.mk am.ok a2 a3
 have ak := am.k0 ap
 refine L_as (vb false) rfl (L_nil (W_seq (W_reg (L_pu (P_fa fa61_0 ⟨ac, 0, none⟩ ⟨ac, 0, none⟩ rfl rfl) ?_))))
 have a4 := am.stn ap
 have ao := (a0.st a4)
 refine L_pu (P_ld ag9 cL ⟨ac, 0, none⟩ (vs a.Id) rfl (ao.cell rfl)) (L_pu (P_fa fa61_0 ⟨ad, 0, none⟩ ⟨ad, 0, none⟩ rfl rfl) (L_pu (P_ld ag9 cL ⟨ad, 0, none⟩ (vs b.Id) rfl (an.cell rfl)) (L_pu (P_scmp a.Id b.Id (a.Id == b.Id) rfl rfl rfl) (L_mv (vb (a.Id == b.Id)) rfl ?_))))
 rcases bool_or (a.Id == b.Id) with aa | aa
 ·have H := ite_t H aa
  refine L_rb aa rfl (L_pu (P_fa fa61_1 ⟨ac, 0, none⟩ ⟨ac, 1, none⟩ rfl rfl) (L_rb aa rfl (L_pu (P_lda ag58 sz58 cL ⟨ac, 1, none⟩ [vi a.Shape.Kind, .slice A2 n3 c4] rfl rfl (ao.cells (off := 1) rfl)) (L_rb aa rfl (L_pu (P_fa fa61_1 ⟨ad, 0, none⟩ ⟨ad, 1, none⟩ rfl rfl) (L_rb aa rfl (L_pu (P_lda ag58 sz58 cL ⟨ad, 1, none⟩ [vi b.Shape.Kind, .slice ae af ag] rfl rfl (an.cells (off := 1) rfl)) (L_rb aa rfl ?_))))))))
  refine L_call go94 [.agg #[vi a.Shape.Kind, .slice A2 n3 c4], .agg #[vi b.Shape.Kind, .slice ae af ag]] rfl ((F24.calls a1 ak.ok a.Shape A2 n3 c4 (hp5.st ak.st) b.Shape ae af ag (av.st ak.st) _ H).mono ?_)
  rintro _ a5 ⟨r, rfl, H, aq⟩
  have al := ak.k0 aq
  refine L_pu (P_pick true (vb r) (by exact congrArg Value.bool aa) rfl) (L_mv (vb r) rfl ?_)
  rcases bool_or r with ab | ab
  ·have H := ite_t H ab
   refine L_rb ab rfl (L_pu (P_fa fa61_2 ⟨ac, 0, none⟩ ⟨ac, 3, none⟩ rfl rfl) (L_rb ab rfl ?_))
   have ar := ak.stn aq
   have a6 := (ao.st ar)
   refine L_pu (P_ld ag59 cL ⟨ac, 3, none⟩ (.slice A7 n8 c9) rfl (a6.cell rfl)) (L_rb ab rfl (L_pu (P_fa fa61_2 ⟨ad, 0, none⟩ ⟨ad, 3, none⟩ rfl rfl) (L_rb ab rfl ?_)))
   have a7 := (an.st ar)
   refine L_pu (P_ld ag59 cL ⟨ad, 3, none⟩ (.slice ah ai aj) rfl (a7.cell rfl)) (L_rb ab rfl ?_)
   refine L_call go95 [.slice A7 n8 c9, .slice ah ai aj] rfl ((F76.calls a5 al.ok a.Tags A7 n8 c9 (au.st al.st) b.Tags ah ai aj (aw.st al.st) _ H).mono ?_)
   rintro _ bc ⟨r2, rfl, H, a8⟩
   have a9 := al.k0 a8
   exact L_pu (P_pick true (vb r2) (by exact congrArg Value.bool ab) rfl) (L_as (vb r2) rfl (L_nil (W_ret ⟨[vb r2], ⟨_, rfl, rfl⟩, r2, rfl, H, a9.gr.g0⟩)))
  have H := ite_f H ab
  refine L_pb ab rfl (L_pb ab rfl (L_pb ab rfl (L_pb ab rfl (L_pb ab rfl (L_pu (P_pick false (vb false) (by exact congrArg Value.bool ab) rfl) (L_as (vb false) rfl (L_nil (W_ret ?_))))))))
  exact ⟨[vb false], ⟨_, rfl, rfl⟩, false, rfl, H, al.gr.g0⟩
 have H := ite_f H aa
 refine L_pb aa rfl (L_pb aa rfl (L_pb aa rfl (L_pb aa rfl (L_pb aa rfl (L_pu (P_pick false (vb false) (by exact congrArg Value.bool aa) rfl) (L_mv (vb false) rfl (L_pass (dj := 17) rfl rfl (.inl rfl) (L_pass (dj := 17) rfl rfl (.inl rfl) ?_))))))))
 exact L_pass (dj := 17) rfl rfl (.inl rfl) (L_pass (dj := 17) rfl rfl (.inl rfl) (L_pass (dj := 17) rfl rfl (.inl rfl) (L_pu (P_pick false (vb false) (by exact congrArg Value.bool rfl) rfl) (L_as (vb false) rfl (L_nil (W_ret ⟨[vb false], ⟨_, rfl, rfl⟩, false, rfl, H, ak.gr.g0⟩))))))
end
section
open Go.RowKit
def F106.E (c_ : Change) (Q : Bool → Prop) : Prop :=
 F72.E c_.Id (fun r => (if !r then Q false else (if !c_.Had then (if !c_.Has then Q false else (if c_.Had then (if c_.Has then F35.E c_.Was c_.Now (fun r2 => (if r2 then Q false else F35.E c_.Was (⟨([] : Str), (⟨0, []⟩ : Shape), []⟩ : Feat) (fun r3 => (if !r3 then Q false else F74.E c_.Now (fun r4 => (if r4 then Q (c_.Now.Id == c_.Id) else Q false)))))) else F35.E c_.Was (⟨([] : Str), (⟨0, []⟩ : Shape), []⟩ : Feat) (fun r5 => (if !r5 then Q false else F74.E c_.Now (fun r6 => (if r6 then Q (c_.Now.Id == c_.Id) else Q false))))) else F35.E c_.Was (⟨([] : Str), (⟨0, []⟩ : Shape), []⟩ : Feat) (fun r7 => (if !r7 then Q false else F74.E c_.Now (fun r8 => (if r8 then Q (c_.Now.Id == c_.Id) else Q false)))))) else (if c_.Had then (if c_.Has then F35.E c_.Was c_.Now (fun r9 => (if r9 then Q false else (if !c_.Has then F35.E c_.Now (⟨([] : Str), (⟨0, []⟩ : Shape), []⟩ : Feat) (fun r10 => (if !r10 then Q false else F74.E c_.Was (fun r11 => (if r11 then (if c_.Was.Id == c_.Id then Q true else Q false) else Q false)))) else F74.E c_.Was (fun r12 => (if r12 then (if c_.Was.Id == c_.Id then F74.E c_.Now (fun r13 => (if r13 then Q (c_.Now.Id == c_.Id) else Q false)) else Q false) else Q false))))) else (if !c_.Has then F35.E c_.Now (⟨([] : Str), (⟨0, []⟩ : Shape), []⟩ : Feat) (fun r14 => (if !r14 then Q false else F74.E c_.Was (fun r15 => (if r15 then (if c_.Was.Id == c_.Id then Q true else Q false) else Q false)))) else F74.E c_.Was (fun r16 => (if r16 then (if c_.Was.Id == c_.Id then F74.E c_.Now (fun r17 => (if r17 then Q (c_.Now.Id == c_.Id) else Q false)) else Q false) else Q false)))) else (if !c_.Has then F35.E c_.Now (⟨([] : Str), (⟨0, []⟩ : Shape), []⟩ : Feat) (fun r18 => (if !r18 then Q false else F74.E c_.Was (fun r19 => (if r19 then (if c_.Was.Id == c_.Id then Q true else Q false) else Q false)))) else F74.E c_.Was (fun r20 => (if r20 then (if c_.Was.Id == c_.Id then F74.E c_.Now (fun r21 => (if r21 then Q (c_.Now.Id == c_.Id) else Q false)) else Q false) else Q false)))))))
theorem F106.calls {O : Ob} (w0 : World) (hO : Ok w0 O) (c_ : Change) (A3 : Option Addr) (n4 c5 : Nat) (A8 : Option Addr) (n9 ae : Nat) (af : Option Addr) (ag ah : Nat) (ai : Option Addr) (aj ak : Nat) (hs1 : Lim c_.Id) (hs2 : Lim c_.Was.Id) (hp6 : Sl kPt w0 (Fr O) (.slice A3 n4 c5) c_.Was.Shape.Pts) (bf : Sl kTag w0 (Fr O) (.slice A8 n9 ae) c_.Was.Tags) (bg : Lim c_.Now.Id) (bh : Sl kPt w0 (Fr O) (.slice af ag ah) c_.Now.Shape.Pts) (bi : Sl kTag w0 (Fr O) (.slice ai aj ak) c_.Now.Tags) (Q : Bool → Prop) (h : F106.E c_ Q) :
  Ret Tryz.prog 58 [.agg #[vs c_.Id, vb c_.Had, vs c_.Was.Id, vi c_.Was.Shape.Kind, .slice A3 n4 c5, .slice A8 n9 ae, vb c_.Has, vs c_.Now.Id, vi c_.Now.Shape.Kind, .slice af ag ah, .slice ai aj ak]] w0 (fun v w' => ∃ (r0 : Bool), v = vb r0 ∧ Q r0 ∧ Gr w0 w' none) := by
 unfold F106.E at h
 have H := h
 clear h
 have hc0 := Ct.init hO
 refine Ret_enter Tryz.func58 rfl 88 rfl [.tmp 2] rfl rfl ?_
 refine W_seq (W_reg (L_box [vs c_.Id, vb c_.Had, vs c_.Was.Id, vi c_.Was.Shape.Kind, .slice A3 n4 c5, .slice A8 n9 ae, vb c_.Has, vs c_.Now.Id, vi c_.Now.Shape.Kind, .slice af ag ah, .slice ai aj ak] rfl fun dn aa dp hu28 dq dr => ?_))
 have cm := Fb.mk hc0.ok dp dr
 have b6 := hc0.k0 dq
 refine L_as (vb false) rfl (L_nil (W_seq (W_seq (W_reg (L_pu (P_fa fa63_0 ⟨aa, 0, none⟩ ⟨aa, 0, none⟩ rfl rfl) (L_pu (P_ld ag9 cL ⟨aa, 0, none⟩ (vs c_.Id) rfl (cm.cell rfl)) ?_))))))
 refine L_call go90 [vs c_.Id] rfl ((F72.calls dn b6.ok c_.Id hs1 _ H).mono ?_)
 rintro _ bn ⟨r, rfl, H, cn⟩
 have ad := b6.k0 cn
 refine L_pu (P_not r rfl) (L_mv (vb (!r)) rfl ?_)
 rcases bool_or (!r) with ap | ap
 ·have H := ite_t H ap
  refine L_pb ap rfl (L_pb ap rfl (L_pb ap rfl (L_pb ap rfl (L_pn rfl (L_pn rfl (L_pn rfl (L_pb ap rfl (L_pu (P_pick true (vb true) (by exact congrArg Value.bool ap) rfl) ?_))))))))
  refine L_mv (vb true) rfl (L_pass (dj := 17) rfl rfl (.inl rfl) (L_pass (dj := 17) rfl rfl (.inl rfl) (L_pass (dj := 17) rfl rfl (.inl rfl) (L_pn rfl (L_pn rfl (L_pass (dj := 17) rfl rfl (.inl rfl) (L_pass (dj := 17) rfl rfl (.inl rfl) (L_pn rfl ?_))))))))
  refine L_pn rfl (L_pn rfl (L_pn rfl (L_pn rfl (L_pass (dj := 17) rfl rfl (.inl rfl) (L_pu (P_pick true (vb true) (by exact congrArg Value.bool rfl) rfl) (L_nil (W_ct (b := true) rfl rfl ?_)))))))
  exact W_seq (W_reg (L_as (vb false) rfl (L_nil (W_ret ⟨[vb false], ⟨_, rfl, rfl⟩, false, rfl, H, ad.gr.g0⟩))))
 have H := ite_f H ap
 refine L_rb ap rfl (L_pu (P_fa fa63_1 ⟨aa, 0, none⟩ ⟨aa, 1, none⟩ rfl rfl) (L_rb ap rfl ?_))
 have ds := b6.stn cn
 have al := (cm.st ds)
 refine L_pu (P_ld ag4 cL ⟨aa, 1, none⟩ (vb c_.Had) rfl (al.cell rfl)) (L_rb ap rfl (L_pu (P_not c_.Had rfl) (L_rb ap rfl (L_mv (vb (!c_.Had)) rfl ?_))))
 rcases bool_or (!c_.Had) with ab | ab
 ·have H := ite_t H ab
  refine L_rb ab rfl (L_pu (P_fa fa63_3 ⟨aa, 0, none⟩ ⟨aa, 6, none⟩ rfl rfl) (L_rb ab rfl (L_pu (P_ld ag4 cL ⟨aa, 6, none⟩ (vb c_.Has) rfl (al.cell rfl)) (L_rb ab rfl (L_pu (P_not c_.Has rfl) (L_rb ap rfl (L_pu (P_pick true (vb (!c_.Has)) (by exact congrArg Value.bool ab) rfl) (L_pu (P_pick false (vb (!c_.Has)) (by exact congrArg Value.bool ap) rfl) ?_))))))))
  refine L_mv (vb (!c_.Has)) rfl ?_
  rcases bool_or (!c_.Has) with ac | ac
  ·have H := ite_t H ac
   refine L_pb ac rfl (L_pb ac rfl (L_pb ac rfl (L_pn rfl (L_pn rfl (L_pb ac rfl (L_pb ac rfl (L_pn rfl (L_pn rfl ?_))))))))
   refine L_pn rfl (L_pn rfl (L_pn rfl (L_pb ac rfl (L_pu (P_pick true (vb true) (by exact congrArg Value.bool ac) rfl) (L_nil (W_ct (b := true) rfl rfl ?_))))))
   exact W_seq (W_reg (L_as (vb false) rfl (L_nil (W_ret ⟨[vb false], ⟨_, rfl, rfl⟩, false, rfl, H, ad.gr.g0⟩))))
  have H := ite_f H ac
  refine L_rb ac rfl (L_pu (P_fa fa63_1 ⟨aa, 0, none⟩ ⟨aa, 1, none⟩ rfl rfl) (L_rb ac rfl (L_pu (P_ld ag4 cL ⟨aa, 1, none⟩ (vb c_.Had) rfl (al.cell rfl)) (L_rb ac rfl (L_mv (vb c_.Had) rfl ?_)))))
  rcases bool_or c_.Had with bl | bl
  ·have H := ite_t H bl
   refine L_rb bl rfl (L_pu (P_fa fa63_3 ⟨aa, 0, none⟩ ⟨aa, 6, none⟩ rfl rfl) (L_rb bl rfl (L_pu (P_ld ag4 cL ⟨aa, 6, none⟩ (vb c_.Has) rfl (al.cell rfl)) (L_rb ac rfl (L_pu (P_pick true (vb c_.Has) (by exact congrArg Value.bool bl) rfl) (L_rb ac rfl (L_mv (vb c_.Has) rfl ?_)))))))
   rcases bool_or c_.Has with a7 | a7
   ·have H := ite_t H a7
    refine L_rb a7 rfl (L_pu (P_fa fa63_2 ⟨aa, 0, none⟩ ⟨aa, 2, none⟩ rfl rfl) (L_rb a7 rfl (L_pu (P_lda ag61 sz61 cL ⟨aa, 2, none⟩ [vs c_.Was.Id, vi c_.Was.Shape.Kind, .slice A3 n4 c5, .slice A8 n9 ae] rfl rfl (al.cells (off := 2) rfl)) (L_rb a7 rfl (L_pu (P_fa fa63_4 ⟨aa, 0, none⟩ ⟨aa, 7, none⟩ rfl rfl) (L_rb a7 rfl (L_pu (P_lda ag61 sz61 cL ⟨aa, 7, none⟩ [vs c_.Now.Id, vi c_.Now.Shape.Kind, .slice af ag ah, .slice ai aj ak] rfl rfl (al.cells (off := 7) rfl)) (L_rb a7 rfl ?_))))))))
    refine L_call go60 [.agg #[vs c_.Was.Id, vi c_.Was.Shape.Kind, .slice A3 n4 c5, .slice A8 n9 ae], .agg #[vs c_.Now.Id, vi c_.Now.Shape.Kind, .slice af ag ah, .slice ai aj ak]] rfl ((F35.calls bn ad.ok c_.Was A3 n4 c5 A8 n9 ae hs2 (hp6.st ad.st) (bf.st ad.st) c_.Now af ag ah ai aj ak bg (bh.st ad.st) (bi.st ad.st) _ H).mono ?_)
    rintro _ dt ⟨r2, rfl, H, co⟩
    have bs := ad.k0 co
    refine L_rb ac rfl (L_pu (P_pick true (vb r2) (by exact congrArg Value.bool a7) rfl) (L_pu (P_pick false (vb r2) (by exact congrArg Value.bool ac) rfl) (L_nil ?_)))
    refine W_cond r2 rfl (fun b7 => ?_) (fun b7 => ?_)
    ·have H := ite_t H b7
     exact W_seq (W_reg (L_as (vb false) rfl (L_nil (W_ret ⟨[vb false], ⟨_, rfl, rfl⟩, false, rfl, H, bs.gr.g0⟩))))
    have H := ite_f H b7
    refine W_skip (W_seq (W_seq (W_reg (L_pu (P_fa fa63_1 ⟨aa, 0, none⟩ ⟨aa, 1, none⟩ rfl rfl) ?_))))
    have du := ad.stn co
    have b8 := (al.st du)
    refine L_pu (P_ld ag4 cL ⟨aa, 1, none⟩ (vb c_.Had) rfl (b8.cell rfl)) (L_pu (P_not c_.Had rfl) (L_mv (vb (!c_.Had)) rfl (L_rb ab rfl (L_pu (P_fa fa63_2 ⟨aa, 0, none⟩ ⟨aa, 2, none⟩ rfl rfl) (L_rb ab rfl (L_pu (P_lda ag61 sz61 cL ⟨aa, 2, none⟩ [vs c_.Was.Id, vi c_.Was.Shape.Kind, .slice A3 n4 c5, .slice A8 n9 ae] rfl rfl (b8.cells (off := 2) rfl)) (L_rb ab rfl (L_pu (P_build (.agg #[vs ([] : Str), vi 0, .slice none 0 0, .slice none 0 0]) (fun _ => by kernel_rfl)) ?_))))))))
    refine L_rb ab rfl ?_
    refine L_call go60 [.agg #[vs c_.Was.Id, vi c_.Was.Shape.Kind, .slice A3 n4 c5, .slice A8 n9 ae], .agg #[vs ([] : Str), vi 0, .slice none 0 0, .slice none 0 0]] rfl ((F35.calls dt bs.ok c_.Was A3 n4 c5 A8 n9 ae hs2 (hp6.st bs.st) (bf.st bs.st) (⟨([] : Str), (⟨0, []⟩ : Shape), []⟩ : Feat) none 0 0 none 0 0 (by decide) (Sl.nil _ _ _ none 0 (by decide)) (Sl.nil _ _ _ none 0 (by decide)) _ H).mono ?_)
    rintro _ dv ⟨r3, rfl, H, cp⟩
    have bt := bs.k0 cp
    refine L_rb ab rfl (L_pu (P_not r3 rfl) (L_pu (P_pick true (vb (!r3)) (by exact congrArg Value.bool ab) rfl) (L_mv (vb (!r3)) rfl ?_)))
    rcases bool_or (!r3) with a8 | a8
    ·have H := ite_t H a8
     refine L_pb a8 rfl (L_pb a8 rfl (L_pb a8 rfl (L_pb a8 rfl (L_pn rfl (L_pn rfl (L_pn rfl (L_pn rfl (L_pn rfl ?_))))))))
     refine L_pb a8 rfl (L_pu (P_pick true (vb true) (by exact congrArg Value.bool a8) rfl) (L_nil (W_ct (b := true) rfl rfl ?_)))
     exact W_seq (W_reg (L_as (vb false) rfl (L_nil (W_ret ⟨[vb false], ⟨_, rfl, rfl⟩, false, rfl, H, bt.gr.g0⟩))))
    have H := ite_f H a8
    refine L_rb a8 rfl (L_pu (P_fa fa63_3 ⟨aa, 0, none⟩ ⟨aa, 6, none⟩ rfl rfl) (L_rb a8 rfl ?_))
    have dw := bs.stn cp
    have b0 := (b8.st dw)
    refine L_pu (P_ld ag4 cL ⟨aa, 6, none⟩ (vb c_.Has) rfl (b0.cell rfl)) (L_rb a8 rfl (L_pu (P_not c_.Has rfl) (L_rb a8 rfl (L_mv (vb (!c_.Has)) rfl (L_pb ac rfl (L_pb ac rfl (L_pb ac rfl (L_pb ac rfl ?_))))))))
    refine L_pb ac rfl (L_rb a8 rfl (L_pu (P_pick false (vb false) (by exact congrArg Value.bool ac) rfl) (L_pu (P_pick false (vb false) (by exact congrArg Value.bool a8) rfl) (L_nil (W_cf (b := false) rfl rfl ?_)))))
    refine W_skip (W_seq (W_reg (L_pu (P_fa fa63_1 ⟨aa, 0, none⟩ ⟨aa, 1, none⟩ rfl rfl) (L_pu (P_ld ag4 cL ⟨aa, 1, none⟩ (vb c_.Had) rfl (b0.cell rfl)) (L_pu (P_not c_.Had rfl) (L_mv (vb (!c_.Had)) rfl (L_pb ab rfl (L_pb ab rfl ?_))))))))
    refine L_pb ab rfl (L_pb ab rfl (L_pn rfl (L_pn rfl (L_pn rfl (L_pn rfl (L_pn rfl (L_pn rfl (L_pb ab rfl ?_))))))))
    refine L_pu (P_pick true (vb true) (by exact congrArg Value.bool ab) rfl) (L_mv (vb true) rfl (L_run (dj := 70) rfl rfl rfl (L_pu (P_fa fa63_3 ⟨aa, 0, none⟩ ⟨aa, 6, none⟩ rfl rfl) (L_run (dj := 70) rfl rfl rfl (L_pu (P_ld ag4 cL ⟨aa, 6, none⟩ (vb c_.Has) rfl (b0.cell rfl)) (L_run (dj := 70) rfl rfl rfl (L_pu (P_not c_.Has rfl) (L_run (dj := 70) rfl rfl rfl ?_))))))))
    refine L_mv (vb (!c_.Has)) rfl (L_rb ac rfl (L_pu (P_fa fa63_4 ⟨aa, 0, none⟩ ⟨aa, 7, none⟩ rfl rfl) (L_rb ac rfl (L_pu (P_lda ag61 sz61 cL ⟨aa, 7, none⟩ [vs c_.Now.Id, vi c_.Now.Shape.Kind, .slice af ag ah, .slice ai aj ak] rfl rfl (b0.cells (off := 7) rfl)) (L_rb ac rfl ?_)))))
    refine L_call go57 [.agg #[vs c_.Now.Id, vi c_.Now.Shape.Kind, .slice af ag ah, .slice ai aj ak]] rfl ((F74.calls dv bt.ok c_.Now af ag ah ai aj ak bg (bh.st bt.st) (bi.st bt.st) _ H).mono ?_)
    rintro _ en ⟨r4, rfl, H, cq⟩
    have cr := bt.k0 cq
    refine L_rb ac rfl (L_mv (vb r4) rfl ?_)
    rcases bool_or r4 with aq | aq
    ·have H := ite_t H aq
     refine L_rb aq rfl (L_pu (P_fa fa63_4 ⟨aa, 0, none⟩ ⟨aa, 7, none⟩ rfl rfl) (L_rb aq rfl (L_pu (P_fa fa61_0 ⟨aa, 7, none⟩ ⟨aa, 7, none⟩ rfl rfl) (L_rb aq rfl ?_))))
     have dx := bt.stn cq
     have cs := (b0.st dx)
     refine L_pu (P_ld ag9 cL ⟨aa, 7, none⟩ (vs c_.Now.Id) rfl (cs.cell rfl)) (L_rb aq rfl (L_pu (P_fa fa63_0 ⟨aa, 0, none⟩ ⟨aa, 0, none⟩ rfl rfl) (L_rb aq rfl (L_pu (P_ld ag9 cL ⟨aa, 0, none⟩ (vs c_.Id) rfl (cs.cell rfl)) (L_rb aq rfl (L_pu (P_scmp c_.Now.Id c_.Id (c_.Now.Id == c_.Id) rfl rfl rfl) (L_rb ac rfl (L_pu (P_pick true (vb (c_.Now.Id == c_.Id)) (by exact congrArg Value.bool aq) rfl) ?_))))))))
     exact L_run (dj := 70) rfl rfl rfl (L_pu (P_pick false (vb (c_.Now.Id == c_.Id)) (by exact congrArg Value.bool ac) rfl) (L_pu (P_pick true (vb (c_.Now.Id == c_.Id)) (by exact congrArg Value.bool rfl) rfl) (L_as (vb (c_.Now.Id == c_.Id)) rfl (L_nil (W_ret ⟨[vb (c_.Now.Id == c_.Id)], ⟨_, rfl, rfl⟩, c_.Now.Id == c_.Id, rfl, H, cr.gr.g0⟩)))))
    have H := ite_f H aq
    refine L_pb aq rfl (L_pb aq rfl (L_pb aq rfl (L_pb aq rfl (L_pb aq rfl (L_pb aq rfl (L_rb ac rfl (L_pu (P_pick false (vb false) (by exact congrArg Value.bool aq) rfl) (L_run (dj := 70) rfl rfl rfl ?_))))))))
    exact L_pu (P_pick false (vb false) (by exact congrArg Value.bool ac) rfl) (L_pu (P_pick true (vb false) (by exact congrArg Value.bool rfl) rfl) (L_as (vb false) rfl (L_nil (W_ret ⟨[vb false], ⟨_, rfl, rfl⟩, false, rfl, H, cr.gr.g0⟩))))
   have H := ite_f H a7
   refine L_pb a7 rfl (L_pb a7 rfl (L_pb a7 rfl (L_pb a7 rfl (L_pb a7 rfl (L_rb ac rfl (L_pu (P_pick false (vb false) (by exact congrArg Value.bool a7) rfl) (L_pu (P_pick false (vb false) (by exact congrArg Value.bool ac) rfl) (L_nil ?_))))))))
   refine W_cf (b := false) rfl rfl ?_
   refine W_skip (W_seq (W_seq (W_reg (L_pu (P_fa fa63_1 ⟨aa, 0, none⟩ ⟨aa, 1, none⟩ rfl rfl) (L_pu (P_ld ag4 cL ⟨aa, 1, none⟩ (vb c_.Had) rfl (al.cell rfl)) (L_pu (P_not c_.Had rfl) (L_mv (vb (!c_.Had)) rfl (L_rb ab rfl ?_))))))))
   refine L_pu (P_fa fa63_2 ⟨aa, 0, none⟩ ⟨aa, 2, none⟩ rfl rfl) (L_rb ab rfl (L_pu (P_lda ag61 sz61 cL ⟨aa, 2, none⟩ [vs c_.Was.Id, vi c_.Was.Shape.Kind, .slice A3 n4 c5, .slice A8 n9 ae] rfl rfl (al.cells (off := 2) rfl)) (L_rb ab rfl (L_pu (P_build (.agg #[vs ([] : Str), vi 0, .slice none 0 0, .slice none 0 0]) (fun _ => by kernel_rfl)) (L_rb ab rfl ?_)))))
   refine L_call go60 [.agg #[vs c_.Was.Id, vi c_.Was.Shape.Kind, .slice A3 n4 c5, .slice A8 n9 ae], .agg #[vs ([] : Str), vi 0, .slice none 0 0, .slice none 0 0]] rfl ((F35.calls bn ad.ok c_.Was A3 n4 c5 A8 n9 ae hs2 (hp6.st ad.st) (bf.st ad.st) (⟨([] : Str), (⟨0, []⟩ : Shape), []⟩ : Feat) none 0 0 none 0 0 (by decide) (Sl.nil _ _ _ none 0 (by decide)) (Sl.nil _ _ _ none 0 (by decide)) _ H).mono ?_)
   rintro _ dy ⟨r5, rfl, H, ct⟩
   have bu := ad.k0 ct
   refine L_rb ab rfl (L_pu (P_not r5 rfl) (L_pu (P_pick true (vb (!r5)) (by exact congrArg Value.bool ab) rfl) (L_mv (vb (!r5)) rfl ?_)))
   rcases bool_or (!r5) with a9 | a9
   ·have H := ite_t H a9
    refine L_pb a9 rfl (L_pb a9 rfl (L_pb a9 rfl (L_pb a9 rfl (L_pn rfl (L_pn rfl (L_pn rfl (L_pn rfl (L_pn rfl ?_))))))))
    refine L_pb a9 rfl (L_pu (P_pick true (vb true) (by exact congrArg Value.bool a9) rfl) (L_nil (W_ct (b := true) rfl rfl ?_)))
    exact W_seq (W_reg (L_as (vb false) rfl (L_nil (W_ret ⟨[vb false], ⟨_, rfl, rfl⟩, false, rfl, H, bu.gr.g0⟩))))
   have H := ite_f H a9
   refine L_rb a9 rfl (L_pu (P_fa fa63_3 ⟨aa, 0, none⟩ ⟨aa, 6, none⟩ rfl rfl) (L_rb a9 rfl ?_))
   have dz := ad.stn ct
   have b1 := (al.st dz)
   refine L_pu (P_ld ag4 cL ⟨aa, 6, none⟩ (vb c_.Has) rfl (b1.cell rfl)) (L_rb a9 rfl (L_pu (P_not c_.Has rfl) (L_rb a9 rfl (L_mv (vb (!c_.Has)) rfl (L_pb ac rfl (L_pb ac rfl (L_pb ac rfl (L_pb ac rfl ?_))))))))
   refine L_pb ac rfl (L_rb a9 rfl (L_pu (P_pick false (vb false) (by exact congrArg Value.bool ac) rfl) (L_pu (P_pick false (vb false) (by exact congrArg Value.bool a9) rfl) (L_nil (W_cf (b := false) rfl rfl ?_)))))
   refine W_skip (W_seq (W_reg (L_pu (P_fa fa63_1 ⟨aa, 0, none⟩ ⟨aa, 1, none⟩ rfl rfl) (L_pu (P_ld ag4 cL ⟨aa, 1, none⟩ (vb c_.Had) rfl (b1.cell rfl)) (L_pu (P_not c_.Had rfl) (L_mv (vb (!c_.Had)) rfl (L_pb ab rfl (L_pb ab rfl ?_))))))))
   refine L_pb ab rfl (L_pb ab rfl (L_pn rfl (L_pn rfl (L_pn rfl (L_pn rfl (L_pn rfl (L_pn rfl (L_pb ab rfl ?_))))))))
   refine L_pu (P_pick true (vb true) (by exact congrArg Value.bool ab) rfl) (L_mv (vb true) rfl (L_run (dj := 70) rfl rfl rfl (L_pu (P_fa fa63_3 ⟨aa, 0, none⟩ ⟨aa, 6, none⟩ rfl rfl) (L_run (dj := 70) rfl rfl rfl (L_pu (P_ld ag4 cL ⟨aa, 6, none⟩ (vb c_.Has) rfl (b1.cell rfl)) (L_run (dj := 70) rfl rfl rfl (L_pu (P_not c_.Has rfl) (L_run (dj := 70) rfl rfl rfl ?_))))))))
   refine L_mv (vb (!c_.Has)) rfl (L_rb ac rfl (L_pu (P_fa fa63_4 ⟨aa, 0, none⟩ ⟨aa, 7, none⟩ rfl rfl) (L_rb ac rfl (L_pu (P_lda ag61 sz61 cL ⟨aa, 7, none⟩ [vs c_.Now.Id, vi c_.Now.Shape.Kind, .slice af ag ah, .slice ai aj ak] rfl rfl (b1.cells (off := 7) rfl)) (L_rb ac rfl ?_)))))
   refine L_call go57 [.agg #[vs c_.Now.Id, vi c_.Now.Shape.Kind, .slice af ag ah, .slice ai aj ak]] rfl ((F74.calls dy bu.ok c_.Now af ag ah ai aj ak bg (bh.st bu.st) (bi.st bu.st) _ H).mono ?_)
   rintro _ eo ⟨r6, rfl, H, cu⟩
   have cv := bu.k0 cu
   refine L_rb ac rfl (L_mv (vb r6) rfl ?_)
   rcases bool_or r6 with ar | ar
   ·have H := ite_t H ar
    refine L_rb ar rfl (L_pu (P_fa fa63_4 ⟨aa, 0, none⟩ ⟨aa, 7, none⟩ rfl rfl) (L_rb ar rfl (L_pu (P_fa fa61_0 ⟨aa, 7, none⟩ ⟨aa, 7, none⟩ rfl rfl) (L_rb ar rfl ?_))))
    have d0 := bu.stn cu
    have cw := (b1.st d0)
    refine L_pu (P_ld ag9 cL ⟨aa, 7, none⟩ (vs c_.Now.Id) rfl (cw.cell rfl)) (L_rb ar rfl (L_pu (P_fa fa63_0 ⟨aa, 0, none⟩ ⟨aa, 0, none⟩ rfl rfl) (L_rb ar rfl (L_pu (P_ld ag9 cL ⟨aa, 0, none⟩ (vs c_.Id) rfl (cw.cell rfl)) (L_rb ar rfl (L_pu (P_scmp c_.Now.Id c_.Id (c_.Now.Id == c_.Id) rfl rfl rfl) (L_rb ac rfl (L_pu (P_pick true (vb (c_.Now.Id == c_.Id)) (by exact congrArg Value.bool ar) rfl) ?_))))))))
    exact L_run (dj := 70) rfl rfl rfl (L_pu (P_pick false (vb (c_.Now.Id == c_.Id)) (by exact congrArg Value.bool ac) rfl) (L_pu (P_pick true (vb (c_.Now.Id == c_.Id)) (by exact congrArg Value.bool rfl) rfl) (L_as (vb (c_.Now.Id == c_.Id)) rfl (L_nil (W_ret ⟨[vb (c_.Now.Id == c_.Id)], ⟨_, rfl, rfl⟩, c_.Now.Id == c_.Id, rfl, H, cv.gr.g0⟩)))))
   have H := ite_f H ar
   refine L_pb ar rfl (L_pb ar rfl (L_pb ar rfl (L_pb ar rfl (L_pb ar rfl (L_pb ar rfl (L_rb ac rfl (L_pu (P_pick false (vb false) (by exact congrArg Value.bool ar) rfl) (L_run (dj := 70) rfl rfl rfl ?_))))))))
   exact L_pu (P_pick false (vb false) (by exact congrArg Value.bool ac) rfl) (L_pu (P_pick true (vb false) (by exact congrArg Value.bool rfl) rfl) (L_as (vb false) rfl (L_nil (W_ret ⟨[vb false], ⟨_, rfl, rfl⟩, false, rfl, H, cv.gr.g0⟩))))
  have H := ite_f H bl
  refine L_pb bl rfl (L_pb bl rfl (L_rb ac rfl (L_pu (P_pick false (vb false) (by exact congrArg Value.bool bl) rfl) (L_rb ac rfl (L_mv (vb false) rfl (L_pass (dj := 24) rfl rfl (.inl rfl) (L_pass (dj := 24) rfl rfl (.inl rfl) (L_pass (dj := 24) rfl rfl (.inl rfl) ?_))))))))
  refine L_pass (dj := 24) rfl rfl (.inl rfl) (L_pass (dj := 24) rfl rfl (.inl rfl) (L_rb ac rfl (L_pu (P_pick false (vb false) (by exact congrArg Value.bool rfl) rfl) (L_pu (P_pick false (vb false) (by exact congrArg Value.bool ac) rfl) (L_nil (W_cf (b := false) rfl rfl ?_))))))
  refine W_skip (W_seq (W_seq (W_reg (L_pu (P_fa fa63_1 ⟨aa, 0, none⟩ ⟨aa, 1, none⟩ rfl rfl) (L_pu (P_ld ag4 cL ⟨aa, 1, none⟩ (vb c_.Had) rfl (al.cell rfl)) (L_pu (P_not c_.Had rfl) (L_mv (vb (!c_.Had)) rfl (L_rb ab rfl ?_))))))))
  refine L_pu (P_fa fa63_2 ⟨aa, 0, none⟩ ⟨aa, 2, none⟩ rfl rfl) (L_rb ab rfl (L_pu (P_lda ag61 sz61 cL ⟨aa, 2, none⟩ [vs c_.Was.Id, vi c_.Was.Shape.Kind, .slice A3 n4 c5, .slice A8 n9 ae] rfl rfl (al.cells (off := 2) rfl)) (L_rb ab rfl (L_pu (P_build (.agg #[vs ([] : Str), vi 0, .slice none 0 0, .slice none 0 0]) (fun _ => by kernel_rfl)) (L_rb ab rfl ?_)))))
  refine L_call go60 [.agg #[vs c_.Was.Id, vi c_.Was.Shape.Kind, .slice A3 n4 c5, .slice A8 n9 ae], .agg #[vs ([] : Str), vi 0, .slice none 0 0, .slice none 0 0]] rfl ((F35.calls bn ad.ok c_.Was A3 n4 c5 A8 n9 ae hs2 (hp6.st ad.st) (bf.st ad.st) (⟨([] : Str), (⟨0, []⟩ : Shape), []⟩ : Feat) none 0 0 none 0 0 (by decide) (Sl.nil _ _ _ none 0 (by decide)) (Sl.nil _ _ _ none 0 (by decide)) _ H).mono ?_)
  rintro _ d1 ⟨r7, rfl, H, cx⟩
  have bv := ad.k0 cx
  refine L_rb ab rfl (L_pu (P_not r7 rfl) (L_pu (P_pick true (vb (!r7)) (by exact congrArg Value.bool ab) rfl) (L_mv (vb (!r7)) rfl ?_)))
  rcases bool_or (!r7) with ba | ba
  ·have H := ite_t H ba
   refine L_pb ba rfl (L_pb ba rfl (L_pb ba rfl (L_pb ba rfl (L_pn rfl (L_pn rfl (L_pn rfl (L_pn rfl (L_pn rfl ?_))))))))
   refine L_pb ba rfl (L_pu (P_pick true (vb true) (by exact congrArg Value.bool ba) rfl) (L_nil (W_ct (b := true) rfl rfl ?_)))
   exact W_seq (W_reg (L_as (vb false) rfl (L_nil (W_ret ⟨[vb false], ⟨_, rfl, rfl⟩, false, rfl, H, bv.gr.g0⟩))))
  have H := ite_f H ba
  refine L_rb ba rfl (L_pu (P_fa fa63_3 ⟨aa, 0, none⟩ ⟨aa, 6, none⟩ rfl rfl) (L_rb ba rfl ?_))
  have d2 := ad.stn cx
  have b2 := (al.st d2)
  refine L_pu (P_ld ag4 cL ⟨aa, 6, none⟩ (vb c_.Has) rfl (b2.cell rfl)) (L_rb ba rfl (L_pu (P_not c_.Has rfl) (L_rb ba rfl (L_mv (vb (!c_.Has)) rfl (L_pb ac rfl (L_pb ac rfl (L_pb ac rfl (L_pb ac rfl ?_))))))))
  refine L_pb ac rfl (L_rb ba rfl (L_pu (P_pick false (vb false) (by exact congrArg Value.bool ac) rfl) (L_pu (P_pick false (vb false) (by exact congrArg Value.bool ba) rfl) (L_nil (W_cf (b := false) rfl rfl ?_)))))
  refine W_skip (W_seq (W_reg (L_pu (P_fa fa63_1 ⟨aa, 0, none⟩ ⟨aa, 1, none⟩ rfl rfl) (L_pu (P_ld ag4 cL ⟨aa, 1, none⟩ (vb c_.Had) rfl (b2.cell rfl)) (L_pu (P_not c_.Had rfl) (L_mv (vb (!c_.Had)) rfl (L_pb ab rfl (L_pb ab rfl ?_))))))))
  refine L_pb ab rfl (L_pb ab rfl (L_pn rfl (L_pn rfl (L_pn rfl (L_pn rfl (L_pn rfl (L_pn rfl (L_pb ab rfl ?_))))))))
  refine L_pu (P_pick true (vb true) (by exact congrArg Value.bool ab) rfl) (L_mv (vb true) rfl (L_run (dj := 70) rfl rfl rfl (L_pu (P_fa fa63_3 ⟨aa, 0, none⟩ ⟨aa, 6, none⟩ rfl rfl) (L_run (dj := 70) rfl rfl rfl (L_pu (P_ld ag4 cL ⟨aa, 6, none⟩ (vb c_.Has) rfl (b2.cell rfl)) (L_run (dj := 70) rfl rfl rfl (L_pu (P_not c_.Has rfl) (L_run (dj := 70) rfl rfl rfl ?_))))))))
  refine L_mv (vb (!c_.Has)) rfl (L_rb ac rfl (L_pu (P_fa fa63_4 ⟨aa, 0, none⟩ ⟨aa, 7, none⟩ rfl rfl) (L_rb ac rfl (L_pu (P_lda ag61 sz61 cL ⟨aa, 7, none⟩ [vs c_.Now.Id, vi c_.Now.Shape.Kind, .slice af ag ah, .slice ai aj ak] rfl rfl (b2.cells (off := 7) rfl)) (L_rb ac rfl ?_)))))
  refine L_call go57 [.agg #[vs c_.Now.Id, vi c_.Now.Shape.Kind, .slice af ag ah, .slice ai aj ak]] rfl ((F74.calls d1 bv.ok c_.Now af ag ah ai aj ak bg (bh.st bv.st) (bi.st bv.st) _ H).mono ?_)
  rintro _ ep ⟨r8, rfl, H, cy⟩
  have cz := bv.k0 cy
  refine L_rb ac rfl (L_mv (vb r8) rfl ?_)
  rcases bool_or r8 with au | au
  ·have H := ite_t H au
   refine L_rb au rfl (L_pu (P_fa fa63_4 ⟨aa, 0, none⟩ ⟨aa, 7, none⟩ rfl rfl) (L_rb au rfl (L_pu (P_fa fa61_0 ⟨aa, 7, none⟩ ⟨aa, 7, none⟩ rfl rfl) (L_rb au rfl ?_))))
   have d3 := bv.stn cy
   have c0 := (b2.st d3)
   refine L_pu (P_ld ag9 cL ⟨aa, 7, none⟩ (vs c_.Now.Id) rfl (c0.cell rfl)) (L_rb au rfl (L_pu (P_fa fa63_0 ⟨aa, 0, none⟩ ⟨aa, 0, none⟩ rfl rfl) (L_rb au rfl (L_pu (P_ld ag9 cL ⟨aa, 0, none⟩ (vs c_.Id) rfl (c0.cell rfl)) (L_rb au rfl (L_pu (P_scmp c_.Now.Id c_.Id (c_.Now.Id == c_.Id) rfl rfl rfl) (L_rb ac rfl (L_pu (P_pick true (vb (c_.Now.Id == c_.Id)) (by exact congrArg Value.bool au) rfl) ?_))))))))
   exact L_run (dj := 70) rfl rfl rfl (L_pu (P_pick false (vb (c_.Now.Id == c_.Id)) (by exact congrArg Value.bool ac) rfl) (L_pu (P_pick true (vb (c_.Now.Id == c_.Id)) (by exact congrArg Value.bool rfl) rfl) (L_as (vb (c_.Now.Id == c_.Id)) rfl (L_nil (W_ret ⟨[vb (c_.Now.Id == c_.Id)], ⟨_, rfl, rfl⟩, c_.Now.Id == c_.Id, rfl, H, cz.gr.g0⟩)))))
  have H := ite_f H au
  refine L_pb au rfl (L_pb au rfl (L_pb au rfl (L_pb au rfl (L_pb au rfl (L_pb au rfl (L_rb ac rfl (L_pu (P_pick false (vb false) (by exact congrArg Value.bool au) rfl) (L_run (dj := 70) rfl rfl rfl ?_))))))))
  exact L_pu (P_pick false (vb false) (by exact congrArg Value.bool ac) rfl) (L_pu (P_pick true (vb false) (by exact congrArg Value.bool rfl) rfl) (L_as (vb false) rfl (L_nil (W_ret ⟨[vb false], ⟨_, rfl, rfl⟩, false, rfl, H, cz.gr.g0⟩))))
 have H := ite_f H ab
 refine L_pb ab rfl (L_pb ab rfl (L_pb ab rfl (L_rb ap rfl (L_pu (P_pick false (vb false) (by exact congrArg Value.bool ab) rfl) (L_pu (P_pick false (vb false) (by exact congrArg Value.bool ap) rfl) (L_mv (vb false) rfl (L_run (dj := 17) rfl rfl rfl (L_pu (P_fa fa63_1 ⟨aa, 0, none⟩ ⟨aa, 1, none⟩ rfl rfl) ?_))))))))
 refine L_run (dj := 17) rfl rfl rfl (L_pu (P_ld ag4 cL ⟨aa, 1, none⟩ (vb c_.Had) rfl (al.cell rfl)) (L_run (dj := 17) rfl rfl rfl (L_mv (vb c_.Had) rfl ?_)))
 rcases bool_or c_.Had with bm | bm
 ·have H := ite_t H bm
  refine L_rb bm rfl (L_pu (P_fa fa63_3 ⟨aa, 0, none⟩ ⟨aa, 6, none⟩ rfl rfl) (L_rb bm rfl (L_pu (P_ld ag4 cL ⟨aa, 6, none⟩ (vb c_.Has) rfl (al.cell rfl)) (L_run (dj := 17) rfl rfl rfl (L_pu (P_pick true (vb c_.Has) (by exact congrArg Value.bool bm) rfl) (L_run (dj := 17) rfl rfl rfl (L_mv (vb c_.Has) rfl ?_)))))))
  rcases bool_or c_.Has with bb | bb
  ·have H := ite_t H bb
   refine L_rb bb rfl (L_pu (P_fa fa63_2 ⟨aa, 0, none⟩ ⟨aa, 2, none⟩ rfl rfl) (L_rb bb rfl (L_pu (P_lda ag61 sz61 cL ⟨aa, 2, none⟩ [vs c_.Was.Id, vi c_.Was.Shape.Kind, .slice A3 n4 c5, .slice A8 n9 ae] rfl rfl (al.cells (off := 2) rfl)) (L_rb bb rfl (L_pu (P_fa fa63_4 ⟨aa, 0, none⟩ ⟨aa, 7, none⟩ rfl rfl) (L_rb bb rfl (L_pu (P_lda ag61 sz61 cL ⟨aa, 7, none⟩ [vs c_.Now.Id, vi c_.Now.Shape.Kind, .slice af ag ah, .slice ai aj ak] rfl rfl (al.cells (off := 7) rfl)) (L_rb bb rfl ?_))))))))
   refine L_call go60 [.agg #[vs c_.Was.Id, vi c_.Was.Shape.Kind, .slice A3 n4 c5, .slice A8 n9 ae], .agg #[vs c_.Now.Id, vi c_.Now.Shape.Kind, .slice af ag ah, .slice ai aj ak]] rfl ((F35.calls bn ad.ok c_.Was A3 n4 c5 A8 n9 ae hs2 (hp6.st ad.st) (bf.st ad.st) c_.Now af ag ah ai aj ak bg (bh.st ad.st) (bi.st ad.st) _ H).mono ?_)
   rintro _ c1 ⟨r9, rfl, H, c2⟩
   have bj := ad.k0 c2
   refine L_run (dj := 17) rfl rfl rfl (L_pu (P_pick true (vb r9) (by exact congrArg Value.bool bb) rfl) (L_pu (P_pick false (vb r9) (by exact congrArg Value.bool rfl) rfl) (L_nil ?_)))
   refine W_cond r9 rfl (fun b9 => ?_) (fun b9 => ?_)
   ·have H := ite_t H b9
    exact W_seq (W_reg (L_as (vb false) rfl (L_nil (W_ret ⟨[vb false], ⟨_, rfl, rfl⟩, false, rfl, H, bj.gr.g0⟩))))
   have H := ite_f H b9
   refine W_skip (W_seq (W_seq (W_reg (L_pu (P_fa fa63_1 ⟨aa, 0, none⟩ ⟨aa, 1, none⟩ rfl rfl) ?_))))
   have d4 := ad.stn c2
   have bo := (al.st d4)
   refine L_pu (P_ld ag4 cL ⟨aa, 1, none⟩ (vb c_.Had) rfl (bo.cell rfl)) (L_pu (P_not c_.Had rfl) (L_mv (vb (!c_.Had)) rfl (L_pb ab rfl (L_pb ab rfl (L_pb ab rfl (L_pb ab rfl (L_pb ab rfl (L_pu (P_pick false (vb false) (by exact congrArg Value.bool ab) rfl) ?_))))))))
   refine L_mv (vb false) rfl (L_run (dj := 42) rfl rfl rfl (L_pu (P_fa fa63_3 ⟨aa, 0, none⟩ ⟨aa, 6, none⟩ rfl rfl) (L_run (dj := 42) rfl rfl rfl (L_pu (P_ld ag4 cL ⟨aa, 6, none⟩ (vb c_.Has) rfl (bo.cell rfl)) (L_run (dj := 42) rfl rfl rfl (L_pu (P_not c_.Has rfl) (L_run (dj := 42) rfl rfl rfl (L_mv (vb (!c_.Has)) rfl ?_))))))))
   rcases bool_or (!c_.Has) with am | am
   ·have H := ite_t H am
    refine L_rb am rfl (L_pu (P_fa fa63_4 ⟨aa, 0, none⟩ ⟨aa, 7, none⟩ rfl rfl) (L_rb am rfl (L_pu (P_lda ag61 sz61 cL ⟨aa, 7, none⟩ [vs c_.Now.Id, vi c_.Now.Shape.Kind, .slice af ag ah, .slice ai aj ak] rfl rfl (bo.cells (off := 7) rfl)) (L_rb am rfl (L_pu (P_build (.agg #[vs ([] : Str), vi 0, .slice none 0 0, .slice none 0 0]) (fun _ => by kernel_rfl)) (L_rb am rfl ?_))))))
    refine L_call go60 [.agg #[vs c_.Now.Id, vi c_.Now.Shape.Kind, .slice af ag ah, .slice ai aj ak], .agg #[vs ([] : Str), vi 0, .slice none 0 0, .slice none 0 0]] rfl ((F35.calls c1 bj.ok c_.Now af ag ah ai aj ak bg (bh.st bj.st) (bi.st bj.st) (⟨([] : Str), (⟨0, []⟩ : Shape), []⟩ : Feat) none 0 0 none 0 0 (by decide) (Sl.nil _ _ _ none 0 (by decide)) (Sl.nil _ _ _ none 0 (by decide)) _ H).mono ?_)
    rintro _ d5 ⟨r10, rfl, H, c3⟩
    have bw := bj.k0 c3
    refine L_rb am rfl (L_pu (P_not r10 rfl) (L_run (dj := 42) rfl rfl rfl (L_pu (P_pick true (vb (!r10)) (by exact congrArg Value.bool am) rfl) (L_pu (P_pick false (vb (!r10)) (by exact congrArg Value.bool rfl) rfl) (L_nil ?_)))))
    refine W_cond (!r10) rfl (fun ca => ?_) (fun ca => ?_)
    ·have H := ite_t H ca
     exact W_seq (W_reg (L_as (vb false) rfl (L_nil (W_ret ⟨[vb false], ⟨_, rfl, rfl⟩, false, rfl, H, bw.gr.g0⟩))))
    have H := ite_f H ca
    refine W_skip (W_seq (W_reg (L_pu (P_fa fa63_1 ⟨aa, 0, none⟩ ⟨aa, 1, none⟩ rfl rfl) ?_)))
    have d6 := bj.stn c3
    have cb := (bo.st d6)
    refine L_pu (P_ld ag4 cL ⟨aa, 1, none⟩ (vb c_.Had) rfl (cb.cell rfl)) (L_pu (P_not c_.Had rfl) (L_mv (vb (!c_.Had)) rfl (L_rb ab rfl (L_pu (P_fa fa63_2 ⟨aa, 0, none⟩ ⟨aa, 2, none⟩ rfl rfl) (L_rb ab rfl (L_pu (P_lda ag61 sz61 cL ⟨aa, 2, none⟩ [vs c_.Was.Id, vi c_.Was.Shape.Kind, .slice A3 n4 c5, .slice A8 n9 ae] rfl rfl (cb.cells (off := 2) rfl)) (L_rb ab rfl ?_)))))))
    refine L_call go57 [.agg #[vs c_.Was.Id, vi c_.Was.Shape.Kind, .slice A3 n4 c5, .slice A8 n9 ae]] rfl ((F74.calls d5 bw.ok c_.Was A3 n4 c5 A8 n9 ae hs2 (hp6.st bw.st) (bf.st bw.st) _ H).mono ?_)
    rintro _ eq ⟨r11, rfl, H, c4⟩
    have cc := bw.k0 c4
    refine L_rb ab rfl (L_mv (vb r11) rfl ?_)
    rcases bool_or r11 with av | av
    ·have H := ite_t H av
     refine L_rb av rfl (L_pu (P_fa fa63_2 ⟨aa, 0, none⟩ ⟨aa, 2, none⟩ rfl rfl) (L_rb av rfl (L_pu (P_fa fa61_0 ⟨aa, 2, none⟩ ⟨aa, 2, none⟩ rfl rfl) (L_rb av rfl ?_))))
     have d7 := bw.stn c4
     have cd := (cb.st d7)
     refine L_pu (P_ld ag9 cL ⟨aa, 2, none⟩ (vs c_.Was.Id) rfl (cd.cell rfl)) (L_rb av rfl (L_pu (P_fa fa63_0 ⟨aa, 0, none⟩ ⟨aa, 0, none⟩ rfl rfl) (L_rb av rfl (L_pu (P_ld ag9 cL ⟨aa, 0, none⟩ (vs c_.Id) rfl (cd.cell rfl)) (L_rb av rfl (L_pu (P_scmp c_.Was.Id c_.Id (c_.Was.Id == c_.Id) rfl rfl rfl) (L_rb ab rfl (L_pu (P_pick true (vb (c_.Was.Id == c_.Id)) (by exact congrArg Value.bool av) rfl) ?_))))))))
     refine L_pu (P_pick false (vb (c_.Was.Id == c_.Id)) (by exact congrArg Value.bool ab) rfl) (L_mv (vb (c_.Was.Id == c_.Id)) rfl ?_)
     rcases bool_or (c_.Was.Id == c_.Id) with bc | bc
     ·have H := ite_t H bc
      refine L_rb bc rfl (L_pu (P_fa fa63_3 ⟨aa, 0, none⟩ ⟨aa, 6, none⟩ rfl rfl) (L_rb bc rfl (L_pu (P_ld ag4 cL ⟨aa, 6, none⟩ (vb c_.Has) rfl (cd.cell rfl)) (L_rb bc rfl (L_pu (P_not c_.Has rfl) (L_rb bc rfl (L_mv (vb (!c_.Has)) rfl (L_pb am rfl ?_))))))))
      refine L_pb am rfl (L_pb am rfl (L_pb am rfl (L_pn rfl (L_pn rfl (L_pn rfl (L_pn rfl (L_pn rfl (L_pn rfl ?_))))))))
      exact L_pb am rfl (L_rb bc rfl (L_pu (P_pick true (vb true) (by exact congrArg Value.bool am) rfl) (L_pu (P_pick true (vb true) (by exact congrArg Value.bool bc) rfl) (L_as (vb true) rfl (L_nil (W_ret ⟨[vb true], ⟨_, rfl, rfl⟩, true, rfl, H, cc.gr.g0⟩))))))
     have H := ite_f H bc
     refine L_pb bc rfl (L_pb bc rfl (L_pb bc rfl (L_pb bc rfl (L_pn rfl (L_pn rfl (L_pn rfl (L_pn rfl (L_pn rfl ?_))))))))
     refine L_pn rfl (L_pn rfl (L_pn rfl (L_pn rfl (L_pn rfl (L_pn rfl (L_pb bc rfl (L_pu (P_pick false (vb false) (by exact congrArg Value.bool bc) rfl) (L_as (vb false) rfl ?_))))))))
     exact L_nil (W_ret ⟨[vb false], ⟨_, rfl, rfl⟩, false, rfl, H, cc.gr.g0⟩)
    have H := ite_f H av
    refine L_pb av rfl (L_pb av rfl (L_pb av rfl (L_pb av rfl (L_pb av rfl (L_pb av rfl (L_rb ab rfl (L_pu (P_pick false (vb false) (by exact congrArg Value.bool av) rfl) (L_pu (P_pick false (vb false) (by exact congrArg Value.bool ab) rfl) ?_))))))))
    refine L_mv (vb false) rfl (L_pass (dj := 70) rfl rfl (.inl rfl) (L_pass (dj := 70) rfl rfl (.inl rfl) (L_pass (dj := 70) rfl rfl (.inl rfl) (L_pass (dj := 70) rfl rfl (.inl rfl) (L_pn rfl (L_pn rfl (L_pn rfl (L_pn rfl ?_))))))))
    refine L_pn rfl (L_pn rfl (L_pn rfl (L_pn rfl (L_pn rfl (L_pn rfl (L_pn rfl (L_pass (dj := 70) rfl rfl (.inl rfl) (L_pu (P_pick false (vb false) (by exact congrArg Value.bool rfl) rfl) ?_))))))))
    exact L_as (vb false) rfl (L_nil (W_ret ⟨[vb false], ⟨_, rfl, rfl⟩, false, rfl, H, cc.gr.g0⟩))
   have H := ite_f H am
   refine L_pb am rfl (L_pb am rfl (L_pb am rfl (L_pb am rfl (L_pb am rfl (L_run (dj := 42) rfl rfl rfl (L_pu (P_pick false (vb false) (by exact congrArg Value.bool am) rfl) (L_pu (P_pick false (vb false) (by exact congrArg Value.bool rfl) rfl) (L_nil ?_))))))))
   refine W_cf (b := false) rfl rfl ?_
   refine W_skip (W_seq (W_reg (L_pu (P_fa fa63_1 ⟨aa, 0, none⟩ ⟨aa, 1, none⟩ rfl rfl) (L_pu (P_ld ag4 cL ⟨aa, 1, none⟩ (vb c_.Had) rfl (bo.cell rfl)) (L_pu (P_not c_.Had rfl) (L_mv (vb (!c_.Had)) rfl (L_rb ab rfl (L_pu (P_fa fa63_2 ⟨aa, 0, none⟩ ⟨aa, 2, none⟩ rfl rfl) ?_))))))))
   refine L_rb ab rfl (L_pu (P_lda ag61 sz61 cL ⟨aa, 2, none⟩ [vs c_.Was.Id, vi c_.Was.Shape.Kind, .slice A3 n4 c5, .slice A8 n9 ae] rfl rfl (bo.cells (off := 2) rfl)) (L_rb ab rfl ?_))
   refine L_call go57 [.agg #[vs c_.Was.Id, vi c_.Was.Shape.Kind, .slice A3 n4 c5, .slice A8 n9 ae]] rfl ((F74.calls c1 bj.ok c_.Was A3 n4 c5 A8 n9 ae hs2 (hp6.st bj.st) (bf.st bj.st) _ H).mono ?_)
   rintro _ d8 ⟨r12, rfl, H, c6⟩
   have bp := bj.k0 c6
   refine L_rb ab rfl (L_mv (vb r12) rfl ?_)
   rcases bool_or r12 with aw | aw
   ·have H := ite_t H aw
    refine L_rb aw rfl (L_pu (P_fa fa63_2 ⟨aa, 0, none⟩ ⟨aa, 2, none⟩ rfl rfl) (L_rb aw rfl (L_pu (P_fa fa61_0 ⟨aa, 2, none⟩ ⟨aa, 2, none⟩ rfl rfl) (L_rb aw rfl ?_))))
    have d9 := bj.stn c6
    have b3 := (bo.st d9)
    refine L_pu (P_ld ag9 cL ⟨aa, 2, none⟩ (vs c_.Was.Id) rfl (b3.cell rfl)) (L_rb aw rfl (L_pu (P_fa fa63_0 ⟨aa, 0, none⟩ ⟨aa, 0, none⟩ rfl rfl) (L_rb aw rfl (L_pu (P_ld ag9 cL ⟨aa, 0, none⟩ (vs c_.Id) rfl (b3.cell rfl)) (L_rb aw rfl (L_pu (P_scmp c_.Was.Id c_.Id (c_.Was.Id == c_.Id) rfl rfl rfl) (L_rb ab rfl (L_pu (P_pick true (vb (c_.Was.Id == c_.Id)) (by exact congrArg Value.bool aw) rfl) ?_))))))))
    refine L_pu (P_pick false (vb (c_.Was.Id == c_.Id)) (by exact congrArg Value.bool ab) rfl) (L_mv (vb (c_.Was.Id == c_.Id)) rfl ?_)
    rcases bool_or (c_.Was.Id == c_.Id) with ax | ax
    ·have H := ite_t H ax
     refine L_rb ax rfl (L_pu (P_fa fa63_3 ⟨aa, 0, none⟩ ⟨aa, 6, none⟩ rfl rfl) (L_rb ax rfl (L_pu (P_ld ag4 cL ⟨aa, 6, none⟩ (vb c_.Has) rfl (b3.cell rfl)) (L_rb ax rfl (L_pu (P_not c_.Has rfl) (L_rb ax rfl (L_mv (vb (!c_.Has)) rfl (L_rb am rfl ?_))))))))
     refine L_pu (P_fa fa63_4 ⟨aa, 0, none⟩ ⟨aa, 7, none⟩ rfl rfl) (L_rb am rfl (L_pu (P_lda ag61 sz61 cL ⟨aa, 7, none⟩ [vs c_.Now.Id, vi c_.Now.Shape.Kind, .slice af ag ah, .slice ai aj ak] rfl rfl (b3.cells (off := 7) rfl)) (L_rb am rfl ?_)))
     refine L_call go57 [.agg #[vs c_.Now.Id, vi c_.Now.Shape.Kind, .slice af ag ah, .slice ai aj ak]] rfl ((F74.calls d8 bp.ok c_.Now af ag ah ai aj ak bg (bh.st bp.st) (bi.st bp.st) _ H).mono ?_)
     rintro _ er ⟨r13, rfl, H, c7⟩
     have c8 := bp.k0 c7
     refine L_rb am rfl (L_mv (vb r13) rfl ?_)
     rcases bool_or r13 with ay | ay
     ·have H := ite_t H ay
      refine L_rb ay rfl (L_pu (P_fa fa63_4 ⟨aa, 0, none⟩ ⟨aa, 7, none⟩ rfl rfl) (L_rb ay rfl (L_pu (P_fa fa61_0 ⟨aa, 7, none⟩ ⟨aa, 7, none⟩ rfl rfl) (L_rb ay rfl ?_))))
      have ea := bp.stn c7
      have c9 := (b3.st ea)
      refine L_pu (P_ld ag9 cL ⟨aa, 7, none⟩ (vs c_.Now.Id) rfl (c9.cell rfl)) (L_rb ay rfl (L_pu (P_fa fa63_0 ⟨aa, 0, none⟩ ⟨aa, 0, none⟩ rfl rfl) (L_rb ay rfl (L_pu (P_ld ag9 cL ⟨aa, 0, none⟩ (vs c_.Id) rfl (c9.cell rfl)) (L_rb ay rfl (L_pu (P_scmp c_.Now.Id c_.Id (c_.Now.Id == c_.Id) rfl rfl rfl) (L_rb am rfl (L_pu (P_pick true (vb (c_.Now.Id == c_.Id)) (by exact congrArg Value.bool ay) rfl) ?_))))))))
      exact L_rb ax rfl (L_pu (P_pick false (vb (c_.Now.Id == c_.Id)) (by exact congrArg Value.bool am) rfl) (L_pu (P_pick true (vb (c_.Now.Id == c_.Id)) (by exact congrArg Value.bool ax) rfl) (L_as (vb (c_.Now.Id == c_.Id)) rfl (L_nil (W_ret ⟨[vb (c_.Now.Id == c_.Id)], ⟨_, rfl, rfl⟩, c_.Now.Id == c_.Id, rfl, H, c8.gr.g0⟩)))))
     have H := ite_f H ay
     refine L_pb ay rfl (L_pb ay rfl (L_pb ay rfl (L_pb ay rfl (L_pb ay rfl (L_pb ay rfl (L_rb am rfl (L_pu (P_pick false (vb false) (by exact congrArg Value.bool ay) rfl) (L_rb ax rfl ?_))))))))
     exact L_pu (P_pick false (vb false) (by exact congrArg Value.bool am) rfl) (L_pu (P_pick true (vb false) (by exact congrArg Value.bool ax) rfl) (L_as (vb false) rfl (L_nil (W_ret ⟨[vb false], ⟨_, rfl, rfl⟩, false, rfl, H, c8.gr.g0⟩))))
    have H := ite_f H ax
    refine L_pb ax rfl (L_pb ax rfl (L_pb ax rfl (L_pb ax rfl (L_pn rfl (L_pn rfl (L_pn rfl (L_pn rfl (L_pn rfl ?_))))))))
    refine L_pn rfl (L_pn rfl (L_pn rfl (L_pn rfl (L_pn rfl (L_pn rfl (L_pb ax rfl (L_pu (P_pick false (vb false) (by exact congrArg Value.bool ax) rfl) (L_as (vb false) rfl ?_))))))))
    exact L_nil (W_ret ⟨[vb false], ⟨_, rfl, rfl⟩, false, rfl, H, bp.gr.g0⟩)
   have H := ite_f H aw
   refine L_pb aw rfl (L_pb aw rfl (L_pb aw rfl (L_pb aw rfl (L_pb aw rfl (L_pb aw rfl (L_rb ab rfl (L_pu (P_pick false (vb false) (by exact congrArg Value.bool aw) rfl) (L_pu (P_pick false (vb false) (by exact congrArg Value.bool ab) rfl) ?_))))))))
   refine L_mv (vb false) rfl (L_pass (dj := 70) rfl rfl (.inl rfl) (L_pass (dj := 70) rfl rfl (.inl rfl) (L_pass (dj := 70) rfl rfl (.inl rfl) (L_pass (dj := 70) rfl rfl (.inl rfl) (L_pn rfl (L_pn rfl (L_pn rfl (L_pn rfl ?_))))))))
   refine L_pn rfl (L_pn rfl (L_pn rfl (L_pn rfl (L_pn rfl (L_pn rfl (L_pn rfl (L_pass (dj := 70) rfl rfl (.inl rfl) (L_pu (P_pick false (vb false) (by exact congrArg Value.bool rfl) rfl) ?_))))))))
   exact L_as (vb false) rfl (L_nil (W_ret ⟨[vb false], ⟨_, rfl, rfl⟩, false, rfl, H, bp.gr.g0⟩))
  have H := ite_f H bb
  refine L_pb bb rfl (L_pb bb rfl (L_pb bb rfl (L_pb bb rfl (L_pb bb rfl (L_run (dj := 17) rfl rfl rfl (L_pu (P_pick false (vb false) (by exact congrArg Value.bool bb) rfl) (L_pu (P_pick false (vb false) (by exact congrArg Value.bool rfl) rfl) (L_nil ?_))))))))
  refine W_cf (b := false) rfl rfl ?_
  refine W_skip (W_seq (W_seq (W_reg (L_pu (P_fa fa63_1 ⟨aa, 0, none⟩ ⟨aa, 1, none⟩ rfl rfl) (L_pu (P_ld ag4 cL ⟨aa, 1, none⟩ (vb c_.Had) rfl (al.cell rfl)) (L_pu (P_not c_.Had rfl) (L_mv (vb (!c_.Had)) rfl (L_pb ab rfl ?_))))))))
  refine L_pb ab rfl (L_pb ab rfl (L_pb ab rfl (L_pb ab rfl (L_pu (P_pick false (vb false) (by exact congrArg Value.bool ab) rfl) (L_mv (vb false) rfl (L_run (dj := 42) rfl rfl rfl (L_pu (P_fa fa63_3 ⟨aa, 0, none⟩ ⟨aa, 6, none⟩ rfl rfl) (L_run (dj := 42) rfl rfl rfl ?_))))))))
  refine L_pu (P_ld ag4 cL ⟨aa, 6, none⟩ (vb c_.Has) rfl (al.cell rfl)) (L_run (dj := 42) rfl rfl rfl (L_pu (P_not c_.Has rfl) (L_run (dj := 42) rfl rfl rfl (L_mv (vb (!c_.Has)) rfl ?_))))
  rcases bool_or (!c_.Has) with an | an
  ·have H := ite_t H an
   refine L_rb an rfl (L_pu (P_fa fa63_4 ⟨aa, 0, none⟩ ⟨aa, 7, none⟩ rfl rfl) (L_rb an rfl (L_pu (P_lda ag61 sz61 cL ⟨aa, 7, none⟩ [vs c_.Now.Id, vi c_.Now.Shape.Kind, .slice af ag ah, .slice ai aj ak] rfl rfl (al.cells (off := 7) rfl)) (L_rb an rfl (L_pu (P_build (.agg #[vs ([] : Str), vi 0, .slice none 0 0, .slice none 0 0]) (fun _ => by kernel_rfl)) (L_rb an rfl ?_))))))
   refine L_call go60 [.agg #[vs c_.Now.Id, vi c_.Now.Shape.Kind, .slice af ag ah, .slice ai aj ak], .agg #[vs ([] : Str), vi 0, .slice none 0 0, .slice none 0 0]] rfl ((F35.calls bn ad.ok c_.Now af ag ah ai aj ak bg (bh.st ad.st) (bi.st ad.st) (⟨([] : Str), (⟨0, []⟩ : Shape), []⟩ : Feat) none 0 0 none 0 0 (by decide) (Sl.nil _ _ _ none 0 (by decide)) (Sl.nil _ _ _ none 0 (by decide)) _ H).mono ?_)
   rintro _ eb ⟨r14, rfl, H, da⟩
   have bx := ad.k0 da
   refine L_rb an rfl (L_pu (P_not r14 rfl) (L_run (dj := 42) rfl rfl rfl (L_pu (P_pick true (vb (!r14)) (by exact congrArg Value.bool an) rfl) (L_pu (P_pick false (vb (!r14)) (by exact congrArg Value.bool rfl) rfl) (L_nil ?_)))))
   refine W_cond (!r14) rfl (fun ce => ?_) (fun ce => ?_)
   ·have H := ite_t H ce
    exact W_seq (W_reg (L_as (vb false) rfl (L_nil (W_ret ⟨[vb false], ⟨_, rfl, rfl⟩, false, rfl, H, bx.gr.g0⟩))))
   have H := ite_f H ce
   refine W_skip (W_seq (W_reg (L_pu (P_fa fa63_1 ⟨aa, 0, none⟩ ⟨aa, 1, none⟩ rfl rfl) ?_)))
   have ec := ad.stn da
   have cf := (al.st ec)
   refine L_pu (P_ld ag4 cL ⟨aa, 1, none⟩ (vb c_.Had) rfl (cf.cell rfl)) (L_pu (P_not c_.Had rfl) (L_mv (vb (!c_.Had)) rfl (L_rb ab rfl (L_pu (P_fa fa63_2 ⟨aa, 0, none⟩ ⟨aa, 2, none⟩ rfl rfl) (L_rb ab rfl (L_pu (P_lda ag61 sz61 cL ⟨aa, 2, none⟩ [vs c_.Was.Id, vi c_.Was.Shape.Kind, .slice A3 n4 c5, .slice A8 n9 ae] rfl rfl (cf.cells (off := 2) rfl)) (L_rb ab rfl ?_)))))))
   refine L_call go57 [.agg #[vs c_.Was.Id, vi c_.Was.Shape.Kind, .slice A3 n4 c5, .slice A8 n9 ae]] rfl ((F74.calls eb bx.ok c_.Was A3 n4 c5 A8 n9 ae hs2 (hp6.st bx.st) (bf.st bx.st) _ H).mono ?_)
   rintro _ es ⟨r15, rfl, H, db⟩
   have cg := bx.k0 db
   refine L_rb ab rfl (L_mv (vb r15) rfl ?_)
   rcases bool_or r15 with az | az
   ·have H := ite_t H az
    refine L_rb az rfl (L_pu (P_fa fa63_2 ⟨aa, 0, none⟩ ⟨aa, 2, none⟩ rfl rfl) (L_rb az rfl (L_pu (P_fa fa61_0 ⟨aa, 2, none⟩ ⟨aa, 2, none⟩ rfl rfl) (L_rb az rfl ?_))))
    have ed := bx.stn db
    have ch := (cf.st ed)
    refine L_pu (P_ld ag9 cL ⟨aa, 2, none⟩ (vs c_.Was.Id) rfl (ch.cell rfl)) (L_rb az rfl (L_pu (P_fa fa63_0 ⟨aa, 0, none⟩ ⟨aa, 0, none⟩ rfl rfl) (L_rb az rfl (L_pu (P_ld ag9 cL ⟨aa, 0, none⟩ (vs c_.Id) rfl (ch.cell rfl)) (L_rb az rfl (L_pu (P_scmp c_.Was.Id c_.Id (c_.Was.Id == c_.Id) rfl rfl rfl) (L_rb ab rfl (L_pu (P_pick true (vb (c_.Was.Id == c_.Id)) (by exact congrArg Value.bool az) rfl) ?_))))))))
    refine L_pu (P_pick false (vb (c_.Was.Id == c_.Id)) (by exact congrArg Value.bool ab) rfl) (L_mv (vb (c_.Was.Id == c_.Id)) rfl ?_)
    rcases bool_or (c_.Was.Id == c_.Id) with bd | bd
    ·have H := ite_t H bd
     refine L_rb bd rfl (L_pu (P_fa fa63_3 ⟨aa, 0, none⟩ ⟨aa, 6, none⟩ rfl rfl) (L_rb bd rfl (L_pu (P_ld ag4 cL ⟨aa, 6, none⟩ (vb c_.Has) rfl (ch.cell rfl)) (L_rb bd rfl (L_pu (P_not c_.Has rfl) (L_rb bd rfl (L_mv (vb (!c_.Has)) rfl (L_pb an rfl ?_))))))))
     refine L_pb an rfl (L_pb an rfl (L_pb an rfl (L_pn rfl (L_pn rfl (L_pn rfl (L_pn rfl (L_pn rfl (L_pn rfl ?_))))))))
     exact L_pb an rfl (L_rb bd rfl (L_pu (P_pick true (vb true) (by exact congrArg Value.bool an) rfl) (L_pu (P_pick true (vb true) (by exact congrArg Value.bool bd) rfl) (L_as (vb true) rfl (L_nil (W_ret ⟨[vb true], ⟨_, rfl, rfl⟩, true, rfl, H, cg.gr.g0⟩))))))
    have H := ite_f H bd
    refine L_pb bd rfl (L_pb bd rfl (L_pb bd rfl (L_pb bd rfl (L_pn rfl (L_pn rfl (L_pn rfl (L_pn rfl (L_pn rfl ?_))))))))
    refine L_pn rfl (L_pn rfl (L_pn rfl (L_pn rfl (L_pn rfl (L_pn rfl (L_pb bd rfl (L_pu (P_pick false (vb false) (by exact congrArg Value.bool bd) rfl) (L_as (vb false) rfl ?_))))))))
    exact L_nil (W_ret ⟨[vb false], ⟨_, rfl, rfl⟩, false, rfl, H, cg.gr.g0⟩)
   have H := ite_f H az
   refine L_pb az rfl (L_pb az rfl (L_pb az rfl (L_pb az rfl (L_pb az rfl (L_pb az rfl (L_rb ab rfl (L_pu (P_pick false (vb false) (by exact congrArg Value.bool az) rfl) (L_pu (P_pick false (vb false) (by exact congrArg Value.bool ab) rfl) ?_))))))))
   refine L_mv (vb false) rfl (L_pass (dj := 70) rfl rfl (.inl rfl) (L_pass (dj := 70) rfl rfl (.inl rfl) (L_pass (dj := 70) rfl rfl (.inl rfl) (L_pass (dj := 70) rfl rfl (.inl rfl) (L_pn rfl (L_pn rfl (L_pn rfl (L_pn rfl ?_))))))))
   refine L_pn rfl (L_pn rfl (L_pn rfl (L_pn rfl (L_pn rfl (L_pn rfl (L_pn rfl (L_pass (dj := 70) rfl rfl (.inl rfl) (L_pu (P_pick false (vb false) (by exact congrArg Value.bool rfl) rfl) ?_))))))))
   exact L_as (vb false) rfl (L_nil (W_ret ⟨[vb false], ⟨_, rfl, rfl⟩, false, rfl, H, cg.gr.g0⟩))
  have H := ite_f H an
  refine L_pb an rfl (L_pb an rfl (L_pb an rfl (L_pb an rfl (L_pb an rfl (L_run (dj := 42) rfl rfl rfl (L_pu (P_pick false (vb false) (by exact congrArg Value.bool an) rfl) (L_pu (P_pick false (vb false) (by exact congrArg Value.bool rfl) rfl) (L_nil ?_))))))))
  refine W_cf (b := false) rfl rfl ?_
  refine W_skip (W_seq (W_reg (L_pu (P_fa fa63_1 ⟨aa, 0, none⟩ ⟨aa, 1, none⟩ rfl rfl) (L_pu (P_ld ag4 cL ⟨aa, 1, none⟩ (vb c_.Had) rfl (al.cell rfl)) (L_pu (P_not c_.Had rfl) (L_mv (vb (!c_.Had)) rfl (L_rb ab rfl (L_pu (P_fa fa63_2 ⟨aa, 0, none⟩ ⟨aa, 2, none⟩ rfl rfl) ?_))))))))
  refine L_rb ab rfl (L_pu (P_lda ag61 sz61 cL ⟨aa, 2, none⟩ [vs c_.Was.Id, vi c_.Was.Shape.Kind, .slice A3 n4 c5, .slice A8 n9 ae] rfl rfl (al.cells (off := 2) rfl)) (L_rb ab rfl ?_))
  refine L_call go57 [.agg #[vs c_.Was.Id, vi c_.Was.Shape.Kind, .slice A3 n4 c5, .slice A8 n9 ae]] rfl ((F74.calls bn ad.ok c_.Was A3 n4 c5 A8 n9 ae hs2 (hp6.st ad.st) (bf.st ad.st) _ H).mono ?_)
  rintro _ ee ⟨r16, rfl, H, dc⟩
  have bq := ad.k0 dc
  refine L_rb ab rfl (L_mv (vb r16) rfl ?_)
  rcases bool_or r16 with a0 | a0
  ·have H := ite_t H a0
   refine L_rb a0 rfl (L_pu (P_fa fa63_2 ⟨aa, 0, none⟩ ⟨aa, 2, none⟩ rfl rfl) (L_rb a0 rfl (L_pu (P_fa fa61_0 ⟨aa, 2, none⟩ ⟨aa, 2, none⟩ rfl rfl) (L_rb a0 rfl ?_))))
   have ef := ad.stn dc
   have b4 := (al.st ef)
   refine L_pu (P_ld ag9 cL ⟨aa, 2, none⟩ (vs c_.Was.Id) rfl (b4.cell rfl)) (L_rb a0 rfl (L_pu (P_fa fa63_0 ⟨aa, 0, none⟩ ⟨aa, 0, none⟩ rfl rfl) (L_rb a0 rfl (L_pu (P_ld ag9 cL ⟨aa, 0, none⟩ (vs c_.Id) rfl (b4.cell rfl)) (L_rb a0 rfl (L_pu (P_scmp c_.Was.Id c_.Id (c_.Was.Id == c_.Id) rfl rfl rfl) (L_rb ab rfl (L_pu (P_pick true (vb (c_.Was.Id == c_.Id)) (by exact congrArg Value.bool a0) rfl) ?_))))))))
   refine L_pu (P_pick false (vb (c_.Was.Id == c_.Id)) (by exact congrArg Value.bool ab) rfl) (L_mv (vb (c_.Was.Id == c_.Id)) rfl ?_)
   rcases bool_or (c_.Was.Id == c_.Id) with a1 | a1
   ·have H := ite_t H a1
    refine L_rb a1 rfl (L_pu (P_fa fa63_3 ⟨aa, 0, none⟩ ⟨aa, 6, none⟩ rfl rfl) (L_rb a1 rfl (L_pu (P_ld ag4 cL ⟨aa, 6, none⟩ (vb c_.Has) rfl (b4.cell rfl)) (L_rb a1 rfl (L_pu (P_not c_.Has rfl) (L_rb a1 rfl (L_mv (vb (!c_.Has)) rfl (L_rb an rfl ?_))))))))
    refine L_pu (P_fa fa63_4 ⟨aa, 0, none⟩ ⟨aa, 7, none⟩ rfl rfl) (L_rb an rfl (L_pu (P_lda ag61 sz61 cL ⟨aa, 7, none⟩ [vs c_.Now.Id, vi c_.Now.Shape.Kind, .slice af ag ah, .slice ai aj ak] rfl rfl (b4.cells (off := 7) rfl)) (L_rb an rfl ?_)))
    refine L_call go57 [.agg #[vs c_.Now.Id, vi c_.Now.Shape.Kind, .slice af ag ah, .slice ai aj ak]] rfl ((F74.calls ee bq.ok c_.Now af ag ah ai aj ak bg (bh.st bq.st) (bi.st bq.st) _ H).mono ?_)
    rintro _ et ⟨r17, rfl, H, dd⟩
    have de := bq.k0 dd
    refine L_rb an rfl (L_mv (vb r17) rfl ?_)
    rcases bool_or r17 with a2 | a2
    ·have H := ite_t H a2
     refine L_rb a2 rfl (L_pu (P_fa fa63_4 ⟨aa, 0, none⟩ ⟨aa, 7, none⟩ rfl rfl) (L_rb a2 rfl (L_pu (P_fa fa61_0 ⟨aa, 7, none⟩ ⟨aa, 7, none⟩ rfl rfl) (L_rb a2 rfl ?_))))
     have eg := bq.stn dd
     have df := (b4.st eg)
     refine L_pu (P_ld ag9 cL ⟨aa, 7, none⟩ (vs c_.Now.Id) rfl (df.cell rfl)) (L_rb a2 rfl (L_pu (P_fa fa63_0 ⟨aa, 0, none⟩ ⟨aa, 0, none⟩ rfl rfl) (L_rb a2 rfl (L_pu (P_ld ag9 cL ⟨aa, 0, none⟩ (vs c_.Id) rfl (df.cell rfl)) (L_rb a2 rfl (L_pu (P_scmp c_.Now.Id c_.Id (c_.Now.Id == c_.Id) rfl rfl rfl) (L_rb an rfl (L_pu (P_pick true (vb (c_.Now.Id == c_.Id)) (by exact congrArg Value.bool a2) rfl) ?_))))))))
     exact L_rb a1 rfl (L_pu (P_pick false (vb (c_.Now.Id == c_.Id)) (by exact congrArg Value.bool an) rfl) (L_pu (P_pick true (vb (c_.Now.Id == c_.Id)) (by exact congrArg Value.bool a1) rfl) (L_as (vb (c_.Now.Id == c_.Id)) rfl (L_nil (W_ret ⟨[vb (c_.Now.Id == c_.Id)], ⟨_, rfl, rfl⟩, c_.Now.Id == c_.Id, rfl, H, de.gr.g0⟩)))))
    have H := ite_f H a2
    refine L_pb a2 rfl (L_pb a2 rfl (L_pb a2 rfl (L_pb a2 rfl (L_pb a2 rfl (L_pb a2 rfl (L_rb an rfl (L_pu (P_pick false (vb false) (by exact congrArg Value.bool a2) rfl) (L_rb a1 rfl ?_))))))))
    exact L_pu (P_pick false (vb false) (by exact congrArg Value.bool an) rfl) (L_pu (P_pick true (vb false) (by exact congrArg Value.bool a1) rfl) (L_as (vb false) rfl (L_nil (W_ret ⟨[vb false], ⟨_, rfl, rfl⟩, false, rfl, H, de.gr.g0⟩))))
   have H := ite_f H a1
   refine L_pb a1 rfl (L_pb a1 rfl (L_pb a1 rfl (L_pb a1 rfl (L_pn rfl (L_pn rfl (L_pn rfl (L_pn rfl (L_pn rfl ?_))))))))
   refine L_pn rfl (L_pn rfl (L_pn rfl (L_pn rfl (L_pn rfl (L_pn rfl (L_pb a1 rfl (L_pu (P_pick false (vb false) (by exact congrArg Value.bool a1) rfl) (L_as (vb false) rfl ?_))))))))
   exact L_nil (W_ret ⟨[vb false], ⟨_, rfl, rfl⟩, false, rfl, H, bq.gr.g0⟩)
  have H := ite_f H a0
  refine L_pb a0 rfl (L_pb a0 rfl (L_pb a0 rfl (L_pb a0 rfl (L_pb a0 rfl (L_pb a0 rfl (L_rb ab rfl (L_pu (P_pick false (vb false) (by exact congrArg Value.bool a0) rfl) (L_pu (P_pick false (vb false) (by exact congrArg Value.bool ab) rfl) ?_))))))))
  refine L_mv (vb false) rfl (L_pass (dj := 70) rfl rfl (.inl rfl) (L_pass (dj := 70) rfl rfl (.inl rfl) (L_pass (dj := 70) rfl rfl (.inl rfl) (L_pass (dj := 70) rfl rfl (.inl rfl) (L_pn rfl (L_pn rfl (L_pn rfl (L_pn rfl ?_))))))))
  refine L_pn rfl (L_pn rfl (L_pn rfl (L_pn rfl (L_pn rfl (L_pn rfl (L_pn rfl (L_pass (dj := 70) rfl rfl (.inl rfl) (L_pu (P_pick false (vb false) (by exact congrArg Value.bool rfl) rfl) ?_))))))))
  exact L_as (vb false) rfl (L_nil (W_ret ⟨[vb false], ⟨_, rfl, rfl⟩, false, rfl, H, bq.gr.g0⟩))
 have H := ite_f H bm
 refine L_pb bm rfl (L_pb bm rfl (L_run (dj := 17) rfl rfl rfl (L_pu (P_pick false (vb false) (by exact congrArg Value.bool bm) rfl) (L_run (dj := 17) rfl rfl rfl (L_mv (vb false) rfl (L_pass (dj := 24) rfl rfl (.inl rfl) (L_pass (dj := 24) rfl rfl (.inl rfl) (L_pass (dj := 24) rfl rfl (.inl rfl) ?_))))))))
 refine L_pass (dj := 24) rfl rfl (.inl rfl) (L_pass (dj := 24) rfl rfl (.inl rfl) (L_run (dj := 17) rfl rfl rfl (L_pu (P_pick false (vb false) (by exact congrArg Value.bool rfl) rfl) (L_pu (P_pick false (vb false) (by exact congrArg Value.bool rfl) rfl) (L_nil (W_cf (b := false) rfl rfl ?_))))))
 refine W_skip (W_seq (W_seq (W_reg (L_pu (P_fa fa63_1 ⟨aa, 0, none⟩ ⟨aa, 1, none⟩ rfl rfl) (L_pu (P_ld ag4 cL ⟨aa, 1, none⟩ (vb c_.Had) rfl (al.cell rfl)) (L_pu (P_not c_.Had rfl) (L_mv (vb (!c_.Had)) rfl (L_pb ab rfl ?_))))))))
 refine L_pb ab rfl (L_pb ab rfl (L_pb ab rfl (L_pb ab rfl (L_pu (P_pick false (vb false) (by exact congrArg Value.bool ab) rfl) (L_mv (vb false) rfl (L_run (dj := 42) rfl rfl rfl (L_pu (P_fa fa63_3 ⟨aa, 0, none⟩ ⟨aa, 6, none⟩ rfl rfl) (L_run (dj := 42) rfl rfl rfl ?_))))))))
 refine L_pu (P_ld ag4 cL ⟨aa, 6, none⟩ (vb c_.Has) rfl (al.cell rfl)) (L_run (dj := 42) rfl rfl rfl (L_pu (P_not c_.Has rfl) (L_run (dj := 42) rfl rfl rfl (L_mv (vb (!c_.Has)) rfl ?_))))
 rcases bool_or (!c_.Has) with ao | ao
 ·have H := ite_t H ao
  refine L_rb ao rfl (L_pu (P_fa fa63_4 ⟨aa, 0, none⟩ ⟨aa, 7, none⟩ rfl rfl) (L_rb ao rfl (L_pu (P_lda ag61 sz61 cL ⟨aa, 7, none⟩ [vs c_.Now.Id, vi c_.Now.Shape.Kind, .slice af ag ah, .slice ai aj ak] rfl rfl (al.cells (off := 7) rfl)) (L_rb ao rfl (L_pu (P_build (.agg #[vs ([] : Str), vi 0, .slice none 0 0, .slice none 0 0]) (fun _ => by kernel_rfl)) (L_rb ao rfl ?_))))))
  refine L_call go60 [.agg #[vs c_.Now.Id, vi c_.Now.Shape.Kind, .slice af ag ah, .slice ai aj ak], .agg #[vs ([] : Str), vi 0, .slice none 0 0, .slice none 0 0]] rfl ((F35.calls bn ad.ok c_.Now af ag ah ai aj ak bg (bh.st ad.st) (bi.st ad.st) (⟨([] : Str), (⟨0, []⟩ : Shape), []⟩ : Feat) none 0 0 none 0 0 (by decide) (Sl.nil _ _ _ none 0 (by decide)) (Sl.nil _ _ _ none 0 (by decide)) _ H).mono ?_)
  rintro _ eh ⟨r18, rfl, H, dg⟩
  have bz := ad.k0 dg
  refine L_rb ao rfl (L_pu (P_not r18 rfl) (L_run (dj := 42) rfl rfl rfl (L_pu (P_pick true (vb (!r18)) (by exact congrArg Value.bool ao) rfl) (L_pu (P_pick false (vb (!r18)) (by exact congrArg Value.bool rfl) rfl) (L_nil ?_)))))
  refine W_cond (!r18) rfl (fun ci => ?_) (fun ci => ?_)
  ·have H := ite_t H ci
   exact W_seq (W_reg (L_as (vb false) rfl (L_nil (W_ret ⟨[vb false], ⟨_, rfl, rfl⟩, false, rfl, H, bz.gr.g0⟩))))
  have H := ite_f H ci
  refine W_skip (W_seq (W_reg (L_pu (P_fa fa63_1 ⟨aa, 0, none⟩ ⟨aa, 1, none⟩ rfl rfl) ?_)))
  have ei := ad.stn dg
  have cj := (al.st ei)
  refine L_pu (P_ld ag4 cL ⟨aa, 1, none⟩ (vb c_.Had) rfl (cj.cell rfl)) (L_pu (P_not c_.Had rfl) (L_mv (vb (!c_.Had)) rfl (L_rb ab rfl (L_pu (P_fa fa63_2 ⟨aa, 0, none⟩ ⟨aa, 2, none⟩ rfl rfl) (L_rb ab rfl (L_pu (P_lda ag61 sz61 cL ⟨aa, 2, none⟩ [vs c_.Was.Id, vi c_.Was.Shape.Kind, .slice A3 n4 c5, .slice A8 n9 ae] rfl rfl (cj.cells (off := 2) rfl)) (L_rb ab rfl ?_)))))))
  refine L_call go57 [.agg #[vs c_.Was.Id, vi c_.Was.Shape.Kind, .slice A3 n4 c5, .slice A8 n9 ae]] rfl ((F74.calls eh bz.ok c_.Was A3 n4 c5 A8 n9 ae hs2 (hp6.st bz.st) (bf.st bz.st) _ H).mono ?_)
  rintro _ eu ⟨r19, rfl, H, dh⟩
  have ck := bz.k0 dh
  refine L_rb ab rfl (L_mv (vb r19) rfl ?_)
  rcases bool_or r19 with a3 | a3
  ·have H := ite_t H a3
   refine L_rb a3 rfl (L_pu (P_fa fa63_2 ⟨aa, 0, none⟩ ⟨aa, 2, none⟩ rfl rfl) (L_rb a3 rfl (L_pu (P_fa fa61_0 ⟨aa, 2, none⟩ ⟨aa, 2, none⟩ rfl rfl) (L_rb a3 rfl ?_))))
   have ej := bz.stn dh
   have cl := (cj.st ej)
   refine L_pu (P_ld ag9 cL ⟨aa, 2, none⟩ (vs c_.Was.Id) rfl (cl.cell rfl)) (L_rb a3 rfl (L_pu (P_fa fa63_0 ⟨aa, 0, none⟩ ⟨aa, 0, none⟩ rfl rfl) (L_rb a3 rfl (L_pu (P_ld ag9 cL ⟨aa, 0, none⟩ (vs c_.Id) rfl (cl.cell rfl)) (L_rb a3 rfl (L_pu (P_scmp c_.Was.Id c_.Id (c_.Was.Id == c_.Id) rfl rfl rfl) (L_rb ab rfl (L_pu (P_pick true (vb (c_.Was.Id == c_.Id)) (by exact congrArg Value.bool a3) rfl) ?_))))))))
   refine L_pu (P_pick false (vb (c_.Was.Id == c_.Id)) (by exact congrArg Value.bool ab) rfl) (L_mv (vb (c_.Was.Id == c_.Id)) rfl ?_)
   rcases bool_or (c_.Was.Id == c_.Id) with be | be
   ·have H := ite_t H be
    refine L_rb be rfl (L_pu (P_fa fa63_3 ⟨aa, 0, none⟩ ⟨aa, 6, none⟩ rfl rfl) (L_rb be rfl (L_pu (P_ld ag4 cL ⟨aa, 6, none⟩ (vb c_.Has) rfl (cl.cell rfl)) (L_rb be rfl (L_pu (P_not c_.Has rfl) (L_rb be rfl (L_mv (vb (!c_.Has)) rfl (L_pb ao rfl ?_))))))))
    refine L_pb ao rfl (L_pb ao rfl (L_pb ao rfl (L_pn rfl (L_pn rfl (L_pn rfl (L_pn rfl (L_pn rfl (L_pn rfl ?_))))))))
    exact L_pb ao rfl (L_rb be rfl (L_pu (P_pick true (vb true) (by exact congrArg Value.bool ao) rfl) (L_pu (P_pick true (vb true) (by exact congrArg Value.bool be) rfl) (L_as (vb true) rfl (L_nil (W_ret ⟨[vb true], ⟨_, rfl, rfl⟩, true, rfl, H, ck.gr.g0⟩))))))
   have H := ite_f H be
   refine L_pb be rfl (L_pb be rfl (L_pb be rfl (L_pb be rfl (L_pn rfl (L_pn rfl (L_pn rfl (L_pn rfl (L_pn rfl ?_))))))))
   refine L_pn rfl (L_pn rfl (L_pn rfl (L_pn rfl (L_pn rfl (L_pn rfl (L_pb be rfl (L_pu (P_pick false (vb false) (by exact congrArg Value.bool be) rfl) (L_as (vb false) rfl ?_))))))))
   exact L_nil (W_ret ⟨[vb false], ⟨_, rfl, rfl⟩, false, rfl, H, ck.gr.g0⟩)
  have H := ite_f H a3
  refine L_pb a3 rfl (L_pb a3 rfl (L_pb a3 rfl (L_pb a3 rfl (L_pb a3 rfl (L_pb a3 rfl (L_rb ab rfl (L_pu (P_pick false (vb false) (by exact congrArg Value.bool a3) rfl) (L_pu (P_pick false (vb false) (by exact congrArg Value.bool ab) rfl) ?_))))))))
  refine L_mv (vb false) rfl (L_pass (dj := 70) rfl rfl (.inl rfl) (L_pass (dj := 70) rfl rfl (.inl rfl) (L_pass (dj := 70) rfl rfl (.inl rfl) (L_pass (dj := 70) rfl rfl (.inl rfl) (L_pn rfl (L_pn rfl (L_pn rfl (L_pn rfl ?_))))))))
  refine L_pn rfl (L_pn rfl (L_pn rfl (L_pn rfl (L_pn rfl (L_pn rfl (L_pn rfl (L_pass (dj := 70) rfl rfl (.inl rfl) (L_pu (P_pick false (vb false) (by exact congrArg Value.bool rfl) rfl) ?_))))))))
  exact L_as (vb false) rfl (L_nil (W_ret ⟨[vb false], ⟨_, rfl, rfl⟩, false, rfl, H, ck.gr.g0⟩))
 have H := ite_f H ao
 refine L_pb ao rfl (L_pb ao rfl (L_pb ao rfl (L_pb ao rfl (L_pb ao rfl (L_run (dj := 42) rfl rfl rfl (L_pu (P_pick false (vb false) (by exact congrArg Value.bool ao) rfl) (L_pu (P_pick false (vb false) (by exact congrArg Value.bool rfl) rfl) (L_nil ?_))))))))
 refine W_cf (b := false) rfl rfl ?_
 refine W_skip (W_seq (W_reg (L_pu (P_fa fa63_1 ⟨aa, 0, none⟩ ⟨aa, 1, none⟩ rfl rfl) (L_pu (P_ld ag4 cL ⟨aa, 1, none⟩ (vb c_.Had) rfl (al.cell rfl)) (L_pu (P_not c_.Had rfl) (L_mv (vb (!c_.Had)) rfl (L_rb ab rfl (L_pu (P_fa fa63_2 ⟨aa, 0, none⟩ ⟨aa, 2, none⟩ rfl rfl) ?_))))))))
 refine L_rb ab rfl (L_pu (P_lda ag61 sz61 cL ⟨aa, 2, none⟩ [vs c_.Was.Id, vi c_.Was.Shape.Kind, .slice A3 n4 c5, .slice A8 n9 ae] rfl rfl (al.cells (off := 2) rfl)) (L_rb ab rfl ?_))
 refine L_call go57 [.agg #[vs c_.Was.Id, vi c_.Was.Shape.Kind, .slice A3 n4 c5, .slice A8 n9 ae]] rfl ((F74.calls bn ad.ok c_.Was A3 n4 c5 A8 n9 ae hs2 (hp6.st ad.st) (bf.st ad.st) _ H).mono ?_)
 rintro _ ek ⟨r20, rfl, H, di⟩
 have br := ad.k0 di
 refine L_rb ab rfl (L_mv (vb r20) rfl ?_)
 rcases bool_or r20 with a4 | a4
 ·have H := ite_t H a4
  refine L_rb a4 rfl (L_pu (P_fa fa63_2 ⟨aa, 0, none⟩ ⟨aa, 2, none⟩ rfl rfl) (L_rb a4 rfl (L_pu (P_fa fa61_0 ⟨aa, 2, none⟩ ⟨aa, 2, none⟩ rfl rfl) (L_rb a4 rfl ?_))))
  have el := ad.stn di
  have b5 := (al.st el)
  refine L_pu (P_ld ag9 cL ⟨aa, 2, none⟩ (vs c_.Was.Id) rfl (b5.cell rfl)) (L_rb a4 rfl (L_pu (P_fa fa63_0 ⟨aa, 0, none⟩ ⟨aa, 0, none⟩ rfl rfl) (L_rb a4 rfl (L_pu (P_ld ag9 cL ⟨aa, 0, none⟩ (vs c_.Id) rfl (b5.cell rfl)) (L_rb a4 rfl (L_pu (P_scmp c_.Was.Id c_.Id (c_.Was.Id == c_.Id) rfl rfl rfl) (L_rb ab rfl (L_pu (P_pick true (vb (c_.Was.Id == c_.Id)) (by exact congrArg Value.bool a4) rfl) ?_))))))))
  refine L_pu (P_pick false (vb (c_.Was.Id == c_.Id)) (by exact congrArg Value.bool ab) rfl) (L_mv (vb (c_.Was.Id == c_.Id)) rfl ?_)
  rcases bool_or (c_.Was.Id == c_.Id) with a5 | a5
  ·have H := ite_t H a5
   refine L_rb a5 rfl (L_pu (P_fa fa63_3 ⟨aa, 0, none⟩ ⟨aa, 6, none⟩ rfl rfl) (L_rb a5 rfl (L_pu (P_ld ag4 cL ⟨aa, 6, none⟩ (vb c_.Has) rfl (b5.cell rfl)) (L_rb a5 rfl (L_pu (P_not c_.Has rfl) (L_rb a5 rfl (L_mv (vb (!c_.Has)) rfl (L_rb ao rfl ?_))))))))
   refine L_pu (P_fa fa63_4 ⟨aa, 0, none⟩ ⟨aa, 7, none⟩ rfl rfl) (L_rb ao rfl (L_pu (P_lda ag61 sz61 cL ⟨aa, 7, none⟩ [vs c_.Now.Id, vi c_.Now.Shape.Kind, .slice af ag ah, .slice ai aj ak] rfl rfl (b5.cells (off := 7) rfl)) (L_rb ao rfl ?_)))
   refine L_call go57 [.agg #[vs c_.Now.Id, vi c_.Now.Shape.Kind, .slice af ag ah, .slice ai aj ak]] rfl ((F74.calls ek br.ok c_.Now af ag ah ai aj ak bg (bh.st br.st) (bi.st br.st) _ H).mono ?_)
   rintro _ ev ⟨r21, rfl, H, dk⟩
   have dl := br.k0 dk
   refine L_rb ao rfl (L_mv (vb r21) rfl ?_)
   rcases bool_or r21 with a6 | a6
   ·have H := ite_t H a6
    refine L_rb a6 rfl (L_pu (P_fa fa63_4 ⟨aa, 0, none⟩ ⟨aa, 7, none⟩ rfl rfl) (L_rb a6 rfl (L_pu (P_fa fa61_0 ⟨aa, 7, none⟩ ⟨aa, 7, none⟩ rfl rfl) (L_rb a6 rfl ?_))))
    have em := br.stn dk
    have dm := (b5.st em)
    refine L_pu (P_ld ag9 cL ⟨aa, 7, none⟩ (vs c_.Now.Id) rfl (dm.cell rfl)) (L_rb a6 rfl (L_pu (P_fa fa63_0 ⟨aa, 0, none⟩ ⟨aa, 0, none⟩ rfl rfl) (L_rb a6 rfl (L_pu (P_ld ag9 cL ⟨aa, 0, none⟩ (vs c_.Id) rfl (dm.cell rfl)) (L_rb a6 rfl (L_pu (P_scmp c_.Now.Id c_.Id (c_.Now.Id == c_.Id) rfl rfl rfl) (L_rb ao rfl (L_pu (P_pick true (vb (c_.Now.Id == c_.Id)) (by exact congrArg Value.bool a6) rfl) ?_))))))))
    exact L_rb a5 rfl (L_pu (P_pick false (vb (c_.Now.Id == c_.Id)) (by exact congrArg Value.bool ao) rfl) (L_pu (P_pick true (vb (c_.Now.Id == c_.Id)) (by exact congrArg Value.bool a5) rfl) (L_as (vb (c_.Now.Id == c_.Id)) rfl (L_nil (W_ret ⟨[vb (c_.Now.Id == c_.Id)], ⟨_, rfl, rfl⟩, c_.Now.Id == c_.Id, rfl, H, dl.gr.g0⟩)))))
   have H := ite_f H a6
   refine L_pb a6 rfl (L_pb a6 rfl (L_pb a6 rfl (L_pb a6 rfl (L_pb a6 rfl (L_pb a6 rfl (L_rb ao rfl (L_pu (P_pick false (vb false) (by exact congrArg Value.bool a6) rfl) (L_rb a5 rfl ?_))))))))
   exact L_pu (P_pick false (vb false) (by exact congrArg Value.bool ao) rfl) (L_pu (P_pick true (vb false) (by exact congrArg Value.bool a5) rfl) (L_as (vb false) rfl (L_nil (W_ret ⟨[vb false], ⟨_, rfl, rfl⟩, false, rfl, H, dl.gr.g0⟩))))
  have H := ite_f H a5
  refine L_pb a5 rfl (L_pb a5 rfl (L_pb a5 rfl (L_pb a5 rfl (L_pn rfl (L_pn rfl (L_pn rfl (L_pn rfl (L_pn rfl ?_))))))))
  refine L_pn rfl (L_pn rfl (L_pn rfl (L_pn rfl (L_pn rfl (L_pn rfl (L_pb a5 rfl (L_pu (P_pick false (vb false) (by exact congrArg Value.bool a5) rfl) (L_as (vb false) rfl ?_))))))))
  exact L_nil (W_ret ⟨[vb false], ⟨_, rfl, rfl⟩, false, rfl, H, br.gr.g0⟩)
 have H := ite_f H a4
 refine L_pb a4 rfl (L_pb a4 rfl (L_pb a4 rfl (L_pb a4 rfl (L_pb a4 rfl (L_pb a4 rfl (L_rb ab rfl (L_pu (P_pick false (vb false) (by exact congrArg Value.bool a4) rfl) (L_pu (P_pick false (vb false) (by exact congrArg Value.bool ab) rfl) ?_))))))))
 refine L_mv (vb false) rfl (L_pass (dj := 70) rfl rfl (.inl rfl) (L_pass (dj := 70) rfl rfl (.inl rfl) (L_pass (dj := 70) rfl rfl (.inl rfl) (L_pass (dj := 70) rfl rfl (.inl rfl) (L_pn rfl (L_pn rfl (L_pn rfl (L_pn rfl ?_))))))))
 refine L_pn rfl (L_pn rfl (L_pn rfl (L_pn rfl (L_pn rfl (L_pn rfl (L_pn rfl (L_pass (dj := 70) rfl rfl (.inl rfl) (L_pu (P_pick false (vb false) (by exact congrArg Value.bool rfl) rfl) ?_))))))))
 exact L_as (vb false) rfl (L_nil (W_ret ⟨[vb false], ⟨_, rfl, rfl⟩, false, rfl, H, br.gr.g0⟩))
end
section
open Go.RowKit
def F77.E (d : List Change) (Q : Bool → Prop) : Prop :=
 (∃ (I18 : Int → Prop) (mu19 : Int → Nat), I18 0 ∧ ∀ (i2 : Int), I18 i2 → (if decide (i2 < (d.length : Int)) then ((0 : Int) ≤ i2 ∧ i2 < (d.length : Int)) ∧ (∃ q : Bool, F106.E (nth d i2) (fun x => x = q) ∧ (if !q then Q false else (if decide (i2 > 0) then ((0 : Int) ≤ i2 ∧ i2 < (d.length : Int)) ∧ ((d.length : Int) ≤ 9223372036854775807 → I64 (i2 - 1)) ∧ ((0 : Int) ≤ i2 - 1 ∧ i2 - 1 < (d.length : Int)) ∧ (if Op.bytesLess ((nth d i2).Id) ((nth d (i2 - 1)).Id) || ((nth d i2).Id) == ((nth d (i2 - 1)).Id) then Q false else (-9223372036854775808 ≤ i2) ∧ I18 (i2 + 1) ∧ mu19 (i2 + 1) < mu19 i2) else (-9223372036854775808 ≤ i2) ∧ I18 (i2 + 1) ∧ mu19 (i2 + 1) < mu19 i2))) else Q (decide ((d.length : Int) ≤ 16))))
theorem F77.calls {O : Ob} (w0 : World) (hO : Ok w0 O) (d : List Change) (A1 : Option Addr) (n2 c3 : Nat) (hp4 : Sl kChange w0 (Fr O) (.slice A1 n2 c3) d) (Q : Bool → Prop) (h : F77.E d Q) :
  Ret Tryz.prog 24 [.slice A1 n2 c3] w0 (fun v w' => ∃ (r0 : Bool), v = vb r0 ∧ Q r0 ∧ Gr w0 w' none) := by
 unfold F77.E at h
 have H := h
 clear h
 have hc0 := Ct.init hO
 refine Ret_enter Tryz.func24 rfl 37 rfl [.tmp 2] rfl rfl ?_
 refine W_seq (W_reg (L_as (vb false) rfl (L_nil (W_seq (W_seq (W_reg (L_as (vi 0) rfl (L_nil ?_))))))))
 refine W_block ?_
 obtain ⟨a6, a7, ai, H⟩ := H
 refine W_loop (α := Int) (fun (sv__ : Int) t af => match sv__ with | i2 => a6 i2 ∧ Has t [(0, .slice A1 n2 c3), (3, vi i2)] ∧ Ct [] w0 af [] O ∧ Sl kChange af (Fr ([] ++ O)) (.slice A1 n2 c3) d) (fun (sv__ : Int) => match sv__ with | i2 => a7 i2) 0 ⟨ai, (hasI rfl), hc0, hp4⟩ ?_
 rintro i2 _ af ⟨ai, a8, ad, ac⟩
 obtain ⟨b7, rfl⟩ := Has.ins a8
 have H := H i2 ai
 refine W_seq (W_seq (W_reg (L_mv (vi i2) rfl (L_mv (.slice A1 n2 c3) rfl ?_))))
 have aj := ac.le
 refine L_pu (P_len Tryz.underlying30 A1 n2 c3 ac.len rfl) (L_pu (P_cmp i2 (d.length : Int) (decide (i2 < (d.length : Int))) rfl rfl rfl) (L_nil ?_))
 refine W_cond (decide (i2 < (d.length : Int))) rfl (fun ae => ?_) (fun ae => ?_)
 ·have H := ite_t H ae
  refine W_skip (W_seq (W_block (W_seq (W_draw (fun x => Gr af x none) (by kernel_rfl) (by kernel_rfl) (Gr.drew _) ?_))))
  refine Q_mv (.slice A1 n2 c3) rfl (Q_mv (vi i2) rfl ?_)
  obtain ⟨az, H⟩ := H
  obtain ⟨a0, b8, a9, b9, ba, bb⟩ := ac.get default (by decide) i2 az
  obtain ⟨ak, al, am, an, ao, ap, aq, ar, au, av, aw, ax, rfl, bc, bd, be, bf, bg, bh, bi⟩ := kChange.op ba
  refine Q_pu (P_ia Tryz.underlying30 se30 A1 a0 n2 c3 ac.len i2 rfl a9 rfl az) (Q_pu (P_lda ag63 sz63 cQ (a0.add (i2.toNat * 11)) [vs ((nth d i2).Id), vb ((nth d i2).Had), vs ((nth d i2).Was.Id), vi ((nth d i2).Was.Shape.Kind), .slice ak al am, .slice an ao ap, vb ((nth d i2).Has), vs ((nth d i2).Now.Id), vi ((nth d i2).Now.Shape.Kind), .slice aq ar au, .slice av aw ax] rfl rfl bb) ?_)
  obtain ⟨q, bj, H⟩ := H
  refine Q_call go58 [.agg #[vs ((nth d i2).Id), vb ((nth d i2).Had), vs ((nth d i2).Was.Id), vi ((nth d i2).Was.Shape.Kind), .slice ak al am, .slice an ao ap, vb ((nth d i2).Has), vs ((nth d i2).Now.Id), vi ((nth d i2).Now.Shape.Kind), .slice aq ar au, .slice av aw ax]] rfl (vb q) (fun w g => (F106.calls w (ad.k0 g).ok (nth d i2) ak al am an ao ap aq ar au av aw ax bc bd (be.st (.new _ g)) (bf.st (.new _ g)) bg (bh.st (.new _ g)) (bi.st (.new _ g)) _ bj).mono ?_) ?_
  ·rintro _ w ⟨r, rfl, rfl, g2⟩
   exact ⟨rfl, Gr.t0 g g2⟩
  refine Q_pu (P_not q rfl) (Q_mv (vb (!q)) rfl ?_)
  rcases bool_or (!q) with ab | ab
  ·have H := ite_t H ab
   refine Q_pb ab rfl (Q_pb ab rfl (Q_pb ab rfl (Q_pn rfl (Q_pn rfl (Q_pn rfl (Q_pn rfl (Q_pn rfl (Q_pn rfl ?_))))))))
   refine Q_pn rfl (Q_pn rfl (Q_pn rfl (Q_pn rfl (Q_pn rfl (Q_pn rfl (Q_pb ab rfl (Q_pu (P_pick true (vb true) (by exact congrArg Value.bool ab) rfl) (Q_nil fun ca bl => ?_))))))))
   have bm := ad.k0 bl
   refine W_ct (b := true) rfl rfl ?_
   exact W_seq (W_reg (L_as (vb false) rfl (L_nil (W_ret ⟨[vb false], ⟨_, rfl, rfl⟩, false, rfl, H, bm.gr.g0⟩))))
  have H := ite_f H ab
  refine Q_rb ab rfl (Q_mv (vi i2) rfl (Q_rb ab rfl (Q_pu (P_cmp i2 0 (decide (i2 > 0)) rfl rfl rfl) (Q_rb ab rfl (Q_mv (vb (decide (i2 > 0))) rfl ?_)))))
  rcases bool_or (decide (i2 > 0)) with aa | aa
  ·have H := ite_t H aa
   refine Q_rb aa rfl (Q_mv (.slice A1 n2 c3) rfl (Q_rb aa rfl (Q_mv (vi i2) rfl (Q_rb aa rfl ?_))))
   obtain ⟨a1, H⟩ := H
   obtain ⟨ag, cb, bn, cc, bo, bp⟩ := ac.get default (by decide) i2 a1
   obtain ⟨cd, ce, cf, cg, ch, ci, cj, ck, cl, cm, cn, co, rfl, cp, cq, cr, cs, ct, cu, cv⟩ := kChange.op bo
   refine Q_pu (P_ia Tryz.underlying30 se30 A1 ag n2 c3 ac.len i2 rfl bn rfl a1) (Q_rb aa rfl (Q_pu (P_fa fa63_0 (ag.add (i2.toNat * 11)) ((ag.add (i2.toNat * 11)).add 0) rfl rfl) (Q_rb aa rfl (Q_pu (P_ld ag9 cQ ((ag.add (i2.toNat * 11)).add 0) (vs ((nth d i2).Id)) rfl (bp 0 _ rfl)) (Q_rb aa rfl (Q_mv (.slice A1 n2 c3) rfl (Q_rb aa rfl (Q_mv (vi i2) rfl ?_))))))))
   refine Q_rb aa rfl ?_
   obtain ⟨bq, H⟩ := H
   have br := bq (len_le aj)
   refine Q_pu (P_sub i2 1 rfl rfl br) (Q_rb aa rfl ?_)
   obtain ⟨a2, H⟩ := H
   obtain ⟨ah, cw, bs, cx, bt, bu⟩ := ac.get default (by decide) (i2 - 1) a2
   obtain ⟨cy, cz, c0, c1, c2, c4, c5, c6, c7, c8, c9, da, rfl, db, dc, dd, de, df, dg, dh⟩ := kChange.op bt
   refine Q_pu (P_ia Tryz.underlying30 se30 A1 ah n2 c3 ac.len (i2 - 1) rfl bs rfl a2) (Q_rb aa rfl (Q_pu (P_fa fa63_0 (ah.add ((i2 - 1).toNat * 11)) ((ah.add ((i2 - 1).toNat * 11)).add 0) rfl rfl) (Q_rb aa rfl (Q_pu (P_ld ag9 cQ ((ah.add ((i2 - 1).toNat * 11)).add 0) (vs ((nth d (i2 - 1)).Id)) rfl (bu 0 _ rfl)) (Q_rb aa rfl (Q_pu (P_scmp ((nth d i2).Id) ((nth d (i2 - 1)).Id) (Op.bytesLess ((nth d i2).Id) ((nth d (i2 - 1)).Id) || ((nth d i2).Id) == ((nth d (i2 - 1)).Id)) rfl rfl rfl) (Q_rb ab rfl (Q_pu (P_pick true (vb (Op.bytesLess ((nth d i2).Id) ((nth d (i2 - 1)).Id) || ((nth d i2).Id) == ((nth d (i2 - 1)).Id))) (by exact congrArg Value.bool aa) rfl) ?_))))))))
   refine Q_pu (P_pick false (vb (Op.bytesLess ((nth d i2).Id) ((nth d (i2 - 1)).Id) || ((nth d i2).Id) == ((nth d (i2 - 1)).Id))) (by exact congrArg Value.bool ab) rfl) (Q_nil fun di a3 => ?_)
   have a4 := ad.k0 a3
   refine W_cond (Op.bytesLess ((nth d i2).Id) ((nth d (i2 - 1)).Id) || ((nth d i2).Id) == ((nth d (i2 - 1)).Id)) rfl (fun ay => ?_) (fun ay => ?_)
   ·have H := ite_t H ay
    exact W_seq (W_reg (L_as (vb false) rfl (L_nil (W_ret ⟨[vb false], ⟨_, rfl, rfl⟩, false, rfl, H, a4.gr.g0⟩))))
   have H := ite_f H ay
   refine W_skip (W_reg (L_mv (vi i2) rfl ?_))
   obtain ⟨bv, H⟩ := H
   have bw : I64 (i2 + 1) := i64_succ (of_decide_eq_true ae) aj bv
   refine L_pu (P_add i2 1 rfl rfl bw) (L_as (vi (i2 + 1)) rfl (L_nil ?_))
   obtain ⟨bx, bz⟩ := H
   have b0 := ad.stn a3
   exact ⟨i2 + 1, bz, bx, (hasI rfl), a4, (ac.st b0)⟩
  have H := ite_f H aa
  refine Q_pb aa rfl (Q_pb aa rfl (Q_pb aa rfl (Q_pb aa rfl (Q_pb aa rfl (Q_pb aa rfl (Q_pb aa rfl (Q_pb aa rfl (Q_pb aa rfl ?_))))))))
  refine Q_pb aa rfl (Q_pb aa rfl (Q_pb aa rfl (Q_rb ab rfl (Q_pu (P_pick false (vb false) (by exact congrArg Value.bool aa) rfl) (Q_pu (P_pick false (vb false) (by exact congrArg Value.bool ab) rfl) (Q_nil fun dj a5 => ?_))))))
  have b1 := ad.k0 a5
  refine W_cf (b := false) rfl rfl ?_
  refine W_skip (W_reg (L_mv (vi i2) rfl ?_))
  obtain ⟨b2, H⟩ := H
  have b3 : I64 (i2 + 1) := i64_succ (of_decide_eq_true ae) aj b2
  refine L_pu (P_add i2 1 rfl rfl b3) (L_as (vi (i2 + 1)) rfl (L_nil ?_))
  obtain ⟨b4, b5⟩ := H
  have b6 := ad.stn a5
  exact ⟨i2 + 1, b5, b4, (hasI rfl), b1, (ac.st b6)⟩
 have H := ite_f H ae
 refine W_exit (xin_hit ?_)
 exact W_seq (W_reg (L_mv (.slice A1 n2 c3) rfl (L_pu (P_len Tryz.underlying30 A1 n2 c3 ac.len rfl) (L_pu (P_cmp (d.length : Int) 16 (decide ((d.length : Int) ≤ 16)) rfl rfl rfl) (L_as (vb (decide ((d.length : Int) ≤ 16))) rfl (L_nil (W_ret ⟨[vb (decide ((d.length : Int) ≤ 16))], ⟨_, rfl, rfl⟩, decide ((d.length : Int) ≤ 16), rfl, H, ad.gr.g0⟩)))))))
end
section
open Go.RowKit
def F78.E (s : List Feat) (id : Str) (Q : Int → Prop) : Prop :=
 (∃ (I19 : Int → Prop) (mu20 : Int → Nat), I19 0 ∧ ∀ (i2 : Int), I19 i2 → (if decide (i2 < (s.length : Int)) then ((0 : Int) ≤ i2 ∧ i2 < (s.length : Int)) ∧ (if ((nth s i2).Id) == id then Q i2 else (-9223372036854775808 ≤ i2) ∧ I19 (i2 + 1) ∧ mu20 (i2 + 1) < mu20 i2) else Q (-1)))
theorem F78.calls {O : Ob} (w0 : World) (hO : Ok w0 O) (s : List Feat) (A1 : Option Addr) (n2 c3 : Nat) (hp4 : Sl kFeat w0 (Fr O) (.slice A1 n2 c3) s) (id : Str) (hs6 : Lim id) (Q : Int → Prop) (h : F78.E s id Q) :
  Ret Tryz.prog 93 [.slice A1 n2 c3, vs id] w0 (fun v w' => ∃ (r0 : Int), v = vi r0 ∧ Q r0 ∧ Gr w0 w' none) := by
 unfold F78.E at h
 have H := h
 clear h
 have hc0 := Ct.init hO
 refine Ret_enter Tryz.func93 rfl 20 rfl [.tmp 4] rfl rfl ?_
 refine W_seq (W_reg (L_as (vi 0) rfl (L_nil (W_seq (W_seq (W_reg (L_as (vi 0) rfl (L_nil ?_))))))))
 refine W_block ?_
 obtain ⟨ai, aj, ad, H⟩ := H
 refine W_loop (α := Int) (fun (sv__ : Int) t ae => match sv__ with | i2 => ai i2 ∧ Has t [(0, .slice A1 n2 c3), (1, vs id), (5, vi i2)] ∧ Ct [] w0 ae [] O ∧ Sl kFeat ae (Fr ([] ++ O)) (.slice A1 n2 c3) s) (fun (sv__ : Int) => match sv__ with | i2 => aj i2) 0 ⟨ad, (hasI rfl), hc0, hp4⟩ ?_
 rintro i2 _ ae ⟨ad, ak, af, aa⟩
 obtain ⟨av, rfl⟩ := Has.ins ak
 have H := H i2 ad
 refine W_seq (W_seq (W_reg (L_mv (vi i2) rfl (L_mv (.slice A1 n2 c3) rfl ?_))))
 have al := aa.le
 refine L_pu (P_len Tryz.underlying26 A1 n2 c3 aa.len rfl) (L_pu (P_cmp i2 (s.length : Int) (decide (i2 < (s.length : Int))) rfl rfl rfl) (L_nil ?_))
 refine W_cond (decide (i2 < (s.length : Int))) rfl (fun ab => ?_) (fun ab => ?_)
 ·have H := ite_t H ab
  refine W_skip (W_seq (W_block (W_seq (W_reg (L_mv (.slice A1 n2 c3) rfl (L_mv (vi i2) rfl ?_))))))
  obtain ⟨ah, H⟩ := H
  obtain ⟨ac, aw, am, ax, an, ao⟩ := aa.get default (by decide) i2 ah
  obtain ⟨ay, az, a0, a1, a2, a3, rfl, a4, a5, a6⟩ := kFeat.op an
  refine L_pu (P_ia Tryz.underlying26 se26 A1 ac n2 c3 aa.len i2 rfl am rfl ah) (L_pu (P_fa fa61_0 (ac.add (i2.toNat * 4)) ((ac.add (i2.toNat * 4)).add 0) rfl rfl) (L_pu (P_ld ag9 cL ((ac.add (i2.toNat * 4)).add 0) (vs ((nth s i2).Id)) rfl (ao 0 _ rfl)) (L_mv (vs id) rfl (L_pu (P_scmp ((nth s i2).Id) id (((nth s i2).Id) == id) rfl rfl rfl) (L_nil ?_)))))
  refine W_cond (((nth s i2).Id) == id) rfl (fun ag => ?_) (fun ag => ?_)
  ·have H := ite_t H ag
   exact W_seq (W_reg (L_mv (vi i2) rfl (L_as (vi i2) rfl (L_nil (W_ret ⟨[vi i2], ⟨_, rfl, rfl⟩, i2, rfl, H, af.gr.g0⟩)))))
  have H := ite_f H ag
  refine W_skip (W_reg (L_mv (vi i2) rfl ?_))
  obtain ⟨ap, H⟩ := H
  have aq : I64 (i2 + 1) := i64_succ (of_decide_eq_true ab) al ap
  refine L_pu (P_add i2 1 rfl rfl aq) (L_as (vi (i2 + 1)) rfl (L_nil ?_))
  obtain ⟨ar, au⟩ := H
  exact ⟨i2 + 1, au, ar, (hasI rfl), af, aa⟩
 have H := ite_f H ab
 refine W_exit (xin_hit ?_)
 exact W_seq (W_reg (L_as (vi (-1)) rfl (L_nil (W_ret ⟨[vi (-1)], ⟨_, rfl, rfl⟩, (-1), rfl, H, af.gr.g0⟩))))
end
section
open Go.RowKit
def F79.E (s : Shape) (Q : Shape → Prop) : Prop :=
 (([] : List Pt).length + s.Pts.length ≤ 268435456) ∧ Q (⟨s.Kind, (([] : List Pt) ++ s.Pts)⟩ : Shape)
theorem F79.calls {O : Ob} (w0 : World) (hO : Ok w0 O) (s : Shape) (A1 : Option Addr) (n2 c3 : Nat) (hp4 : Sl kPt w0 (Fr O) (.slice A1 n2 c3) s.Pts) (Q : Shape → Prop) (h : F79.E s Q) :
  Ret Tryz.prog 96 [.agg #[vi s.Kind, .slice A1 n2 c3]] w0 (fun v w' => ∃ (r0 : Shape) (A0 : Option Addr) (n0 c0 : Nat), v = .agg #[vi r0.Kind, .slice A0 n0 c0] ∧ Q r0 ∧ Gr w0 w' none ∧ Ok w' ([bk A0] ++ O) ∧ (∀ b, some b ∈ [bk A0] → w0.heap.size ≤ b) ∧ Ow kPt 114 w' ([bk A0] ++ O) (.slice A0 n0 c0) r0.Pts) := by
 unfold F79.E at h
 have H := h
 clear h
 have hc0 := Ct.init hO
 refine Ret_enter Tryz.func96 rfl 10 rfl [.cell 2 58] rfl rfl ?_
 refine W_seq (W_reg (L_box [vi s.Kind, .slice A1 n2 c3] rfl fun w6 b7 hl9 hu10 g8 ay => ?_))
 have az := Fb.mk hc0.ok hl9 ay
 have ap := hc0.k0 g8
 refine L_alloc [.int .i64 0, .slice none 0 0] ze58 fun be ae aq hu19 ar a0 => ?_
 have au := ap.own ar (some ae) (oglt aq hu19)
 refine L_nil (W_seq (W_mixr 8 [some ae] (by kernel_rfl) rfl fun bf ag aa => ?_))
 have ah := au.k0 ag
 refine M_pu 0 rfl (by kernel_rfl) aa (P_fa fa58_0 ⟨b7, 0, none⟩ ⟨b7, 0, none⟩ rfl rfl) ?_
 have a1 := ap.stown _ ar (oge aq)
 have a2 := au.stn ag
 have af := ((az.st a1).st a2)
 refine M_pu 1 rfl (by kernel_rfl) aa (P_ldr ag3 cR ⟨b7, 0, none⟩ (vi s.Kind) rfl (af.cell rfl) (nm_cons (ah.fne 0 af.2 rfl) nm_nil)) ?_
 refine M_pu 3 rfl (by kernel_rfl) aa (P_fa fa58_1 ⟨b7, 0, none⟩ ⟨b7, 1, none⟩ rfl rfl) ?_
 refine M_pu 4 rfl (by kernel_rfl) aa (P_ldr ag56 cR ⟨b7, 1, none⟩ (.slice A1 n2 c3) rfl (af.cell rfl) (nm_cons (ah.fne 0 af.2 rfl) nm_nil)) ?_
 refine M_any1 2 (by kernel_rfl) rfl ?_
 refine L_lit (kd := kPt) ei56 ah ([] : List Pt) (cells := []) rfl (fun _ => by kernel_rfl) fun bg av a3 a4 aw hr35 ai a5 => ?_
 have aj := Gm.tm aa aw
 refine L_nil ⟨aj, ?_⟩
 refine M_any1 5 (by kernel_rfl) rfl ?_
 obtain ⟨a6, H⟩ := H
 refine L_app ei56 ai (.slice av a3 a4) ([] : List Pt) s.Pts rfl a5 (.slice A1 n2 c3) rfl (hp4.st ai.st).sx 0 rfl a6 fun bh ab ac ad ax a7 ak a8 => ?_
 have al := Gm.tq aj ax (hv_new aa hr35)
 have bi := hv_app (L := [bk av, some ae]) (O := O) (i := 0) aj rfl (hv_new aa hr35) a7 ak
 refine L_nil ⟨al, ?_⟩
 refine M_pu 6 rfl (by kernel_rfl) al (P_build (.agg #[vi s.Kind, .slice ab ac ad]) (fun _ => by kernel_rfl)) ?_
 refine M_any1 7 (by kernel_rfl) rfl ?_
 have a9 := (ai.bm ((a0.k0 ag).k0 aw) 1 0 rfl rfl rfl ax)
 refine L_stb ae 0 [vi 0, .slice none 0 0] [vi s.Kind, .slice ab ac ad] [vi s.Kind, .slice ab ac ad] rfl a9 rfl sz58 rfl rfl rfl fun bj am ba => ?_
 have an := ak.wr 1 rfl am
 have bb := Gm.tq al am (hv_mem 0 rfl)
 refine L_nil ⟨bb, ?_⟩
 refine M_nil (by kernel_rfl) ?_
 refine W_ret ?_
 have bc := an.bgv ba 1 rfl
 have ao := an.drop 1 rfl
 have bd := (an.sd (ak.sw a8 0 1 rfl rfl rfl am) 0 1 rfl rfl rfl)
 exact ⟨[.agg #[vi s.Kind, .slice ab ac ad]], ⟨_, _, rfl, bc.1.res rfl ag58 sz58, rfl⟩, (⟨s.Kind, (([] : List Pt) ++ s.Pts)⟩ : Shape), ab, ac, ad, rfl, H, ao.gr.g0, ao.ok, ao.ge, bd⟩
end
section
open Go.RowKit
def F80.E (f : Feat) (Q : Feat → Prop) : Prop :=
 (([] : List Tag).length + f.Tags.length ≤ 268435456) ∧ F79.E f.Shape (fun r => Q (⟨f.Id, r, (([] : List Tag) ++ f.Tags)⟩ : Feat))
theorem F80.calls {O : Ob} (w0 : World) (hO : Ok w0 O) (f : Feat) (A2 : Option Addr) (n3 c4 : Nat) (A7 : Option Addr) (n8 c9 : Nat) (hs1 : Lim f.Id) (hp5 : Sl kPt w0 (Fr O) (.slice A2 n3 c4) f.Shape.Pts) (bn : Sl kTag w0 (Fr O) (.slice A7 n8 c9) f.Tags) (Q : Feat → Prop) (h : F80.E f Q) :
  Ret Tryz.prog 61 [.agg #[vs f.Id, vi f.Shape.Kind, .slice A2 n3 c4, .slice A7 n8 c9]] w0 (fun v w' => ∃ (r0 : Feat) (A0 : Option Addr) (n0 c0 : Nat) (A2 : Option Addr) (n2 c2 : Nat), v = .agg #[vs r0.Id, vi r0.Shape.Kind, .slice A0 n0 c0, .slice A2 n2 c2] ∧ Q r0 ∧ Gr w0 w' none ∧ Ok w' ([bk A0, bk A2] ++ O) ∧ (∀ b, some b ∈ [bk A0, bk A2] → w0.heap.size ≤ b) ∧ Lim r0.Id ∧ Ow kPt 114 w' ([bk A0, bk A2] ++ O) (.slice A0 n0 c0) r0.Shape.Pts ∧ Ow kTag 106 w' ([bk A0, bk A2] ++ O) (.slice A2 n2 c2) r0.Tags) := by
 unfold F80.E at h
 have H := h
 clear h
 have hc0 := Ct.init hO
 refine Ret_enter Tryz.func61 rfl 13 rfl [.cell 2 61] rfl rfl ?_
 refine W_seq (W_reg (L_box [vs f.Id, vi f.Shape.Kind, .slice A2 n3 c4, .slice A7 n8 c9] rfl fun df ac b3 hu16 b4 b5 => ?_))
 have b6 := Fb.mk hc0.ok b3 b5
 have bo := hc0.k0 b4
 refine L_alloc [vs [], .int .i64 0, .slice none 0 0, .slice none 0 0] ze61 fun dg aa bp hu25 bq br => ?_
 have bs := bo.own bq (some aa) (oglt bp hu25)
 refine L_nil (W_seq ?_)
 obtain ⟨bt, H⟩ := H
 refine W_join (J := (fun t ai => ∃ (r : Shape) (ad : Option Addr) (aj : Nat) (ak : Nat) (ae : Option Addr) (al : Nat) (am : Nat), Has t [(2, .pointer (some ⟨aa, 0, none⟩))] ∧ Ct [] w0 ai [bk ae, bk ad, some aa] O ∧ Ow kPt 114 ai ([bk ae, bk ad, some aa] ++ O) (.slice ad aj ak) r.Pts ∧ Ow kTag 106 ai ([bk ae, bk ad, some aa] ++ O) (.slice ae al am) (([] : List Tag) ++ f.Tags) ∧ Bx ai aa [vs f.Id, vi r.Kind, .slice ad aj ak, .slice ae al am] ∧ Q (⟨f.Id, r, (([] : List Tag) ++ f.Tags)⟩ : Feat))) ?_ ?_
 ·refine W_mixr 11 [some aa] (by kernel_rfl) rfl fun b7 ap ab => ?_
  have af := bs.k0 ap
  refine M_pu 0 rfl (by kernel_rfl) ab (P_fa fa61_0 ⟨ac, 0, none⟩ ⟨ac, 0, none⟩ rfl rfl) ?_
  have b8 := bo.stown _ bq (oge bp)
  have b9 := bs.stn ap
  have ah := ((b6.st b8).st b9)
  refine M_pu 1 rfl (by kernel_rfl) ab (P_ldr ag9 cR ⟨ac, 0, none⟩ (vs f.Id) rfl (ah.cell rfl) (nm_cons (af.fne 0 ah.2 rfl) nm_nil)) ?_
  refine M_pu 2 rfl (by kernel_rfl) ab (P_fa fa61_1 ⟨ac, 0, none⟩ ⟨ac, 1, none⟩ rfl rfl) ?_
  refine M_pu 3 rfl (by kernel_rfl) ab (P_ldar ag58 sz58 cR ⟨ac, 1, none⟩ [vi f.Shape.Kind, .slice A2 n3 c4] rfl rfl (ah.cells (off := 1) rfl) (nm_cons (af.fne 0 ah.2 rfl) nm_nil)) ?_
  refine M_pu 6 rfl (by kernel_rfl) ab (P_fa fa61_2 ⟨ac, 0, none⟩ ⟨ac, 3, none⟩ rfl rfl) ?_
  refine M_pu 7 rfl (by kernel_rfl) ab (P_ldr ag59 cR ⟨ac, 3, none⟩ (.slice A7 n8 c9) rfl (ah.cell rfl) (nm_cons (af.fne 0 ah.2 rfl) nm_nil)) ?_
  refine M_any2 4 5 (by kernel_rfl) rfl rfl ?_ ?_
  ·refine L_call go96 [.agg #[vi f.Shape.Kind, .slice A2 n3 c4]] rfl ((F79.calls b7 af.ok f.Shape A2 n3 c4 (hp5.st af.st) _ H).mono ?_)
   rintro _ bu ⟨r, an, aq, ar, rfl, H, bc, ca, cb, cc⟩
   have cd := af.owns bc ca cb
   have au := Gm.tm ab bc
   refine L_nil ⟨au, ?_⟩
   refine M_any1 5 (by kernel_rfl) rfl ?_
   refine L_lit (kd := kTag) ei59 cd ([] : List Tag) (cells := []) rfl (fun _ => by kernel_rfl) fun dh bv ce cf bd hr54 av cg => ?_
   have ag := Gm.tm au bd
   refine L_nil ⟨ag, ?_⟩
   refine M_any1 8 (by kernel_rfl) rfl ?_
   refine L_app ei59 av (.slice bv ce cf) ([] : List Tag) f.Tags rfl cg (.slice A7 n8 c9) rfl (bn.st av.st).sx 0 rfl bt fun di aw ax ay be bw az ch => ?_
   have bf := Gm.tq ag be (hv_new au hr54)
   have dj := hv_app (L := [bk bv, bk an, some aa]) (O := O) (i := 0) ag rfl (hv_new au hr54) bw az
   refine L_nil ⟨bf, ?_⟩
   refine M_pu 9 rfl (by kernel_rfl) bf (P_build (.agg #[vs f.Id, vi r.Kind, .slice an aq ar, .slice aw ax ay]) (fun _ => by kernel_rfl)) ?_
   refine M_any1 10 (by kernel_rfl) rfl ?_
   have ci := (av.bm (((br.k0 ap).k0 bc).k0 bd) 2 0 rfl rfl rfl be)
   refine L_stb aa 0 [vs ([] : Str), vi 0, .slice none 0 0, .slice none 0 0] [vs f.Id, vi r.Kind, .slice an aq ar, .slice aw ax ay] [vs f.Id, vi r.Kind, .slice an aq ar, .slice aw ax ay] rfl ci rfl sz61 rfl rfl rfl fun dk a0 cj => ?_
   have ck := az.wr 2 rfl a0
   have cl := Gm.tq bf a0 (hv_mem 0 rfl)
   refine L_nil ⟨cl, ?_⟩
   refine M_nil (by kernel_rfl) ?_
   have cm := (az.sw (av.sm (cc.so _ bd hr54) 1 0 rfl rfl rfl be bw) 1 2 rfl rfl rfl a0)
   have cn := (az.sw ch 0 2 rfl rfl rfl a0)
   exact ⟨r, an, aq, ar, aw, ax, ay, (hasI rfl), ck, cm, cn, cj, H⟩
  refine L_lit (kd := kTag) ei59 af ([] : List Tag) (cells := []) rfl (fun _ => by kernel_rfl) fun bu bx co cp bz hr42 bg cq => ?_
  have b0 := Gm.tm ab bz
  refine L_nil ⟨b0, ?_⟩
  refine M_any1 4 (by kernel_rfl) rfl ?_
  refine L_call go96 [.agg #[vi f.Shape.Kind, .slice A2 n3 c4]] rfl ((F79.calls bu bg.ok f.Shape A2 n3 c4 (hp5.st bg.st) _ H).mono ?_)
  rintro _ dl ⟨r, ao, a1, a2, rfl, H, a3, cr, b1, cs⟩
  have a4 := bg.owns a3 cr b1
  have ag := Gm.tm b0 a3
  refine L_nil ⟨ag, ?_⟩
  refine M_any1 8 (by kernel_rfl) rfl ?_
  have ct := (cq.sos a3 b1)
  refine L_app ei59 a4 (.slice bx co cp) ([] : List Tag) f.Tags rfl ct (.slice A7 n8 c9) rfl (bn.st a4.st).sx 1 rfl bt fun dm a5 a6 a7 bh b2 a8 cu => ?_
  have bi := Gm.tq ag bh (hv_new ab hr42)
  have dn := hv_app (L := [bk ao, bk bx, some aa]) (O := O) (i := 1) ag rfl (hv_new ab hr42) b2 a8
  refine L_nil ⟨bi, ?_⟩
  refine M_pu 9 rfl (by kernel_rfl) bi (P_build (.agg #[vs f.Id, vi r.Kind, .slice ao a1 a2, .slice a5 a6 a7]) (fun _ => by kernel_rfl)) ?_
  refine M_any1 10 (by kernel_rfl) rfl ?_
  have cv := (a4.bm (((br.k0 ap).k0 bz).k0 a3) 2 1 rfl rfl rfl bh)
  refine L_stb aa 0 [vs ([] : Str), vi 0, .slice none 0 0, .slice none 0 0] [vs f.Id, vi r.Kind, .slice ao a1 a2, .slice a5 a6 a7] [vs f.Id, vi r.Kind, .slice ao a1 a2, .slice a5 a6 a7] rfl cv rfl sz61 rfl rfl rfl fun dp a9 cw => ?_
  have bj := a8.wr 2 rfl a9
  have cx := Gm.tq bi a9 (hv_mem 0 rfl)
  refine L_nil ⟨cx, ?_⟩
  refine M_nil (by kernel_rfl) ?_
  have cy := bj.perm (.swap _ _ _)
  have cz := (bj.sp (a8.sw (a4.sm cs 0 1 rfl rfl rfl bh b2) 0 2 rfl rfl rfl a9) (.swap _ _ _))
  have c1 := (bj.sp (a8.sw cu 1 2 rfl rfl rfl a9) (.swap _ _ _))
  have c3 := cw
  exact ⟨r, ao, a1, a2, a5, a6, a7, (hasI rfl), cy, cz, c1, c3, H⟩
 rintro dq ai ⟨r, ad, aj, ak, ae, al, am, c5, ba, c6, c7, c8, H⟩
 obtain ⟨dr, rfl⟩ := Has.ins c5
 refine W_ret ?_
 have da := ba.bgv c8 2 rfl
 have bb := ba.drop 2 rfl
 have bl := bb.perm (.swap _ _ _)
 have db := bb.stp (.swap _ _ _)
 have dc := (da.st db)
 have dd := (bb.sp (ba.sd c6 1 2 rfl rfl rfl) (.swap _ _ _))
 have de := (bb.sp (ba.sd c7 0 2 rfl rfl rfl) (.swap _ _ _))
 exact ⟨[.agg #[vs f.Id, vi r.Kind, .slice ad aj ak, .slice ae al am]], ⟨_, _, rfl, dc.1.res rfl ag61 sz61, rfl⟩, (⟨f.Id, r, (([] : List Tag) ++ f.Tags)⟩ : Feat), ad, aj, ak, ae, al, am, rfl, H, bl.gr.g0, bl.ok, bl.ge, hs1, dd, de⟩
end
section
open Go.RowKit
def F81.E (s : List Feat) (id : Str) (Q : Feat → Bool → Prop) : Prop :=
 F78.E s id (fun r => (if decide (r < 0) then Q (⟨([] : Str), (⟨0, ([] : List Pt)⟩ : Shape), ([] : List Tag)⟩ : Feat) false else ((0 : Int) ≤ r ∧ r < (s.length : Int)) ∧ F80.E (nth s r) (fun r2 => Q r2 true)))
theorem F81.calls {O : Ob} (w0 : World) (hO : Ok w0 O) (s : List Feat) (A1 : Option Addr) (n2 c3 : Nat) (hp4 : Sl kFeat w0 (Fr O) (.slice A1 n2 c3) s) (id : Str) (hs6 : Lim id) (Q : Feat → Bool → Prop) (h : F81.E s id Q) :
  Ret Tryz.prog 59 [.slice A1 n2 c3, vs id] w0 (fun v w' => ∃ (r0 : Feat) (r1 : Bool) (A0 : Option Addr) (n0 c0 : Nat) (A2 : Option Addr) (n2 c2 : Nat), v = .tuple #[.agg #[vs r0.Id, vi r0.Shape.Kind, .slice A0 n0 c0, .slice A2 n2 c2], vb r1] ∧ Q r0 r1 ∧ Gr w0 w' none ∧ Ok w' ([bk A0, bk A2] ++ O) ∧ (∀ b, some b ∈ [bk A0, bk A2] → w0.heap.size ≤ b) ∧ Lim r0.Id ∧ Ow kPt 114 w' ([bk A0, bk A2] ++ O) (.slice A0 n0 c0) r0.Shape.Pts ∧ Ow kTag 106 w' ([bk A0, bk A2] ++ O) (.slice A2 n2 c2) r0.Tags) := by
 unfold F81.E at h
 have H := h
 clear h
 have hc0 := Ct.init hO
 refine Ret_enter Tryz.func59 rfl 18 rfl [.cell 4 61, .tmp 5] rfl rfl ?_
 refine W_seq (W_reg (L_alloc [vs [], .int .i64 0, .slice none 0 0, .slice none 0 0] ze61 fun w7 b8 a4 hu11 g9 az => ?_))
 have ak := hc0.own g9 (some b8) (oglt a4 hu11)
 refine L_as (vb false) rfl (L_nil (W_seq (W_reg (L_mv (.slice A1 n2 c3) rfl (L_mv (vs id) rfl ?_)))))
 refine L_call go93 [.slice A1 n2 c3, vs id] rfl ((F78.calls w7 ak.ok s A1 n2 c3 (hp4.st ak.st) id hs6 _ H).mono ?_)
 rintro _ a5 ⟨r, rfl, H, al⟩
 have aa := ak.k0 al
 refine L_as (vi r) rfl (L_nil (W_seq (W_seq (W_reg (L_mv (vi r) rfl (L_pu (P_cmp r 0 (decide (r < 0)) rfl rfl rfl) (L_nil ?_)))))))
 refine W_cond (decide (r < 0)) rfl (fun am => ?_) (fun am => ?_)
 ·have H := ite_t H am
  refine W_seq (W_reg (L_pu (P_build (.agg #[vs ([] : Str), vi 0, .slice none 0 0, .slice none 0 0]) (fun _ => by kernel_rfl)) ?_))
  have a6 := (az.k0 al)
  refine L_stb b8 0 [vs ([] : Str), vi 0, .slice none 0 0, .slice none 0 0] [vs ([] : Str), vi 0, .slice none 0 0, .slice none 0 0] [vs ([] : Str), vi 0, .slice none 0 0, .slice none 0 0] rfl a6 rfl sz61 rfl rfl rfl fun a0 a7 a8 => ?_
  have a9 := aa.wr 0 rfl a7
  refine L_as (vb false) rfl (L_nil (W_ret ?_))
  have ba := a9.own (Gr.refl _ none) none (by simp)
  have bb : Ow kPt 114 a0 ([bk none, some b8] ++ O) (.slice none 0 0) [] := Ow.nil _ _ _ _
  have ab := ba.own (Gr.refl _ none) none (by simp)
  have bc : Ow kTag 106 a0 ([bk none, bk none, some b8] ++ O) (.slice none 0 0) [] := Ow.nil _ _ _ _
  have bd := a8
  have be := ab.bgv bd 2 rfl
  have ac := ab.drop 2 rfl
  have an := ac.perm (.swap _ _ _)
  have bf := ac.stp (.swap _ _ _)
  have bg := (be.st bf)
  have bh := (ac.sp (ab.sd (bb.so none (Gr.refl _ none) (by simp)) 1 2 rfl rfl rfl) (.swap _ _ _))
  have bi := (ac.sp (ab.sd bc 0 2 rfl rfl rfl) (.swap _ _ _))
  exact ⟨[.agg #[vs ([] : Str), vi 0, .slice none 0 0, .slice none 0 0], vb false], ⟨_, _, rfl, bg.1.res rfl ag61 sz61, ⟨_, rfl, rfl⟩⟩, (⟨([] : Str), (⟨0, ([] : List Pt)⟩ : Shape), ([] : List Tag)⟩ : Feat), false, none, 0, 0, none, 0, 0, rfl, H, an.gr.g0, an.ok, an.ge, (by decide), bh, bi⟩
 have H := ite_f H am
 refine W_skip (W_seq (W_reg (L_mv (.slice A1 n2 c3) rfl (L_mv (vi r) rfl ?_))))
 obtain ⟨a1, H⟩ := H
 obtain ⟨a2, b1, bj, b2, bl, bm⟩ := (hp4.st aa.st).get default (by decide) r a1
 obtain ⟨ao, ap, aq, ar, au, av, rfl, bn, bo, bp⟩ := kFeat.op bl
 refine L_pu (P_ia Tryz.underlying26 se26 A1 a2 n2 c3 (hp4.st aa.st).len r rfl bj rfl a1) (L_pu (P_lda ag61 sz61 cL (a2.add (r.toNat * 4)) [vs ((nth s r).Id), vi ((nth s r).Shape.Kind), .slice ao ap aq, .slice ar au av] rfl rfl bm) ?_)
 refine L_call go61 [.agg #[vs ((nth s r).Id), vi ((nth s r).Shape.Kind), .slice ao ap aq, .slice ar au av]] rfl ((F80.calls a5 aa.ok (nth s r) ao ap aq ar au av bn bo bp _ H).mono ?_)
 rintro _ b3 ⟨r2, ad, ae, af, ag, ah, ai, rfl, H, a3, bq, br, bs, bt, bu⟩
 have aw := aa.owns a3 bq br
 have bv := ((az.k0 al).k0 a3)
 refine L_stb b8 0 [vs ([] : Str), vi 0, .slice none 0 0, .slice none 0 0] [vs r2.Id, vi r2.Shape.Kind, .slice ad ae af, .slice ag ah ai] [vs r2.Id, vi r2.Shape.Kind, .slice ad ae af, .slice ag ah ai] rfl bv rfl sz61 rfl rfl rfl fun b4 ax bw => ?_
 have aj := aw.wr 2 rfl ax
 refine L_as (vb true) rfl (L_nil (W_ret ?_))
 have bx := aj.bgv bw 2 rfl
 have ay := aj.drop 2 rfl
 have bz := (aj.sd (aw.sw bt 0 2 rfl rfl rfl ax) 0 2 rfl rfl rfl)
 have b0 := (aj.sd (aw.sw bu 1 2 rfl rfl rfl ax) 1 2 rfl rfl rfl)
 exact ⟨[.agg #[vs r2.Id, vi r2.Shape.Kind, .slice ad ae af, .slice ag ah ai], vb true], ⟨_, _, rfl, bx.1.res rfl ag61 sz61, ⟨_, rfl, rfl⟩⟩, r2, true, ad, ae, af, ag, ah, ai, rfl, H, ay.gr.g0, ay.ok, ay.ge, bs, bz, b0⟩
end
section
open Go.RowKit
def F82.E (s : List Feat) (c_ : Change) (Q : Bool → Prop) : Prop :=
 F81.E s c_.Id (fun r r2 => (if r2 == c_.Had then F35.E r c_.Was (fun r3 => Q r3) else Q false))
theorem F82.calls {O : Ob} (w0 : World) (hO : Ok w0 O) (s : List Feat) (A1 : Option Addr) (n2 c3 : Nat) (hp4 : Sl kFeat w0 (Fr O) (.slice A1 n2 c3) s) (c_ : Change) (A8 : Option Addr) (n9 ai : Nat) (aj : Option Addr) (ak al : Nat) (au : Option Addr) (av aw : Nat) (ax : Option Addr) (ay az : Nat) (hs6 : Lim c_.Id) (hs7 : Lim c_.Was.Id) (a8 : Sl kPt w0 (Fr O) (.slice A8 n9 ai) c_.Was.Shape.Pts) (a9 : Sl kTag w0 (Fr O) (.slice aj ak al) c_.Was.Tags) (bz : Lim c_.Now.Id) (b0 : Sl kPt w0 (Fr O) (.slice au av aw) c_.Now.Shape.Pts) (b1 : Sl kTag w0 (Fr O) (.slice ax ay az) c_.Now.Tags) (Q : Bool → Prop) (h : F82.E s c_ Q) :
  Ret Tryz.prog 25 [.slice A1 n2 c3, .agg #[vs c_.Id, vb c_.Had, vs c_.Was.Id, vi c_.Was.Shape.Kind, .slice A8 n9 ai, .slice aj ak al, vb c_.Has, vs c_.Now.Id, vi c_.Now.Shape.Kind, .slice au av aw, .slice ax ay az]] w0 (fun v w' => ∃ (r0 : Bool), v = vb r0 ∧ Q r0 ∧ Gr w0 w' none) := by
 unfold F82.E at h
 have H := h
 clear h
 have hc0 := Ct.init hO
 refine Ret_enter Tryz.func25 rfl 24 rfl [.tmp 4] rfl rfl ?_
 refine W_seq (W_reg (L_box [vs c_.Id, vb c_.Had, vs c_.Was.Id, vi c_.Was.Shape.Kind, .slice A8 n9 ai, .slice aj ak al, vb c_.Has, vs c_.Now.Id, vi c_.Now.Shape.Kind, .slice au av aw, .slice ax ay az] rfl fun ba ab bb hu33 bc bd => ?_))
 have a3 := Fb.mk hc0.ok bb bd
 have an := hc0.k0 bc
 refine L_as (vb false) rfl (L_nil (W_seq (W_reg (L_mv (.slice A1 n2 c3) rfl (L_pu (P_fa fa63_0 ⟨ab, 0, none⟩ ⟨ab, 0, none⟩ rfl rfl) (L_pu (P_ld ag9 cL ⟨ab, 0, none⟩ (vs c_.Id) rfl (a3.cell rfl)) ?_))))))
 refine L_call go59 [.slice A1 n2 c3, vs c_.Id] rfl ((F81.calls ba an.ok s A1 n2 c3 (hp4.st an.st) c_.Id hs6 _ H).mono ?_)
 rintro _ b2 ⟨r, r2, ac, ad, ae, af, ag, ah, rfl, H, a4, be, a5, bf, bg, bh⟩
 have a6 := an.owns a4 be a5
 refine L_mv (.tuple #[.agg #[vs r.Id, vi r.Shape.Kind, .slice ac ad ae, .slice af ag ah], vb r2]) rfl (L_pu (P_ext [.agg #[vs r.Id, vi r.Shape.Kind, .slice ac ad ae, .slice af ag ah], vb r2] 0 (.agg #[vs r.Id, vi r.Shape.Kind, .slice ac ad ae, .slice af ag ah]) rfl rfl) (L_pu (P_ext [.agg #[vs r.Id, vi r.Shape.Kind, .slice ac ad ae, .slice af ag ah], vb r2] 1 (vb r2) rfl rfl) (L_alloc [vs [], .int .i64 0, .slice none 0 0, .slice none 0 0] ze61 fun b3 a0 ao hu59 ap bi => ?_)))
 have aq := a6.own ap (some a0) (oglt ao hu59)
 refine L_stb a0 0 [vs ([] : Str), vi 0, .slice none 0 0, .slice none 0 0] [vs r.Id, vi r.Shape.Kind, .slice ac ad ae, .slice af ag ah] [vs r.Id, vi r.Shape.Kind, .slice ac ad ae, .slice af ag ah] rfl bi rfl sz61 rfl rfl rfl fun bj ar bl => ?_
 have am := aq.wr 0 rfl ar
 refine L_as (vb r2) rfl (L_nil (W_seq (W_reg (L_mv (vb r2) rfl (L_pu (P_fa fa63_1 ⟨ab, 0, none⟩ ⟨ab, 1, none⟩ rfl rfl) ?_)))))
 have bm := an.stos a4 a5
 have bn := a6.stown _ ap (oge ao)
 have bo := aq.stw 0 rfl ar
 have a7 := (((a3.st bm).st bn).st bo)
 refine L_pu (P_ld ag4 cL ⟨ab, 1, none⟩ (vb c_.Had) rfl (a7.cell rfl)) (L_pu (P_bcmp Tryz.underlying4 r2 c_.Had (r2 == c_.Had) rfl rfl rfl) (L_mv (vb (r2 == c_.Had)) rfl ?_))
 rcases bool_or (r2 == c_.Had) with aa | aa
 ·have H := ite_t H aa
  refine L_rb aa rfl (L_pu (P_lda ag61 sz61 cL ⟨a0, 0, none⟩ [vs r.Id, vi r.Shape.Kind, .slice ac ad ae, .slice af ag ah] rfl rfl (bl.cells (off := 0) rfl)) (L_rb aa rfl (L_pu (P_fa fa63_2 ⟨ab, 0, none⟩ ⟨ab, 2, none⟩ rfl rfl) (L_rb aa rfl (L_pu (P_lda ag61 sz61 cL ⟨ab, 2, none⟩ [vs c_.Was.Id, vi c_.Was.Shape.Kind, .slice A8 n9 ai, .slice aj ak al] rfl rfl (a7.cells (off := 2) rfl)) (L_rb aa rfl ?_))))))
  have bp := (aq.sw (bg.so _ ap (oge ao)) 1 0 rfl rfl rfl ar)
  have bq := am.gv bp 1 rfl
  have a1 := am.drop 1 rfl
  have br := (am.sd (aq.sw (bh.so _ ap (oge ao)) 2 0 rfl rfl rfl ar) 2 1 rfl rfl rfl)
  have bs := a1.gv br 1 rfl
  have a2 := a1.drop 1 rfl
  have bt := a1.std 1 rfl
  refine L_call go60 [.agg #[vs r.Id, vi r.Shape.Kind, .slice ac ad ae, .slice af ag ah], .agg #[vs c_.Was.Id, vi c_.Was.Shape.Kind, .slice A8 n9 ai, .slice aj ak al]] rfl ((F35.calls bj a2.ok r ac ad ae af ag ah bf (bq.st bt) bs c_.Was A8 n9 ai aj ak al hs7 (a8.st a2.st) (a9.st a2.st) _ H).mono ?_)
  rintro _ b4 ⟨r3, rfl, H, bu⟩
  have bv := am.k0 bu
  refine L_pu (P_pick true (vb r3) (by exact congrArg Value.bool aa) rfl) (L_as (vb r3) rfl (L_nil (W_ret ?_)))
  have bw := bv.clear
  exact ⟨[vb r3], ⟨_, rfl, rfl⟩, r3, rfl, H, bw.gr.g0⟩
 have H := ite_f H aa
 refine L_pb aa rfl (L_pb aa rfl (L_pb aa rfl (L_pb aa rfl (L_pu (P_pick false (vb false) (by exact congrArg Value.bool aa) rfl) (L_as (vb false) rfl (L_nil (W_ret ?_)))))))
 have bx := am.clear
 exact ⟨[vb false], ⟨_, rfl, rfl⟩, false, rfl, H, bx.gr.g0⟩
end
section
open Go.RowKit
def F107.E (s : List Feat) (f : Feat) (Q : List Feat → Prop) : Prop :=
 (∃ (I74 : (List Feat) → Bool → Int → Prop) (mu75 : (List Feat) → Bool → Int → Nat), I74 ([] : List Feat) false 0 ∧ ∀ (xs2 : List Feat) (done2 : Bool) (i2 : Int), I74 xs2 done2 i2 → (if decide (i2 < (s.length : Int)) then (if !done2 then ((0 : Int) ≤ i2 ∧ i2 < (s.length : Int)) ∧ (if !(Op.bytesLess ((nth s i2).Id) f.Id) then (xs2.length + ([f] : List Feat).length ≤ 268435456) ∧ ((0 : Int) ≤ i2 ∧ i2 < (s.length : Int)) ∧ (if ((nth s i2).Id) != f.Id then ((0 : Int) ≤ i2 ∧ i2 < (s.length : Int)) ∧ ((xs2 ++ ([f] : List Feat)).length + ([(nth s i2)] : List Feat).length ≤ 268435456) ∧ (-9223372036854775808 ≤ i2) ∧ I74 ((xs2 ++ ([f] : List Feat)) ++ ([(nth s i2)] : List Feat)) true (i2 + 1) ∧ mu75 ((xs2 ++ ([f] : List Feat)) ++ ([(nth s i2)] : List Feat)) true (i2 + 1) < mu75 xs2 done2 i2 else (-9223372036854775808 ≤ i2) ∧ I74 (xs2 ++ ([f] : List Feat)) true (i2 + 1) ∧ mu75 (xs2 ++ ([f] : List Feat)) true (i2 + 1) < mu75 xs2 done2 i2) else ((0 : Int) ≤ i2 ∧ i2 < (s.length : Int)) ∧ (if ((nth s i2).Id) != f.Id then ((0 : Int) ≤ i2 ∧ i2 < (s.length : Int)) ∧ (xs2.length + ([(nth s i2)] : List Feat).length ≤ 268435456) ∧ (-9223372036854775808 ≤ i2) ∧ I74 (xs2 ++ ([(nth s i2)] : List Feat)) done2 (i2 + 1) ∧ mu75 (xs2 ++ ([(nth s i2)] : List Feat)) done2 (i2 + 1) < mu75 xs2 done2 i2 else (-9223372036854775808 ≤ i2) ∧ I74 xs2 done2 (i2 + 1) ∧ mu75 xs2 done2 (i2 + 1) < mu75 xs2 done2 i2)) else ((0 : Int) ≤ i2 ∧ i2 < (s.length : Int)) ∧ (if ((nth s i2).Id) != f.Id then ((0 : Int) ≤ i2 ∧ i2 < (s.length : Int)) ∧ (xs2.length + ([(nth s i2)] : List Feat).length ≤ 268435456) ∧ (-9223372036854775808 ≤ i2) ∧ I74 (xs2 ++ ([(nth s i2)] : List Feat)) done2 (i2 + 1) ∧ mu75 (xs2 ++ ([(nth s i2)] : List Feat)) done2 (i2 + 1) < mu75 xs2 done2 i2 else (-9223372036854775808 ≤ i2) ∧ I74 xs2 done2 (i2 + 1) ∧ mu75 xs2 done2 (i2 + 1) < mu75 xs2 done2 i2)) else (if !done2 then (xs2.length + ([f] : List Feat).length ≤ 268435456) ∧ Q (xs2 ++ ([f] : List Feat)) else Q xs2)))
theorem F107.calls {O : Ob} (w0 : World) (hO : Ok w0 O) (s : List Feat) (A1 : Option Addr) (n2 c3 : Nat) (hp4 : Sl kFeat w0 (Fr O) (.slice A1 n2 c3) s) (f : Feat) (A7 : Option Addr) (n8 c9 : Nat) (ag : Option Addr) (ah ai : Nat) (hs6 : Lim f.Id) (d0 : Sl kPt w0 (Fr O) (.slice A7 n8 c9) f.Shape.Pts) (d1 : Sl kTag w0 (Fr O) (.slice ag ah ai) f.Tags) (Q : List Feat → Prop) (h : F107.E s f Q) :
  Ret Tryz.prog 26 [.slice A1 n2 c3, .agg #[vs f.Id, vi f.Shape.Kind, .slice A7 n8 c9, .slice ag ah ai]] w0 (fun v w' => ∃ (r0 : List Feat) (A0 : Option Addr) (n0 c0 : Nat), v = .slice A0 n0 c0 ∧ Q r0 ∧ Gr w0 w' none ∧ Ok w' ([bk A0] ++ O) ∧ (∀ b, some b ∈ [bk A0] → w0.heap.size ≤ b) ∧ Ow kFeat 61 w' ([bk A0] ++ O) (.slice A0 n0 c0) r0) := by
 unfold F107.E at h
 have H := h
 clear h
 have hc0 := Ct.init hO
 refine Ret_enter Tryz.func26 rfl 53 rfl [.tmp 4] rfl rfl ?_
 refine W_seq (W_reg (L_box [vs f.Id, vi f.Shape.Kind, .slice A7 n8 c9, .slice ag ah ai] rfl fun h5 ae d2 hu21 d3 d4 => ?_))
 have d5 := Fb.mk hc0.ok d2 d4
 have c4 := hc0.k0 d3
 refine L_as (.slice none 0 0) rfl (L_nil (W_seq (W_reg (L_lit (kd := kFeat) ei26 c4 ([] : List Feat) (cells := []) rfl (fun _ => by kernel_rfl) fun h6 c5 c6 c7 d6 hr31 a9 d7 => ?_))))
 refine L_as (.slice c5 c6 c7) rfl (L_nil (W_seq (W_reg (L_as (vb false) rfl (L_nil (W_seq (W_seq (W_reg ?_))))))))
 refine L_as (vi 0) rfl (L_nil (W_block ?_))
 obtain ⟨d8, d9, b0, H⟩ := H
 have ea := c4.stown _ d6 hr31
 have eb := (d5.st ea)
 refine W_loop (α := (List Feat) × (Option Addr) × Nat × Nat × Bool × Int) (fun (sv__ : (List Feat) × (Option Addr) × Nat × Nat × Bool × Int) t an => match sv__ with | (xs2, aa, ac, ad, done2, i2) => d8 xs2 done2 i2 ∧ Has t [(0, .slice A1 n2 c3), (3, .pointer (some ⟨ae, 0, none⟩)), (5, .slice aa ac ad), (6, vb done2), (7, vi i2)] ∧ Ct [] w0 an [bk aa] O ∧ Sl kFeat an (Fr ([bk aa] ++ O)) (.slice A1 n2 c3) s ∧ Sl kPt an (Fr ([bk aa] ++ O)) (.slice A7 n8 c9) f.Shape.Pts ∧ Sl kTag an (Fr ([bk aa] ++ O)) (.slice ag ah ai) f.Tags ∧ Ow kFeat 61 an ([bk aa] ++ O) (.slice aa ac ad) xs2 ∧ Fb an ([bk aa] ++ O) ae [vs f.Id, vi f.Shape.Kind, .slice A7 n8 c9, .slice ag ah ai]) (fun (sv__ : (List Feat) × (Option Addr) × Nat × Nat × Bool × Int) => match sv__ with | (xs2, _, _, _, done2, i2) => d9 xs2 done2 i2) (([] : List Feat), c5, c6, c7, false, 0) ⟨b0, (hasI rfl), a9, (hp4.st a9.st), (d0.st a9.st), (d1.st a9.st), d7, eb⟩ ?_
 rintro ⟨xs2, aa, ac, ad, done2, i2⟩ _ an ⟨b0, ec, aj, af, ao, ap, ar, a0⟩
 obtain ⟨h7, rfl⟩ := Has.ins ec
 have H := H xs2 done2 i2 b0
 refine W_seq (W_seq (W_reg (L_mv (vi i2) rfl (L_mv (.slice A1 n2 c3) rfl ?_))))
 have au := af.le
 refine L_pu (P_len Tryz.underlying26 A1 n2 c3 af.len rfl) (L_pu (P_cmp i2 (s.length : Int) (decide (i2 < (s.length : Int))) rfl rfl rfl) (L_nil ?_))
 refine W_cond (decide (i2 < (s.length : Int))) rfl (fun ak => ?_) (fun ak => ?_)
 ·have H := ite_t H ak
  refine W_skip (W_seq (W_block (W_seq (W_seq (W_draw (fun x => Gr an x none) (by kernel_rfl) (by kernel_rfl) (Gr.drew _) ?_)))))
  refine Q_mv (vb done2) rfl (Q_pu (P_not done2 rfl) (Q_mv (vb (!done2)) rfl ?_))
  rcases bool_or (!done2) with ab | ab
  ·have H := ite_t H ab
   refine Q_rb ab rfl (Q_mv (.slice A1 n2 c3) rfl (Q_rb ab rfl (Q_mv (vi i2) rfl (Q_rb ab rfl ?_))))
   obtain ⟨c8, H⟩ := H
   obtain ⟨ba, h8, ed, h9, ee, ef⟩ := af.get default (by decide) i2 c8
   obtain ⟨ia, ib, ic, id, ie, ig, rfl, ih, ii, ij⟩ := kFeat.op ee
   refine Q_pu (P_ia Tryz.underlying26 se26 A1 ba n2 c3 af.len i2 rfl ed rfl c8) (Q_rb ab rfl (Q_pu (P_fa fa61_0 (ba.add (i2.toNat * 4)) ((ba.add (i2.toNat * 4)).add 0) rfl rfl) (Q_rb ab rfl (Q_pu (P_ld ag9 cQ ((ba.add (i2.toNat * 4)).add 0) (vs ((nth s i2).Id)) rfl (ef 0 _ rfl)) (Q_rb ab rfl (Q_pu (P_fa fa61_0 ⟨ae, 0, none⟩ ⟨ae, 0, none⟩ rfl rfl) (Q_rb ab rfl (Q_pu (P_ld ag9 cQ ⟨ae, 0, none⟩ (vs f.Id) rfl (a0.cell rfl)) ?_))))))))
   refine Q_rb ab rfl (Q_pu (P_scmp ((nth s i2).Id) f.Id (!(Op.bytesLess ((nth s i2).Id) f.Id)) rfl rfl rfl) (Q_pu (P_pick true (vb (!(Op.bytesLess ((nth s i2).Id) f.Id))) (by exact congrArg Value.bool ab) rfl) (Q_nil fun eg av => ?_)))
   have a1 := aj.k0 av
   refine W_cond (!(Op.bytesLess ((nth s i2).Id) f.Id)) rfl (fun b1 => ?_) (fun b1 => ?_)
   ·have H := ite_t H b1
    refine W_seq (W_reg (L_mv (.slice aa ac ad) rfl ?_))
    have aq := aj.stn av
    have da := (a0.st aq)
    refine L_pu (P_lda ag61 sz61 cL ⟨ae, 0, none⟩ [vs f.Id, vi f.Shape.Kind, .slice A7 n8 c9, .slice ag ah ai] rfl rfl (da.cells (off := 0) rfl)) (L_lit (kd := kFeat) ei26 a1 ([f] : List Feat) (cells := [vs f.Id, vi f.Shape.Kind, .slice A7 n8 c9, .slice ag ah ai]) ⟨[vs f.Id, vi f.Shape.Kind, .slice A7 n8 c9, .slice ag ah ai], _, rfl, (kFeat.mk _ _ f hs6 (ao.st aq) (ap.st aq)), rfl⟩ (fun _ => by kernel_rfl) fun ik eh ei ej db hr115 ek el => ?_)
    obtain ⟨em, H⟩ := H
    have en := ((ar.sn av).so _ db hr115)
    refine L_app ei26 ek (.slice aa ac ad) xs2 ([f] : List Feat) rfl en (.slice eh ei ej) rfl el.sx 1 rfl em fun eo bb bc bd il aw b2 dc => ?_
    refine L_as (.slice bb bc bd) rfl (L_nil (W_reg (L_as (vb true) rfl (L_nil (W_seq (W_draw (fun x => Gr eo x none) (by kernel_rfl) (by kernel_rfl) (Gr.drew _) ?_))))))
    refine Q_mv (.slice A1 n2 c3) rfl (Q_mv (vi i2) rfl ?_)
    obtain ⟨dd, H⟩ := H
    have ax := a1.stown _ db hr115
    have ay := (((af.st aq).st ax).st aw)
    obtain ⟨be, im, ep, io, eq, er⟩ := ay.get default (by decide) i2 dd
    obtain ⟨ip, iq, ir, it, iu, iv, rfl, iw, ix, iy⟩ := kFeat.op eq
    refine Q_pu (P_ia Tryz.underlying26 se26 A1 be n2 c3 ay.len i2 rfl ep rfl dd) (Q_pu (P_fa fa61_0 (be.add (i2.toNat * 4)) ((be.add (i2.toNat * 4)).add 0) rfl rfl) (Q_pu (P_ld ag9 cQ ((be.add (i2.toNat * 4)).add 0) (vs ((nth s i2).Id)) rfl (er 0 _ rfl)) (Q_pu (P_fa fa61_0 ⟨ae, 0, none⟩ ⟨ae, 0, none⟩ rfl rfl) ?_)))
    have b3 := ((da.st ax).st aw)
    refine Q_pu (P_ld ag9 cQ ⟨ae, 0, none⟩ (vs f.Id) rfl (b3.cell rfl)) (Q_pu (P_scmp ((nth s i2).Id) f.Id (((nth s i2).Id) != f.Id) rfl rfl rfl) (Q_nil fun iz a2 => ?_))
    have a3 := b2.k0 a2
    refine W_cond (((nth s i2).Id) != f.Id) rfl (fun b4 => ?_) (fun b4 => ?_)
    ·have H := ite_t H b4
     refine W_reg (L_mv (.slice bb bc bd) rfl (L_mv (.slice A1 n2 c3) rfl (L_mv (vi i2) rfl ?_)))
     obtain ⟨de, H⟩ := H
     have az := b2.stn a2
     obtain ⟨df, i0, es, i1, et, eu⟩ := (ay.st az).get default (by decide) i2 de
     obtain ⟨b5, b6, b7, b8, b9, ca, rfl, ev, ew, ex⟩ := kFeat.op et
     refine L_pu (P_ia Tryz.underlying26 se26 A1 df n2 c3 (ay.st az).len i2 rfl es rfl de) (L_pu (P_lda ag61 sz61 cL (df.add (i2.toNat * 4)) [vs ((nth s i2).Id), vi ((nth s i2).Shape.Kind), .slice b5 b6 b7, .slice b8 b9 ca] rfl rfl eu) (L_lit (kd := kFeat) ei26 a3 ([(nth s i2)] : List Feat) (cells := [vs ((nth s i2).Id), vi ((nth s i2).Shape.Kind), .slice b5 b6 b7, .slice b8 b9 ca]) ⟨[vs ((nth s i2).Id), vi ((nth s i2).Shape.Kind), .slice b5 b6 b7, .slice b8 b9 ca], _, rfl, (kFeat.mk _ _ (nth s i2) ev ew ex), rfl⟩ (fun _ => by kernel_rfl) fun i3 ey ez e0 dg hr180 e1 e2 => ?_))
     obtain ⟨e3, H⟩ := H
     have e4 := ((dc.sn a2).so _ dg hr180)
     refine L_app ei26 e1 (.slice bb bc bd) (xs2 ++ ([f] : List Feat)) ([(nth s i2)] : List Feat) rfl e4 (.slice ey ez e0) rfl e2.sx 2 rfl e3 fun i4 dh di dj i5 bf cb e5 => ?_
     refine L_as (.slice dh di dj) rfl (L_nil (W_reg (L_mv (vi i2) rfl ?_)))
     obtain ⟨e6, H⟩ := H
     have e7 : I64 (i2 + 1) := i64_succ (of_decide_eq_true ak) au e6
     refine L_pu (P_add i2 1 rfl rfl e7) (L_as (vi (i2 + 1)) rfl (L_nil ?_))
     have cc := cb.drop 0 rfl
     have e8 := cc.drop 0 rfl
     obtain ⟨e9, fa⟩ := H
     have bg := a3.stown _ dg hr180
     have bh := cb.std 0 rfl
     have bi := cc.std 0 rfl
     have fb := (((((ay.st az).st bg).st bf).st bh).st bi)
     have fc := ((((((((ao.st aq).st ax).st aw).st az).st bg).st bf).st bh).st bi)
     have fd := ((((((((ap.st aq).st ax).st aw).st az).st bg).st bf).st bh).st bi)
     have fe := (cc.sd (cb.sd e5 2 0 rfl rfl rfl) 1 0 rfl rfl rfl)
     have ff := (((((b3.st az).st bg).st bf).st bh).st bi)
     exact ⟨(((xs2 ++ ([f] : List Feat)) ++ ([(nth s i2)] : List Feat)), dh, di, dj, true, i2 + 1), fa, e9, (hasI rfl), e8, fb, fc, fd, fe, ff⟩
    have H := ite_f H b4
    refine W_skip (W_reg (L_mv (vi i2) rfl ?_))
    obtain ⟨fg, H⟩ := H
    have fh : I64 (i2 + 1) := i64_succ (of_decide_eq_true ak) au fg
    refine L_pu (P_add i2 1 rfl rfl fh) (L_as (vi (i2 + 1)) rfl (L_nil ?_))
    have fi := a3.drop 0 rfl
    obtain ⟨fj, fk⟩ := H
    have bj := b2.stn a2
    have bl := a3.std 0 rfl
    have fl := ((ay.st bj).st bl)
    have fm := (((((ao.st aq).st ax).st aw).st bj).st bl)
    have fn := (((((ap.st aq).st ax).st aw).st bj).st bl)
    have fo := (a3.sd (dc.sn a2) 1 0 rfl rfl rfl)
    have fp := ((b3.st bj).st bl)
    exact ⟨((xs2 ++ ([f] : List Feat)), bb, bc, bd, true, i2 + 1), fk, fj, (hasI rfl), fi, fl, fm, fn, fo, fp⟩
   have H := ite_f H b1
   refine W_skip (W_seq (W_draw (fun x => Gr eg x none) (by kernel_rfl) (by kernel_rfl) (Gr.drew _) ?_))
   refine Q_mv (.slice A1 n2 c3) rfl (Q_mv (vi i2) rfl ?_)
   obtain ⟨dk, H⟩ := H
   have al := aj.stn av
   obtain ⟨bm, i6, fq, i7, fr, fs⟩ := (af.st al).get default (by decide) i2 dk
   obtain ⟨i8, i9, ja, jb, jc, jd, rfl, je, jf, jg⟩ := kFeat.op fr
   refine Q_pu (P_ia Tryz.underlying26 se26 A1 bm n2 c3 (af.st al).len i2 rfl fq rfl dk) (Q_pu (P_fa fa61_0 (bm.add (i2.toNat * 4)) ((bm.add (i2.toNat * 4)).add 0) rfl rfl) (Q_pu (P_ld ag9 cQ ((bm.add (i2.toNat * 4)).add 0) (vs ((nth s i2).Id)) rfl (fs 0 _ rfl)) (Q_pu (P_fa fa61_0 ⟨ae, 0, none⟩ ⟨ae, 0, none⟩ rfl rfl) ?_)))
   have cd := (a0.st al)
   refine Q_pu (P_ld ag9 cQ ⟨ae, 0, none⟩ (vs f.Id) rfl (cd.cell rfl)) (Q_pu (P_scmp ((nth s i2).Id) f.Id (((nth s i2).Id) != f.Id) rfl rfl rfl) (Q_nil fun jh a4 => ?_))
   have ce := a1.k0 a4
   refine W_cond (((nth s i2).Id) != f.Id) rfl (fun cf => ?_) (fun cf => ?_)
   ·have H := ite_t H cf
    refine W_reg (L_mv (.slice aa ac ad) rfl (L_mv (.slice A1 n2 c3) rfl (L_mv (vi i2) rfl ?_)))
    obtain ⟨dl, H⟩ := H
    have bn := a1.stn a4
    have cg := ((af.st al).st bn)
    obtain ⟨dm, ji, ft, jj, fu, fv⟩ := cg.get default (by decide) i2 dl
    obtain ⟨ch, ci, cj, ck, cl, cm, rfl, fw, fx, fy⟩ := kFeat.op fu
    refine L_pu (P_ia Tryz.underlying26 se26 A1 dm n2 c3 cg.len i2 rfl ft rfl dl) (L_pu (P_lda ag61 sz61 cL (dm.add (i2.toNat * 4)) [vs ((nth s i2).Id), vi ((nth s i2).Shape.Kind), .slice ch ci cj, .slice ck cl cm] rfl rfl fv) (L_lit (kd := kFeat) ei26 ce ([(nth s i2)] : List Feat) (cells := [vs ((nth s i2).Id), vi ((nth s i2).Shape.Kind), .slice ch ci cj, .slice ck cl cm]) ⟨[vs ((nth s i2).Id), vi ((nth s i2).Shape.Kind), .slice ch ci cj, .slice ck cl cm], _, rfl, (kFeat.mk _ _ (nth s i2) fw fx fy), rfl⟩ (fun _ => by kernel_rfl) fun jk fz f0 f1 dn hr271 f2 f3 => ?_))
    obtain ⟨f4, H⟩ := H
    have f5 := (((ar.sn av).sn a4).so _ dn hr271)
    refine L_app ei26 f2 (.slice aa ac ad) xs2 ([(nth s i2)] : List Feat) rfl f5 (.slice fz f0 f1) rfl f3.sx 1 rfl f4 fun jl dp dq dr jm bo cn f6 => ?_
    refine L_as (.slice dp dq dr) rfl (L_nil (W_reg (L_mv (vi i2) rfl ?_)))
    obtain ⟨f7, H⟩ := H
    have f8 : I64 (i2 + 1) := i64_succ (of_decide_eq_true ak) au f7
    refine L_pu (P_add i2 1 rfl rfl f8) (L_as (vi (i2 + 1)) rfl (L_nil ?_))
    have f9 := cn.drop 0 rfl
    obtain ⟨ga, gb⟩ := H
    have bp := ce.stown _ dn hr271
    have bq := cn.std 0 rfl
    have gc := (((cg.st bp).st bo).st bq)
    have gd := (((((ao.st al).st bn).st bp).st bo).st bq)
    have gf := (((((ap.st al).st bn).st bp).st bo).st bq)
    have gg := (cn.sd f6 1 0 rfl rfl rfl)
    have gh := ((((cd.st bn).st bp).st bo).st bq)
    exact ⟨((xs2 ++ ([(nth s i2)] : List Feat)), dp, dq, dr, done2, i2 + 1), gb, ga, (hasI rfl), f9, gc, gd, gf, gg, gh⟩
   have H := ite_f H cf
   refine W_skip (W_reg (L_mv (vi i2) rfl ?_))
   obtain ⟨gi, H⟩ := H
   have gj : I64 (i2 + 1) := i64_succ (of_decide_eq_true ak) au gi
   refine L_pu (P_add i2 1 rfl rfl gj) (L_as (vi (i2 + 1)) rfl (L_nil ?_))
   obtain ⟨gk, gl⟩ := H
   have br := a1.stn a4
   have gm := ((af.st al).st br)
   have gn := ((ao.st al).st br)
   have gp := ((ap.st al).st br)
   have gq := ((ar.sn av).sn a4)
   have gs := (cd.st br)
   exact ⟨(xs2, aa, ac, ad, done2, i2 + 1), gl, gk, (hasI rfl), ce, gm, gn, gp, gq, gs⟩
  have H := ite_f H ab
  refine Q_pb ab rfl (Q_pb ab rfl (Q_pb ab rfl (Q_pb ab rfl (Q_pb ab rfl (Q_pb ab rfl (Q_pb ab rfl (Q_pb ab rfl (Q_pu (P_pick false (vb false) (by exact congrArg Value.bool ab) rfl) ?_))))))))
  refine Q_nil fun gt bs => ?_
  have co := aj.k0 bs
  refine W_cf (b := false) rfl rfl ?_
  refine W_skip (W_seq (W_draw (fun x => Gr gt x none) (by kernel_rfl) (by kernel_rfl) (Gr.drew _) ?_))
  refine Q_mv (.slice A1 n2 c3) rfl (Q_mv (vi i2) rfl ?_)
  obtain ⟨ds, H⟩ := H
  have am := aj.stn bs
  obtain ⟨bt, jn, gu, jo, gv, gw⟩ := (af.st am).get default (by decide) i2 ds
  obtain ⟨jp, jq, jr, js, jt, ju, rfl, jv, jw, jx⟩ := kFeat.op gv
  refine Q_pu (P_ia Tryz.underlying26 se26 A1 bt n2 c3 (af.st am).len i2 rfl gu rfl ds) (Q_pu (P_fa fa61_0 (bt.add (i2.toNat * 4)) ((bt.add (i2.toNat * 4)).add 0) rfl rfl) (Q_pu (P_ld ag9 cQ ((bt.add (i2.toNat * 4)).add 0) (vs ((nth s i2).Id)) rfl (gw 0 _ rfl)) (Q_pu (P_fa fa61_0 ⟨ae, 0, none⟩ ⟨ae, 0, none⟩ rfl rfl) ?_)))
  have cp := (a0.st am)
  refine Q_pu (P_ld ag9 cQ ⟨ae, 0, none⟩ (vs f.Id) rfl (cp.cell rfl)) (Q_pu (P_scmp ((nth s i2).Id) f.Id (((nth s i2).Id) != f.Id) rfl rfl rfl) (Q_nil fun jy a5 => ?_))
  have cq := co.k0 a5
  refine W_cond (((nth s i2).Id) != f.Id) rfl (fun cr => ?_) (fun cr => ?_)
  ·have H := ite_t H cr
   refine W_reg (L_mv (.slice aa ac ad) rfl (L_mv (.slice A1 n2 c3) rfl (L_mv (vi i2) rfl ?_)))
   obtain ⟨dt, H⟩ := H
   have bu := co.stn a5
   have cs := ((af.st am).st bu)
   obtain ⟨du, jz, gx, j0, gy, gz⟩ := cs.get default (by decide) i2 dt
   obtain ⟨ct, cu, cv, cw, cx, cy, rfl, g1, g2, g3⟩ := kFeat.op gy
   refine L_pu (P_ia Tryz.underlying26 se26 A1 du n2 c3 cs.len i2 rfl gx rfl dt) (L_pu (P_lda ag61 sz61 cL (du.add (i2.toNat * 4)) [vs ((nth s i2).Id), vi ((nth s i2).Shape.Kind), .slice ct cu cv, .slice cw cx cy] rfl rfl gz) (L_lit (kd := kFeat) ei26 cq ([(nth s i2)] : List Feat) (cells := [vs ((nth s i2).Id), vi ((nth s i2).Shape.Kind), .slice ct cu cv, .slice cw cx cy]) ⟨[vs ((nth s i2).Id), vi ((nth s i2).Shape.Kind), .slice ct cu cv, .slice cw cx cy], _, rfl, (kFeat.mk _ _ (nth s i2) g1 g2 g3), rfl⟩ (fun _ => by kernel_rfl) fun j1 g4 g5 g6 dv hr362 g7 g8 => ?_))
   obtain ⟨g9, H⟩ := H
   have ha := (((ar.sn bs).sn a5).so _ dv hr362)
   refine L_app ei26 g7 (.slice aa ac ad) xs2 ([(nth s i2)] : List Feat) rfl ha (.slice g4 g5 g6) rfl g8.sx 1 rfl g9 fun j2 dw dx dy j3 bv cz hb => ?_
   refine L_as (.slice dw dx dy) rfl (L_nil (W_reg (L_mv (vi i2) rfl ?_)))
   obtain ⟨hc, H⟩ := H
   have hd : I64 (i2 + 1) := i64_succ (of_decide_eq_true ak) au hc
   refine L_pu (P_add i2 1 rfl rfl hd) (L_as (vi (i2 + 1)) rfl (L_nil ?_))
   have he := cz.drop 0 rfl
   obtain ⟨hf, hg⟩ := H
   have bw := cq.stown _ dv hr362
   have bx := cz.std 0 rfl
   have hh := (((cs.st bw).st bv).st bx)
   have hi := (((((ao.st am).st bu).st bw).st bv).st bx)
   have hj := (((((ap.st am).st bu).st bw).st bv).st bx)
   have hk := (cz.sd hb 1 0 rfl rfl rfl)
   have hl := ((((cp.st bu).st bw).st bv).st bx)
   exact ⟨((xs2 ++ ([(nth s i2)] : List Feat)), dw, dx, dy, done2, i2 + 1), hg, hf, (hasI rfl), he, hh, hi, hj, hk, hl⟩
  have H := ite_f H cr
  refine W_skip (W_reg (L_mv (vi i2) rfl ?_))
  obtain ⟨hm, H⟩ := H
  have hn : I64 (i2 + 1) := i64_succ (of_decide_eq_true ak) au hm
  refine L_pu (P_add i2 1 rfl rfl hn) (L_as (vi (i2 + 1)) rfl (L_nil ?_))
  obtain ⟨ho, hp⟩ := H
  have bz := co.stn a5
  have hq := ((af.st am).st bz)
  have hr := ((ao.st am).st bz)
  have hs := ((ap.st am).st bz)
  have ht := ((ar.sn bs).sn a5)
  have hu := (cp.st bz)
  exact ⟨(xs2, aa, ac, ad, done2, i2 + 1), hp, ho, (hasI rfl), cq, hq, hr, hs, ht, hu⟩
 have H := ite_f H ak
 refine W_exit (xin_hit ?_)
 refine W_seq (W_seq (W_reg (L_mv (vb done2) rfl (L_pu (P_not done2 rfl) (L_nil ?_)))))
 refine W_cond (!done2) rfl (fun c1 => ?_) (fun c1 => ?_)
 ·have H := ite_t H c1
  refine W_reg (L_mv (.slice aa ac ad) rfl (L_pu (P_lda ag61 sz61 cL ⟨ae, 0, none⟩ [vs f.Id, vi f.Shape.Kind, .slice A7 n8 c9, .slice ag ah ai] rfl rfl (a0.cells (off := 0) rfl)) (L_lit (kd := kFeat) ei26 aj ([f] : List Feat) (cells := [vs f.Id, vi f.Shape.Kind, .slice A7 n8 c9, .slice ag ah ai]) ⟨[vs f.Id, vi f.Shape.Kind, .slice A7 n8 c9, .slice ag ah ai], _, rfl, (kFeat.mk _ _ f hs6 ao ap), rfl⟩ (fun _ => by kernel_rfl) fun j4 hv hw hx hy hr405 hz h0 => ?_)))
  obtain ⟨h1, H⟩ := H
  have h2 := (ar.so _ hy hr405)
  refine L_app ei26 hz (.slice aa ac ad) xs2 ([f] : List Feat) rfl h2 (.slice hv hw hx) rfl h0.sx 1 rfl h1 fun j5 a6 a7 a8 j6 j7 dz h3 => ?_
  refine L_as (.slice a6 a7 a8) rfl (L_nil (W_seq (W_reg (L_mv (.slice a6 a7 a8) rfl (L_as (.slice a6 a7 a8) rfl (L_nil (W_ret ?_)))))))
  have c2 := dz.drop 0 rfl
  have h4 := (dz.sd h3 1 0 rfl rfl rfl)
  exact ⟨[.slice a6 a7 a8], ⟨_, rfl, rfl⟩, (xs2 ++ ([f] : List Feat)), a6, a7, a8, rfl, H, c2.gr.g0, c2.ok, c2.ge, h4⟩
 have H := ite_f H c1
 exact W_skip (W_seq (W_reg (L_mv (.slice aa ac ad) rfl (L_as (.slice aa ac ad) rfl (L_nil (W_ret ⟨[.slice aa ac ad], ⟨_, rfl, rfl⟩, xs2, aa, ac, ad, rfl, H, aj.gr.g0, aj.ok, aj.ge, ar⟩))))))
end
section
open Go.RowKit
def F108.E (s : List Feat) (id : Str) (Q : List Feat → Prop) : Prop :=
 (∃ (I40 : (List Feat) → Int → Prop) (mu41 : (List Feat) → Int → Nat), I40 ([] : List Feat) 0 ∧ ∀ (xs2 : List Feat) (i2 : Int), I40 xs2 i2 → (if decide (i2 < (s.length : Int)) then ((0 : Int) ≤ i2 ∧ i2 < (s.length : Int)) ∧ (if ((nth s i2).Id) != id then ((0 : Int) ≤ i2 ∧ i2 < (s.length : Int)) ∧ (xs2.length + ([(nth s i2)] : List Feat).length ≤ 268435456) ∧ (-9223372036854775808 ≤ i2) ∧ I40 (xs2 ++ ([(nth s i2)] : List Feat)) (i2 + 1) ∧ mu41 (xs2 ++ ([(nth s i2)] : List Feat)) (i2 + 1) < mu41 xs2 i2 else (-9223372036854775808 ≤ i2) ∧ I40 xs2 (i2 + 1) ∧ mu41 xs2 (i2 + 1) < mu41 xs2 i2) else Q xs2))
theorem F108.calls {O : Ob} (w0 : World) (hO : Ok w0 O) (s : List Feat) (A1 : Option Addr) (n2 c3 : Nat) (hp4 : Sl kFeat w0 (Fr O) (.slice A1 n2 c3) s) (id : Str) (hs6 : Lim id) (Q : List Feat → Prop) (h : F108.E s id Q) :
  Ret Tryz.prog 27 [.slice A1 n2 c3, vs id] w0 (fun v w' => ∃ (r0 : List Feat) (A0 : Option Addr) (n0 c0 : Nat), v = .slice A0 n0 c0 ∧ Q r0 ∧ Gr w0 w' none ∧ Ok w' ([bk A0] ++ O) ∧ (∀ b, some b ∈ [bk A0] → w0.heap.size ≤ b) ∧ Ow kFeat 61 w' ([bk A0] ++ O) (.slice A0 n0 c0) r0) := by
 unfold F108.E at h
 have H := h
 clear h
 have hc0 := Ct.init hO
 refine Ret_enter Tryz.func27 rfl 29 rfl [.tmp 4] rfl rfl ?_
 refine W_seq (W_reg (L_as (.slice none 0 0) rfl (L_nil (W_seq (W_reg (L_lit (kd := kFeat) ei26 hc0 ([] : List Feat) (cells := []) rfl (fun _ => by kernel_rfl) fun w7 A8 n9 au b5 hr12 av a4 => ?_))))))
 refine L_as (.slice A8 n9 au) rfl (L_nil (W_seq (W_seq (W_reg (L_as (vi 0) rfl (L_nil (W_block ?_)))))))
 obtain ⟨a5, a6, ai, H⟩ := H
 refine W_loop (α := (List Feat) × (Option Addr) × Nat × Nat × Int) (fun (sv__ : (List Feat) × (Option Addr) × Nat × Nat × Int) t ag => match sv__ with | (xs2, aa, ab, ac, i2) => a5 xs2 i2 ∧ Has t [(0, .slice A1 n2 c3), (1, vs id), (5, .slice aa ab ac), (6, vi i2)] ∧ Ct [] w0 ag [bk aa] O ∧ Sl kFeat ag (Fr ([bk aa] ++ O)) (.slice A1 n2 c3) s ∧ Ow kFeat 61 ag ([bk aa] ++ O) (.slice aa ab ac) xs2) (fun (sv__ : (List Feat) × (Option Addr) × Nat × Nat × Int) => match sv__ with | (xs2, _, _, _, i2) => a6 xs2 i2) (([] : List Feat), A8, n9, au, 0) ⟨ai, (hasI rfl), av, (hp4.st av.st), a4⟩ ?_
 rintro ⟨xs2, aa, ab, ac, i2⟩ _ ag ⟨ai, a7, ae, ad, aj⟩
 obtain ⟨b6, rfl⟩ := Has.ins a7
 have H := H xs2 i2 ai
 refine W_seq (W_seq (W_reg (L_mv (vi i2) rfl (L_mv (.slice A1 n2 c3) rfl ?_))))
 have aw := ad.le
 refine L_pu (P_len Tryz.underlying26 A1 n2 c3 ad.len rfl) (L_pu (P_cmp i2 (s.length : Int) (decide (i2 < (s.length : Int))) rfl rfl rfl) (L_nil ?_))
 refine W_cond (decide (i2 < (s.length : Int))) rfl (fun af => ?_) (fun af => ?_)
 ·have H := ite_t H af
  refine W_skip (W_seq (W_block (W_seq (W_reg (L_mv (.slice A1 n2 c3) rfl (L_mv (vi i2) rfl ?_))))))
  obtain ⟨ax, H⟩ := H
  obtain ⟨ah, b7, a8, b8, a9, ba⟩ := ad.get default (by decide) i2 ax
  obtain ⟨b9, ca, cb, cc, cd, ce, rfl, cf, cg, ch⟩ := kFeat.op a9
  refine L_pu (P_ia Tryz.underlying26 se26 A1 ah n2 c3 ad.len i2 rfl a8 rfl ax) (L_pu (P_fa fa61_0 (ah.add (i2.toNat * 4)) ((ah.add (i2.toNat * 4)).add 0) rfl rfl) (L_pu (P_ld ag9 cL ((ah.add (i2.toNat * 4)).add 0) (vs ((nth s i2).Id)) rfl (ba 0 _ rfl)) (L_mv (vs id) rfl (L_pu (P_scmp ((nth s i2).Id) id (((nth s i2).Id) != id) rfl rfl rfl) (L_nil ?_)))))
  refine W_cond (((nth s i2).Id) != id) rfl (fun ak => ?_) (fun ak => ?_)
  ·have H := ite_t H ak
   refine W_reg (L_mv (.slice aa ab ac) rfl (L_mv (.slice A1 n2 c3) rfl (L_mv (vi i2) rfl ?_)))
   obtain ⟨ay, H⟩ := H
   obtain ⟨az, ci, bb, cj, bc, bd⟩ := ad.get default (by decide) i2 ay
   obtain ⟨al, am, an, ao, ap, aq, rfl, be, bf, bg⟩ := kFeat.op bc
   refine L_pu (P_ia Tryz.underlying26 se26 A1 az n2 c3 ad.len i2 rfl bb rfl ay) (L_pu (P_lda ag61 sz61 cL (az.add (i2.toNat * 4)) [vs ((nth s i2).Id), vi ((nth s i2).Shape.Kind), .slice al am an, .slice ao ap aq] rfl rfl bd) (L_lit (kd := kFeat) ei26 ae ([(nth s i2)] : List Feat) (cells := [vs ((nth s i2).Id), vi ((nth s i2).Shape.Kind), .slice al am an, .slice ao ap aq]) ⟨[vs ((nth s i2).Id), vi ((nth s i2).Shape.Kind), .slice al am an, .slice ao ap aq], _, rfl, (kFeat.mk _ _ (nth s i2) be bf bg), rfl⟩ (fun _ => by kernel_rfl) fun ck bh bi bj a0 hr90 bl bm => ?_))
   obtain ⟨bn, H⟩ := H
   have bo := (aj.so _ a0 hr90)
   refine L_app ei26 bl (.slice aa ab ac) xs2 ([(nth s i2)] : List Feat) rfl bo (.slice bh bi bj) rfl bm.sx 1 rfl bn fun cl a1 a2 a3 cm bp ar bq => ?_
   refine L_as (.slice a1 a2 a3) rfl (L_nil (W_reg (L_mv (vi i2) rfl ?_)))
   obtain ⟨br, H⟩ := H
   have bs : I64 (i2 + 1) := i64_succ (of_decide_eq_true af) aw br
   refine L_pu (P_add i2 1 rfl rfl bs) (L_as (vi (i2 + 1)) rfl (L_nil ?_))
   have bt := ar.drop 0 rfl
   obtain ⟨bu, bv⟩ := H
   have bw := ae.stown _ a0 hr90
   have bx := ar.std 0 rfl
   have bz := (((ad.st bw).st bp).st bx)
   have b0 := (ar.sd bq 1 0 rfl rfl rfl)
   exact ⟨((xs2 ++ ([(nth s i2)] : List Feat)), a1, a2, a3, i2 + 1), bv, bu, (hasI rfl), bt, bz, b0⟩
  have H := ite_f H ak
  refine W_skip (W_reg (L_mv (vi i2) rfl ?_))
  obtain ⟨b1, H⟩ := H
  have b2 : I64 (i2 + 1) := i64_succ (of_decide_eq_true af) aw b1
  refine L_pu (P_add i2 1 rfl rfl b2) (L_as (vi (i2 + 1)) rfl (L_nil ?_))
  obtain ⟨b3, b4⟩ := H
  exact ⟨(xs2, aa, ab, ac, i2 + 1), b4, b3, (hasI rfl), ae, ad, aj⟩
 have H := ite_f H af
 refine W_exit (xin_hit ?_)
 exact W_seq (W_reg (L_mv (.slice aa ab ac) rfl (L_as (.slice aa ab ac) rfl (L_nil (W_ret ⟨[.slice aa ab ac], ⟨_, rfl, rfl⟩, xs2, aa, ab, ac, rfl, H, ae.gr.g0, ae.ok, ae.ge, aj⟩)))))
end
section
open Go.RowKit
def F83.E (s : List Feat) (Q : List Feat → Prop) : Prop :=
 (∃ (I39 : (List Feat) → Int → Prop) (mu40 : (List Feat) → Int → Nat), I39 ([] : List Feat) 0 ∧ ∀ (xs2 : List Feat) (i2 : Int), I39 xs2 i2 → (if decide (i2 < (s.length : Int)) then ((0 : Int) ≤ i2 ∧ i2 < (s.length : Int)) ∧ F80.E (nth s i2) (fun r => (xs2.length + ([r] : List Feat).length ≤ 268435456) ∧ (-9223372036854775808 ≤ i2) ∧ I39 (xs2 ++ ([r] : List Feat)) (i2 + 1) ∧ mu40 (xs2 ++ ([r] : List Feat)) (i2 + 1) < mu40 xs2 i2) else Q xs2))
theorem F83.calls {O : Ob} (w0 : World) (hO : Ok w0 O) (s : List Feat) (A1 : Option Addr) (n2 c3 : Nat) (hp4 : Sl kFeat w0 (Fr O) (.slice A1 n2 c3) s) (Q : List Feat → Prop) (h : F83.E s Q) :
  Ret Tryz.prog 28 [.slice A1 n2 c3] w0 (fun v w' => ∃ (r0 : List Feat) (A0 : Option Addr) (n0 c0 : Nat), v = .slice A0 n0 c0 ∧ Q r0 ∧ Gr w0 w' none ∧ Ok w' ([bk A0] ++ O) ∧ (∀ b, some b ∈ [bk A0] → w0.heap.size ≤ b) ∧ Ow kFeat 61 w' ([bk A0] ++ O) (.slice A0 n0 c0) r0) := by
 unfold F83.E at h
 have H := h
 clear h
 have hc0 := Ct.init hO
 refine Ret_enter Tryz.func28 rfl 21 rfl [.tmp 2] rfl rfl ?_
 refine W_seq (W_reg (L_as (.slice none 0 0) rfl (L_nil (W_seq (W_reg (L_lit (kd := kFeat) ei26 hc0 ([] : List Feat) (cells := []) rfl (fun _ => by kernel_rfl) fun w6 A7 n8 c9 cg hr11 aw bb => ?_))))))
 refine L_as (.slice A7 n8 c9) rfl (L_nil (W_seq (W_seq (W_reg (L_as (vi 0) rfl (L_nil (W_block ?_)))))))
 obtain ⟨bc, bd, aj, H⟩ := H
 refine W_loop (α := (List Feat) × (Option Addr) × Nat × Nat × Int) (fun (sv__ : (List Feat) × (Option Addr) × Nat × Nat × Int) t ae => match sv__ with | (xs2, aa, ab, ac, i2) => bc xs2 i2 ∧ Has t [(0, .slice A1 n2 c3), (3, .slice aa ab ac), (4, vi i2)] ∧ Ct [] w0 ae [bk aa] O ∧ Sl kFeat ae (Fr ([bk aa] ++ O)) (.slice A1 n2 c3) s ∧ Ow kFeat 61 ae ([bk aa] ++ O) (.slice aa ab ac) xs2) (fun (sv__ : (List Feat) × (Option Addr) × Nat × Nat × Int) => match sv__ with | (xs2, _, _, _, i2) => bd xs2 i2) (([] : List Feat), A7, n8, c9, 0) ⟨aj, (hasI rfl), aw, (hp4.st aw.st), bb⟩ ?_
 rintro ⟨xs2, aa, ab, ac, i2⟩ _ ae ⟨aj, be, ad, af, ax⟩
 obtain ⟨ch, rfl⟩ := Has.ins be
 have H := H xs2 i2 aj
 refine W_seq (W_seq (W_reg (L_mv (vi i2) rfl (L_mv (.slice A1 n2 c3) rfl ?_))))
 have bf := af.le
 refine L_pu (P_len Tryz.underlying26 A1 n2 c3 af.len rfl) (L_pu (P_cmp i2 (s.length : Int) (decide (i2 < (s.length : Int))) rfl rfl rfl) (L_nil ?_))
 refine W_cond (decide (i2 < (s.length : Int))) rfl (fun ah => ?_) (fun ah => ?_)
 ·have H := ite_t H ah
  refine W_skip (W_seq (W_block (W_reg (L_mv (.slice aa ab ac) rfl (L_mv (.slice A1 n2 c3) rfl (L_mv (vi i2) rfl ?_))))))
  obtain ⟨ay, H⟩ := H
  obtain ⟨az, ci, bg, cj, bh, bi⟩ := af.get default (by decide) i2 ay
  obtain ⟨ak, al, am, an, ao, ap, rfl, bj, bl, bm⟩ := kFeat.op bh
  refine L_pu (P_ia Tryz.underlying26 se26 A1 az n2 c3 af.len i2 rfl bg rfl ay) (L_pu (P_lda ag61 sz61 cL (az.add (i2.toNat * 4)) [vs ((nth s i2).Id), vi ((nth s i2).Shape.Kind), .slice ak al am, .slice an ao ap] rfl rfl bi) ?_)
  refine L_call go61 [.agg #[vs ((nth s i2).Id), vi ((nth s i2).Shape.Kind), .slice ak al am, .slice an ao ap]] rfl ((F80.calls ae ad.ok (nth s i2) ak al am an ao ap bj bl bm _ H).mono ?_)
  rintro _ ck ⟨r, a0, a1, a2, a3, a4, a5, rfl, H, aq, bn, ar, bo, bp, bq⟩
  have ag := ad.owns aq bn ar
  have br := ag.gv bp 0 rfl
  have ai := ag.drop 0 rfl
  have bs := (ag.sd bq 1 0 rfl rfl rfl)
  have bt := ai.gv bs 0 rfl
  have a6 := ai.drop 0 rfl
  have a7 := ai.std 0 rfl
  refine L_lit (kd := kFeat) ei26 a6 ([r] : List Feat) (cells := [vs r.Id, vi r.Shape.Kind, .slice a0 a1 a2, .slice a3 a4 a5]) ⟨[vs r.Id, vi r.Shape.Kind, .slice a0 a1 a2, .slice a3 a4 a5], _, rfl, (kFeat.mk _ _ r bo (br.st a7) bt), rfl⟩ (fun _ => by kernel_rfl) fun cl bu bv bw a8 hr94 bx bz => ?_
  obtain ⟨b0, H⟩ := H
  have b1 := ((ai.sd (ag.sd (ax.sos aq ar) 2 0 rfl rfl rfl) 1 0 rfl rfl rfl).so _ a8 hr94)
  refine L_app ei26 bx (.slice aa ab ac) xs2 ([r] : List Feat) rfl b1 (.slice bu bv bw) rfl bz.sx 1 rfl b0 fun b2 au a9 ba cm b3 av b4 => ?_
  refine L_as (.slice au a9 ba) rfl (L_nil (W_reg (L_mv (vi i2) rfl ?_)))
  obtain ⟨b5, H⟩ := H
  have b6 : I64 (i2 + 1) := i64_succ (of_decide_eq_true ah) bf b5
  refine L_pu (P_add i2 1 rfl rfl b6) (L_as (vi (i2 + 1)) rfl (L_nil ?_))
  have b7 : Ct [] w0 b2 [bk au] O := av.drop 0 rfl
  obtain ⟨b8, b9⟩ := H
  have ca := ad.stos aq ar
  have cb := ag.std 0 rfl
  have cc := a6.stown _ a8 hr94
  have cd := av.std 0 rfl
  have ce := ((((((af.st ca).st cb).st a7).st cc).st b3).st cd)
  have cf := (av.sd b4 1 0 rfl rfl rfl)
  exact ⟨((xs2 ++ ([r] : List Feat)), au, a9, ba, i2 + 1), b9, b8, (hasI rfl), b7, ce, cf⟩
 have H := ite_f H ah
 refine W_exit (xin_hit ?_)
 exact W_seq (W_reg (L_mv (.slice aa ab ac) rfl (L_as (.slice aa ab ac) rfl (L_nil (W_ret ⟨[.slice aa ab ac], ⟨_, rfl, rfl⟩, xs2, aa, ab, ac, rfl, H, ad.gr.g0, ad.ok, ad.ge, ax⟩)))))
end
section
open Go.RowKit
def F84.E (s : List Feat) (d : List Change) (Q : List Feat → Bool → Prop) : Prop :=
 F54.E s (fun r => (if !r then Q ([] : List Feat) false else F77.E d (fun r2 => (if !r2 then Q ([] : List Feat) false else (∃ (I71 : (List Feat) → Int → Prop) (mu72 : (List Feat) → Int → Nat), I71 s 0 ∧ ∀ (out2 : List Feat) (i2 : Int), I71 out2 i2 → (if decide (i2 < (d.length : Int)) then ((0 : Int) ≤ i2 ∧ i2 < (d.length : Int)) ∧ F82.E s (nth d i2) (fun r3 => (if !r3 then Q ([] : List Feat) false else ((0 : Int) ≤ i2 ∧ i2 < (d.length : Int)) ∧ (if (nth d i2).Has then ((0 : Int) ≤ i2 ∧ i2 < (d.length : Int)) ∧ F107.E out2 ((nth d i2).Now) (fun r4 => (-9223372036854775808 ≤ i2) ∧ I71 r4 (i2 + 1) ∧ mu72 r4 (i2 + 1) < mu72 out2 i2) else ((0 : Int) ≤ i2 ∧ i2 < (d.length : Int)) ∧ F108.E out2 ((nth d i2).Id) (fun r5 => (-9223372036854775808 ≤ i2) ∧ I71 r5 (i2 + 1) ∧ mu72 r5 (i2 + 1) < mu72 out2 i2)))) else F54.E out2 (fun r6 => (if !r6 then Q ([] : List Feat) false else F83.E out2 (fun r7 => Q r7 true)))))))))
theorem F84.calls {O : Ob} (w0 : World) (hO : Ok w0 O) (s : List Feat) (A1 : Option Addr) (n2 c3 : Nat) (hp4 : Sl kFeat w0 (Fr O) (.slice A1 n2 c3) s) (d : List Change) (A6 : Option Addr) (n7 c8 : Nat) (hp9 : Sl kChange w0 (Fr O) (.slice A6 n7 c8) d) (Q : List Feat → Bool → Prop) (h : F84.E s d Q) :
  Ret Tryz.prog 7 [.slice A1 n2 c3, .slice A6 n7 c8] w0 (fun v w' => ∃ (r0 : List Feat) (r1 : Bool) (A0 : Option Addr) (n0 c0 : Nat), v = .tuple #[.slice A0 n0 c0, vb r1] ∧ Q r0 r1 ∧ Gr w0 w' none ∧ Ok w' ([bk A0] ++ O) ∧ (∀ b, some b ∈ [bk A0] → w0.heap.size ≤ b) ∧ Ow kFeat 61 w' ([bk A0] ++ O) (.slice A0 n0 c0) r0) := by
 unfold F84.E at h
 have H := h
 clear h
 have hc0 := Ct.init hO
 refine Ret_enter Tryz.func7 rfl 57 rfl [.tmp 4, .tmp 5] rfl rfl ?_
 refine W_seq (W_reg (L_as (.slice none 0 0) rfl (L_as (vb false) rfl (L_nil (W_seq (W_seq (W_reg (L_mv (.slice A1 n2 c3) rfl ?_))))))))
 refine L_call go23 [.slice A1 n2 c3] rfl ((F54.calls w0 hc0.ok s A1 n2 c3 hp4 _ H).mono ?_)
 rintro _ cs ⟨r, rfl, H, ct⟩
 have al := hc0.k0 ct
 refine L_pu (P_not r rfl) (L_mv (vb (!r)) rfl ?_)
 rcases bool_or (!r) with af | af
 ·have H := ite_t H af
  refine L_pb af rfl (L_pb af rfl (L_pb af rfl (L_pu (P_pick true (vb true) (by exact congrArg Value.bool af) rfl) (L_nil (W_ct (b := true) rfl rfl ?_)))))
  refine W_seq (W_reg (L_lit (kd := kFeat) ei26 al ([] : List Feat) (cells := []) rfl (fun _ => by kernel_rfl) fun ej aq ar au ek hr23 av cu => ?_))
  exact L_as (.slice aq ar au) rfl (L_as (vb false) rfl (L_nil (W_ret ⟨[.slice aq ar au, vb false], ⟨_, rfl, ⟨_, rfl, rfl⟩⟩, ([] : List Feat), false, aq, ar, au, rfl, H, av.gr.g0, av.ok, av.ge, cu⟩)))
 have H := ite_f H af
 refine L_rb af rfl (L_mv (.slice A6 n7 c8) rfl (L_rb af rfl ?_))
 refine L_call go24 [.slice A6 n7 c8] rfl ((F77.calls cs al.ok d A6 n7 c8 (hp9.st al.st) _ H).mono ?_)
 rintro _ el ⟨r2, rfl, H, cv⟩
 have aj := al.k0 cv
 refine L_rb af rfl (L_pu (P_not r2 rfl) (L_pu (P_pick false (vb (!r2)) (by exact congrArg Value.bool af) rfl) (L_nil ?_)))
 refine W_cond (!r2) rfl (fun aw => ?_) (fun aw => ?_)
 ·have H := ite_t H aw
  refine W_seq (W_reg (L_lit (kd := kFeat) ei26 aj ([] : List Feat) (cells := []) rfl (fun _ => by kernel_rfl) fun em ax ay az en hr39 a0 cw => ?_))
  exact L_as (.slice ax ay az) rfl (L_as (vb false) rfl (L_nil (W_ret ⟨[.slice ax ay az, vb false], ⟨_, rfl, ⟨_, rfl, rfl⟩⟩, ([] : List Feat), false, ax, ay, az, rfl, H, a0.gr.g0, a0.ok, a0.ge, cw⟩)))
 have H := ite_f H aw
 refine W_skip (W_seq (W_reg (L_mv (.slice A1 n2 c3) rfl (L_as (.slice A1 n2 c3) rfl (L_nil (W_seq (W_seq (W_reg ?_))))))))
 refine L_as (vi 0) rfl (L_nil (W_block ?_))
 obtain ⟨cx, cy, a1, H⟩ := H
 refine W_loop (α := (List Feat) × (Option Addr) × Nat × Nat × Int) (fun (sv__ : (List Feat) × (Option Addr) × Nat × Nat × Int) t ag => match sv__ with | (out2, aa, ab, ac, i2) => cx out2 i2 ∧ Has t [(0, .slice A1 n2 c3), (1, .slice A6 n7 c8), (6, .slice aa ab ac), (7, vi i2)] ∧ Ct [] w0 ag [] O ∧ Sl kFeat ag (Fr ([] ++ O)) (.slice A1 n2 c3) s ∧ Sl kChange ag (Fr ([] ++ O)) (.slice A6 n7 c8) d ∧ Sl kFeat ag (Fr ([] ++ O)) (.slice aa ab ac) out2) (fun (sv__ : (List Feat) × (Option Addr) × Nat × Nat × Int) => match sv__ with | (out2, _, _, _, i2) => cy out2 i2) (s, A1, n2, c3, 0) ⟨a1, (hasI rfl), aj, (hp4.st aj.st), (hp9.st aj.st), (hp4.st aj.st)⟩ ?_
 rintro ⟨out2, aa, ab, ac, i2⟩ _ ag ⟨a1, cz, ai, a2, ad, am⟩
 obtain ⟨eo, rfl⟩ := Has.ins cz
 have H := H out2 i2 a1
 refine W_seq (W_seq (W_reg (L_mv (vi i2) rfl (L_mv (.slice A6 n7 c8) rfl ?_))))
 have b5 := ad.le
 refine L_pu (P_len Tryz.underlying30 A6 n7 c8 ad.len rfl) (L_pu (P_cmp i2 (d.length : Int) (decide (i2 < (d.length : Int))) rfl rfl rfl) (L_nil ?_))
 refine W_cond (decide (i2 < (d.length : Int))) rfl (fun ak => ?_) (fun ak => ?_)
 ·have H := ite_t H ak
  refine W_skip (W_seq (W_block (W_seq (W_seq (W_reg (L_mv (.slice A1 n2 c3) rfl (L_mv (.slice A6 n7 c8) rfl (L_mv (vi i2) rfl ?_))))))))
  obtain ⟨b6, H⟩ := H
  obtain ⟨b7, ep, c1, eq, c2, c4⟩ := ad.get default (by decide) i2 b6
  obtain ⟨a3, a4, a5, a6, a7, a8, a9, ba, bb, bc, bd, be, rfl, c5, c6, c7, c9, da, db, dc⟩ := kChange.op c2
  refine L_pu (P_ia Tryz.underlying30 se30 A6 b7 n7 c8 ad.len i2 rfl c1 rfl b6) (L_pu (P_lda ag63 sz63 cL (b7.add (i2.toNat * 11)) [vs ((nth d i2).Id), vb ((nth d i2).Had), vs ((nth d i2).Was.Id), vi ((nth d i2).Was.Shape.Kind), .slice a3 a4 a5, .slice a6 a7 a8, vb ((nth d i2).Has), vs ((nth d i2).Now.Id), vi ((nth d i2).Now.Shape.Kind), .slice a9 ba bb, .slice bc bd be] rfl rfl c4) ?_)
  refine L_call go25 [.slice A1 n2 c3, .agg #[vs ((nth d i2).Id), vb ((nth d i2).Had), vs ((nth d i2).Was.Id), vi ((nth d i2).Was.Shape.Kind), .slice a3 a4 a5, .slice a6 a7 a8, vb ((nth d i2).Has), vs ((nth d i2).Now.Id), vi ((nth d i2).Now.Shape.Kind), .slice a9 ba bb, .slice bc bd be]] rfl ((F82.calls ag ai.ok s A1 n2 c3 a2 (nth d i2) a3 a4 a5 a6 a7 a8 a9 ba bb bc bd be c5 c6 c7 c9 da db dc _ H).mono ?_)
  rintro _ b8 ⟨r3, rfl, H, b9⟩
  have ah := ai.k0 b9
  refine L_pu (P_not r3 rfl) (L_nil ?_)
  refine W_cond (!r3) rfl (fun bf => ?_) (fun bf => ?_)
  ·have H := ite_t H bf
   refine W_seq (W_reg (L_lit (kd := kFeat) ei26 ah ([] : List Feat) (cells := []) rfl (fun _ => by kernel_rfl) fun er bg bh bi es hr121 bj dd => ?_))
   exact L_as (.slice bg bh bi) rfl (L_as (vb false) rfl (L_nil (W_ret ⟨[.slice bg bh bi, vb false], ⟨_, rfl, ⟨_, rfl, rfl⟩⟩, ([] : List Feat), false, bg, bh, bi, rfl, H, bj.gr.g0, bj.ok, bj.ge, dd⟩)))
  have H := ite_f H bf
  refine W_skip (W_seq (W_reg (L_mv (.slice A6 n7 c8) rfl (L_mv (vi i2) rfl ?_))))
  obtain ⟨ca, H⟩ := H
  have ae := ai.stn b9
  obtain ⟨an, et, de, eu, df, dg⟩ := (ad.st ae).get default (by decide) i2 ca
  obtain ⟨ev, ew, ex, ey, ez, e0, e1, e2, e3, e4, e5, e6, rfl, e7, e8, e9, fa, fb, fc, fd⟩ := kChange.op df
  refine L_pu (P_ia Tryz.underlying30 se30 A6 an n7 c8 (ad.st ae).len i2 rfl de rfl ca) (L_pu (P_fa fa63_3 (an.add (i2.toNat * 11)) ((an.add (i2.toNat * 11)).add 6) rfl rfl) (L_pu (P_ld ag4 cL ((an.add (i2.toNat * 11)).add 6) (vb ((nth d i2).Has)) rfl (dg 6 _ rfl)) (L_nil ?_)))
  refine W_cond ((nth d i2).Has) rfl (fun bl => ?_) (fun bl => ?_)
  ·have H := ite_t H bl
   refine W_reg (L_mv (.slice aa ab ac) rfl (L_mv (.slice A6 n7 c8) rfl (L_mv (vi i2) rfl ?_)))
   obtain ⟨cb, H⟩ := H
   obtain ⟨ao, fe, dh, ff, di, dj⟩ := (ad.st ae).get default (by decide) i2 cb
   obtain ⟨fg, fh, fi, fj, fk, fl, bm, bn, bo, bp, bq, br, rfl, fm, fn, fo, fp, dk, dl, dm⟩ := kChange.op di
   refine L_pu (P_ia Tryz.underlying30 se30 A6 ao n7 c8 (ad.st ae).len i2 rfl dh rfl cb) (L_pu (P_fa fa63_4 (ao.add (i2.toNat * 11)) ((ao.add (i2.toNat * 11)).add 7) rfl rfl) (L_pu (P_lda ag61 sz61 cL ((ao.add (i2.toNat * 11)).add 7) [vs ((nth d i2).Now.Id), vi ((nth d i2).Now.Shape.Kind), .slice bm bn bo, .slice bp bq br] rfl rfl (sub_cells (off := 7) dj rfl)) ?_))
   refine L_call go26 [.slice aa ab ac, .agg #[vs ((nth d i2).Now.Id), vi ((nth d i2).Now.Shape.Kind), .slice bm bn bo, .slice bp bq br]] rfl ((F107.calls b8 ah.ok out2 aa ab ac (am.st ae) ((nth d i2).Now) bm bn bo bp bq br dk dl dm _ H).mono ?_)
   rintro _ fq ⟨r4, cc, cd, ce, rfl, H, cf, dn, cg, dp⟩
   have bs := ah.owns cf dn cg
   refine L_as (.slice cc cd ce) rfl (L_nil (W_reg (L_mv (vi i2) rfl ?_)))
   obtain ⟨dq, H⟩ := H
   have dr : I64 (i2 + 1) := i64_succ (of_decide_eq_true ak) b5 dq
   refine L_pu (P_add i2 1 rfl rfl dr) (L_as (vi (i2 + 1)) rfl (L_nil ?_))
   have ds := bs.gv dp 0 rfl
   have dt := bs.drop 0 rfl
   obtain ⟨du, dv⟩ := H
   have ch := ah.stos cf cg
   have ci := bs.std 0 rfl
   have dw := (((a2.st ae).st ch).st ci)
   have dx := (((ad.st ae).st ch).st ci)
   exact ⟨(r4, cc, cd, ce, i2 + 1), dv, du, (hasI rfl), dt, dw, dx, ds⟩
  have H := ite_f H bl
  refine W_reg (L_mv (.slice aa ab ac) rfl (L_mv (.slice A6 n7 c8) rfl (L_mv (vi i2) rfl ?_)))
  obtain ⟨cj, H⟩ := H
  obtain ⟨ap, fr, dy, fs, dz, d0⟩ := (ad.st ae).get default (by decide) i2 cj
  obtain ⟨ft, fu, fv, fw, fx, fy, fz, f0, f1, f2, f3, f4, rfl, d1, f5, f6, f7, f8, f9, ga⟩ := kChange.op dz
  refine L_pu (P_ia Tryz.underlying30 se30 A6 ap n7 c8 (ad.st ae).len i2 rfl dy rfl cj) (L_pu (P_fa fa63_0 (ap.add (i2.toNat * 11)) ((ap.add (i2.toNat * 11)).add 0) rfl rfl) (L_pu (P_ld ag9 cL ((ap.add (i2.toNat * 11)).add 0) (vs ((nth d i2).Id)) rfl (d0 0 _ rfl)) ?_))
  refine L_call go27 [.slice aa ab ac, vs ((nth d i2).Id)] rfl ((F108.calls b8 ah.ok out2 aa ab ac (am.st ae) ((nth d i2).Id) d1 _ H).mono ?_)
  rintro _ gb ⟨r5, ck, cl, cm, rfl, H, cn, d2, co, d3⟩
  have bt := ah.owns cn d2 co
  refine L_as (.slice ck cl cm) rfl (L_nil (W_reg (L_mv (vi i2) rfl ?_)))
  obtain ⟨d4, H⟩ := H
  have d5 : I64 (i2 + 1) := i64_succ (of_decide_eq_true ak) b5 d4
  refine L_pu (P_add i2 1 rfl rfl d5) (L_as (vi (i2 + 1)) rfl (L_nil ?_))
  have d6 := bt.gv d3 0 rfl
  have d7 := bt.drop 0 rfl
  obtain ⟨d8, d9⟩ := H
  have cp := ah.stos cn co
  have cq := bt.std 0 rfl
  have ea := (((a2.st ae).st cp).st cq)
  have eb := (((ad.st ae).st cp).st cq)
  exact ⟨(r5, ck, cl, cm, i2 + 1), d9, d8, (hasI rfl), d7, ea, eb, d6⟩
 have H := ite_f H ak
 refine W_exit (xin_hit ?_)
 refine W_seq (W_seq (W_reg (L_mv (.slice aa ab ac) rfl ?_)))
 refine L_call go23 [.slice aa ab ac] rfl ((F54.calls ag ai.ok out2 aa ab ac am _ H).mono ?_)
 rintro _ ec ⟨r6, rfl, H, cr⟩
 have bu := ai.k0 cr
 refine L_pu (P_not r6 rfl) (L_nil ?_)
 refine W_cond (!r6) rfl (fun bv => ?_) (fun bv => ?_)
 ·have H := ite_t H bv
  refine W_seq (W_reg (L_lit (kd := kFeat) ei26 bu ([] : List Feat) (cells := []) rfl (fun _ => by kernel_rfl) fun gc bw bx bz gd hr273 b0 ed => ?_))
  exact L_as (.slice bw bx bz) rfl (L_as (vb false) rfl (L_nil (W_ret ⟨[.slice bw bx bz, vb false], ⟨_, rfl, ⟨_, rfl, rfl⟩⟩, ([] : List Feat), false, bw, bx, bz, rfl, H, b0.gr.g0, b0.ok, b0.ge, ed⟩)))
 have H := ite_f H bv
 refine W_skip (W_seq (W_reg (L_mv (.slice aa ab ac) rfl ?_)))
 have ee := ai.stn cr
 refine L_call go28 [.slice aa ab ac] rfl ((F83.calls ec bu.ok out2 aa ab ac (am.st ee) _ H).mono ?_)
 rintro _ gf ⟨r7, b1, b2, b3, rfl, H, ef, eg, eh, ei⟩
 have b4 := bu.owns ef eg eh
 exact L_as (.slice b1 b2 b3) rfl (L_as (vb true) rfl (L_nil (W_ret ⟨[.slice b1 b2 b3, vb true], ⟨_, rfl, ⟨_, rfl, rfl⟩⟩, r7, true, b1, b2, b3, rfl, H, b4.gr.g0, b4.ok, b4.ge, ei⟩)))
end
section
open Go.RowKit
def F85.E (n : Int) (low : Int) (high : Int) (Q : Bool → Prop) : Prop :=
 (if decide (n ≥ low) then Q (decide (n ≤ high)) else Q false)
theorem F85.calls {O : Ob} (w0 : World) (hO : Ok w0 O) (n : Int) (low : Int) (high : Int) (Q : Bool → Prop) (h : F85.E n low high Q) :
  Ret Tryz.prog 99 [vi n, vi low, vi high] w0 (fun v w' => ∃ (r0 : Bool), v = vb r0 ∧ Q r0 ∧ Gr w0 w' none ∧ w' = w0) := by
 unfold F85.E at h
 have H := h
 clear h
 have hc0 := Ct.init hO
 refine Ret_enter Tryz.func99 rfl 15 rfl [.tmp 6] rfl rfl ?_
 refine W_seq (W_reg (L_as (vb false) rfl (L_nil (W_seq (W_reg (L_mv (vi n) rfl (L_mv (vi low) rfl (L_pu (P_cmp n low (decide (n ≥ low)) rfl rfl rfl) ?_))))))))
 refine L_mv (vb (decide (n ≥ low))) rfl ?_
 rcases bool_or (decide (n ≥ low)) with hq1 | hq1
 ·have H := ite_t H hq1
  refine L_rb hq1 rfl (L_mv (vi n) rfl (L_rb hq1 rfl (L_mv (vi high) rfl (L_rb hq1 rfl (L_pu (P_cmp n high (decide (n ≤ high)) rfl rfl rfl) (L_pu (P_pick true (vb (decide (n ≤ high))) (by exact congrArg Value.bool hq1) rfl) (L_as (vb (decide (n ≤ high))) rfl (L_nil ?_))))))))
  exact W_ret ⟨[vb (decide (n ≤ high))], ⟨_, rfl, rfl⟩, decide (n ≤ high), rfl, H, hc0.gr.g0, rfl⟩
 have H := ite_f H hq1
 exact L_pb hq1 rfl (L_pb hq1 rfl (L_pb hq1 rfl (L_pu (P_pick false (vb false) (by exact congrArg Value.bool hq1) rfl) (L_as (vb false) rfl (L_nil (W_ret ⟨[vb false], ⟨_, rfl, rfl⟩, false, rfl, H, hc0.gr.g0, rfl⟩))))))
def F85.m (n : Int) (low : Int) (high : Int) : Bool := (if decide (n ≥ low) then (decide (n ≤ high)) else false)
theorem F85.fn (n : Int) (low : Int) (high : Int) : F85.E n low high (fun r => r = F85.m n low high) := by
 unfold F85.E F85.m
 (repeat' split) <;> simp_all
end
section
open Go.RowKit
def F86.E (s : Str) (Q : Bool → Prop) : Prop :=
 (∃ (I9 : Int → Prop) (mu10 : Int → Nat), I9 0 ∧ ∀ (v2 : Int), I9 v2 → (if decide (v2 < (s.length : Int)) then ((0 : Int) ≤ v2 ∧ v2 < (s.length : Int)) ∧ (if decide (((nth s v2).toNat : Int) < 97) then Q false else ((0 : Int) ≤ v2 ∧ v2 < (s.length : Int)) ∧ (if decide (((nth s v2).toNat : Int) > 122) then Q false else (I64 (v2 + 1)) ∧ I9 (v2 + 1) ∧ mu10 (v2 + 1) < mu10 v2)) else F85.E (s.length : Int) 1 6 (fun r => Q r)))
theorem F86.calls {O : Ob} (w0 : World) (hO : Ok w0 O) (s : Str) (hs1 : Lim s) (Q : Bool → Prop) (h : F86.E s Q) :
  Ret Tryz.prog 65 [vs s] w0 (fun v w' => ∃ (r0 : Bool), v = vb r0 ∧ Q r0 ∧ Gr w0 w' none) := by
 unfold F86.E at h
 have H := h
 clear h
 have hc0 := Ct.init hO
 refine Ret_enter Tryz.func65 rfl 23 rfl [.tmp 2] rfl rfl ?_
 refine W_seq (W_reg (L_as (vb false) rfl (L_nil (W_seq (W_seq (W_reg (L_mv (vs s) rfl ?_)))))))
 have hl2 := hs1
 refine L_pu (P_lens Tryz.underlying9 s rfl) (L_mv (vi 0) rfl (L_nil (W_block ?_)))
 obtain ⟨I9, ae, ab, H⟩ := H
 refine W_loop (α := Int) (fun (sv__ : Int) t w7 => match sv__ with | v2 => I9 v2 ∧ Has t [(0, vs s), (5, vi (s.length : Int)), (6, vi v2)] ∧ Ct [] w0 w7 [] O) (fun (sv__ : Int) => match sv__ with | v2 => ae v2) 0 ⟨ab, (hasI rfl), hc0⟩ ?_
 rintro v2 _ w7 ⟨ab, af, hc8⟩
 obtain ⟨an, rfl⟩ := Has.ins af
 have H := H v2 ab
 refine W_seq (W_reg (L_pu (P_cmp v2 (s.length : Int) (decide (v2 < (s.length : Int))) rfl rfl rfl) (L_nil (W_seq ?_))))
 refine W_cond (decide (v2 < (s.length : Int))) rfl (fun ac => ?_) (fun ac => ?_)
 ·have H := ite_t H ac
  refine W_skip (W_seq (W_block (W_seq (W_reg (L_mv (vi v2) rfl (L_as (vi v2) rfl (L_nil (W_seq ?_))))))))
  refine W_reg (L_mv (vs s) rfl (L_mv (vi v2) rfl ?_))
  obtain ⟨ag, H⟩ := H
  refine L_pu (P_index Tryz.underlying9 s v2 rfl rfl ag) (L_pu (P_cmp ((nth s v2).toNat : Int) 97 (decide (((nth s v2).toNat : Int) < 97)) rfl rfl rfl) (L_mv (vb (decide (((nth s v2).toNat : Int) < 97))) rfl ?_))
  rcases bool_or (decide (((nth s v2).toNat : Int) < 97)) with aa | aa
  ·have H := ite_t H aa
   refine L_pb aa rfl (L_pb aa rfl (L_pb aa rfl (L_pb aa rfl (L_pu (P_pick true (vb true) (by exact congrArg Value.bool aa) rfl) (L_nil (W_ct (b := true) rfl rfl ?_))))))
   exact W_seq (W_reg (L_as (vb false) rfl (L_nil (W_ret ⟨[vb false], ⟨_, rfl, rfl⟩, false, rfl, H, hc8.gr.g0⟩))))
  have H := ite_f H aa
  refine L_rb aa rfl (L_mv (vs s) rfl (L_rb aa rfl (L_mv (vi v2) rfl (L_rb aa rfl ?_))))
  obtain ⟨ah, H⟩ := H
  refine L_pu (P_index Tryz.underlying9 s v2 rfl rfl ah) (L_rb aa rfl (L_pu (P_cmp ((nth s v2).toNat : Int) 122 (decide (((nth s v2).toNat : Int) > 122)) rfl rfl rfl) (L_pu (P_pick false (vb (decide (((nth s v2).toNat : Int) > 122))) (by exact congrArg Value.bool aa) rfl) (L_nil ?_))))
  refine W_cond (decide (((nth s v2).toNat : Int) > 122)) rfl (fun ad => ?_) (fun ad => ?_)
  ·have H := ite_t H ad
   exact W_seq (W_reg (L_as (vb false) rfl (L_nil (W_ret ⟨[vb false], ⟨_, rfl, rfl⟩, false, rfl, H, hc8.gr.g0⟩))))
  have H := ite_f H ad
  refine W_skip (W_reg ?_)
  obtain ⟨ai, H⟩ := H
  refine L_pu (P_add v2 1 rfl rfl ai) (L_mv (vi (v2 + 1)) rfl (L_nil ?_))
  obtain ⟨aj, ak⟩ := H
  exact ⟨v2 + 1, ak, aj, (hasI rfl), hc8⟩
 have H := ite_f H ac
 refine W_exit (xin_hit ?_)
 refine W_seq (W_reg (L_mv (vs s) rfl ?_))
 have ao := hs1
 refine L_pu (P_lens Tryz.underlying9 s rfl) ?_
 refine L_call go99 [vi (s.length : Int), vi 1, vi 6] rfl ((F85.calls w7 hc8.ok (s.length : Int) 1 6 _ H).mono ?_)
 rintro _ ap ⟨r, rfl, H, al, _⟩
 have am := hc8.k0 al
 exact L_as (vb r) rfl (L_nil (W_ret ⟨[vb r], ⟨_, rfl, rfl⟩, r, rfl, H, am.gr.g0⟩))
end
section
open Go.RowKit
def F121.E (p : Pt) (Q : Bool → Prop) : Prop :=
 F85.E p.X (-1000) 1000 (fun r => (if r then F85.E p.Y (-1000) 1000 (fun r2 => Q r2) else Q false))
theorem F121.calls {O : Ob} (w0 : World) (hO : Ok w0 O) (p : Pt) (Q : Bool → Prop) (h : F121.E p Q) :
  Ret Tryz.prog 119 [.agg #[vi p.X, vi p.Y]] w0 (fun v w' => ∃ (r0 : Bool), v = vb r0 ∧ Q r0 ∧ Gr w0 w' none) := by
 unfold F121.E at h
 have H := h
 clear h
 have hc0 := Ct.init hO
 refine Ret_enter Tryz.func119 rfl 11 rfl [.tmp 2] rfl rfl ?_
 refine W_seq (W_reg (L_box [vi p.X, vi p.Y] rfl fun w1 b2 hl4 hu5 g3 hx6 => ?_))
 have h8 := Fb.mk hc0.ok hl4 hx6
 have hc9 := hc0.k0 g3
 refine L_as (vb false) rfl (L_nil (W_seq (W_reg (L_pu (P_fa fa114_0 ⟨b2, 0, none⟩ ⟨b2, 0, none⟩ rfl rfl) (L_pu (P_ld ag3 cL ⟨b2, 0, none⟩ (vi p.X) rfl (h8.cell rfl)) ?_)))))
 refine L_call go99 [vi p.X, vi (-1000), vi 1000] rfl ((F85.calls w1 hc9.ok p.X (-1000) 1000 _ H).mono ?_)
 rintro _ ad ⟨r, rfl, H, ac, _⟩
 have ab := hc9.k0 ac
 refine L_mv (vb r) rfl ?_
 rcases bool_or r with aa | aa
 ·have H := ite_t H aa
  refine L_rb aa rfl (L_pu (P_fa fa114_1 ⟨b2, 0, none⟩ ⟨b2, 1, none⟩ rfl rfl) (L_rb aa rfl ?_))
  have ae := hc9.stn ac
  have af := (h8.st ae)
  refine L_pu (P_ld ag3 cL ⟨b2, 1, none⟩ (vi p.Y) rfl (af.cell rfl)) (L_rb aa rfl ?_)
  refine L_call go99 [vi p.Y, vi (-1000), vi 1000] rfl ((F85.calls ad ab.ok p.Y (-1000) 1000 _ H).mono ?_)
  rintro _ ai ⟨r2, rfl, H, ag, _⟩
  have ah := ab.k0 ag
  exact L_pu (P_pick true (vb r2) (by exact congrArg Value.bool aa) rfl) (L_as (vb r2) rfl (L_nil (W_ret ⟨[vb r2], ⟨_, rfl, rfl⟩, r2, rfl, H, ah.gr.g0⟩)))
 have H := ite_f H aa
 exact L_pb aa rfl (L_pb aa rfl (L_pb aa rfl (L_pu (P_pick false (vb false) (by exact congrArg Value.bool aa) rfl) (L_as (vb false) rfl (L_nil (W_ret ⟨[vb false], ⟨_, rfl, rfl⟩, false, rfl, H, ab.gr.g0⟩))))))
end
section
open Go.RowKit
def F55.E (s : Shape) (Q : Bool → Prop) : Prop :=
 (∃ (I31 : Int → Prop) (mu32 : Int → Nat), I31 0 ∧ ∀ (v2 : Int), I31 v2 → (if decide (v2 < (s.Pts.length : Int)) then ((0 : Int) ≤ v2 ∧ v2 < (s.Pts.length : Int)) ∧ (∃ q : Bool, F121.E (nth s.Pts v2) (fun x => x = q) ∧ (if !q then Q false else (if decide (v2 > 0) then (I64 (v2 - 1)) ∧ ((0 : Int) ≤ v2 - 1 ∧ v2 - 1 < (s.Pts.length : Int)) ∧ (if eqPt (nth s.Pts (v2 - 1)) (nth s.Pts v2) then Q false else (I64 (v2 + 1)) ∧ I31 (v2 + 1) ∧ mu32 (v2 + 1) < mu32 v2) else (I64 (v2 + 1)) ∧ I31 (v2 + 1) ∧ mu32 (v2 + 1) < mu32 v2))) else (if s.Kind == 1 then Q ((s.Pts.length : Int) == 1) else (if s.Kind == 2 then F85.E (s.Pts.length : Int) 2 6 (fun r2 => Q r2) else (if s.Kind == 3 then (if (F85.m (s.Pts.length : Int) 3 6) then ((0 : Int) ≤ 0 ∧ 0 < (s.Pts.length : Int)) ∧ ((s.Pts.length : Int) ≤ 9223372036854775807 → I64 ((s.Pts.length : Int) - 1)) ∧ ((0 : Int) ≤ (s.Pts.length : Int) - 1 ∧ (s.Pts.length : Int) - 1 < (s.Pts.length : Int)) ∧ Q (!(eqPt (nth s.Pts 0) (nth s.Pts ((s.Pts.length : Int) - 1)))) else Q false) else Q false)))))
theorem F55.calls {O : Ob} (w0 : World) (hO : Ok w0 O) (s : Shape) (A1 : Option Addr) (n2 c3 : Nat) (hp4 : Sl kPt w0 (Fr O) (.slice A1 n2 c3) s.Pts) (Q : Bool → Prop) (h : F55.E s Q) :
  Ret Tryz.prog 83 [.agg #[vi s.Kind, .slice A1 n2 c3]] w0 (fun v w' => ∃ (r0 : Bool), v = vb r0 ∧ Q r0 ∧ Gr w0 w' none) := by
 unfold F55.E at h
 have H := h
 clear h
 have hc0 := Ct.init hO
 refine Ret_enter Tryz.func83 rfl 62 rfl [.tmp 2] rfl rfl ?_
 refine W_seq (W_reg (L_box [vi s.Kind, .slice A1 n2 c3] rfl fun w6 b7 hl9 hu10 g8 bl => ?_))
 have ay := Fb.mk hc0.ok hl9 bl
 have ai := hc0.k0 g8
 refine L_as (vb false) rfl (L_nil (W_seq (W_seq (W_reg (L_pu (P_fa fa58_1 ⟨b7, 0, none⟩ ⟨b7, 1, none⟩ rfl rfl) (L_pu (P_ld ag56 cL ⟨b7, 1, none⟩ (.slice A1 n2 c3) rfl (ay.cell rfl)) ?_))))))
 have cw := (hp4.st ai.st).le
 refine L_pu (P_len Tryz.underlying56 A1 n2 c3 (hp4.st ai.st).len rfl) (L_mv (vi 0) rfl (L_nil (W_block ?_)))
 obtain ⟨bm, bn, ak, H⟩ := H
 refine W_loop (α := Int) (fun (sv__ : Int) t af => match sv__ with | v2 => bm v2 ∧ Has t [(1, .pointer (some ⟨b7, 0, none⟩)), (7, .slice A1 n2 c3), (8, vi (s.Pts.length : Int)), (9, vi v2)] ∧ Ct [] w0 af [] O ∧ Sl kPt af (Fr ([] ++ O)) (.slice A1 n2 c3) s.Pts ∧ Fb af ([] ++ O) b7 [vi s.Kind, .slice A1 n2 c3]) (fun (sv__ : Int) => match sv__ with | v2 => bn v2) 0 ⟨ak, (hasI rfl), ai, (hp4.st ai.st), ay⟩ ?_
 rintro v2 _ af ⟨ak, bo, ad, ae, ag⟩
 obtain ⟨cx, rfl⟩ := Has.ins bo
 have H := H v2 ak
 refine W_seq (W_reg (L_pu (P_cmp v2 (s.Pts.length : Int) (decide (v2 < (s.Pts.length : Int))) rfl rfl rfl) (L_nil (W_seq ?_))))
 refine W_cond (decide (v2 < (s.Pts.length : Int))) rfl (fun al => ?_) (fun al => ?_)
 ·have H := ite_t H al
  refine W_skip (W_seq (W_block (W_seq (W_reg (L_mv (vi v2) rfl ?_)))))
  obtain ⟨az, H⟩ := H
  obtain ⟨a0, cy, bp, cz, bq, br⟩ := ae.get default (by decide) v2 az
  obtain rfl := kPt.op bq
  refine L_pu (P_ia Tryz.underlying56 se56 A1 a0 n2 c3 ae.len v2 rfl bp rfl az) (L_pu (P_lda ag114 sz114 cL (a0.add (v2.toNat * 2)) [vi ((nth s.Pts v2).X), vi ((nth s.Pts v2).Y)] rfl rfl br) (L_alloc [.int .i64 0, .int .i64 0] ze114 fun c0 aj am hu49 an bs => ?_))
  have ao := ad.own an (some aj) (oglt am hu49)
  refine L_as (vi v2) rfl (L_stb aj 0 [vi 0, vi 0] [vi ((nth s.Pts v2).X), vi ((nth s.Pts v2).Y)] [vi ((nth s.Pts v2).X), vi ((nth s.Pts v2).Y)] rfl bs rfl sz114 rfl rfl rfl fun bt ap a1 => ?_)
  have ah := ao.wr 0 rfl ap
  refine L_nil (W_seq (W_draw (fun x => Gr bt x none) (by kernel_rfl) (by kernel_rfl) (Gr.drew _) ?_))
  refine Q_pu (P_lda ag114 sz114 cQ ⟨aj, 0, none⟩ [vi ((nth s.Pts v2).X), vi ((nth s.Pts v2).Y)] rfl rfl (a1.cells (off := 0) rfl)) ?_
  obtain ⟨q, bu, H⟩ := H
  refine Q_call go119 [.agg #[vi ((nth s.Pts v2).X), vi ((nth s.Pts v2).Y)]] rfl (vb q) (fun w g => (F121.calls w (ah.k0 g).ok (nth s.Pts v2) _ bu).mono ?_) ?_
  ·rintro _ w ⟨r, rfl, rfl, g2⟩
   exact ⟨rfl, Gr.t0 g g2⟩
  refine Q_pu (P_not q rfl) (Q_mv (vb (!q)) rfl ?_)
  rcases bool_or (!q) with ac | ac
  ·have H := ite_t H ac
   refine Q_pb ac rfl (Q_pb ac rfl (Q_pb ac rfl (Q_pn rfl (Q_pn rfl (Q_pn rfl (Q_pn rfl (Q_pn rfl (Q_pn rfl ?_))))))))
   refine Q_pn rfl (Q_pn rfl (Q_pb ac rfl (Q_pu (P_pick true (vb true) (by exact congrArg Value.bool ac) rfl) (Q_nil fun c1 bv => ?_))))
   have bw := ah.k0 bv
   refine W_ct (b := true) rfl rfl ?_
   refine W_seq (W_reg (L_as (vb false) rfl (L_nil (W_ret ?_))))
   have bx := bw.drop 0 rfl
   exact ⟨[vb false], ⟨_, rfl, rfl⟩, false, rfl, H, bx.gr.g0⟩
  have H := ite_f H ac
  refine Q_rb ac rfl (Q_mv (vi v2) rfl (Q_rb ac rfl (Q_pu (P_cmp v2 0 (decide (v2 > 0)) rfl rfl rfl) (Q_rb ac rfl (Q_mv (vb (decide (v2 > 0))) rfl ?_)))))
  rcases bool_or (decide (v2 > 0)) with ab | ab
  ·have H := ite_t H ab
   refine Q_rb ab rfl (Q_pu (P_fa fa58_1 ⟨b7, 0, none⟩ ⟨b7, 1, none⟩ rfl rfl) (Q_rb ab rfl ?_))
   have a2 := ad.stown _ an (oge am)
   have a3 := ao.stw 0 rfl ap
   have a4 := ((ag.st a2).st a3)
   refine Q_pu (P_ld ag56 cQ ⟨b7, 1, none⟩ (.slice A1 n2 c3) rfl (a4.cell rfl)) (Q_rb ab rfl (Q_mv (vi v2) rfl (Q_rb ab rfl ?_)))
   obtain ⟨bz, H⟩ := H
   refine Q_pu (P_sub v2 1 rfl rfl bz) (Q_rb ab rfl ?_)
   obtain ⟨a5, H⟩ := H
   have aq := ((ae.st a2).st a3)
   obtain ⟨a6, c2, b0, c4, b1, b2⟩ := aq.get default (by decide) (v2 - 1) a5
   obtain rfl := kPt.op b1
   refine Q_pu (P_ia Tryz.underlying56 se56 A1 a6 n2 c3 aq.len (v2 - 1) rfl b0 rfl a5) (Q_rb ab rfl (Q_pu (P_lda ag114 sz114 cQ (a6.add ((v2 - 1).toNat * 2)) [vi ((nth s.Pts (v2 - 1)).X), vi ((nth s.Pts (v2 - 1)).Y)] rfl rfl b2) (Q_rb ab rfl (Q_pu (P_lda ag114 sz114 cQ ⟨aj, 0, none⟩ [vi ((nth s.Pts v2).X), vi ((nth s.Pts v2).Y)] rfl rfl (a1.cells (off := 0) rfl)) (Q_rb ab rfl (Q_pu (P_eq _ _ (eqPt (nth s.Pts (v2 - 1)) (nth s.Pts v2)) (qt114 (nth s.Pts (v2 - 1)) (nth s.Pts v2)) rfl rfl) (Q_rb ac rfl (Q_pu (P_pick true (vb (eqPt (nth s.Pts (v2 - 1)) (nth s.Pts v2))) (by exact congrArg Value.bool ab) rfl) ?_))))))))
   refine Q_pu (P_pick false (vb (eqPt (nth s.Pts (v2 - 1)) (nth s.Pts v2))) (by exact congrArg Value.bool ac) rfl) (Q_nil fun c5 a7 => ?_)
   have ar := ah.k0 a7
   refine W_cond (eqPt (nth s.Pts (v2 - 1)) (nth s.Pts v2)) rfl (fun au => ?_) (fun au => ?_)
   ·have H := ite_t H au
    refine W_seq (W_reg (L_as (vb false) rfl (L_nil (W_ret ?_))))
    have b3 := ar.drop 0 rfl
    exact ⟨[vb false], ⟨_, rfl, rfl⟩, false, rfl, H, b3.gr.g0⟩
   have H := ite_f H au
   refine W_skip (W_reg ?_)
   obtain ⟨b4, H⟩ := H
   refine L_pu (P_add v2 1 rfl rfl b4) (L_mv (vi (v2 + 1)) rfl (L_nil ?_))
   have b5 := ar.drop 0 rfl
   obtain ⟨b6, b8⟩ := H
   have a8 := ah.stn a7
   have a9 := ar.std 0 rfl
   have b9 := ((aq.st a8).st a9)
   have ca := ((a4.st a8).st a9)
   exact ⟨v2 + 1, b8, b6, (hasI rfl), b5, b9, ca⟩
  have H := ite_f H ab
  refine Q_pb ab rfl (Q_pb ab rfl (Q_pb ab rfl (Q_pb ab rfl (Q_pb ab rfl (Q_pb ab rfl (Q_pb ab rfl (Q_pb ab rfl (Q_rb ac rfl ?_))))))))
  refine Q_pu (P_pick false (vb false) (by exact congrArg Value.bool ab) rfl) (Q_pu (P_pick false (vb false) (by exact congrArg Value.bool ac) rfl) (Q_nil fun c6 ba => ?_))
  have bb := ah.k0 ba
  refine W_cf (b := false) rfl rfl ?_
  refine W_skip (W_reg ?_)
  obtain ⟨cb, H⟩ := H
  refine L_pu (P_add v2 1 rfl rfl cb) (L_mv (vi (v2 + 1)) rfl (L_nil ?_))
  have cc := bb.drop 0 rfl
  obtain ⟨cd, ce⟩ := H
  have bc := ad.stown _ an (oge am)
  have bd := ao.stw 0 rfl ap
  have be := ah.stn ba
  have bf := bb.std 0 rfl
  have cf := ((((ae.st bc).st bd).st be).st bf)
  have cg := ((((ag.st bc).st bd).st be).st bf)
  exact ⟨v2 + 1, ce, cd, (hasI rfl), cc, cf, cg⟩
 have H := ite_f H al
 refine W_exit (xin_hit ?_)
 refine W_seq (W_reg (L_pu (P_fa fa58_1 ⟨b7, 0, none⟩ ⟨b7, 1, none⟩ rfl rfl) (L_pu (P_ld ag56 cL ⟨b7, 1, none⟩ (.slice A1 n2 c3) rfl (ag.cell rfl)) ?_)))
 have ch := ae.le
 refine L_pu (P_len Tryz.underlying56 A1 n2 c3 ae.len rfl) (L_as (vi (s.Pts.length : Int)) rfl (L_nil (W_seq (W_seq (W_reg (L_pu (P_fa fa58_0 ⟨b7, 0, none⟩ ⟨b7, 0, none⟩ rfl rfl) (L_pu (P_ld ag3 cL ⟨b7, 0, none⟩ (vi s.Kind) rfl (ag.cell rfl)) (L_nil ?_))))))))
 refine W_block (W_seq (W_reg (L_pu (P_cmp s.Kind 1 (s.Kind == 1) rfl rfl rfl) (L_as (vb (s.Kind == 1)) rfl (L_nil ?_)))))
 refine W_cond (s.Kind == 1) rfl (fun av => ?_) (fun av => ?_)
 ·have H := ite_t H av
  exact W_seq (W_reg (L_mv (vi (s.Pts.length : Int)) rfl (L_pu (P_cmp (s.Pts.length : Int) 1 ((s.Pts.length : Int) == 1) rfl rfl rfl) (L_as (vb ((s.Pts.length : Int) == 1)) rfl (L_nil (W_ret ⟨[vb ((s.Pts.length : Int) == 1)], ⟨_, rfl, rfl⟩, (s.Pts.length : Int) == 1, rfl, H, ad.gr.g0⟩))))))
 have H := ite_f H av
 refine W_seq (W_reg (L_pu (P_cmp s.Kind 2 (s.Kind == 2) rfl rfl rfl) (L_as (vb (s.Kind == 2)) rfl (L_nil ?_))))
 refine W_cond (s.Kind == 2) rfl (fun aw => ?_) (fun aw => ?_)
 ·have H := ite_t H aw
  refine W_seq (W_reg (L_mv (vi (s.Pts.length : Int)) rfl ?_))
  refine L_call go99 [vi (s.Pts.length : Int), vi 2, vi 6] rfl ((F85.calls af ad.ok (s.Pts.length : Int) 2 6 _ H).mono ?_)
  rintro _ c7 ⟨r2, rfl, H, ci, _⟩
  have cj := ad.k0 ci
  exact L_as (vb r2) rfl (L_nil (W_ret ⟨[vb r2], ⟨_, rfl, rfl⟩, r2, rfl, H, cj.gr.g0⟩))
 have H := ite_f H aw
 refine W_seq (W_reg (L_pu (P_cmp s.Kind 3 (s.Kind == 3) rfl rfl rfl) (L_as (vb (s.Kind == 3)) rfl (L_nil ?_))))
 refine W_cond (s.Kind == 3) rfl (fun ax => ?_) (fun ax => ?_)
 ·have H := ite_t H ax
  refine W_seq (W_draw (fun x => Gr af x none) (by kernel_rfl) (by kernel_rfl) (Gr.drew _) ?_)
  refine Q_mv (vi (s.Pts.length : Int)) rfl ?_
  refine Q_call go99 [vi (s.Pts.length : Int), vi 3, vi 6] rfl (vb (F85.m (s.Pts.length : Int) 3 6)) (fun w g => (F85.calls w (ad.k0 g).ok (s.Pts.length : Int) 3 6 _ (F85.fn (s.Pts.length : Int) 3 6)).mono ?_) ?_
  ·rintro _ w ⟨r, rfl, rfl, g2, _⟩
   exact ⟨rfl, Gr.t0 g g2⟩
  refine Q_mv (vb (F85.m (s.Pts.length : Int) 3 6)) rfl ?_
  rcases bool_or (F85.m (s.Pts.length : Int) 3 6) with aa | aa
  ·have H := ite_t H aa
   refine Q_rb aa rfl (Q_pu (P_fa fa58_1 ⟨b7, 0, none⟩ ⟨b7, 1, none⟩ rfl rfl) (Q_rb aa rfl (Q_pu (P_ld ag56 cQ ⟨b7, 1, none⟩ (.slice A1 n2 c3) rfl (ag.cell rfl)) (Q_rb aa rfl ?_))))
   obtain ⟨bg, H⟩ := H
   obtain ⟨bh, c8, ck, c9, cl, cm⟩ := ae.get default (by decide) 0 bg
   obtain rfl := kPt.op cl
   refine Q_pu (P_ia Tryz.underlying56 se56 A1 bh n2 c3 ae.len 0 rfl ck rfl bg) (Q_rb aa rfl (Q_pu (P_lda ag114 sz114 cQ (bh.add ((0 : Int).toNat * 2)) [vi ((nth s.Pts 0).X), vi ((nth s.Pts 0).Y)] rfl rfl cm) (Q_rb aa rfl (Q_pu (P_fa fa58_1 ⟨b7, 0, none⟩ ⟨b7, 1, none⟩ rfl rfl) (Q_rb aa rfl (Q_pu (P_ld ag56 cQ ⟨b7, 1, none⟩ (.slice A1 n2 c3) rfl (ag.cell rfl)) (Q_rb aa rfl (Q_mv (vi (s.Pts.length : Int)) rfl ?_))))))))
   refine Q_rb aa rfl ?_
   obtain ⟨cn, H⟩ := H
   have co := cn (len_le ch)
   refine Q_pu (P_sub (s.Pts.length : Int) 1 rfl rfl co) (Q_rb aa rfl ?_)
   obtain ⟨bi, H⟩ := H
   obtain ⟨bj, da, cp, db, cq, cr⟩ := ae.get default (by decide) ((s.Pts.length : Int) - 1) bi
   obtain rfl := kPt.op cq
   refine Q_pu (P_ia Tryz.underlying56 se56 A1 bj n2 c3 ae.len ((s.Pts.length : Int) - 1) rfl cp rfl bi) (Q_rb aa rfl (Q_pu (P_lda ag114 sz114 cQ (bj.add (((s.Pts.length : Int) - 1).toNat * 2)) [vi ((nth s.Pts ((s.Pts.length : Int) - 1)).X), vi ((nth s.Pts ((s.Pts.length : Int) - 1)).Y)] rfl rfl cr) (Q_rb aa rfl (Q_pu (P_ne _ _ (eqPt (nth s.Pts 0) (nth s.Pts ((s.Pts.length : Int) - 1))) (qt114 (nth s.Pts 0) (nth s.Pts ((s.Pts.length : Int) - 1))) rfl rfl) (Q_pu (P_pick true (vb (!(eqPt (nth s.Pts 0) (nth s.Pts ((s.Pts.length : Int) - 1))))) (by exact congrArg Value.bool aa) rfl) (Q_as (vb (!(eqPt (nth s.Pts 0) (nth s.Pts ((s.Pts.length : Int) - 1))))) rfl (Q_nil fun dc cs => ?_)))))))
   have ct := ad.k0 cs
   exact W_ret ⟨[vb (!(eqPt (nth s.Pts 0) (nth s.Pts ((s.Pts.length : Int) - 1))))], ⟨_, rfl, rfl⟩, !(eqPt (nth s.Pts 0) (nth s.Pts ((s.Pts.length : Int) - 1))), rfl, H, ct.gr.g0⟩
  have H := ite_f H aa
  refine Q_pb aa rfl (Q_pb aa rfl (Q_pb aa rfl (Q_pb aa rfl (Q_pb aa rfl (Q_pb aa rfl (Q_pb aa rfl (Q_pb aa rfl (Q_pb aa rfl ?_))))))))
  refine Q_pb aa rfl (Q_pb aa rfl (Q_pu (P_pick false (vb false) (by exact congrArg Value.bool aa) rfl) (Q_as (vb false) rfl (Q_nil fun dd cu => ?_))))
  have cv := ad.k0 cu
  exact W_ret ⟨[vb false], ⟨_, rfl, rfl⟩, false, rfl, H, cv.gr.g0⟩
 have H := ite_f H ax
 exact W_skip (W_seq (W_reg (L_as (vb false) rfl (L_nil (W_ret ⟨[vb false], ⟨_, rfl, rfl⟩, false, rfl, H, ad.gr.g0⟩)))))
end
section
open Go.RowKit
def F87.E (f : Feat) (Q : Bool → Prop) : Prop :=
 (∃ (I43 : Int → Prop) (mu44 : Int → Nat), I43 0 ∧ ∀ (v2 : Int), I43 v2 → (if decide (v2 < (f.Tags.length : Int)) then ((0 : Int) ≤ v2 ∧ v2 < (f.Tags.length : Int)) ∧ (∃ q : Bool, F86.E ((nth f.Tags v2).Key) (fun x => x = q) ∧ (if !q then Q false else (∃ q2 : Bool, F86.E ((nth f.Tags v2).Val) (fun x => x = q2) ∧ (if !q2 then Q false else (if decide (v2 > 0) then (I64 (v2 - 1)) ∧ ((0 : Int) ≤ v2 - 1 ∧ v2 - 1 < (f.Tags.length : Int)) ∧ (if !(Op.bytesLess ((nth f.Tags (v2 - 1)).Key) ((nth f.Tags v2).Key)) then Q false else (I64 (v2 + 1)) ∧ I43 (v2 + 1) ∧ mu44 (v2 + 1) < mu44 v2) else (I64 (v2 + 1)) ∧ I43 (v2 + 1) ∧ mu44 (v2 + 1) < mu44 v2))))) else F86.E f.Id (fun r3 => (if r3 then F55.E f.Shape (fun r4 => (if r4 then Q (decide ((f.Tags.length : Int) ≤ 4)) else Q false)) else Q false))))
theorem F87.calls {O : Ob} (w0 : World) (hO : Ok w0 O) (f : Feat) (A2 : Option Addr) (n3 c4 : Nat) (A7 : Option Addr) (n8 c9 : Nat) (hs1 : Lim f.Id) (hp5 : Sl kPt w0 (Fr O) (.slice A2 n3 c4) f.Shape.Pts) (ap : Sl kTag w0 (Fr O) (.slice A7 n8 c9) f.Tags) (Q : Bool → Prop) (h : F87.E f Q) :
  Ret Tryz.prog 64 [.agg #[vs f.Id, vi f.Shape.Kind, .slice A2 n3 c4, .slice A7 n8 c9]] w0 (fun v w' => ∃ (r0 : Bool), v = vb r0 ∧ Q r0 ∧ Gr w0 w' none) := by
 unfold F87.E at h
 have H := h
 clear h
 have hc0 := Ct.init hO
 refine Ret_enter Tryz.func64 rfl 54 rfl [.tmp 2] rfl rfl ?_
 refine W_seq (W_reg (L_box [vs f.Id, vi f.Shape.Kind, .slice A2 n3 c4, .slice A7 n8 c9] rfl fun cy ab br hu16 bs bt => ?_))
 have bc := Fb.mk hc0.ok br bt
 have ak := hc0.k0 bs
 refine L_as (vb false) rfl (L_nil (W_seq (W_seq (W_reg (L_pu (P_fa fa61_2 ⟨ab, 0, none⟩ ⟨ab, 3, none⟩ rfl rfl) (L_pu (P_ld ag59 cL ⟨ab, 3, none⟩ (.slice A7 n8 c9) rfl (bc.cell rfl)) ?_))))))
 have cz := (ap.st ak.st).le
 refine L_pu (P_len Tryz.underlying59 A7 n8 c9 (ap.st ak.st).len rfl) (L_mv (vi 0) rfl (L_nil (W_block ?_)))
 obtain ⟨bu, bv, aq, H⟩ := H
 refine W_loop (α := Int) (fun (sv__ : Int) t ai => match sv__ with | v2 => bu v2 ∧ Has t [(1, .pointer (some ⟨ab, 0, none⟩)), (6, .slice A7 n8 c9), (7, vi (f.Tags.length : Int)), (8, vi v2)] ∧ Ct [] w0 ai [] O ∧ Sl kTag ai (Fr ([] ++ O)) (.slice A7 n8 c9) f.Tags ∧ Sl kPt ai (Fr ([] ++ O)) (.slice A2 n3 c4) f.Shape.Pts ∧ Fb ai ([] ++ O) ab [vs f.Id, vi f.Shape.Kind, .slice A2 n3 c4, .slice A7 n8 c9]) (fun (sv__ : Int) => match sv__ with | v2 => bv v2) 0 ⟨aq, (hasI rfl), ak, (ap.st ak.st), (hp5.st ak.st), bc⟩ ?_
 rintro v2 _ ai ⟨aq, bw, aj, al, ar, am⟩
 obtain ⟨c0, rfl⟩ := Has.ins bw
 have H := H v2 aq
 refine W_seq (W_reg (L_pu (P_cmp v2 (f.Tags.length : Int) (decide (v2 < (f.Tags.length : Int))) rfl rfl rfl) (L_nil (W_seq ?_))))
 refine W_cond (decide (v2 < (f.Tags.length : Int))) rfl (fun au => ?_) (fun au => ?_)
 ·have H := ite_t H au
  refine W_skip (W_seq (W_block (W_seq (W_reg (L_mv (vi v2) rfl ?_)))))
  obtain ⟨bd, H⟩ := H
  obtain ⟨be, c1, bx, c2, bz, b0⟩ := al.get default (by decide) v2 bd
  obtain ⟨rfl, b1, b2⟩ := kTag.op bz
  refine L_pu (P_ia Tryz.underlying59 se59 A7 be n8 c9 al.len v2 rfl bx rfl bd) (L_pu (P_lda ag106 sz106 cL (be.add (v2.toNat * 2)) [vs ((nth f.Tags v2).Key), vs ((nth f.Tags v2).Val)] rfl rfl b0) (L_alloc [vs [], vs []] ze106 fun c3 af av hu63 aw b3 => ?_))
  have ax := aj.own aw (some af) (oglt av hu63)
  refine L_as (vi v2) rfl (L_stb af 0 [vs ([] : Str), vs ([] : Str)] [vs ((nth f.Tags v2).Key), vs ((nth f.Tags v2).Val)] [vs ((nth f.Tags v2).Key), vs ((nth f.Tags v2).Val)] rfl b3 rfl sz106 rfl rfl rfl fun b4 ay az => ?_)
  have ah := ax.wr 0 rfl ay
  refine L_nil (W_seq (W_draw (fun x => Gr b4 x none) (by kernel_rfl) (by kernel_rfl) (Gr.drew _) ?_))
  refine Q_pu (P_fa fa106_0 ⟨af, 0, none⟩ ⟨af, 0, none⟩ rfl rfl) (Q_pu (P_ld ag9 cQ ⟨af, 0, none⟩ (vs ((nth f.Tags v2).Key)) rfl (az.cell rfl)) ?_)
  obtain ⟨q, b5, H⟩ := H
  refine Q_call go65 [vs ((nth f.Tags v2).Key)] rfl (vb q) (fun w g => (F86.calls w (ah.k0 g).ok ((nth f.Tags v2).Key) b1 _ b5).mono ?_) ?_
  ·rintro _ w ⟨r, rfl, rfl, g2⟩
   exact ⟨rfl, Gr.t0 g g2⟩
  refine Q_pu (P_not q rfl) (Q_mv (vb (!q)) rfl ?_)
  rcases bool_or (!q) with ad | ad
  ·have H := ite_t H ad
   refine Q_pb ad rfl (Q_pb ad rfl (Q_pb ad rfl (Q_pb ad rfl (Q_pu (P_pick true (vb true) (by exact congrArg Value.bool ad) rfl) (Q_mv (vb true) rfl (Q_pass (dj := 23) rfl rfl (.inl rfl) (Q_pass (dj := 23) rfl rfl (.inl rfl) (Q_pass (dj := 23) rfl rfl (.inl rfl) ?_))))))))
   refine Q_pn rfl (Q_pn rfl (Q_pn rfl (Q_pn rfl (Q_pn rfl (Q_pn rfl (Q_pn rfl (Q_pn rfl (Q_pn rfl ?_))))))))
   refine Q_pn rfl (Q_pass (dj := 23) rfl rfl (.inl rfl) (Q_pu (P_pick true (vb true) (by exact congrArg Value.bool rfl) rfl) (Q_nil fun c5 b6 => ?_)))
   have b7 := ah.k0 b6
   refine W_ct (b := true) rfl rfl ?_
   refine W_seq (W_reg (L_as (vb false) rfl (L_nil (W_ret ?_))))
   have b8 := b7.drop 0 rfl
   exact ⟨[vb false], ⟨_, rfl, rfl⟩, false, rfl, H, b8.gr.g0⟩
  have H := ite_f H ad
  refine Q_rb ad rfl (Q_pu (P_fa fa106_1 ⟨af, 0, none⟩ ⟨af, 1, none⟩ rfl rfl) (Q_rb ad rfl (Q_pu (P_ld ag9 cQ ⟨af, 1, none⟩ (vs ((nth f.Tags v2).Val)) rfl (az.cell rfl)) (Q_rb ad rfl ?_))))
  obtain ⟨q2, b9, H⟩ := H
  refine Q_call go65 [vs ((nth f.Tags v2).Val)] rfl (vb q2) (fun w g => (F86.calls w (ah.k0 g).ok ((nth f.Tags v2).Val) b2 _ b9).mono ?_) ?_
  ·rintro _ w ⟨r, rfl, rfl, g2⟩
   exact ⟨rfl, Gr.t0 g g2⟩
  refine Q_rb ad rfl (Q_pu (P_not q2 rfl) (Q_pu (P_pick false (vb (!q2)) (by exact congrArg Value.bool ad) rfl) (Q_mv (vb (!q2)) rfl ?_)))
  rcases bool_or (!q2) with ac | ac
  ·have H := ite_t H ac
   refine Q_pb ac rfl (Q_pb ac rfl (Q_pb ac rfl (Q_pn rfl (Q_pn rfl (Q_pn rfl (Q_pn rfl (Q_pn rfl (Q_pn rfl ?_))))))))
   refine Q_pn rfl (Q_pn rfl (Q_pn rfl (Q_pn rfl (Q_pb ac rfl (Q_pu (P_pick true (vb true) (by exact congrArg Value.bool ac) rfl) (Q_nil fun c6 ca => ?_))))))
   have cb := ah.k0 ca
   refine W_ct (b := true) rfl rfl ?_
   refine W_seq (W_reg (L_as (vb false) rfl (L_nil (W_ret ?_))))
   have cc := cb.drop 0 rfl
   exact ⟨[vb false], ⟨_, rfl, rfl⟩, false, rfl, H, cc.gr.g0⟩
  have H := ite_f H ac
  refine Q_rb ac rfl (Q_mv (vi v2) rfl (Q_rb ac rfl (Q_pu (P_cmp v2 0 (decide (v2 > 0)) rfl rfl rfl) (Q_rb ac rfl (Q_mv (vb (decide (v2 > 0))) rfl ?_)))))
  rcases bool_or (decide (v2 > 0)) with aa | aa
  ·have H := ite_t H aa
   refine Q_rb aa rfl (Q_pu (P_fa fa61_2 ⟨ab, 0, none⟩ ⟨ab, 3, none⟩ rfl rfl) (Q_rb aa rfl ?_))
   have a0 := aj.stown _ aw (oge av)
   have a1 := ax.stw 0 rfl ay
   have bf := ((am.st a0).st a1)
   refine Q_pu (P_ld ag59 cQ ⟨ab, 3, none⟩ (.slice A7 n8 c9) rfl (bf.cell rfl)) (Q_rb aa rfl (Q_mv (vi v2) rfl (Q_rb aa rfl ?_)))
   obtain ⟨cd, H⟩ := H
   refine Q_pu (P_sub v2 1 rfl rfl cd) (Q_rb aa rfl ?_)
   obtain ⟨bg, H⟩ := H
   have a2 := ((al.st a0).st a1)
   obtain ⟨an, c7, ce, c8, cf, cg⟩ := a2.get default (by decide) (v2 - 1) bg
   obtain ⟨rfl, da, db⟩ := kTag.op cf
   refine Q_pu (P_ia Tryz.underlying59 se59 A7 an n8 c9 a2.len (v2 - 1) rfl ce rfl bg) (Q_rb aa rfl (Q_pu (P_fa fa106_0 (an.add ((v2 - 1).toNat * 2)) ((an.add ((v2 - 1).toNat * 2)).add 0) rfl rfl) (Q_rb aa rfl (Q_pu (P_ld ag9 cQ ((an.add ((v2 - 1).toNat * 2)).add 0) (vs ((nth f.Tags (v2 - 1)).Key)) rfl (cg 0 _ rfl)) (Q_rb aa rfl (Q_pu (P_fa fa106_0 ⟨af, 0, none⟩ ⟨af, 0, none⟩ rfl rfl) (Q_rb aa rfl (Q_pu (P_ld ag9 cQ ⟨af, 0, none⟩ (vs ((nth f.Tags v2).Key)) rfl (az.cell rfl)) ?_))))))))
   refine Q_rb aa rfl (Q_pu (P_scmp ((nth f.Tags (v2 - 1)).Key) ((nth f.Tags v2).Key) (!(Op.bytesLess ((nth f.Tags (v2 - 1)).Key) ((nth f.Tags v2).Key))) rfl rfl rfl) (Q_rb ac rfl (Q_pu (P_pick true (vb (!(Op.bytesLess ((nth f.Tags (v2 - 1)).Key) ((nth f.Tags v2).Key)))) (by exact congrArg Value.bool aa) rfl) (Q_pu (P_pick false (vb (!(Op.bytesLess ((nth f.Tags (v2 - 1)).Key) ((nth f.Tags v2).Key)))) (by exact congrArg Value.bool ac) rfl) (Q_nil fun dc bh => ?_)))))
   have a3 := ah.k0 bh
   refine W_cond (!(Op.bytesLess ((nth f.Tags (v2 - 1)).Key) ((nth f.Tags v2).Key))) rfl (fun a4 => ?_) (fun a4 => ?_)
   ·have H := ite_t H a4
    refine W_seq (W_reg (L_as (vb false) rfl (L_nil (W_ret ?_))))
    have ch := a3.drop 0 rfl
    exact ⟨[vb false], ⟨_, rfl, rfl⟩, false, rfl, H, ch.gr.g0⟩
   have H := ite_f H a4
   refine W_skip (W_reg ?_)
   obtain ⟨ci, H⟩ := H
   refine L_pu (P_add v2 1 rfl rfl ci) (L_mv (vi (v2 + 1)) rfl (L_nil ?_))
   have cj := a3.drop 0 rfl
   obtain ⟨ck, cl⟩ := H
   have a5 := ah.stn bh
   have a6 := a3.std 0 rfl
   have cm := ((a2.st a5).st a6)
   have cn := ((((ar.st a0).st a1).st a5).st a6)
   have co := ((bf.st a5).st a6)
   exact ⟨v2 + 1, cl, ck, (hasI rfl), cj, cm, cn, co⟩
  have H := ite_f H aa
  refine Q_pb aa rfl (Q_pb aa rfl (Q_pb aa rfl (Q_pb aa rfl (Q_pb aa rfl (Q_pb aa rfl (Q_pb aa rfl (Q_pb aa rfl (Q_pb aa rfl ?_))))))))
  refine Q_pb aa rfl (Q_rb ac rfl (Q_pu (P_pick false (vb false) (by exact congrArg Value.bool aa) rfl) (Q_pu (P_pick false (vb false) (by exact congrArg Value.bool ac) rfl) (Q_nil fun dd bi => ?_))))
  have bj := ah.k0 bi
  refine W_cf (b := false) rfl rfl ?_
  refine W_skip (W_reg ?_)
  obtain ⟨cp, H⟩ := H
  refine L_pu (P_add v2 1 rfl rfl cp) (L_mv (vi (v2 + 1)) rfl (L_nil ?_))
  have cq := bj.drop 0 rfl
  obtain ⟨cr, cs⟩ := H
  have a7 := aj.stown _ aw (oge av)
  have a8 := ax.stw 0 rfl ay
  have a9 := ah.stn bi
  have ba := bj.std 0 rfl
  have ct := ((((al.st a7).st a8).st a9).st ba)
  have cu := ((((ar.st a7).st a8).st a9).st ba)
  have cv := ((((am.st a7).st a8).st a9).st ba)
  exact ⟨v2 + 1, cs, cr, (hasI rfl), cq, ct, cu, cv⟩
 have H := ite_f H au
 refine W_exit (xin_hit ?_)
 refine W_seq (W_reg (L_pu (P_fa fa61_0 ⟨ab, 0, none⟩ ⟨ab, 0, none⟩ rfl rfl) (L_pu (P_ld ag9 cL ⟨ab, 0, none⟩ (vs f.Id) rfl (am.cell rfl)) ?_)))
 refine L_call go65 [vs f.Id] rfl ((F86.calls ai aj.ok f.Id hs1 _ H).mono ?_)
 rintro _ cw ⟨r3, rfl, H, bl⟩
 have ao := aj.k0 bl
 refine L_mv (vb r3) rfl ?_
 rcases bool_or r3 with ag | ag
 ·have H := ite_t H ag
  refine L_rb ag rfl (L_pu (P_fa fa61_1 ⟨ab, 0, none⟩ ⟨ab, 1, none⟩ rfl rfl) (L_rb ag rfl ?_))
  have bb := aj.stn bl
  have bm := (am.st bb)
  refine L_pu (P_lda ag58 sz58 cL ⟨ab, 1, none⟩ [vi f.Shape.Kind, .slice A2 n3 c4] rfl rfl (bm.cells (off := 1) rfl)) (L_rb ag rfl ?_)
  refine L_call go83 [.agg #[vi f.Shape.Kind, .slice A2 n3 c4]] rfl ((F55.calls cw ao.ok f.Shape A2 n3 c4 (ar.st bb) _ H).mono ?_)
  rintro _ de ⟨r4, rfl, H, bn⟩
  have bo := ao.k0 bn
  refine L_pu (P_pick true (vb r4) (by exact congrArg Value.bool ag) rfl) (L_mv (vb r4) rfl ?_)
  rcases bool_or r4 with ae | ae
  ·have H := ite_t H ae
   refine L_rb ae rfl (L_pu (P_fa fa61_2 ⟨ab, 0, none⟩ ⟨ab, 3, none⟩ rfl rfl) (L_rb ae rfl ?_))
   have bp := ao.stn bn
   have cx := (bm.st bp)
   refine L_pu (P_ld ag59 cL ⟨ab, 3, none⟩ (.slice A7 n8 c9) rfl (cx.cell rfl)) (L_rb ae rfl ?_)
   have bq := ((al.st bb).st bp)
   have df := bq.le
   exact L_pu (P_len Tryz.underlying59 A7 n8 c9 bq.len rfl) (L_rb ae rfl (L_pu (P_cmp (f.Tags.length : Int) 4 (decide ((f.Tags.length : Int) ≤ 4)) rfl rfl rfl) (L_pu (P_pick true (vb (decide ((f.Tags.length : Int) ≤ 4))) (by exact congrArg Value.bool ae) rfl) (L_as (vb (decide ((f.Tags.length : Int) ≤ 4))) rfl (L_nil (W_ret ⟨[vb (decide ((f.Tags.length : Int) ≤ 4))], ⟨_, rfl, rfl⟩, decide ((f.Tags.length : Int) ≤ 4), rfl, H, bo.gr.g0⟩))))))
  have H := ite_f H ae
  exact L_pb ae rfl (L_pb ae rfl (L_pb ae rfl (L_pb ae rfl (L_pu (P_pick false (vb false) (by exact congrArg Value.bool ae) rfl) (L_as (vb false) rfl (L_nil (W_ret ⟨[vb false], ⟨_, rfl, rfl⟩, false, rfl, H, bo.gr.g0⟩)))))))
 have H := ite_f H ag
 refine L_pb ag rfl (L_pb ag rfl (L_pb ag rfl (L_pu (P_pick false (vb false) (by exact congrArg Value.bool ag) rfl) (L_mv (vb false) rfl (L_pass (dj := 48) rfl rfl (.inl rfl) (L_pass (dj := 48) rfl rfl (.inl rfl) (L_pass (dj := 48) rfl rfl (.inl rfl) (L_pass (dj := 48) rfl rfl (.inl rfl) ?_))))))))
 exact L_pu (P_pick false (vb false) (by exact congrArg Value.bool rfl) rfl) (L_as (vb false) rfl (L_nil (W_ret ⟨[vb false], ⟨_, rfl, rfl⟩, false, rfl, H, ao.gr.g0⟩)))
end
section
open Go.RowKit
def F56.E (s : List Feat) (Q : Bool → Prop) : Prop :=
 (∃ (I19 : Int → Prop) (mu20 : Int → Nat), I19 0 ∧ ∀ (v2 : Int), I19 v2 → (if decide (v2 < (s.length : Int)) then ((0 : Int) ≤ v2 ∧ v2 < (s.length : Int)) ∧ (∃ q : Bool, F87.E (nth s v2) (fun x => x = q) ∧ (if !q then Q false else (if decide (v2 > 0) then (I64 (v2 - 1)) ∧ ((0 : Int) ≤ v2 - 1 ∧ v2 - 1 < (s.length : Int)) ∧ (if !(Op.bytesLess ((nth s (v2 - 1)).Id) ((nth s v2).Id)) then Q false else (I64 (v2 + 1)) ∧ I19 (v2 + 1) ∧ mu20 (v2 + 1) < mu20 v2) else (I64 (v2 + 1)) ∧ I19 (v2 + 1) ∧ mu20 (v2 + 1) < mu20 v2))) else Q (decide ((s.length : Int) ≤ 8))))
theorem F56.calls {O : Ob} (w0 : World) (hO : Ok w0 O) (s : List Feat) (A1 : Option Addr) (n2 c3 : Nat) (hp4 : Sl kFeat w0 (Fr O) (.slice A1 n2 c3) s) (Q : Bool → Prop) (h : F56.E s Q) :
  Ret Tryz.prog 31 [.slice A1 n2 c3] w0 (fun v w' => ∃ (r0 : Bool), v = vb r0 ∧ Q r0 ∧ Gr w0 w' none) := by
 unfold F56.E at h
 have H := h
 clear h
 have hc0 := Ct.init hO
 refine Ret_enter Tryz.func31 rfl 34 rfl [.tmp 2] rfl rfl ?_
 refine W_seq (W_reg (L_as (vb false) rfl (L_nil (W_seq (W_seq (W_reg (L_mv (.slice A1 n2 c3) rfl ?_)))))))
 have hl6 := hp4.le
 refine L_pu (P_len Tryz.underlying26 A1 n2 c3 hp4.len rfl) (L_mv (vi 0) rfl (L_nil (W_block ?_)))
 obtain ⟨a8, a9, ao, H⟩ := H
 refine W_loop (α := Int) (fun (sv__ : Int) t ap => match sv__ with | v2 => a8 v2 ∧ Has t [(0, .slice A1 n2 c3), (5, .slice A1 n2 c3), (6, vi (s.length : Int)), (7, vi v2)] ∧ Ct [] w0 ap [] O ∧ Sl kFeat ap (Fr ([] ++ O)) (.slice A1 n2 c3) s) (fun (sv__ : Int) => match sv__ with | v2 => a9 v2) 0 ⟨ao, (hasI rfl), hc0, hp4⟩ ?_
 rintro v2 _ ap ⟨ao, ba, aq, ac⟩
 obtain ⟨ca, rfl⟩ := Has.ins ba
 have H := H v2 ao
 refine W_seq (W_reg (L_pu (P_cmp v2 (s.length : Int) (decide (v2 < (s.length : Int))) rfl rfl rfl) (L_nil (W_seq ?_))))
 refine W_cond (decide (v2 < (s.length : Int))) rfl (fun ar => ?_) (fun ar => ?_)
 ·have H := ite_t H ar
  refine W_skip (W_seq (W_block (W_seq (W_reg (L_mv (vi v2) rfl ?_)))))
  obtain ⟨ax, H⟩ := H
  obtain ⟨ay, cb, bb, cc, bc, bd⟩ := ac.get default (by decide) v2 ax
  obtain ⟨ad, ae, af, ag, ah, ai, rfl, be, bf, bg⟩ := kFeat.op bc
  refine L_pu (P_ia Tryz.underlying26 se26 A1 ay n2 c3 ac.len v2 rfl bb rfl ax) (L_pu (P_lda ag61 sz61 cL (ay.add (v2.toNat * 4)) [vs ((nth s v2).Id), vi ((nth s v2).Shape.Kind), .slice ad ae af, .slice ag ah ai] rfl rfl bd) (L_alloc [vs [], .int .i64 0, .slice none 0 0, .slice none 0 0] ze61 fun cd aj az hu48 a0 bh => ?_))
  have a1 := aq.own a0 (some aj) (oglt az hu48)
  refine L_as (vi v2) rfl (L_stb aj 0 [vs ([] : Str), vi 0, .slice none 0 0, .slice none 0 0] [vs ((nth s v2).Id), vi ((nth s v2).Shape.Kind), .slice ad ae af, .slice ag ah ai] [vs ((nth s v2).Id), vi ((nth s v2).Shape.Kind), .slice ad ae af, .slice ag ah ai] rfl bh rfl sz61 rfl rfl rfl fun bi a2 a3 => ?_)
  have ak := a1.wr 0 rfl a2
  refine L_nil (W_seq (W_draw (fun x => Gr bi x none) (by kernel_rfl) (by kernel_rfl) (Gr.drew _) ?_))
  refine Q_pu (P_lda ag61 sz61 cQ ⟨aj, 0, none⟩ [vs ((nth s v2).Id), vi ((nth s v2).Shape.Kind), .slice ad ae af, .slice ag ah ai] rfl rfl (a3.cells (off := 0) rfl)) ?_
  have al := aq.stown _ a0 (oge az)
  have am := a1.stw 0 rfl a2
  have bj := ((bf.st al).st am)
  have bl := ((bg.st al).st am)
  obtain ⟨q, bm, H⟩ := H
  refine Q_call go64 [.agg #[vs ((nth s v2).Id), vi ((nth s v2).Shape.Kind), .slice ad ae af, .slice ag ah ai]] rfl (vb q) (fun w g => (F87.calls w (ak.k0 g).ok (nth s v2) ad ae af ag ah ai be (bj.st (.new _ g)) (bl.st (.new _ g)) _ bm).mono ?_) ?_
  ·rintro _ w ⟨r, rfl, rfl, g2⟩
   exact ⟨rfl, Gr.t0 g g2⟩
  refine Q_pu (P_not q rfl) (Q_mv (vb (!q)) rfl ?_)
  rcases bool_or (!q) with ab | ab
  ·have H := ite_t H ab
   refine Q_pb ab rfl (Q_pb ab rfl (Q_pb ab rfl (Q_pn rfl (Q_pn rfl (Q_pn rfl (Q_pn rfl (Q_pn rfl (Q_pn rfl ?_))))))))
   refine Q_pn rfl (Q_pn rfl (Q_pn rfl (Q_pb ab rfl (Q_pu (P_pick true (vb true) (by exact congrArg Value.bool ab) rfl) (Q_nil fun ce bn => ?_)))))
   have bo := ak.k0 bn
   refine W_ct (b := true) rfl rfl ?_
   refine W_seq (W_reg (L_as (vb false) rfl (L_nil (W_ret ?_))))
   have bp := bo.drop 0 rfl
   exact ⟨[vb false], ⟨_, rfl, rfl⟩, false, rfl, H, bp.gr.g0⟩
  have H := ite_f H ab
  refine Q_rb ab rfl (Q_mv (vi v2) rfl (Q_rb ab rfl (Q_pu (P_cmp v2 0 (decide (v2 > 0)) rfl rfl rfl) (Q_rb ab rfl (Q_mv (vb (decide (v2 > 0))) rfl ?_)))))
  rcases bool_or (decide (v2 > 0)) with aa | aa
  ·have H := ite_t H aa
   refine Q_rb aa rfl (Q_mv (.slice A1 n2 c3) rfl (Q_rb aa rfl (Q_mv (vi v2) rfl (Q_rb aa rfl ?_))))
   obtain ⟨bq, H⟩ := H
   refine Q_pu (P_sub v2 1 rfl rfl bq) (Q_rb aa rfl ?_)
   obtain ⟨a4, H⟩ := H
   have au := ((ac.st al).st am)
   obtain ⟨an, cf, br, cg, bs, bt⟩ := au.get default (by decide) (v2 - 1) a4
   obtain ⟨ch, ci, cj, ck, cl, cm, rfl, cn, co, cp⟩ := kFeat.op bs
   refine Q_pu (P_ia Tryz.underlying26 se26 A1 an n2 c3 au.len (v2 - 1) rfl br rfl a4) (Q_rb aa rfl (Q_pu (P_fa fa61_0 (an.add ((v2 - 1).toNat * 4)) ((an.add ((v2 - 1).toNat * 4)).add 0) rfl rfl) (Q_rb aa rfl (Q_pu (P_ld ag9 cQ ((an.add ((v2 - 1).toNat * 4)).add 0) (vs ((nth s (v2 - 1)).Id)) rfl (bt 0 _ rfl)) (Q_rb aa rfl (Q_pu (P_fa fa61_0 ⟨aj, 0, none⟩ ⟨aj, 0, none⟩ rfl rfl) (Q_rb aa rfl (Q_pu (P_ld ag9 cQ ⟨aj, 0, none⟩ (vs ((nth s v2).Id)) rfl (a3.cell rfl)) ?_))))))))
   refine Q_rb aa rfl (Q_pu (P_scmp ((nth s (v2 - 1)).Id) ((nth s v2).Id) (!(Op.bytesLess ((nth s (v2 - 1)).Id) ((nth s v2).Id))) rfl rfl rfl) (Q_rb ab rfl (Q_pu (P_pick true (vb (!(Op.bytesLess ((nth s (v2 - 1)).Id) ((nth s v2).Id)))) (by exact congrArg Value.bool aa) rfl) (Q_pu (P_pick false (vb (!(Op.bytesLess ((nth s (v2 - 1)).Id) ((nth s v2).Id)))) (by exact congrArg Value.bool ab) rfl) (Q_nil fun cq a5 => ?_)))))
   have av := ak.k0 a5
   refine W_cond (!(Op.bytesLess ((nth s (v2 - 1)).Id) ((nth s v2).Id))) rfl (fun aw => ?_) (fun aw => ?_)
   ·have H := ite_t H aw
    refine W_seq (W_reg (L_as (vb false) rfl (L_nil (W_ret ?_))))
    have bu := av.drop 0 rfl
    exact ⟨[vb false], ⟨_, rfl, rfl⟩, false, rfl, H, bu.gr.g0⟩
   have H := ite_f H aw
   refine W_skip (W_reg ?_)
   obtain ⟨bv, H⟩ := H
   refine L_pu (P_add v2 1 rfl rfl bv) (L_mv (vi (v2 + 1)) rfl (L_nil ?_))
   have bw := av.drop 0 rfl
   obtain ⟨bx, bz⟩ := H
   have b0 := ak.stn a5
   have b1 := av.std 0 rfl
   have b2 := ((au.st b0).st b1)
   exact ⟨v2 + 1, bz, bx, (hasI rfl), bw, b2⟩
  have H := ite_f H aa
  refine Q_pb aa rfl (Q_pb aa rfl (Q_pb aa rfl (Q_pb aa rfl (Q_pb aa rfl (Q_pb aa rfl (Q_pb aa rfl (Q_pb aa rfl (Q_pb aa rfl ?_))))))))
  refine Q_rb ab rfl (Q_pu (P_pick false (vb false) (by exact congrArg Value.bool aa) rfl) (Q_pu (P_pick false (vb false) (by exact congrArg Value.bool ab) rfl) (Q_nil fun cr a6 => ?_)))
  have a7 := ak.k0 a6
  refine W_cf (b := false) rfl rfl ?_
  refine W_skip (W_reg ?_)
  obtain ⟨b3, H⟩ := H
  refine L_pu (P_add v2 1 rfl rfl b3) (L_mv (vi (v2 + 1)) rfl (L_nil ?_))
  have b4 := a7.drop 0 rfl
  obtain ⟨b5, b6⟩ := H
  have b7 := ak.stn a6
  have b8 := a7.std 0 rfl
  have b9 := ((((ac.st al).st am).st b7).st b8)
  exact ⟨v2 + 1, b6, b5, (hasI rfl), b4, b9⟩
 have H := ite_f H ar
 refine W_exit (xin_hit ?_)
 refine W_seq (W_reg (L_mv (.slice A1 n2 c3) rfl ?_))
 have cs := ac.le
 exact L_pu (P_len Tryz.underlying26 A1 n2 c3 ac.len rfl) (L_pu (P_cmp (s.length : Int) 8 (decide ((s.length : Int) ≤ 8)) rfl rfl rfl) (L_as (vb (decide ((s.length : Int) ≤ 8))) rfl (L_nil (W_ret ⟨[vb (decide ((s.length : Int) ≤ 8))], ⟨_, rfl, rfl⟩, decide ((s.length : Int) ≤ 8), rfl, H, aq.gr.g0⟩))))
end
section
open Go.RowKit
def F88.E (f : Feat) (Q : Bool → Prop) : Prop :=
 (if f.Id == ([] : Str) then (if f.Shape.Kind == 0 then (if (f.Shape.Pts.length : Int) == 0 then Q ((f.Tags.length : Int) == 0) else Q false) else Q false) else Q false)
theorem F88.calls {O : Ob} (w0 : World) (hO : Ok w0 O) (f : Feat) (A2 : Option Addr) (n3 c4 : Nat) (A7 : Option Addr) (n8 c9 : Nat) (hs1 : Lim f.Id) (hp5 : Sl kPt w0 (Fr O) (.slice A2 n3 c4) f.Shape.Pts) (ag : Sl kTag w0 (Fr O) (.slice A7 n8 c9) f.Tags) (Q : Bool → Prop) (h : F88.E f Q) :
  Ret Tryz.prog 100 [.agg #[vs f.Id, vi f.Shape.Kind, .slice A2 n3 c4, .slice A7 n8 c9]] w0 (fun v w' => ∃ (r0 : Bool), v = vb r0 ∧ Q r0 ∧ Gr w0 w' none) := by
 unfold F88.E at h
 have H := h
 clear h
 have hc0 := Ct.init hO
 refine Ret_enter Tryz.func100 rfl 25 rfl [.tmp 2] rfl rfl ?_
 refine W_seq (W_reg (L_box [vs f.Id, vi f.Shape.Kind, .slice A2 n3 c4, .slice A7 n8 c9] rfl fun ak aa ah hu16 ai aj => ?_))
 have af := Fb.mk hc0.ok ah aj
 have ae := hc0.k0 ai
 refine L_as (vb false) rfl (L_nil (W_seq (W_reg (L_pu (P_fa fa61_0 ⟨aa, 0, none⟩ ⟨aa, 0, none⟩ rfl rfl) (L_pu (P_ld ag9 cL ⟨aa, 0, none⟩ (vs f.Id) rfl (af.cell rfl)) (L_pu (P_scmp f.Id ([] : Str) (f.Id == ([] : Str)) rfl rfl rfl) (L_mv (vb (f.Id == ([] : Str))) rfl ?_)))))))
 rcases bool_or (f.Id == ([] : Str)) with ac | ac
 ·have H := ite_t H ac
  refine L_rb ac rfl (L_pu (P_fa fa61_1 ⟨aa, 0, none⟩ ⟨aa, 1, none⟩ rfl rfl) (L_rb ac rfl (L_pu (P_fa fa58_0 ⟨aa, 1, none⟩ ⟨aa, 1, none⟩ rfl rfl) (L_rb ac rfl (L_pu (P_ld ag3 cL ⟨aa, 1, none⟩ (vi f.Shape.Kind) rfl (af.cell rfl)) (L_rb ac rfl (L_pu (P_cmp f.Shape.Kind 0 (f.Shape.Kind == 0) rfl rfl rfl) (L_pu (P_pick true (vb (f.Shape.Kind == 0)) (by exact congrArg Value.bool ac) rfl) ?_))))))))
  refine L_mv (vb (f.Shape.Kind == 0)) rfl ?_
  rcases bool_or (f.Shape.Kind == 0) with ab | ab
  ·have H := ite_t H ab
   refine L_rb ab rfl (L_pu (P_fa fa61_1 ⟨aa, 0, none⟩ ⟨aa, 1, none⟩ rfl rfl) (L_rb ab rfl (L_pu (P_fa fa58_1 ⟨aa, 1, none⟩ ⟨aa, 2, none⟩ rfl rfl) (L_rb ab rfl (L_pu (P_ld ag56 cL ⟨aa, 2, none⟩ (.slice A2 n3 c4) rfl (af.cell rfl)) (L_rb ab rfl ?_))))))
   have al := (hp5.st ae.st).le
   refine L_pu (P_len Tryz.underlying56 A2 n3 c4 (hp5.st ae.st).len rfl) (L_rb ab rfl (L_pu (P_cmp (f.Shape.Pts.length : Int) 0 ((f.Shape.Pts.length : Int) == 0) rfl rfl rfl) (L_pu (P_pick true (vb ((f.Shape.Pts.length : Int) == 0)) (by exact congrArg Value.bool ab) rfl) (L_mv (vb ((f.Shape.Pts.length : Int) == 0)) rfl ?_))))
   rcases bool_or ((f.Shape.Pts.length : Int) == 0) with ad | ad
   ·have H := ite_t H ad
    refine L_rb ad rfl (L_pu (P_fa fa61_2 ⟨aa, 0, none⟩ ⟨aa, 3, none⟩ rfl rfl) (L_rb ad rfl (L_pu (P_ld ag59 cL ⟨aa, 3, none⟩ (.slice A7 n8 c9) rfl (af.cell rfl)) (L_rb ad rfl ?_))))
    have am := (ag.st ae.st).le
    exact L_pu (P_len Tryz.underlying59 A7 n8 c9 (ag.st ae.st).len rfl) (L_rb ad rfl (L_pu (P_cmp (f.Tags.length : Int) 0 ((f.Tags.length : Int) == 0) rfl rfl rfl) (L_pu (P_pick true (vb ((f.Tags.length : Int) == 0)) (by exact congrArg Value.bool ad) rfl) (L_as (vb ((f.Tags.length : Int) == 0)) rfl (L_nil (W_ret ⟨[vb ((f.Tags.length : Int) == 0)], ⟨_, rfl, rfl⟩, (f.Tags.length : Int) == 0, rfl, H, ae.gr.g0⟩))))))
   have H := ite_f H ad
   exact L_pb ad rfl (L_pb ad rfl (L_pb ad rfl (L_pb ad rfl (L_pu (P_pick false (vb false) (by exact congrArg Value.bool ad) rfl) (L_as (vb false) rfl (L_nil (W_ret ⟨[vb false], ⟨_, rfl, rfl⟩, false, rfl, H, ae.gr.g0⟩)))))))
  have H := ite_f H ab
  refine L_pb ab rfl (L_pb ab rfl (L_pb ab rfl (L_pb ab rfl (L_pb ab rfl (L_pu (P_pick false (vb false) (by exact congrArg Value.bool ab) rfl) (L_mv (vb false) rfl (L_pass (dj := 19) rfl rfl (.inl rfl) (L_pass (dj := 19) rfl rfl (.inl rfl) ?_))))))))
  exact L_pass (dj := 19) rfl rfl (.inl rfl) (L_pass (dj := 19) rfl rfl (.inl rfl) (L_pu (P_pick false (vb false) (by exact congrArg Value.bool rfl) rfl) (L_as (vb false) rfl (L_nil (W_ret ⟨[vb false], ⟨_, rfl, rfl⟩, false, rfl, H, ae.gr.g0⟩)))))
 have H := ite_f H ac
 refine L_pb ac rfl (L_pb ac rfl (L_pb ac rfl (L_pb ac rfl (L_pu (P_pick false (vb false) (by exact congrArg Value.bool ac) rfl) (L_mv (vb false) rfl (L_pass (dj := 12) rfl rfl (.inl rfl) (L_pass (dj := 12) rfl rfl (.inl rfl) (L_pass (dj := 12) rfl rfl (.inl rfl) ?_))))))))
 refine L_pass (dj := 12) rfl rfl (.inl rfl) (L_pass (dj := 12) rfl rfl (.inl rfl) (L_pu (P_pick false (vb false) (by exact congrArg Value.bool rfl) rfl) (L_mv (vb false) rfl (L_pass (dj := 19) rfl rfl (.inl rfl) (L_pass (dj := 19) rfl rfl (.inl rfl) (L_pass (dj := 19) rfl rfl (.inl rfl) (L_pass (dj := 19) rfl rfl (.inl rfl) (L_pu (P_pick false (vb false) (by exact congrArg Value.bool rfl) rfl) ?_))))))))
 exact L_as (vb false) rfl (L_nil (W_ret ⟨[vb false], ⟨_, rfl, rfl⟩, false, rfl, H, ae.gr.g0⟩))
end
section
open Go.RowKit
def F89.E (id : Str) (has : Bool) (f : Feat) (Q : Bool → Prop) : Prop :=
 (if !has then F88.E f (fun r => Q r) else F87.E f (fun r2 => (if r2 then Q (f.Id == id) else Q false)))
theorem F89.calls {O : Ob} (w0 : World) (hO : Ok w0 O) (id : Str) (hs1 : Lim id) (has : Bool) (f : Feat) (A3 : Option Addr) (n4 c5 : Nat) (A8 : Option Addr) (n9 ab : Nat) (hs2 : Lim f.Id) (hp6 : Sl kPt w0 (Fr O) (.slice A3 n4 c5) f.Shape.Pts) (ag : Sl kTag w0 (Fr O) (.slice A8 n9 ab) f.Tags) (Q : Bool → Prop) (h : F89.E id has f Q) :
  Ret Tryz.prog 66 [vs id, vb has, .agg #[vs f.Id, vi f.Shape.Kind, .slice A3 n4 c5, .slice A8 n9 ab]] w0 (fun v w' => ∃ (r0 : Bool), v = vb r0 ∧ Q r0 ∧ Gr w0 w' none) := by
 unfold F89.E at h
 have H := h
 clear h
 have hc0 := Ct.init hO
 refine Ret_enter Tryz.func66 rfl 19 rfl [.tmp 6] rfl rfl ?_
 refine W_seq (W_reg (L_box [vs f.Id, vi f.Shape.Kind, .slice A3 n4 c5, .slice A8 n9 ab] rfl fun ah ad ak hu17 al am => ?_))
 have ae := Fb.mk hc0.ok ak am
 have ac := hc0.k0 al
 refine L_as (vb false) rfl (L_nil (W_seq (W_seq (W_reg (L_mv (vb has) rfl (L_pu (P_not has rfl) (L_nil ?_)))))))
 refine W_cond (!has) rfl (fun af => ?_) (fun af => ?_)
 ·have H := ite_t H af
  refine W_seq (W_reg (L_pu (P_lda ag61 sz61 cL ⟨ad, 0, none⟩ [vs f.Id, vi f.Shape.Kind, .slice A3 n4 c5, .slice A8 n9 ab] rfl rfl (ae.cells (off := 0) rfl)) ?_))
  refine L_call go100 [.agg #[vs f.Id, vi f.Shape.Kind, .slice A3 n4 c5, .slice A8 n9 ab]] rfl ((F88.calls ah ac.ok f A3 n4 c5 A8 n9 ab hs2 (hp6.st ac.st) (ag.st ac.st) _ H).mono ?_)
  rintro _ ar ⟨r, rfl, H, an⟩
  have ao := ac.k0 an
  exact L_as (vb r) rfl (L_nil (W_ret ⟨[vb r], ⟨_, rfl, rfl⟩, r, rfl, H, ao.gr.g0⟩))
 have H := ite_f H af
 refine W_skip (W_seq (W_reg (L_pu (P_lda ag61 sz61 cL ⟨ad, 0, none⟩ [vs f.Id, vi f.Shape.Kind, .slice A3 n4 c5, .slice A8 n9 ab] rfl rfl (ae.cells (off := 0) rfl)) ?_)))
 refine L_call go64 [.agg #[vs f.Id, vi f.Shape.Kind, .slice A3 n4 c5, .slice A8 n9 ab]] rfl ((F87.calls ah ac.ok f A3 n4 c5 A8 n9 ab hs2 (hp6.st ac.st) (ag.st ac.st) _ H).mono ?_)
 rintro _ au ⟨r2, rfl, H, ai⟩
 have aj := ac.k0 ai
 refine L_mv (vb r2) rfl ?_
 rcases bool_or r2 with aa | aa
 ·have H := ite_t H aa
  refine L_rb aa rfl (L_pu (P_fa fa61_0 ⟨ad, 0, none⟩ ⟨ad, 0, none⟩ rfl rfl) (L_rb aa rfl ?_))
  have ap := ac.stn ai
  have aq := (ae.st ap)
  refine L_pu (P_ld ag9 cL ⟨ad, 0, none⟩ (vs f.Id) rfl (aq.cell rfl)) (L_rb aa rfl (L_mv (vs id) rfl (L_rb aa rfl (L_pu (P_scmp f.Id id (f.Id == id) rfl rfl rfl) (L_pu (P_pick true (vb (f.Id == id)) (by exact congrArg Value.bool aa) rfl) (L_as (vb (f.Id == id)) rfl (L_nil (W_ret ?_))))))))
  exact ⟨[vb (f.Id == id)], ⟨_, rfl, rfl⟩, f.Id == id, rfl, H, aj.gr.g0⟩
 have H := ite_f H aa
 exact L_pb aa rfl (L_pb aa rfl (L_pb aa rfl (L_pb aa rfl (L_pu (P_pick false (vb false) (by exact congrArg Value.bool aa) rfl) (L_as (vb false) rfl (L_nil (W_ret ⟨[vb false], ⟨_, rfl, rfl⟩, false, rfl, H, aj.gr.g0⟩)))))))
end
section
open Go.RowKit
def F14.E (s1 : List Pt) (s2 : List Pt) (Q : Bool → Prop) : Prop :=
 (if (s1.length : Int) != (s2.length : Int) then Q false else (∃ (I32 : Int → Prop) (mu33 : Int → Nat), I32 0 ∧ ∀ (v2 : Int), I32 v2 → (if decide (v2 < (s1.length : Int)) then ((0 : Int) ≤ v2 ∧ v2 < (s1.length : Int)) ∧ ((0 : Int) ≤ v2 ∧ v2 < (s2.length : Int)) ∧ (if !(eqPt (nth s1 v2) (nth s2 v2)) then Q false else (I64 (v2 + 1)) ∧ I32 (v2 + 1) ∧ mu33 (v2 + 1) < mu33 v2) else Q true)))
theorem F14.calls {O : Ob} (w0 : World) (hO : Ok w0 O) (s1 : List Pt) (A1 : Option Addr) (n2 c3 : Nat) (hp4 : Sl kPt w0 (Fr O) (.slice A1 n2 c3) s1) (s2 : List Pt) (A6 : Option Addr) (n7 c8 : Nat) (hp9 : Sl kPt w0 (Fr O) (.slice A6 n7 c8) s2) (Q : Bool → Prop) (h : F14.E s1 s2 Q) :
  Ret Tryz.prog 101 [.slice A1 n2 c3, .slice A6 n7 c8] w0 (fun v w' => ∃ (r0 : Bool), v = vb r0 ∧ Q r0 ∧ Gr w0 w' none) := by
 unfold F14.E at h
 have H := h
 clear h
 have hc0 := Ct.init hO
 refine Ret_enter Tryz.func101 rfl 26 rfl [.tmp 4] rfl rfl ?_
 refine W_seq (W_reg (L_as (vb false) rfl (L_nil (W_seq (W_seq (W_reg (L_mv (.slice A1 n2 c3) rfl ?_)))))))
 have a3 := hp4.le
 refine L_pu (P_len Tryz.underlying56 A1 n2 c3 hp4.len rfl) (L_mv (.slice A6 n7 c8) rfl ?_)
 have a4 := hp9.le
 refine L_pu (P_len Tryz.underlying56 A6 n7 c8 hp9.len rfl) (L_pu (P_cmp (s1.length : Int) (s2.length : Int) ((s1.length : Int) != (s2.length : Int)) rfl rfl rfl) (L_nil ?_))
 refine W_cond ((s1.length : Int) != (s2.length : Int)) rfl (fun ab => ?_) (fun ab => ?_)
 ·have H := ite_t H ab
  exact W_seq (W_reg (L_as (vb false) rfl (L_nil (W_ret ⟨[vb false], ⟨_, rfl, rfl⟩, false, rfl, H, hc0.gr.g0⟩))))
 have H := ite_f H ab
 refine W_skip (W_seq (W_seq (W_reg (L_mv (.slice A1 n2 c3) rfl (L_pu (P_len Tryz.underlying56 A1 n2 c3 hp4.len rfl) (L_mv (vi 0) rfl (L_nil (W_block ?_))))))))
 obtain ⟨ap, aq, ac, H⟩ := H
 refine W_loop (α := Int) (fun (sv__ : Int) t aa => match sv__ with | v2 => ap v2 ∧ Has t [(0, .slice A1 n2 c3), (1, .slice A6 n7 c8), (12, vi (s1.length : Int)), (13, vi v2)] ∧ Ct [] w0 aa [] O ∧ Sl kPt aa (Fr ([] ++ O)) (.slice A1 n2 c3) s1 ∧ Sl kPt aa (Fr ([] ++ O)) (.slice A6 n7 c8) s2) (fun (sv__ : Int) => match sv__ with | v2 => aq v2) 0 ⟨ac, (hasI rfl), hc0, hp4, hp9⟩ ?_
 rintro v2 _ aa ⟨ac, ar, ad, ae, af⟩
 obtain ⟨a5, rfl⟩ := Has.ins ar
 have H := H v2 ac
 refine W_seq (W_reg (L_pu (P_cmp v2 (s1.length : Int) (decide (v2 < (s1.length : Int))) rfl rfl rfl) (L_nil (W_seq ?_))))
 refine W_cond (decide (v2 < (s1.length : Int))) rfl (fun ag => ?_) (fun ag => ?_)
 ·have H := ite_t H ag
  refine W_skip (W_seq (W_block (W_seq (W_reg (L_mv (vi v2) rfl (L_as (vi v2) rfl (L_nil (W_seq ?_))))))))
  refine W_draw (fun x => Gr aa x none) (by kernel_rfl) (by kernel_rfl) (Gr.drew _) ?_
  refine Q_mv (.slice A1 n2 c3) rfl (Q_mv (vi v2) rfl ?_)
  obtain ⟨ai, H⟩ := H
  obtain ⟨aj, a6, au, a7, av, aw⟩ := ae.get default (by decide) v2 ai
  obtain rfl := kPt.op av
  refine Q_pu (P_ia Tryz.underlying56 se56 A1 aj n2 c3 ae.len v2 rfl au rfl ai) (Q_pu (P_lda ag114 sz114 cQ (aj.add (v2.toNat * 2)) [vi ((nth s1 v2).X), vi ((nth s1 v2).Y)] rfl rfl aw) (Q_mv (.slice A6 n7 c8) rfl (Q_mv (vi v2) rfl ?_)))
  obtain ⟨ak, H⟩ := H
  obtain ⟨al, a8, ax, a9, ay, az⟩ := af.get default (by decide) v2 ak
  obtain rfl := kPt.op ay
  refine Q_pu (P_ia Tryz.underlying56 se56 A6 al n7 c8 af.len v2 rfl ax rfl ak) (Q_pu (P_lda ag114 sz114 cQ (al.add (v2.toNat * 2)) [vi ((nth s2 v2).X), vi ((nth s2 v2).Y)] rfl rfl az) (Q_pu (P_ne _ _ (eqPt (nth s1 v2) (nth s2 v2)) (qt114 (nth s1 v2) (nth s2 v2)) rfl rfl) (Q_nil fun ba am => ?_)))
  have an := ad.k0 am
  refine W_cond (!(eqPt (nth s1 v2) (nth s2 v2))) rfl (fun ah => ?_) (fun ah => ?_)
  ·have H := ite_t H ah
   exact W_seq (W_reg (L_as (vb false) rfl (L_nil (W_ret ⟨[vb false], ⟨_, rfl, rfl⟩, false, rfl, H, an.gr.g0⟩))))
  have H := ite_f H ah
  refine W_skip (W_reg ?_)
  obtain ⟨a0, H⟩ := H
  refine L_pu (P_add v2 1 rfl rfl a0) (L_mv (vi (v2 + 1)) rfl (L_nil ?_))
  obtain ⟨a1, a2⟩ := H
  have ao := ad.stn am
  exact ⟨v2 + 1, a2, a1, (hasI rfl), an, (ae.st ao), (af.st ao)⟩
 have H := ite_f H ag
 refine W_exit (xin_hit ?_)
 exact W_seq (W_reg (L_as (vb true) rfl (L_nil (W_ret ⟨[vb true], ⟨_, rfl, rfl⟩, true, rfl, H, ad.gr.g0⟩))))
end
section
open Go.RowKit
def F25.E (a : Shape) (b : Shape) (Q : Bool → Prop) : Prop :=
 (if a.Kind == b.Kind then F14.E a.Pts b.Pts (fun r => Q r) else Q false)
theorem F25.calls {O : Ob} (w0 : World) (hO : Ok w0 O) (a : Shape) (A1 : Option Addr) (n2 c3 : Nat) (hp4 : Sl kPt w0 (Fr O) (.slice A1 n2 c3) a.Pts) (b : Shape) (A6 : Option Addr) (n7 c8 : Nat) (hp9 : Sl kPt w0 (Fr O) (.slice A6 n7 c8) b.Pts) (Q : Bool → Prop) (h : F25.E a b Q) :
  Ret Tryz.prog 68 [.agg #[vi a.Kind, .slice A1 n2 c3], .agg #[vi b.Kind, .slice A6 n7 c8]] w0 (fun v w' => ∃ (r0 : Bool), v = vb r0 ∧ Q r0 ∧ Gr w0 w' none) := by
 unfold F25.E at h
 have H := h
 clear h
 have hc0 := Ct.init hO
 refine Ret_enter Tryz.func68 rfl 17 rfl [.tmp 4] rfl rfl ?_
 refine W_seq (W_reg (L_box [vi a.Kind, .slice A1 n2 c3] rfl fun au ab ai hu15 aj ak => ?_))
 have al := Fb.mk hc0.ok ai ak
 have ae := hc0.k0 aj
 refine L_box [vi b.Kind, .slice A6 n7 c8] rfl fun am ac an hu24 af ao => ?_
 have ag := Fb.mk ae.ok an ao
 have ad := ae.k0 af
 refine L_as (vb false) rfl (L_nil (W_seq (W_reg (L_pu (P_fa fa58_0 ⟨ab, 0, none⟩ ⟨ab, 0, none⟩ rfl rfl) ?_))))
 have ap := ae.stn af
 have ah := (al.st ap)
 refine L_pu (P_ld ag3 cL ⟨ab, 0, none⟩ (vi a.Kind) rfl (ah.cell rfl)) (L_pu (P_fa fa58_0 ⟨ac, 0, none⟩ ⟨ac, 0, none⟩ rfl rfl) (L_pu (P_ld ag3 cL ⟨ac, 0, none⟩ (vi b.Kind) rfl (ag.cell rfl)) (L_pu (P_cmp a.Kind b.Kind (a.Kind == b.Kind) rfl rfl rfl) (L_mv (vb (a.Kind == b.Kind)) rfl ?_))))
 rcases bool_or (a.Kind == b.Kind) with aa | aa
 ·have H := ite_t H aa
  refine L_rb aa rfl (L_pu (P_fa fa58_1 ⟨ab, 0, none⟩ ⟨ab, 1, none⟩ rfl rfl) (L_rb aa rfl (L_pu (P_ld ag56 cL ⟨ab, 1, none⟩ (.slice A1 n2 c3) rfl (ah.cell rfl)) (L_rb aa rfl (L_pu (P_fa fa58_1 ⟨ac, 0, none⟩ ⟨ac, 1, none⟩ rfl rfl) (L_rb aa rfl (L_pu (P_ld ag56 cL ⟨ac, 1, none⟩ (.slice A6 n7 c8) rfl (ag.cell rfl)) (L_rb aa rfl ?_))))))))
  refine L_call go101 [.slice A1 n2 c3, .slice A6 n7 c8] rfl ((F14.calls am ad.ok a.Pts A1 n2 c3 (hp4.st ad.st) b.Pts A6 n7 c8 (hp9.st ad.st) _ H).mono ?_)
  rintro _ av ⟨r, rfl, H, aq⟩
  have ar := ad.k0 aq
  exact L_pu (P_pick true (vb r) (by exact congrArg Value.bool aa) rfl) (L_as (vb r) rfl (L_nil (W_ret ⟨[vb r], ⟨_, rfl, rfl⟩, r, rfl, H, ar.gr.g0⟩)))
 have H := ite_f H aa
 refine L_pb aa rfl (L_pb aa rfl (L_pb aa rfl (L_pb aa rfl (L_pb aa rfl (L_pu (P_pick false (vb false) (by exact congrArg Value.bool aa) rfl) (L_as (vb false) rfl (L_nil (W_ret ?_))))))))
 exact ⟨[vb false], ⟨_, rfl, rfl⟩, false, rfl, H, ad.gr.g0⟩
end
section
open Go.RowKit
def F11.E (s1 : List Tag) (s2 : List Tag) (Q : Bool → Prop) : Prop :=
 (if (s1.length : Int) != (s2.length : Int) then Q false else (∃ (I32 : Int → Prop) (mu33 : Int → Nat), I32 0 ∧ ∀ (v2 : Int), I32 v2 → (if decide (v2 < (s1.length : Int)) then ((0 : Int) ≤ v2 ∧ v2 < (s1.length : Int)) ∧ ((0 : Int) ≤ v2 ∧ v2 < (s2.length : Int)) ∧ (if !(eqTag (nth s1 v2) (nth s2 v2)) then Q false else (I64 (v2 + 1)) ∧ I32 (v2 + 1) ∧ mu33 (v2 + 1) < mu33 v2) else Q true)))
theorem F11.calls {O : Ob} (w0 : World) (hO : Ok w0 O) (s1 : List Tag) (A1 : Option Addr) (n2 c3 : Nat) (hp4 : Sl kTag w0 (Fr O) (.slice A1 n2 c3) s1) (s2 : List Tag) (A6 : Option Addr) (n7 c8 : Nat) (hp9 : Sl kTag w0 (Fr O) (.slice A6 n7 c8) s2) (Q : Bool → Prop) (h : F11.E s1 s2 Q) :
  Ret Tryz.prog 69 [.slice A1 n2 c3, .slice A6 n7 c8] w0 (fun v w' => ∃ (r0 : Bool), v = vb r0 ∧ Q r0 ∧ Gr w0 w' none) := by
 unfold F11.E at h
 have H := h
 clear h
 have hc0 := Ct.init hO
 refine Ret_enter Tryz.func69 rfl 26 rfl [.tmp 4] rfl rfl ?_
 refine W_seq (W_reg (L_as (vb false) rfl (L_nil (W_seq (W_seq (W_reg (L_mv (.slice A1 n2 c3) rfl ?_)))))))
 have a3 := hp4.le
 refine L_pu (P_len Tryz.underlying59 A1 n2 c3 hp4.len rfl) (L_mv (.slice A6 n7 c8) rfl ?_)
 have a4 := hp9.le
 refine L_pu (P_len Tryz.underlying59 A6 n7 c8 hp9.len rfl) (L_pu (P_cmp (s1.length : Int) (s2.length : Int) ((s1.length : Int) != (s2.length : Int)) rfl rfl rfl) (L_nil ?_))
 refine W_cond ((s1.length : Int) != (s2.length : Int)) rfl (fun ab => ?_) (fun ab => ?_)
 ·have H := ite_t H ab
  exact W_seq (W_reg (L_as (vb false) rfl (L_nil (W_ret ⟨[vb false], ⟨_, rfl, rfl⟩, false, rfl, H, hc0.gr.g0⟩))))
 have H := ite_f H ab
 refine W_skip (W_seq (W_seq (W_reg (L_mv (.slice A1 n2 c3) rfl (L_pu (P_len Tryz.underlying59 A1 n2 c3 hp4.len rfl) (L_mv (vi 0) rfl (L_nil (W_block ?_))))))))
 obtain ⟨ap, aq, ac, H⟩ := H
 refine W_loop (α := Int) (fun (sv__ : Int) t aa => match sv__ with | v2 => ap v2 ∧ Has t [(0, .slice A1 n2 c3), (1, .slice A6 n7 c8), (12, vi (s1.length : Int)), (13, vi v2)] ∧ Ct [] w0 aa [] O ∧ Sl kTag aa (Fr ([] ++ O)) (.slice A1 n2 c3) s1 ∧ Sl kTag aa (Fr ([] ++ O)) (.slice A6 n7 c8) s2) (fun (sv__ : Int) => match sv__ with | v2 => aq v2) 0 ⟨ac, (hasI rfl), hc0, hp4, hp9⟩ ?_
 rintro v2 _ aa ⟨ac, ar, ad, ae, af⟩
 obtain ⟨a5, rfl⟩ := Has.ins ar
 have H := H v2 ac
 refine W_seq (W_reg (L_pu (P_cmp v2 (s1.length : Int) (decide (v2 < (s1.length : Int))) rfl rfl rfl) (L_nil (W_seq ?_))))
 refine W_cond (decide (v2 < (s1.length : Int))) rfl (fun ag => ?_) (fun ag => ?_)
 ·have H := ite_t H ag
  refine W_skip (W_seq (W_block (W_seq (W_reg (L_mv (vi v2) rfl (L_as (vi v2) rfl (L_nil (W_seq ?_))))))))
  refine W_draw (fun x => Gr aa x none) (by kernel_rfl) (by kernel_rfl) (Gr.drew _) ?_
  refine Q_mv (.slice A1 n2 c3) rfl (Q_mv (vi v2) rfl ?_)
  obtain ⟨ai, H⟩ := H
  obtain ⟨aj, a6, au, a7, av, aw⟩ := ae.get default (by decide) v2 ai
  obtain ⟨rfl, a8, a9⟩ := kTag.op av
  refine Q_pu (P_ia Tryz.underlying59 se59 A1 aj n2 c3 ae.len v2 rfl au rfl ai) (Q_pu (P_lda ag106 sz106 cQ (aj.add (v2.toNat * 2)) [vs ((nth s1 v2).Key), vs ((nth s1 v2).Val)] rfl rfl aw) (Q_mv (.slice A6 n7 c8) rfl (Q_mv (vi v2) rfl ?_)))
  obtain ⟨ak, H⟩ := H
  obtain ⟨al, ba, ax, bb, ay, az⟩ := af.get default (by decide) v2 ak
  obtain ⟨rfl, bc, bd⟩ := kTag.op ay
  refine Q_pu (P_ia Tryz.underlying59 se59 A6 al n7 c8 af.len v2 rfl ax rfl ak) (Q_pu (P_lda ag106 sz106 cQ (al.add (v2.toNat * 2)) [vs ((nth s2 v2).Key), vs ((nth s2 v2).Val)] rfl rfl az) (Q_pu (P_ne _ _ (eqTag (nth s1 v2) (nth s2 v2)) (qt106 (nth s1 v2) (nth s2 v2)) rfl rfl) (Q_nil fun be am => ?_)))
  have an := ad.k0 am
  refine W_cond (!(eqTag (nth s1 v2) (nth s2 v2))) rfl (fun ah => ?_) (fun ah => ?_)
  ·have H := ite_t H ah
   exact W_seq (W_reg (L_as (vb false) rfl (L_nil (W_ret ⟨[vb false], ⟨_, rfl, rfl⟩, false, rfl, H, an.gr.g0⟩))))
  have H := ite_f H ah
  refine W_skip (W_reg ?_)
  obtain ⟨a0, H⟩ := H
  refine L_pu (P_add v2 1 rfl rfl a0) (L_mv (vi (v2 + 1)) rfl (L_nil ?_))
  obtain ⟨a1, a2⟩ := H
  have ao := ad.stn am
  exact ⟨v2 + 1, a2, a1, (hasI rfl), an, (ae.st ao), (af.st ao)⟩
 have H := ite_f H ag
 refine W_exit (xin_hit ?_)
 exact W_seq (W_reg (L_as (vb true) rfl (L_nil (W_ret ⟨[vb true], ⟨_, rfl, rfl⟩, true, rfl, H, ad.gr.g0⟩))))
end
section
open Go.RowKit
def F36.E (a : Feat) (b : Feat) (Q : Bool → Prop) : Prop :=
 (if a.Id == b.Id then F25.E a.Shape b.Shape (fun r => (if r then F11.E a.Tags b.Tags (fun r2 => Q r2) else Q false)) else Q false)
theorem F36.calls {O : Ob} (w0 : World) (hO : Ok w0 O) (a : Feat) (A2 : Option Addr) (n3 c4 : Nat) (A7 : Option Addr) (n8 c9 : Nat) (hs1 : Lim a.Id) (hp5 : Sl kPt w0 (Fr O) (.slice A2 n3 c4) a.Shape.Pts) (au : Sl kTag w0 (Fr O) (.slice A7 n8 c9) a.Tags) (b : Feat) (ae : Option Addr) (af ag : Nat) (ah : Option Addr) (ai aj : Nat) (ba : Lim b.Id) (av : Sl kPt w0 (Fr O) (.slice ae af ag) b.Shape.Pts) (aw : Sl kTag w0 (Fr O) (.slice ah ai aj) b.Tags) (Q : Bool → Prop) (h : F36.E a b Q) :
  Ret Tryz.prog 35 [.agg #[vs a.Id, vi a.Shape.Kind, .slice A2 n3 c4, .slice A7 n8 c9], .agg #[vs b.Id, vi b.Shape.Kind, .slice ae af ag, .slice ah ai aj]] w0 (fun v w' => ∃ (r0 : Bool), v = vb r0 ∧ Q r0 ∧ Gr w0 w' none) := by
 unfold F36.E at h
 have H := h
 clear h
 have hc0 := Ct.init hO
 refine Ret_enter Tryz.func35 rfl 24 rfl [.tmp 4] rfl rfl ?_
 refine W_seq (W_reg (L_box [vs a.Id, vi a.Shape.Kind, .slice A2 n3 c4, .slice A7 n8 c9] rfl fun bb ac ax hu27 ay az => ?_))
 have a0 := Fb.mk hc0.ok ax az
 have am := hc0.k0 ay
 refine L_box [vs b.Id, vi b.Shape.Kind, .slice ae af ag, .slice ah ai aj] rfl fun a1 ad a2 hu36 ap a3 => ?_
 have an := Fb.mk am.ok a2 a3
 have ak := am.k0 ap
 refine L_as (vb false) rfl (L_nil (W_seq (W_reg (L_pu (P_fa fa61_0 ⟨ac, 0, none⟩ ⟨ac, 0, none⟩ rfl rfl) ?_))))
 have a4 := am.stn ap
 have ao := (a0.st a4)
 refine L_pu (P_ld ag9 cL ⟨ac, 0, none⟩ (vs a.Id) rfl (ao.cell rfl)) (L_pu (P_fa fa61_0 ⟨ad, 0, none⟩ ⟨ad, 0, none⟩ rfl rfl) (L_pu (P_ld ag9 cL ⟨ad, 0, none⟩ (vs b.Id) rfl (an.cell rfl)) (L_pu (P_scmp a.Id b.Id (a.Id == b.Id) rfl rfl rfl) (L_mv (vb (a.Id == b.Id)) rfl ?_))))
 rcases bool_or (a.Id == b.Id) with aa | aa
 ·have H := ite_t H aa
  refine L_rb aa rfl (L_pu (P_fa fa61_1 ⟨ac, 0, none⟩ ⟨ac, 1, none⟩ rfl rfl) (L_rb aa rfl (L_pu (P_lda ag58 sz58 cL ⟨ac, 1, none⟩ [vi a.Shape.Kind, .slice A2 n3 c4] rfl rfl (ao.cells (off := 1) rfl)) (L_rb aa rfl (L_pu (P_fa fa61_1 ⟨ad, 0, none⟩ ⟨ad, 1, none⟩ rfl rfl) (L_rb aa rfl (L_pu (P_lda ag58 sz58 cL ⟨ad, 1, none⟩ [vi b.Shape.Kind, .slice ae af ag] rfl rfl (an.cells (off := 1) rfl)) (L_rb aa rfl ?_))))))))
  refine L_call go68 [.agg #[vi a.Shape.Kind, .slice A2 n3 c4], .agg #[vi b.Shape.Kind, .slice ae af ag]] rfl ((F25.calls a1 ak.ok a.Shape A2 n3 c4 (hp5.st ak.st) b.Shape ae af ag (av.st ak.st) _ H).mono ?_)
  rintro _ a5 ⟨r, rfl, H, aq⟩
  have al := ak.k0 aq
  refine L_pu (P_pick true (vb r) (by exact congrArg Value.bool aa) rfl) (L_mv (vb r) rfl ?_)
  rcases bool_or r with ab | ab
  ·have H := ite_t H ab
   refine L_rb ab rfl (L_pu (P_fa fa61_2 ⟨ac, 0, none⟩ ⟨ac, 3, none⟩ rfl rfl) (L_rb ab rfl ?_))
   have ar := ak.stn aq
   have a6 := (ao.st ar)
   refine L_pu (P_ld ag59 cL ⟨ac, 3, none⟩ (.slice A7 n8 c9) rfl (a6.cell rfl)) (L_rb ab rfl (L_pu (P_fa fa61_2 ⟨ad, 0, none⟩ ⟨ad, 3, none⟩ rfl rfl) (L_rb ab rfl ?_)))
   have a7 := (an.st ar)
   refine L_pu (P_ld ag59 cL ⟨ad, 3, none⟩ (.slice ah ai aj) rfl (a7.cell rfl)) (L_rb ab rfl ?_)
   refine L_call go69 [.slice A7 n8 c9, .slice ah ai aj] rfl ((F11.calls a5 al.ok a.Tags A7 n8 c9 (au.st al.st) b.Tags ah ai aj (aw.st al.st) _ H).mono ?_)
   rintro _ bc ⟨r2, rfl, H, a8⟩
   have a9 := al.k0 a8
   exact L_pu (P_pick true (vb r2) (by exact congrArg Value.bool ab) rfl) (L_as (vb r2) rfl (L_nil (W_ret ⟨[vb r2], ⟨_, rfl, rfl⟩, r2, rfl, H, a9.gr.g0⟩)))
  have H := ite_f H ab
  refine L_pb ab rfl (L_pb ab rfl (L_pb ab rfl (L_pb ab rfl (L_pb ab rfl (L_pu (P_pick false (vb false) (by exact congrArg Value.bool ab) rfl) (L_as (vb false) rfl (L_nil (W_ret ?_))))))))
  exact ⟨[vb false], ⟨_, rfl, rfl⟩, false, rfl, H, al.gr.g0⟩
 have H := ite_f H aa
 refine L_pb aa rfl (L_pb aa rfl (L_pb aa rfl (L_pb aa rfl (L_pb aa rfl (L_pu (P_pick false (vb false) (by exact congrArg Value.bool aa) rfl) (L_mv (vb false) rfl (L_pass (dj := 17) rfl rfl (.inl rfl) (L_pass (dj := 17) rfl rfl (.inl rfl) ?_))))))))
 exact L_pass (dj := 17) rfl rfl (.inl rfl) (L_pass (dj := 17) rfl rfl (.inl rfl) (L_pass (dj := 17) rfl rfl (.inl rfl) (L_pu (P_pick false (vb false) (by exact congrArg Value.bool rfl) rfl) (L_as (vb false) rfl (L_nil (W_ret ⟨[vb false], ⟨_, rfl, rfl⟩, false, rfl, H, ak.gr.g0⟩))))))
end
section
open Go.RowKit
def F12.E (c_ : Change) (Q : Bool → Prop) : Prop :=
 (if c_.Had == c_.Has then F36.E c_.Was c_.Now (fun r => Q r) else Q false)
theorem F12.calls {O : Ob} (w0 : World) (hO : Ok w0 O) (c_ : Change) (A3 : Option Addr) (n4 c5 : Nat) (A8 : Option Addr) (n9 ad : Nat) (ae : Option Addr) (af ag : Nat) (ah : Option Addr) (ai aj : Nat) (hs1 : Lim c_.Id) (hs2 : Lim c_.Was.Id) (hp6 : Sl kPt w0 (Fr O) (.slice A3 n4 c5) c_.Was.Shape.Pts) (al : Sl kTag w0 (Fr O) (.slice A8 n9 ad) c_.Was.Tags) (am : Lim c_.Now.Id) (an : Sl kPt w0 (Fr O) (.slice ae af ag) c_.Now.Shape.Pts) (ao : Sl kTag w0 (Fr O) (.slice ah ai aj) c_.Now.Tags) (Q : Bool → Prop) (h : F12.E c_ Q) :
  Ret Tryz.prog 67 [.agg #[vs c_.Id, vb c_.Had, vs c_.Was.Id, vi c_.Was.Shape.Kind, .slice A3 n4 c5, .slice A8 n9 ad, vb c_.Has, vs c_.Now.Id, vi c_.Now.Shape.Kind, .slice ae af ag, .slice ah ai aj]] w0 (fun v w' => ∃ (r0 : Bool), v = vb r0 ∧ Q r0 ∧ Gr w0 w' none) := by
 unfold F12.E at h
 have H := h
 clear h
 have hc0 := Ct.init hO
 refine Ret_enter Tryz.func67 rfl 15 rfl [.tmp 2] rfl rfl ?_
 refine W_seq (W_reg (L_box [vs c_.Id, vb c_.Had, vs c_.Was.Id, vi c_.Was.Shape.Kind, .slice A3 n4 c5, .slice A8 n9 ad, vb c_.Has, vs c_.Now.Id, vi c_.Now.Shape.Kind, .slice ae af ag, .slice ah ai aj] rfl fun ap ab aq hu28 ar au => ?_))
 have ak := Fb.mk hc0.ok aq au
 have ac := hc0.k0 ar
 refine L_as (vb false) rfl (L_nil (W_seq (W_reg (L_pu (P_fa fa63_1 ⟨ab, 0, none⟩ ⟨ab, 1, none⟩ rfl rfl) (L_pu (P_ld ag4 cL ⟨ab, 1, none⟩ (vb c_.Had) rfl (ak.cell rfl)) (L_pu (P_fa fa63_3 ⟨ab, 0, none⟩ ⟨ab, 6, none⟩ rfl rfl) (L_pu (P_ld ag4 cL ⟨ab, 6, none⟩ (vb c_.Has) rfl (ak.cell rfl)) (L_pu (P_bcmp Tryz.underlying4 c_.Had c_.Has (c_.Had == c_.Has) rfl rfl rfl) ?_))))))))
 refine L_mv (vb (c_.Had == c_.Has)) rfl ?_
 rcases bool_or (c_.Had == c_.Has) with aa | aa
 ·have H := ite_t H aa
  refine L_rb aa rfl (L_pu (P_fa fa63_2 ⟨ab, 0, none⟩ ⟨ab, 2, none⟩ rfl rfl) (L_rb aa rfl (L_pu (P_lda ag61 sz61 cL ⟨ab, 2, none⟩ [vs c_.Was.Id, vi c_.Was.Shape.Kind, .slice A3 n4 c5, .slice A8 n9 ad] rfl rfl (ak.cells (off := 2) rfl)) (L_rb aa rfl (L_pu (P_fa fa63_4 ⟨ab, 0, none⟩ ⟨ab, 7, none⟩ rfl rfl) (L_rb aa rfl (L_pu (P_lda ag61 sz61 cL ⟨ab, 7, none⟩ [vs c_.Now.Id, vi c_.Now.Shape.Kind, .slice ae af ag, .slice ah ai aj] rfl rfl (ak.cells (off := 7) rfl)) (L_rb aa rfl ?_))))))))
  refine L_call go35 [.agg #[vs c_.Was.Id, vi c_.Was.Shape.Kind, .slice A3 n4 c5, .slice A8 n9 ad], .agg #[vs c_.Now.Id, vi c_.Now.Shape.Kind, .slice ae af ag, .slice ah ai aj]] rfl ((F36.calls ap ac.ok c_.Was A3 n4 c5 A8 n9 ad hs2 (hp6.st ac.st) (al.st ac.st) c_.Now ae af ag ah ai aj am (an.st ac.st) (ao.st ac.st) _ H).mono ?_)
  rintro _ ax ⟨r, rfl, H, av⟩
  have aw := ac.k0 av
  exact L_pu (P_pick true (vb r) (by exact congrArg Value.bool aa) rfl) (L_as (vb r) rfl (L_nil (W_ret ⟨[vb r], ⟨_, rfl, rfl⟩, r, rfl, H, aw.gr.g0⟩)))
 have H := ite_f H aa
 refine L_pb aa rfl (L_pb aa rfl (L_pb aa rfl (L_pb aa rfl (L_pb aa rfl (L_pu (P_pick false (vb false) (by exact congrArg Value.bool aa) rfl) (L_as (vb false) rfl (L_nil (W_ret ?_))))))))
 exact ⟨[vb false], ⟨_, rfl, rfl⟩, false, rfl, H, ac.gr.g0⟩
end
end Go.Proofs.YtndjggncgpjolaaGreat