/- It is proved here that the law FnExactFeatJoin of the given program holds whatever it is handed: the walks through the code, the plain laws and the row, in this order.
   Conditions: none. -/
import Derived.Below
import Derived.ChangeArms
import Derived.ChangeOld
import Derived.ChangeSlices
import Derived.DataReads
import Derived.Deep.Quiet
import Derived.KernelRfl
import Derived.Laws.Build
import Derived.Laws.IdiomStrings
import Derived.Laws.OwnMore
import Derived.Laws.Slices
import Derived.Laws.StructEq
import Derived.OpenShut
import Derived.ProofKit
import Derived.Shelf.Slices.Cells
import Derived.Shelf.Slices.CompactS
import Derived.Shelf.Slices.In.SortNone
import Derived.Shelf.Small.Bits
import Derived.Shelf.Sort.Plain
import Derived.Shelf.Strconv.Itoa0
import Derived.ShutString
import Derived.SizedLaws
import Derived.StillTail
import Derived.Test.YtndjggncgpjolaaProg
import Derived.Test.YtndjggncgpjolaaRows
import Derived.WalkKit
import Derived.Test.YtndjggncgpjolaaCExactFeatJoina
namespace Go.Proofs.Ytndjggncgpjolaa
open Go.RowKit
set_option linter.unusedVariables false
set_option linter.unusedSimpArgs false
def laws_toPtS.E (a : List Pt) (Q : List Pt → Prop) : Prop :=
 ((0 : Int) ≤ (a.length : Int) ∧ (a.length : Int) ≤ (268435456 : Int)) ∧ (∃ (I41 : (List Pt) → Int → Prop) (mu42 : (List Pt) → Int → Nat), I41 (List.replicate (a.length : Int).toNat ((⟨0, 0⟩ : Pt) : Pt)) 0 ∧ ∀ (xs2 : List Pt) (i2 : Int), I41 xs2 i2 → (if decide (i2 < (a.length : Int)) then ((0 : Int) ≤ i2 ∧ i2 < (a.length : Int)) ∧ laws_toPt.E (nth a i2) (fun r => ((0 : Int) ≤ i2 ∧ i2 < (xs2.length : Int)) ∧ (-9223372036854775808 ≤ i2) ∧ I41 (xs2.set i2.toNat r) (i2 + 1) ∧ mu42 (xs2.set i2.toNat r) (i2 + 1) < mu42 xs2 i2) else Q xs2))
set_option maxHeartbeats 8000000 in
set_option maxRecDepth 100000 in
theorem laws_toPtS.calls {O : Ob} (w0 : World) (hO : Ok w0 O) (a : List Pt) (A1 : Option Addr) (n2 c3 : Nat) (hp4 : Sl kPt w0 (Fr O) (.slice A1 n2 c3) a) (Q : List Pt → Prop) (h : laws_toPtS.E a Q) :
  Ret Try.prog 139 [.slice A1 n2 c3] w0 (fun v w' => ∃ (r0 : List Pt) (A0 : Option Addr) (n0 c0 : Nat), v = .slice A0 n0 c0 ∧ Q r0 ∧ Gr w0 w' none ∧ Ok w' ([bk A0] ++ O) ∧ (∀ b, some b ∈ [bk A0] → w0.heap.size ≤ b) ∧ Ow kPt 29 w' ([bk A0] ++ O) (.slice A0 n0 c0) r0) := by
 unfold laws_toPtS.E at h
 have H := h
 clear h
 have hc0 := Ct.init hO
 refine Ret_enter Try.func139 rfl 23 rfl [.tmp 2] rfl rfl ?_
 refine W_seq ?_
 refine W_reg ?_
 refine L_pu (P_assign (.slice none 0 0) rfl) ?_
 refine L_nil ?_
 refine W_seq ?_
 refine W_reg ?_
 refine L_pu (P_move (.slice A1 n2 c3) rfl) ?_
 have hl6 := hp4.le
 refine L_pu (P_len Try.underlying60 A1 n2 c3 hp4.len rfl) ?_
 obtain ⟨hb7, H⟩ := H
 refine L_make (kd := kPt) ei23 hc0 ((⟨0, 0⟩ : Pt) : Pt) ((kPt.mk _ _ (⟨0, 0⟩ : Pt))) (a.length : Int) rfl rfl hb7 fun w8 A9 aa ab bd hr13 ak au => ?_
 refine L_pu (P_assign (.slice A9 aa ab) rfl) ?_
 refine L_nil ?_
 refine W_seq ?_
 refine W_seq ?_
 refine W_reg ?_
 refine L_pu (P_assign (vi 0) rfl) ?_
 refine L_nil ?_
 refine W_block ?_
 obtain ⟨av, aw, ag, H⟩ := H
 refine W_loop (α := (List Pt) × Int) (fun (sv__ : (List Pt) × Int) t ad => match sv__ with | (xs2, i2) => av xs2 i2 ∧ Has t [(0, .slice A1 n2 c3), (3, .slice A9 aa ab), (4, vi i2)] ∧ Ct [] w0 ad [bk A9] O ∧ Sl kPt ad (Fr ([bk A9] ++ O)) (.slice A1 n2 c3) a ∧ Ow kPt 29 ad ([bk A9] ++ O) (.slice A9 aa ab) xs2) (fun (sv__ : (List Pt) × Int) => match sv__ with | (xs2, i2) => aw xs2 i2) ((List.replicate (a.length : Int).toNat ((⟨0, 0⟩ : Pt) : Pt)), 0) ⟨ag, ⟨rfl, rfl, rfl, trivial⟩, ak, (hp4.st ak.st), au⟩ ?_
 rintro ⟨xs2, i2⟩ _ ad ⟨ag, ax, ac, ae, al⟩
 obtain ⟨be, rfl⟩ := Has.ins ax
 have H := H xs2 i2 ag
 refine W_seq ?_
 refine W_seq ?_
 refine W_reg ?_
 refine L_pu (P_move (vi i2) rfl) ?_
 refine L_pu (P_move (.slice A1 n2 c3) rfl) ?_
 have ay := ae.le
 refine L_pu (P_len Try.underlying60 A1 n2 c3 ae.len rfl) ?_
 refine L_pu (P_cmp i2 (a.length : Int) (decide (i2 < (a.length : Int))) rfl rfl rfl) ?_
 refine L_nil ?_
 refine W_cond (decide (i2 < (a.length : Int))) rfl (fun af => ?_) (fun af => ?_)
 ·have H := ite_t H af
  refine W_skip ?_
  refine W_seq ?_
  refine W_block ?_
  refine W_reg ?_
  refine L_pu (P_move (.slice A9 aa ab) rfl) ?_
  refine L_pu (P_move (vi i2) rfl) ?_
  refine L_pu (P_move (.slice A1 n2 c3) rfl) ?_
  refine L_pu (P_move (vi i2) rfl) ?_
  obtain ⟨am, H⟩ := H
  obtain ⟨an, bf, az, bg, a0, a1⟩ := ae.get default (by decide) i2 am
  obtain rfl := kPt.op a0
  refine L_pu (P_ia Try.underlying60 se60 A1 an n2 c3 ae.len i2 rfl az rfl am) ?_
  refine L_pu (P_lda ag201 sz201 cL (an.add (i2.toNat * 2)) [vi ((nth a i2).X), vi ((nth a i2).Y)] rfl rfl a1) ?_
  refine L_call go168 [.agg #[vi ((nth a i2).X), vi ((nth a i2).Y)]] rfl ((laws_toPt.calls ad ac.ok (nth a i2) _ H).mono ?_)
  rintro _ bh ⟨r, rfl, H, ah⟩
  have ao := ac.k0 ah
  obtain ⟨ai, H⟩ := H
  have aj := (al.sn ah)
  obtain ⟨ap, bi, aq, a2, a3⟩ := aj.get default (by decide) i2 ai
  obtain rfl := kPt.op a2
  refine L_pu (P_ia Try.underlying23 se23 A9 ap aa ab aj.len i2 rfl aq rfl ai) ?_
  refine L_ste0 A9 aa ab xs2 aj i2 ai ap aq 0 rfl [vi r.X, vi r.Y] rfl sz29 rfl r [vi ((nth xs2 i2).X), vi ((nth xs2 i2).Y)] [vi r.X, vi r.Y] a3 rfl rfl (kPt.mk _ _ r) fun bj ar a4 => ?_
  have a5 := ao.wr 0 rfl ar
  refine L_nil ?_
  refine W_reg ?_
  refine L_pu (P_move (vi i2) rfl) ?_
  obtain ⟨a6, H⟩ := H
  have a7 : I64 (i2 + 1) := i64_succ (of_decide_eq_true af) ay a6
  refine L_pu (P_add i2 1 rfl rfl a7) ?_
  refine L_pu (P_assign (vi (i2 + 1)) rfl) ?_
  refine L_nil ?_
  obtain ⟨a8, a9⟩ := H
  have ba := ac.stn ah
  have bb := ao.stw 0 rfl ar
  have bc := ((ae.st ba).st bb)
  exact ⟨((xs2.set i2.toNat r), i2 + 1), a9, a8, ⟨rfl, rfl, rfl, trivial⟩, a5, bc, a4⟩
 ·have H := ite_f H af
  refine W_exit (xin_hit ?_)
  refine W_seq ?_
  refine W_reg ?_
  refine L_pu (P_move (.slice A9 aa ab) rfl) ?_
  refine L_pu (P_assign (.slice A9 aa ab) rfl) ?_
  refine L_nil ?_
  refine W_ret ?_
  exact ⟨[.slice A9 aa ab], ⟨_, rfl, rfl⟩, xs2, A9, aa, ab, rfl, H, ac.gr.g0, ac.ok, ac.ge, al⟩
end Go.Proofs.Ytndjggncgpjolaa

namespace Go.Proofs.Ytndjggncgpjolaa
open Go.RowKit
set_option linter.unusedVariables false
set_option linter.unusedSimpArgs false
def laws_toShape.E (a : Shape) (Q : Shape → Prop) : Prop :=
 laws_toPtS.E a.Pts (fun r => Q (⟨a.Kind, r⟩ : Shape))
set_option maxHeartbeats 8000000 in
set_option maxRecDepth 100000 in
theorem laws_toShape.calls {O : Ob} (w0 : World) (hO : Ok w0 O) (a : Shape) (A1 : Option Addr) (n2 c3 : Nat) (hp4 : Sl kPt w0 (Fr O) (.slice A1 n2 c3) a.Pts) (Q : Shape → Prop) (h : laws_toShape.E a Q) :
  Ret Try.prog 91 [.agg #[vi a.Kind, .slice A1 n2 c3]] w0 (fun v w' => ∃ (r0 : Shape) (A0 : Option Addr) (n0 c0 : Nat), v = .agg #[vi r0.Kind, .slice A0 n0 c0] ∧ Q r0 ∧ Gr w0 w' none ∧ Ok w' ([bk A0] ++ O) ∧ (∀ b, some b ∈ [bk A0] → w0.heap.size ≤ b) ∧ Ow kPt 29 w' ([bk A0] ++ O) (.slice A0 n0 c0) r0.Pts) := by
 unfold laws_toShape.E at h
 have H := h
 clear h
 have hc0 := Ct.init hO
 refine Ret_enter Try.func91 rfl 12 rfl [.cell 2 68] rfl rfl ?_
 refine W_seq ?_
 refine W_reg ?_
 refine L_box [vi a.Kind, .slice A1 n2 c3] rfl fun w6 b7 hl9 hu10 g8 az => ?_
 have a0 := Fb.mk hc0.ok hl9 az
 have ao := hc0.k0 g8
 refine L_alloc [.int .i64 0, .slice none 0 0] ze68 fun bl ap aq hu19 ar a1 => ?_
 have au := ao.own ar (some ap) (oglt aq hu19)
 refine L_nil ?_
 refine W_seq ?_
 refine W_reg ?_
 refine L_alloc [.int .i64 0, .slice none 0 0] ze68 fun bn aa av hu27 ae a2 => ?_
 have af := au.own ae (some aa) (oglt av hu27)
 refine L_nil ?_
 refine W_seq ?_
 refine W_reg ?_
 refine L_pu (P_fa fa62_0 ⟨b7, 0, none⟩ ⟨b7, 0, none⟩ rfl rfl) ?_
 have a3 := ao.stown _ ar (oge aq)
 have a4 := au.stown _ ae (oge av)
 have aw := ((a0.st a3).st a4)
 refine L_pu (P_ld ag3 cL ⟨b7, 0, none⟩ (vi a.Kind) rfl (aw.cell rfl)) ?_
 refine L_pu (P_fa fa68_0 ⟨aa, 0, none⟩ ⟨aa, 0, none⟩ rfl rfl) ?_
 refine L_stb aa 0 [vi 0, .slice none 0 0] [vi a.Kind] [vi a.Kind, .slice none 0 0] rfl a2 rfl sz3 rfl rfl rfl fun a5 ag a6 => ?_
 have ah := af.wr 0 rfl ag
 refine L_nil ?_
 refine W_seq ?_
 refine W_reg ?_
 refine L_pu (P_fa fa62_1 ⟨b7, 0, none⟩ ⟨b7, 1, none⟩ rfl rfl) ?_
 have a7 := af.stw 0 rfl ag
 have a8 := (aw.st a7)
 refine L_pu (P_ld ag60 cL ⟨b7, 1, none⟩ (.slice A1 n2 c3) rfl (a8.cell rfl)) ?_
 refine L_call go139 [.slice A1 n2 c3] rfl ((laws_toPtS.calls a5 ah.ok a.Pts A1 n2 c3 (hp4.st ah.st) _ H).mono ?_)
 rintro _ bo ⟨r, ab, ac, ad, rfl, H, ai, a9, ba, bb⟩
 have aj := ah.owns ai a9 ba
 refine L_pu (P_fa fa68_1 ⟨aa, 0, none⟩ ⟨aa, 1, none⟩ rfl rfl) ?_
 have bc := (a6.k0 ai)
 refine L_stb aa 1 [vi a.Kind, .slice none 0 0] [.slice ab ac ad] [vi a.Kind, .slice ab ac ad] rfl bc rfl sz23 rfl rfl rfl fun bp ak bd => ?_
 have ax := aj.wr 1 rfl ak
 refine L_nil ?_
 refine W_seq ?_
 refine W_reg ?_
 refine L_pu (P_lda ag68 sz68 cL ⟨aa, 0, none⟩ [vi a.Kind, .slice ab ac ad] rfl rfl (bd.cells (off := 0) rfl)) ?_
 have be := (aj.bm ((af.bm (a1.k0 ae) 1 0 rfl rfl rfl ag).k0 ai) 2 1 rfl rfl rfl ak)
 refine L_stb ap 0 [vi 0, .slice none 0 0] [vi a.Kind, .slice ab ac ad] [vi a.Kind, .slice ab ac ad] rfl be rfl sz68 rfl rfl rfl fun bq ay bf => ?_
 have al := ax.wr 2 rfl ay
 refine L_nil ?_
 refine W_ret ?_
 have bg := al.bgv bf 2 rfl
 have am := al.drop 2 rfl
 have an := am.drop 1 rfl
 have bh := am.std 1 rfl
 have bi := (bg.st bh)
 have bj := (am.sd (al.sd (ax.sw (aj.sw bb 0 1 rfl rfl rfl ak) 0 2 rfl rfl rfl ay) 0 2 rfl rfl rfl) 0 1 rfl rfl rfl)
 exact ⟨[.agg #[vi a.Kind, .slice ab ac ad]], ⟨_, _, rfl, bi.1.res rfl ag68 sz68, rfl⟩, (⟨a.Kind, r⟩ : Shape), ab, ac, ad, rfl, H, an.gr.g0, an.ok, an.ge, bj⟩
end Go.Proofs.Ytndjggncgpjolaa

namespace Go.Proofs.Ytndjggncgpjolaa
open Go.RowKit
set_option linter.unusedVariables false
set_option linter.unusedSimpArgs false
def laws_toTag.E (a : Tag) (Q : Tag → Prop) : Prop :=
 Q a
set_option maxHeartbeats 8000000 in
set_option maxRecDepth 100000 in
theorem laws_toTag.calls {O : Ob} (w0 : World) (hO : Ok w0 O) (a : Tag) (hs1 : Lim a.Key) (hs2 : Lim a.Val) (Q : Tag → Prop) (h : laws_toTag.E a Q) :
  Ret Try.prog 140 [.agg #[vs a.Key, vs a.Val]] w0 (fun v w' => ∃ (r0 : Tag), v = .agg #[vs r0.Key, vs r0.Val] ∧ Q r0 ∧ Gr w0 w' none ∧ Lim r0.Key ∧ Lim r0.Val) := by
 unfold laws_toTag.E at h
 have H := h
 clear h
 have hc0 := Ct.init hO
 refine Ret_enter Try.func140 rfl 11 rfl [.cell 2 133] rfl rfl ?_
 refine W_seq ?_
 refine W_reg ?_
 refine L_box [vs a.Key, vs a.Val] rfl fun w3 b4 hl6 hu7 g5 hx8 => ?_
 have ap := Fb.mk hc0.ok hl6 hx8
 have ae := hc0.k0 g5
 refine L_alloc [vs [], vs []] ze133 fun a8 af ag hu16 ah aq => ?_
 have ai := ae.own ah (some af) (oglt ag hu16)
 refine L_nil ?_
 refine W_seq ?_
 refine W_reg ?_
 refine L_alloc [vs [], vs []] ze133 fun a9 aa aj hu24 ab ar => ?_
 have ac := ai.own ab (some aa) (oglt aj hu24)
 refine L_nil ?_
 refine W_seq ?_
 refine W_reg ?_
 refine L_pu (P_fa fa166_0 ⟨b4, 0, none⟩ ⟨b4, 0, none⟩ rfl rfl) ?_
 have au := ae.stown _ ah (oge ag)
 have av := ai.stown _ ab (oge aj)
 have ak := ((ap.st au).st av)
 refine L_pu (P_ld ag9 cL ⟨b4, 0, none⟩ (vs a.Key) rfl (ak.cell rfl)) ?_
 refine L_pu (P_fa fa133_0 ⟨aa, 0, none⟩ ⟨aa, 0, none⟩ rfl rfl) ?_
 refine L_stb aa 0 [vs ([] : Str), vs ([] : Str)] [vs a.Key] [vs a.Key, vs ([] : Str)] rfl ar rfl sz9 rfl rfl rfl fun ba ad aw => ?_
 have al := ac.wr 0 rfl ad
 refine L_nil ?_
 refine W_seq ?_
 refine W_reg ?_
 refine L_pu (P_fa fa166_1 ⟨b4, 0, none⟩ ⟨b4, 1, none⟩ rfl rfl) ?_
 have ax := ac.stw 0 rfl ad
 have ay := (ak.st ax)
 refine L_pu (P_ld ag9 cL ⟨b4, 1, none⟩ (vs a.Val) rfl (ay.cell rfl)) ?_
 refine L_pu (P_fa fa133_1 ⟨aa, 0, none⟩ ⟨aa, 1, none⟩ rfl rfl) ?_
 refine L_stb aa 1 [vs a.Key, vs ([] : Str)] [vs a.Val] [vs a.Key, vs a.Val] rfl aw rfl sz9 rfl rfl rfl fun bb am az => ?_
 have a0 := al.wr 0 rfl am
 refine L_nil ?_
 refine W_seq ?_
 refine W_reg ?_
 refine L_pu (P_lda ag133 sz133 cL ⟨aa, 0, none⟩ [vs a.Key, vs a.Val] rfl rfl (az.cells (off := 0) rfl)) ?_
 have a1 := (al.bm (ac.bm (aq.k0 ab) 1 0 rfl rfl rfl ad) 1 0 rfl rfl rfl am)
 refine L_stb af 0 [vs ([] : Str), vs ([] : Str)] [vs a.Key, vs a.Val] [vs a.Key, vs a.Val] rfl a1 rfl sz133 rfl rfl rfl fun bc a2 a3 => ?_
 have an := a0.wr 1 rfl a2
 refine L_nil ?_
 refine W_ret ?_
 have a4 := an.bgv a3 1 rfl
 have ao := an.drop 1 rfl
 have a5 := ao.drop 0 rfl
 have a6 := ao.std 0 rfl
 have a7 := (a4.st a6)
 exact ⟨[.agg #[vs a.Key, vs a.Val]], ⟨_, _, rfl, a7.1.res rfl ag133 sz133, rfl⟩, a, rfl, H, a5.gr.g0, hs1, hs2⟩
end Go.Proofs.Ytndjggncgpjolaa

namespace Go.Proofs.Ytndjggncgpjolaa
open Go.RowKit
set_option linter.unusedVariables false
set_option linter.unusedSimpArgs false
def laws_toTagS.E (a : List Tag) (Q : List Tag → Prop) : Prop :=
 ((0 : Int) ≤ (a.length : Int) ∧ (a.length : Int) ≤ (268435456 : Int)) ∧ (∃ (I41 : (List Tag) → Int → Prop) (mu42 : (List Tag) → Int → Nat), I41 (List.replicate (a.length : Int).toNat ((⟨([] : Str), ([] : Str)⟩ : Tag) : Tag)) 0 ∧ ∀ (xs2 : List Tag) (i2 : Int), I41 xs2 i2 → (if decide (i2 < (a.length : Int)) then ((0 : Int) ≤ i2 ∧ i2 < (a.length : Int)) ∧ laws_toTag.E (nth a i2) (fun r => ((0 : Int) ≤ i2 ∧ i2 < (xs2.length : Int)) ∧ (-9223372036854775808 ≤ i2) ∧ I41 (xs2.set i2.toNat r) (i2 + 1) ∧ mu42 (xs2.set i2.toNat r) (i2 + 1) < mu42 xs2 i2) else Q xs2))
set_option maxHeartbeats 8000000 in
set_option maxRecDepth 100000 in
theorem laws_toTagS.calls {O : Ob} (w0 : World) (hO : Ok w0 O) (a : List Tag) (A1 : Option Addr) (n2 c3 : Nat) (hp4 : Sl kTag w0 (Fr O) (.slice A1 n2 c3) a) (Q : List Tag → Prop) (h : laws_toTagS.E a Q) :
  Ret Try.prog 92 [.slice A1 n2 c3] w0 (fun v w' => ∃ (r0 : List Tag) (A0 : Option Addr) (n0 c0 : Nat), v = .slice A0 n0 c0 ∧ Q r0 ∧ Gr w0 w' none ∧ Ok w' ([bk A0] ++ O) ∧ (∀ b, some b ∈ [bk A0] → w0.heap.size ≤ b) ∧ Ow kTag 133 w' ([bk A0] ++ O) (.slice A0 n0 c0) r0) := by
 unfold laws_toTagS.E at h
 have H := h
 clear h
 have hc0 := Ct.init hO
 refine Ret_enter Try.func92 rfl 23 rfl [.tmp 2] rfl rfl ?_
 refine W_seq ?_
 refine W_reg ?_
 refine L_pu (P_assign (.slice none 0 0) rfl) ?_
 refine L_nil ?_
 refine W_seq ?_
 refine W_reg ?_
 refine L_pu (P_move (.slice A1 n2 c3) rfl) ?_
 have hl6 := hp4.le
 refine L_pu (P_len Try.underlying63 A1 n2 c3 hp4.len rfl) ?_
 obtain ⟨hb7, H⟩ := H
 refine L_make (kd := kTag) ei69 hc0 ((⟨([] : Str), ([] : Str)⟩ : Tag) : Tag) ((kTag.mk _ _ (⟨([] : Str), ([] : Str)⟩ : Tag) (by decide) (by decide))) (a.length : Int) rfl rfl hb7 fun w8 A9 aa ab bh hr13 ak au => ?_
 refine L_pu (P_assign (.slice A9 aa ab) rfl) ?_
 refine L_nil ?_
 refine W_seq ?_
 refine W_seq ?_
 refine W_reg ?_
 refine L_pu (P_assign (vi 0) rfl) ?_
 refine L_nil ?_
 refine W_block ?_
 obtain ⟨av, aw, ag, H⟩ := H
 refine W_loop (α := (List Tag) × Int) (fun (sv__ : (List Tag) × Int) t ad => match sv__ with | (xs2, i2) => av xs2 i2 ∧ Has t [(0, .slice A1 n2 c3), (3, .slice A9 aa ab), (4, vi i2)] ∧ Ct [] w0 ad [bk A9] O ∧ Sl kTag ad (Fr ([bk A9] ++ O)) (.slice A1 n2 c3) a ∧ Ow kTag 133 ad ([bk A9] ++ O) (.slice A9 aa ab) xs2) (fun (sv__ : (List Tag) × Int) => match sv__ with | (xs2, i2) => aw xs2 i2) ((List.replicate (a.length : Int).toNat ((⟨([] : Str), ([] : Str)⟩ : Tag) : Tag)), 0) ⟨ag, ⟨rfl, rfl, rfl, trivial⟩, ak, (hp4.st ak.st), au⟩ ?_
 rintro ⟨xs2, i2⟩ _ ad ⟨ag, ax, ac, ae, al⟩
 obtain ⟨bi, rfl⟩ := Has.ins ax
 have H := H xs2 i2 ag
 refine W_seq ?_
 refine W_seq ?_
 refine W_reg ?_
 refine L_pu (P_move (vi i2) rfl) ?_
 refine L_pu (P_move (.slice A1 n2 c3) rfl) ?_
 have ay := ae.le
 refine L_pu (P_len Try.underlying63 A1 n2 c3 ae.len rfl) ?_
 refine L_pu (P_cmp i2 (a.length : Int) (decide (i2 < (a.length : Int))) rfl rfl rfl) ?_
 refine L_nil ?_
 refine W_cond (decide (i2 < (a.length : Int))) rfl (fun af => ?_) (fun af => ?_)
 ·have H := ite_t H af
  refine W_skip ?_
  refine W_seq ?_
  refine W_block ?_
  refine W_reg ?_
  refine L_pu (P_move (.slice A9 aa ab) rfl) ?_
  refine L_pu (P_move (vi i2) rfl) ?_
  refine L_pu (P_move (.slice A1 n2 c3) rfl) ?_
  refine L_pu (P_move (vi i2) rfl) ?_
  obtain ⟨am, H⟩ := H
  obtain ⟨an, bj, az, bl, a0, a1⟩ := ae.get default (by decide) i2 am
  obtain ⟨rfl, a2, a3⟩ := kTag.op a0
  refine L_pu (P_ia Try.underlying63 se63 A1 an n2 c3 ae.len i2 rfl az rfl am) ?_
  refine L_pu (P_lda ag166 sz166 cL (an.add (i2.toNat * 2)) [vs ((nth a i2).Key), vs ((nth a i2).Val)] rfl rfl a1) ?_
  refine L_call go140 [.agg #[vs ((nth a i2).Key), vs ((nth a i2).Val)]] rfl ((laws_toTag.calls ad ac.ok (nth a i2) a2 a3 _ H).mono ?_)
  rintro _ bm ⟨r, rfl, H, ah, a4, a5⟩
  have ao := ac.k0 ah
  obtain ⟨ai, H⟩ := H
  have aj := (al.sn ah)
  obtain ⟨ap, bn, aq, a6, a7⟩ := aj.get default (by decide) i2 ai
  obtain ⟨rfl, bo, bp⟩ := kTag.op a6
  refine L_pu (P_ia Try.underlying69 se69 A9 ap aa ab aj.len i2 rfl aq rfl ai) ?_
  refine L_ste0 A9 aa ab xs2 aj i2 ai ap aq 0 rfl [vs r.Key, vs r.Val] rfl sz133 rfl r [vs ((nth xs2 i2).Key), vs ((nth xs2 i2).Val)] [vs r.Key, vs r.Val] a7 rfl rfl (kTag.mk _ _ r a4 a5) fun bq ar a8 => ?_
  have a9 := ao.wr 0 rfl ar
  refine L_nil ?_
  refine W_reg ?_
  refine L_pu (P_move (vi i2) rfl) ?_
  obtain ⟨ba, H⟩ := H
  have bb : I64 (i2 + 1) := i64_succ (of_decide_eq_true af) ay ba
  refine L_pu (P_add i2 1 rfl rfl bb) ?_
  refine L_pu (P_assign (vi (i2 + 1)) rfl) ?_
  refine L_nil ?_
  obtain ⟨bc, bd⟩ := H
  have be := ac.stn ah
  have bf := ao.stw 0 rfl ar
  have bg := ((ae.st be).st bf)
  exact ⟨((xs2.set i2.toNat r), i2 + 1), bd, bc, ⟨rfl, rfl, rfl, trivial⟩, a9, bg, a8⟩
 ·have H := ite_f H af
  refine W_exit (xin_hit ?_)
  refine W_seq ?_
  refine W_reg ?_
  refine L_pu (P_move (.slice A9 aa ab) rfl) ?_
  refine L_pu (P_assign (.slice A9 aa ab) rfl) ?_
  refine L_nil ?_
  refine W_ret ?_
  exact ⟨[.slice A9 aa ab], ⟨_, rfl, rfl⟩, xs2, A9, aa, ab, rfl, H, ac.gr.g0, ac.ok, ac.ge, al⟩
end Go.Proofs.Ytndjggncgpjolaa

namespace Go.Proofs.Ytndjggncgpjolaa
open Go.RowKit
set_option linter.unusedVariables false
set_option linter.unusedSimpArgs false
def laws_toFeat.E (a : Feat) (Q : Feat → Prop) : Prop :=
 laws_toShape.E a.Shape (fun r => laws_toTagS.E a.Tags (fun r2 => Q (⟨a.Id, r, r2⟩ : Feat)))
set_option maxHeartbeats 8000000 in
set_option maxRecDepth 100000 in
theorem laws_toFeat.calls {O : Ob} (w0 : World) (hO : Ok w0 O) (a : Feat) (A2 : Option Addr) (n3 c4 : Nat) (A7 : Option Addr) (n8 c9 : Nat) (hs1 : Lim a.Id) (hp5 : Sl kPt w0 (Fr O) (.slice A2 n3 c4) a.Shape.Pts) (bb : Sl kTag w0 (Fr O) (.slice A7 n8 c9) a.Tags) (Q : Feat → Prop) (h : laws_toFeat.E a Q) :
  Ret Try.prog 35 [.agg #[vs a.Id, vi a.Shape.Kind, .slice A2 n3 c4, .slice A7 n8 c9]] w0 (fun v w' => ∃ (r0 : Feat) (A0 : Option Addr) (n0 c0 : Nat) (A2 : Option Addr) (n2 c2 : Nat), v = .agg #[vs r0.Id, vi r0.Shape.Kind, .slice A0 n0 c0, .slice A2 n2 c2] ∧ Q r0 ∧ Gr w0 w' none ∧ Ok w' ([bk A0, bk A2] ++ O) ∧ (∀ b, some b ∈ [bk A0, bk A2] → w0.heap.size ≤ b) ∧ Lim r0.Id ∧ Ow kPt 29 w' ([bk A0, bk A2] ++ O) (.slice A0 n0 c0) r0.Shape.Pts ∧ Ow kTag 133 w' ([bk A0, bk A2] ++ O) (.slice A2 n2 c2) r0.Tags) := by
 unfold laws_toFeat.E at h
 have H := h
 clear h
 have hc0 := Ct.init hO
 refine Ret_enter Try.func35 rfl 16 rfl [.cell 2 71] rfl rfl ?_
 refine W_seq ?_
 refine W_reg ?_
 refine L_box [vs a.Id, vi a.Shape.Kind, .slice A2 n3 c4, .slice A7 n8 c9] rfl fun ca ab bc hu16 bd be => ?_
 have bf := Fb.mk hc0.ok bc be
 have a1 := hc0.k0 bd
 refine L_alloc [vs [], .int .i64 0, .slice none 0 0, .slice none 0 0] ze71 fun cb a2 a3 hu25 a4 bg => ?_
 have a5 := a1.own a4 (some a2) (oglt a3 hu25)
 refine L_nil ?_
 refine W_seq ?_
 refine W_reg ?_
 refine L_alloc [vs [], .int .i64 0, .slice none 0 0, .slice none 0 0] ze71 fun cc aa a6 hu33 au bh => ?_
 have av := a5.own au (some aa) (oglt a6 hu33)
 refine L_nil ?_
 refine W_seq ?_
 refine W_reg ?_
 refine L_pu (P_fa fa65_0 ⟨ab, 0, none⟩ ⟨ab, 0, none⟩ rfl rfl) ?_
 have bi := a1.stown _ a4 (oge a3)
 have bj := a5.stown _ au (oge a6)
 have a7 := ((bf.st bi).st bj)
 refine L_pu (P_ld ag9 cL ⟨ab, 0, none⟩ (vs a.Id) rfl (a7.cell rfl)) ?_
 refine L_pu (P_fa fa71_0 ⟨aa, 0, none⟩ ⟨aa, 0, none⟩ rfl rfl) ?_
 refine L_stb aa 0 [vs ([] : Str), vi 0, .slice none 0 0, .slice none 0 0] [vs a.Id] [vs a.Id, vi 0, .slice none 0 0, .slice none 0 0] rfl bh rfl sz9 rfl rfl rfl fun bl aw bn => ?_
 have ai := av.wr 0 rfl aw
 refine L_nil ?_
 refine W_seq ?_
 refine W_reg ?_
 refine L_pu (P_fa fa65_1 ⟨ab, 0, none⟩ ⟨ab, 1, none⟩ rfl rfl) ?_
 have bo := av.stw 0 rfl aw
 have a8 := (a7.st bo)
 refine L_pu (P_lda ag62 sz62 cL ⟨ab, 1, none⟩ [vi a.Shape.Kind, .slice A2 n3 c4] rfl rfl (a8.cells (off := 1) rfl)) ?_
 refine L_call go91 [.agg #[vi a.Shape.Kind, .slice A2 n3 c4]] rfl ((laws_toShape.calls bl ai.ok a.Shape A2 n3 c4 (hp5.st ai.st) _ H).mono ?_)
 rintro _ cd ⟨r, ac, ad, ae, rfl, H, aj, bp, a9, bq⟩
 have ak := ai.owns aj bp a9
 refine L_pu (P_fa fa71_1 ⟨aa, 0, none⟩ ⟨aa, 1, none⟩ rfl rfl) ?_
 have br := (bn.k0 aj)
 refine L_stb aa 1 [vs a.Id, vi 0, .slice none 0 0, .slice none 0 0] [vi r.Kind, .slice ac ad ae] [vs a.Id, vi r.Kind, .slice ac ad ae, .slice none 0 0] rfl br rfl sz68 rfl rfl rfl fun bs al bt => ?_
 have ax := ak.wr 1 rfl al
 refine L_nil ?_
 refine W_seq ?_
 refine W_reg ?_
 refine L_pu (P_fa fa65_2 ⟨ab, 0, none⟩ ⟨ab, 3, none⟩ rfl rfl) ?_
 have bu := ai.stos aj a9
 have bv := ak.stw 1 rfl al
 have bw := ((a8.st bu).st bv)
 refine L_pu (P_ld ag63 cL ⟨ab, 3, none⟩ (.slice A7 n8 c9) rfl (bw.cell rfl)) ?_
 refine L_call go92 [.slice A7 n8 c9] rfl ((laws_toTagS.calls bs ax.ok a.Tags A7 n8 c9 (bb.st ax.st) _ H).mono ?_)
 rintro _ ce ⟨r2, af, ag, ah, rfl, H, am, bx, ba, bz⟩
 have an := ax.owns am bx ba
 refine L_pu (P_fa fa71_2 ⟨aa, 0, none⟩ ⟨aa, 3, none⟩ rfl rfl) ?_
 have b0 := (bt.k0 am)
 refine L_stb aa 3 [vs a.Id, vi r.Kind, .slice ac ad ae, .slice none 0 0] [.slice af ag ah] [vs a.Id, vi r.Kind, .slice ac ad ae, .slice af ag ah] rfl b0 rfl sz69 rfl rfl rfl fun cf ao b1 => ?_
 have ay := an.wr 2 rfl ao
 refine L_nil ?_
 refine W_seq ?_
 refine W_reg ?_
 refine L_pu (P_lda ag71 sz71 cL ⟨aa, 0, none⟩ [vs a.Id, vi r.Kind, .slice ac ad ae, .slice af ag ah] rfl rfl (b1.cells (off := 0) rfl)) ?_
 have b2 := (an.bm ((ak.bm ((av.bm (bg.k0 au) 1 0 rfl rfl rfl aw).k0 aj) 2 1 rfl rfl rfl al).k0 am) 3 2 rfl rfl rfl ao)
 refine L_stb a2 0 [vs ([] : Str), vi 0, .slice none 0 0, .slice none 0 0] [vs a.Id, vi r.Kind, .slice ac ad ae, .slice af ag ah] [vs a.Id, vi r.Kind, .slice ac ad ae, .slice af ag ah] rfl b2 rfl sz71 rfl rfl rfl fun cg az b3 => ?_
 have ap := ay.wr 3 rfl az
 refine L_nil ?_
 refine W_ret ?_
 have b4 := ap.bgv b3 3 rfl
 have aq := ap.drop 3 rfl
 have ar := aq.drop 2 rfl
 have a0 := ar.perm (.swap _ _ _)
 have b5 := aq.std 2 rfl
 have b6 := ar.stp (.swap _ _ _)
 have b7 := ((b4.st b5).st b6)
 have b8 := (ar.sp (aq.sd (ap.sd (ay.sw (an.sw ((ak.sw bq 0 1 rfl rfl rfl al).sos am ba) 1 2 rfl rfl rfl ao) 1 3 rfl rfl rfl az) 1 3 rfl rfl rfl) 1 2 rfl rfl rfl) (.swap _ _ _))
 have b9 := (ar.sp (aq.sd (ap.sd (ay.sw (an.sw bz 0 2 rfl rfl rfl ao) 0 3 rfl rfl rfl az) 0 3 rfl rfl rfl) 0 2 rfl rfl rfl) (.swap _ _ _))
 exact ⟨[.agg #[vs a.Id, vi r.Kind, .slice ac ad ae, .slice af ag ah]], ⟨_, _, rfl, b7.1.res rfl ag71 sz71, rfl⟩, (⟨a.Id, r, r2⟩ : Feat), ac, ad, ae, af, ag, ah, rfl, H, a0.gr.g0, a0.ok, a0.ge, hs1, b8, b9⟩
end Go.Proofs.Ytndjggncgpjolaa

namespace Go.Proofs.Ytndjggncgpjolaa
open Go.RowKit
set_option linter.unusedVariables false
set_option linter.unusedSimpArgs false
def spec_WordOk.E (s : Str) (Q : Bool → Prop) : Prop :=
 (∃ (I8 : Int → Prop) (mu9 : Int → Nat), I8 0 ∧ ∀ (i2 : Int), I8 i2 → (if decide (i2 < (s.length : Int)) then ((0 : Int) ≤ i2 ∧ i2 < (s.length : Int)) ∧ (if decide (((nth s i2).toNat : Int) < 97) then Q false else ((0 : Int) ≤ i2 ∧ i2 < (s.length : Int)) ∧ (if decide (((nth s i2).toNat : Int) > 122) then Q false else (-9223372036854775808 ≤ i2) ∧ I8 (i2 + 1) ∧ mu9 (i2 + 1) < mu9 i2)) else (if decide ((s.length : Int) ≥ 1) then Q (decide ((s.length : Int) ≤ 6)) else Q false)))
set_option maxHeartbeats 8000000 in
set_option maxRecDepth 100000 in
theorem spec_WordOk.calls {O : Ob} (w0 : World) (hO : Ok w0 O) (s : Str) (hs1 : Lim s) (Q : Bool → Prop) (h : spec_WordOk.E s Q) :
  Ret Try.prog 52 [vs s] w0 (fun v w' => ∃ (r0 : Bool), v = vb r0 ∧ Q r0 ∧ Gr w0 w' none) := by
 unfold spec_WordOk.E at h
 have H := h
 clear h
 have hc0 := Ct.init hO
 refine Ret_enter Try.func52 rfl 28 rfl [.tmp 2] rfl rfl ?_
 refine W_seq ?_
 refine W_reg ?_
 refine L_pu (P_assign (vb false) rfl) ?_
 refine L_nil ?_
 refine W_seq ?_
 refine W_seq ?_
 refine W_reg ?_
 refine L_pu (P_assign (vi 0) rfl) ?_
 refine L_nil ?_
 refine W_block ?_
 obtain ⟨I8, mu9, ad, H⟩ := H
 refine W_loop (α := Int) (fun (sv__ : Int) t w6 => match sv__ with | i2 => I8 i2 ∧ Has t [(0, vs s), (3, vi i2)] ∧ Ct [] w0 w6 [] O) (fun (sv__ : Int) => match sv__ with | i2 => mu9 i2) 0 ⟨ad, ⟨rfl, rfl, trivial⟩, hc0⟩ ?_
 rintro i2 _ w6 ⟨ad, af, hc7⟩
 obtain ⟨an, rfl⟩ := Has.ins af
 have H := H i2 ad
 refine W_seq ?_
 refine W_seq ?_
 refine W_reg ?_
 refine L_pu (P_move (vi i2) rfl) ?_
 refine L_pu (P_move (vs s) rfl) ?_
 have ag := hs1
 refine L_pu (P_lens Try.underlying9 s rfl) ?_
 refine L_pu (P_cmp i2 (s.length : Int) (decide (i2 < (s.length : Int))) rfl rfl rfl) ?_
 refine L_nil ?_
 refine W_cond (decide (i2 < (s.length : Int))) rfl (fun ac => ?_) (fun ac => ?_)
 ·have H := ite_t H ac
  refine W_skip ?_
  refine W_seq ?_
  refine W_block ?_
  refine W_seq ?_
  refine W_reg ?_
  refine L_pu (P_move (vs s) rfl) ?_
  refine L_pu (P_move (vi i2) rfl) ?_
  obtain ⟨ah, H⟩ := H
  refine L_pu (P_index Try.underlying9 s i2 rfl rfl ah) ?_
  refine L_pu (P_cmp ((nth s i2).toNat : Int) 97 (decide (((nth s i2).toNat : Int) < 97)) rfl rfl rfl) ?_
  refine L_pu (P_move (vb (decide (((nth s i2).toNat : Int) < 97))) rfl) ?_
  rcases bool_or (decide (((nth s i2).toNat : Int) < 97)) with aa | aa
  ·have H := ite_t H aa
   refine L_pass (dj := 14) rfl rfl (.inl (by exact congrArg Value.bool aa)) ?_
   refine L_pass (dj := 14) rfl rfl (.inl (by exact congrArg Value.bool aa)) ?_
   refine L_pass (dj := 14) rfl rfl (.inl (by exact congrArg Value.bool aa)) ?_
   refine L_pass (dj := 14) rfl rfl (.inl (by exact congrArg Value.bool aa)) ?_
   refine L_pu (P_pick true (vb true) (by exact congrArg Value.bool aa) rfl) ?_
   refine L_nil ?_
   refine W_ct (b := true) rfl rfl ?_
   refine W_seq ?_
   refine W_reg ?_
   refine L_pu (P_assign (vb false) rfl) ?_
   refine L_nil ?_
   refine W_ret ?_
   exact ⟨[vb false], ⟨_, rfl, rfl⟩, false, rfl, H, hc7.gr.g0⟩
  ·have H := ite_f H aa
   refine L_run (dj := 14) rfl rfl (by exact congrArg Value.bool aa) ?_
   refine L_pu (P_move (vs s) rfl) ?_
   refine L_run (dj := 14) rfl rfl (by exact congrArg Value.bool aa) ?_
   refine L_pu (P_move (vi i2) rfl) ?_
   refine L_run (dj := 14) rfl rfl (by exact congrArg Value.bool aa) ?_
   obtain ⟨ai, H⟩ := H
   refine L_pu (P_index Try.underlying9 s i2 rfl rfl ai) ?_
   refine L_run (dj := 14) rfl rfl (by exact congrArg Value.bool aa) ?_
   refine L_pu (P_cmp ((nth s i2).toNat : Int) 122 (decide (((nth s i2).toNat : Int) > 122)) rfl rfl rfl) ?_
   refine L_pu (P_pick false (vb (decide (((nth s i2).toNat : Int) > 122))) (by exact congrArg Value.bool aa) rfl) ?_
   refine L_nil ?_
   refine W_cond (decide (((nth s i2).toNat : Int) > 122)) rfl (fun ae => ?_) (fun ae => ?_)
   ·have H := ite_t H ae
    refine W_seq ?_
    refine W_reg ?_
    refine L_pu (P_assign (vb false) rfl) ?_
    refine L_nil ?_
    refine W_ret ?_
    exact ⟨[vb false], ⟨_, rfl, rfl⟩, false, rfl, H, hc7.gr.g0⟩
   ·have H := ite_f H ae
    refine W_skip ?_
    refine W_reg ?_
    refine L_pu (P_move (vi i2) rfl) ?_
    obtain ⟨aj, H⟩ := H
    have ak : I64 (i2 + 1) := i64_succ (of_decide_eq_true ac) ag aj
    refine L_pu (P_add i2 1 rfl rfl ak) ?_
    refine L_pu (P_assign (vi (i2 + 1)) rfl) ?_
    refine L_nil ?_
    obtain ⟨al, am⟩ := H
    exact ⟨i2 + 1, am, al, ⟨rfl, rfl, trivial⟩, hc7⟩
 ·have H := ite_f H ac
  refine W_exit (xin_hit ?_)
  refine W_seq ?_
  refine W_reg ?_
  refine L_pu (P_move (vs s) rfl) ?_
  refine L_pu (P_lens Try.underlying9 s rfl) ?_
  refine L_pu (P_cmp (s.length : Int) 1 (decide ((s.length : Int) ≥ 1)) rfl rfl rfl) ?_
  refine L_pu (P_move (vb (decide ((s.length : Int) ≥ 1))) rfl) ?_
  rcases bool_or (decide ((s.length : Int) ≥ 1)) with ab | ab
  ·have H := ite_t H ab
   refine L_run (dj := 23) rfl rfl (by exact congrArg Value.bool ab) ?_
   refine L_pu (P_move (vs s) rfl) ?_
   refine L_run (dj := 23) rfl rfl (by exact congrArg Value.bool ab) ?_
   refine L_pu (P_lens Try.underlying9 s rfl) ?_
   refine L_run (dj := 23) rfl rfl (by exact congrArg Value.bool ab) ?_
   refine L_pu (P_cmp (s.length : Int) 6 (decide ((s.length : Int) ≤ 6)) rfl rfl rfl) ?_
   refine L_pu (P_pick true (vb (decide ((s.length : Int) ≤ 6))) (by exact congrArg Value.bool ab) rfl) ?_
   refine L_pu (P_assign (vb (decide ((s.length : Int) ≤ 6))) rfl) ?_
   refine L_nil ?_
   refine W_ret ?_
   exact ⟨[vb (decide ((s.length : Int) ≤ 6))], ⟨_, rfl, rfl⟩, decide ((s.length : Int) ≤ 6), rfl, H, hc7.gr.g0⟩
  ·have H := ite_f H ab
   refine L_pass (dj := 23) rfl rfl (.inl (by exact congrArg Value.bool ab)) ?_
   refine L_pass (dj := 23) rfl rfl (.inl (by exact congrArg Value.bool ab)) ?_
   refine L_pass (dj := 23) rfl rfl (.inl (by exact congrArg Value.bool ab)) ?_
   refine L_pu (P_pick false (vb false) (by exact congrArg Value.bool ab) rfl) ?_
   refine L_pu (P_assign (vb false) rfl) ?_
   refine L_nil ?_
   refine W_ret ?_
   exact ⟨[vb false], ⟨_, rfl, rfl⟩, false, rfl, H, hc7.gr.g0⟩
end Go.Proofs.Ytndjggncgpjolaa

namespace Go.Proofs.Ytndjggncgpjolaa
open Go.RowKit
set_option linter.unusedVariables false
set_option linter.unusedSimpArgs false
def spec_l1Num.E (n : Int) (Q : Bool → Prop) : Prop :=
 (if decide (n ≥ (-1000)) then Q (decide (n ≤ 1000)) else Q false)
set_option maxHeartbeats 8000000 in
set_option maxRecDepth 100000 in
theorem spec_l1Num.calls {O : Ob} (w0 : World) (hO : Ok w0 O) (n : Int) (Q : Bool → Prop) (h : spec_l1Num.E n Q) :
  Ret Try.prog 179 [vi n] w0 (fun v w' => ∃ (r0 : Bool), v = vb r0 ∧ Q r0 ∧ Gr w0 w' none ∧ w' = w0) := by
 unfold spec_l1Num.E at h
 have H := h
 clear h
 have hc0 := Ct.init hO
 refine Ret_enter Try.func179 rfl 9 rfl [.tmp 2] rfl rfl ?_
 refine W_seq ?_
 refine W_reg ?_
 refine L_pu (P_assign (vb false) rfl) ?_
 refine L_nil ?_
 refine W_seq ?_
 refine W_reg ?_
 refine L_pu (P_move (vi n) rfl) ?_
 refine L_pu (P_cmp n (-1000) (decide (n ≥ (-1000))) rfl rfl rfl) ?_
 refine L_pu (P_move (vb (decide (n ≥ (-1000)))) rfl) ?_
 rcases bool_or (decide (n ≥ (-1000))) with hq1 | hq1
 ·have H := ite_t H hq1
  refine L_run (dj := 5) rfl rfl (by exact congrArg Value.bool hq1) ?_
  refine L_pu (P_move (vi n) rfl) ?_
  refine L_run (dj := 5) rfl rfl (by exact congrArg Value.bool hq1) ?_
  refine L_pu (P_cmp n 1000 (decide (n ≤ 1000)) rfl rfl rfl) ?_
  refine L_pu (P_pick true (vb (decide (n ≤ 1000))) (by exact congrArg Value.bool hq1) rfl) ?_
  refine L_pu (P_assign (vb (decide (n ≤ 1000))) rfl) ?_
  refine L_nil ?_
  refine W_ret ?_
  exact ⟨[vb (decide (n ≤ 1000))], ⟨_, rfl, rfl⟩, decide (n ≤ 1000), rfl, H, hc0.gr.g0, rfl⟩
 ·have H := ite_f H hq1
  refine L_pass (dj := 5) rfl rfl (.inl (by exact congrArg Value.bool hq1)) ?_
  refine L_pass (dj := 5) rfl rfl (.inl (by exact congrArg Value.bool hq1)) ?_
  refine L_pu (P_pick false (vb false) (by exact congrArg Value.bool hq1) rfl) ?_
  refine L_pu (P_assign (vb false) rfl) ?_
  refine L_nil ?_
  refine W_ret ?_
  exact ⟨[vb false], ⟨_, rfl, rfl⟩, false, rfl, H, hc0.gr.g0, rfl⟩
def spec_l1Num.m (n : Int) : Bool := (if decide (n ≥ (-1000)) then (decide (n ≤ 1000)) else false)
theorem spec_l1Num.fn (n : Int) : spec_l1Num.E n (fun r => r = spec_l1Num.m n) := by
 unfold spec_l1Num.E spec_l1Num.m
 (repeat' split) <;> simp_all
end Go.Proofs.Ytndjggncgpjolaa

namespace Go.Proofs.Ytndjggncgpjolaa
open Go.RowKit
set_option linter.unusedVariables false
set_option linter.unusedSimpArgs false
def spec_l1Pts.E (p : List Pt) (Q : Bool → Prop) : Prop :=
 (∃ (I18 : Int → Prop) (mu19 : Int → Nat), I18 0 ∧ ∀ (i2 : Int), I18 i2 → (if decide (i2 < (p.length : Int)) then ((0 : Int) ≤ i2 ∧ i2 < (p.length : Int)) ∧ (if !(spec_l1Num.m ((nth p i2).X)) then Q false else ((0 : Int) ≤ i2 ∧ i2 < (p.length : Int)) ∧ (if !(spec_l1Num.m ((nth p i2).Y)) then Q false else (if decide (i2 > 0) then ((0 : Int) ≤ i2 ∧ i2 < (p.length : Int)) ∧ ((p.length : Int) ≤ 9223372036854775807 → I64 (i2 - 1)) ∧ ((0 : Int) ≤ i2 - 1 ∧ i2 - 1 < (p.length : Int)) ∧ (if eqPt (nth p i2) (nth p (i2 - 1)) then Q false else (-9223372036854775808 ≤ i2) ∧ I18 (i2 + 1) ∧ mu19 (i2 + 1) < mu19 i2) else (-9223372036854775808 ≤ i2) ∧ I18 (i2 + 1) ∧ mu19 (i2 + 1) < mu19 i2))) else Q (decide ((p.length : Int) ≤ 6))))
set_option maxHeartbeats 8000000 in
set_option maxRecDepth 100000 in
theorem spec_l1Pts.calls {O : Ob} (w0 : World) (hO : Ok w0 O) (p : List Pt) (A1 : Option Addr) (n2 c3 : Nat) (hp4 : Sl kPt w0 (Fr O) (.slice A1 n2 c3) p) (Q : Bool → Prop) (h : spec_l1Pts.E p Q) :
  Ret Try.prog 165 [.slice A1 n2 c3] w0 (fun v w' => ∃ (r0 : Bool), v = vb r0 ∧ Q r0 ∧ Gr w0 w' none) := by
 unfold spec_l1Pts.E at h
 have H := h
 clear h
 have hc0 := Ct.init hO
 refine Ret_enter Try.func165 rfl 45 rfl [.tmp 2] rfl rfl ?_
 refine W_seq ?_
 refine W_reg ?_
 refine L_pu (P_assign (vb false) rfl) ?_
 refine L_nil ?_
 refine W_seq ?_
 refine W_seq ?_
 refine W_reg ?_
 refine L_pu (P_assign (vi 0) rfl) ?_
 refine L_nil ?_
 refine W_block ?_
 obtain ⟨ax, ay, aj, H⟩ := H
 refine W_loop (α := Int) (fun (sv__ : Int) t ag => match sv__ with | i2 => ax i2 ∧ Has t [(0, .slice A1 n2 c3), (3, vi i2)] ∧ Ct [] w0 ag [] O ∧ Sl kPt ag (Fr ([] ++ O)) (.slice A1 n2 c3) p) (fun (sv__ : Int) => match sv__ with | i2 => ay i2) 0 ⟨aj, ⟨rfl, rfl, trivial⟩, hc0, hp4⟩ ?_
 rintro i2 _ ag ⟨aj, az, ae, ad⟩
 obtain ⟨bu, rfl⟩ := Has.ins az
 have H := H i2 aj
 refine W_seq ?_
 refine W_seq ?_
 refine W_reg ?_
 refine L_pu (P_move (vi i2) rfl) ?_
 refine L_pu (P_move (.slice A1 n2 c3) rfl) ?_
 have ak := ad.le
 refine L_pu (P_len Try.underlying23 A1 n2 c3 ad.len rfl) ?_
 refine L_pu (P_cmp i2 (p.length : Int) (decide (i2 < (p.length : Int))) rfl rfl rfl) ?_
 refine L_nil ?_
 refine W_cond (decide (i2 < (p.length : Int))) rfl (fun af => ?_) (fun af => ?_)
 ·have H := ite_t H af
  refine W_skip ?_
  refine W_seq ?_
  refine W_block ?_
  refine W_seq ?_
  refine W_draw (fun x => Gr ag x none) (by kernel_rfl) (by kernel_rfl) (Gr.drew _) ?_
  refine Q_pu (P_move (.slice A1 n2 c3) rfl) ?_
  refine Q_pu (P_move (vi i2) rfl) ?_
  obtain ⟨am, H⟩ := H
  obtain ⟨ah, bv, a0, bw, a1, a2⟩ := ad.get default (by decide) i2 am
  obtain rfl := kPt.op a1
  refine Q_pu (P_ia Try.underlying23 se23 A1 ah n2 c3 ad.len i2 rfl a0 rfl am) ?_
  refine Q_pu (P_fa fa29_0 (ah.add (i2.toNat * 2)) ((ah.add (i2.toNat * 2)).add 0) rfl rfl) ?_
  refine Q_pu (P_ld ag3 cQ ((ah.add (i2.toNat * 2)).add 0) (vi ((nth p i2).X)) rfl (a2 0 _ rfl)) ?_
  refine Q_call go179 [vi ((nth p i2).X)] rfl (vb (spec_l1Num.m ((nth p i2).X))) (fun w g => (spec_l1Num.calls w (ae.k0 g).ok ((nth p i2).X) _ (spec_l1Num.fn ((nth p i2).X))).mono ?_) ?_
  ·rintro _ w ⟨r, rfl, rfl, g2, _⟩
   exact ⟨rfl, Gr.t0 g g2⟩
  refine Q_pu (P_not (spec_l1Num.m ((nth p i2).X)) rfl) ?_
  refine Q_pu (P_move (vb (!(spec_l1Num.m ((nth p i2).X)))) rfl) ?_
  rcases bool_or (!(spec_l1Num.m ((nth p i2).X))) with ab | ab
  ·have H := ite_t H ab
   refine Q_pass (dj := 17) rfl rfl (.inl (by exact congrArg Value.bool ab)) ?_
   refine Q_pass (dj := 17) rfl rfl (.inl (by exact congrArg Value.bool ab)) ?_
   refine Q_pass (dj := 17) rfl rfl (.inl (by exact congrArg Value.bool ab)) ?_
   refine Q_pass (dj := 17) rfl rfl (.inl (by exact congrArg Value.bool ab)) ?_
   refine Q_pass (dj := 17) rfl rfl (.inl (by exact congrArg Value.bool ab)) ?_
   refine Q_pass (dj := 17) rfl rfl (.inl (by exact congrArg Value.bool ab)) ?_
   refine Q_pass (dj := 17) rfl rfl (.inl (by exact congrArg Value.bool ab)) ?_
   refine Q_pu (P_pick true (vb true) (by exact congrArg Value.bool ab) rfl) ?_
   refine Q_pu (P_move (vb true) rfl) ?_
   refine Q_pass (dj := 26) rfl rfl (.inl rfl) ?_
   refine Q_pass (dj := 26) rfl rfl (.inl rfl) ?_
   refine Q_pass (dj := 26) rfl rfl (.inl rfl) ?_
   refine Q_pass (dj := 29) rfl rfl (.inr rfl) ?_
   refine Q_pass (dj := 29) rfl rfl (.inr rfl) ?_
   refine Q_pass (dj := 29) rfl rfl (.inr rfl) ?_
   refine Q_pass (dj := 29) rfl rfl (.inr rfl) ?_
   refine Q_pass (dj := 29) rfl rfl (.inr rfl) ?_
   refine Q_pass (dj := 29) rfl rfl (.inr rfl) ?_
   refine Q_pass (dj := 29) rfl rfl (.inr rfl) ?_
   refine Q_pass (dj := 29) rfl rfl (.inr rfl) ?_
   refine Q_pass (dj := 29) rfl rfl (.inr rfl) ?_
   refine Q_pass (dj := 29) rfl rfl (.inr rfl) ?_
   refine Q_pass (dj := 26) rfl rfl (.inl rfl) ?_
   refine Q_pu (P_pick true (vb true) (by exact congrArg Value.bool rfl) rfl) ?_
   refine Q_nil fun bx a3 => ?_
   have a4 := ae.k0 a3
   refine W_ct (b := true) rfl rfl ?_
   refine W_seq ?_
   refine W_reg ?_
   refine L_pu (P_assign (vb false) rfl) ?_
   refine L_nil ?_
   refine W_ret ?_
   exact ⟨[vb false], ⟨_, rfl, rfl⟩, false, rfl, H, a4.gr.g0⟩
  ·have H := ite_f H ab
   refine Q_run (dj := 17) rfl rfl (by exact congrArg Value.bool ab) ?_
   refine Q_pu (P_move (.slice A1 n2 c3) rfl) ?_
   refine Q_run (dj := 17) rfl rfl (by exact congrArg Value.bool ab) ?_
   refine Q_pu (P_move (vi i2) rfl) ?_
   refine Q_run (dj := 17) rfl rfl (by exact congrArg Value.bool ab) ?_
   obtain ⟨an, H⟩ := H
   obtain ⟨ai, bz, a5, b0, a6, a7⟩ := ad.get default (by decide) i2 an
   obtain rfl := kPt.op a6
   refine Q_pu (P_ia Try.underlying23 se23 A1 ai n2 c3 ad.len i2 rfl a5 rfl an) ?_
   refine Q_run (dj := 17) rfl rfl (by exact congrArg Value.bool ab) ?_
   refine Q_pu (P_fa fa29_1 (ai.add (i2.toNat * 2)) ((ai.add (i2.toNat * 2)).add 1) rfl rfl) ?_
   refine Q_run (dj := 17) rfl rfl (by exact congrArg Value.bool ab) ?_
   refine Q_pu (P_ld ag3 cQ ((ai.add (i2.toNat * 2)).add 1) (vi ((nth p i2).Y)) rfl (a7 1 _ rfl)) ?_
   refine Q_run (dj := 17) rfl rfl (by exact congrArg Value.bool ab) ?_
   refine Q_call go179 [vi ((nth p i2).Y)] rfl (vb (spec_l1Num.m ((nth p i2).Y))) (fun w g => (spec_l1Num.calls w (ae.k0 g).ok ((nth p i2).Y) _ (spec_l1Num.fn ((nth p i2).Y))).mono ?_) ?_
   ·rintro _ w ⟨r, rfl, rfl, g2, _⟩
    exact ⟨rfl, Gr.t0 g g2⟩
   refine Q_run (dj := 17) rfl rfl (by exact congrArg Value.bool ab) ?_
   refine Q_pu (P_not (spec_l1Num.m ((nth p i2).Y)) rfl) ?_
   refine Q_pu (P_pick false (vb (!(spec_l1Num.m ((nth p i2).Y)))) (by exact congrArg Value.bool ab) rfl) ?_
   refine Q_pu (P_move (vb (!(spec_l1Num.m ((nth p i2).Y)))) rfl) ?_
   rcases bool_or (!(spec_l1Num.m ((nth p i2).Y))) with ac | ac
   ·have H := ite_t H ac
    refine Q_pass (dj := 26) rfl rfl (.inl (by exact congrArg Value.bool ac)) ?_
    refine Q_pass (dj := 26) rfl rfl (.inl (by exact congrArg Value.bool ac)) ?_
    refine Q_pass (dj := 26) rfl rfl (.inl (by exact congrArg Value.bool ac)) ?_
    refine Q_pass (dj := 29) rfl rfl (.inr rfl) ?_
    refine Q_pass (dj := 29) rfl rfl (.inr rfl) ?_
    refine Q_pass (dj := 29) rfl rfl (.inr rfl) ?_
    refine Q_pass (dj := 29) rfl rfl (.inr rfl) ?_
    refine Q_pass (dj := 29) rfl rfl (.inr rfl) ?_
    refine Q_pass (dj := 29) rfl rfl (.inr rfl) ?_
    refine Q_pass (dj := 29) rfl rfl (.inr rfl) ?_
    refine Q_pass (dj := 29) rfl rfl (.inr rfl) ?_
    refine Q_pass (dj := 29) rfl rfl (.inr rfl) ?_
    refine Q_pass (dj := 29) rfl rfl (.inr rfl) ?_
    refine Q_pass (dj := 26) rfl rfl (.inl (by exact congrArg Value.bool ac)) ?_
    refine Q_pu (P_pick true (vb true) (by exact congrArg Value.bool ac) rfl) ?_
    refine Q_nil fun b1 a8 => ?_
    have a9 := ae.k0 a8
    refine W_ct (b := true) rfl rfl ?_
    refine W_seq ?_
    refine W_reg ?_
    refine L_pu (P_assign (vb false) rfl) ?_
    refine L_nil ?_
    refine W_ret ?_
    exact ⟨[vb false], ⟨_, rfl, rfl⟩, false, rfl, H, a9.gr.g0⟩
   ·have H := ite_f H ac
    refine Q_run (dj := 26) rfl rfl (by exact congrArg Value.bool ac) ?_
    refine Q_pu (P_move (vi i2) rfl) ?_
    refine Q_run (dj := 26) rfl rfl (by exact congrArg Value.bool ac) ?_
    refine Q_pu (P_cmp i2 0 (decide (i2 > 0)) rfl rfl rfl) ?_
    refine Q_run (dj := 26) rfl rfl (by exact congrArg Value.bool ac) ?_
    refine Q_pu (P_move (vb (decide (i2 > 0))) rfl) ?_
    rcases bool_or (decide (i2 > 0)) with aa | aa
    ·have H := ite_t H aa
     refine Q_run (dj := 29) rfl rfl (by exact congrArg Value.bool aa) ?_
     refine Q_pu (P_move (.slice A1 n2 c3) rfl) ?_
     refine Q_run (dj := 29) rfl rfl (by exact congrArg Value.bool aa) ?_
     refine Q_pu (P_move (vi i2) rfl) ?_
     refine Q_run (dj := 29) rfl rfl (by exact congrArg Value.bool aa) ?_
     obtain ⟨ao, H⟩ := H
     obtain ⟨ap, b2, ba, b3, bb, bc⟩ := ad.get default (by decide) i2 ao
     obtain rfl := kPt.op bb
     refine Q_pu (P_ia Try.underlying23 se23 A1 ap n2 c3 ad.len i2 rfl ba rfl ao) ?_
     refine Q_run (dj := 29) rfl rfl (by exact congrArg Value.bool aa) ?_
     refine Q_pu (P_lda ag29 sz29 cQ (ap.add (i2.toNat * 2)) [vi ((nth p i2).X), vi ((nth p i2).Y)] rfl rfl bc) ?_
     refine Q_run (dj := 29) rfl rfl (by exact congrArg Value.bool aa) ?_
     refine Q_pu (P_move (.slice A1 n2 c3) rfl) ?_
     refine Q_run (dj := 29) rfl rfl (by exact congrArg Value.bool aa) ?_
     refine Q_pu (P_move (vi i2) rfl) ?_
     refine Q_run (dj := 29) rfl rfl (by exact congrArg Value.bool aa) ?_
     obtain ⟨bd, H⟩ := H
     have be := bd (len_le ak)
     refine Q_pu (P_sub i2 1 rfl rfl be) ?_
     refine Q_run (dj := 29) rfl rfl (by exact congrArg Value.bool aa) ?_
     obtain ⟨aq, H⟩ := H
     obtain ⟨ar, b4, bf, b5, bg, bh⟩ := ad.get default (by decide) (i2 - 1) aq
     obtain rfl := kPt.op bg
     refine Q_pu (P_ia Try.underlying23 se23 A1 ar n2 c3 ad.len (i2 - 1) rfl bf rfl aq) ?_
     refine Q_run (dj := 29) rfl rfl (by exact congrArg Value.bool aa) ?_
     refine Q_pu (P_lda ag29 sz29 cQ (ar.add ((i2 - 1).toNat * 2)) [vi ((nth p (i2 - 1)).X), vi ((nth p (i2 - 1)).Y)] rfl rfl bh) ?_
     refine Q_run (dj := 29) rfl rfl (by exact congrArg Value.bool aa) ?_
     refine Q_pu (P_eq _ _ (eqPt (nth p i2) (nth p (i2 - 1))) (qt29 (nth p i2) (nth p (i2 - 1))) rfl rfl) ?_
     refine Q_run (dj := 26) rfl rfl (by exact congrArg Value.bool ac) ?_
     refine Q_pu (P_pick true (vb (eqPt (nth p i2) (nth p (i2 - 1)))) (by exact congrArg Value.bool aa) rfl) ?_
     refine Q_pu (P_pick false (vb (eqPt (nth p i2) (nth p (i2 - 1)))) (by exact congrArg Value.bool ac) rfl) ?_
     refine Q_nil fun b6 au => ?_
     have av := ae.k0 au
     refine W_cond (eqPt (nth p i2) (nth p (i2 - 1))) rfl (fun al => ?_) (fun al => ?_)
     ·have H := ite_t H al
      refine W_seq ?_
      refine W_reg ?_
      refine L_pu (P_assign (vb false) rfl) ?_
      refine L_nil ?_
      refine W_ret ?_
      exact ⟨[vb false], ⟨_, rfl, rfl⟩, false, rfl, H, av.gr.g0⟩
     ·have H := ite_f H al
      refine W_skip ?_
      refine W_reg ?_
      refine L_pu (P_move (vi i2) rfl) ?_
      obtain ⟨bi, H⟩ := H
      have bj : I64 (i2 + 1) := i64_succ (of_decide_eq_true af) ak bi
      refine L_pu (P_add i2 1 rfl rfl bj) ?_
      refine L_pu (P_assign (vi (i2 + 1)) rfl) ?_
      refine L_nil ?_
      obtain ⟨bl, bm⟩ := H
      have bn := ae.stn au
      exact ⟨i2 + 1, bm, bl, ⟨rfl, rfl, trivial⟩, av, (ad.st bn)⟩
    ·have H := ite_f H aa
     refine Q_pass (dj := 29) rfl rfl (.inl (by exact congrArg Value.bool aa)) ?_
     refine Q_pass (dj := 29) rfl rfl (.inl (by exact congrArg Value.bool aa)) ?_
     refine Q_pass (dj := 29) rfl rfl (.inl (by exact congrArg Value.bool aa)) ?_
     refine Q_pass (dj := 29) rfl rfl (.inl (by exact congrArg Value.bool aa)) ?_
     refine Q_pass (dj := 29) rfl rfl (.inl (by exact congrArg Value.bool aa)) ?_
     refine Q_pass (dj := 29) rfl rfl (.inl (by exact congrArg Value.bool aa)) ?_
     refine Q_pass (dj := 29) rfl rfl (.inl (by exact congrArg Value.bool aa)) ?_
     refine Q_pass (dj := 29) rfl rfl (.inl (by exact congrArg Value.bool aa)) ?_
     refine Q_pass (dj := 29) rfl rfl (.inl (by exact congrArg Value.bool aa)) ?_
     refine Q_pass (dj := 29) rfl rfl (.inl (by exact congrArg Value.bool aa)) ?_
     refine Q_run (dj := 26) rfl rfl (by exact congrArg Value.bool ac) ?_
     refine Q_pu (P_pick false (vb false) (by exact congrArg Value.bool aa) rfl) ?_
     refine Q_pu (P_pick false (vb false) (by exact congrArg Value.bool ac) rfl) ?_
     refine Q_nil fun b7 aw => ?_
     have bo := ae.k0 aw
     refine W_cf (b := false) rfl rfl ?_
     refine W_skip ?_
     refine W_reg ?_
     refine L_pu (P_move (vi i2) rfl) ?_
     obtain ⟨bp, H⟩ := H
     have bq : I64 (i2 + 1) := i64_succ (of_decide_eq_true af) ak bp
     refine L_pu (P_add i2 1 rfl rfl bq) ?_
     refine L_pu (P_assign (vi (i2 + 1)) rfl) ?_
     refine L_nil ?_
     obtain ⟨br, bs⟩ := H
     have bt := ae.stn aw
     exact ⟨i2 + 1, bs, br, ⟨rfl, rfl, trivial⟩, bo, (ad.st bt)⟩
 ·have H := ite_f H af
  refine W_exit (xin_hit ?_)
  refine W_seq ?_
  refine W_reg ?_
  refine L_pu (P_move (.slice A1 n2 c3) rfl) ?_
  refine L_pu (P_len Try.underlying23 A1 n2 c3 ad.len rfl) ?_
  refine L_pu (P_cmp (p.length : Int) 6 (decide ((p.length : Int) ≤ 6)) rfl rfl rfl) ?_
  refine L_pu (P_assign (vb (decide ((p.length : Int) ≤ 6))) rfl) ?_
  refine L_nil ?_
  refine W_ret ?_
  exact ⟨[vb (decide ((p.length : Int) ≤ 6))], ⟨_, rfl, rfl⟩, decide ((p.length : Int) ≤ 6), rfl, H, ae.gr.g0⟩
end Go.Proofs.Ytndjggncgpjolaa

namespace Go.Proofs.Ytndjggncgpjolaa
open Go.RowKit
set_option linter.unusedVariables false
set_option linter.unusedSimpArgs false
def spec_ShapeOk.E (s : Shape) (Q : Bool → Prop) : Prop :=
 spec_l1Pts.E s.Pts (fun r => (if !r then Q false else (if s.Kind == 1 then Q ((s.Pts.length : Int) == 1) else (if s.Kind == 2 then Q (decide ((s.Pts.length : Int) ≥ 2)) else (if s.Kind == 3 then (if decide ((s.Pts.length : Int) ≥ 3) then ((0 : Int) ≤ 0 ∧ 0 < (s.Pts.length : Int)) ∧ ((s.Pts.length : Int) ≤ 9223372036854775807 → I64 ((s.Pts.length : Int) - 1)) ∧ ((0 : Int) ≤ (s.Pts.length : Int) - 1 ∧ (s.Pts.length : Int) - 1 < (s.Pts.length : Int)) ∧ Q (!(eqPt (nth s.Pts 0) (nth s.Pts ((s.Pts.length : Int) - 1)))) else Q false) else Q false)))))
set_option maxHeartbeats 8000000 in
set_option maxRecDepth 100000 in
theorem spec_ShapeOk.calls {O : Ob} (w0 : World) (hO : Ok w0 O) (s : Shape) (A1 : Option Addr) (n2 c3 : Nat) (hp4 : Sl kPt w0 (Fr O) (.slice A1 n2 c3) s.Pts) (Q : Bool → Prop) (h : spec_ShapeOk.E s Q) :
  Ret Try.prog 134 [.agg #[vi s.Kind, .slice A1 n2 c3]] w0 (fun v w' => ∃ (r0 : Bool), v = vb r0 ∧ Q r0 ∧ Gr w0 w' none) := by
 unfold spec_ShapeOk.E at h
 have H := h
 clear h
 have hc0 := Ct.init hO
 refine Ret_enter Try.func134 rfl 38 rfl [.tmp 2] rfl rfl ?_
 refine W_seq ?_
 refine W_reg ?_
 refine L_box [vi s.Kind, .slice A1 n2 c3] rfl fun w6 b7 hl9 hu10 g8 ao => ?_
 have ad := Fb.mk hc0.ok hl9 ao
 have ac := hc0.k0 g8
 refine L_pu (P_assign (vb false) rfl) ?_
 refine L_nil ?_
 refine W_seq ?_
 refine W_reg ?_
 refine L_pu (P_fa fa68_1 ⟨b7, 0, none⟩ ⟨b7, 1, none⟩ rfl rfl) ?_
 refine L_pu (P_ld ag23 cL ⟨b7, 1, none⟩ (.slice A1 n2 c3) rfl (ad.cell rfl)) ?_
 have ap := (hp4.st ac.st).le
 refine L_pu (P_len Try.underlying23 A1 n2 c3 (hp4.st ac.st).len rfl) ?_
 refine L_pu (P_assign (vi (s.Pts.length : Int)) rfl) ?_
 refine L_nil ?_
 refine W_seq ?_
 refine W_seq ?_
 refine W_reg ?_
 refine L_pu (P_fa fa68_1 ⟨b7, 0, none⟩ ⟨b7, 1, none⟩ rfl rfl) ?_
 refine L_pu (P_ld ag23 cL ⟨b7, 1, none⟩ (.slice A1 n2 c3) rfl (ad.cell rfl)) ?_
 refine L_call go165 [.slice A1 n2 c3] rfl ((spec_l1Pts.calls w6 ac.ok s.Pts A1 n2 c3 (hp4.st ac.st) _ H).mono ?_)
 rintro _ aq ⟨r, rfl, H, aj⟩
 have ab := ac.k0 aj
 refine L_pu (P_not r rfl) ?_
 refine L_nil ?_
 refine W_cond (!r) rfl (fun ae => ?_) (fun ae => ?_)
 ·have H := ite_t H ae
  refine W_seq ?_
  refine W_reg ?_
  refine L_pu (P_assign (vb false) rfl) ?_
  refine L_nil ?_
  refine W_ret ?_
  exact ⟨[vb false], ⟨_, rfl, rfl⟩, false, rfl, H, ab.gr.g0⟩
 ·have H := ite_f H ae
  refine W_skip ?_
  refine W_seq ?_
  refine W_seq ?_
  refine W_reg ?_
  refine L_pu (P_fa fa68_0 ⟨b7, 0, none⟩ ⟨b7, 0, none⟩ rfl rfl) ?_
  have ar := ac.stn aj
  have af := (ad.st ar)
  refine L_pu (P_ld ag3 cL ⟨b7, 0, none⟩ (vi s.Kind) rfl (af.cell rfl)) ?_
  refine L_nil ?_
  refine W_block ?_
  refine W_seq ?_
  refine W_reg ?_
  refine L_pu (P_cmp s.Kind 1 (s.Kind == 1) rfl rfl rfl) ?_
  refine L_pu (P_assign (vb (s.Kind == 1)) rfl) ?_
  refine L_nil ?_
  refine W_cond (s.Kind == 1) rfl (fun ag => ?_) (fun ag => ?_)
  ·have H := ite_t H ag
   refine W_seq ?_
   refine W_reg ?_
   refine L_pu (P_move (vi (s.Pts.length : Int)) rfl) ?_
   refine L_pu (P_cmp (s.Pts.length : Int) 1 ((s.Pts.length : Int) == 1) rfl rfl rfl) ?_
   refine L_pu (P_assign (vb ((s.Pts.length : Int) == 1)) rfl) ?_
   refine L_nil ?_
   refine W_ret ?_
   exact ⟨[vb ((s.Pts.length : Int) == 1)], ⟨_, rfl, rfl⟩, (s.Pts.length : Int) == 1, rfl, H, ab.gr.g0⟩
  ·have H := ite_f H ag
   refine W_seq ?_
   refine W_reg ?_
   refine L_pu (P_cmp s.Kind 2 (s.Kind == 2) rfl rfl rfl) ?_
   refine L_pu (P_assign (vb (s.Kind == 2)) rfl) ?_
   refine L_nil ?_
   refine W_cond (s.Kind == 2) rfl (fun ah => ?_) (fun ah => ?_)
   ·have H := ite_t H ah
    refine W_seq ?_
    refine W_reg ?_
    refine L_pu (P_move (vi (s.Pts.length : Int)) rfl) ?_
    refine L_pu (P_cmp (s.Pts.length : Int) 2 (decide ((s.Pts.length : Int) ≥ 2)) rfl rfl rfl) ?_
    refine L_pu (P_assign (vb (decide ((s.Pts.length : Int) ≥ 2))) rfl) ?_
    refine L_nil ?_
    refine W_ret ?_
    exact ⟨[vb (decide ((s.Pts.length : Int) ≥ 2))], ⟨_, rfl, rfl⟩, decide ((s.Pts.length : Int) ≥ 2), rfl, H, ab.gr.g0⟩
   ·have H := ite_f H ah
    refine W_seq ?_
    refine W_reg ?_
    refine L_pu (P_cmp s.Kind 3 (s.Kind == 3) rfl rfl rfl) ?_
    refine L_pu (P_assign (vb (s.Kind == 3)) rfl) ?_
    refine L_nil ?_
    refine W_cond (s.Kind == 3) rfl (fun ai => ?_) (fun ai => ?_)
    ·have H := ite_t H ai
     refine W_seq ?_
     refine W_draw (fun x => Gr aq x none) (by kernel_rfl) (by kernel_rfl) (Gr.drew _) ?_
     refine Q_pu (P_move (vi (s.Pts.length : Int)) rfl) ?_
     refine Q_pu (P_cmp (s.Pts.length : Int) 3 (decide ((s.Pts.length : Int) ≥ 3)) rfl rfl rfl) ?_
     refine Q_pu (P_move (vb (decide ((s.Pts.length : Int) ≥ 3))) rfl) ?_
     rcases bool_or (decide ((s.Pts.length : Int) ≥ 3)) with aa | aa
     ·have H := ite_t H aa
      refine Q_run (dj := 25) rfl rfl (by exact congrArg Value.bool aa) ?_
      refine Q_pu (P_fa fa68_1 ⟨b7, 0, none⟩ ⟨b7, 1, none⟩ rfl rfl) ?_
      refine Q_run (dj := 25) rfl rfl (by exact congrArg Value.bool aa) ?_
      refine Q_pu (P_ld ag23 cQ ⟨b7, 1, none⟩ (.slice A1 n2 c3) rfl (af.cell rfl)) ?_
      refine Q_run (dj := 25) rfl rfl (by exact congrArg Value.bool aa) ?_
      obtain ⟨ak, H⟩ := H
      obtain ⟨al, a6, au, a7, av, aw⟩ := (hp4.st ab.st).get default (by decide) 0 ak
      obtain rfl := kPt.op av
      refine Q_pu (P_ia Try.underlying23 se23 A1 al n2 c3 (hp4.st ab.st).len 0 rfl au rfl ak) ?_
      refine Q_run (dj := 25) rfl rfl (by exact congrArg Value.bool aa) ?_
      refine Q_pu (P_lda ag29 sz29 cQ (al.add ((0 : Int).toNat * 2)) [vi ((nth s.Pts 0).X), vi ((nth s.Pts 0).Y)] rfl rfl aw) ?_
      refine Q_run (dj := 25) rfl rfl (by exact congrArg Value.bool aa) ?_
      refine Q_pu (P_fa fa68_1 ⟨b7, 0, none⟩ ⟨b7, 1, none⟩ rfl rfl) ?_
      refine Q_run (dj := 25) rfl rfl (by exact congrArg Value.bool aa) ?_
      refine Q_pu (P_ld ag23 cQ ⟨b7, 1, none⟩ (.slice A1 n2 c3) rfl (af.cell rfl)) ?_
      refine Q_run (dj := 25) rfl rfl (by exact congrArg Value.bool aa) ?_
      refine Q_pu (P_move (vi (s.Pts.length : Int)) rfl) ?_
      refine Q_run (dj := 25) rfl rfl (by exact congrArg Value.bool aa) ?_
      obtain ⟨ax, H⟩ := H
      have ay := ax (len_le ap)
      refine Q_pu (P_sub (s.Pts.length : Int) 1 rfl rfl ay) ?_
      refine Q_run (dj := 25) rfl rfl (by exact congrArg Value.bool aa) ?_
      obtain ⟨am, H⟩ := H
      obtain ⟨an, a8, az, a9, a0, a1⟩ := (hp4.st ab.st).get default (by decide) ((s.Pts.length : Int) - 1) am
      obtain rfl := kPt.op a0
      refine Q_pu (P_ia Try.underlying23 se23 A1 an n2 c3 (hp4.st ab.st).len ((s.Pts.length : Int) - 1) rfl az rfl am) ?_
      refine Q_run (dj := 25) rfl rfl (by exact congrArg Value.bool aa) ?_
      refine Q_pu (P_lda ag29 sz29 cQ (an.add (((s.Pts.length : Int) - 1).toNat * 2)) [vi ((nth s.Pts ((s.Pts.length : Int) - 1)).X), vi ((nth s.Pts ((s.Pts.length : Int) - 1)).Y)] rfl rfl a1) ?_
      refine Q_run (dj := 25) rfl rfl (by exact congrArg Value.bool aa) ?_
      refine Q_pu (P_ne _ _ (eqPt (nth s.Pts 0) (nth s.Pts ((s.Pts.length : Int) - 1))) (qt29 (nth s.Pts 0) (nth s.Pts ((s.Pts.length : Int) - 1))) rfl rfl) ?_
      refine Q_pu (P_pick true (vb (!(eqPt (nth s.Pts 0) (nth s.Pts ((s.Pts.length : Int) - 1))))) (by exact congrArg Value.bool aa) rfl) ?_
      refine Q_pu (P_assign (vb (!(eqPt (nth s.Pts 0) (nth s.Pts ((s.Pts.length : Int) - 1))))) rfl) ?_
      refine Q_nil fun ba a2 => ?_
      have a3 := ab.k0 a2
      refine W_ret ?_
      exact ⟨[vb (!(eqPt (nth s.Pts 0) (nth s.Pts ((s.Pts.length : Int) - 1))))], ⟨_, rfl, rfl⟩, !(eqPt (nth s.Pts 0) (nth s.Pts ((s.Pts.length : Int) - 1))), rfl, H, a3.gr.g0⟩
     ·have H := ite_f H aa
      refine Q_pass (dj := 25) rfl rfl (.inl (by exact congrArg Value.bool aa)) ?_
      refine Q_pass (dj := 25) rfl rfl (.inl (by exact congrArg Value.bool aa)) ?_
      refine Q_pass (dj := 25) rfl rfl (.inl (by exact congrArg Value.bool aa)) ?_
      refine Q_pass (dj := 25) rfl rfl (.inl (by exact congrArg Value.bool aa)) ?_
      refine Q_pass (dj := 25) rfl rfl (.inl (by exact congrArg Value.bool aa)) ?_
      refine Q_pass (dj := 25) rfl rfl (.inl (by exact congrArg Value.bool aa)) ?_
      refine Q_pass (dj := 25) rfl rfl (.inl (by exact congrArg Value.bool aa)) ?_
      refine Q_pass (dj := 25) rfl rfl (.inl (by exact congrArg Value.bool aa)) ?_
      refine Q_pass (dj := 25) rfl rfl (.inl (by exact congrArg Value.bool aa)) ?_
      refine Q_pass (dj := 25) rfl rfl (.inl (by exact congrArg Value.bool aa)) ?_
      refine Q_pass (dj := 25) rfl rfl (.inl (by exact congrArg Value.bool aa)) ?_
      refine Q_pu (P_pick false (vb false) (by exact congrArg Value.bool aa) rfl) ?_
      refine Q_pu (P_assign (vb false) rfl) ?_
      refine Q_nil fun bb a4 => ?_
      have a5 := ab.k0 a4
      refine W_ret ?_
      exact ⟨[vb false], ⟨_, rfl, rfl⟩, false, rfl, H, a5.gr.g0⟩
    ·have H := ite_f H ai
     refine W_skip ?_
     refine W_seq ?_
     refine W_reg ?_
     refine L_pu (P_assign (vb false) rfl) ?_
     refine L_nil ?_
     refine W_ret ?_
     exact ⟨[vb false], ⟨_, rfl, rfl⟩, false, rfl, H, ab.gr.g0⟩
end Go.Proofs.Ytndjggncgpjolaa

namespace Go.Proofs.Ytndjggncgpjolaa
open Go.RowKit
set_option linter.unusedVariables false
set_option linter.unusedSimpArgs false
def spec_l2Tags.E (t_ : List Tag) (Q : Bool → Prop) : Prop :=
 (∃ (I18 : Int → Prop) (mu19 : Int → Nat), I18 0 ∧ ∀ (i2 : Int), I18 i2 → (if decide (i2 < (t_.length : Int)) then ((0 : Int) ≤ i2 ∧ i2 < (t_.length : Int)) ∧ (∃ q : Bool, spec_WordOk.E ((nth t_ i2).Key) (fun x => x = q) ∧ (if !q then Q false else ((0 : Int) ≤ i2 ∧ i2 < (t_.length : Int)) ∧ (∃ q2 : Bool, spec_WordOk.E ((nth t_ i2).Val) (fun x => x = q2) ∧ (if !q2 then Q false else (if decide (i2 > 0) then ((0 : Int) ≤ i2 ∧ i2 < (t_.length : Int)) ∧ ((t_.length : Int) ≤ 9223372036854775807 → I64 (i2 - 1)) ∧ ((0 : Int) ≤ i2 - 1 ∧ i2 - 1 < (t_.length : Int)) ∧ (if Op.bytesLess ((nth t_ i2).Key) ((nth t_ (i2 - 1)).Key) || ((nth t_ i2).Key) == ((nth t_ (i2 - 1)).Key) then Q false else (-9223372036854775808 ≤ i2) ∧ I18 (i2 + 1) ∧ mu19 (i2 + 1) < mu19 i2) else (-9223372036854775808 ≤ i2) ∧ I18 (i2 + 1) ∧ mu19 (i2 + 1) < mu19 i2))))) else Q (decide ((t_.length : Int) ≤ 4))))
set_option maxHeartbeats 8000000 in
set_option maxRecDepth 100000 in
theorem spec_l2Tags.calls {O : Ob} (w0 : World) (hO : Ok w0 O) (t_ : List Tag) (A1 : Option Addr) (n2 c3 : Nat) (hp4 : Sl kTag w0 (Fr O) (.slice A1 n2 c3) t_) (Q : Bool → Prop) (h : spec_l2Tags.E t_ Q) :
  Ret Try.prog 135 [.slice A1 n2 c3] w0 (fun v w' => ∃ (r0 : Bool), v = vb r0 ∧ Q r0 ∧ Gr w0 w' none) := by
 unfold spec_l2Tags.E at h
 have H := h
 clear h
 have hc0 := Ct.init hO
 refine Ret_enter Try.func135 rfl 47 rfl [.tmp 2] rfl rfl ?_
 refine W_seq ?_
 refine W_reg ?_
 refine L_pu (P_assign (vb false) rfl) ?_
 refine L_nil ?_
 refine W_seq ?_
 refine W_seq ?_
 refine W_reg ?_
 refine L_pu (P_assign (vi 0) rfl) ?_
 refine L_nil ?_
 refine W_block ?_
 obtain ⟨ax, ay, al, H⟩ := H
 refine W_loop (α := Int) (fun (sv__ : Int) t ag => match sv__ with | i2 => ax i2 ∧ Has t [(0, .slice A1 n2 c3), (3, vi i2)] ∧ Ct [] w0 ag [] O ∧ Sl kTag ag (Fr ([] ++ O)) (.slice A1 n2 c3) t_) (fun (sv__ : Int) => match sv__ with | i2 => ay i2) 0 ⟨al, ⟨rfl, rfl, trivial⟩, hc0, hp4⟩ ?_
 rintro i2 _ ag ⟨al, az, ae, ad⟩
 obtain ⟨bz, rfl⟩ := Has.ins az
 have H := H i2 al
 refine W_seq ?_
 refine W_seq ?_
 refine W_reg ?_
 refine L_pu (P_move (vi i2) rfl) ?_
 refine L_pu (P_move (.slice A1 n2 c3) rfl) ?_
 have am := ad.le
 refine L_pu (P_len Try.underlying69 A1 n2 c3 ad.len rfl) ?_
 refine L_pu (P_cmp i2 (t_.length : Int) (decide (i2 < (t_.length : Int))) rfl rfl rfl) ?_
 refine L_nil ?_
 refine W_cond (decide (i2 < (t_.length : Int))) rfl (fun af => ?_) (fun af => ?_)
 ·have H := ite_t H af
  refine W_skip ?_
  refine W_seq ?_
  refine W_block ?_
  refine W_seq ?_
  refine W_draw (fun x => Gr ag x none) (by kernel_rfl) (by kernel_rfl) (Gr.drew _) ?_
  refine Q_pu (P_move (.slice A1 n2 c3) rfl) ?_
  refine Q_pu (P_move (vi i2) rfl) ?_
  obtain ⟨ao, H⟩ := H
  obtain ⟨ah, b0, a0, b1, a1, a2⟩ := ad.get default (by decide) i2 ao
  obtain ⟨rfl, a3, b2⟩ := kTag.op a1
  refine Q_pu (P_ia Try.underlying69 se69 A1 ah n2 c3 ad.len i2 rfl a0 rfl ao) ?_
  refine Q_pu (P_fa fa133_0 (ah.add (i2.toNat * 2)) ((ah.add (i2.toNat * 2)).add 0) rfl rfl) ?_
  refine Q_pu (P_ld ag9 cQ ((ah.add (i2.toNat * 2)).add 0) (vs ((nth t_ i2).Key)) rfl (a2 0 _ rfl)) ?_
  obtain ⟨q, a4, H⟩ := H
  refine Q_call go52 [vs ((nth t_ i2).Key)] rfl (vb q) (fun w g => (spec_WordOk.calls w (ae.k0 g).ok ((nth t_ i2).Key) a3 _ a4).mono ?_) ?_
  ·rintro _ w ⟨r, rfl, rfl, g2⟩
   exact ⟨rfl, Gr.t0 g g2⟩
  refine Q_pu (P_not q rfl) ?_
  refine Q_pu (P_move (vb (!q)) rfl) ?_
  rcases bool_or (!q) with ab | ab
  ·have H := ite_t H ab
   refine Q_pass (dj := 17) rfl rfl (.inl (by exact congrArg Value.bool ab)) ?_
   refine Q_pass (dj := 17) rfl rfl (.inl (by exact congrArg Value.bool ab)) ?_
   refine Q_pass (dj := 17) rfl rfl (.inl (by exact congrArg Value.bool ab)) ?_
   refine Q_pass (dj := 17) rfl rfl (.inl (by exact congrArg Value.bool ab)) ?_
   refine Q_pass (dj := 17) rfl rfl (.inl (by exact congrArg Value.bool ab)) ?_
   refine Q_pass (dj := 17) rfl rfl (.inl (by exact congrArg Value.bool ab)) ?_
   refine Q_pass (dj := 17) rfl rfl (.inl (by exact congrArg Value.bool ab)) ?_
   refine Q_pu (P_pick true (vb true) (by exact congrArg Value.bool ab) rfl) ?_
   refine Q_pu (P_move (vb true) rfl) ?_
   refine Q_pass (dj := 26) rfl rfl (.inl rfl) ?_
   refine Q_pass (dj := 26) rfl rfl (.inl rfl) ?_
   refine Q_pass (dj := 26) rfl rfl (.inl rfl) ?_
   refine Q_pass (dj := 29) rfl rfl (.inr rfl) ?_
   refine Q_pass (dj := 29) rfl rfl (.inr rfl) ?_
   refine Q_pass (dj := 29) rfl rfl (.inr rfl) ?_
   refine Q_pass (dj := 29) rfl rfl (.inr rfl) ?_
   refine Q_pass (dj := 29) rfl rfl (.inr rfl) ?_
   refine Q_pass (dj := 29) rfl rfl (.inr rfl) ?_
   refine Q_pass (dj := 29) rfl rfl (.inr rfl) ?_
   refine Q_pass (dj := 29) rfl rfl (.inr rfl) ?_
   refine Q_pass (dj := 29) rfl rfl (.inr rfl) ?_
   refine Q_pass (dj := 29) rfl rfl (.inr rfl) ?_
   refine Q_pass (dj := 29) rfl rfl (.inr rfl) ?_
   refine Q_pass (dj := 29) rfl rfl (.inr rfl) ?_
   refine Q_pass (dj := 26) rfl rfl (.inl rfl) ?_
   refine Q_pu (P_pick true (vb true) (by exact congrArg Value.bool rfl) rfl) ?_
   refine Q_nil fun b3 a5 => ?_
   have a6 := ae.k0 a5
   refine W_ct (b := true) rfl rfl ?_
   refine W_seq ?_
   refine W_reg ?_
   refine L_pu (P_assign (vb false) rfl) ?_
   refine L_nil ?_
   refine W_ret ?_
   exact ⟨[vb false], ⟨_, rfl, rfl⟩, false, rfl, H, a6.gr.g0⟩
  ·have H := ite_f H ab
   refine Q_run (dj := 17) rfl rfl (by exact congrArg Value.bool ab) ?_
   refine Q_pu (P_move (.slice A1 n2 c3) rfl) ?_
   refine Q_run (dj := 17) rfl rfl (by exact congrArg Value.bool ab) ?_
   refine Q_pu (P_move (vi i2) rfl) ?_
   refine Q_run (dj := 17) rfl rfl (by exact congrArg Value.bool ab) ?_
   obtain ⟨ap, H⟩ := H
   obtain ⟨ai, b4, a7, b5, a8, a9⟩ := ad.get default (by decide) i2 ap
   obtain ⟨rfl, b6, ba⟩ := kTag.op a8
   refine Q_pu (P_ia Try.underlying69 se69 A1 ai n2 c3 ad.len i2 rfl a7 rfl ap) ?_
   refine Q_run (dj := 17) rfl rfl (by exact congrArg Value.bool ab) ?_
   refine Q_pu (P_fa fa133_1 (ai.add (i2.toNat * 2)) ((ai.add (i2.toNat * 2)).add 1) rfl rfl) ?_
   refine Q_run (dj := 17) rfl rfl (by exact congrArg Value.bool ab) ?_
   refine Q_pu (P_ld ag9 cQ ((ai.add (i2.toNat * 2)).add 1) (vs ((nth t_ i2).Val)) rfl (a9 1 _ rfl)) ?_
   refine Q_run (dj := 17) rfl rfl (by exact congrArg Value.bool ab) ?_
   obtain ⟨q2, bb, H⟩ := H
   refine Q_call go52 [vs ((nth t_ i2).Val)] rfl (vb q2) (fun w g => (spec_WordOk.calls w (ae.k0 g).ok ((nth t_ i2).Val) ba _ bb).mono ?_) ?_
   ·rintro _ w ⟨r, rfl, rfl, g2⟩
    exact ⟨rfl, Gr.t0 g g2⟩
   refine Q_run (dj := 17) rfl rfl (by exact congrArg Value.bool ab) ?_
   refine Q_pu (P_not q2 rfl) ?_
   refine Q_pu (P_pick false (vb (!q2)) (by exact congrArg Value.bool ab) rfl) ?_
   refine Q_pu (P_move (vb (!q2)) rfl) ?_
   rcases bool_or (!q2) with ac | ac
   ·have H := ite_t H ac
    refine Q_pass (dj := 26) rfl rfl (.inl (by exact congrArg Value.bool ac)) ?_
    refine Q_pass (dj := 26) rfl rfl (.inl (by exact congrArg Value.bool ac)) ?_
    refine Q_pass (dj := 26) rfl rfl (.inl (by exact congrArg Value.bool ac)) ?_
    refine Q_pass (dj := 29) rfl rfl (.inr rfl) ?_
    refine Q_pass (dj := 29) rfl rfl (.inr rfl) ?_
    refine Q_pass (dj := 29) rfl rfl (.inr rfl) ?_
    refine Q_pass (dj := 29) rfl rfl (.inr rfl) ?_
    refine Q_pass (dj := 29) rfl rfl (.inr rfl) ?_
    refine Q_pass (dj := 29) rfl rfl (.inr rfl) ?_
    refine Q_pass (dj := 29) rfl rfl (.inr rfl) ?_
    refine Q_pass (dj := 29) rfl rfl (.inr rfl) ?_
    refine Q_pass (dj := 29) rfl rfl (.inr rfl) ?_
    refine Q_pass (dj := 29) rfl rfl (.inr rfl) ?_
    refine Q_pass (dj := 29) rfl rfl (.inr rfl) ?_
    refine Q_pass (dj := 29) rfl rfl (.inr rfl) ?_
    refine Q_pass (dj := 26) rfl rfl (.inl (by exact congrArg Value.bool ac)) ?_
    refine Q_pu (P_pick true (vb true) (by exact congrArg Value.bool ac) rfl) ?_
    refine Q_nil fun b7 bc => ?_
    have bd := ae.k0 bc
    refine W_ct (b := true) rfl rfl ?_
    refine W_seq ?_
    refine W_reg ?_
    refine L_pu (P_assign (vb false) rfl) ?_
    refine L_nil ?_
    refine W_ret ?_
    exact ⟨[vb false], ⟨_, rfl, rfl⟩, false, rfl, H, bd.gr.g0⟩
   ·have H := ite_f H ac
    refine Q_run (dj := 26) rfl rfl (by exact congrArg Value.bool ac) ?_
    refine Q_pu (P_move (vi i2) rfl) ?_
    refine Q_run (dj := 26) rfl rfl (by exact congrArg Value.bool ac) ?_
    refine Q_pu (P_cmp i2 0 (decide (i2 > 0)) rfl rfl rfl) ?_
    refine Q_run (dj := 26) rfl rfl (by exact congrArg Value.bool ac) ?_
    refine Q_pu (P_move (vb (decide (i2 > 0))) rfl) ?_
    rcases bool_or (decide (i2 > 0)) with aa | aa
    ·have H := ite_t H aa
     refine Q_run (dj := 29) rfl rfl (by exact congrArg Value.bool aa) ?_
     refine Q_pu (P_move (.slice A1 n2 c3) rfl) ?_
     refine Q_run (dj := 29) rfl rfl (by exact congrArg Value.bool aa) ?_
     refine Q_pu (P_move (vi i2) rfl) ?_
     refine Q_run (dj := 29) rfl rfl (by exact congrArg Value.bool aa) ?_
     obtain ⟨aq, H⟩ := H
     obtain ⟨aj, b8, be, b9, bf, bg⟩ := ad.get default (by decide) i2 aq
     obtain ⟨rfl, ca, cb⟩ := kTag.op bf
     refine Q_pu (P_ia Try.underlying69 se69 A1 aj n2 c3 ad.len i2 rfl be rfl aq) ?_
     refine Q_run (dj := 29) rfl rfl (by exact congrArg Value.bool aa) ?_
     refine Q_pu (P_fa fa133_0 (aj.add (i2.toNat * 2)) ((aj.add (i2.toNat * 2)).add 0) rfl rfl) ?_
     refine Q_run (dj := 29) rfl rfl (by exact congrArg Value.bool aa) ?_
     refine Q_pu (P_ld ag9 cQ ((aj.add (i2.toNat * 2)).add 0) (vs ((nth t_ i2).Key)) rfl (bg 0 _ rfl)) ?_
     refine Q_run (dj := 29) rfl rfl (by exact congrArg Value.bool aa) ?_
     refine Q_pu (P_move (.slice A1 n2 c3) rfl) ?_
     refine Q_run (dj := 29) rfl rfl (by exact congrArg Value.bool aa) ?_
     refine Q_pu (P_move (vi i2) rfl) ?_
     refine Q_run (dj := 29) rfl rfl (by exact congrArg Value.bool aa) ?_
     obtain ⟨bh, H⟩ := H
     have bi := bh (len_le am)
     refine Q_pu (P_sub i2 1 rfl rfl bi) ?_
     refine Q_run (dj := 29) rfl rfl (by exact congrArg Value.bool aa) ?_
     obtain ⟨ar, H⟩ := H
     obtain ⟨ak, cc, bj, cd, bl, bm⟩ := ad.get default (by decide) (i2 - 1) ar
     obtain ⟨rfl, ce, cf⟩ := kTag.op bl
     refine Q_pu (P_ia Try.underlying69 se69 A1 ak n2 c3 ad.len (i2 - 1) rfl bj rfl ar) ?_
     refine Q_run (dj := 29) rfl rfl (by exact congrArg Value.bool aa) ?_
     refine Q_pu (P_fa fa133_0 (ak.add ((i2 - 1).toNat * 2)) ((ak.add ((i2 - 1).toNat * 2)).add 0) rfl rfl) ?_
     refine Q_run (dj := 29) rfl rfl (by exact congrArg Value.bool aa) ?_
     refine Q_pu (P_ld ag9 cQ ((ak.add ((i2 - 1).toNat * 2)).add 0) (vs ((nth t_ (i2 - 1)).Key)) rfl (bm 0 _ rfl)) ?_
     refine Q_run (dj := 29) rfl rfl (by exact congrArg Value.bool aa) ?_
     refine Q_pu (P_scmp ((nth t_ i2).Key) ((nth t_ (i2 - 1)).Key) (Op.bytesLess ((nth t_ i2).Key) ((nth t_ (i2 - 1)).Key) || ((nth t_ i2).Key) == ((nth t_ (i2 - 1)).Key)) rfl rfl rfl) ?_
     refine Q_run (dj := 26) rfl rfl (by exact congrArg Value.bool ac) ?_
     refine Q_pu (P_pick true (vb (Op.bytesLess ((nth t_ i2).Key) ((nth t_ (i2 - 1)).Key) || ((nth t_ i2).Key) == ((nth t_ (i2 - 1)).Key))) (by exact congrArg Value.bool aa) rfl) ?_
     refine Q_pu (P_pick false (vb (Op.bytesLess ((nth t_ i2).Key) ((nth t_ (i2 - 1)).Key) || ((nth t_ i2).Key) == ((nth t_ (i2 - 1)).Key))) (by exact congrArg Value.bool ac) rfl) ?_
     refine Q_nil fun cg au => ?_
     have av := ae.k0 au
     refine W_cond (Op.bytesLess ((nth t_ i2).Key) ((nth t_ (i2 - 1)).Key) || ((nth t_ i2).Key) == ((nth t_ (i2 - 1)).Key)) rfl (fun an => ?_) (fun an => ?_)
     ·have H := ite_t H an
      refine W_seq ?_
      refine W_reg ?_
      refine L_pu (P_assign (vb false) rfl) ?_
      refine L_nil ?_
      refine W_ret ?_
      exact ⟨[vb false], ⟨_, rfl, rfl⟩, false, rfl, H, av.gr.g0⟩
     ·have H := ite_f H an
      refine W_skip ?_
      refine W_reg ?_
      refine L_pu (P_move (vi i2) rfl) ?_
      obtain ⟨bn, H⟩ := H
      have bo : I64 (i2 + 1) := i64_succ (of_decide_eq_true af) am bn
      refine L_pu (P_add i2 1 rfl rfl bo) ?_
      refine L_pu (P_assign (vi (i2 + 1)) rfl) ?_
      refine L_nil ?_
      obtain ⟨bp, bq⟩ := H
      have br := ae.stn au
      exact ⟨i2 + 1, bq, bp, ⟨rfl, rfl, trivial⟩, av, (ad.st br)⟩
    ·have H := ite_f H aa
     refine Q_pass (dj := 29) rfl rfl (.inl (by exact congrArg Value.bool aa)) ?_
     refine Q_pass (dj := 29) rfl rfl (.inl (by exact congrArg Value.bool aa)) ?_
     refine Q_pass (dj := 29) rfl rfl (.inl (by exact congrArg Value.bool aa)) ?_
     refine Q_pass (dj := 29) rfl rfl (.inl (by exact congrArg Value.bool aa)) ?_
     refine Q_pass (dj := 29) rfl rfl (.inl (by exact congrArg Value.bool aa)) ?_
     refine Q_pass (dj := 29) rfl rfl (.inl (by exact congrArg Value.bool aa)) ?_
     refine Q_pass (dj := 29) rfl rfl (.inl (by exact congrArg Value.bool aa)) ?_
     refine Q_pass (dj := 29) rfl rfl (.inl (by exact congrArg Value.bool aa)) ?_
     refine Q_pass (dj := 29) rfl rfl (.inl (by exact congrArg Value.bool aa)) ?_
     refine Q_pass (dj := 29) rfl rfl (.inl (by exact congrArg Value.bool aa)) ?_
     refine Q_pass (dj := 29) rfl rfl (.inl (by exact congrArg Value.bool aa)) ?_
     refine Q_pass (dj := 29) rfl rfl (.inl (by exact congrArg Value.bool aa)) ?_
     refine Q_run (dj := 26) rfl rfl (by exact congrArg Value.bool ac) ?_
     refine Q_pu (P_pick false (vb false) (by exact congrArg Value.bool aa) rfl) ?_
     refine Q_pu (P_pick false (vb false) (by exact congrArg Value.bool ac) rfl) ?_
     refine Q_nil fun ch aw => ?_
     have bs := ae.k0 aw
     refine W_cf (b := false) rfl rfl ?_
     refine W_skip ?_
     refine W_reg ?_
     refine L_pu (P_move (vi i2) rfl) ?_
     obtain ⟨bt, H⟩ := H
     have bu : I64 (i2 + 1) := i64_succ (of_decide_eq_true af) am bt
     refine L_pu (P_add i2 1 rfl rfl bu) ?_
     refine L_pu (P_assign (vi (i2 + 1)) rfl) ?_
     refine L_nil ?_
     obtain ⟨bv, bw⟩ := H
     have bx := ae.stn aw
     exact ⟨i2 + 1, bw, bv, ⟨rfl, rfl, trivial⟩, bs, (ad.st bx)⟩
 ·have H := ite_f H af
  refine W_exit (xin_hit ?_)
  refine W_seq ?_
  refine W_reg ?_
  refine L_pu (P_move (.slice A1 n2 c3) rfl) ?_
  refine L_pu (P_len Try.underlying69 A1 n2 c3 ad.len rfl) ?_
  refine L_pu (P_cmp (t_.length : Int) 4 (decide ((t_.length : Int) ≤ 4)) rfl rfl rfl) ?_
  refine L_pu (P_assign (vb (decide ((t_.length : Int) ≤ 4))) rfl) ?_
  refine L_nil ?_
  refine W_ret ?_
  exact ⟨[vb (decide ((t_.length : Int) ≤ 4))], ⟨_, rfl, rfl⟩, decide ((t_.length : Int) ≤ 4), rfl, H, ae.gr.g0⟩
end Go.Proofs.Ytndjggncgpjolaa

namespace Go.Proofs.Ytndjggncgpjolaa
open Go.RowKit
set_option linter.unusedVariables false
set_option linter.unusedSimpArgs false
def spec_FeatOk.E (f : Feat) (Q : Bool → Prop) : Prop :=
 spec_WordOk.E f.Id (fun r => (if r then spec_ShapeOk.E f.Shape (fun r2 => (if r2 then spec_l2Tags.E f.Tags (fun r3 => Q r3) else Q false)) else Q false))
set_option maxHeartbeats 8000000 in
set_option maxRecDepth 100000 in
theorem spec_FeatOk.calls {O : Ob} (w0 : World) (hO : Ok w0 O) (f : Feat) (A2 : Option Addr) (n3 c4 : Nat) (A7 : Option Addr) (n8 c9 : Nat) (hs1 : Lim f.Id) (hp5 : Sl kPt w0 (Fr O) (.slice A2 n3 c4) f.Shape.Pts) (ak : Sl kTag w0 (Fr O) (.slice A7 n8 c9) f.Tags) (Q : Bool → Prop) (h : spec_FeatOk.E f Q) :
  Ret Try.prog 89 [.agg #[vs f.Id, vi f.Shape.Kind, .slice A2 n3 c4, .slice A7 n8 c9]] w0 (fun v w' => ∃ (r0 : Bool), v = vb r0 ∧ Q r0 ∧ Gr w0 w' none) := by
 unfold spec_FeatOk.E at h
 have H := h
 clear h
 have hc0 := Ct.init hO
 refine Ret_enter Try.func89 rfl 16 rfl [.tmp 2] rfl rfl ?_
 refine W_seq ?_
 refine W_reg ?_
 refine L_box [vs f.Id, vi f.Shape.Kind, .slice A2 n3 c4, .slice A7 n8 c9] rfl fun al ac am hu16 an ao => ?_
 have ag := Fb.mk hc0.ok am ao
 have af := hc0.k0 an
 refine L_pu (P_assign (vb false) rfl) ?_
 refine L_nil ?_
 refine W_seq ?_
 refine W_reg ?_
 refine L_pu (P_fa fa71_0 ⟨ac, 0, none⟩ ⟨ac, 0, none⟩ rfl rfl) ?_
 refine L_pu (P_ld ag9 cL ⟨ac, 0, none⟩ (vs f.Id) rfl (ag.cell rfl)) ?_
 refine L_call go52 [vs f.Id] rfl ((spec_WordOk.calls al af.ok f.Id hs1 _ H).mono ?_)
 rintro _ ap ⟨r, rfl, H, ah⟩
 have ad := af.k0 ah
 refine L_pu (P_move (vb r) rfl) ?_
 rcases bool_or r with aa | aa
 ·have H := ite_t H aa
  refine L_run (dj := 6) rfl rfl (by exact congrArg Value.bool aa) ?_
  refine L_pu (P_fa fa71_1 ⟨ac, 0, none⟩ ⟨ac, 1, none⟩ rfl rfl) ?_
  refine L_run (dj := 6) rfl rfl (by exact congrArg Value.bool aa) ?_
  have aq := af.stn ah
  have ai := (ag.st aq)
  refine L_pu (P_lda ag68 sz68 cL ⟨ac, 1, none⟩ [vi f.Shape.Kind, .slice A2 n3 c4] rfl rfl (ai.cells (off := 1) rfl)) ?_
  refine L_run (dj := 6) rfl rfl (by exact congrArg Value.bool aa) ?_
  refine L_call go134 [.agg #[vi f.Shape.Kind, .slice A2 n3 c4]] rfl ((spec_ShapeOk.calls ap ad.ok f.Shape A2 n3 c4 (hp5.st ad.st) _ H).mono ?_)
  rintro _ ar ⟨r2, rfl, H, aj⟩
  have ae := ad.k0 aj
  refine L_pu (P_pick true (vb r2) (by exact congrArg Value.bool aa) rfl) ?_
  refine L_pu (P_move (vb r2) rfl) ?_
  rcases bool_or r2 with ab | ab
  ·have H := ite_t H ab
   refine L_run (dj := 11) rfl rfl (by exact congrArg Value.bool ab) ?_
   refine L_pu (P_fa fa71_2 ⟨ac, 0, none⟩ ⟨ac, 3, none⟩ rfl rfl) ?_
   refine L_run (dj := 11) rfl rfl (by exact congrArg Value.bool ab) ?_
   have au := ad.stn aj
   have av := (ai.st au)
   refine L_pu (P_ld ag69 cL ⟨ac, 3, none⟩ (.slice A7 n8 c9) rfl (av.cell rfl)) ?_
   refine L_run (dj := 11) rfl rfl (by exact congrArg Value.bool ab) ?_
   refine L_call go135 [.slice A7 n8 c9] rfl ((spec_l2Tags.calls ar ae.ok f.Tags A7 n8 c9 (ak.st ae.st) _ H).mono ?_)
   rintro _ ay ⟨r3, rfl, H, aw⟩
   have ax := ae.k0 aw
   refine L_pu (P_pick true (vb r3) (by exact congrArg Value.bool ab) rfl) ?_
   refine L_pu (P_assign (vb r3) rfl) ?_
   refine L_nil ?_
   refine W_ret ?_
   exact ⟨[vb r3], ⟨_, rfl, rfl⟩, r3, rfl, H, ax.gr.g0⟩
  ·have H := ite_f H ab
   refine L_pass (dj := 11) rfl rfl (.inl (by exact congrArg Value.bool ab)) ?_
   refine L_pass (dj := 11) rfl rfl (.inl (by exact congrArg Value.bool ab)) ?_
   refine L_pass (dj := 11) rfl rfl (.inl (by exact congrArg Value.bool ab)) ?_
   refine L_pu (P_pick false (vb false) (by exact congrArg Value.bool ab) rfl) ?_
   refine L_pu (P_assign (vb false) rfl) ?_
   refine L_nil ?_
   refine W_ret ?_
   exact ⟨[vb false], ⟨_, rfl, rfl⟩, false, rfl, H, ae.gr.g0⟩
 ·have H := ite_f H aa
  refine L_pass (dj := 6) rfl rfl (.inl (by exact congrArg Value.bool aa)) ?_
  refine L_pass (dj := 6) rfl rfl (.inl (by exact congrArg Value.bool aa)) ?_
  refine L_pass (dj := 6) rfl rfl (.inl (by exact congrArg Value.bool aa)) ?_
  refine L_pu (P_pick false (vb false) (by exact congrArg Value.bool aa) rfl) ?_
  refine L_pu (P_move (vb false) rfl) ?_
  refine L_pass (dj := 11) rfl rfl (.inl rfl) ?_
  refine L_pass (dj := 11) rfl rfl (.inl rfl) ?_
  refine L_pass (dj := 11) rfl rfl (.inl rfl) ?_
  refine L_pu (P_pick false (vb false) (by exact congrArg Value.bool rfl) rfl) ?_
  refine L_pu (P_assign (vb false) rfl) ?_
  refine L_nil ?_
  refine W_ret ?_
  exact ⟨[vb false], ⟨_, rfl, rfl⟩, false, rfl, H, ad.gr.g0⟩
end Go.Proofs.Ytndjggncgpjolaa

namespace Go.Proofs.Ytndjggncgpjolaa
open Go.RowKit
set_option linter.unusedVariables false
set_option linter.unusedSimpArgs false
def spec_l1Same.E (a : List Pt) (b : List Pt) (Q : Bool → Prop) : Prop :=
 (if (a.length : Int) != (b.length : Int) then Q false else (∃ (I32 : Int → Prop) (mu33 : Int → Nat), I32 0 ∧ ∀ (i2 : Int), I32 i2 → (if decide (i2 < (a.length : Int)) then ((0 : Int) ≤ i2 ∧ i2 < (a.length : Int)) ∧ ((0 : Int) ≤ i2 ∧ i2 < (b.length : Int)) ∧ (if !(eqPt (nth a i2) (nth b i2)) then Q false else (-9223372036854775808 ≤ i2) ∧ I32 (i2 + 1) ∧ mu33 (i2 + 1) < mu33 i2) else Q true)))
set_option maxHeartbeats 8000000 in
set_option maxRecDepth 100000 in
theorem spec_l1Same.calls {O : Ob} (w0 : World) (hO : Ok w0 O) (a : List Pt) (A1 : Option Addr) (n2 c3 : Nat) (hp4 : Sl kPt w0 (Fr O) (.slice A1 n2 c3) a) (b : List Pt) (A6 : Option Addr) (n7 c8 : Nat) (hp9 : Sl kPt w0 (Fr O) (.slice A6 n7 c8) b) (Q : Bool → Prop) (h : spec_l1Same.E a b Q) :
  Ret Try.prog 147 [.slice A1 n2 c3, .slice A6 n7 c8] w0 (fun v w' => ∃ (r0 : Bool), v = vb r0 ∧ Q r0 ∧ Gr w0 w' none) := by
 unfold spec_l1Same.E at h
 have H := h
 clear h
 have hc0 := Ct.init hO
 refine Ret_enter Try.func147 rfl 26 rfl [.tmp 4] rfl rfl ?_
 refine W_seq ?_
 refine W_reg ?_
 refine L_pu (P_assign (vb false) rfl) ?_
 refine L_nil ?_
 refine W_seq ?_
 refine W_seq ?_
 refine W_reg ?_
 refine L_pu (P_move (.slice A1 n2 c3) rfl) ?_
 have a5 := hp4.le
 refine L_pu (P_len Try.underlying23 A1 n2 c3 hp4.len rfl) ?_
 refine L_pu (P_move (.slice A6 n7 c8) rfl) ?_
 have a6 := hp9.le
 refine L_pu (P_len Try.underlying23 A6 n7 c8 hp9.len rfl) ?_
 refine L_pu (P_cmp (a.length : Int) (b.length : Int) ((a.length : Int) != (b.length : Int)) rfl rfl rfl) ?_
 refine L_nil ?_
 refine W_cond ((a.length : Int) != (b.length : Int)) rfl (fun ad => ?_) (fun ad => ?_)
 ·have H := ite_t H ad
  refine W_seq ?_
  refine W_reg ?_
  refine L_pu (P_assign (vb false) rfl) ?_
  refine L_nil ?_
  refine W_ret ?_
  exact ⟨[vb false], ⟨_, rfl, rfl⟩, false, rfl, H, hc0.gr.g0⟩
 ·have H := ite_f H ad
  refine W_skip ?_
  refine W_seq ?_
  refine W_seq ?_
  refine W_reg ?_
  refine L_pu (P_assign (vi 0) rfl) ?_
  refine L_nil ?_
  refine W_block ?_
  obtain ⟨ap, aq, ae, H⟩ := H
  refine W_loop (α := Int) (fun (sv__ : Int) t aa => match sv__ with | i2 => ap i2 ∧ Has t [(0, .slice A1 n2 c3), (1, .slice A6 n7 c8), (5, vi i2)] ∧ Ct [] w0 aa [] O ∧ Sl kPt aa (Fr ([] ++ O)) (.slice A1 n2 c3) a ∧ Sl kPt aa (Fr ([] ++ O)) (.slice A6 n7 c8) b) (fun (sv__ : Int) => match sv__ with | i2 => aq i2) 0 ⟨ae, ⟨rfl, rfl, rfl, trivial⟩, hc0, hp4, hp9⟩ ?_
  rintro i2 _ aa ⟨ae, ar, af, ab, ag⟩
  obtain ⟨a7, rfl⟩ := Has.ins ar
  have H := H i2 ae
  refine W_seq ?_
  refine W_seq ?_
  refine W_reg ?_
  refine L_pu (P_move (vi i2) rfl) ?_
  refine L_pu (P_move (.slice A1 n2 c3) rfl) ?_
  have au := ab.le
  refine L_pu (P_len Try.underlying23 A1 n2 c3 ab.len rfl) ?_
  refine L_pu (P_cmp i2 (a.length : Int) (decide (i2 < (a.length : Int))) rfl rfl rfl) ?_
  refine L_nil ?_
  refine W_cond (decide (i2 < (a.length : Int))) rfl (fun ac => ?_) (fun ac => ?_)
  ·have H := ite_t H ac
   refine W_skip ?_
   refine W_seq ?_
   refine W_block ?_
   refine W_seq ?_
   refine W_draw (fun x => Gr aa x none) (by kernel_rfl) (by kernel_rfl) (Gr.drew _) ?_
   refine Q_pu (P_move (.slice A1 n2 c3) rfl) ?_
   refine Q_pu (P_move (vi i2) rfl) ?_
   obtain ⟨ai, H⟩ := H
   obtain ⟨aj, a8, av, a9, aw, ax⟩ := ab.get default (by decide) i2 ai
   obtain rfl := kPt.op aw
   refine Q_pu (P_ia Try.underlying23 se23 A1 aj n2 c3 ab.len i2 rfl av rfl ai) ?_
   refine Q_pu (P_lda ag29 sz29 cQ (aj.add (i2.toNat * 2)) [vi ((nth a i2).X), vi ((nth a i2).Y)] rfl rfl ax) ?_
   refine Q_pu (P_move (.slice A6 n7 c8) rfl) ?_
   refine Q_pu (P_move (vi i2) rfl) ?_
   obtain ⟨ak, H⟩ := H
   obtain ⟨al, ba, ay, bb, az, a0⟩ := ag.get default (by decide) i2 ak
   obtain rfl := kPt.op az
   refine Q_pu (P_ia Try.underlying23 se23 A6 al n7 c8 ag.len i2 rfl ay rfl ak) ?_
   refine Q_pu (P_lda ag29 sz29 cQ (al.add (i2.toNat * 2)) [vi ((nth b i2).X), vi ((nth b i2).Y)] rfl rfl a0) ?_
   refine Q_pu (P_ne _ _ (eqPt (nth a i2) (nth b i2)) (qt29 (nth a i2) (nth b i2)) rfl rfl) ?_
   refine Q_nil fun bc am => ?_
   have an := af.k0 am
   refine W_cond (!(eqPt (nth a i2) (nth b i2))) rfl (fun ah => ?_) (fun ah => ?_)
   ·have H := ite_t H ah
    refine W_seq ?_
    refine W_reg ?_
    refine L_pu (P_assign (vb false) rfl) ?_
    refine L_nil ?_
    refine W_ret ?_
    exact ⟨[vb false], ⟨_, rfl, rfl⟩, false, rfl, H, an.gr.g0⟩
   ·have H := ite_f H ah
    refine W_skip ?_
    refine W_reg ?_
    refine L_pu (P_move (vi i2) rfl) ?_
    obtain ⟨a1, H⟩ := H
    have a2 : I64 (i2 + 1) := i64_succ (of_decide_eq_true ac) au a1
    refine L_pu (P_add i2 1 rfl rfl a2) ?_
    refine L_pu (P_assign (vi (i2 + 1)) rfl) ?_
    refine L_nil ?_
    obtain ⟨a3, a4⟩ := H
    have ao := af.stn am
    exact ⟨i2 + 1, a4, a3, ⟨rfl, rfl, rfl, trivial⟩, an, (ab.st ao), (ag.st ao)⟩
  ·have H := ite_f H ac
   refine W_exit (xin_hit ?_)
   refine W_seq ?_
   refine W_reg ?_
   refine L_pu (P_assign (vb true) rfl) ?_
   refine L_nil ?_
   refine W_ret ?_
   exact ⟨[vb true], ⟨_, rfl, rfl⟩, true, rfl, H, af.gr.g0⟩
end Go.Proofs.Ytndjggncgpjolaa

namespace Go.Proofs.Ytndjggncgpjolaa
open Go.RowKit
set_option linter.unusedVariables false
set_option linter.unusedSimpArgs false
def spec_ShapeSame.E (a : Shape) (b : Shape) (Q : Bool → Prop) : Prop :=
 (if a.Kind == b.Kind then spec_l1Same.E a.Pts b.Pts (fun r => Q r) else Q false)
set_option maxHeartbeats 8000000 in
set_option maxRecDepth 100000 in
theorem spec_ShapeSame.calls {O : Ob} (w0 : World) (hO : Ok w0 O) (a : Shape) (A1 : Option Addr) (n2 c3 : Nat) (hp4 : Sl kPt w0 (Fr O) (.slice A1 n2 c3) a.Pts) (b : Shape) (A6 : Option Addr) (n7 c8 : Nat) (hp9 : Sl kPt w0 (Fr O) (.slice A6 n7 c8) b.Pts) (Q : Bool → Prop) (h : spec_ShapeSame.E a b Q) :
  Ret Try.prog 123 [.agg #[vi a.Kind, .slice A1 n2 c3], .agg #[vi b.Kind, .slice A6 n7 c8]] w0 (fun v w' => ∃ (r0 : Bool), v = vb r0 ∧ Q r0 ∧ Gr w0 w' none) := by
 unfold spec_ShapeSame.E at h
 have H := h
 clear h
 have hc0 := Ct.init hO
 refine Ret_enter Try.func123 rfl 17 rfl [.tmp 4] rfl rfl ?_
 refine W_seq ?_
 refine W_reg ?_
 refine L_box [vi a.Kind, .slice A1 n2 c3] rfl fun au ab ai hu15 aj ak => ?_
 have al := Fb.mk hc0.ok ai ak
 have ae := hc0.k0 aj
 refine L_box [vi b.Kind, .slice A6 n7 c8] rfl fun am ac an hu24 af ao => ?_
 have ag := Fb.mk ae.ok an ao
 have ad := ae.k0 af
 refine L_pu (P_assign (vb false) rfl) ?_
 refine L_nil ?_
 refine W_seq ?_
 refine W_reg ?_
 refine L_pu (P_fa fa68_0 ⟨ab, 0, none⟩ ⟨ab, 0, none⟩ rfl rfl) ?_
 have ap := ae.stn af
 have ah := (al.st ap)
 refine L_pu (P_ld ag3 cL ⟨ab, 0, none⟩ (vi a.Kind) rfl (ah.cell rfl)) ?_
 refine L_pu (P_fa fa68_0 ⟨ac, 0, none⟩ ⟨ac, 0, none⟩ rfl rfl) ?_
 refine L_pu (P_ld ag3 cL ⟨ac, 0, none⟩ (vi b.Kind) rfl (ag.cell rfl)) ?_
 refine L_pu (P_cmp a.Kind b.Kind (a.Kind == b.Kind) rfl rfl rfl) ?_
 refine L_pu (P_move (vb (a.Kind == b.Kind)) rfl) ?_
 rcases bool_or (a.Kind == b.Kind) with aa | aa
 ·have H := ite_t H aa
  refine L_run (dj := 10) rfl rfl (by exact congrArg Value.bool aa) ?_
  refine L_pu (P_fa fa68_1 ⟨ab, 0, none⟩ ⟨ab, 1, none⟩ rfl rfl) ?_
  refine L_run (dj := 10) rfl rfl (by exact congrArg Value.bool aa) ?_
  refine L_pu (P_ld ag23 cL ⟨ab, 1, none⟩ (.slice A1 n2 c3) rfl (ah.cell rfl)) ?_
  refine L_run (dj := 10) rfl rfl (by exact congrArg Value.bool aa) ?_
  refine L_pu (P_fa fa68_1 ⟨ac, 0, none⟩ ⟨ac, 1, none⟩ rfl rfl) ?_
  refine L_run (dj := 10) rfl rfl (by exact congrArg Value.bool aa) ?_
  refine L_pu (P_ld ag23 cL ⟨ac, 1, none⟩ (.slice A6 n7 c8) rfl (ag.cell rfl)) ?_
  refine L_run (dj := 10) rfl rfl (by exact congrArg Value.bool aa) ?_
  refine L_call go147 [.slice A1 n2 c3, .slice A6 n7 c8] rfl ((spec_l1Same.calls am ad.ok a.Pts A1 n2 c3 (hp4.st ad.st) b.Pts A6 n7 c8 (hp9.st ad.st) _ H).mono ?_)
  rintro _ av ⟨r, rfl, H, aq⟩
  have ar := ad.k0 aq
  refine L_pu (P_pick true (vb r) (by exact congrArg Value.bool aa) rfl) ?_
  refine L_pu (P_assign (vb r) rfl) ?_
  refine L_nil ?_
  refine W_ret ?_
  exact ⟨[vb r], ⟨_, rfl, rfl⟩, r, rfl, H, ar.gr.g0⟩
 ·have H := ite_f H aa
  refine L_pass (dj := 10) rfl rfl (.inl (by exact congrArg Value.bool aa)) ?_
  refine L_pass (dj := 10) rfl rfl (.inl (by exact congrArg Value.bool aa)) ?_
  refine L_pass (dj := 10) rfl rfl (.inl (by exact congrArg Value.bool aa)) ?_
  refine L_pass (dj := 10) rfl rfl (.inl (by exact congrArg Value.bool aa)) ?_
  refine L_pass (dj := 10) rfl rfl (.inl (by exact congrArg Value.bool aa)) ?_
  refine L_pu (P_pick false (vb false) (by exact congrArg Value.bool aa) rfl) ?_
  refine L_pu (P_assign (vb false) rfl) ?_
  refine L_nil ?_
  refine W_ret ?_
  exact ⟨[vb false], ⟨_, rfl, rfl⟩, false, rfl, H, ad.gr.g0⟩
end Go.Proofs.Ytndjggncgpjolaa

namespace Go.Proofs.Ytndjggncgpjolaa
open Go.RowKit
set_option linter.unusedVariables false
set_option linter.unusedSimpArgs false
def spec_l5Few.E (a : List Pt) (b : List Pt) (Q : Bool → Prop) : Prop :=
 (if decide ((a.length : Int) ≤ 12) then Q (decide ((b.length : Int) ≤ 12)) else Q false)
set_option maxHeartbeats 8000000 in
set_option maxRecDepth 100000 in
theorem spec_l5Few.calls {O : Ob} (w0 : World) (hO : Ok w0 O) (a : List Pt) (A1 : Option Addr) (n2 c3 : Nat) (hp4 : Sl kPt w0 (Fr O) (.slice A1 n2 c3) a) (b : List Pt) (A6 : Option Addr) (n7 c8 : Nat) (hp9 : Sl kPt w0 (Fr O) (.slice A6 n7 c8) b) (Q : Bool → Prop) (h : spec_l5Few.E a b Q) :
  Ret Try.prog 50 [.slice A1 n2 c3, .slice A6 n7 c8] w0 (fun v w' => ∃ (r0 : Bool), v = vb r0 ∧ Q r0 ∧ Gr w0 w' none ∧ w' = w0) := by
 unfold spec_l5Few.E at h
 have H := h
 clear h
 have hc0 := Ct.init hO
 refine Ret_enter Try.func50 rfl 13 rfl [.tmp 4] rfl rfl ?_
 refine W_seq ?_
 refine W_reg ?_
 refine L_pu (P_assign (vb false) rfl) ?_
 refine L_nil ?_
 refine W_seq ?_
 refine W_reg ?_
 refine L_pu (P_move (.slice A1 n2 c3) rfl) ?_
 have ab := hp4.le
 refine L_pu (P_len Try.underlying23 A1 n2 c3 hp4.len rfl) ?_
 refine L_pu (P_cmp (a.length : Int) 12 (decide ((a.length : Int) ≤ 12)) rfl rfl rfl) ?_
 refine L_pu (P_move (vb (decide ((a.length : Int) ≤ 12))) rfl) ?_
 rcases bool_or (decide ((a.length : Int) ≤ 12)) with aa | aa
 ·have H := ite_t H aa
  refine L_run (dj := 8) rfl rfl (by exact congrArg Value.bool aa) ?_
  refine L_pu (P_move (.slice A6 n7 c8) rfl) ?_
  refine L_run (dj := 8) rfl rfl (by exact congrArg Value.bool aa) ?_
  have ac := hp9.le
  refine L_pu (P_len Try.underlying23 A6 n7 c8 hp9.len rfl) ?_
  refine L_run (dj := 8) rfl rfl (by exact congrArg Value.bool aa) ?_
  refine L_pu (P_cmp (b.length : Int) 12 (decide ((b.length : Int) ≤ 12)) rfl rfl rfl) ?_
  refine L_pu (P_pick true (vb (decide ((b.length : Int) ≤ 12))) (by exact congrArg Value.bool aa) rfl) ?_
  refine L_pu (P_assign (vb (decide ((b.length : Int) ≤ 12))) rfl) ?_
  refine L_nil ?_
  refine W_ret ?_
  exact ⟨[vb (decide ((b.length : Int) ≤ 12))], ⟨_, rfl, rfl⟩, decide ((b.length : Int) ≤ 12), rfl, H, hc0.gr.g0, rfl⟩
 ·have H := ite_f H aa
  refine L_pass (dj := 8) rfl rfl (.inl (by exact congrArg Value.bool aa)) ?_
  refine L_pass (dj := 8) rfl rfl (.inl (by exact congrArg Value.bool aa)) ?_
  refine L_pass (dj := 8) rfl rfl (.inl (by exact congrArg Value.bool aa)) ?_
  refine L_pu (P_pick false (vb false) (by exact congrArg Value.bool aa) rfl) ?_
  refine L_pu (P_assign (vb false) rfl) ?_
  refine L_nil ?_
  refine W_ret ?_
  exact ⟨[vb false], ⟨_, rfl, rfl⟩, false, rfl, H, hc0.gr.g0, rfl⟩
end Go.Proofs.Ytndjggncgpjolaa

namespace Go.Proofs.Ytndjggncgpjolaa
open Go.RowKit
set_option linter.unusedVariables false
set_option linter.unusedSimpArgs false
def spec_l1Max.E (a : Int) (b : Int) (Q : Int → Prop) : Prop :=
 (if decide (a > b) then Q a else Q b)
set_option maxHeartbeats 8000000 in
set_option maxRecDepth 100000 in
theorem spec_l1Max.calls {O : Ob} (w0 : World) (hO : Ok w0 O) (a : Int) (b : Int) (Q : Int → Prop) (h : spec_l1Max.E a b Q) :
  Ret Try.prog 172 [vi a, vi b] w0 (fun v w' => ∃ (r0 : Int), v = vi r0 ∧ Q r0 ∧ Gr w0 w' none ∧ w' = w0) := by
 unfold spec_l1Max.E at h
 have H := h
 clear h
 have hc0 := Ct.init hO
 refine Ret_enter Try.func172 rfl 10 rfl [.tmp 4] rfl rfl ?_
 refine W_seq ?_
 refine W_reg ?_
 refine L_pu (P_assign (vi 0) rfl) ?_
 refine L_nil ?_
 refine W_seq ?_
 refine W_seq ?_
 refine W_reg ?_
 refine L_pu (P_move (vi a) rfl) ?_
 refine L_pu (P_move (vi b) rfl) ?_
 refine L_pu (P_cmp a b (decide (a > b)) rfl rfl rfl) ?_
 refine L_nil ?_
 refine W_cond (decide (a > b)) rfl (fun hq1 => ?_) (fun hq1 => ?_)
 ·have H := ite_t H hq1
  refine W_seq ?_
  refine W_reg ?_
  refine L_pu (P_move (vi a) rfl) ?_
  refine L_pu (P_assign (vi a) rfl) ?_
  refine L_nil ?_
  refine W_ret ?_
  exact ⟨[vi a], ⟨_, rfl, rfl⟩, a, rfl, H, hc0.gr.g0, rfl⟩
 ·have H := ite_f H hq1
  refine W_skip ?_
  refine W_seq ?_
  refine W_reg ?_
  refine L_pu (P_move (vi b) rfl) ?_
  refine L_pu (P_assign (vi b) rfl) ?_
  refine L_nil ?_
  refine W_ret ?_
  exact ⟨[vi b], ⟨_, rfl, rfl⟩, b, rfl, H, hc0.gr.g0, rfl⟩
def spec_l1Max.m (a : Int) (b : Int) : Int := (if decide (a > b) then a else b)
theorem spec_l1Max.fn (a : Int) (b : Int) : spec_l1Max.E a b (fun r => r = spec_l1Max.m a b) := by
 unfold spec_l1Max.E spec_l1Max.m
 (repeat' split) <;> simp_all
end Go.Proofs.Ytndjggncgpjolaa

namespace Go.Proofs.Ytndjggncgpjolaa
open Go.RowKit
set_option linter.unusedVariables false
set_option linter.unusedSimpArgs false
def spec_l5Long.E (a : List Pt) (b : List Pt) (Q : Int → Prop) : Prop :=
 ((b.length : Int) ≤ 9223372036854775807 → I64 ((b.length : Int) + 1)) ∧ ((0 : Int) ≤ (b.length : Int) + 1 ∧ (b.length : Int) + 1 ≤ (268435456 : Int)) ∧ ((b.length : Int) ≤ 9223372036854775807 → (a.length : Int) ≤ 9223372036854775807 → I64 ((a.length : Int) - 1)) ∧ (∃ (I57 : (List Int) → Int → Prop) (mu58 : (List Int) → Int → Nat), I57 (List.replicate ((b.length : Int) + 1).toNat (0 : Int)) ((a.length : Int) - 1) ∧ ∀ (xs2 : List Int) (i2 : Int), I57 xs2 i2 → (if decide (i2 ≥ 0) then ((b.length : Int) ≤ 9223372036854775807 → I64 ((b.length : Int) + 1)) ∧ ((0 : Int) ≤ (b.length : Int) + 1 ∧ (b.length : Int) + 1 ≤ (268435456 : Int)) ∧ ((b.length : Int) ≤ 9223372036854775807 → I64 ((b.length : Int) - 1)) ∧ (∃ (I116 : (List Int) → Int → Prop) (mu117 : (List Int) → Int → Nat), I116 (List.replicate ((b.length : Int) + 1).toNat (0 : Int)) ((b.length : Int) - 1) ∧ ∀ (xs4 : List Int) (k2 : Int), I116 xs4 k2 → (if decide (k2 ≥ 0) then ((0 : Int) ≤ i2 ∧ i2 < (a.length : Int)) ∧ ((0 : Int) ≤ k2 ∧ k2 < (b.length : Int)) ∧ (if eqPt (nth a i2) (nth b k2) then (I64 (k2 + 1)) ∧ ((0 : Int) ≤ k2 + 1 ∧ k2 + 1 < (xs2.length : Int)) ∧ (I64 ((nth xs2 (k2 + 1)) + 1)) ∧ ((0 : Int) ≤ k2 ∧ k2 < (xs4.length : Int)) ∧ (I64 (k2 - 1)) ∧ I116 (xs4.set k2.toNat ((nth xs2 (k2 + 1)) + 1)) (k2 - 1) ∧ mu117 (xs4.set k2.toNat ((nth xs2 (k2 + 1)) + 1)) (k2 - 1) < mu117 xs4 k2 else ((0 : Int) ≤ k2 ∧ k2 < (xs2.length : Int)) ∧ (I64 (k2 + 1)) ∧ ((0 : Int) ≤ k2 + 1 ∧ k2 + 1 < (xs4.length : Int)) ∧ ((0 : Int) ≤ k2 ∧ k2 < (xs4.length : Int)) ∧ (I64 (k2 - 1)) ∧ I116 (xs4.set k2.toNat (spec_l1Max.m (nth xs2 k2) (nth xs4 (k2 + 1)))) (k2 - 1) ∧ mu117 (xs4.set k2.toNat (spec_l1Max.m (nth xs2 k2) (nth xs4 (k2 + 1)))) (k2 - 1) < mu117 xs4 k2) else (I64 (i2 - 1)) ∧ I57 xs4 (i2 - 1) ∧ mu58 xs4 (i2 - 1) < mu58 xs2 i2)) else ((0 : Int) ≤ 0 ∧ 0 < (xs2.length : Int)) ∧ Q (nth xs2 0)))
set_option maxHeartbeats 8000000 in
set_option maxRecDepth 100000 in
theorem spec_l5Long.calls {O : Ob} (w0 : World) (hO : Ok w0 O) (a : List Pt) (A1 : Option Addr) (n2 c3 : Nat) (hp4 : Sl kPt w0 (Fr O) (.slice A1 n2 c3) a) (b : List Pt) (A6 : Option Addr) (n7 c8 : Nat) (hp9 : Sl kPt w0 (Fr O) (.slice A6 n7 c8) b) (Q : Int → Prop) (h : spec_l5Long.E a b Q) :
  Ret Try.prog 146 [.slice A1 n2 c3, .slice A6 n7 c8] w0 (fun v w' => ∃ (r0 : Int), v = vi r0 ∧ Q r0 ∧ Gr w0 w' none) := by
 unfold spec_l5Long.E at h
 have H := h
 clear h
 have hc0 := Ct.init hO
 refine Ret_enter Try.func146 rfl 66 rfl [.tmp 4] rfl rfl ?_
 refine W_seq ?_
 refine W_reg ?_
 refine L_pu (P_assign (vi 0) rfl) ?_
 refine L_nil ?_
 refine W_seq ?_
 refine W_reg ?_
 refine L_pu (P_move (.slice A6 n7 c8) rfl) ?_
 have ba := hp9.le
 refine L_pu (P_len Try.underlying23 A6 n7 c8 hp9.len rfl) ?_
 obtain ⟨b5, H⟩ := H
 have b6 := b5 (len_le ba)
 refine L_pu (P_add (b.length : Int) 1 rfl rfl b6) ?_
 obtain ⟨b7, H⟩ := H
 refine L_make (kd := (Kd.int .i64)) ei89 hc0 (0 : Int) (rfl) ((b.length : Int) + 1) rfl rfl b7 fun d6 bb bc bd d7 hr20 aj b8 => ?_
 refine L_pu (P_assign (.slice bb bc bd) rfl) ?_
 refine L_nil ?_
 refine W_seq ?_
 refine W_seq ?_
 refine W_reg ?_
 refine L_pu (P_move (.slice A1 n2 c3) rfl) ?_
 have b9 := (hp4.st aj.st).le
 refine L_pu (P_len Try.underlying23 A1 n2 c3 (hp4.st aj.st).len rfl) ?_
 obtain ⟨ca, H⟩ := H
 have cb := ca (len_le ba) (len_le b9)
 refine L_pu (P_sub (a.length : Int) 1 rfl rfl cb) ?_
 refine L_pu (P_assign (vi ((a.length : Int) - 1)) rfl) ?_
 refine L_nil ?_
 refine W_block ?_
 obtain ⟨cc, cd, au, H⟩ := H
 refine W_loop (α := (List Int) × (Option Addr) × Nat × Nat × Int) (fun (sv__ : (List Int) × (Option Addr) × Nat × Nat × Int) t ak => match sv__ with | (xs2, aa, ae, af, i2) => cc xs2 i2 ∧ Has t [(0, .slice A1 n2 c3), (1, .slice A6 n7 c8), (5, .slice aa ae af), (6, vi i2)] ∧ Ct [] w0 ak [bk aa] O ∧ Sl kPt ak (Fr ([bk aa] ++ O)) (.slice A1 n2 c3) a ∧ Sl kPt ak (Fr ([bk aa] ++ O)) (.slice A6 n7 c8) b ∧ Ow (Kd.int .i64) 3 ak ([bk aa] ++ O) (.slice aa ae af) xs2) (fun (sv__ : (List Int) × (Option Addr) × Nat × Nat × Int) => match sv__ with | (xs2, _, _, _, i2) => cd xs2 i2) ((List.replicate ((b.length : Int) + 1).toNat (0 : Int)), bb, bc, bd, (a.length : Int) - 1) ⟨au, ⟨rfl, rfl, rfl, rfl, trivial⟩, aj, (hp4.st aj.st), (hp9.st aj.st), b8⟩ ?_
 rintro ⟨xs2, aa, ae, af, i2⟩ _ ak ⟨au, ce, av, cf, ap, aw⟩
 obtain ⟨d8, rfl⟩ := Has.ins ce
 have H := H xs2 i2 au
 refine W_seq ?_
 refine W_seq ?_
 refine W_reg ?_
 refine L_pu (P_move (vi i2) rfl) ?_
 refine L_pu (P_cmp i2 0 (decide (i2 ≥ 0)) rfl rfl rfl) ?_
 refine L_nil ?_
 refine W_cond (decide (i2 ≥ 0)) rfl (fun ax => ?_) (fun ax => ?_)
 ·have H := ite_t H ax
  refine W_skip ?_
  refine W_seq ?_
  refine W_block ?_
  refine W_seq ?_
  refine W_reg ?_
  refine L_pu (P_move (.slice A6 n7 c8) rfl) ?_
  have be := ap.le
  refine L_pu (P_len Try.underlying23 A6 n7 c8 ap.len rfl) ?_
  obtain ⟨cg, H⟩ := H
  have ch := cg (len_le be)
  refine L_pu (P_add (b.length : Int) 1 rfl rfl ch) ?_
  obtain ⟨ci, H⟩ := H
  refine L_make (kd := (Kd.int .i64)) ei89 av (0 : Int) (rfl) ((b.length : Int) + 1) rfl rfl ci fun d9 ab ac ad bf hr73 cj ck => ?_
  refine L_pu (P_assign (.slice ab ac ad) rfl) ?_
  refine L_nil ?_
  refine W_seq ?_
  refine W_seq ?_
  refine W_reg ?_
  refine L_pu (P_move (.slice A6 n7 c8) rfl) ?_
  have ay := av.stown _ bf hr73
  refine L_pu (P_len Try.underlying23 A6 n7 c8 (ap.st ay).len rfl) ?_
  obtain ⟨cl, H⟩ := H
  have cm := cl (len_le be)
  refine L_pu (P_sub (b.length : Int) 1 rfl rfl cm) ?_
  refine L_pu (P_assign (vi ((b.length : Int) - 1)) rfl) ?_
  refine L_nil ?_
  refine W_block ?_
  obtain ⟨cn, co, az, H⟩ := H
  have cp := (aw.so _ bf hr73)
  refine W_loop (α := (List Int) × Int) (fun (sv__ : (List Int) × Int) t ag => match sv__ with | (xs4, k2) => cn xs4 k2 ∧ Has t [(0, .slice A1 n2 c3), (1, .slice A6 n7 c8), (5, .slice aa ae af), (6, vi i2), (7, .slice ab ac ad), (8, vi k2)] ∧ Ct [] w0 ag [bk ab, bk aa] O ∧ Sl kPt ag (Fr ([bk ab, bk aa] ++ O)) (.slice A1 n2 c3) a ∧ Sl kPt ag (Fr ([bk ab, bk aa] ++ O)) (.slice A6 n7 c8) b ∧ Ow (Kd.int .i64) 3 ag ([bk ab, bk aa] ++ O) (.slice aa ae af) xs2 ∧ Ow (Kd.int .i64) 3 ag ([bk ab, bk aa] ++ O) (.slice ab ac ad) xs4) (fun (sv__ : (List Int) × Int) => match sv__ with | (xs4, k2) => co xs4 k2) ((List.replicate ((b.length : Int) + 1).toNat (0 : Int)), (b.length : Int) - 1) ⟨az, ⟨rfl, rfl, rfl, rfl, rfl, rfl, trivial⟩, cj, (cf.st ay), (ap.st ay), cp, ck⟩ ?_
  rintro ⟨xs4, k2⟩ _ ag ⟨az, cq, ai, al, am, bg, a0⟩
  obtain ⟨ea, rfl⟩ := Has.ins cq
  have H := H xs4 k2 az
  refine W_seq ?_
  refine W_seq ?_
  refine W_reg ?_
  refine L_pu (P_move (vi k2) rfl) ?_
  refine L_pu (P_cmp k2 0 (decide (k2 ≥ 0)) rfl rfl rfl) ?_
  refine L_nil ?_
  refine W_cond (decide (k2 ≥ 0)) rfl (fun a1 => ?_) (fun a1 => ?_)
  ·have H := ite_t H a1
   refine W_skip ?_
   refine W_seq ?_
   refine W_block ?_
   refine W_seq ?_
   refine W_draw (fun x => Gr ag x none) (by kernel_rfl) (by kernel_rfl) (Gr.drew _) ?_
   refine Q_pu (P_move (.slice A1 n2 c3) rfl) ?_
   refine Q_pu (P_move (vi i2) rfl) ?_
   obtain ⟨bh, H⟩ := H
   obtain ⟨bi, eb, cr, ec, cs, ct⟩ := al.get default (by decide) i2 bh
   obtain rfl := kPt.op cs
   refine Q_pu (P_ia Try.underlying23 se23 A1 bi n2 c3 al.len i2 rfl cr rfl bh) ?_
   refine Q_pu (P_lda ag29 sz29 cQ (bi.add (i2.toNat * 2)) [vi ((nth a i2).X), vi ((nth a i2).Y)] rfl rfl ct) ?_
   refine Q_pu (P_move (.slice A6 n7 c8) rfl) ?_
   refine Q_pu (P_move (vi k2) rfl) ?_
   obtain ⟨bj, H⟩ := H
   obtain ⟨bl, ed, cu, ee, cv, cw⟩ := am.get default (by decide) k2 bj
   obtain rfl := kPt.op cv
   refine Q_pu (P_ia Try.underlying23 se23 A6 bl n7 c8 am.len k2 rfl cu rfl bj) ?_
   refine Q_pu (P_lda ag29 sz29 cQ (bl.add (k2.toNat * 2)) [vi ((nth b k2).X), vi ((nth b k2).Y)] rfl rfl cw) ?_
   refine Q_pu (P_eq _ _ (eqPt (nth a i2) (nth b k2)) (qt29 (nth a i2) (nth b k2)) rfl rfl) ?_
   refine Q_nil fun ef ah => ?_
   have an := ai.k0 ah
   refine W_cond (eqPt (nth a i2) (nth b k2)) rfl (fun a2 => ?_) (fun a2 => ?_)
   ·have H := ite_t H a2
    refine W_reg ?_
    refine L_pu (P_move (.slice ab ac ad) rfl) ?_
    refine L_pu (P_move (vi k2) rfl) ?_
    refine L_pu (P_move (.slice aa ae af) rfl) ?_
    refine L_pu (P_move (vi k2) rfl) ?_
    obtain ⟨cx, H⟩ := H
    refine L_pu (P_add k2 1 rfl rfl cx) ?_
    obtain ⟨bm, H⟩ := H
    have a3 := (bg.sn ah)
    obtain ⟨bn, eg, cy, cz, c0⟩ := a3.get default (by decide) (k2 + 1) bm
    obtain rfl := Kd.int.op cz
    refine L_pu (P_ia Try.underlying89 se89 aa bn ae af a3.len (k2 + 1) rfl cy rfl bm) ?_
    refine L_pu (P_ld ag3 cL (bn.add ((k2 + 1).toNat * 1)) (vi (nth xs2 (k2 + 1))) rfl (c0 0 _ rfl)) ?_
    obtain ⟨c1, H⟩ := H
    refine L_pu (P_add (nth xs2 (k2 + 1)) 1 rfl rfl c1) ?_
    obtain ⟨a4, H⟩ := H
    have a5 := (a0.sn ah)
    obtain ⟨bo, eh, bp, c2, c4⟩ := a5.get default (by decide) k2 a4
    obtain rfl := Kd.int.op c2
    refine L_pu (P_ia Try.underlying89 se89 ab bo ac ad a5.len k2 rfl bp rfl a4) ?_
    refine L_ste0 ab ac ad xs4 a5 k2 a4 bo bp 0 rfl [vi ((nth xs2 (k2 + 1)) + 1)] rfl sz3 rfl ((nth xs2 (k2 + 1)) + 1) [vi (nth xs4 k2)] [vi ((nth xs2 (k2 + 1)) + 1)] c4 rfl rfl rfl fun ei a6 c5 => ?_
    have c6 := an.wr 0 rfl a6
    refine L_nil ?_
    refine W_reg ?_
    refine L_pu (P_move (vi k2) rfl) ?_
    obtain ⟨c7, H⟩ := H
    refine L_pu (P_sub k2 1 rfl rfl c7) ?_
    refine L_pu (P_assign (vi (k2 - 1)) rfl) ?_
    refine L_nil ?_
    obtain ⟨c9, da⟩ := H
    have bq := ai.stn ah
    have br := an.stw 0 rfl a6
    have db := ((al.st bq).st br)
    have dc := ((am.st bq).st br)
    have dd := (an.sw a3 1 0 rfl rfl rfl a6)
    exact ⟨((xs4.set k2.toNat ((nth xs2 (k2 + 1)) + 1)), k2 - 1), da, c9, ⟨rfl, rfl, rfl, rfl, rfl, rfl, trivial⟩, c6, db, dc, dd, c5⟩
   ·have H := ite_f H a2
    refine W_tail 13 (by kernel_rfl) (by kernel_rfl) fun de aq => ?_
    have ar := an.k0 aq
    refine S_pu (P_move (.slice ab ac ad) rfl) ?_
    refine S_pu (P_move (vi k2) rfl) ?_
    refine S_pu (P_move (.slice aa ae af) rfl) ?_
    refine S_pu (P_move (vi k2) rfl) ?_
    obtain ⟨bs, H⟩ := H
    have a7 := ((bg.sn ah).sn aq)
    obtain ⟨bt, ej, df, dg, dh⟩ := a7.get default (by decide) k2 bs
    obtain rfl := Kd.int.op dg
    refine S_pu (P_ia Try.underlying89 se89 aa bt ae af a7.len k2 rfl df rfl bs) ?_
    refine S_pu (P_ld ag3 cL (bt.add (k2.toNat * 1)) (vi (nth xs2 k2)) rfl (dh 0 _ rfl)) ?_
    refine S_pu (P_move (.slice ab ac ad) rfl) ?_
    refine S_pu (P_move (vi k2) rfl) ?_
    obtain ⟨di, H⟩ := H
    refine S_pu (P_add k2 1 rfl rfl di) ?_
    obtain ⟨bu, H⟩ := H
    have ao := ((a0.sn ah).sn aq)
    obtain ⟨bv, ek, dj, dk, dl⟩ := ao.get default (by decide) (k2 + 1) bu
    obtain rfl := Kd.int.op dk
    refine S_pu (P_ia Try.underlying89 se89 ab bv ac ad ao.len (k2 + 1) rfl dj rfl bu) ?_
    refine S_pu (P_ld ag3 cL (bv.add ((k2 + 1).toNat * 1)) (vi (nth xs4 (k2 + 1))) rfl (dl 0 _ rfl)) ?_
    refine S_call go172 [vi (nth xs2 k2), vi (nth xs4 (k2 + 1))] rfl (vi (spec_l1Max.m (nth xs2 k2) (nth xs4 (k2 + 1)))) ((spec_l1Max.calls de ar.ok (nth xs2 k2) (nth xs4 (k2 + 1)) _ (spec_l1Max.fn (nth xs2 k2) (nth xs4 (k2 + 1)))).mono ?_) ?_
    ·rintro _ w ⟨r, rfl, rfl, _, rfl⟩
     exact ⟨rfl, rfl⟩
    obtain ⟨a8, H⟩ := H
    obtain ⟨bw, el, bx, dm, dn⟩ := ao.get default (by decide) k2 a8
    obtain rfl := Kd.int.op dm
    refine S_pu (P_ia Try.underlying89 se89 ab bw ac ad ao.len k2 rfl bx rfl a8) ?_
    refine S_nil ?_
    refine L_ste0 ab ac ad xs4 ao k2 a8 bw bx 0 rfl [vi (spec_l1Max.m (nth xs2 k2) (nth xs4 (k2 + 1)))] rfl sz3 rfl (spec_l1Max.m (nth xs2 k2) (nth xs4 (k2 + 1))) [vi (nth xs4 k2)] [vi (spec_l1Max.m (nth xs2 k2) (nth xs4 (k2 + 1)))] dn rfl rfl rfl fun em a9 dp => ?_
    have dq := ar.wr 0 rfl a9
    refine L_nil ?_
    refine W_reg ?_
    refine L_pu (P_move (vi k2) rfl) ?_
    obtain ⟨dr, H⟩ := H
    refine L_pu (P_sub k2 1 rfl rfl dr) ?_
    refine L_pu (P_assign (vi (k2 - 1)) rfl) ?_
    refine L_nil ?_
    obtain ⟨ds, dt⟩ := H
    have bz := ai.stn ah
    have b0 := an.stn aq
    have b1 := ar.stw 0 rfl a9
    have du := (((al.st bz).st b0).st b1)
    have dv := (((am.st bz).st b0).st b1)
    have dw := (ar.sw a7 1 0 rfl rfl rfl a9)
    exact ⟨((xs4.set k2.toNat (spec_l1Max.m (nth xs2 k2) (nth xs4 (k2 + 1)))), k2 - 1), dt, ds, ⟨rfl, rfl, rfl, rfl, rfl, rfl, trivial⟩, dq, du, dv, dw, dp⟩
  ·have H := ite_f H a1
   refine W_exit (xin_hit ?_)
   refine W_reg ?_
   refine L_pu (P_move (.slice ab ac ad) rfl) ?_
   refine L_pu (P_assign (.slice ab ac ad) rfl) ?_
   refine L_nil ?_
   refine W_reg ?_
   refine L_pu (P_move (vi i2) rfl) ?_
   obtain ⟨dx, H⟩ := H
   refine L_pu (P_sub i2 1 rfl rfl dx) ?_
   refine L_pu (P_assign (vi (i2 - 1)) rfl) ?_
   refine L_nil ?_
   have dy := ai.drop 1 rfl
   obtain ⟨dz, d0⟩ := H
   have b2 := ai.std 1 rfl
   have d1 := (ai.sd a0 0 1 rfl rfl rfl)
   exact ⟨(xs4, ab, ac, ad, i2 - 1), d0, dz, ⟨rfl, rfl, rfl, rfl, trivial⟩, dy, (al.st b2), (am.st b2), d1⟩
 ·have H := ite_f H ax
  refine W_exit (xin_hit ?_)
  refine W_seq ?_
  refine W_reg ?_
  refine L_pu (P_move (.slice aa ae af) rfl) ?_
  obtain ⟨b3, H⟩ := H
  obtain ⟨b4, en, d2, d3, d4⟩ := aw.get default (by decide) 0 b3
  obtain rfl := Kd.int.op d3
  refine L_pu (P_ia Try.underlying89 se89 aa b4 ae af aw.len 0 rfl d2 rfl b3) ?_
  refine L_pu (P_ld ag3 cL (b4.add ((0 : Int).toNat * 1)) (vi (nth xs2 0)) rfl (d4 0 _ rfl)) ?_
  refine L_pu (P_assign (vi (nth xs2 0)) rfl) ?_
  refine L_nil ?_
  refine W_ret ?_
  have d5 := av.drop 0 rfl
  exact ⟨[vi (nth xs2 0)], ⟨_, rfl, rfl⟩, (nth xs2 0), rfl, H, d5.gr.g0⟩
end Go.Proofs.Ytndjggncgpjolaa

namespace Go.Proofs.Ytndjggncgpjolaa
open Go.RowKit
set_option linter.unusedVariables false
set_option linter.unusedSimpArgs false
def spec_SeqPairs.E (a : List Pt) (b : List Pt) (Q : List Pair → Prop) : Prop :=
 (∃ (I50 : (List Pair) → Int → Int → Prop) (mu51 : (List Pair) → Int → Int → Nat), I50 ([] : List Pair) 0 0 ∧ ∀ (xs2 : List Pair) (i2 : Int) (k2 : Int), I50 xs2 i2 k2 → (if decide (i2 < (a.length : Int)) then (if decide (k2 < (b.length : Int)) then spec_l5Few.E a b (fun r => (if r then ((0 : Int) ≤ i2 ∧ i2 < (a.length : Int)) ∧ ((0 : Int) ≤ k2 ∧ k2 < (b.length : Int)) ∧ (if eqPt (nth a i2) (nth b k2) then (xs2.length + ([(⟨i2, k2⟩ : Pair)] : List Pair).length ≤ 268435456) ∧ (-9223372036854775808 ≤ i2) ∧ (-9223372036854775808 ≤ k2) ∧ I50 (xs2 ++ ([(⟨i2, k2⟩ : Pair)] : List Pair)) (i2 + 1) (k2 + 1) ∧ mu51 (xs2 ++ ([(⟨i2, k2⟩ : Pair)] : List Pair)) (i2 + 1) (k2 + 1) < mu51 xs2 i2 k2 else (-9223372036854775808 ≤ i2) ∧ ((0 : Int) ≤ i2 + 1 ∧ (i2 + 1 : Int) ≤ (a.length : Int) ∧ (a.length : Int) ≤ (a.length : Int)) ∧ ((0 : Int) ≤ k2 ∧ (k2 : Int) ≤ (b.length : Int) ∧ (b.length : Int) ≤ (b.length : Int)) ∧ (∃ q : Int, spec_l5Long.E ((a.drop (i2 + 1).toNat).take ((a.length : Int).toNat - (i2 + 1).toNat)) ((b.drop k2.toNat).take ((b.length : Int).toNat - k2.toNat)) (fun x => x = q) ∧ ((0 : Int) ≤ i2 ∧ (i2 : Int) ≤ (a.length : Int) ∧ (a.length : Int) ≤ (a.length : Int)) ∧ (-9223372036854775808 ≤ k2) ∧ ((0 : Int) ≤ k2 + 1 ∧ (k2 + 1 : Int) ≤ (b.length : Int) ∧ (b.length : Int) ≤ (b.length : Int)) ∧ (∃ q2 : Int, spec_l5Long.E ((a.drop i2.toNat).take ((a.length : Int).toNat - i2.toNat)) ((b.drop (k2 + 1).toNat).take ((b.length : Int).toNat - (k2 + 1).toNat)) (fun x => x = q2) ∧ (if decide (q ≥ q2) then (-9223372036854775808 ≤ i2) ∧ I50 xs2 (i2 + 1) k2 ∧ mu51 xs2 (i2 + 1) k2 < mu51 xs2 i2 k2 else (-9223372036854775808 ≤ k2) ∧ I50 xs2 i2 (k2 + 1) ∧ mu51 xs2 i2 (k2 + 1) < mu51 xs2 i2 k2)))) else Q xs2)) else Q xs2) else Q xs2))
set_option maxHeartbeats 8000000 in
set_option maxRecDepth 100000 in
theorem spec_SeqPairs.calls {O : Ob} (w0 : World) (hO : Ok w0 O) (a : List Pt) (A1 : Option Addr) (n2 c3 : Nat) (hp4 : Sl kPt w0 (Fr O) (.slice A1 n2 c3) a) (b : List Pt) (A6 : Option Addr) (n7 c8 : Nat) (hp9 : Sl kPt w0 (Fr O) (.slice A6 n7 c8) b) (Q : List Pair → Prop) (h : spec_SeqPairs.E a b Q) :
  Ret Try.prog 109 [.slice A1 n2 c3, .slice A6 n7 c8] w0 (fun v w' => ∃ (r0 : List Pair) (A0 : Option Addr) (n0 c0 : Nat), v = .slice A0 n0 c0 ∧ Q r0 ∧ Gr w0 w' none ∧ Ok w' ([bk A0] ++ O) ∧ (∀ b, some b ∈ [bk A0] → w0.heap.size ≤ b) ∧ Ow kPair 148 w' ([bk A0] ++ O) (.slice A0 n0 c0) r0) := by
 unfold spec_SeqPairs.E at h
 have H := h
 clear h
 have hc0 := Ct.init hO
 refine Ret_enter Try.func109 rfl 67 rfl [.tmp 4] rfl rfl ?_
 refine W_seq ?_
 refine W_reg ?_
 refine L_pu (P_assign (.slice none 0 0) rfl) ?_
 refine L_nil ?_
 refine W_seq ?_
 refine W_reg ?_
 refine L_lit (kd := kPair) ei86 hc0 ([] : List Pair) (cells := []) rfl (fun _ => by kernel_rfl) fun dm a2 a3 a4 dn hr16 au bz => ?_
 refine L_pu (P_assign (.slice a2 a3 a4) rfl) ?_
 refine L_nil ?_
 refine W_seq ?_
 refine W_reg ?_
 refine L_pu (P_assign (vi 0) rfl) ?_
 refine L_nil ?_
 refine W_seq ?_
 refine W_reg ?_
 refine L_pu (P_assign (vi 0) rfl) ?_
 refine L_nil ?_
 refine W_seq ?_
 refine W_block ?_
 obtain ⟨b0, b1, av, H⟩ := H
 refine W_loop (α := (List Pair) × (Option Addr) × Nat × Nat × Int × Int) (fun (sv__ : (List Pair) × (Option Addr) × Nat × Nat × Int × Int) t ak => match sv__ with | (xs2, aa, ab, ac, i2, k2) => b0 xs2 i2 k2 ∧ Has t [(0, .slice A1 n2 c3), (1, .slice A6 n7 c8), (5, .slice aa ab ac), (6, vi i2), (7, vi k2)] ∧ Ct [] w0 ak [bk aa] O ∧ Sl kPt ak (Fr ([bk aa] ++ O)) (.slice A1 n2 c3) a ∧ Sl kPt ak (Fr ([bk aa] ++ O)) (.slice A6 n7 c8) b ∧ Ow kPair 148 ak ([bk aa] ++ O) (.slice aa ab ac) xs2) (fun (sv__ : (List Pair) × (Option Addr) × Nat × Nat × Int × Int) => match sv__ with | (xs2, _, _, _, i2, k2) => b1 xs2 i2 k2) (([] : List Pair), a2, a3, a4, 0, 0) ⟨av, ⟨rfl, rfl, rfl, rfl, rfl, trivial⟩, au, (hp4.st au.st), (hp9.st au.st), bz⟩ ?_
 rintro ⟨xs2, aa, ab, ac, i2, k2⟩ _ ak ⟨av, b2, af, ah, ai, al⟩
 obtain ⟨dp, rfl⟩ := Has.ins b2
 have H := H xs2 i2 k2 av
 refine W_seq ?_
 refine W_seq ?_
 refine W_reg ?_
 refine L_pu (P_move (vi i2) rfl) ?_
 refine L_pu (P_move (.slice A1 n2 c3) rfl) ?_
 have aw := ah.le
 refine L_pu (P_len Try.underlying23 A1 n2 c3 ah.len rfl) ?_
 refine L_pu (P_cmp i2 (a.length : Int) (decide (i2 < (a.length : Int))) rfl rfl rfl) ?_
 refine L_pu (P_move (vb (decide (i2 < (a.length : Int)))) rfl) ?_
 rcases bool_or (decide (i2 < (a.length : Int))) with ad | ad
 ·have H := ite_t H ad
  refine L_run (dj := 13) rfl rfl (by exact congrArg Value.bool ad) ?_
  refine L_pu (P_move (vi k2) rfl) ?_
  refine L_run (dj := 13) rfl rfl (by exact congrArg Value.bool ad) ?_
  refine L_pu (P_move (.slice A6 n7 c8) rfl) ?_
  refine L_run (dj := 13) rfl rfl (by exact congrArg Value.bool ad) ?_
  have ax := ai.le
  refine L_pu (P_len Try.underlying23 A6 n7 c8 ai.len rfl) ?_
  refine L_run (dj := 13) rfl rfl (by exact congrArg Value.bool ad) ?_
  refine L_pu (P_cmp k2 (b.length : Int) (decide (k2 < (b.length : Int))) rfl rfl rfl) ?_
  refine L_pu (P_pick true (vb (decide (k2 < (b.length : Int)))) (by exact congrArg Value.bool ad) rfl) ?_
  refine L_pu (P_move (vb (decide (k2 < (b.length : Int)))) rfl) ?_
  rcases bool_or (decide (k2 < (b.length : Int))) with ae | ae
  ·have H := ite_t H ae
   refine L_run (dj := 19) rfl rfl (by exact congrArg Value.bool ae) ?_
   refine L_pu (P_move (.slice A1 n2 c3) rfl) ?_
   refine L_run (dj := 19) rfl rfl (by exact congrArg Value.bool ae) ?_
   refine L_pu (P_move (.slice A6 n7 c8) rfl) ?_
   refine L_run (dj := 19) rfl rfl (by exact congrArg Value.bool ae) ?_
   refine L_call go50 [.slice A1 n2 c3, .slice A6 n7 c8] rfl ((spec_l5Few.calls ak af.ok a A1 n2 c3 ah b A6 n7 c8 ai _ H).mono ?_)
   rintro _ b3 ⟨r, rfl, H, am, _⟩
   have an := af.k0 am
   refine L_pu (P_pick true (vb r) (by exact congrArg Value.bool ae) rfl) ?_
   refine L_nil ?_
   refine W_cond r rfl (fun ay => ?_) (fun ay => ?_)
   ·have H := ite_t H ay
    refine W_skip ?_
    refine W_block ?_
    refine W_block ?_
    refine W_seq ?_
    refine W_draw (fun x => Gr b3 x none) (by kernel_rfl) (by kernel_rfl) (Gr.drew _) ?_
    refine Q_pu (P_move (.slice A1 n2 c3) rfl) ?_
    refine Q_pu (P_move (vi i2) rfl) ?_
    obtain ⟨a5, H⟩ := H
    have ag := af.stn am
    obtain ⟨a6, dq, b4, dr, b5, b6⟩ := (ah.st ag).get default (by decide) i2 a5
    obtain rfl := kPt.op b5
    refine Q_pu (P_ia Try.underlying23 se23 A1 a6 n2 c3 (ah.st ag).len i2 rfl b4 rfl a5) ?_
    refine Q_pu (P_lda ag29 sz29 cQ (a6.add (i2.toNat * 2)) [vi ((nth a i2).X), vi ((nth a i2).Y)] rfl rfl b6) ?_
    refine Q_pu (P_move (.slice A6 n7 c8) rfl) ?_
    refine Q_pu (P_move (vi k2) rfl) ?_
    obtain ⟨a7, H⟩ := H
    obtain ⟨a8, ds, b7, dt, b8, b9⟩ := (ai.st ag).get default (by decide) k2 a7
    obtain rfl := kPt.op b8
    refine Q_pu (P_ia Try.underlying23 se23 A6 a8 n7 c8 (ai.st ag).len k2 rfl b7 rfl a7) ?_
    refine Q_pu (P_lda ag29 sz29 cQ (a8.add (k2.toNat * 2)) [vi ((nth b k2).X), vi ((nth b k2).Y)] rfl rfl b9) ?_
    refine Q_pu (P_eq _ _ (eqPt (nth a i2) (nth b k2)) (qt29 (nth a i2) (nth b k2)) rfl rfl) ?_
    refine Q_pu (P_assign (vb (eqPt (nth a i2) (nth b k2))) rfl) ?_
    refine Q_nil fun ca ao => ?_
    have aj := an.k0 ao
    refine W_cond (eqPt (nth a i2) (nth b k2)) rfl (fun az => ?_) (fun az => ?_)
    ·have H := ite_t H az
     refine W_seq ?_
     refine W_reg ?_
     refine L_pu (P_move (.slice aa ab ac) rfl) ?_
     refine L_pu (P_move (vi i2) rfl) ?_
     refine L_pu (P_move (vi k2) rfl) ?_
     refine L_pu (P_build (.agg #[vi i2, vi k2]) (fun _ => by kernel_rfl)) ?_
     refine L_lit (kd := kPair) ei86 aj ([(⟨i2, k2⟩ : Pair)] : List Pair) (cells := [vi i2, vi k2]) ⟨[vi i2, vi k2], _, rfl, (kPair.mk _ _ (⟨i2, k2⟩ : Pair)), rfl⟩ (fun _ => by kernel_rfl) fun du cb cc cd a9 hr92 ce cf => ?_
     obtain ⟨cg, H⟩ := H
     have ch := (((al.sn am).sn ao).so _ a9 hr92)
     refine L_app ei86 ce (.slice aa ab ac) xs2 ([(⟨i2, k2⟩ : Pair)] : List Pair) rfl ch (.slice cb cc cd) rfl cf.sx 1 rfl cg fun dv ba bb bc dw bd a0 ci => ?_
     refine L_pu (P_assign (.slice ba bb bc) rfl) ?_
     refine L_nil ?_
     refine W_seq ?_
     refine W_reg ?_
     refine L_pu (P_move (vi i2) rfl) ?_
     obtain ⟨cj, H⟩ := H
     have ck : I64 (i2 + 1) := i64_succ (of_decide_eq_true ad) aw cj
     refine L_pu (P_add i2 1 rfl rfl ck) ?_
     refine L_pu (P_assign (vi (i2 + 1)) rfl) ?_
     refine L_nil ?_
     refine W_reg ?_
     refine L_pu (P_move (vi k2) rfl) ?_
     obtain ⟨cl, H⟩ := H
     have cm : I64 (k2 + 1) := i64_succ (of_decide_eq_true ae) ax cl
     refine L_pu (P_add k2 1 rfl rfl cm) ?_
     refine L_pu (P_assign (vi (k2 + 1)) rfl) ?_
     refine L_nil ?_
     have cn := a0.drop 0 rfl
     obtain ⟨co, cp⟩ := H
     have be := an.stn ao
     have bf := aj.stown _ a9 hr92
     have bg := a0.std 0 rfl
     have cq := (((((ah.st ag).st be).st bf).st bd).st bg)
     have cr := (((((ai.st ag).st be).st bf).st bd).st bg)
     have cs := (a0.sd ci 1 0 rfl rfl rfl)
     exact ⟨((xs2 ++ ([(⟨i2, k2⟩ : Pair)] : List Pair)), ba, bb, bc, i2 + 1, k2 + 1), cp, co, ⟨rfl, rfl, rfl, rfl, rfl, trivial⟩, cn, cq, cr, cs⟩
    ·have H := ite_f H az
     refine W_seq ?_
     refine W_draw (fun x => Gr ca x none) (by kernel_rfl) (by kernel_rfl) (Gr.drew _) ?_
     refine Q_pu (P_move (.slice A1 n2 c3) rfl) ?_
     refine Q_pu (P_move (vi i2) rfl) ?_
     obtain ⟨ct, H⟩ := H
     have cu : I64 (i2 + 1) := i64_succ (of_decide_eq_true ad) aw ct
     refine Q_pu (P_add i2 1 rfl rfl cu) ?_
     obtain ⟨cv, H⟩ := H
     have bh := an.stn ao
     have ap := ((ah.st ag).st bh)
     refine Q_cuts Try.underlying23 se23 A1 n2 c3 a rfl ap (i2 + 1) (a.length : Int) rfl (bd_none ap.len) cv fun bi bj bl cw => ?_
     refine Q_pu (P_move (.slice A6 n7 c8) rfl) ?_
     refine Q_pu (P_move (vi k2) rfl) ?_
     obtain ⟨cx, H⟩ := H
     have aq := ((ai.st ag).st bh)
     refine Q_cuts Try.underlying23 se23 A6 n7 c8 b rfl aq k2 (b.length : Int) rfl (bd_none aq.len) cx fun bm bn bo cy => ?_
     obtain ⟨q, cz, H⟩ := H
     refine Q_call go146 [.slice bi bj bl, .slice bm bn bo] rfl (vi q) (fun w g => (spec_l5Long.calls w (aj.k0 g).ok ((a.drop (i2 + 1).toNat).take ((a.length : Int).toNat - (i2 + 1).toNat)) bi bj bl (cw.st (.new _ g)) ((b.drop k2.toNat).take ((b.length : Int).toNat - k2.toNat)) bm bn bo (cy.st (.new _ g)) _ cz).mono ?_) ?_
     ·rintro _ w ⟨r, rfl, rfl, g2⟩
      exact ⟨rfl, Gr.t0 g g2⟩
     refine Q_pu (P_move (.slice A1 n2 c3) rfl) ?_
     refine Q_pu (P_move (vi i2) rfl) ?_
     obtain ⟨c1, H⟩ := H
     refine Q_cuts Try.underlying23 se23 A1 n2 c3 a rfl ap i2 (a.length : Int) rfl (bd_none ap.len) c1 fun bp bq br c2 => ?_
     refine Q_pu (P_move (.slice A6 n7 c8) rfl) ?_
     refine Q_pu (P_move (vi k2) rfl) ?_
     obtain ⟨c4, H⟩ := H
     have c5 : I64 (k2 + 1) := i64_succ (of_decide_eq_true ae) ax c4
     refine Q_pu (P_add k2 1 rfl rfl c5) ?_
     obtain ⟨c6, H⟩ := H
     refine Q_cuts Try.underlying23 se23 A6 n7 c8 b rfl aq (k2 + 1) (b.length : Int) rfl (bd_none aq.len) c6 fun bs bt bu c7 => ?_
     obtain ⟨q2, c9, H⟩ := H
     refine Q_call go146 [.slice bp bq br, .slice bs bt bu] rfl (vi q2) (fun w g => (spec_l5Long.calls w (aj.k0 g).ok ((a.drop i2.toNat).take ((a.length : Int).toNat - i2.toNat)) bp bq br (c2.st (.new _ g)) ((b.drop (k2 + 1).toNat).take ((b.length : Int).toNat - (k2 + 1).toNat)) bs bt bu (c7.st (.new _ g)) _ c9).mono ?_) ?_
     ·rintro _ w ⟨r, rfl, rfl, g2⟩
      exact ⟨rfl, Gr.t0 g g2⟩
     refine Q_pu (P_cmp q q2 (decide (q ≥ q2)) rfl rfl rfl) ?_
     refine Q_pu (P_assign (vb (decide (q ≥ q2))) rfl) ?_
     refine Q_nil fun dx ar => ?_
     have bv := aj.k0 ar
     refine W_cond (decide (q ≥ q2)) rfl (fun a1 => ?_) (fun a1 => ?_)
     ·have H := ite_t H a1
      refine W_reg ?_
      refine L_pu (P_move (vi i2) rfl) ?_
      obtain ⟨da, H⟩ := H
      have db : I64 (i2 + 1) := i64_succ (of_decide_eq_true ad) aw da
      refine L_pu (P_add i2 1 rfl rfl db) ?_
      refine L_pu (P_assign (vi (i2 + 1)) rfl) ?_
      refine L_nil ?_
      obtain ⟨dc, dd⟩ := H
      have bw := aj.stn ar
      have de := (((al.sn am).sn ao).sn ar)
      exact ⟨(xs2, aa, ab, ac, i2 + 1, k2), dd, dc, ⟨rfl, rfl, rfl, rfl, rfl, trivial⟩, bv, (ap.st bw), (aq.st bw), de⟩
     ·have H := ite_f H a1
      refine W_reg ?_
      refine L_pu (P_move (vi k2) rfl) ?_
      obtain ⟨df, H⟩ := H
      have dg : I64 (k2 + 1) := i64_succ (of_decide_eq_true ae) ax df
      refine L_pu (P_add k2 1 rfl rfl dg) ?_
      refine L_pu (P_assign (vi (k2 + 1)) rfl) ?_
      refine L_nil ?_
      obtain ⟨dh, di⟩ := H
      have bx := aj.stn ar
      have dk := (((al.sn am).sn ao).sn ar)
      exact ⟨(xs2, aa, ab, ac, i2, k2 + 1), di, dh, ⟨rfl, rfl, rfl, rfl, rfl, trivial⟩, bv, (ap.st bx), (aq.st bx), dk⟩
   ·have H := ite_f H ay
    refine W_exit (xin_hit ?_)
    refine W_seq ?_
    refine W_reg ?_
    refine L_pu (P_move (.slice aa ab ac) rfl) ?_
    refine L_pu (P_assign (.slice aa ab ac) rfl) ?_
    refine L_nil ?_
    refine W_ret ?_
    have dl := (al.sn am)
    exact ⟨[.slice aa ab ac], ⟨_, rfl, rfl⟩, xs2, aa, ab, ac, rfl, H, an.gr.g0, an.ok, an.ge, dl⟩
  ·have H := ite_f H ae
   refine L_pass (dj := 19) rfl rfl (.inl (by exact congrArg Value.bool ae)) ?_
   refine L_pass (dj := 19) rfl rfl (.inl (by exact congrArg Value.bool ae)) ?_
   refine L_pass (dj := 19) rfl rfl (.inl (by exact congrArg Value.bool ae)) ?_
   refine L_pu (P_pick false (vb false) (by exact congrArg Value.bool ae) rfl) ?_
   refine L_nil ?_
   refine W_cf (b := false) rfl rfl ?_
   refine W_exit (xin_hit ?_)
   refine W_seq ?_
   refine W_reg ?_
   refine L_pu (P_move (.slice aa ab ac) rfl) ?_
   refine L_pu (P_assign (.slice aa ab ac) rfl) ?_
   refine L_nil ?_
   refine W_ret ?_
   exact ⟨[.slice aa ab ac], ⟨_, rfl, rfl⟩, xs2, aa, ab, ac, rfl, H, af.gr.g0, af.ok, af.ge, al⟩
 ·have H := ite_f H ad
  refine L_pass (dj := 13) rfl rfl (.inl (by exact congrArg Value.bool ad)) ?_
  refine L_pass (dj := 13) rfl rfl (.inl (by exact congrArg Value.bool ad)) ?_
  refine L_pass (dj := 13) rfl rfl (.inl (by exact congrArg Value.bool ad)) ?_
  refine L_pass (dj := 13) rfl rfl (.inl (by exact congrArg Value.bool ad)) ?_
  refine L_pu (P_pick false (vb false) (by exact congrArg Value.bool ad) rfl) ?_
  refine L_pu (P_move (vb false) rfl) ?_
  refine L_pass (dj := 19) rfl rfl (.inl rfl) ?_
  refine L_pass (dj := 19) rfl rfl (.inl rfl) ?_
  refine L_pass (dj := 19) rfl rfl (.inl rfl) ?_
  refine L_pu (P_pick false (vb false) (by exact congrArg Value.bool rfl) rfl) ?_
  refine L_nil ?_
  refine W_cf (b := false) rfl rfl ?_
  refine W_exit (xin_hit ?_)
  refine W_seq ?_
  refine W_reg ?_
  refine L_pu (P_move (.slice aa ab ac) rfl) ?_
  refine L_pu (P_assign (.slice aa ab ac) rfl) ?_
  refine L_nil ?_
  refine W_ret ?_
  exact ⟨[.slice aa ab ac], ⟨_, rfl, rfl⟩, xs2, aa, ab, ac, rfl, H, af.gr.g0, af.ok, af.ge, al⟩
end Go.Proofs.Ytndjggncgpjolaa

namespace Go.Proofs.Ytndjggncgpjolaa
open Go.RowKit
set_option linter.unusedVariables false
set_option linter.unusedSimpArgs false
def spec_l5At.E (p : List Pair) (a : Int) (Q : Int → Prop) : Prop :=
 (∃ (I18 : Int → Prop) (mu19 : Int → Nat), I18 0 ∧ ∀ (i2 : Int), I18 i2 → (if decide (i2 < (p.length : Int)) then ((0 : Int) ≤ i2 ∧ i2 < (p.length : Int)) ∧ (if ((nth p i2).A) == a then ((0 : Int) ≤ i2 ∧ i2 < (p.length : Int)) ∧ Q ((nth p i2).B) else (-9223372036854775808 ≤ i2) ∧ I18 (i2 + 1) ∧ mu19 (i2 + 1) < mu19 i2) else Q (-1)))
set_option maxHeartbeats 8000000 in
set_option maxRecDepth 100000 in
theorem spec_l5At.calls {O : Ob} (w0 : World) (hO : Ok w0 O) (p : List Pair) (A1 : Option Addr) (n2 c3 : Nat) (hp4 : Sl kPair w0 (Fr O) (.slice A1 n2 c3) p) (a : Int) (Q : Int → Prop) (h : spec_l5At.E p a Q) :
  Ret Try.prog 110 [.slice A1 n2 c3, vi a] w0 (fun v w' => ∃ (r0 : Int), v = vi r0 ∧ Q r0 ∧ Gr w0 w' none) := by
 unfold spec_l5At.E at h
 have H := h
 clear h
 have hc0 := Ct.init hO
 refine Ret_enter Try.func110 rfl 24 rfl [.tmp 4] rfl rfl ?_
 refine W_seq ?_
 refine W_reg ?_
 refine L_pu (P_assign (vi 0) rfl) ?_
 refine L_nil ?_
 refine W_seq ?_
 refine W_seq ?_
 refine W_reg ?_
 refine L_pu (P_assign (vi 0) rfl) ?_
 refine L_nil ?_
 refine W_block ?_
 obtain ⟨ak, al, ae, H⟩ := H
 refine W_loop (α := Int) (fun (sv__ : Int) t af => match sv__ with | i2 => ak i2 ∧ Has t [(0, .slice A1 n2 c3), (1, vi a), (5, vi i2)] ∧ Ct [] w0 af [] O ∧ Sl kPair af (Fr ([] ++ O)) (.slice A1 n2 c3) p) (fun (sv__ : Int) => match sv__ with | i2 => al i2) 0 ⟨ae, ⟨rfl, rfl, rfl, trivial⟩, hc0, hp4⟩ ?_
 rintro i2 _ af ⟨ae, am, ag, aa⟩
 obtain ⟨a0, rfl⟩ := Has.ins am
 have H := H i2 ae
 refine W_seq ?_
 refine W_seq ?_
 refine W_reg ?_
 refine L_pu (P_move (vi i2) rfl) ?_
 refine L_pu (P_move (.slice A1 n2 c3) rfl) ?_
 have an := aa.le
 refine L_pu (P_len Try.underlying86 A1 n2 c3 aa.len rfl) ?_
 refine L_pu (P_cmp i2 (p.length : Int) (decide (i2 < (p.length : Int))) rfl rfl rfl) ?_
 refine L_nil ?_
 refine W_cond (decide (i2 < (p.length : Int))) rfl (fun ab => ?_) (fun ab => ?_)
 ·have H := ite_t H ab
  refine W_skip ?_
  refine W_seq ?_
  refine W_block ?_
  refine W_seq ?_
  refine W_reg ?_
  refine L_pu (P_move (.slice A1 n2 c3) rfl) ?_
  refine L_pu (P_move (vi i2) rfl) ?_
  obtain ⟨ai, H⟩ := H
  obtain ⟨ac, a1, ao, a2, ap, aq⟩ := aa.get default (by decide) i2 ai
  obtain rfl := kPair.op ap
  refine L_pu (P_ia Try.underlying86 se86 A1 ac n2 c3 aa.len i2 rfl ao rfl ai) ?_
  refine L_pu (P_fa fa148_0 (ac.add (i2.toNat * 2)) ((ac.add (i2.toNat * 2)).add 0) rfl rfl) ?_
  refine L_pu (P_ld ag3 cL ((ac.add (i2.toNat * 2)).add 0) (vi ((nth p i2).A)) rfl (aq 0 _ rfl)) ?_
  refine L_pu (P_move (vi a) rfl) ?_
  refine L_pu (P_cmp ((nth p i2).A) a (((nth p i2).A) == a) rfl rfl rfl) ?_
  refine L_nil ?_
  refine W_cond (((nth p i2).A) == a) rfl (fun ah => ?_) (fun ah => ?_)
  ·have H := ite_t H ah
   refine W_seq ?_
   refine W_reg ?_
   refine L_pu (P_move (.slice A1 n2 c3) rfl) ?_
   refine L_pu (P_move (vi i2) rfl) ?_
   obtain ⟨aj, H⟩ := H
   obtain ⟨ad, a3, ar, a4, au, av⟩ := aa.get default (by decide) i2 aj
   obtain rfl := kPair.op au
   refine L_pu (P_ia Try.underlying86 se86 A1 ad n2 c3 aa.len i2 rfl ar rfl aj) ?_
   refine L_pu (P_fa fa148_1 (ad.add (i2.toNat * 2)) ((ad.add (i2.toNat * 2)).add 1) rfl rfl) ?_
   refine L_pu (P_ld ag3 cL ((ad.add (i2.toNat * 2)).add 1) (vi ((nth p i2).B)) rfl (av 1 _ rfl)) ?_
   refine L_pu (P_assign (vi ((nth p i2).B)) rfl) ?_
   refine L_nil ?_
   refine W_ret ?_
   exact ⟨[vi ((nth p i2).B)], ⟨_, rfl, rfl⟩, (nth p i2).B, rfl, H, ag.gr.g0⟩
  ·have H := ite_f H ah
   refine W_skip ?_
   refine W_reg ?_
   refine L_pu (P_move (vi i2) rfl) ?_
   obtain ⟨aw, H⟩ := H
   have ax : I64 (i2 + 1) := i64_succ (of_decide_eq_true ab) an aw
   refine L_pu (P_add i2 1 rfl rfl ax) ?_
   refine L_pu (P_assign (vi (i2 + 1)) rfl) ?_
   refine L_nil ?_
   obtain ⟨ay, az⟩ := H
   exact ⟨i2 + 1, az, ay, ⟨rfl, rfl, rfl, trivial⟩, ag, aa⟩
 ·have H := ite_f H ab
  refine W_exit (xin_hit ?_)
  refine W_seq ?_
  refine W_reg ?_
  refine L_pu (P_assign (vi (-1)) rfl) ?_
  refine L_nil ?_
  refine W_ret ?_
  exact ⟨[vi (-1)], ⟨_, rfl, rfl⟩, (-1), rfl, H, ag.gr.g0⟩
end Go.Proofs.Ytndjggncgpjolaa

namespace Go.Proofs.Ytndjggncgpjolaa
open Go.RowKit
set_option linter.unusedVariables false
set_option linter.unusedSimpArgs false
def spec_l5Pick.E (o : List Pt) (a : List Pt) (b : List Pt) (Q : List Pt → Bool → Prop) : Prop :=
 spec_l1Same.E a o (fun r => (if r then Q b true else spec_l1Same.E b o (fun r2 => (if r2 then Q a true else spec_l1Same.E a b (fun r3 => (if r3 then Q a true else Q [] false))))))
set_option maxHeartbeats 8000000 in
set_option maxRecDepth 100000 in
theorem spec_l5Pick.calls {O : Ob} (w0 : World) (hO : Ok w0 O) (o : List Pt) (A1 : Option Addr) (n2 c3 : Nat) (hp4 : Sl kPt w0 (Fr O) (.slice A1 n2 c3) o) (a : List Pt) (A6 : Option Addr) (n7 c8 : Nat) (hp9 : Sl kPt w0 (Fr O) (.slice A6 n7 c8) a) (b : List Pt) (aa : Option Addr) (ab ac : Nat) (af : Sl kPt w0 (Fr O) (.slice aa ab ac) b) (Q : List Pt → Bool → Prop) (h : spec_l5Pick.E o a b Q) :
  Ret Try.prog 111 [.slice A1 n2 c3, .slice A6 n7 c8, .slice aa ab ac] w0 (fun v w' => ∃ (r0 : List Pt) (r1 : Bool) (A0 : Option Addr) (n0 c0 : Nat), v = .tuple #[.slice A0 n0 c0, vb r1] ∧ Q r0 r1 ∧ Gr w0 w' none ∧ Sl kPt w' (Fr O) (.slice A0 n0 c0) r0) := by
 unfold spec_l5Pick.E at h
 have H := h
 clear h
 have hc0 := Ct.init hO
 refine Ret_enter Try.func111 rfl 23 rfl [.tmp 6, .tmp 7] rfl rfl ?_
 refine W_seq ?_
 refine W_reg ?_
 refine L_pu (P_assign (.slice none 0 0) rfl) ?_
 refine L_pu (P_assign (vb false) rfl) ?_
 refine L_nil ?_
 refine W_seq ?_
 refine W_block ?_
 refine W_seq ?_
 refine W_reg ?_
 refine L_pu (P_move (.slice A6 n7 c8) rfl) ?_
 refine L_pu (P_move (.slice A1 n2 c3) rfl) ?_
 refine L_call go147 [.slice A6 n7 c8, .slice A1 n2 c3] rfl ((spec_l1Same.calls w0 hc0.ok a A6 n7 c8 hp9 o A1 n2 c3 hp4 _ H).mono ?_)
 rintro _ ak ⟨r, rfl, H, al⟩
 have ad := hc0.k0 al
 refine L_pu (P_assign (vb r) rfl) ?_
 refine L_nil ?_
 refine W_cond r rfl (fun ag => ?_) (fun ag => ?_)
 ·have H := ite_t H ag
  refine W_seq ?_
  refine W_reg ?_
  refine L_pu (P_move (.slice aa ab ac) rfl) ?_
  refine L_pu (P_assign (.slice aa ab ac) rfl) ?_
  refine L_pu (P_assign (vb true) rfl) ?_
  refine L_nil ?_
  refine W_ret ?_
  exact ⟨[.slice aa ab ac, vb true], ⟨_, rfl, ⟨_, rfl, rfl⟩⟩, b, true, aa, ab, ac, rfl, H, ad.gr.g0, (af.st ad.st)⟩
 ·have H := ite_f H ag
  refine W_seq ?_
  refine W_reg ?_
  refine L_pu (P_move (.slice aa ab ac) rfl) ?_
  refine L_pu (P_move (.slice A1 n2 c3) rfl) ?_
  refine L_call go147 [.slice aa ab ac, .slice A1 n2 c3] rfl ((spec_l1Same.calls ak ad.ok b aa ab ac (af.st ad.st) o A1 n2 c3 (hp4.st ad.st) _ H).mono ?_)
  rintro _ am ⟨r2, rfl, H, an⟩
  have ae := ad.k0 an
  refine L_pu (P_assign (vb r2) rfl) ?_
  refine L_nil ?_
  refine W_cond r2 rfl (fun ah => ?_) (fun ah => ?_)
  ·have H := ite_t H ah
   refine W_seq ?_
   refine W_reg ?_
   refine L_pu (P_move (.slice A6 n7 c8) rfl) ?_
   refine L_pu (P_assign (.slice A6 n7 c8) rfl) ?_
   refine L_pu (P_assign (vb true) rfl) ?_
   refine L_nil ?_
   refine W_ret ?_
   exact ⟨[.slice A6 n7 c8, vb true], ⟨_, rfl, ⟨_, rfl, rfl⟩⟩, a, true, A6, n7, c8, rfl, H, ae.gr.g0, (hp9.st ae.st)⟩
  ·have H := ite_f H ah
   refine W_seq ?_
   refine W_reg ?_
   refine L_pu (P_move (.slice A6 n7 c8) rfl) ?_
   refine L_pu (P_move (.slice aa ab ac) rfl) ?_
   refine L_call go147 [.slice A6 n7 c8, .slice aa ab ac] rfl ((spec_l1Same.calls am ae.ok a A6 n7 c8 (hp9.st ae.st) b aa ab ac (af.st ae.st) _ H).mono ?_)
   rintro _ ap ⟨r3, rfl, H, ao⟩
   have ai := ae.k0 ao
   refine L_pu (P_assign (vb r3) rfl) ?_
   refine L_nil ?_
   refine W_cond r3 rfl (fun aj => ?_) (fun aj => ?_)
   ·have H := ite_t H aj
    refine W_seq ?_
    refine W_reg ?_
    refine L_pu (P_move (.slice A6 n7 c8) rfl) ?_
    refine L_pu (P_assign (.slice A6 n7 c8) rfl) ?_
    refine L_pu (P_assign (vb true) rfl) ?_
    refine L_nil ?_
    refine W_ret ?_
    exact ⟨[.slice A6 n7 c8, vb true], ⟨_, rfl, ⟨_, rfl, rfl⟩⟩, a, true, A6, n7, c8, rfl, H, ai.gr.g0, (hp9.st ai.st)⟩
   ·have H := ite_f H aj
    refine W_skip ?_
    refine W_seq ?_
    refine W_reg ?_
    refine L_pu (P_assign (.slice none 0 0) rfl) ?_
    refine L_pu (P_assign (vb false) rfl) ?_
    refine L_nil ?_
    refine W_ret ?_
    exact ⟨[.slice none 0 0, vb false], ⟨_, rfl, ⟨_, rfl, rfl⟩⟩, [], false, none, 0, 0, rfl, H, ai.gr.g0, (Sl.nil _ _ _ none 0 (by decide))⟩
end Go.Proofs.Ytndjggncgpjolaa

namespace Go.Proofs.Ytndjggncgpjolaa
open Go.RowKit
set_option linter.unusedVariables false
set_option linter.unusedSimpArgs false
def spec_l5Merge.E (base_ : List Pt) (a : List Pt) (b : List Pt) (Q : List Pt → Bool → Prop) : Prop :=
 spec_SeqPairs.E base_ a (fun r => spec_SeqPairs.E base_ b (fun r2 => (∃ (I95 : (List Pt) → Int → Int → Int → Int → Prop) (mu96 : (List Pt) → Int → Int → Int → Int → Nat), I95 ([] : List Pt) 0 0 0 0 ∧ ∀ (xs2 : List Pt) (o2 : Int) (x2 : Int) (y2 : Int) (i2 : Int), I95 xs2 o2 x2 y2 i2 → (if decide (i2 ≤ (base_.length : Int)) then (if decide (i2 < (base_.length : Int)) then spec_l5At.E r i2 (fun r3 => spec_l5At.E r2 i2 (fun r4 => (if decide (r3 < 0) then (-9223372036854775808 ≤ i2) ∧ I95 xs2 o2 x2 y2 (i2 + 1) ∧ mu96 xs2 o2 x2 y2 (i2 + 1) < mu96 xs2 o2 x2 y2 i2 else (if decide (r4 < 0) then (-9223372036854775808 ≤ i2) ∧ I95 xs2 o2 x2 y2 (i2 + 1) ∧ mu96 xs2 o2 x2 y2 (i2 + 1) < mu96 xs2 o2 x2 y2 i2 else ((0 : Int) ≤ o2 ∧ (o2 : Int) ≤ i2 ∧ i2 ≤ (base_.length : Int)) ∧ ((0 : Int) ≤ x2 ∧ (x2 : Int) ≤ r3 ∧ r3 ≤ (a.length : Int)) ∧ ((0 : Int) ≤ y2 ∧ (y2 : Int) ≤ r4 ∧ r4 ≤ (b.length : Int)) ∧ spec_l5Pick.E ((base_.drop o2.toNat).take (i2.toNat - o2.toNat)) ((a.drop x2.toNat).take (r3.toNat - x2.toNat)) ((b.drop y2.toNat).take (r4.toNat - y2.toNat)) (fun r5 r6 => (if !r6 then Q ([] : List Pt) false else (xs2.length + r5.length ≤ 268435456) ∧ ((0 : Int) ≤ i2 ∧ i2 < (base_.length : Int)) ∧ ((xs2 ++ r5).length + ([(nth base_ i2)] : List Pt).length ≤ 268435456) ∧ (-9223372036854775808 ≤ i2) ∧ ((base_.length : Int) ≤ 9223372036854775807 → (a.length : Int) ≤ 9223372036854775807 → (b.length : Int) ≤ 9223372036854775807 → I64 (r3 + 1)) ∧ ((base_.length : Int) ≤ 9223372036854775807 → (a.length : Int) ≤ 9223372036854775807 → (b.length : Int) ≤ 9223372036854775807 → I64 (r4 + 1)) ∧ (-9223372036854775808 ≤ i2) ∧ I95 ((xs2 ++ r5) ++ ([(nth base_ i2)] : List Pt)) (i2 + 1) (r3 + 1) (r4 + 1) (i2 + 1) ∧ mu96 ((xs2 ++ r5) ++ ([(nth base_ i2)] : List Pt)) (i2 + 1) (r3 + 1) (r4 + 1) (i2 + 1) < mu96 xs2 o2 x2 y2 i2)))))) else ((0 : Int) ≤ o2 ∧ (o2 : Int) ≤ i2 ∧ i2 ≤ (base_.length : Int)) ∧ ((0 : Int) ≤ x2 ∧ (x2 : Int) ≤ (a.length : Int) ∧ (a.length : Int) ≤ (a.length : Int)) ∧ ((0 : Int) ≤ y2 ∧ (y2 : Int) ≤ (b.length : Int) ∧ (b.length : Int) ≤ (b.length : Int)) ∧ spec_l5Pick.E ((base_.drop o2.toNat).take (i2.toNat - o2.toNat)) ((a.drop x2.toNat).take ((a.length : Int).toNat - x2.toNat)) ((b.drop y2.toNat).take ((b.length : Int).toNat - y2.toNat)) (fun r7 r8 => (if !r8 then Q ([] : List Pt) false else (xs2.length + r7.length ≤ 268435456) ∧ ((base_.length : Int) ≤ 9223372036854775807 → (a.length : Int) ≤ 9223372036854775807 → (b.length : Int) ≤ 9223372036854775807 → I64 (i2 + 1)) ∧ ((base_.length : Int) ≤ 9223372036854775807 → (a.length : Int) ≤ 9223372036854775807 → (b.length : Int) ≤ 9223372036854775807 → I64 ((a.length : Int) + 1)) ∧ ((base_.length : Int) ≤ 9223372036854775807 → (a.length : Int) ≤ 9223372036854775807 → (b.length : Int) ≤ 9223372036854775807 → I64 ((b.length : Int) + 1)) ∧ ((base_.length : Int) ≤ 9223372036854775807 → (a.length : Int) ≤ 9223372036854775807 → (b.length : Int) ≤ 9223372036854775807 → I64 (i2 + 1)) ∧ I95 (xs2 ++ r7) (i2 + 1) ((a.length : Int) + 1) ((b.length : Int) + 1) (i2 + 1) ∧ mu96 (xs2 ++ r7) (i2 + 1) ((a.length : Int) + 1) ((b.length : Int) + 1) (i2 + 1) < mu96 xs2 o2 x2 y2 i2))) else Q xs2 true))))
set_option maxHeartbeats 8000000 in
set_option maxRecDepth 100000 in
theorem spec_l5Merge.calls {O : Ob} (w0 : World) (hO : Ok w0 O) (base_ : List Pt) (A1 : Option Addr) (n2 c3 : Nat) (hp4 : Sl kPt w0 (Fr O) (.slice A1 n2 c3) base_) (a : List Pt) (A6 : Option Addr) (n7 c8 : Nat) (hp9 : Sl kPt w0 (Fr O) (.slice A6 n7 c8) a) (b : List Pt) (ae : Option Addr) (af ag : Nat) (cl : Sl kPt w0 (Fr O) (.slice ae af ag) b) (Q : List Pt → Bool → Prop) (h : spec_l5Merge.E base_ a b Q) :
  Ret Try.prog 51 [.slice A1 n2 c3, .slice A6 n7 c8, .slice ae af ag] w0 (fun v w' => ∃ (r0 : List Pt) (r1 : Bool) (A0 : Option Addr) (n0 c0 : Nat), v = .tuple #[.slice A0 n0 c0, vb r1] ∧ Q r0 r1 ∧ Gr w0 w' none ∧ Ok w' ([bk A0] ++ O) ∧ (∀ b, some b ∈ [bk A0] → w0.heap.size ≤ b) ∧ Ow kPt 29 w' ([bk A0] ++ O) (.slice A0 n0 c0) r0) := by
 unfold spec_l5Merge.E at h
 have H := h
 clear h
 have hc0 := Ct.init hO
 refine Ret_enter Try.func51 rfl 91 rfl [.tmp 6, .tmp 7] rfl rfl ?_
 refine W_seq ?_
 refine W_reg ?_
 refine L_pu (P_assign (.slice none 0 0) rfl) ?_
 refine L_pu (P_assign (vb false) rfl) ?_
 refine L_nil ?_
 refine W_seq ?_
 refine W_reg ?_
 refine L_pu (P_move (.slice A1 n2 c3) rfl) ?_
 refine L_pu (P_move (.slice A6 n7 c8) rfl) ?_
 refine L_call go109 [.slice A1 n2 c3, .slice A6 n7 c8] rfl ((spec_SeqPairs.calls w0 hc0.ok base_ A1 n2 c3 hp4 a A6 n7 c8 hp9 _ H).mono ?_)
 rintro _ d4 ⟨r, ab, a2, a3, rfl, H, d5, d6, d7, d8⟩
 have bo := hc0.owns d5 d6 d7
 refine L_pu (P_assign (.slice ab a2 a3) rfl) ?_
 refine L_nil ?_
 refine W_seq ?_
 refine W_reg ?_
 refine L_pu (P_move (.slice A1 n2 c3) rfl) ?_
 refine L_pu (P_move (.slice ae af ag) rfl) ?_
 refine L_call go109 [.slice A1 n2 c3, .slice ae af ag] rfl ((spec_SeqPairs.calls d4 bo.ok base_ A1 n2 c3 (hp4.st bo.st) b ae af ag (cl.st bo.st) _ H).mono ?_)
 rintro _ ha ⟨r2, ac, a4, a5, rfl, H, cm, d9, cn, ea⟩
 have eb := bo.owns cm d9 cn
 refine L_pu (P_assign (.slice ac a4 a5) rfl) ?_
 refine L_nil ?_
 refine W_seq ?_
 refine W_reg ?_
 refine L_lit (kd := kPt) ei23 eb ([] : List Pt) (cells := []) rfl (fun _ => by kernel_rfl) fun hb co cp cq cr hr43 bp ec => ?_
 refine L_pu (P_assign (.slice co cp cq) rfl) ?_
 refine L_nil ?_
 refine W_seq ?_
 refine W_reg ?_
 refine L_pu (P_assign (vi 0) rfl) ?_
 refine L_nil ?_
 refine W_seq ?_
 refine W_reg ?_
 refine L_pu (P_assign (vi 0) rfl) ?_
 refine L_nil ?_
 refine W_seq ?_
 refine W_reg ?_
 refine L_pu (P_assign (vi 0) rfl) ?_
 refine L_nil ?_
 refine W_seq ?_
 refine W_seq ?_
 refine W_reg ?_
 refine L_pu (P_assign (vi 0) rfl) ?_
 refine L_nil ?_
 refine W_block ?_
 obtain ⟨ed, ee, bv, H⟩ := H
 have ef := ((d8.sos cm cn).so _ cr hr43)
 have eg := (ea.so _ cr hr43)
 refine W_loop (α := (List Pt) × (Option Addr) × Nat × Nat × Int × Int × Int × Int) (fun (sv__ : (List Pt) × (Option Addr) × Nat × Nat × Int × Int × Int × Int) t ao => match sv__ with | (xs2, aa, ah, ai, o2, x2, y2, i2) => ed xs2 o2 x2 y2 i2 ∧ Has t [(0, .slice A1 n2 c3), (1, .slice A6 n7 c8), (2, .slice ae af ag), (8, .slice ab a2 a3), (9, .slice ac a4 a5), (10, .slice aa ah ai), (11, vi o2), (12, vi x2), (13, vi y2), (14, vi i2)] ∧ Ct [] w0 ao [bk aa, bk ac, bk ab] O ∧ Sl kPt ao (Fr ([bk aa, bk ac, bk ab] ++ O)) (.slice A1 n2 c3) base_ ∧ Sl kPt ao (Fr ([bk aa, bk ac, bk ab] ++ O)) (.slice A6 n7 c8) a ∧ Sl kPt ao (Fr ([bk aa, bk ac, bk ab] ++ O)) (.slice ae af ag) b ∧ Ow kPair 148 ao ([bk aa, bk ac, bk ab] ++ O) (.slice ab a2 a3) r ∧ Ow kPair 148 ao ([bk aa, bk ac, bk ab] ++ O) (.slice ac a4 a5) r2 ∧ Ow kPt 29 ao ([bk aa, bk ac, bk ab] ++ O) (.slice aa ah ai) xs2) (fun (sv__ : (List Pt) × (Option Addr) × Nat × Nat × Int × Int × Int × Int) => match sv__ with | (xs2, _, _, _, o2, x2, y2, i2) => ee xs2 o2 x2 y2 i2) (([] : List Pt), co, cp, cq, 0, 0, 0, 0) ⟨bv, ⟨rfl, rfl, rfl, rfl, rfl, rfl, rfl, rfl, rfl, rfl, trivial⟩, bp, (hp4.st bp.st), (hp9.st bp.st), (cl.st bp.st), ef, eg, ec⟩ ?_
 rintro ⟨xs2, aa, ah, ai, o2, x2, y2, i2⟩ _ ao ⟨bv, eh, am, ar, au, av, be, bf, bg⟩
 obtain ⟨hc, rfl⟩ := Has.ins eh
 have H := H xs2 o2 x2 y2 i2 bv
 refine W_seq ?_
 refine W_seq ?_
 refine W_reg ?_
 refine L_pu (P_move (vi i2) rfl) ?_
 refine L_pu (P_move (.slice A1 n2 c3) rfl) ?_
 have an := ar.le
 refine L_pu (P_len Try.underlying23 A1 n2 c3 ar.len rfl) ?_
 refine L_pu (P_cmp i2 (base_.length : Int) (decide (i2 ≤ (base_.length : Int))) rfl rfl rfl) ?_
 refine L_nil ?_
 refine W_cond (decide (i2 ≤ (base_.length : Int))) rfl (fun bw => ?_) (fun bw => ?_)
 ·have H := ite_t H bw
  refine W_skip ?_
  refine W_seq ?_
  refine W_block ?_
  refine W_seq ?_
  refine W_reg ?_
  refine L_pu (P_move (.slice A6 n7 c8) rfl) ?_
  have a6 := au.le
  refine L_pu (P_len Try.underlying23 A6 n7 c8 au.len rfl) ?_
  refine L_pu (P_assign (vi (a.length : Int)) rfl) ?_
  refine L_nil ?_
  refine W_seq ?_
  refine W_reg ?_
  refine L_pu (P_move (.slice ae af ag) rfl) ?_
  have a7 := av.le
  refine L_pu (P_len Try.underlying23 ae af ag av.len rfl) ?_
  refine L_pu (P_assign (vi (b.length : Int)) rfl) ?_
  refine L_nil ?_
  refine W_seq ?_
  refine W_seq ?_
  refine W_reg ?_
  refine L_pu (P_move (vi i2) rfl) ?_
  refine L_pu (P_move (.slice A1 n2 c3) rfl) ?_
  refine L_pu (P_len Try.underlying23 A1 n2 c3 ar.len rfl) ?_
  refine L_pu (P_cmp i2 (base_.length : Int) (decide (i2 < (base_.length : Int))) rfl rfl rfl) ?_
  refine L_nil ?_
  refine W_cond (decide (i2 < (base_.length : Int))) rfl (fun ap => ?_) (fun ap => ?_)
  ·have H := ite_t H ap
   refine W_seq ?_
   refine W_reg ?_
   refine L_pu (P_move (.slice ab a2 a3) rfl) ?_
   refine L_pu (P_move (vi i2) rfl) ?_
   have ei := am.gv be 2 rfl
   have ej := am.drop 2 rfl
   refine L_call go110 [.slice ab a2 a3, vi i2] rfl ((spec_l5At.calls ao ej.ok r ab a2 a3 ei i2 _ H).mono ?_)
   rintro _ ek ⟨r3, rfl, H, ad⟩
   have a8 := am.k0 ad
   refine L_pu (P_assign (vi r3) rfl) ?_
   refine L_nil ?_
   refine W_seq ?_
   refine W_reg ?_
   refine L_pu (P_move (.slice ac a4 a5) rfl) ?_
   refine L_pu (P_move (vi i2) rfl) ?_
   have el := (bf.sn ad)
   have em := a8.gv el 1 rfl
   have en := a8.drop 1 rfl
   refine L_call go110 [.slice ac a4 a5, vi i2] rfl ((spec_l5At.calls ek en.ok r2 ac a4 a5 em i2 _ H).mono ?_)
   rintro _ hd ⟨r4, rfl, H, aj⟩
   have bq := a8.k0 aj
   refine L_pu (P_assign (vi r4) rfl) ?_
   refine L_nil ?_
   refine W_seq ?_
   refine W_reg ?_
   refine L_pu (P_move (vi r3) rfl) ?_
   refine L_pu (P_cmp r3 0 (decide (r3 < 0)) rfl rfl rfl) ?_
   refine L_pu (P_move (vb (decide (r3 < 0))) rfl) ?_
   rcases bool_or (decide (r3 < 0)) with aq | aq
   ·have H := ite_t H aq
    refine L_pass (dj := 48) rfl rfl (.inl (by exact congrArg Value.bool aq)) ?_
    refine L_pass (dj := 48) rfl rfl (.inl (by exact congrArg Value.bool aq)) ?_
    refine L_pu (P_pick true (vb true) (by exact congrArg Value.bool aq) rfl) ?_
    refine L_nil ?_
    refine W_ct (b := true) rfl rfl ?_
    refine W_exit (xin_hit ?_)
    refine W_reg ?_
    refine L_pu (P_move (vi i2) rfl) ?_
    obtain ⟨eo, H⟩ := H
    have ep : I64 (i2 + 1) := i64_succ (of_decide_eq_true ap) an eo
    refine L_pu (P_add i2 1 rfl rfl ep) ?_
    refine L_pu (P_assign (vi (i2 + 1)) rfl) ?_
    refine L_nil ?_
    obtain ⟨eq, er⟩ := H
    have bx := am.stn ad
    have bz := a8.stn aj
    have es := ((ar.st bx).st bz)
    have et := ((au.st bx).st bz)
    have eu := ((av.st bx).st bz)
    have ev := ((be.sn ad).sn aj)
    have ew := ((bf.sn ad).sn aj)
    have ex := ((bg.sn ad).sn aj)
    exact ⟨(xs2, aa, ah, ai, o2, x2, y2, i2 + 1), er, eq, ⟨rfl, rfl, rfl, rfl, rfl, rfl, rfl, rfl, rfl, rfl, trivial⟩, bq, es, et, eu, ev, ew, ex⟩
   ·have H := ite_f H aq
    refine L_run (dj := 48) rfl rfl (by exact congrArg Value.bool aq) ?_
    refine L_pu (P_move (vi r4) rfl) ?_
    refine L_run (dj := 48) rfl rfl (by exact congrArg Value.bool aq) ?_
    refine L_pu (P_cmp r4 0 (decide (r4 < 0)) rfl rfl rfl) ?_
    refine L_pu (P_pick false (vb (decide (r4 < 0))) (by exact congrArg Value.bool aq) rfl) ?_
    refine L_nil ?_
    refine W_cond (decide (r4 < 0)) rfl (fun b0 => ?_) (fun b0 => ?_)
    ·have H := ite_t H b0
     refine W_exit (xin_hit ?_)
     refine W_reg ?_
     refine L_pu (P_move (vi i2) rfl) ?_
     obtain ⟨ey, H⟩ := H
     have ez : I64 (i2 + 1) := i64_succ (of_decide_eq_true ap) an ey
     refine L_pu (P_add i2 1 rfl rfl ez) ?_
     refine L_pu (P_assign (vi (i2 + 1)) rfl) ?_
     refine L_nil ?_
     obtain ⟨e0, e1⟩ := H
     have b1 := am.stn ad
     have b2 := a8.stn aj
     have e2 := ((ar.st b1).st b2)
     have e3 := ((au.st b1).st b2)
     have e4 := ((av.st b1).st b2)
     have e5 := ((be.sn ad).sn aj)
     have e6 := ((bf.sn ad).sn aj)
     have e7 := ((bg.sn ad).sn aj)
     exact ⟨(xs2, aa, ah, ai, o2, x2, y2, i2 + 1), e1, e0, ⟨rfl, rfl, rfl, rfl, rfl, rfl, rfl, rfl, rfl, rfl, trivial⟩, bq, e2, e3, e4, e5, e6, e7⟩
    ·have H := ite_f H b0
     refine W_skip ?_
     refine W_seq ?_
     refine W_mixr 18 [] (by kernel_rfl) rfl fun e8 bh ak => ?_
     have b3 := bq.k0 bh
     refine M_pu 0 rfl (by kernel_rfl) ak (P_move (.slice A1 n2 c3) rfl) ?_
     refine M_pu 1 rfl (by kernel_rfl) ak (P_move (vi o2) rfl) ?_
     refine M_pu 2 rfl (by kernel_rfl) ak (P_move (vi i2) rfl) ?_
     obtain ⟨e9, H⟩ := H
     have b4 := am.stn ad
     have b5 := a8.stn aj
     have b6 := bq.stn bh
     have cs := (((ar.st b4).st b5).st b6)
     refine M_cuts 3 rfl (by kernel_rfl) ak Try.underlying23 se23 A1 n2 c3 base_ rfl cs o2 i2 rfl rfl e9 fun ct cu cv fa => ?_
     refine M_pu 4 rfl (by kernel_rfl) ak (P_move (.slice A6 n7 c8) rfl) ?_
     refine M_pu 5 rfl (by kernel_rfl) ak (P_move (vi x2) rfl) ?_
     refine M_pu 6 rfl (by kernel_rfl) ak (P_move (vi r3) rfl) ?_
     obtain ⟨fb, H⟩ := H
     have cw := (((au.st b4).st b5).st b6)
     refine M_cuts 7 rfl (by kernel_rfl) ak Try.underlying23 se23 A6 n7 c8 a rfl cw x2 r3 rfl rfl fb fun cx cy cz fc => ?_
     refine M_pu 8 rfl (by kernel_rfl) ak (P_move (.slice ae af ag) rfl) ?_
     refine M_pu 9 rfl (by kernel_rfl) ak (P_move (vi y2) rfl) ?_
     refine M_pu 10 rfl (by kernel_rfl) ak (P_move (vi r4) rfl) ?_
     obtain ⟨fd, H⟩ := H
     have c1 := (((av.st b4).st b5).st b6)
     refine M_cuts 11 rfl (by kernel_rfl) ak Try.underlying23 se23 ae af ag b rfl c1 y2 r4 rfl rfl fd fun c2 c4 c5 fe => ?_
     refine M_any1 12 (by kernel_rfl) rfl ?_
     refine L_call go111 [.slice ct cu cv, .slice cx cy cz, .slice c2 c4 c5] rfl ((spec_l5Pick.calls e8 b3.ok ((base_.drop o2.toNat).take (i2.toNat - o2.toNat)) ct cu cv fa ((a.drop x2.toNat).take (r3.toNat - x2.toNat)) cx cy cz fc ((b.drop y2.toNat).take (r4.toNat - y2.toNat)) c2 c4 c5 fe _ H).mono ?_)
     rintro _ c6 ⟨r5, r6, aw, ax, ay, rfl, H, a9, ff⟩
     have br := b3.k0 a9
     have ba := Gm.tm ak a9
     refine L_nil ⟨ba, ?_⟩
     refine M_pu 13 rfl (by kernel_rfl) ba (P_move (.tuple #[.slice aw ax ay, vb r6]) rfl) ?_
     refine M_pu 14 rfl (by kernel_rfl) ba (P_ext [.slice aw ax ay, vb r6] 0 (.slice aw ax ay) rfl rfl) ?_
     refine M_pu 15 rfl (by kernel_rfl) ba (P_ext [.slice aw ax ay, vb r6] 1 (vb r6) rfl rfl) ?_
     refine M_pu 16 rfl (by kernel_rfl) ba (P_assign (.slice aw ax ay) rfl) ?_
     refine M_pu 17 rfl (by kernel_rfl) ba (P_assign (vb r6) rfl) ?_
     refine M_nil (by kernel_rfl) ?_
     refine W_seq ?_
     refine W_seq ?_
     refine W_reg ?_
     refine L_pu (P_move (vb r6) rfl) ?_
     refine L_pu (P_not r6 rfl) ?_
     refine L_nil ?_
     refine W_cond (!r6) rfl (fun b7 => ?_) (fun b7 => ?_)
     ·have H := ite_t H b7
      refine W_seq ?_
      refine W_reg ?_
      refine L_pu (P_assign (.slice none 0 0) rfl) ?_
      refine L_pu (P_assign (vb false) rfl) ?_
      refine L_nil ?_
      refine W_ret ?_
      have c7 := br.own (Gr.refl _ none) none (by simp)
      have fg : Ow kPt 29 c6 ([bk none, bk aa, bk ac, bk ab] ++ O) (.slice none 0 0) [] := Ow.nil _ _ _ _
      have c9 := c7.drop 1 rfl
      have da := c9.drop 1 rfl
      have b8 : Ct [] w0 c6 [bk none] O := da.drop 1 rfl
      have fh := (da.sd (c9.sd (c7.sd fg 0 1 rfl rfl rfl) 0 1 rfl rfl rfl) 0 1 rfl rfl rfl)
      exact ⟨[.slice none 0 0, vb false], ⟨_, rfl, ⟨_, rfl, rfl⟩⟩, ([] : List Pt), false, none, 0, 0, rfl, H, b8.gr.g0, b8.ok, b8.ge, fh⟩
     ·have H := ite_f H b7
      refine W_skip ?_
      refine W_seq ?_
      refine W_reg ?_
      refine L_pu (P_move (.slice aa ah ai) rfl) ?_
      refine L_pu (P_move (.slice aw ax ay) rfl) ?_
      obtain ⟨fi, H⟩ := H
      have fj := ((((bg.sn ad).sn aj).sn bh).sn a9)
      refine L_app ei23 br (.slice aa ah ai) xs2 r5 rfl fj (.slice aw ax ay) rfl ff.sx 0 rfl fi fun he b9 ca cb db bi dc fk => ?_
      refine L_pu (P_assign (.slice b9 ca cb) rfl) ?_
      refine L_nil ?_
      refine W_seq ?_
      refine W_seq ?_
      refine W_reg ?_
      refine L_pu (P_move (vi i2) rfl) ?_
      refine L_pu (P_move (.slice A1 n2 c3) rfl) ?_
      have cc := b3.stn a9
      have bs := ((cs.st cc).st bi)
      refine L_pu (P_len Try.underlying23 A1 n2 c3 bs.len rfl) ?_
      refine L_pu (P_cmp i2 (base_.length : Int) (decide (i2 < (base_.length : Int))) rfl rfl rfl) ?_
      refine L_nil ?_
      refine W_ct (b := decide (i2 < (base_.length : Int))) rfl ap ?_
      refine W_reg ?_
      refine L_pu (P_move (.slice b9 ca cb) rfl) ?_
      refine L_pu (P_move (.slice A1 n2 c3) rfl) ?_
      refine L_pu (P_move (vi i2) rfl) ?_
      obtain ⟨dd, H⟩ := H
      obtain ⟨de, hf, fl, hg, fm, fn⟩ := bs.get default (by decide) i2 dd
      obtain rfl := kPt.op fm
      refine L_pu (P_ia Try.underlying23 se23 A1 de n2 c3 bs.len i2 rfl fl rfl dd) ?_
      refine L_pu (P_lda ag29 sz29 cL (de.add (i2.toNat * 2)) [vi ((nth base_ i2).X), vi ((nth base_ i2).Y)] rfl rfl fn) ?_
      refine L_lit (kd := kPt) ei23 dc ([(nth base_ i2)] : List Pt) (cells := [vi ((nth base_ i2).X), vi ((nth base_ i2).Y)]) ⟨[vi ((nth base_ i2).X), vi ((nth base_ i2).Y)], _, rfl, (kPt.mk _ _ (nth base_ i2)), rfl⟩ (fun _ => by kernel_rfl) fun hh fo fp fq bt hr226 cd fr => ?_
      obtain ⟨fs, H⟩ := H
      have ft := (fk.so _ bt hr226)
      refine L_app ei23 cd (.slice b9 ca cb) (xs2 ++ r5) ([(nth base_ i2)] : List Pt) rfl ft (.slice fo fp fq) rfl fr.sx 1 rfl fs fun hi df dg dh di bj bl fu => ?_
      refine L_pu (P_assign (.slice df dg dh) rfl) ?_
      refine L_nil ?_
      refine W_seq ?_
      refine W_reg ?_
      refine L_pu (P_move (vi i2) rfl) ?_
      obtain ⟨fv, H⟩ := H
      have fw : I64 (i2 + 1) := i64_succ (of_decide_eq_true ap) an fv
      refine L_pu (P_add i2 1 rfl rfl fw) ?_
      refine L_pu (P_assign (vi (i2 + 1)) rfl) ?_
      refine L_nil ?_
      refine W_seq ?_
      refine W_reg ?_
      refine L_pu (P_move (vi r3) rfl) ?_
      obtain ⟨fx, H⟩ := H
      have fy := fx (len_le an) (len_le a6) (len_le a7)
      refine L_pu (P_add r3 1 rfl rfl fy) ?_
      refine L_pu (P_assign (vi (r3 + 1)) rfl) ?_
      refine L_nil ?_
      refine W_reg ?_
      refine L_pu (P_move (vi r4) rfl) ?_
      obtain ⟨fz, H⟩ := H
      have f0 := fz (len_le an) (len_le a6) (len_le a7)
      refine L_pu (P_add r4 1 rfl rfl f0) ?_
      refine L_pu (P_assign (vi (r4 + 1)) rfl) ?_
      refine L_nil ?_
      refine W_reg ?_
      refine L_pu (P_move (vi i2) rfl) ?_
      obtain ⟨f1, H⟩ := H
      have f2 : I64 (i2 + 1) := i64_succ (of_decide_eq_true ap) an f1
      refine L_pu (P_add i2 1 rfl rfl f2) ?_
      refine L_pu (P_assign (vi (i2 + 1)) rfl) ?_
      refine L_nil ?_
      have f3 := bl.drop 0 rfl
      obtain ⟨f4, f5⟩ := H
      have ce := dc.stown _ bt hr226
      have cf := bl.std 0 rfl
      have f6 := (((bs.st ce).st bj).st cf)
      have f7 := (((((cw.st cc).st bi).st ce).st bj).st cf)
      have f8 := (((((c1.st cc).st bi).st ce).st bj).st cf)
      have f9 := (bl.sd (cd.sm ((br.sm ((((be.sn ad).sn aj).sn bh).sn a9) 2 0 rfl rfl rfl db bi).so _ bt hr226) 3 1 rfl rfl rfl di bj) 3 0 rfl rfl rfl)
      have ga := (bl.sd (cd.sm ((br.sm ((((bf.sn ad).sn aj).sn bh).sn a9) 1 0 rfl rfl rfl db bi).so _ bt hr226) 2 1 rfl rfl rfl di bj) 2 0 rfl rfl rfl)
      have gb := (bl.sd fu 1 0 rfl rfl rfl)
      exact ⟨(((xs2 ++ r5) ++ ([(nth base_ i2)] : List Pt)), df, dg, dh, i2 + 1, r3 + 1, r4 + 1, i2 + 1), f5, f4, ⟨rfl, rfl, rfl, rfl, rfl, rfl, rfl, rfl, rfl, rfl, trivial⟩, f3, f6, f7, f8, f9, ga, gb⟩
  ·have H := ite_f H ap
   refine W_skip ?_
   refine W_seq ?_
   refine W_mixr 18 [] (by kernel_rfl) rfl fun gc bm al => ?_
   have cg := am.k0 bm
   refine M_pu 0 rfl (by kernel_rfl) al (P_move (.slice A1 n2 c3) rfl) ?_
   refine M_pu 1 rfl (by kernel_rfl) al (P_move (vi o2) rfl) ?_
   refine M_pu 2 rfl (by kernel_rfl) al (P_move (vi i2) rfl) ?_
   obtain ⟨gd, H⟩ := H
   have bb := am.stn bm
   refine M_cuts 3 rfl (by kernel_rfl) al Try.underlying23 se23 A1 n2 c3 base_ rfl (ar.st bb) o2 i2 rfl rfl gd fun dk dl dm gf => ?_
   refine M_pu 4 rfl (by kernel_rfl) al (P_move (.slice A6 n7 c8) rfl) ?_
   refine M_pu 5 rfl (by kernel_rfl) al (P_move (vi x2) rfl) ?_
   refine M_pu 6 rfl (by kernel_rfl) al (P_move (vi (a.length : Int)) rfl) ?_
   obtain ⟨gg, H⟩ := H
   refine M_cuts 7 rfl (by kernel_rfl) al Try.underlying23 se23 A6 n7 c8 a rfl (au.st bb) x2 (a.length : Int) rfl rfl gg fun dn dp dq gh => ?_
   refine M_pu 8 rfl (by kernel_rfl) al (P_move (.slice ae af ag) rfl) ?_
   refine M_pu 9 rfl (by kernel_rfl) al (P_move (vi y2) rfl) ?_
   refine M_pu 10 rfl (by kernel_rfl) al (P_move (vi (b.length : Int)) rfl) ?_
   obtain ⟨gi, H⟩ := H
   refine M_cuts 11 rfl (by kernel_rfl) al Try.underlying23 se23 ae af ag b rfl (av.st bb) y2 (b.length : Int) rfl rfl gi fun dr ds dt gj => ?_
   refine M_any1 12 (by kernel_rfl) rfl ?_
   refine L_call go111 [.slice dk dl dm, .slice dn dp dq, .slice dr ds dt] rfl ((spec_l5Pick.calls gc cg.ok ((base_.drop o2.toNat).take (i2.toNat - o2.toNat)) dk dl dm gf ((a.drop x2.toNat).take ((a.length : Int).toNat - x2.toNat)) dn dp dq gh ((b.drop y2.toNat).take ((b.length : Int).toNat - y2.toNat)) dr ds dt gj _ H).mono ?_)
   rintro _ du ⟨r7, r8, az, a0, a1, rfl, H, bc, gk⟩
   have bu := cg.k0 bc
   have bd := Gm.tm al bc
   refine L_nil ⟨bd, ?_⟩
   refine M_pu 13 rfl (by kernel_rfl) bd (P_move (.tuple #[.slice az a0 a1, vb r8]) rfl) ?_
   refine M_pu 14 rfl (by kernel_rfl) bd (P_ext [.slice az a0 a1, vb r8] 0 (.slice az a0 a1) rfl rfl) ?_
   refine M_pu 15 rfl (by kernel_rfl) bd (P_ext [.slice az a0 a1, vb r8] 1 (vb r8) rfl rfl) ?_
   refine M_pu 16 rfl (by kernel_rfl) bd (P_assign (.slice az a0 a1) rfl) ?_
   refine M_pu 17 rfl (by kernel_rfl) bd (P_assign (vb r8) rfl) ?_
   refine M_nil (by kernel_rfl) ?_
   refine W_seq ?_
   refine W_seq ?_
   refine W_reg ?_
   refine L_pu (P_move (vb r8) rfl) ?_
   refine L_pu (P_not r8 rfl) ?_
   refine L_nil ?_
   refine W_cond (!r8) rfl (fun ch => ?_) (fun ch => ?_)
   ·have H := ite_t H ch
    refine W_seq ?_
    refine W_reg ?_
    refine L_pu (P_assign (.slice none 0 0) rfl) ?_
    refine L_pu (P_assign (vb false) rfl) ?_
    refine L_nil ?_
    refine W_ret ?_
    have dv := bu.own (Gr.refl _ none) none (by simp)
    have gl : Ow kPt 29 du ([bk none, bk aa, bk ac, bk ab] ++ O) (.slice none 0 0) [] := Ow.nil _ _ _ _
    have dw := dv.drop 1 rfl
    have dx := dw.drop 1 rfl
    have ci : Ct [] w0 du [bk none] O := dx.drop 1 rfl
    have gm := (dx.sd (dw.sd (dv.sd gl 0 1 rfl rfl rfl) 0 1 rfl rfl rfl) 0 1 rfl rfl rfl)
    exact ⟨[.slice none 0 0, vb false], ⟨_, rfl, ⟨_, rfl, rfl⟩⟩, ([] : List Pt), false, none, 0, 0, rfl, H, ci.gr.g0, ci.ok, ci.ge, gm⟩
   ·have H := ite_f H ch
    refine W_skip ?_
    refine W_seq ?_
    refine W_reg ?_
    refine L_pu (P_move (.slice aa ah ai) rfl) ?_
    refine L_pu (P_move (.slice az a0 a1) rfl) ?_
    obtain ⟨gn, H⟩ := H
    have gp := ((bg.sn bm).sn bc)
    refine L_app ei23 bu (.slice aa ah ai) xs2 r7 rfl gp (.slice az a0 a1) rfl gk.sx 0 rfl gn fun hj dy dz d0 d1 bn gq gs => ?_
    refine L_pu (P_assign (.slice dy dz d0) rfl) ?_
    refine L_nil ?_
    refine W_seq ?_
    refine W_seq ?_
    refine W_reg ?_
    refine L_pu (P_move (vi i2) rfl) ?_
    refine L_pu (P_move (.slice A1 n2 c3) rfl) ?_
    have cj := cg.stn bc
    have d2 := (((ar.st bb).st cj).st bn)
    refine L_pu (P_len Try.underlying23 A1 n2 c3 d2.len rfl) ?_
    refine L_pu (P_cmp i2 (base_.length : Int) (decide (i2 < (base_.length : Int))) rfl rfl rfl) ?_
    refine L_nil ?_
    refine W_cf (b := decide (i2 < (base_.length : Int))) rfl ap ?_
    refine W_skip ?_
    refine W_seq ?_
    refine W_reg ?_
    refine L_pu (P_move (vi i2) rfl) ?_
    obtain ⟨gt, H⟩ := H
    have gu := gt (len_le an) (len_le a6) (len_le a7)
    refine L_pu (P_add i2 1 rfl rfl gu) ?_
    refine L_pu (P_assign (vi (i2 + 1)) rfl) ?_
    refine L_nil ?_
    refine W_seq ?_
    refine W_reg ?_
    refine L_pu (P_move (vi (a.length : Int)) rfl) ?_
    obtain ⟨gw, H⟩ := H
    have gx := gw (len_le an) (len_le a6) (len_le a7)
    refine L_pu (P_add (a.length : Int) 1 rfl rfl gx) ?_
    refine L_pu (P_assign (vi ((a.length : Int) + 1)) rfl) ?_
    refine L_nil ?_
    refine W_reg ?_
    refine L_pu (P_move (vi (b.length : Int)) rfl) ?_
    obtain ⟨gy, H⟩ := H
    have gz := gy (len_le an) (len_le a6) (len_le a7)
    refine L_pu (P_add (b.length : Int) 1 rfl rfl gz) ?_
    refine L_pu (P_assign (vi ((b.length : Int) + 1)) rfl) ?_
    refine L_nil ?_
    refine W_reg ?_
    refine L_pu (P_move (vi i2) rfl) ?_
    obtain ⟨g1, H⟩ := H
    have g2 := g1 (len_le an) (len_le a6) (len_le a7)
    refine L_pu (P_add i2 1 rfl rfl g2) ?_
    refine L_pu (P_assign (vi (i2 + 1)) rfl) ?_
    refine L_nil ?_
    obtain ⟨g3, g4⟩ := H
    have g5 := (((au.st bb).st cj).st bn)
    have g6 := (((av.st bb).st cj).st bn)
    have g7 := (bu.sm ((be.sn bm).sn bc) 2 0 rfl rfl rfl d1 bn)
    have g8 := (bu.sm ((bf.sn bm).sn bc) 1 0 rfl rfl rfl d1 bn)
    exact ⟨((xs2 ++ r7), dy, dz, d0, i2 + 1, (a.length : Int) + 1, (b.length : Int) + 1, i2 + 1), g4, g3, ⟨rfl, rfl, rfl, rfl, rfl, rfl, rfl, rfl, rfl, rfl, trivial⟩, gq, d2, g5, g6, g7, g8, gs⟩
 ·have H := ite_f H bw
  refine W_exit (xin_hit ?_)
  refine W_seq ?_
  refine W_reg ?_
  refine L_pu (P_move (.slice aa ah ai) rfl) ?_
  refine L_pu (P_assign (.slice aa ah ai) rfl) ?_
  refine L_pu (P_assign (vb true) rfl) ?_
  refine L_nil ?_
  refine W_ret ?_
  have d3 := am.drop 1 rfl
  have ck := d3.drop 1 rfl
  have g9 := (d3.sd (am.sd bg 0 1 rfl rfl rfl) 0 1 rfl rfl rfl)
  exact ⟨[.slice aa ah ai, vb true], ⟨_, rfl, ⟨_, rfl, rfl⟩⟩, xs2, true, aa, ah, ai, rfl, H, ck.gr.g0, ck.ok, ck.ge, g9⟩
end Go.Proofs.Ytndjggncgpjolaa

namespace Go.Proofs.Ytndjggncgpjolaa
open Go.RowKit
set_option linter.unusedVariables false
set_option linter.unusedSimpArgs false
def spec_l6Shape.E (o : Shape) (a : Shape) (b : Shape) (Q : Shape → Bool → Prop) : Prop :=
 spec_ShapeSame.E a o (fun r => (if r then Q b true else spec_ShapeSame.E b o (fun r2 => (if r2 then Q a true else spec_ShapeSame.E a b (fun r3 => (if r3 then Q a true else (if a.Kind != b.Kind then Q a false else (if a.Kind != o.Kind then Q a false else spec_l5Merge.E o.Pts a.Pts b.Pts (fun r4 r5 => (if !r5 then Q a false else spec_ShapeOk.E (⟨a.Kind, r4⟩ : Shape) (fun r6 => (if !r6 then Q a false else Q (⟨a.Kind, r4⟩ : Shape) true))))))))))))
set_option maxHeartbeats 8000000 in
set_option maxRecDepth 100000 in
theorem spec_l6Shape.calls {O : Ob} (w0 : World) (hO : Ok w0 O) (o : Shape) (A1 : Option Addr) (n2 c3 : Nat) (hp4 : Sl kPt w0 (Fr O) (.slice A1 n2 c3) o.Pts) (a : Shape) (A6 : Option Addr) (n7 c8 : Nat) (hp9 : Sl kPt w0 (Fr O) (.slice A6 n7 c8) a.Pts) (b : Shape) (ab : Option Addr) (ac ad : Nat) (a5 : Sl kPt w0 (Fr O) (.slice ab ac ad) b.Pts) (Q : Shape → Bool → Prop) (h : spec_l6Shape.E o a b Q) :
  Ret Try.prog 136 [.agg #[vi o.Kind, .slice A1 n2 c3], .agg #[vi a.Kind, .slice A6 n7 c8], .agg #[vi b.Kind, .slice ab ac ad]] w0 (fun v w' => ∃ (r0 : Shape) (r1 : Bool) (A0 : Option Addr) (n0 c0 : Nat), v = .tuple #[.agg #[vi r0.Kind, .slice A0 n0 c0], vb r1] ∧ Q r0 r1 ∧ Gr w0 w' none ∧ Sl kPt w' (Fr O) (.slice A0 n0 c0) r0.Pts) := by
 unfold spec_l6Shape.E at h
 have H := h
 clear h
 have hc0 := Ct.init hO
 refine Ret_enter Try.func136 rfl 63 rfl [.cell 6 68, .tmp 7] rfl rfl ?_
 refine W_seq ?_
 refine W_reg ?_
 refine L_box [vi o.Kind, .slice A1 n2 c3] rfl fun ex aq co hu20 cp cq => ?_
 have cr := Fb.mk hc0.ok co cq
 have a9 := hc0.k0 cp
 refine L_box [vi a.Kind, .slice A6 n7 c8] rfl fun ey aa cs hu29 bq ct => ?_
 have cu := Fb.mk a9.ok cs ct
 have ba := a9.k0 bq
 refine L_box [vi b.Kind, .slice ab ac ad] rfl fun ez am cv hu38 br cw => ?_
 have bs := Fb.mk ba.ok cv cw
 have bt := ba.k0 br
 refine L_alloc [.int .i64 0, .slice none 0 0] ze68 fun cx an bu hu47 bv ar => ?_
 have az := bt.own bv (some an) (oglt bu hu47)
 refine L_pu (P_assign (vb false) rfl) ?_
 refine L_nil ?_
 refine W_seq ?_
 refine W_block ?_
 refine W_seq ?_
 refine W_reg ?_
 have bw := ba.stn br
 have a6 := bt.stown _ bv (oge bu)
 have bb := ((cu.st bw).st a6)
 refine L_pu (P_lda ag68 sz68 cL ⟨aa, 0, none⟩ [vi a.Kind, .slice A6 n7 c8] rfl rfl (bb.cells (off := 0) rfl)) ?_
 have cy := a9.stn bq
 have bx := (((cr.st cy).st bw).st a6)
 refine L_pu (P_lda ag68 sz68 cL ⟨aq, 0, none⟩ [vi o.Kind, .slice A1 n2 c3] rfl rfl (bx.cells (off := 0) rfl)) ?_
 refine L_call go123 [.agg #[vi a.Kind, .slice A6 n7 c8], .agg #[vi o.Kind, .slice A1 n2 c3]] rfl ((spec_ShapeSame.calls cx az.ok a A6 n7 c8 (hp9.st az.st) o A1 n2 c3 (hp4.st az.st) _ H).mono ?_)
 rintro _ cz ⟨r, rfl, H, ai⟩
 have ax := az.k0 ai
 refine L_pu (P_assign (vb r) rfl) ?_
 refine L_nil ?_
 refine W_cond r rfl (fun bc => ?_) (fun bc => ?_)
 ·have H := ite_t H bc
  refine W_seq ?_
  refine W_reg ?_
  have c1 := az.stn ai
  have c2 := ((bs.st a6).st c1)
  refine L_pu (P_lda ag68 sz68 cL ⟨am, 0, none⟩ [vi b.Kind, .slice ab ac ad] rfl rfl (c2.cells (off := 0) rfl)) ?_
  have c4 := (ar.k0 ai)
  refine L_stb an 0 [vi 0, .slice none 0 0] [vi b.Kind, .slice ab ac ad] [vi b.Kind, .slice ab ac ad] rfl c4 rfl sz68 rfl rfl rfl fun e0 c5 c6 => ?_
  have bz := ax.wr 0 rfl c5
  refine L_pu (P_assign (vb true) rfl) ?_
  refine L_nil ?_
  refine W_ret ?_
  have c7 := bz.bgv c6 0 rfl
  have b0 := bz.drop 0 rfl
  exact ⟨[.agg #[vi b.Kind, .slice ab ac ad], vb true], ⟨_, _, rfl, c7.1.res rfl ag68 sz68, ⟨_, rfl, rfl⟩⟩, b, true, ab, ac, ad, rfl, H, b0.gr.g0, (a5.st b0.st)⟩
 ·have H := ite_f H bc
  refine W_seq ?_
  refine W_reg ?_
  have a7 := az.stn ai
  have b1 := ((bs.st a6).st a7)
  refine L_pu (P_lda ag68 sz68 cL ⟨am, 0, none⟩ [vi b.Kind, .slice ab ac ad] rfl rfl (b1.cells (off := 0) rfl)) ?_
  have b2 := (bx.st a7)
  refine L_pu (P_lda ag68 sz68 cL ⟨aq, 0, none⟩ [vi o.Kind, .slice A1 n2 c3] rfl rfl (b2.cells (off := 0) rfl)) ?_
  refine L_call go123 [.agg #[vi b.Kind, .slice ab ac ad], .agg #[vi o.Kind, .slice A1 n2 c3]] rfl ((spec_ShapeSame.calls cz ax.ok b ab ac ad (a5.st ax.st) o A1 n2 c3 (hp4.st ax.st) _ H).mono ?_)
  rintro _ c9 ⟨r2, rfl, H, al⟩
  have ay := ax.k0 al
  refine L_pu (P_move (vb r2) rfl) ?_
  rcases bool_or r2 with aj | aj
  ·have H := ite_t H aj
   refine L_pass (dj := 20) rfl rfl (.inl (by exact congrArg Value.bool aj)) ?_
   refine L_pass (dj := 20) rfl rfl (.inl (by exact congrArg Value.bool aj)) ?_
   refine L_pass (dj := 20) rfl rfl (.inl (by exact congrArg Value.bool aj)) ?_
   refine L_pu (P_pick true (vb true) (by exact congrArg Value.bool aj) rfl) ?_
   refine L_pu (P_assign (vb true) rfl) ?_
   refine L_nil ?_
   refine W_ct (b := true) rfl rfl ?_
   refine W_seq ?_
   refine W_reg ?_
   have da := ax.stn al
   have db := ((bb.st a7).st da)
   refine L_pu (P_lda ag68 sz68 cL ⟨aa, 0, none⟩ [vi a.Kind, .slice A6 n7 c8] rfl rfl (db.cells (off := 0) rfl)) ?_
   have dc := ((ar.k0 ai).k0 al)
   refine L_stb an 0 [vi 0, .slice none 0 0] [vi a.Kind, .slice A6 n7 c8] [vi a.Kind, .slice A6 n7 c8] rfl dc rfl sz68 rfl rfl rfl fun e1 dd de => ?_
   have b3 := ay.wr 0 rfl dd
   refine L_pu (P_assign (vb true) rfl) ?_
   refine L_nil ?_
   refine W_ret ?_
   have df := b3.bgv de 0 rfl
   have b4 := b3.drop 0 rfl
   exact ⟨[.agg #[vi a.Kind, .slice A6 n7 c8], vb true], ⟨_, _, rfl, df.1.res rfl ag68 sz68, ⟨_, rfl, rfl⟩⟩, a, true, A6, n7, c8, rfl, H, b4.gr.g0, (hp9.st b4.st)⟩
  ·have H := ite_f H aj
   refine L_run (dj := 20) rfl rfl (by exact congrArg Value.bool aj) ?_
   have bd := ax.stn al
   have be := ((bb.st a7).st bd)
   refine L_pu (P_lda ag68 sz68 cL ⟨aa, 0, none⟩ [vi a.Kind, .slice A6 n7 c8] rfl rfl (be.cells (off := 0) rfl)) ?_
   refine L_run (dj := 20) rfl rfl (by exact congrArg Value.bool aj) ?_
   have b5 := (b1.st bd)
   refine L_pu (P_lda ag68 sz68 cL ⟨am, 0, none⟩ [vi b.Kind, .slice ab ac ad] rfl rfl (b5.cells (off := 0) rfl)) ?_
   refine L_run (dj := 20) rfl rfl (by exact congrArg Value.bool aj) ?_
   refine L_call go123 [.agg #[vi a.Kind, .slice A6 n7 c8], .agg #[vi b.Kind, .slice ab ac ad]] rfl ((spec_ShapeSame.calls c9 ay.ok a A6 n7 c8 (hp9.st ay.st) b ab ac ad (a5.st ay.st) _ H).mono ?_)
   rintro _ dg ⟨r3, rfl, H, ao⟩
   have ap := ay.k0 ao
   refine L_pu (P_pick false (vb r3) (by exact congrArg Value.bool aj) rfl) ?_
   refine L_pu (P_assign (vb r3) rfl) ?_
   refine L_nil ?_
   refine W_cond r3 rfl (fun bf => ?_) (fun bf => ?_)
   ·have H := ite_t H bf
    refine W_seq ?_
    refine W_reg ?_
    have dh := ay.stn ao
    have di := (be.st dh)
    refine L_pu (P_lda ag68 sz68 cL ⟨aa, 0, none⟩ [vi a.Kind, .slice A6 n7 c8] rfl rfl (di.cells (off := 0) rfl)) ?_
    have dk := (((ar.k0 ai).k0 al).k0 ao)
    refine L_stb an 0 [vi 0, .slice none 0 0] [vi a.Kind, .slice A6 n7 c8] [vi a.Kind, .slice A6 n7 c8] rfl dk rfl sz68 rfl rfl rfl fun e2 dl dm => ?_
    have b6 := ap.wr 0 rfl dl
    refine L_pu (P_assign (vb true) rfl) ?_
    refine L_nil ?_
    refine W_ret ?_
    have dn := b6.bgv dm 0 rfl
    have b7 := b6.drop 0 rfl
    exact ⟨[.agg #[vi a.Kind, .slice A6 n7 c8], vb true], ⟨_, _, rfl, dn.1.res rfl ag68 sz68, ⟨_, rfl, rfl⟩⟩, a, true, A6, n7, c8, rfl, H, b7.gr.g0, (hp9.st b7.st)⟩
   ·have H := ite_f H bf
    refine W_seq ?_
    refine W_reg ?_
    refine L_pu (P_fa fa68_0 ⟨aa, 0, none⟩ ⟨aa, 0, none⟩ rfl rfl) ?_
    have bg := ay.stn ao
    have a0 := (be.st bg)
    refine L_pu (P_ld ag3 cL ⟨aa, 0, none⟩ (vi a.Kind) rfl (a0.cell rfl)) ?_
    refine L_pu (P_fa fa68_0 ⟨am, 0, none⟩ ⟨am, 0, none⟩ rfl rfl) ?_
    have b8 := (b5.st bg)
    refine L_pu (P_ld ag3 cL ⟨am, 0, none⟩ (vi b.Kind) rfl (b8.cell rfl)) ?_
    refine L_pu (P_cmp a.Kind b.Kind (a.Kind != b.Kind) rfl rfl rfl) ?_
    refine L_pu (P_move (vb (a.Kind != b.Kind)) rfl) ?_
    rcases bool_or (a.Kind != b.Kind) with ah | ah
    ·have H := ite_t H ah
     refine L_pass (dj := 32) rfl rfl (.inl (by exact congrArg Value.bool ah)) ?_
     refine L_pass (dj := 32) rfl rfl (.inl (by exact congrArg Value.bool ah)) ?_
     refine L_pass (dj := 32) rfl rfl (.inl (by exact congrArg Value.bool ah)) ?_
     refine L_pass (dj := 32) rfl rfl (.inl (by exact congrArg Value.bool ah)) ?_
     refine L_pass (dj := 32) rfl rfl (.inl (by exact congrArg Value.bool ah)) ?_
     refine L_pu (P_pick true (vb true) (by exact congrArg Value.bool ah) rfl) ?_
     refine L_pu (P_assign (vb true) rfl) ?_
     refine L_nil ?_
     refine W_ct (b := true) rfl rfl ?_
     refine W_seq ?_
     refine W_reg ?_
     refine L_pu (P_lda ag68 sz68 cL ⟨aa, 0, none⟩ [vi a.Kind, .slice A6 n7 c8] rfl rfl (a0.cells (off := 0) rfl)) ?_
     have dp := (((ar.k0 ai).k0 al).k0 ao)
     refine L_stb an 0 [vi 0, .slice none 0 0] [vi a.Kind, .slice A6 n7 c8] [vi a.Kind, .slice A6 n7 c8] rfl dp rfl sz68 rfl rfl rfl fun e3 dq dr => ?_
     have b9 := ap.wr 0 rfl dq
     refine L_pu (P_assign (vb false) rfl) ?_
     refine L_nil ?_
     refine W_ret ?_
     have ds := b9.bgv dr 0 rfl
     have ca := b9.drop 0 rfl
     exact ⟨[.agg #[vi a.Kind, .slice A6 n7 c8], vb false], ⟨_, _, rfl, ds.1.res rfl ag68 sz68, ⟨_, rfl, rfl⟩⟩, a, false, A6, n7, c8, rfl, H, ca.gr.g0, (hp9.st ca.st)⟩
    ·have H := ite_f H ah
     refine L_run (dj := 32) rfl rfl (by exact congrArg Value.bool ah) ?_
     refine L_pu (P_fa fa68_0 ⟨aa, 0, none⟩ ⟨aa, 0, none⟩ rfl rfl) ?_
     refine L_run (dj := 32) rfl rfl (by exact congrArg Value.bool ah) ?_
     refine L_pu (P_ld ag3 cL ⟨aa, 0, none⟩ (vi a.Kind) rfl (a0.cell rfl)) ?_
     refine L_run (dj := 32) rfl rfl (by exact congrArg Value.bool ah) ?_
     refine L_pu (P_fa fa68_0 ⟨aq, 0, none⟩ ⟨aq, 0, none⟩ rfl rfl) ?_
     refine L_run (dj := 32) rfl rfl (by exact congrArg Value.bool ah) ?_
     have cb := ((b2.st bd).st bg)
     refine L_pu (P_ld ag3 cL ⟨aq, 0, none⟩ (vi o.Kind) rfl (cb.cell rfl)) ?_
     refine L_run (dj := 32) rfl rfl (by exact congrArg Value.bool ah) ?_
     refine L_pu (P_cmp a.Kind o.Kind (a.Kind != o.Kind) rfl rfl rfl) ?_
     refine L_pu (P_pick false (vb (a.Kind != o.Kind)) (by exact congrArg Value.bool ah) rfl) ?_
     refine L_pu (P_assign (vb (a.Kind != o.Kind)) rfl) ?_
     refine L_nil ?_
     refine W_cond (a.Kind != o.Kind) rfl (fun bh => ?_) (fun bh => ?_)
     ·have H := ite_t H bh
      refine W_seq ?_
      refine W_reg ?_
      refine L_pu (P_lda ag68 sz68 cL ⟨aa, 0, none⟩ [vi a.Kind, .slice A6 n7 c8] rfl rfl (a0.cells (off := 0) rfl)) ?_
      have dt := (((ar.k0 ai).k0 al).k0 ao)
      refine L_stb an 0 [vi 0, .slice none 0 0] [vi a.Kind, .slice A6 n7 c8] [vi a.Kind, .slice A6 n7 c8] rfl dt rfl sz68 rfl rfl rfl fun e4 du dv => ?_
      have cc := ap.wr 0 rfl du
      refine L_pu (P_assign (vb false) rfl) ?_
      refine L_nil ?_
      refine W_ret ?_
      have dw := cc.bgv dv 0 rfl
      have cd := cc.drop 0 rfl
      exact ⟨[.agg #[vi a.Kind, .slice A6 n7 c8], vb false], ⟨_, _, rfl, dw.1.res rfl ag68 sz68, ⟨_, rfl, rfl⟩⟩, a, false, A6, n7, c8, rfl, H, cd.gr.g0, (hp9.st cd.st)⟩
     ·have H := ite_f H bh
      refine W_skip ?_
      refine W_seq ?_
      refine W_reg ?_
      refine L_pu (P_fa fa68_1 ⟨aq, 0, none⟩ ⟨aq, 1, none⟩ rfl rfl) ?_
      refine L_pu (P_ld ag23 cL ⟨aq, 1, none⟩ (.slice A1 n2 c3) rfl (cb.cell rfl)) ?_
      refine L_pu (P_fa fa68_1 ⟨aa, 0, none⟩ ⟨aa, 1, none⟩ rfl rfl) ?_
      refine L_pu (P_ld ag23 cL ⟨aa, 1, none⟩ (.slice A6 n7 c8) rfl (a0.cell rfl)) ?_
      refine L_pu (P_fa fa68_1 ⟨am, 0, none⟩ ⟨am, 1, none⟩ rfl rfl) ?_
      refine L_pu (P_ld ag23 cL ⟨am, 1, none⟩ (.slice ab ac ad) rfl (b8.cell rfl)) ?_
      refine L_call go51 [.slice A1 n2 c3, .slice A6 n7 c8, .slice ab ac ad] rfl ((spec_l5Merge.calls dg ap.ok o.Pts A1 n2 c3 (hp4.st ap.st) a.Pts A6 n7 c8 (hp9.st ap.st) b.Pts ab ac ad (a5.st ap.st) _ H).mono ?_)
      rintro _ e5 ⟨r4, r5, ae, af, ag, rfl, H, a2, dx, ce, cf⟩
      have bi := ap.owns a2 dx ce
      refine L_pu (P_move (.tuple #[.slice ae af ag, vb r5]) rfl) ?_
      refine L_pu (P_ext [.slice ae af ag, vb r5] 0 (.slice ae af ag) rfl rfl) ?_
      refine L_pu (P_ext [.slice ae af ag, vb r5] 1 (vb r5) rfl rfl) ?_
      refine L_pu (P_assign (.slice ae af ag) rfl) ?_
      refine L_pu (P_assign (vb r5) rfl) ?_
      refine L_nil ?_
      refine W_seq ?_
      refine W_reg ?_
      refine L_pu (P_fa fa68_0 ⟨aa, 0, none⟩ ⟨aa, 0, none⟩ rfl rfl) ?_
      have dy := ap.stos a2 ce
      have bj := (a0.st dy)
      refine L_pu (P_ld ag3 cL ⟨aa, 0, none⟩ (vi a.Kind) rfl (bj.cell rfl)) ?_
      refine L_pu (P_move (.slice ae af ag) rfl) ?_
      refine L_pu (P_build (.agg #[vi a.Kind, .slice ae af ag]) (fun _ => by kernel_rfl)) ?_
      refine L_alloc [.int .i64 0, .slice none 0 0] ze68 fun e6 a8 a3 hu147 au dz => ?_
      have av := bi.own au (some a8) (oglt a3 hu147)
      refine L_stb a8 0 [vi 0, .slice none 0 0] [vi a.Kind, .slice ae af ag] [vi a.Kind, .slice ae af ag] rfl dz rfl sz68 rfl rfl rfl fun d0 aw cg => ?_
      have a4 := av.wr 0 rfl aw
      refine L_nil ?_
      refine W_seq ?_
      refine W_seq ?_
      refine W_reg ?_
      refine L_pu (P_move (vb r5) rfl) ?_
      refine L_pu (P_not r5 rfl) ?_
      refine L_pu (P_move (vb (!r5)) rfl) ?_
      rcases bool_or (!r5) with ak | ak
      ·have H := ite_t H ak
       refine L_pass (dj := 56) rfl rfl (.inl (by exact congrArg Value.bool ak)) ?_
       refine L_pass (dj := 56) rfl rfl (.inl (by exact congrArg Value.bool ak)) ?_
       refine L_pass (dj := 56) rfl rfl (.inl (by exact congrArg Value.bool ak)) ?_
       refine L_pu (P_pick true (vb true) (by exact congrArg Value.bool ak) rfl) ?_
       refine L_nil ?_
       refine W_ct (b := true) rfl rfl ?_
       refine W_seq ?_
       refine W_reg ?_
       have d1 := bi.stown _ au (oge a3)
       have d2 := av.stw 0 rfl aw
       have d3 := ((bj.st d1).st d2)
       refine L_pu (P_lda ag68 sz68 cL ⟨aa, 0, none⟩ [vi a.Kind, .slice A6 n7 c8] rfl rfl (d3.cells (off := 0) rfl)) ?_
       have d4 := (av.bm (((((ar.k0 ai).k0 al).k0 ao).k0 a2).k0 au) 2 0 rfl rfl rfl aw)
       refine L_stb an 0 [vi 0, .slice none 0 0] [vi a.Kind, .slice A6 n7 c8] [vi a.Kind, .slice A6 n7 c8] rfl d4 rfl sz68 rfl rfl rfl fun e7 d5 d6 => ?_
       have ch := a4.wr 2 rfl d5
       refine L_pu (P_assign (vb false) rfl) ?_
       refine L_nil ?_
       refine W_ret ?_
       have d7 := ch.bgv d6 2 rfl
       have d8 := ch.drop 2 rfl
       have ci := d8.clear
       have d9 := (d7.st St.clear)
       exact ⟨[.agg #[vi a.Kind, .slice A6 n7 c8], vb false], ⟨_, _, rfl, d9.1.res rfl ag68 sz68, ⟨_, rfl, rfl⟩⟩, a, false, A6, n7, c8, rfl, H, ci.gr.g0, (hp9.st ci.st)⟩
      ·have H := ite_f H ak
       refine L_run (dj := 56) rfl rfl (by exact congrArg Value.bool ak) ?_
       refine L_pu (P_lda ag68 sz68 cL ⟨a8, 0, none⟩ [vi a.Kind, .slice ae af ag] rfl rfl (cg.cells (off := 0) rfl)) ?_
       refine L_run (dj := 56) rfl rfl (by exact congrArg Value.bool ak) ?_
       have ea := (av.sw (cf.so _ au (oge a3)) 1 0 rfl rfl rfl aw)
       have eb := a4.gv ea 1 rfl
       have ec := a4.drop 1 rfl
       refine L_call go134 [.agg #[vi a.Kind, .slice ae af ag]] rfl ((spec_ShapeOk.calls d0 ec.ok (⟨a.Kind, r4⟩ : Shape) ae af ag eb _ H).mono ?_)
       rintro _ e8 ⟨r6, rfl, H, a1⟩
       have bl := a4.k0 a1
       refine L_run (dj := 56) rfl rfl (by exact congrArg Value.bool ak) ?_
       refine L_pu (P_not r6 rfl) ?_
       refine L_pu (P_pick false (vb (!r6)) (by exact congrArg Value.bool ak) rfl) ?_
       refine L_nil ?_
       refine W_cond (!r6) rfl (fun bn => ?_) (fun bn => ?_)
       ·have H := ite_t H bn
        refine W_seq ?_
        refine W_reg ?_
        have ed := bi.stown _ au (oge a3)
        have ee := av.stw 0 rfl aw
        have ef := a4.stn a1
        have eg := (((bj.st ed).st ee).st ef)
        refine L_pu (P_lda ag68 sz68 cL ⟨aa, 0, none⟩ [vi a.Kind, .slice A6 n7 c8] rfl rfl (eg.cells (off := 0) rfl)) ?_
        have eh := ((av.bm (((((ar.k0 ai).k0 al).k0 ao).k0 a2).k0 au) 2 0 rfl rfl rfl aw).k0 a1)
        refine L_stb an 0 [vi 0, .slice none 0 0] [vi a.Kind, .slice A6 n7 c8] [vi a.Kind, .slice A6 n7 c8] rfl eh rfl sz68 rfl rfl rfl fun e9 ei ej => ?_
        have cj := bl.wr 2 rfl ei
        refine L_pu (P_assign (vb false) rfl) ?_
        refine L_nil ?_
        refine W_ret ?_
        have ek := cj.bgv ej 2 rfl
        have el := cj.drop 2 rfl
        have ck := el.clear
        have em := (ek.st St.clear)
        exact ⟨[.agg #[vi a.Kind, .slice A6 n7 c8], vb false], ⟨_, _, rfl, em.1.res rfl ag68 sz68, ⟨_, rfl, rfl⟩⟩, a, false, A6, n7, c8, rfl, H, ck.gr.g0, (hp9.st ck.st)⟩
       ·have H := ite_f H bn
        refine W_skip ?_
        refine W_seq ?_
        refine W_reg ?_
        have en := (cg.k0 a1)
        refine L_pu (P_lda ag68 sz68 cL ⟨a8, 0, none⟩ [vi a.Kind, .slice ae af ag] rfl rfl (en.cells (off := 0) rfl)) ?_
        have eo := ((av.bm (((((ar.k0 ai).k0 al).k0 ao).k0 a2).k0 au) 2 0 rfl rfl rfl aw).k0 a1)
        refine L_stb an 0 [vi 0, .slice none 0 0] [vi a.Kind, .slice ae af ag] [vi a.Kind, .slice ae af ag] rfl eo rfl sz68 rfl rfl rfl fun ep cl eq => ?_
        have bo := bl.wr 2 rfl cl
        refine L_pu (P_assign (vb true) rfl) ?_
        refine L_nil ?_
        refine W_ret ?_
        have er := bo.bgv eq 2 rfl
        have bp := bo.drop 2 rfl
        have es := (bo.sd (bl.sw ((av.sw (cf.so _ au (oge a3)) 1 0 rfl rfl rfl aw).sn a1) 1 2 rfl rfl rfl cl) 1 2 rfl rfl rfl)
        have et := bp.gv es 1 rfl
        have cm := bp.drop 1 rfl
        have eu : Ct [] w0 ep [] O := cm.drop 0 rfl
        have ev := bp.std 1 rfl
        have cn := cm.std 0 rfl
        have ew := ((er.st ev).st cn)
        exact ⟨[.agg #[vi a.Kind, .slice ae af ag], vb true], ⟨_, _, rfl, ew.1.res rfl ag68 sz68, ⟨_, rfl, rfl⟩⟩, (⟨a.Kind, r4⟩ : Shape), true, ae, af, ag, rfl, H, eu.gr.g0, (et.st cn)⟩
end Go.Proofs.Ytndjggncgpjolaa

namespace Go.Proofs.Ytndjggncgpjolaa
open Go.RowKit
set_option linter.unusedVariables false
set_option linter.unusedSimpArgs false
def spec_l1Copy.E (s : Shape) (Q : Shape → Prop) : Prop :=
 (([] : List Pt).length + s.Pts.length ≤ 268435456) ∧ Q (⟨s.Kind, (([] : List Pt) ++ s.Pts)⟩ : Shape)
set_option maxHeartbeats 8000000 in
set_option maxRecDepth 100000 in
theorem spec_l1Copy.calls {O : Ob} (w0 : World) (hO : Ok w0 O) (s : Shape) (A1 : Option Addr) (n2 c3 : Nat) (hp4 : Sl kPt w0 (Fr O) (.slice A1 n2 c3) s.Pts) (Q : Shape → Prop) (h : spec_l1Copy.E s Q) :
  Ret Try.prog 125 [.agg #[vi s.Kind, .slice A1 n2 c3]] w0 (fun v w' => ∃ (r0 : Shape) (A0 : Option Addr) (n0 c0 : Nat), v = .agg #[vi r0.Kind, .slice A0 n0 c0] ∧ Q r0 ∧ Gr w0 w' none ∧ Ok w' ([bk A0] ++ O) ∧ (∀ b, some b ∈ [bk A0] → w0.heap.size ≤ b) ∧ Ow kPt 29 w' ([bk A0] ++ O) (.slice A0 n0 c0) r0.Pts) := by
 unfold spec_l1Copy.E at h
 have H := h
 clear h
 have hc0 := Ct.init hO
 refine Ret_enter Try.func125 rfl 10 rfl [.cell 2 68] rfl rfl ?_
 refine W_seq ?_
 refine W_reg ?_
 refine L_box [vi s.Kind, .slice A1 n2 c3] rfl fun w6 b7 hl9 hu10 g8 ay => ?_
 have az := Fb.mk hc0.ok hl9 ay
 have ap := hc0.k0 g8
 refine L_alloc [.int .i64 0, .slice none 0 0] ze68 fun be ae aq hu19 ar a0 => ?_
 have au := ap.own ar (some ae) (oglt aq hu19)
 refine L_nil ?_
 refine W_seq ?_
 refine W_mixr 8 [some ae] (by kernel_rfl) rfl fun bf ag aa => ?_
 have ah := au.k0 ag
 refine M_pu 0 rfl (by kernel_rfl) aa (P_fa fa68_0 ⟨b7, 0, none⟩ ⟨b7, 0, none⟩ rfl rfl) ?_
 have a1 := ap.stown _ ar (oge aq)
 have a2 := au.stn ag
 have af := ((az.st a1).st a2)
 refine M_pu 1 rfl (by kernel_rfl) aa (P_ldr ag3 cR ⟨b7, 0, none⟩ (vi s.Kind) rfl (af.cell rfl) (nm_cons (ah.fne 0 af.2 rfl) nm_nil)) ?_
 refine M_pu 3 rfl (by kernel_rfl) aa (P_fa fa68_1 ⟨b7, 0, none⟩ ⟨b7, 1, none⟩ rfl rfl) ?_
 refine M_pu 4 rfl (by kernel_rfl) aa (P_ldr ag23 cR ⟨b7, 1, none⟩ (.slice A1 n2 c3) rfl (af.cell rfl) (nm_cons (ah.fne 0 af.2 rfl) nm_nil)) ?_
 refine M_any1 2 (by kernel_rfl) rfl ?_
 refine L_lit (kd := kPt) ei23 ah ([] : List Pt) (cells := []) rfl (fun _ => by kernel_rfl) fun bg av a3 a4 aw hr35 ai a5 => ?_
 have aj := Gm.tm aa aw
 refine L_nil ⟨aj, ?_⟩
 refine M_any1 5 (by kernel_rfl) rfl ?_
 obtain ⟨a6, H⟩ := H
 refine L_app ei23 ai (.slice av a3 a4) ([] : List Pt) s.Pts rfl a5 (.slice A1 n2 c3) rfl (hp4.st ai.st).sx 0 rfl a6 fun bh ab ac ad ax a7 ak a8 => ?_
 have al := Gm.tq aj ax (hv_new aa hr35)
 have bi := hv_app (L := [bk av, some ae]) (O := O) (i := 0) aj rfl (hv_new aa hr35) a7 ak
 refine L_nil ⟨al, ?_⟩
 refine M_pu 6 rfl (by kernel_rfl) al (P_build (.agg #[vi s.Kind, .slice ab ac ad]) (fun _ => by kernel_rfl)) ?_
 refine M_any1 7 (by kernel_rfl) rfl ?_
 have a9 := (ai.bm ((a0.k0 ag).k0 aw) 1 0 rfl rfl rfl ax)
 refine L_stb ae 0 [vi 0, .slice none 0 0] [vi s.Kind, .slice ab ac ad] [vi s.Kind, .slice ab ac ad] rfl a9 rfl sz68 rfl rfl rfl fun bj am ba => ?_
 have an := ak.wr 1 rfl am
 have bb := Gm.tq al am (hv_mem 0 rfl)
 refine L_nil ⟨bb, ?_⟩
 refine M_nil (by kernel_rfl) ?_
 refine W_ret ?_
 have bc := an.bgv ba 1 rfl
 have ao := an.drop 1 rfl
 have bd := (an.sd (ak.sw a8 0 1 rfl rfl rfl am) 0 1 rfl rfl rfl)
 exact ⟨[.agg #[vi s.Kind, .slice ab ac ad]], ⟨_, _, rfl, bc.1.res rfl ag68 sz68, rfl⟩, (⟨s.Kind, (([] : List Pt) ++ s.Pts)⟩ : Shape), ab, ac, ad, rfl, H, ao.gr.g0, ao.ok, ao.ge, bd⟩
end Go.Proofs.Ytndjggncgpjolaa

namespace Go.Proofs.Ytndjggncgpjolaa
open Go.RowKit
set_option linter.unusedVariables false
set_option linter.unusedSimpArgs false
def spec_l2Put.E (t_ : List Tag) (key : Str) (val : Str) (Q : List Tag → Prop) : Prop :=
 (∃ (I41 : (List Tag) → Bool → Int → Prop) (mu42 : (List Tag) → Bool → Int → Nat), I41 ([] : List Tag) false 0 ∧ ∀ (xs2 : List Tag) (done2 : Bool) (i2 : Int), I41 xs2 done2 i2 → (if decide (i2 < (t_.length : Int)) then (if !done2 then ((0 : Int) ≤ i2 ∧ i2 < (t_.length : Int)) ∧ (if !(Op.bytesLess ((nth t_ i2).Key) key) then (xs2.length + ([(⟨key, val⟩ : Tag)] : List Tag).length ≤ 268435456) ∧ ((0 : Int) ≤ i2 ∧ i2 < (t_.length : Int)) ∧ (if ((nth t_ i2).Key) != key then ((0 : Int) ≤ i2 ∧ i2 < (t_.length : Int)) ∧ ((xs2 ++ ([(⟨key, val⟩ : Tag)] : List Tag)).length + ([(nth t_ i2)] : List Tag).length ≤ 268435456) ∧ (-9223372036854775808 ≤ i2) ∧ I41 ((xs2 ++ ([(⟨key, val⟩ : Tag)] : List Tag)) ++ ([(nth t_ i2)] : List Tag)) true (i2 + 1) ∧ mu42 ((xs2 ++ ([(⟨key, val⟩ : Tag)] : List Tag)) ++ ([(nth t_ i2)] : List Tag)) true (i2 + 1) < mu42 xs2 done2 i2 else (-9223372036854775808 ≤ i2) ∧ I41 (xs2 ++ ([(⟨key, val⟩ : Tag)] : List Tag)) true (i2 + 1) ∧ mu42 (xs2 ++ ([(⟨key, val⟩ : Tag)] : List Tag)) true (i2 + 1) < mu42 xs2 done2 i2) else ((0 : Int) ≤ i2 ∧ i2 < (t_.length : Int)) ∧ (if ((nth t_ i2).Key) != key then ((0 : Int) ≤ i2 ∧ i2 < (t_.length : Int)) ∧ (xs2.length + ([(nth t_ i2)] : List Tag).length ≤ 268435456) ∧ (-9223372036854775808 ≤ i2) ∧ I41 (xs2 ++ ([(nth t_ i2)] : List Tag)) done2 (i2 + 1) ∧ mu42 (xs2 ++ ([(nth t_ i2)] : List Tag)) done2 (i2 + 1) < mu42 xs2 done2 i2 else (-9223372036854775808 ≤ i2) ∧ I41 xs2 done2 (i2 + 1) ∧ mu42 xs2 done2 (i2 + 1) < mu42 xs2 done2 i2)) else ((0 : Int) ≤ i2 ∧ i2 < (t_.length : Int)) ∧ (if ((nth t_ i2).Key) != key then ((0 : Int) ≤ i2 ∧ i2 < (t_.length : Int)) ∧ (xs2.length + ([(nth t_ i2)] : List Tag).length ≤ 268435456) ∧ (-9223372036854775808 ≤ i2) ∧ I41 (xs2 ++ ([(nth t_ i2)] : List Tag)) done2 (i2 + 1) ∧ mu42 (xs2 ++ ([(nth t_ i2)] : List Tag)) done2 (i2 + 1) < mu42 xs2 done2 i2 else (-9223372036854775808 ≤ i2) ∧ I41 xs2 done2 (i2 + 1) ∧ mu42 xs2 done2 (i2 + 1) < mu42 xs2 done2 i2)) else (if !done2 then (xs2.length + ([(⟨key, val⟩ : Tag)] : List Tag).length ≤ 268435456) ∧ Q (xs2 ++ ([(⟨key, val⟩ : Tag)] : List Tag)) else Q xs2)))
set_option maxHeartbeats 8000000 in
set_option maxRecDepth 100000 in
theorem spec_l2Put.calls {O : Ob} (w0 : World) (hO : Ok w0 O) (t_ : List Tag) (A1 : Option Addr) (n2 c3 : Nat) (hp4 : Sl kTag w0 (Fr O) (.slice A1 n2 c3) t_) (key : Str) (hs6 : Lim key) (val : Str) (hs7 : Lim val) (Q : List Tag → Prop) (h : spec_l2Put.E t_ key val Q) :
  Ret Try.prog 166 [.slice A1 n2 c3, vs key, vs val] w0 (fun v w' => ∃ (r0 : List Tag) (A0 : Option Addr) (n0 c0 : Nat), v = .slice A0 n0 c0 ∧ Q r0 ∧ Gr w0 w' none ∧ Ok w' ([bk A0] ++ O) ∧ (∀ b, some b ∈ [bk A0] → w0.heap.size ≤ b) ∧ Ow kTag 133 w' ([bk A0] ++ O) (.slice A0 n0 c0) r0) := by
 unfold spec_l2Put.E at h
 have H := h
 clear h
 have hc0 := Ct.init hO
 refine Ret_enter Try.func166 rfl 57 rfl [.tmp 6] rfl rfl ?_
 refine W_seq ?_
 refine W_reg ?_
 refine L_pu (P_assign (.slice none 0 0) rfl) ?_
 refine L_nil ?_
 refine W_seq ?_
 refine W_reg ?_
 refine L_lit (kd := kTag) ei69 hc0 ([] : List Tag) (cells := []) rfl (fun _ => by kernel_rfl) fun w8 A9 a9 ba fj hr13 bb b3 => ?_
 refine L_pu (P_assign (.slice A9 a9 ba) rfl) ?_
 refine L_nil ?_
 refine W_seq ?_
 refine W_reg ?_
 refine L_pu (P_assign (vb false) rfl) ?_
 refine L_nil ?_
 refine W_seq ?_
 refine W_seq ?_
 refine W_reg ?_
 refine L_pu (P_assign (vi 0) rfl) ?_
 refine L_nil ?_
 refine W_block ?_
 obtain ⟨b4, b5, ay, H⟩ := H
 refine W_loop (α := (List Tag) × (Option Addr) × Nat × Nat × Bool × Int) (fun (sv__ : (List Tag) × (Option Addr) × Nat × Nat × Bool × Int) t ao => match sv__ with | (xs2, aa, ac, ad, done2, i2) => b4 xs2 done2 i2 ∧ Has t [(0, .slice A1 n2 c3), (1, vs key), (2, vs val), (7, .slice aa ac ad), (8, vb done2), (9, vi i2)] ∧ Ct [] w0 ao [bk aa] O ∧ Sl kTag ao (Fr ([bk aa] ++ O)) (.slice A1 n2 c3) t_ ∧ Ow kTag 133 ao ([bk aa] ++ O) (.slice aa ac ad) xs2) (fun (sv__ : (List Tag) × (Option Addr) × Nat × Nat × Bool × Int) => match sv__ with | (xs2, _, _, _, done2, i2) => b5 xs2 done2 i2) (([] : List Tag), A9, a9, ba, false, 0) ⟨ay, ⟨rfl, rfl, rfl, rfl, rfl, rfl, trivial⟩, bb, (hp4.st bb.st), b3⟩ ?_
 rintro ⟨xs2, aa, ac, ad, done2, i2⟩ _ ao ⟨ay, b6, af, ae, ah⟩
 obtain ⟨fk, rfl⟩ := Has.ins b6
 have H := H xs2 done2 i2 ay
 refine W_seq ?_
 refine W_seq ?_
 refine W_reg ?_
 refine L_pu (P_move (vi i2) rfl) ?_
 refine L_pu (P_move (.slice A1 n2 c3) rfl) ?_
 have ai := ae.le
 refine L_pu (P_len Try.underlying69 A1 n2 c3 ae.len rfl) ?_
 refine L_pu (P_cmp i2 (t_.length : Int) (decide (i2 < (t_.length : Int))) rfl rfl rfl) ?_
 refine L_nil ?_
 refine W_cond (decide (i2 < (t_.length : Int))) rfl (fun ag => ?_) (fun ag => ?_)
 ·have H := ite_t H ag
  refine W_skip ?_
  refine W_seq ?_
  refine W_block ?_
  refine W_seq ?_
  refine W_seq ?_
  refine W_reg ?_
  refine L_pu (P_move (vb done2) rfl) ?_
  refine L_pu (P_not done2 rfl) ?_
  refine L_pu (P_move (vb (!done2)) rfl) ?_
  rcases bool_or (!done2) with ab | ab
  ·have H := ite_t H ab
   refine L_run (dj := 19) rfl rfl (by exact congrArg Value.bool ab) ?_
   refine L_pu (P_move (.slice A1 n2 c3) rfl) ?_
   refine L_run (dj := 19) rfl rfl (by exact congrArg Value.bool ab) ?_
   refine L_pu (P_move (vi i2) rfl) ?_
   refine L_run (dj := 19) rfl rfl (by exact congrArg Value.bool ab) ?_
   obtain ⟨bc, H⟩ := H
   obtain ⟨ap, fl, b7, fm, b8, b9⟩ := ae.get default (by decide) i2 bc
   obtain ⟨rfl, fn, fo⟩ := kTag.op b8
   refine L_pu (P_ia Try.underlying69 se69 A1 ap n2 c3 ae.len i2 rfl b7 rfl bc) ?_
   refine L_run (dj := 19) rfl rfl (by exact congrArg Value.bool ab) ?_
   refine L_pu (P_fa fa133_0 (ap.add (i2.toNat * 2)) ((ap.add (i2.toNat * 2)).add 0) rfl rfl) ?_
   refine L_run (dj := 19) rfl rfl (by exact congrArg Value.bool ab) ?_
   refine L_pu (P_ld ag9 cL ((ap.add (i2.toNat * 2)).add 0) (vs ((nth t_ i2).Key)) rfl (b9 0 _ rfl)) ?_
   refine L_run (dj := 19) rfl rfl (by exact congrArg Value.bool ab) ?_
   refine L_pu (P_move (vs key) rfl) ?_
   refine L_run (dj := 19) rfl rfl (by exact congrArg Value.bool ab) ?_
   refine L_pu (P_scmp ((nth t_ i2).Key) key (!(Op.bytesLess ((nth t_ i2).Key) key)) rfl rfl rfl) ?_
   refine L_pu (P_pick true (vb (!(Op.bytesLess ((nth t_ i2).Key) key))) (by exact congrArg Value.bool ab) rfl) ?_
   refine L_nil ?_
   refine W_cond (!(Op.bytesLess ((nth t_ i2).Key) key)) rfl (fun az => ?_) (fun az => ?_)
   ·have H := ite_t H az
    refine W_seq ?_
    refine W_reg ?_
    refine L_pu (P_move (.slice aa ac ad) rfl) ?_
    refine L_pu (P_move (vs key) rfl) ?_
    refine L_pu (P_move (vs val) rfl) ?_
    refine L_pu (P_build (.agg #[vs key, vs val]) (fun _ => by kernel_rfl)) ?_
    refine L_lit (kd := kTag) ei69 af ([(⟨key, val⟩ : Tag)] : List Tag) (cells := [vs key, vs val]) ⟨[vs key, vs val], _, rfl, (kTag.mk _ _ (⟨key, val⟩ : Tag) hs6 hs7), rfl⟩ (fun _ => by kernel_rfl) fun fp ca cb cc bd hr65 cd ce => ?_
    obtain ⟨cf, H⟩ := H
    have cg := (ah.so _ bd hr65)
    refine L_app ei69 cd (.slice aa ac ad) xs2 ([(⟨key, val⟩ : Tag)] : List Tag) rfl cg (.slice ca cb cc) rfl ce.sx 1 rfl cf fun fq aq ar au fr ch ak be => ?_
    refine L_pu (P_assign (.slice aq ar au) rfl) ?_
    refine L_nil ?_
    refine W_reg ?_
    refine L_pu (P_assign (vb true) rfl) ?_
    refine L_nil ?_
    refine W_seq ?_
    refine W_reg ?_
    refine L_pu (P_move (.slice A1 n2 c3) rfl) ?_
    refine L_pu (P_move (vi i2) rfl) ?_
    obtain ⟨bf, H⟩ := H
    have ci := af.stown _ bd hr65
    have aj := ((ae.st ci).st ch)
    obtain ⟨av, fs, cj, ft, ck, cl⟩ := aj.get default (by decide) i2 bf
    obtain ⟨rfl, fu, fv⟩ := kTag.op ck
    refine L_pu (P_ia Try.underlying69 se69 A1 av n2 c3 aj.len i2 rfl cj rfl bf) ?_
    refine L_pu (P_fa fa133_0 (av.add (i2.toNat * 2)) ((av.add (i2.toNat * 2)).add 0) rfl rfl) ?_
    refine L_pu (P_ld ag9 cL ((av.add (i2.toNat * 2)).add 0) (vs ((nth t_ i2).Key)) rfl (cl 0 _ rfl)) ?_
    refine L_pu (P_move (vs key) rfl) ?_
    refine L_pu (P_scmp ((nth t_ i2).Key) key (((nth t_ i2).Key) != key) rfl rfl rfl) ?_
    refine L_nil ?_
    refine W_cond (((nth t_ i2).Key) != key) rfl (fun a0 => ?_) (fun a0 => ?_)
    ·have H := ite_t H a0
     refine W_reg ?_
     refine L_pu (P_move (.slice aq ar au) rfl) ?_
     refine L_pu (P_move (.slice A1 n2 c3) rfl) ?_
     refine L_pu (P_move (vi i2) rfl) ?_
     obtain ⟨bg, H⟩ := H
     obtain ⟨bh, fw, cm, fx, cn, co⟩ := aj.get default (by decide) i2 bg
     obtain ⟨rfl, cp, cq⟩ := kTag.op cn
     refine L_pu (P_ia Try.underlying69 se69 A1 bh n2 c3 aj.len i2 rfl cm rfl bg) ?_
     refine L_pu (P_lda ag133 sz133 cL (bh.add (i2.toNat * 2)) [vs ((nth t_ i2).Key), vs ((nth t_ i2).Val)] rfl rfl co) ?_
     refine L_lit (kd := kTag) ei69 ak ([(nth t_ i2)] : List Tag) (cells := [vs ((nth t_ i2).Key), vs ((nth t_ i2).Val)]) ⟨[vs ((nth t_ i2).Key), vs ((nth t_ i2).Val)], _, rfl, (kTag.mk _ _ (nth t_ i2) cp cq), rfl⟩ (fun _ => by kernel_rfl) fun fy cr cs ct bi hr106 cu cv => ?_
     obtain ⟨cw, H⟩ := H
     have cx := (be.so _ bi hr106)
     refine L_app ei69 cu (.slice aq ar au) (xs2 ++ ([(⟨key, val⟩ : Tag)] : List Tag)) ([(nth t_ i2)] : List Tag) rfl cx (.slice cr cs ct) rfl cv.sx 2 rfl cw fun fz bj bl bm f0 cy a1 cz => ?_
     refine L_pu (P_assign (.slice bj bl bm) rfl) ?_
     refine L_nil ?_
     refine W_reg ?_
     refine L_pu (P_move (vi i2) rfl) ?_
     obtain ⟨c1, H⟩ := H
     have c2 : I64 (i2 + 1) := i64_succ (of_decide_eq_true ag) ai c1
     refine L_pu (P_add i2 1 rfl rfl c2) ?_
     refine L_pu (P_assign (vi (i2 + 1)) rfl) ?_
     refine L_nil ?_
     have a2 := a1.drop 0 rfl
     have c4 := a2.drop 0 rfl
     obtain ⟨c5, c6⟩ := H
     have c7 := ak.stown _ bi hr106
     have c8 := a1.std 0 rfl
     have c9 := a2.std 0 rfl
     have da := ((((aj.st c7).st cy).st c8).st c9)
     have db := (a2.sd (a1.sd cz 2 0 rfl rfl rfl) 1 0 rfl rfl rfl)
     exact ⟨(((xs2 ++ ([(⟨key, val⟩ : Tag)] : List Tag)) ++ ([(nth t_ i2)] : List Tag)), bj, bl, bm, true, i2 + 1), c6, c5, ⟨rfl, rfl, rfl, rfl, rfl, rfl, trivial⟩, c4, da, db⟩
    ·have H := ite_f H a0
     refine W_skip ?_
     refine W_reg ?_
     refine L_pu (P_move (vi i2) rfl) ?_
     obtain ⟨dc, H⟩ := H
     have dd : I64 (i2 + 1) := i64_succ (of_decide_eq_true ag) ai dc
     refine L_pu (P_add i2 1 rfl rfl dd) ?_
     refine L_pu (P_assign (vi (i2 + 1)) rfl) ?_
     refine L_nil ?_
     have de := ak.drop 0 rfl
     obtain ⟨df, dg⟩ := H
     have dh := ak.std 0 rfl
     have di := (ak.sd be 1 0 rfl rfl rfl)
     exact ⟨((xs2 ++ ([(⟨key, val⟩ : Tag)] : List Tag)), aq, ar, au, true, i2 + 1), dg, df, ⟨rfl, rfl, rfl, rfl, rfl, rfl, trivial⟩, de, (aj.st dh), di⟩
   ·have H := ite_f H az
    refine W_skip ?_
    refine W_seq ?_
    refine W_reg ?_
    refine L_pu (P_move (.slice A1 n2 c3) rfl) ?_
    refine L_pu (P_move (vi i2) rfl) ?_
    obtain ⟨bn, H⟩ := H
    obtain ⟨aw, f1, dk, f2, dl, dm⟩ := ae.get default (by decide) i2 bn
    obtain ⟨rfl, f3, f4⟩ := kTag.op dl
    refine L_pu (P_ia Try.underlying69 se69 A1 aw n2 c3 ae.len i2 rfl dk rfl bn) ?_
    refine L_pu (P_fa fa133_0 (aw.add (i2.toNat * 2)) ((aw.add (i2.toNat * 2)).add 0) rfl rfl) ?_
    refine L_pu (P_ld ag9 cL ((aw.add (i2.toNat * 2)).add 0) (vs ((nth t_ i2).Key)) rfl (dm 0 _ rfl)) ?_
    refine L_pu (P_move (vs key) rfl) ?_
    refine L_pu (P_scmp ((nth t_ i2).Key) key (((nth t_ i2).Key) != key) rfl rfl rfl) ?_
    refine L_nil ?_
    refine W_cond (((nth t_ i2).Key) != key) rfl (fun a3 => ?_) (fun a3 => ?_)
    ·have H := ite_t H a3
     refine W_reg ?_
     refine L_pu (P_move (.slice aa ac ad) rfl) ?_
     refine L_pu (P_move (.slice A1 n2 c3) rfl) ?_
     refine L_pu (P_move (vi i2) rfl) ?_
     obtain ⟨bo, H⟩ := H
     obtain ⟨bp, f5, dn, f6, dp, dq⟩ := ae.get default (by decide) i2 bo
     obtain ⟨rfl, dr, ds⟩ := kTag.op dp
     refine L_pu (P_ia Try.underlying69 se69 A1 bp n2 c3 ae.len i2 rfl dn rfl bo) ?_
     refine L_pu (P_lda ag133 sz133 cL (bp.add (i2.toNat * 2)) [vs ((nth t_ i2).Key), vs ((nth t_ i2).Val)] rfl rfl dq) ?_
     refine L_lit (kd := kTag) ei69 af ([(nth t_ i2)] : List Tag) (cells := [vs ((nth t_ i2).Key), vs ((nth t_ i2).Val)]) ⟨[vs ((nth t_ i2).Key), vs ((nth t_ i2).Val)], _, rfl, (kTag.mk _ _ (nth t_ i2) dr ds), rfl⟩ (fun _ => by kernel_rfl) fun f7 dt du dv bq hr163 dw dx => ?_
     obtain ⟨dy, H⟩ := H
     have dz := (ah.so _ bq hr163)
     refine L_app ei69 dw (.slice aa ac ad) xs2 ([(nth t_ i2)] : List Tag) rfl dz (.slice dt du dv) rfl dx.sx 1 rfl dy fun f8 br bs bt f9 d0 a4 d1 => ?_
     refine L_pu (P_assign (.slice br bs bt) rfl) ?_
     refine L_nil ?_
     refine W_reg ?_
     refine L_pu (P_move (vi i2) rfl) ?_
     obtain ⟨d2, H⟩ := H
     have d3 : I64 (i2 + 1) := i64_succ (of_decide_eq_true ag) ai d2
     refine L_pu (P_add i2 1 rfl rfl d3) ?_
     refine L_pu (P_assign (vi (i2 + 1)) rfl) ?_
     refine L_nil ?_
     have d4 := a4.drop 0 rfl
     obtain ⟨d5, d6⟩ := H
     have d7 := af.stown _ bq hr163
     have d8 := a4.std 0 rfl
     have d9 := (((ae.st d7).st d0).st d8)
     have ea := (a4.sd d1 1 0 rfl rfl rfl)
     exact ⟨((xs2 ++ ([(nth t_ i2)] : List Tag)), br, bs, bt, done2, i2 + 1), d6, d5, ⟨rfl, rfl, rfl, rfl, rfl, rfl, trivial⟩, d4, d9, ea⟩
    ·have H := ite_f H a3
     refine W_skip ?_
     refine W_reg ?_
     refine L_pu (P_move (vi i2) rfl) ?_
     obtain ⟨eb, H⟩ := H
     have ec : I64 (i2 + 1) := i64_succ (of_decide_eq_true ag) ai eb
     refine L_pu (P_add i2 1 rfl rfl ec) ?_
     refine L_pu (P_assign (vi (i2 + 1)) rfl) ?_
     refine L_nil ?_
     obtain ⟨ed, ee⟩ := H
     exact ⟨(xs2, aa, ac, ad, done2, i2 + 1), ee, ed, ⟨rfl, rfl, rfl, rfl, rfl, rfl, trivial⟩, af, ae, ah⟩
  ·have H := ite_f H ab
   refine L_pass (dj := 19) rfl rfl (.inl (by exact congrArg Value.bool ab)) ?_
   refine L_pass (dj := 19) rfl rfl (.inl (by exact congrArg Value.bool ab)) ?_
   refine L_pass (dj := 19) rfl rfl (.inl (by exact congrArg Value.bool ab)) ?_
   refine L_pass (dj := 19) rfl rfl (.inl (by exact congrArg Value.bool ab)) ?_
   refine L_pass (dj := 19) rfl rfl (.inl (by exact congrArg Value.bool ab)) ?_
   refine L_pass (dj := 19) rfl rfl (.inl (by exact congrArg Value.bool ab)) ?_
   refine L_pass (dj := 19) rfl rfl (.inl (by exact congrArg Value.bool ab)) ?_
   refine L_pu (P_pick false (vb false) (by exact congrArg Value.bool ab) rfl) ?_
   refine L_nil ?_
   refine W_cf (b := false) rfl rfl ?_
   refine W_skip ?_
   refine W_seq ?_
   refine W_reg ?_
   refine L_pu (P_move (.slice A1 n2 c3) rfl) ?_
   refine L_pu (P_move (vi i2) rfl) ?_
   obtain ⟨bu, H⟩ := H
   obtain ⟨ax, ga, ef, gb, eg, eh⟩ := ae.get default (by decide) i2 bu
   obtain ⟨rfl, gc, gd⟩ := kTag.op eg
   refine L_pu (P_ia Try.underlying69 se69 A1 ax n2 c3 ae.len i2 rfl ef rfl bu) ?_
   refine L_pu (P_fa fa133_0 (ax.add (i2.toNat * 2)) ((ax.add (i2.toNat * 2)).add 0) rfl rfl) ?_
   refine L_pu (P_ld ag9 cL ((ax.add (i2.toNat * 2)).add 0) (vs ((nth t_ i2).Key)) rfl (eh 0 _ rfl)) ?_
   refine L_pu (P_move (vs key) rfl) ?_
   refine L_pu (P_scmp ((nth t_ i2).Key) key (((nth t_ i2).Key) != key) rfl rfl rfl) ?_
   refine L_nil ?_
   refine W_cond (((nth t_ i2).Key) != key) rfl (fun a5 => ?_) (fun a5 => ?_)
   ·have H := ite_t H a5
    refine W_reg ?_
    refine L_pu (P_move (.slice aa ac ad) rfl) ?_
    refine L_pu (P_move (.slice A1 n2 c3) rfl) ?_
    refine L_pu (P_move (vi i2) rfl) ?_
    obtain ⟨bv, H⟩ := H
    obtain ⟨bw, gf, ei, gg, ej, ek⟩ := ae.get default (by decide) i2 bv
    obtain ⟨rfl, el, em⟩ := kTag.op ej
    refine L_pu (P_ia Try.underlying69 se69 A1 bw n2 c3 ae.len i2 rfl ei rfl bv) ?_
    refine L_pu (P_lda ag133 sz133 cL (bw.add (i2.toNat * 2)) [vs ((nth t_ i2).Key), vs ((nth t_ i2).Val)] rfl rfl ek) ?_
    refine L_lit (kd := kTag) ei69 af ([(nth t_ i2)] : List Tag) (cells := [vs ((nth t_ i2).Key), vs ((nth t_ i2).Val)]) ⟨[vs ((nth t_ i2).Key), vs ((nth t_ i2).Val)], _, rfl, (kTag.mk _ _ (nth t_ i2) el em), rfl⟩ (fun _ => by kernel_rfl) fun gh en eo ep bx hr215 eq er => ?_
    obtain ⟨es, H⟩ := H
    have et := (ah.so _ bx hr215)
    refine L_app ei69 eq (.slice aa ac ad) xs2 ([(nth t_ i2)] : List Tag) rfl et (.slice en eo ep) rfl er.sx 1 rfl es fun gi bz b0 b1 gj eu a6 ev => ?_
    refine L_pu (P_assign (.slice bz b0 b1) rfl) ?_
    refine L_nil ?_
    refine W_reg ?_
    refine L_pu (P_move (vi i2) rfl) ?_
    obtain ⟨ew, H⟩ := H
    have ex : I64 (i2 + 1) := i64_succ (of_decide_eq_true ag) ai ew
    refine L_pu (P_add i2 1 rfl rfl ex) ?_
    refine L_pu (P_assign (vi (i2 + 1)) rfl) ?_
    refine L_nil ?_
    have ey := a6.drop 0 rfl
    obtain ⟨ez, e0⟩ := H
    have e1 := af.stown _ bx hr215
    have e2 := a6.std 0 rfl
    have e3 := (((ae.st e1).st eu).st e2)
    have e4 := (a6.sd ev 1 0 rfl rfl rfl)
    exact ⟨((xs2 ++ ([(nth t_ i2)] : List Tag)), bz, b0, b1, done2, i2 + 1), e0, ez, ⟨rfl, rfl, rfl, rfl, rfl, rfl, trivial⟩, ey, e3, e4⟩
   ·have H := ite_f H a5
    refine W_skip ?_
    refine W_reg ?_
    refine L_pu (P_move (vi i2) rfl) ?_
    obtain ⟨e5, H⟩ := H
    have e6 : I64 (i2 + 1) := i64_succ (of_decide_eq_true ag) ai e5
    refine L_pu (P_add i2 1 rfl rfl e6) ?_
    refine L_pu (P_assign (vi (i2 + 1)) rfl) ?_
    refine L_nil ?_
    obtain ⟨e7, e8⟩ := H
    exact ⟨(xs2, aa, ac, ad, done2, i2 + 1), e8, e7, ⟨rfl, rfl, rfl, rfl, rfl, rfl, trivial⟩, af, ae, ah⟩
 ·have H := ite_f H ag
  refine W_exit (xin_hit ?_)
  refine W_seq ?_
  refine W_seq ?_
  refine W_reg ?_
  refine L_pu (P_move (vb done2) rfl) ?_
  refine L_pu (P_not done2 rfl) ?_
  refine L_nil ?_
  refine W_cond (!done2) rfl (fun a7 => ?_) (fun a7 => ?_)
  ·have H := ite_t H a7
   refine W_reg ?_
   refine L_pu (P_move (.slice aa ac ad) rfl) ?_
   refine L_pu (P_move (vs key) rfl) ?_
   refine L_pu (P_move (vs val) rfl) ?_
   refine L_pu (P_build (.agg #[vs key, vs val]) (fun _ => by kernel_rfl)) ?_
   refine L_lit (kd := kTag) ei69 af ([(⟨key, val⟩ : Tag)] : List Tag) (cells := [vs key, vs val]) ⟨[vs key, vs val], _, rfl, (kTag.mk _ _ (⟨key, val⟩ : Tag) hs6 hs7), rfl⟩ (fun _ => by kernel_rfl) fun gk e9 fa fb fc hr249 fd fe => ?_
   obtain ⟨ff, H⟩ := H
   have fg := (ah.so _ fc hr249)
   refine L_app ei69 fd (.slice aa ac ad) xs2 ([(⟨key, val⟩ : Tag)] : List Tag) rfl fg (.slice e9 fa fb) rfl fe.sx 1 rfl ff fun gl al am an gm gn b2 fh => ?_
   refine L_pu (P_assign (.slice al am an) rfl) ?_
   refine L_nil ?_
   refine W_seq ?_
   refine W_reg ?_
   refine L_pu (P_move (.slice al am an) rfl) ?_
   refine L_pu (P_assign (.slice al am an) rfl) ?_
   refine L_nil ?_
   refine W_ret ?_
   have a8 := b2.drop 0 rfl
   have fi := (b2.sd fh 1 0 rfl rfl rfl)
   exact ⟨[.slice al am an], ⟨_, rfl, rfl⟩, (xs2 ++ ([(⟨key, val⟩ : Tag)] : List Tag)), al, am, an, rfl, H, a8.gr.g0, a8.ok, a8.ge, fi⟩
  ·have H := ite_f H a7
   refine W_skip ?_
   refine W_seq ?_
   refine W_reg ?_
   refine L_pu (P_move (.slice aa ac ad) rfl) ?_
   refine L_pu (P_assign (.slice aa ac ad) rfl) ?_
   refine L_nil ?_
   refine W_ret ?_
   exact ⟨[.slice aa ac ad], ⟨_, rfl, rfl⟩, xs2, aa, ac, ad, rfl, H, af.gr.g0, af.ok, af.ge, ah⟩
end Go.Proofs.Ytndjggncgpjolaa

namespace Go.Proofs.Ytndjggncgpjolaa
open Go.RowKit
set_option linter.unusedVariables false
set_option linter.unusedSimpArgs false
def spec_l6Keys.E (o : List Tag) (a : List Tag) (b : List Tag) (Q : List Str → Prop) : Prop :=
 (([] : List Tag).length + o.length ≤ 268435456) ∧ ((([] : List Tag) ++ o).length + a.length ≤ 268435456) ∧ (((([] : List Tag) ++ o) ++ a).length + b.length ≤ 268435456) ∧ (∃ (I88 : (List Tag) → Int → Prop) (mu89 : (List Tag) → Int → Nat), I88 ([] : List Tag) 0 ∧ ∀ (xs2 : List Tag) (i2 : Int), I88 xs2 i2 → (if decide (i2 < ((((([] : List Tag) ++ o) ++ a) ++ b).length : Int)) then ((0 : Int) ≤ i2 ∧ i2 < ((((([] : List Tag) ++ o) ++ a) ++ b).length : Int)) ∧ spec_l2Put.E xs2 ((nth (((([] : List Tag) ++ o) ++ a) ++ b) i2).Key) ([97] : Str) (fun r => (-9223372036854775808 ≤ i2) ∧ I88 r (i2 + 1) ∧ mu89 r (i2 + 1) < mu89 xs2 i2) else (∃ (I163 : (List Str) → Int → Prop) (mu164 : (List Str) → Int → Nat), I163 ([] : List Str) 0 ∧ ∀ (xs4 : List Str) (i4 : Int), I163 xs4 i4 → (if decide (i4 < (xs2.length : Int)) then ((0 : Int) ≤ i4 ∧ i4 < (xs2.length : Int)) ∧ (xs4.length + ([(nth xs2 i4).Key] : List Str).length ≤ 268435456) ∧ (-9223372036854775808 ≤ i4) ∧ I163 (xs4 ++ ([(nth xs2 i4).Key] : List Str)) (i4 + 1) ∧ mu164 (xs4 ++ ([(nth xs2 i4).Key] : List Str)) (i4 + 1) < mu164 xs4 i4 else Q xs4))))
set_option maxHeartbeats 8000000 in
set_option maxRecDepth 100000 in
theorem spec_l6Keys.calls {O : Ob} (w0 : World) (hO : Ok w0 O) (o : List Tag) (A1 : Option Addr) (n2 c3 : Nat) (hp4 : Sl kTag w0 (Fr O) (.slice A1 n2 c3) o) (a : List Tag) (A6 : Option Addr) (n7 c8 : Nat) (hp9 : Sl kTag w0 (Fr O) (.slice A6 n7 c8) a) (b : List Tag) (an : Option Addr) (ao ap : Nat) (bs : Sl kTag w0 (Fr O) (.slice an ao ap) b) (Q : List Str → Prop) (h : spec_l6Keys.E o a b Q) :
  Ret Try.prog 137 [.slice A1 n2 c3, .slice A6 n7 c8, .slice an ao ap] w0 (fun v w' => ∃ (r0 : List Str) (A0 : Option Addr) (n0 c0 : Nat), v = .slice A0 n0 c0 ∧ Q r0 ∧ Gr w0 w' none ∧ Ok w' ([bk A0] ++ O) ∧ (∀ b, some b ∈ [bk A0] → w0.heap.size ≤ b) ∧ Ow Kd.str 9 w' ([bk A0] ++ O) (.slice A0 n0 c0) r0) := by
 unfold spec_l6Keys.E at h
 have H := h
 clear h
 have hc0 := Ct.init hO
 refine Ret_enter Try.func137 rfl 49 rfl [.tmp 6] rfl rfl ?_
 refine W_seq ?_
 refine W_reg ?_
 refine L_pu (P_assign (.slice none 0 0) rfl) ?_
 refine L_nil ?_
 refine W_seq ?_
 refine W_reg ?_
 refine L_lit (kd := kTag) ei69 hc0 ([] : List Tag) (cells := []) rfl (fun _ => by kernel_rfl) fun dy bt bu bv dz hr21 a6 bw => ?_
 refine L_pu (P_move (.slice A1 n2 c3) rfl) ?_
 obtain ⟨bx, H⟩ := H
 refine L_app ei69 a6 (.slice bt bu bv) ([] : List Tag) o rfl bw (.slice A1 n2 c3) rfl (hp4.st a6.st).sx 0 rfl bx fun d0 bz b0 b1 d1 d2 a7 b2 => ?_
 refine L_pu (P_move (.slice A6 n7 c8) rfl) ?_
 obtain ⟨b3, H⟩ := H
 refine L_app ei69 a7 (.slice bz b0 b1) (([] : List Tag) ++ o) a rfl b2 (.slice A6 n7 c8) rfl (hp9.st a7.st).sx 0 rfl b3 fun d3 b4 b5 b6 d4 d5 a8 b7 => ?_
 refine L_pu (P_move (.slice an ao ap) rfl) ?_
 obtain ⟨b8, H⟩ := H
 refine L_app ei69 a8 (.slice b4 b5 b6) ((([] : List Tag) ++ o) ++ a) b rfl b7 (.slice an ao ap) rfl (bs.st a8.st).sx 0 rfl b8 fun d6 ab ah ai d7 d8 b9 ca => ?_
 refine L_pu (P_assign (.slice ab ah ai) rfl) ?_
 refine L_nil ?_
 refine W_seq ?_
 refine W_reg ?_
 refine L_lit (kd := kTag) ei69 b9 ([] : List Tag) (cells := []) rfl (fun _ => by kernel_rfl) fun d9 a9 ba bb cb hr60 cc cd => ?_
 refine L_pu (P_assign (.slice a9 ba bb) rfl) ?_
 refine L_nil ?_
 refine W_seq ?_
 refine W_seq ?_
 refine W_reg ?_
 refine L_pu (P_assign (vi 0) rfl) ?_
 refine L_nil ?_
 refine W_block ?_
 obtain ⟨ce, cf, ax, H⟩ := H
 have cg := (ca.so _ cb hr60)
 refine W_loop (α := (List Tag) × (Option Addr) × Nat × Nat × Int) (fun (sv__ : (List Tag) × (Option Addr) × Nat × Nat × Int) t aj => match sv__ with | (xs2, aa, ac, ad, i2) => ce xs2 i2 ∧ Has t [(7, .slice ab ah ai), (8, .slice aa ac ad), (9, vi i2)] ∧ Ct [] w0 aj [bk aa, bk ab] O ∧ Ow kTag 133 aj ([bk aa, bk ab] ++ O) (.slice ab ah ai) (((([] : List Tag) ++ o) ++ a) ++ b) ∧ Ow kTag 133 aj ([bk aa, bk ab] ++ O) (.slice aa ac ad) xs2) (fun (sv__ : (List Tag) × (Option Addr) × Nat × Nat × Int) => match sv__ with | (xs2, _, _, _, i2) => cf xs2 i2) (([] : List Tag), a9, ba, bb, 0) ⟨ax, ⟨rfl, rfl, rfl, trivial⟩, cc, cg, cd⟩ ?_
 rintro ⟨xs2, aa, ac, ad, i2⟩ _ aj ⟨ax, ch, ak, al, bc⟩
 obtain ⟨ea, rfl⟩ := Has.ins ch
 have H := H xs2 i2 ax
 refine W_seq ?_
 refine W_seq ?_
 refine W_reg ?_
 refine L_pu (P_move (vi i2) rfl) ?_
 refine L_pu (P_move (.slice ab ah ai) rfl) ?_
 have ci := al.le
 refine L_pu (P_len Try.underlying69 ab ah ai al.len rfl) ?_
 refine L_pu (P_cmp i2 ((((([] : List Tag) ++ o) ++ a) ++ b).length : Int) (decide (i2 < ((((([] : List Tag) ++ o) ++ a) ++ b).length : Int))) rfl rfl rfl) ?_
 refine L_nil ?_
 refine W_cond (decide (i2 < ((((([] : List Tag) ++ o) ++ a) ++ b).length : Int))) rfl (fun aq => ?_) (fun aq => ?_)
 ·have H := ite_t H aq
  refine W_skip ?_
  refine W_seq ?_
  refine W_block ?_
  refine W_reg ?_
  refine L_pu (P_move (.slice aa ac ad) rfl) ?_
  refine L_pu (P_move (.slice ab ah ai) rfl) ?_
  refine L_pu (P_move (vi i2) rfl) ?_
  obtain ⟨bd, H⟩ := H
  obtain ⟨ar, eb, cj, ck, cl⟩ := al.get default (by decide) i2 bd
  obtain ⟨rfl, cm, ec⟩ := kTag.op ck
  refine L_pu (P_ia Try.underlying69 se69 ab ar ah ai al.len i2 rfl cj rfl bd) ?_
  refine L_pu (P_fa fa133_0 (ar.add (i2.toNat * 2)) ((ar.add (i2.toNat * 2)).add 0) rfl rfl) ?_
  refine L_pu (P_ld ag9 cL ((ar.add (i2.toNat * 2)).add 0) (vs ((nth (((([] : List Tag) ++ o) ++ a) ++ b) i2).Key)) rfl (cl 0 _ rfl)) ?_
  have cn := ak.gv bc 0 rfl
  have co := ak.drop 0 rfl
  refine L_call go166 [.slice aa ac ad, vs ((nth (((([] : List Tag) ++ o) ++ a) ++ b) i2).Key), vs ([97] : Str)] rfl ((spec_l2Put.calls aj co.ok xs2 aa ac ad cn ((nth (((([] : List Tag) ++ o) ++ a) ++ b) i2).Key) cm ([97] : Str) (by decide) _ H).mono ?_)
  rintro _ ed ⟨r, be, bf, bg, rfl, H, ay, cp, az, cq⟩
  have cr := Ok.unl (L := [bk aa, bk ab]) (L' := [bk ab]) (O := O) ak ay cp az
  have cs := Ow.unl (L := [bk aa, bk ab]) (L' := [bk ab]) (O := O) (fun _ _ _ _ _ _ h => h) (.cons _ (.cons_cons _ (.slnil))) cq
  have a0 := ak.owns ay cr az
  refine L_pu (P_assign (.slice be bf bg) rfl) ?_
  refine L_nil ?_
  refine W_reg ?_
  refine L_pu (P_move (vi i2) rfl) ?_
  obtain ⟨ct, H⟩ := H
  have cu : I64 (i2 + 1) := i64_succ (of_decide_eq_true aq) ci ct
  refine L_pu (P_add i2 1 rfl rfl cu) ?_
  refine L_pu (P_assign (vi (i2 + 1)) rfl) ?_
  refine L_nil ?_
  have cv := a0.drop 1 rfl
  obtain ⟨cw, cx⟩ := H
  have cy := (a0.sd (al.sos ay az) 2 1 rfl rfl rfl)
  have cz := (a0.sd cs 0 1 rfl rfl rfl)
  exact ⟨(r, be, bf, bg, i2 + 1), cx, cw, ⟨rfl, rfl, rfl, trivial⟩, cv, cy, cz⟩
 ·have H := ite_f H aq
  refine W_exit (xin_hit ?_)
  refine W_seq ?_
  refine W_reg ?_
  refine L_lit (kd := Kd.str) ei72 ak ([] : List Str) (cells := []) rfl (fun _ => by kernel_rfl) fun ee bh bi bj c1 hr134 a1 c2 => ?_
  refine L_pu (P_assign (.slice bh bi bj) rfl) ?_
  refine L_nil ?_
  refine W_seq ?_
  refine W_seq ?_
  refine W_reg ?_
  refine L_pu (P_assign (vi 0) rfl) ?_
  refine L_nil ?_
  refine W_block ?_
  have c4 := a1.drop 2 rfl
  obtain ⟨c5, c6, a2, H⟩ := H
  have c7 := (a1.sd (bc.so _ c1 hr134) 1 2 rfl rfl rfl)
  have c9 := (a1.sd c2 0 2 rfl rfl rfl)
  refine W_loop (α := (List Str) × (Option Addr) × Nat × Nat × Int) (fun (sv__ : (List Str) × (Option Addr) × Nat × Nat × Int) t au => match sv__ with | (xs4, ae, af, ag, i4) => c5 xs4 i4 ∧ Has t [(8, .slice aa ac ad), (10, .slice ae af ag), (11, vi i4)] ∧ Ct [] w0 au [bk ae, bk aa] O ∧ Ow kTag 133 au ([bk ae, bk aa] ++ O) (.slice aa ac ad) xs2 ∧ Ow Kd.str 9 au ([bk ae, bk aa] ++ O) (.slice ae af ag) xs4) (fun (sv__ : (List Str) × (Option Addr) × Nat × Nat × Int) => match sv__ with | (xs4, _, _, _, i4) => c6 xs4 i4) (([] : List Str), bh, bi, bj, 0) ⟨a2, ⟨rfl, rfl, rfl, trivial⟩, c4, c7, c9⟩ ?_
  rintro ⟨xs4, ae, af, ag, i4⟩ _ au ⟨a2, da, a3, am, bl⟩
  obtain ⟨ef, rfl⟩ := Has.ins da
  have H := H xs4 i4 a2
  refine W_seq ?_
  refine W_seq ?_
  refine W_reg ?_
  refine L_pu (P_move (vi i4) rfl) ?_
  refine L_pu (P_move (.slice aa ac ad) rfl) ?_
  have db := am.le
  refine L_pu (P_len Try.underlying69 aa ac ad am.len rfl) ?_
  refine L_pu (P_cmp i4 (xs2.length : Int) (decide (i4 < (xs2.length : Int))) rfl rfl rfl) ?_
  refine L_nil ?_
  refine W_cond (decide (i4 < (xs2.length : Int))) rfl (fun av => ?_) (fun av => ?_)
  ·have H := ite_t H av
   refine W_skip ?_
   refine W_seq ?_
   refine W_block ?_
   refine W_reg ?_
   refine L_pu (P_move (.slice ae af ag) rfl) ?_
   refine L_pu (P_move (.slice aa ac ad) rfl) ?_
   refine L_pu (P_move (vi i4) rfl) ?_
   obtain ⟨bm, H⟩ := H
   obtain ⟨aw, eg, dc, dd, de⟩ := am.get default (by decide) i4 bm
   obtain ⟨rfl, df, eh⟩ := kTag.op dd
   refine L_pu (P_ia Try.underlying69 se69 aa aw ac ad am.len i4 rfl dc rfl bm) ?_
   refine L_pu (P_fa fa133_0 (aw.add (i4.toNat * 2)) ((aw.add (i4.toNat * 2)).add 0) rfl rfl) ?_
   refine L_pu (P_ld ag9 cL ((aw.add (i4.toNat * 2)).add 0) (vs ((nth xs2 i4).Key)) rfl (de 0 _ rfl)) ?_
   refine L_lit (kd := Kd.str) ei72 a3 ([(nth xs2 i4).Key] : List Str) (cells := [vs ((nth xs2 i4).Key)]) ⟨[vs ((nth xs2 i4).Key)], _, rfl, ⟨rfl, df⟩, rfl⟩ (fun _ => by kernel_rfl) fun ei dg dh di bn hr187 bo dj => ?_
   obtain ⟨dk, H⟩ := H
   have dl := (bl.so _ bn hr187)
   refine L_app ei72 bo (.slice ae af ag) xs4 ([(nth xs2 i4).Key] : List Str) rfl dl (.slice dg dh di) rfl dj.sx 1 rfl dk fun ej bp bq br dm dn a4 dp => ?_
   refine L_pu (P_assign (.slice bp bq br) rfl) ?_
   refine L_nil ?_
   refine W_reg ?_
   refine L_pu (P_move (vi i4) rfl) ?_
   obtain ⟨dq, H⟩ := H
   have dr : I64 (i4 + 1) := i64_succ (of_decide_eq_true av) db dq
   refine L_pu (P_add i4 1 rfl rfl dr) ?_
   refine L_pu (P_assign (vi (i4 + 1)) rfl) ?_
   refine L_nil ?_
   have ds := a4.drop 0 rfl
   obtain ⟨dt, du⟩ := H
   have dv := (a4.sd (bo.sm (am.so _ bn hr187) 2 1 rfl rfl rfl dm dn) 2 0 rfl rfl rfl)
   have dw := (a4.sd dp 1 0 rfl rfl rfl)
   exact ⟨((xs4 ++ ([(nth xs2 i4).Key] : List Str)), bp, bq, br, i4 + 1), du, dt, ⟨rfl, rfl, rfl, trivial⟩, ds, dv, dw⟩
  ·have H := ite_f H av
   refine W_exit (xin_hit ?_)
   refine W_seq ?_
   refine W_reg ?_
   refine L_pu (P_move (.slice ae af ag) rfl) ?_
   refine L_pu (P_assign (.slice ae af ag) rfl) ?_
   refine L_nil ?_
   refine W_ret ?_
   have a5 := a3.drop 1 rfl
   have dx := (a3.sd bl 0 1 rfl rfl rfl)
   exact ⟨[.slice ae af ag], ⟨_, rfl, rfl⟩, xs4, ae, af, ag, rfl, H, a5.gr.g0, a5.ok, a5.ge, dx⟩
end Go.Proofs.Ytndjggncgpjolaa

namespace Go.Proofs.Ytndjggncgpjolaa
open Go.RowKit
set_option linter.unusedVariables false
set_option linter.unusedSimpArgs false
def spec_l2Get.E (t_ : List Tag) (key : Str) (Q : Str → Bool → Prop) : Prop :=
 (∃ (I19 : Int → Prop) (mu20 : Int → Nat), I19 0 ∧ ∀ (i2 : Int), I19 i2 → (if decide (i2 < (t_.length : Int)) then ((0 : Int) ≤ i2 ∧ i2 < (t_.length : Int)) ∧ (if ((nth t_ i2).Key) == key then ((0 : Int) ≤ i2 ∧ i2 < (t_.length : Int)) ∧ Q ((nth t_ i2).Val) true else (-9223372036854775808 ≤ i2) ∧ I19 (i2 + 1) ∧ mu20 (i2 + 1) < mu20 i2) else Q ([] : Str) false))
set_option maxHeartbeats 8000000 in
set_option maxRecDepth 100000 in
theorem spec_l2Get.calls {O : Ob} (w0 : World) (hO : Ok w0 O) (t_ : List Tag) (A1 : Option Addr) (n2 c3 : Nat) (hp4 : Sl kTag w0 (Fr O) (.slice A1 n2 c3) t_) (key : Str) (hs6 : Lim key) (Q : Str → Bool → Prop) (h : spec_l2Get.E t_ key Q) :
  Ret Try.prog 167 [.slice A1 n2 c3, vs key] w0 (fun v w' => ∃ (r0 : Str) (r1 : Bool), v = .tuple #[vs r0, vb r1] ∧ Q r0 r1 ∧ Gr w0 w' none ∧ Lim r0) := by
 unfold spec_l2Get.E at h
 have H := h
 clear h
 have hc0 := Ct.init hO
 refine Ret_enter Try.func167 rfl 25 rfl [.tmp 4, .tmp 5] rfl rfl ?_
 refine W_seq ?_
 refine W_reg ?_
 refine L_pu (P_assign (vs ([] : Str)) rfl) ?_
 refine L_pu (P_assign (vb false) rfl) ?_
 refine L_nil ?_
 refine W_seq ?_
 refine W_seq ?_
 refine W_reg ?_
 refine L_pu (P_assign (vi 0) rfl) ?_
 refine L_nil ?_
 refine W_block ?_
 obtain ⟨ak, al, ae, H⟩ := H
 refine W_loop (α := Int) (fun (sv__ : Int) t af => match sv__ with | i2 => ak i2 ∧ Has t [(0, .slice A1 n2 c3), (1, vs key), (6, vi i2)] ∧ Ct [] w0 af [] O ∧ Sl kTag af (Fr ([] ++ O)) (.slice A1 n2 c3) t_) (fun (sv__ : Int) => match sv__ with | i2 => al i2) 0 ⟨ae, ⟨rfl, rfl, rfl, trivial⟩, hc0, hp4⟩ ?_
 rintro i2 _ af ⟨ae, am, ag, aa⟩
 obtain ⟨a1, rfl⟩ := Has.ins am
 have H := H i2 ae
 refine W_seq ?_
 refine W_seq ?_
 refine W_reg ?_
 refine L_pu (P_move (vi i2) rfl) ?_
 refine L_pu (P_move (.slice A1 n2 c3) rfl) ?_
 have an := aa.le
 refine L_pu (P_len Try.underlying69 A1 n2 c3 aa.len rfl) ?_
 refine L_pu (P_cmp i2 (t_.length : Int) (decide (i2 < (t_.length : Int))) rfl rfl rfl) ?_
 refine L_nil ?_
 refine W_cond (decide (i2 < (t_.length : Int))) rfl (fun ab => ?_) (fun ab => ?_)
 ·have H := ite_t H ab
  refine W_skip ?_
  refine W_seq ?_
  refine W_block ?_
  refine W_seq ?_
  refine W_reg ?_
  refine L_pu (P_move (.slice A1 n2 c3) rfl) ?_
  refine L_pu (P_move (vi i2) rfl) ?_
  obtain ⟨ai, H⟩ := H
  obtain ⟨ac, a2, ao, a3, ap, aq⟩ := aa.get default (by decide) i2 ai
  obtain ⟨rfl, a4, a5⟩ := kTag.op ap
  refine L_pu (P_ia Try.underlying69 se69 A1 ac n2 c3 aa.len i2 rfl ao rfl ai) ?_
  refine L_pu (P_fa fa133_0 (ac.add (i2.toNat * 2)) ((ac.add (i2.toNat * 2)).add 0) rfl rfl) ?_
  refine L_pu (P_ld ag9 cL ((ac.add (i2.toNat * 2)).add 0) (vs ((nth t_ i2).Key)) rfl (aq 0 _ rfl)) ?_
  refine L_pu (P_move (vs key) rfl) ?_
  refine L_pu (P_scmp ((nth t_ i2).Key) key (((nth t_ i2).Key) == key) rfl rfl rfl) ?_
  refine L_nil ?_
  refine W_cond (((nth t_ i2).Key) == key) rfl (fun ah => ?_) (fun ah => ?_)
  ·have H := ite_t H ah
   refine W_seq ?_
   refine W_reg ?_
   refine L_pu (P_move (.slice A1 n2 c3) rfl) ?_
   refine L_pu (P_move (vi i2) rfl) ?_
   obtain ⟨aj, H⟩ := H
   obtain ⟨ad, a6, ar, a7, au, av⟩ := aa.get default (by decide) i2 aj
   obtain ⟨rfl, a8, aw⟩ := kTag.op au
   refine L_pu (P_ia Try.underlying69 se69 A1 ad n2 c3 aa.len i2 rfl ar rfl aj) ?_
   refine L_pu (P_fa fa133_1 (ad.add (i2.toNat * 2)) ((ad.add (i2.toNat * 2)).add 1) rfl rfl) ?_
   refine L_pu (P_ld ag9 cL ((ad.add (i2.toNat * 2)).add 1) (vs ((nth t_ i2).Val)) rfl (av 1 _ rfl)) ?_
   refine L_pu (P_assign (vs ((nth t_ i2).Val)) rfl) ?_
   refine L_pu (P_assign (vb true) rfl) ?_
   refine L_nil ?_
   refine W_ret ?_
   exact ⟨[vs ((nth t_ i2).Val), vb true], ⟨_, rfl, ⟨_, rfl, rfl⟩⟩, (nth t_ i2).Val, true, rfl, H, ag.gr.g0, aw⟩
  ·have H := ite_f H ah
   refine W_skip ?_
   refine W_reg ?_
   refine L_pu (P_move (vi i2) rfl) ?_
   obtain ⟨ax, H⟩ := H
   have ay : I64 (i2 + 1) := i64_succ (of_decide_eq_true ab) an ax
   refine L_pu (P_add i2 1 rfl rfl ay) ?_
   refine L_pu (P_assign (vi (i2 + 1)) rfl) ?_
   refine L_nil ?_
   obtain ⟨az, a0⟩ := H
   exact ⟨i2 + 1, a0, az, ⟨rfl, rfl, rfl, trivial⟩, ag, aa⟩
 ·have H := ite_f H ab
  refine W_exit (xin_hit ?_)
  refine W_seq ?_
  refine W_reg ?_
  refine L_pu (P_assign (vs ([] : Str)) rfl) ?_
  refine L_pu (P_assign (vb false) rfl) ?_
  refine L_nil ?_
  refine W_ret ?_
  exact ⟨[vs ([] : Str), vb false], ⟨_, rfl, ⟨_, rfl, rfl⟩⟩, ([] : Str), false, rfl, H, ag.gr.g0, (by decide)⟩
end Go.Proofs.Ytndjggncgpjolaa

namespace Go.Proofs.Ytndjggncgpjolaa
open Go.RowKit
set_option linter.unusedVariables false
set_option linter.unusedSimpArgs false
def spec_l6Tag.E (o : List Tag) (a : List Tag) (b : List Tag) (key : Str) (Q : Str → Bool → Bool → Prop) : Prop :=
 spec_l2Get.E o key (fun r r2 => spec_l2Get.E a key (fun r3 r4 => spec_l2Get.E b key (fun r5 r6 => (if r3 == r then (if r4 == r2 then Q r5 r6 true else (if r5 == r then (if r6 == r2 then Q r3 r4 true else (if r3 == r5 then (if r4 == r6 then Q r3 r4 true else (if r4 then Q r3 true false else Q r5 true false)) else (if r4 then Q r3 true false else Q r5 true false))) else (if r3 == r5 then (if r4 == r6 then Q r3 r4 true else (if r4 then Q r3 true false else Q r5 true false)) else (if r4 then Q r3 true false else Q r5 true false)))) else (if r5 == r then (if r6 == r2 then Q r3 r4 true else (if r3 == r5 then (if r4 == r6 then Q r3 r4 true else (if r4 then Q r3 true false else Q r5 true false)) else (if r4 then Q r3 true false else Q r5 true false))) else (if r3 == r5 then (if r4 == r6 then Q r3 r4 true else (if r4 then Q r3 true false else Q r5 true false)) else (if r4 then Q r3 true false else Q r5 true false)))))))
set_option maxHeartbeats 8000000 in
set_option maxRecDepth 100000 in
theorem spec_l6Tag.calls {O : Ob} (w0 : World) (hO : Ok w0 O) (o : List Tag) (A1 : Option Addr) (n2 c3 : Nat) (hp4 : Sl kTag w0 (Fr O) (.slice A1 n2 c3) o) (a : List Tag) (A6 : Option Addr) (n7 c8 : Nat) (hp9 : Sl kTag w0 (Fr O) (.slice A6 n7 c8) a) (b : List Tag) (am : Option Addr) (an ao : Nat) (a7 : Sl kTag w0 (Fr O) (.slice am an ao) b) (key : Str) (ap : Lim key) (Q : Str → Bool → Bool → Prop) (h : spec_l6Tag.E o a b key Q) :
  Ret Try.prog 138 [.slice A1 n2 c3, .slice A6 n7 c8, .slice am an ao, vs key] w0 (fun v w' => ∃ (r0 : Str) (r1 : Bool) (r2 : Bool), v = .tuple #[vs r0, vb r1, vb r2] ∧ Q r0 r1 r2 ∧ Gr w0 w' none ∧ Lim r0) := by
 unfold spec_l6Tag.E at h
 have H := h
 clear h
 have hc0 := Ct.init hO
 refine Ret_enter Try.func138 rfl 71 rfl [.tmp 8, .tmp 9, .tmp 10] rfl rfl ?_
 refine W_seq ?_
 refine W_reg ?_
 refine L_pu (P_assign (vs ([] : Str)) rfl) ?_
 refine L_pu (P_assign (vb false) rfl) ?_
 refine L_pu (P_assign (vb false) rfl) ?_
 refine L_nil ?_
 refine W_seq ?_
 refine W_reg ?_
 refine L_pu (P_move (.slice A1 n2 c3) rfl) ?_
 refine L_pu (P_move (vs key) rfl) ?_
 refine L_call go167 [.slice A1 n2 c3, vs key] rfl ((spec_l2Get.calls w0 hc0.ok o A1 n2 c3 hp4 key ap _ H).mono ?_)
 rintro _ a8 ⟨r, r2, rfl, H, a9, bd⟩
 have aq := hc0.k0 a9
 refine L_pu (P_move (.tuple #[vs r, vb r2]) rfl) ?_
 refine L_pu (P_ext [vs r, vb r2] 0 (vs r) rfl rfl) ?_
 refine L_pu (P_ext [vs r, vb r2] 1 (vb r2) rfl rfl) ?_
 refine L_pu (P_assign (vs r) rfl) ?_
 refine L_pu (P_assign (vb r2) rfl) ?_
 refine L_nil ?_
 refine W_seq ?_
 refine W_reg ?_
 refine L_pu (P_move (.slice A6 n7 c8) rfl) ?_
 refine L_pu (P_move (vs key) rfl) ?_
 refine L_call go167 [.slice A6 n7 c8, vs key] rfl ((spec_l2Get.calls a8 aq.ok a A6 n7 c8 (hp9.st aq.st) key ap _ H).mono ?_)
 rintro _ ba ⟨r3, r4, rfl, H, bb, ad⟩
 have ar := aq.k0 bb
 refine L_pu (P_move (.tuple #[vs r3, vb r4]) rfl) ?_
 refine L_pu (P_ext [vs r3, vb r4] 0 (vs r3) rfl rfl) ?_
 refine L_pu (P_ext [vs r3, vb r4] 1 (vb r4) rfl rfl) ?_
 refine L_pu (P_assign (vs r3) rfl) ?_
 refine L_pu (P_assign (vb r4) rfl) ?_
 refine L_nil ?_
 refine W_seq ?_
 refine W_reg ?_
 refine L_pu (P_move (.slice am an ao) rfl) ?_
 refine L_pu (P_move (vs key) rfl) ?_
 refine L_call go167 [.slice am an ao, vs key] rfl ((spec_l2Get.calls ba ar.ok b am an ao (a7.st ar.st) key ap _ H).mono ?_)
 rintro _ be ⟨r5, r6, rfl, H, bc, al⟩
 have aa := ar.k0 bc
 refine L_pu (P_move (.tuple #[vs r5, vb r6]) rfl) ?_
 refine L_pu (P_ext [vs r5, vb r6] 0 (vs r5) rfl rfl) ?_
 refine L_pu (P_ext [vs r5, vb r6] 1 (vb r6) rfl rfl) ?_
 refine L_pu (P_assign (vs r5) rfl) ?_
 refine L_pu (P_assign (vb r6) rfl) ?_
 refine L_nil ?_
 refine W_seq ?_
 refine W_block ?_
 refine W_seq ?_
 refine W_reg ?_
 refine L_pu (P_move (vs r3) rfl) ?_
 refine L_pu (P_move (vs r) rfl) ?_
 refine L_pu (P_scmp r3 r (r3 == r) rfl rfl rfl) ?_
 refine L_pu (P_move (vb (r3 == r)) rfl) ?_
 rcases bool_or (r3 == r) with ae | ae
 ·have H := ite_t H ae
  refine L_run (dj := 39) rfl rfl (by exact congrArg Value.bool ae) ?_
  refine L_pu (P_move (vb r4) rfl) ?_
  refine L_run (dj := 39) rfl rfl (by exact congrArg Value.bool ae) ?_
  refine L_pu (P_move (vb r2) rfl) ?_
  refine L_run (dj := 39) rfl rfl (by exact congrArg Value.bool ae) ?_
  refine L_pu (P_bcmp Try.underlying4 r4 r2 (r4 == r2) rfl rfl rfl) ?_
  refine L_pu (P_pick true (vb (r4 == r2)) (by exact congrArg Value.bool ae) rfl) ?_
  refine L_pu (P_assign (vb (r4 == r2)) rfl) ?_
  refine L_nil ?_
  refine W_cond (r4 == r2) rfl (fun au => ?_) (fun au => ?_)
  ·have H := ite_t H au
   refine W_seq ?_
   refine W_reg ?_
   refine L_pu (P_move (vs r5) rfl) ?_
   refine L_pu (P_move (vb r6) rfl) ?_
   refine L_pu (P_assign (vs r5) rfl) ?_
   refine L_pu (P_assign (vb r6) rfl) ?_
   refine L_pu (P_assign (vb true) rfl) ?_
   refine L_nil ?_
   refine W_ret ?_
   exact ⟨[vs r5, vb r6, vb true], ⟨_, rfl, ⟨_, rfl, ⟨_, rfl, rfl⟩⟩⟩, r5, r6, true, rfl, H, aa.gr.g0, al⟩
  ·have H := ite_f H au
   refine W_seq ?_
   refine W_reg ?_
   refine L_pu (P_move (vs r5) rfl) ?_
   refine L_pu (P_move (vs r) rfl) ?_
   refine L_pu (P_scmp r5 r (r5 == r) rfl rfl rfl) ?_
   refine L_pu (P_move (vb (r5 == r)) rfl) ?_
   rcases bool_or (r5 == r) with af | af
   ·have H := ite_t H af
    refine L_run (dj := 50) rfl rfl (by exact congrArg Value.bool af) ?_
    refine L_pu (P_move (vb r6) rfl) ?_
    refine L_run (dj := 50) rfl rfl (by exact congrArg Value.bool af) ?_
    refine L_pu (P_move (vb r2) rfl) ?_
    refine L_run (dj := 50) rfl rfl (by exact congrArg Value.bool af) ?_
    refine L_pu (P_bcmp Try.underlying4 r6 r2 (r6 == r2) rfl rfl rfl) ?_
    refine L_pu (P_pick true (vb (r6 == r2)) (by exact congrArg Value.bool af) rfl) ?_
    refine L_pu (P_move (vb (r6 == r2)) rfl) ?_
    rcases bool_or (r6 == r2) with ab | ab
    ·have H := ite_t H ab
     refine L_pass (dj := 55) rfl rfl (.inl (by exact congrArg Value.bool ab)) ?_
     refine L_pass (dj := 55) rfl rfl (.inl (by exact congrArg Value.bool ab)) ?_
     refine L_pass (dj := 55) rfl rfl (.inl (by exact congrArg Value.bool ab)) ?_
     refine L_pass (dj := 55) rfl rfl (.inl (by exact congrArg Value.bool ab)) ?_
     refine L_pass (dj := 59) rfl rfl (.inr rfl) ?_
     refine L_pass (dj := 59) rfl rfl (.inr rfl) ?_
     refine L_pass (dj := 59) rfl rfl (.inr rfl) ?_
     refine L_pass (dj := 55) rfl rfl (.inl (by exact congrArg Value.bool ab)) ?_
     refine L_pu (P_pick true (vb true) (by exact congrArg Value.bool ab) rfl) ?_
     refine L_pu (P_assign (vb true) rfl) ?_
     refine L_nil ?_
     refine W_ct (b := true) rfl rfl ?_
     refine W_seq ?_
     refine W_reg ?_
     refine L_pu (P_move (vs r3) rfl) ?_
     refine L_pu (P_move (vb r4) rfl) ?_
     refine L_pu (P_assign (vs r3) rfl) ?_
     refine L_pu (P_assign (vb r4) rfl) ?_
     refine L_pu (P_assign (vb true) rfl) ?_
     refine L_nil ?_
     refine W_ret ?_
     exact ⟨[vs r3, vb r4, vb true], ⟨_, rfl, ⟨_, rfl, ⟨_, rfl, rfl⟩⟩⟩, r3, r4, true, rfl, H, aa.gr.g0, ad⟩
    ·have H := ite_f H ab
     refine L_run (dj := 55) rfl rfl (by exact congrArg Value.bool ab) ?_
     refine L_pu (P_move (vs r3) rfl) ?_
     refine L_run (dj := 55) rfl rfl (by exact congrArg Value.bool ab) ?_
     refine L_pu (P_move (vs r5) rfl) ?_
     refine L_run (dj := 55) rfl rfl (by exact congrArg Value.bool ab) ?_
     refine L_pu (P_scmp r3 r5 (r3 == r5) rfl rfl rfl) ?_
     refine L_run (dj := 55) rfl rfl (by exact congrArg Value.bool ab) ?_
     refine L_pu (P_move (vb (r3 == r5)) rfl) ?_
     rcases bool_or (r3 == r5) with ag | ag
     ·have H := ite_t H ag
      refine L_run (dj := 59) rfl rfl (by exact congrArg Value.bool ag) ?_
      refine L_pu (P_move (vb r4) rfl) ?_
      refine L_run (dj := 59) rfl rfl (by exact congrArg Value.bool ag) ?_
      refine L_pu (P_move (vb r6) rfl) ?_
      refine L_run (dj := 59) rfl rfl (by exact congrArg Value.bool ag) ?_
      refine L_pu (P_bcmp Try.underlying4 r4 r6 (r4 == r6) rfl rfl rfl) ?_
      refine L_run (dj := 55) rfl rfl (by exact congrArg Value.bool ab) ?_
      refine L_pu (P_pick true (vb (r4 == r6)) (by exact congrArg Value.bool ag) rfl) ?_
      refine L_pu (P_pick false (vb (r4 == r6)) (by exact congrArg Value.bool ab) rfl) ?_
      refine L_pu (P_assign (vb (r4 == r6)) rfl) ?_
      refine L_nil ?_
      refine W_cond (r4 == r6) rfl (fun av => ?_) (fun av => ?_)
      ·have H := ite_t H av
       refine W_seq ?_
       refine W_reg ?_
       refine L_pu (P_move (vs r3) rfl) ?_
       refine L_pu (P_move (vb r4) rfl) ?_
       refine L_pu (P_assign (vs r3) rfl) ?_
       refine L_pu (P_assign (vb r4) rfl) ?_
       refine L_pu (P_assign (vb true) rfl) ?_
       refine L_nil ?_
       refine W_ret ?_
       exact ⟨[vs r3, vb r4, vb true], ⟨_, rfl, ⟨_, rfl, ⟨_, rfl, rfl⟩⟩⟩, r3, r4, true, rfl, H, aa.gr.g0, ad⟩
      ·have H := ite_f H av
       refine W_seq ?_
       refine W_reg ?_
       refine L_pu (P_move (vb r4) rfl) ?_
       refine L_pu (P_assign (vb r4) rfl) ?_
       refine L_nil ?_
       refine W_cond r4 rfl (fun aw => ?_) (fun aw => ?_)
       ·have H := ite_t H aw
        refine W_seq ?_
        refine W_reg ?_
        refine L_pu (P_move (vs r3) rfl) ?_
        refine L_pu (P_assign (vs r3) rfl) ?_
        refine L_pu (P_assign (vb true) rfl) ?_
        refine L_pu (P_assign (vb false) rfl) ?_
        refine L_nil ?_
        refine W_ret ?_
        exact ⟨[vs r3, vb true, vb false], ⟨_, rfl, ⟨_, rfl, ⟨_, rfl, rfl⟩⟩⟩, r3, true, false, rfl, H, aa.gr.g0, ad⟩
       ·have H := ite_f H aw
        refine W_skip ?_
        refine W_seq ?_
        refine W_reg ?_
        refine L_pu (P_move (vs r5) rfl) ?_
        refine L_pu (P_assign (vs r5) rfl) ?_
        refine L_pu (P_assign (vb true) rfl) ?_
        refine L_pu (P_assign (vb false) rfl) ?_
        refine L_nil ?_
        refine W_ret ?_
        exact ⟨[vs r5, vb true, vb false], ⟨_, rfl, ⟨_, rfl, ⟨_, rfl, rfl⟩⟩⟩, r5, true, false, rfl, H, aa.gr.g0, al⟩
     ·have H := ite_f H ag
      refine L_pass (dj := 59) rfl rfl (.inl (by exact congrArg Value.bool ag)) ?_
      refine L_pass (dj := 59) rfl rfl (.inl (by exact congrArg Value.bool ag)) ?_
      refine L_pass (dj := 59) rfl rfl (.inl (by exact congrArg Value.bool ag)) ?_
      refine L_run (dj := 55) rfl rfl (by exact congrArg Value.bool ab) ?_
      refine L_pu (P_pick false (vb false) (by exact congrArg Value.bool ag) rfl) ?_
      refine L_pu (P_pick false (vb false) (by exact congrArg Value.bool ab) rfl) ?_
      refine L_pu (P_assign (vb false) rfl) ?_
      refine L_nil ?_
      refine W_cf (b := false) rfl rfl ?_
      refine W_seq ?_
      refine W_reg ?_
      refine L_pu (P_move (vb r4) rfl) ?_
      refine L_pu (P_assign (vb r4) rfl) ?_
      refine L_nil ?_
      refine W_cond r4 rfl (fun ax => ?_) (fun ax => ?_)
      ·have H := ite_t H ax
       refine W_seq ?_
       refine W_reg ?_
       refine L_pu (P_move (vs r3) rfl) ?_
       refine L_pu (P_assign (vs r3) rfl) ?_
       refine L_pu (P_assign (vb true) rfl) ?_
       refine L_pu (P_assign (vb false) rfl) ?_
       refine L_nil ?_
       refine W_ret ?_
       exact ⟨[vs r3, vb true, vb false], ⟨_, rfl, ⟨_, rfl, ⟨_, rfl, rfl⟩⟩⟩, r3, true, false, rfl, H, aa.gr.g0, ad⟩
      ·have H := ite_f H ax
       refine W_skip ?_
       refine W_seq ?_
       refine W_reg ?_
       refine L_pu (P_move (vs r5) rfl) ?_
       refine L_pu (P_assign (vs r5) rfl) ?_
       refine L_pu (P_assign (vb true) rfl) ?_
       refine L_pu (P_assign (vb false) rfl) ?_
       refine L_nil ?_
       refine W_ret ?_
       exact ⟨[vs r5, vb true, vb false], ⟨_, rfl, ⟨_, rfl, ⟨_, rfl, rfl⟩⟩⟩, r5, true, false, rfl, H, aa.gr.g0, al⟩
   ·have H := ite_f H af
    refine L_pass (dj := 50) rfl rfl (.inl (by exact congrArg Value.bool af)) ?_
    refine L_pass (dj := 50) rfl rfl (.inl (by exact congrArg Value.bool af)) ?_
    refine L_pass (dj := 50) rfl rfl (.inl (by exact congrArg Value.bool af)) ?_
    refine L_pu (P_pick false (vb false) (by exact congrArg Value.bool af) rfl) ?_
    refine L_pu (P_move (vb false) rfl) ?_
    refine L_run (dj := 55) rfl rfl rfl ?_
    refine L_pu (P_move (vs r3) rfl) ?_
    refine L_run (dj := 55) rfl rfl rfl ?_
    refine L_pu (P_move (vs r5) rfl) ?_
    refine L_run (dj := 55) rfl rfl rfl ?_
    refine L_pu (P_scmp r3 r5 (r3 == r5) rfl rfl rfl) ?_
    refine L_run (dj := 55) rfl rfl rfl ?_
    refine L_pu (P_move (vb (r3 == r5)) rfl) ?_
    rcases bool_or (r3 == r5) with ah | ah
    ·have H := ite_t H ah
     refine L_run (dj := 59) rfl rfl (by exact congrArg Value.bool ah) ?_
     refine L_pu (P_move (vb r4) rfl) ?_
     refine L_run (dj := 59) rfl rfl (by exact congrArg Value.bool ah) ?_
     refine L_pu (P_move (vb r6) rfl) ?_
     refine L_run (dj := 59) rfl rfl (by exact congrArg Value.bool ah) ?_
     refine L_pu (P_bcmp Try.underlying4 r4 r6 (r4 == r6) rfl rfl rfl) ?_
     refine L_run (dj := 55) rfl rfl rfl ?_
     refine L_pu (P_pick true (vb (r4 == r6)) (by exact congrArg Value.bool ah) rfl) ?_
     refine L_pu (P_pick false (vb (r4 == r6)) (by exact congrArg Value.bool rfl) rfl) ?_
     refine L_pu (P_assign (vb (r4 == r6)) rfl) ?_
     refine L_nil ?_
     refine W_cond (r4 == r6) rfl (fun ay => ?_) (fun ay => ?_)
     ·have H := ite_t H ay
      refine W_seq ?_
      refine W_reg ?_
      refine L_pu (P_move (vs r3) rfl) ?_
      refine L_pu (P_move (vb r4) rfl) ?_
      refine L_pu (P_assign (vs r3) rfl) ?_
      refine L_pu (P_assign (vb r4) rfl) ?_
      refine L_pu (P_assign (vb true) rfl) ?_
      refine L_nil ?_
      refine W_ret ?_
      exact ⟨[vs r3, vb r4, vb true], ⟨_, rfl, ⟨_, rfl, ⟨_, rfl, rfl⟩⟩⟩, r3, r4, true, rfl, H, aa.gr.g0, ad⟩
     ·have H := ite_f H ay
      refine W_seq ?_
      refine W_reg ?_
      refine L_pu (P_move (vb r4) rfl) ?_
      refine L_pu (P_assign (vb r4) rfl) ?_
      refine L_nil ?_
      refine W_cond r4 rfl (fun az => ?_) (fun az => ?_)
      ·have H := ite_t H az
       refine W_seq ?_
       refine W_reg ?_
       refine L_pu (P_move (vs r3) rfl) ?_
       refine L_pu (P_assign (vs r3) rfl) ?_
       refine L_pu (P_assign (vb true) rfl) ?_
       refine L_pu (P_assign (vb false) rfl) ?_
       refine L_nil ?_
       refine W_ret ?_
       exact ⟨[vs r3, vb true, vb false], ⟨_, rfl, ⟨_, rfl, ⟨_, rfl, rfl⟩⟩⟩, r3, true, false, rfl, H, aa.gr.g0, ad⟩
      ·have H := ite_f H az
       refine W_skip ?_
       refine W_seq ?_
       refine W_reg ?_
       refine L_pu (P_move (vs r5) rfl) ?_
       refine L_pu (P_assign (vs r5) rfl) ?_
       refine L_pu (P_assign (vb true) rfl) ?_
       refine L_pu (P_assign (vb false) rfl) ?_
       refine L_nil ?_
       refine W_ret ?_
       exact ⟨[vs r5, vb true, vb false], ⟨_, rfl, ⟨_, rfl, ⟨_, rfl, rfl⟩⟩⟩, r5, true, false, rfl, H, aa.gr.g0, al⟩
    ·have H := ite_f H ah
     refine L_pass (dj := 59) rfl rfl (.inl (by exact congrArg Value.bool ah)) ?_
     refine L_pass (dj := 59) rfl rfl (.inl (by exact congrArg Value.bool ah)) ?_
     refine L_pass (dj := 59) rfl rfl (.inl (by exact congrArg Value.bool ah)) ?_
     refine L_run (dj := 55) rfl rfl rfl ?_
     refine L_pu (P_pick false (vb false) (by exact congrArg Value.bool ah) rfl) ?_
     refine L_pu (P_pick false (vb false) (by exact congrArg Value.bool rfl) rfl) ?_
     refine L_pu (P_assign (vb false) rfl) ?_
     refine L_nil ?_
     refine W_cf (b := false) rfl rfl ?_
     refine W_seq ?_
     refine W_reg ?_
     refine L_pu (P_move (vb r4) rfl) ?_
     refine L_pu (P_assign (vb r4) rfl) ?_
     refine L_nil ?_
     refine W_cond r4 rfl (fun a0 => ?_) (fun a0 => ?_)
     ·have H := ite_t H a0
      refine W_seq ?_
      refine W_reg ?_
      refine L_pu (P_move (vs r3) rfl) ?_
      refine L_pu (P_assign (vs r3) rfl) ?_
      refine L_pu (P_assign (vb true) rfl) ?_
      refine L_pu (P_assign (vb false) rfl) ?_
      refine L_nil ?_
      refine W_ret ?_
      exact ⟨[vs r3, vb true, vb false], ⟨_, rfl, ⟨_, rfl, ⟨_, rfl, rfl⟩⟩⟩, r3, true, false, rfl, H, aa.gr.g0, ad⟩
     ·have H := ite_f H a0
      refine W_skip ?_
      refine W_seq ?_
      refine W_reg ?_
      refine L_pu (P_move (vs r5) rfl) ?_
      refine L_pu (P_assign (vs r5) rfl) ?_
      refine L_pu (P_assign (vb true) rfl) ?_
      refine L_pu (P_assign (vb false) rfl) ?_
      refine L_nil ?_
      refine W_ret ?_
      exact ⟨[vs r5, vb true, vb false], ⟨_, rfl, ⟨_, rfl, ⟨_, rfl, rfl⟩⟩⟩, r5, true, false, rfl, H, aa.gr.g0, al⟩
 ·have H := ite_f H ae
  refine L_pass (dj := 39) rfl rfl (.inl (by exact congrArg Value.bool ae)) ?_
  refine L_pass (dj := 39) rfl rfl (.inl (by exact congrArg Value.bool ae)) ?_
  refine L_pass (dj := 39) rfl rfl (.inl (by exact congrArg Value.bool ae)) ?_
  refine L_pu (P_pick false (vb false) (by exact congrArg Value.bool ae) rfl) ?_
  refine L_pu (P_assign (vb false) rfl) ?_
  refine L_nil ?_
  refine W_cf (b := false) rfl rfl ?_
  refine W_seq ?_
  refine W_reg ?_
  refine L_pu (P_move (vs r5) rfl) ?_
  refine L_pu (P_move (vs r) rfl) ?_
  refine L_pu (P_scmp r5 r (r5 == r) rfl rfl rfl) ?_
  refine L_pu (P_move (vb (r5 == r)) rfl) ?_
  rcases bool_or (r5 == r) with ai | ai
  ·have H := ite_t H ai
   refine L_run (dj := 50) rfl rfl (by exact congrArg Value.bool ai) ?_
   refine L_pu (P_move (vb r6) rfl) ?_
   refine L_run (dj := 50) rfl rfl (by exact congrArg Value.bool ai) ?_
   refine L_pu (P_move (vb r2) rfl) ?_
   refine L_run (dj := 50) rfl rfl (by exact congrArg Value.bool ai) ?_
   refine L_pu (P_bcmp Try.underlying4 r6 r2 (r6 == r2) rfl rfl rfl) ?_
   refine L_pu (P_pick true (vb (r6 == r2)) (by exact congrArg Value.bool ai) rfl) ?_
   refine L_pu (P_move (vb (r6 == r2)) rfl) ?_
   rcases bool_or (r6 == r2) with ac | ac
   ·have H := ite_t H ac
    refine L_pass (dj := 55) rfl rfl (.inl (by exact congrArg Value.bool ac)) ?_
    refine L_pass (dj := 55) rfl rfl (.inl (by exact congrArg Value.bool ac)) ?_
    refine L_pass (dj := 55) rfl rfl (.inl (by exact congrArg Value.bool ac)) ?_
    refine L_pass (dj := 55) rfl rfl (.inl (by exact congrArg Value.bool ac)) ?_
    refine L_pass (dj := 59) rfl rfl (.inr rfl) ?_
    refine L_pass (dj := 59) rfl rfl (.inr rfl) ?_
    refine L_pass (dj := 59) rfl rfl (.inr rfl) ?_
    refine L_pass (dj := 55) rfl rfl (.inl (by exact congrArg Value.bool ac)) ?_
    refine L_pu (P_pick true (vb true) (by exact congrArg Value.bool ac) rfl) ?_
    refine L_pu (P_assign (vb true) rfl) ?_
    refine L_nil ?_
    refine W_ct (b := true) rfl rfl ?_
    refine W_seq ?_
    refine W_reg ?_
    refine L_pu (P_move (vs r3) rfl) ?_
    refine L_pu (P_move (vb r4) rfl) ?_
    refine L_pu (P_assign (vs r3) rfl) ?_
    refine L_pu (P_assign (vb r4) rfl) ?_
    refine L_pu (P_assign (vb true) rfl) ?_
    refine L_nil ?_
    refine W_ret ?_
    exact ⟨[vs r3, vb r4, vb true], ⟨_, rfl, ⟨_, rfl, ⟨_, rfl, rfl⟩⟩⟩, r3, r4, true, rfl, H, aa.gr.g0, ad⟩
   ·have H := ite_f H ac
    refine L_run (dj := 55) rfl rfl (by exact congrArg Value.bool ac) ?_
    refine L_pu (P_move (vs r3) rfl) ?_
    refine L_run (dj := 55) rfl rfl (by exact congrArg Value.bool ac) ?_
    refine L_pu (P_move (vs r5) rfl) ?_
    refine L_run (dj := 55) rfl rfl (by exact congrArg Value.bool ac) ?_
    refine L_pu (P_scmp r3 r5 (r3 == r5) rfl rfl rfl) ?_
    refine L_run (dj := 55) rfl rfl (by exact congrArg Value.bool ac) ?_
    refine L_pu (P_move (vb (r3 == r5)) rfl) ?_
    rcases bool_or (r3 == r5) with aj | aj
    ·have H := ite_t H aj
     refine L_run (dj := 59) rfl rfl (by exact congrArg Value.bool aj) ?_
     refine L_pu (P_move (vb r4) rfl) ?_
     refine L_run (dj := 59) rfl rfl (by exact congrArg Value.bool aj) ?_
     refine L_pu (P_move (vb r6) rfl) ?_
     refine L_run (dj := 59) rfl rfl (by exact congrArg Value.bool aj) ?_
     refine L_pu (P_bcmp Try.underlying4 r4 r6 (r4 == r6) rfl rfl rfl) ?_
     refine L_run (dj := 55) rfl rfl (by exact congrArg Value.bool ac) ?_
     refine L_pu (P_pick true (vb (r4 == r6)) (by exact congrArg Value.bool aj) rfl) ?_
     refine L_pu (P_pick false (vb (r4 == r6)) (by exact congrArg Value.bool ac) rfl) ?_
     refine L_pu (P_assign (vb (r4 == r6)) rfl) ?_
     refine L_nil ?_
     refine W_cond (r4 == r6) rfl (fun a1 => ?_) (fun a1 => ?_)
     ·have H := ite_t H a1
      refine W_seq ?_
      refine W_reg ?_
      refine L_pu (P_move (vs r3) rfl) ?_
      refine L_pu (P_move (vb r4) rfl) ?_
      refine L_pu (P_assign (vs r3) rfl) ?_
      refine L_pu (P_assign (vb r4) rfl) ?_
      refine L_pu (P_assign (vb true) rfl) ?_
      refine L_nil ?_
      refine W_ret ?_
      exact ⟨[vs r3, vb r4, vb true], ⟨_, rfl, ⟨_, rfl, ⟨_, rfl, rfl⟩⟩⟩, r3, r4, true, rfl, H, aa.gr.g0, ad⟩
     ·have H := ite_f H a1
      refine W_seq ?_
      refine W_reg ?_
      refine L_pu (P_move (vb r4) rfl) ?_
      refine L_pu (P_assign (vb r4) rfl) ?_
      refine L_nil ?_
      refine W_cond r4 rfl (fun a2 => ?_) (fun a2 => ?_)
      ·have H := ite_t H a2
       refine W_seq ?_
       refine W_reg ?_
       refine L_pu (P_move (vs r3) rfl) ?_
       refine L_pu (P_assign (vs r3) rfl) ?_
       refine L_pu (P_assign (vb true) rfl) ?_
       refine L_pu (P_assign (vb false) rfl) ?_
       refine L_nil ?_
       refine W_ret ?_
       exact ⟨[vs r3, vb true, vb false], ⟨_, rfl, ⟨_, rfl, ⟨_, rfl, rfl⟩⟩⟩, r3, true, false, rfl, H, aa.gr.g0, ad⟩
      ·have H := ite_f H a2
       refine W_skip ?_
       refine W_seq ?_
       refine W_reg ?_
       refine L_pu (P_move (vs r5) rfl) ?_
       refine L_pu (P_assign (vs r5) rfl) ?_
       refine L_pu (P_assign (vb true) rfl) ?_
       refine L_pu (P_assign (vb false) rfl) ?_
       refine L_nil ?_
       refine W_ret ?_
       exact ⟨[vs r5, vb true, vb false], ⟨_, rfl, ⟨_, rfl, ⟨_, rfl, rfl⟩⟩⟩, r5, true, false, rfl, H, aa.gr.g0, al⟩
    ·have H := ite_f H aj
     refine L_pass (dj := 59) rfl rfl (.inl (by exact congrArg Value.bool aj)) ?_
     refine L_pass (dj := 59) rfl rfl (.inl (by exact congrArg Value.bool aj)) ?_
     refine L_pass (dj := 59) rfl rfl (.inl (by exact congrArg Value.bool aj)) ?_
     refine L_run (dj := 55) rfl rfl (by exact congrArg Value.bool ac) ?_
     refine L_pu (P_pick false (vb false) (by exact congrArg Value.bool aj) rfl) ?_
     refine L_pu (P_pick false (vb false) (by exact congrArg Value.bool ac) rfl) ?_
     refine L_pu (P_assign (vb false) rfl) ?_
     refine L_nil ?_
     refine W_cf (b := false) rfl rfl ?_
     refine W_seq ?_
     refine W_reg ?_
     refine L_pu (P_move (vb r4) rfl) ?_
     refine L_pu (P_assign (vb r4) rfl) ?_
     refine L_nil ?_
     refine W_cond r4 rfl (fun a3 => ?_) (fun a3 => ?_)
     ·have H := ite_t H a3
      refine W_seq ?_
      refine W_reg ?_
      refine L_pu (P_move (vs r3) rfl) ?_
      refine L_pu (P_assign (vs r3) rfl) ?_
      refine L_pu (P_assign (vb true) rfl) ?_
      refine L_pu (P_assign (vb false) rfl) ?_
      refine L_nil ?_
      refine W_ret ?_
      exact ⟨[vs r3, vb true, vb false], ⟨_, rfl, ⟨_, rfl, ⟨_, rfl, rfl⟩⟩⟩, r3, true, false, rfl, H, aa.gr.g0, ad⟩
     ·have H := ite_f H a3
      refine W_skip ?_
      refine W_seq ?_
      refine W_reg ?_
      refine L_pu (P_move (vs r5) rfl) ?_
      refine L_pu (P_assign (vs r5) rfl) ?_
      refine L_pu (P_assign (vb true) rfl) ?_
      refine L_pu (P_assign (vb false) rfl) ?_
      refine L_nil ?_
      refine W_ret ?_
      exact ⟨[vs r5, vb true, vb false], ⟨_, rfl, ⟨_, rfl, ⟨_, rfl, rfl⟩⟩⟩, r5, true, false, rfl, H, aa.gr.g0, al⟩
  ·have H := ite_f H ai
   refine L_pass (dj := 50) rfl rfl (.inl (by exact congrArg Value.bool ai)) ?_
   refine L_pass (dj := 50) rfl rfl (.inl (by exact congrArg Value.bool ai)) ?_
   refine L_pass (dj := 50) rfl rfl (.inl (by exact congrArg Value.bool ai)) ?_
   refine L_pu (P_pick false (vb false) (by exact congrArg Value.bool ai) rfl) ?_
   refine L_pu (P_move (vb false) rfl) ?_
   refine L_run (dj := 55) rfl rfl rfl ?_
   refine L_pu (P_move (vs r3) rfl) ?_
   refine L_run (dj := 55) rfl rfl rfl ?_
   refine L_pu (P_move (vs r5) rfl) ?_
   refine L_run (dj := 55) rfl rfl rfl ?_
   refine L_pu (P_scmp r3 r5 (r3 == r5) rfl rfl rfl) ?_
   refine L_run (dj := 55) rfl rfl rfl ?_
   refine L_pu (P_move (vb (r3 == r5)) rfl) ?_
   rcases bool_or (r3 == r5) with ak | ak
   ·have H := ite_t H ak
    refine L_run (dj := 59) rfl rfl (by exact congrArg Value.bool ak) ?_
    refine L_pu (P_move (vb r4) rfl) ?_
    refine L_run (dj := 59) rfl rfl (by exact congrArg Value.bool ak) ?_
    refine L_pu (P_move (vb r6) rfl) ?_
    refine L_run (dj := 59) rfl rfl (by exact congrArg Value.bool ak) ?_
    refine L_pu (P_bcmp Try.underlying4 r4 r6 (r4 == r6) rfl rfl rfl) ?_
    refine L_run (dj := 55) rfl rfl rfl ?_
    refine L_pu (P_pick true (vb (r4 == r6)) (by exact congrArg Value.bool ak) rfl) ?_
    refine L_pu (P_pick false (vb (r4 == r6)) (by exact congrArg Value.bool rfl) rfl) ?_
    refine L_pu (P_assign (vb (r4 == r6)) rfl) ?_
    refine L_nil ?_
    refine W_cond (r4 == r6) rfl (fun a4 => ?_) (fun a4 => ?_)
    ·have H := ite_t H a4
     refine W_seq ?_
     refine W_reg ?_
     refine L_pu (P_move (vs r3) rfl) ?_
     refine L_pu (P_move (vb r4) rfl) ?_
     refine L_pu (P_assign (vs r3) rfl) ?_
     refine L_pu (P_assign (vb r4) rfl) ?_
     refine L_pu (P_assign (vb true) rfl) ?_
     refine L_nil ?_
     refine W_ret ?_
     exact ⟨[vs r3, vb r4, vb true], ⟨_, rfl, ⟨_, rfl, ⟨_, rfl, rfl⟩⟩⟩, r3, r4, true, rfl, H, aa.gr.g0, ad⟩
    ·have H := ite_f H a4
     refine W_seq ?_
     refine W_reg ?_
     refine L_pu (P_move (vb r4) rfl) ?_
     refine L_pu (P_assign (vb r4) rfl) ?_
     refine L_nil ?_
     refine W_cond r4 rfl (fun a5 => ?_) (fun a5 => ?_)
     ·have H := ite_t H a5
      refine W_seq ?_
      refine W_reg ?_
      refine L_pu (P_move (vs r3) rfl) ?_
      refine L_pu (P_assign (vs r3) rfl) ?_
      refine L_pu (P_assign (vb true) rfl) ?_
      refine L_pu (P_assign (vb false) rfl) ?_
      refine L_nil ?_
      refine W_ret ?_
      exact ⟨[vs r3, vb true, vb false], ⟨_, rfl, ⟨_, rfl, ⟨_, rfl, rfl⟩⟩⟩, r3, true, false, rfl, H, aa.gr.g0, ad⟩
     ·have H := ite_f H a5
      refine W_skip ?_
      refine W_seq ?_
      refine W_reg ?_
      refine L_pu (P_move (vs r5) rfl) ?_
      refine L_pu (P_assign (vs r5) rfl) ?_
      refine L_pu (P_assign (vb true) rfl) ?_
      refine L_pu (P_assign (vb false) rfl) ?_
      refine L_nil ?_
      refine W_ret ?_
      exact ⟨[vs r5, vb true, vb false], ⟨_, rfl, ⟨_, rfl, ⟨_, rfl, rfl⟩⟩⟩, r5, true, false, rfl, H, aa.gr.g0, al⟩
   ·have H := ite_f H ak
    refine L_pass (dj := 59) rfl rfl (.inl (by exact congrArg Value.bool ak)) ?_
    refine L_pass (dj := 59) rfl rfl (.inl (by exact congrArg Value.bool ak)) ?_
    refine L_pass (dj := 59) rfl rfl (.inl (by exact congrArg Value.bool ak)) ?_
    refine L_run (dj := 55) rfl rfl rfl ?_
    refine L_pu (P_pick false (vb false) (by exact congrArg Value.bool ak) rfl) ?_
    refine L_pu (P_pick false (vb false) (by exact congrArg Value.bool rfl) rfl) ?_
    refine L_pu (P_assign (vb false) rfl) ?_
    refine L_nil ?_
    refine W_cf (b := false) rfl rfl ?_
    refine W_seq ?_
    refine W_reg ?_
    refine L_pu (P_move (vb r4) rfl) ?_
    refine L_pu (P_assign (vb r4) rfl) ?_
    refine L_nil ?_
    refine W_cond r4 rfl (fun a6 => ?_) (fun a6 => ?_)
    ·have H := ite_t H a6
     refine W_seq ?_
     refine W_reg ?_
     refine L_pu (P_move (vs r3) rfl) ?_
     refine L_pu (P_assign (vs r3) rfl) ?_
     refine L_pu (P_assign (vb true) rfl) ?_
     refine L_pu (P_assign (vb false) rfl) ?_
     refine L_nil ?_
     refine W_ret ?_
     exact ⟨[vs r3, vb true, vb false], ⟨_, rfl, ⟨_, rfl, ⟨_, rfl, rfl⟩⟩⟩, r3, true, false, rfl, H, aa.gr.g0, ad⟩
    ·have H := ite_f H a6
     refine W_skip ?_
     refine W_seq ?_
     refine W_reg ?_
     refine L_pu (P_move (vs r5) rfl) ?_
     refine L_pu (P_assign (vs r5) rfl) ?_
     refine L_pu (P_assign (vb true) rfl) ?_
     refine L_pu (P_assign (vb false) rfl) ?_
     refine L_nil ?_
     refine W_ret ?_
     exact ⟨[vs r5, vb true, vb false], ⟨_, rfl, ⟨_, rfl, ⟨_, rfl, rfl⟩⟩⟩, r5, true, false, rfl, H, aa.gr.g0, al⟩
end Go.Proofs.Ytndjggncgpjolaa

namespace Go.Proofs.Ytndjggncgpjolaa
open Go.RowKit
set_option linter.unusedVariables false
set_option linter.unusedSimpArgs false
def spec_l2Copy.E (f : Feat) (Q : Feat → Prop) : Prop :=
 (([] : List Tag).length + f.Tags.length ≤ 268435456) ∧ spec_l1Copy.E f.Shape (fun r => Q (⟨f.Id, r, (([] : List Tag) ++ f.Tags)⟩ : Feat))
set_option maxHeartbeats 8000000 in
set_option maxRecDepth 100000 in
theorem spec_l2Copy.calls {O : Ob} (w0 : World) (hO : Ok w0 O) (f : Feat) (A2 : Option Addr) (n3 c4 : Nat) (A7 : Option Addr) (n8 c9 : Nat) (hs1 : Lim f.Id) (hp5 : Sl kPt w0 (Fr O) (.slice A2 n3 c4) f.Shape.Pts) (bn : Sl kTag w0 (Fr O) (.slice A7 n8 c9) f.Tags) (Q : Feat → Prop) (h : spec_l2Copy.E f Q) :
  Ret Try.prog 80 [.agg #[vs f.Id, vi f.Shape.Kind, .slice A2 n3 c4, .slice A7 n8 c9]] w0 (fun v w' => ∃ (r0 : Feat) (A0 : Option Addr) (n0 c0 : Nat) (A2 : Option Addr) (n2 c2 : Nat), v = .agg #[vs r0.Id, vi r0.Shape.Kind, .slice A0 n0 c0, .slice A2 n2 c2] ∧ Q r0 ∧ Gr w0 w' none ∧ Ok w' ([bk A0, bk A2] ++ O) ∧ (∀ b, some b ∈ [bk A0, bk A2] → w0.heap.size ≤ b) ∧ Lim r0.Id ∧ Ow kPt 29 w' ([bk A0, bk A2] ++ O) (.slice A0 n0 c0) r0.Shape.Pts ∧ Ow kTag 133 w' ([bk A0, bk A2] ++ O) (.slice A2 n2 c2) r0.Tags) := by
 unfold spec_l2Copy.E at h
 have H := h
 clear h
 have hc0 := Ct.init hO
 refine Ret_enter Try.func80 rfl 13 rfl [.cell 2 71] rfl rfl ?_
 refine W_seq ?_
 refine W_reg ?_
 refine L_box [vs f.Id, vi f.Shape.Kind, .slice A2 n3 c4, .slice A7 n8 c9] rfl fun df ac b3 hu16 b4 b5 => ?_
 have b6 := Fb.mk hc0.ok b3 b5
 have bo := hc0.k0 b4
 refine L_alloc [vs [], .int .i64 0, .slice none 0 0, .slice none 0 0] ze71 fun dg aa bp hu25 bq br => ?_
 have bs := bo.own bq (some aa) (oglt bp hu25)
 refine L_nil ?_
 refine W_seq ?_
 obtain ⟨bt, H⟩ := H
 refine W_join (J := (fun t ai => ∃ (r : Shape) (ad : Option Addr) (aj : Nat) (ak : Nat) (ae : Option Addr) (al : Nat) (am : Nat), Has t [(2, .pointer (some ⟨aa, 0, none⟩))] ∧ Ct [] w0 ai [bk ae, bk ad, some aa] O ∧ Ow kPt 29 ai ([bk ae, bk ad, some aa] ++ O) (.slice ad aj ak) r.Pts ∧ Ow kTag 133 ai ([bk ae, bk ad, some aa] ++ O) (.slice ae al am) (([] : List Tag) ++ f.Tags) ∧ Bx ai aa [vs f.Id, vi r.Kind, .slice ad aj ak, .slice ae al am] ∧ Q (⟨f.Id, r, (([] : List Tag) ++ f.Tags)⟩ : Feat))) ?_ ?_
 ·refine W_mixr 11 [some aa] (by kernel_rfl) rfl fun b7 ap ab => ?_
  have af := bs.k0 ap
  refine M_pu 0 rfl (by kernel_rfl) ab (P_fa fa71_0 ⟨ac, 0, none⟩ ⟨ac, 0, none⟩ rfl rfl) ?_
  have b8 := bo.stown _ bq (oge bp)
  have b9 := bs.stn ap
  have ah := ((b6.st b8).st b9)
  refine M_pu 1 rfl (by kernel_rfl) ab (P_ldr ag9 cR ⟨ac, 0, none⟩ (vs f.Id) rfl (ah.cell rfl) (nm_cons (af.fne 0 ah.2 rfl) nm_nil)) ?_
  refine M_pu 2 rfl (by kernel_rfl) ab (P_fa fa71_1 ⟨ac, 0, none⟩ ⟨ac, 1, none⟩ rfl rfl) ?_
  refine M_pu 3 rfl (by kernel_rfl) ab (P_ldar ag68 sz68 cR ⟨ac, 1, none⟩ [vi f.Shape.Kind, .slice A2 n3 c4] rfl rfl (ah.cells (off := 1) rfl) (nm_cons (af.fne 0 ah.2 rfl) nm_nil)) ?_
  refine M_pu 6 rfl (by kernel_rfl) ab (P_fa fa71_2 ⟨ac, 0, none⟩ ⟨ac, 3, none⟩ rfl rfl) ?_
  refine M_pu 7 rfl (by kernel_rfl) ab (P_ldr ag69 cR ⟨ac, 3, none⟩ (.slice A7 n8 c9) rfl (ah.cell rfl) (nm_cons (af.fne 0 ah.2 rfl) nm_nil)) ?_
  refine M_any2 4 5 (by kernel_rfl) rfl rfl ?_ ?_
  ·refine L_call go125 [.agg #[vi f.Shape.Kind, .slice A2 n3 c4]] rfl ((spec_l1Copy.calls b7 af.ok f.Shape A2 n3 c4 (hp5.st af.st) _ H).mono ?_)
   rintro _ bu ⟨r, an, aq, ar, rfl, H, bc, ca, cb, cc⟩
   have cd := af.owns bc ca cb
   have au := Gm.tm ab bc
   refine L_nil ⟨au, ?_⟩
   refine M_any1 5 (by kernel_rfl) rfl ?_
   refine L_lit (kd := kTag) ei69 cd ([] : List Tag) (cells := []) rfl (fun _ => by kernel_rfl) fun dh bv ce cf bd hr54 av cg => ?_
   have ag := Gm.tm au bd
   refine L_nil ⟨ag, ?_⟩
   refine M_any1 8 (by kernel_rfl) rfl ?_
   refine L_app ei69 av (.slice bv ce cf) ([] : List Tag) f.Tags rfl cg (.slice A7 n8 c9) rfl (bn.st av.st).sx 0 rfl bt fun di aw ax ay be bw az ch => ?_
   have bf := Gm.tq ag be (hv_new au hr54)
   have dj := hv_app (L := [bk bv, bk an, some aa]) (O := O) (i := 0) ag rfl (hv_new au hr54) bw az
   refine L_nil ⟨bf, ?_⟩
   refine M_pu 9 rfl (by kernel_rfl) bf (P_build (.agg #[vs f.Id, vi r.Kind, .slice an aq ar, .slice aw ax ay]) (fun _ => by kernel_rfl)) ?_
   refine M_any1 10 (by kernel_rfl) rfl ?_
   have ci := (av.bm (((br.k0 ap).k0 bc).k0 bd) 2 0 rfl rfl rfl be)
   refine L_stb aa 0 [vs ([] : Str), vi 0, .slice none 0 0, .slice none 0 0] [vs f.Id, vi r.Kind, .slice an aq ar, .slice aw ax ay] [vs f.Id, vi r.Kind, .slice an aq ar, .slice aw ax ay] rfl ci rfl sz71 rfl rfl rfl fun dk a0 cj => ?_
   have ck := az.wr 2 rfl a0
   have cl := Gm.tq bf a0 (hv_mem 0 rfl)
   refine L_nil ⟨cl, ?_⟩
   refine M_nil (by kernel_rfl) ?_
   have cm := (az.sw (av.sm (cc.so _ bd hr54) 1 0 rfl rfl rfl be bw) 1 2 rfl rfl rfl a0)
   have cn := (az.sw ch 0 2 rfl rfl rfl a0)
   exact ⟨r, an, aq, ar, aw, ax, ay, ⟨rfl, trivial⟩, ck, cm, cn, cj, H⟩
  ·refine L_lit (kd := kTag) ei69 af ([] : List Tag) (cells := []) rfl (fun _ => by kernel_rfl) fun bu bx co cp bz hr42 bg cq => ?_
   have b0 := Gm.tm ab bz
   refine L_nil ⟨b0, ?_⟩
   refine M_any1 4 (by kernel_rfl) rfl ?_
   refine L_call go125 [.agg #[vi f.Shape.Kind, .slice A2 n3 c4]] rfl ((spec_l1Copy.calls bu bg.ok f.Shape A2 n3 c4 (hp5.st bg.st) _ H).mono ?_)
   rintro _ dl ⟨r, ao, a1, a2, rfl, H, a3, cr, b1, cs⟩
   have a4 := bg.owns a3 cr b1
   have ag := Gm.tm b0 a3
   refine L_nil ⟨ag, ?_⟩
   refine M_any1 8 (by kernel_rfl) rfl ?_
   have ct := (cq.sos a3 b1)
   refine L_app ei69 a4 (.slice bx co cp) ([] : List Tag) f.Tags rfl ct (.slice A7 n8 c9) rfl (bn.st a4.st).sx 1 rfl bt fun dm a5 a6 a7 bh b2 a8 cu => ?_
   have bi := Gm.tq ag bh (hv_new ab hr42)
   have dn := hv_app (L := [bk ao, bk bx, some aa]) (O := O) (i := 1) ag rfl (hv_new ab hr42) b2 a8
   refine L_nil ⟨bi, ?_⟩
   refine M_pu 9 rfl (by kernel_rfl) bi (P_build (.agg #[vs f.Id, vi r.Kind, .slice ao a1 a2, .slice a5 a6 a7]) (fun _ => by kernel_rfl)) ?_
   refine M_any1 10 (by kernel_rfl) rfl ?_
   have cv := (a4.bm (((br.k0 ap).k0 bz).k0 a3) 2 1 rfl rfl rfl bh)
   refine L_stb aa 0 [vs ([] : Str), vi 0, .slice none 0 0, .slice none 0 0] [vs f.Id, vi r.Kind, .slice ao a1 a2, .slice a5 a6 a7] [vs f.Id, vi r.Kind, .slice ao a1 a2, .slice a5 a6 a7] rfl cv rfl sz71 rfl rfl rfl fun dp a9 cw => ?_
   have bj := a8.wr 2 rfl a9
   have cx := Gm.tq bi a9 (hv_mem 0 rfl)
   refine L_nil ⟨cx, ?_⟩
   refine M_nil (by kernel_rfl) ?_
   have cy := bj.perm (.swap _ _ _)
   have cz := (bj.sp (a8.sw (a4.sm cs 0 1 rfl rfl rfl bh b2) 0 2 rfl rfl rfl a9) (.swap _ _ _))
   have c1 := (bj.sp (a8.sw cu 1 2 rfl rfl rfl a9) (.swap _ _ _))
   have c3 := cw
   exact ⟨r, ao, a1, a2, a5, a6, a7, ⟨rfl, trivial⟩, cy, cz, c1, c3, H⟩
 ·rintro dq ai ⟨r, ad, aj, ak, ae, al, am, c5, ba, c6, c7, c8, H⟩
  obtain ⟨dr, rfl⟩ := Has.ins c5
  refine W_ret ?_
  have da := ba.bgv c8 2 rfl
  have bb := ba.drop 2 rfl
  have bl := bb.perm (.swap _ _ _)
  have db := bb.stp (.swap _ _ _)
  have dc := (da.st db)
  have dd := (bb.sp (ba.sd c6 1 2 rfl rfl rfl) (.swap _ _ _))
  have de := (bb.sp (ba.sd c7 0 2 rfl rfl rfl) (.swap _ _ _))
  exact ⟨[.agg #[vs f.Id, vi r.Kind, .slice ad aj ak, .slice ae al am]], ⟨_, _, rfl, dc.1.res rfl ag71 sz71, rfl⟩, (⟨f.Id, r, (([] : List Tag) ++ f.Tags)⟩ : Feat), ad, aj, ak, ae, al, am, rfl, H, bl.gr.g0, bl.ok, bl.ge, hs1, dd, de⟩
end Go.Proofs.Ytndjggncgpjolaa
