/- It is proved here that the law FnSeqCut of the given program holds whatever it is handed: the walks through the code, the plain laws and the row, in this order.
   Conditions: none. -/
import Derived.Below
import Derived.ChangeArms
import Derived.ChangeOld
import Derived.ChangeSlices
import Derived.DataReads
import Derived.Deep.Quiet
import Derived.KernelRfl
import Derived.Laws.Build
import Derived.Laws.IdiomStrings
import Derived.Laws.OwnMore
import Derived.Laws.Slices
import Derived.Laws.StructEq
import Derived.OpenShut
import Derived.ProofKit
import Derived.ShutString
import Derived.SizedLaws
import Derived.StillTail
import Derived.Test.YtndjggncgpjolaaProg
import Derived.Test.YtndjggncgpjolaaRows
import Derived.WalkKit
import Derived.Test.YtndjggncgpjolaaCSeqCuta
namespace Go.Proofs.Ytndjggncgpjolaa
open Go.RowKit
structure l12Rd where
  b : List UInt8
  p : Int
  deriving Inhabited, DecidableEq
def kl12Rd : Kd l12Rd := Kd.iso (Kd.pair (Kd.sl Kd.byte) (Kd.int .i64)) (fun x => (x.b, x.p))
theorem kl12Rd.mk (w : World) (S : Sp) (x : l12Rd) {A0 : Option Addr} {n0 c0 : Nat} (h0 : Sl Kd.byte w S (.slice A0 n0 c0) x.b) : kl12Rd.R w S x [.slice A0 n0 c0, vi x.p] := ⟨[.slice A0 n0 c0], [vi x.p], rfl, ⟨_, rfl, h0⟩, rfl⟩
theorem kl12Rd.op {w : World} {S : Sp} {x : l12Rd} {cs : List Value} (h : kl12Rd.R w S x cs) : ∃ A0 n0 c0, cs = [.slice A0 n0 c0, vi x.p] ∧ Sl Kd.byte w S (.slice A0 n0 c0) x.b := by
  obtain ⟨_, _, rfl, ⟨_, rfl, h1⟩, rfl⟩ := h
  obtain ⟨A901, c901, rfl⟩ := h1.shape
  exact ⟨A901, _, c901, rfl, h1⟩
structure Pt where
  X : Int
  Y : Int
  deriving Inhabited, DecidableEq
def kPt : Kd Pt := Kd.iso (Kd.pair (Kd.int .i64) (Kd.int .i64)) (fun x => (x.X, x.Y))
theorem kPt_flat : kPt.Flat := iso_flat (pair_flat (int_flat _) (int_flat _)) _
theorem kPt.mk (w : World) (S : Sp) (x : Pt) : kPt.R w S x [vi x.X, vi x.Y] := ⟨[vi x.X], [vi x.Y], rfl, rfl, rfl⟩
theorem kPt.op {w : World} {S : Sp} {x : Pt} {cs : List Value} (h : kPt.R w S x cs) : cs = [vi x.X, vi x.Y] := by
  obtain ⟨_, _, rfl, rfl, rfl⟩ := h
  exact rfl
structure Pair where
  A : Int
  B : Int
  deriving Inhabited, DecidableEq
def kPair : Kd Pair := Kd.iso (Kd.pair (Kd.int .i64) (Kd.int .i64)) (fun x => (x.A, x.B))
theorem kPair_flat : kPair.Flat := iso_flat (pair_flat (int_flat _) (int_flat _)) _
theorem kPair.mk (w : World) (S : Sp) (x : Pair) : kPair.R w S x [vi x.A, vi x.B] := ⟨[vi x.A], [vi x.B], rfl, rfl, rfl⟩
theorem kPair.op {w : World} {S : Sp} {x : Pair} {cs : List Value} (h : kPair.R w S x cs) : cs = [vi x.A, vi x.B] := by
  obtain ⟨_, _, rfl, rfl, rfl⟩ := h
  exact rfl
structure Shape where
  Kind : Int
  Pts : List Pt
  deriving Inhabited, DecidableEq
def kShape : Kd Shape := Kd.iso (Kd.pair (Kd.int .i64) (Kd.sl kPt)) (fun x => (x.Kind, x.Pts))
theorem kShape.mk (w : World) (S : Sp) (x : Shape) {A1 : Option Addr} {n1 c1 : Nat} (h1 : Sl kPt w S (.slice A1 n1 c1) x.Pts) : kShape.R w S x [vi x.Kind, .slice A1 n1 c1] := ⟨[vi x.Kind], [.slice A1 n1 c1], rfl, rfl, ⟨_, rfl, h1⟩⟩
theorem kShape.op {w : World} {S : Sp} {x : Shape} {cs : List Value} (h : kShape.R w S x cs) : ∃ A1 n1 c1, cs = [vi x.Kind, .slice A1 n1 c1] ∧ Sl kPt w S (.slice A1 n1 c1) x.Pts := by
  obtain ⟨_, _, rfl, rfl, ⟨_, rfl, h1⟩⟩ := h
  obtain ⟨A901, c901, rfl⟩ := h1.shape
  exact ⟨A901, _, c901, rfl, h1⟩
structure Tag where
  Key : Str
  Val : Str
  deriving Inhabited, DecidableEq
def kTag : Kd Tag := Kd.iso (Kd.pair Kd.str Kd.str) (fun x => (x.Key, x.Val))
theorem kTag_flat : kTag.Flat := iso_flat (pair_flat str_flat str_flat) _
theorem kTag.mk (w : World) (S : Sp) (x : Tag) (h0 : Lim x.Key) (h1 : Lim x.Val) : kTag.R w S x [vs x.Key, vs x.Val] := ⟨[vs x.Key], [vs x.Val], rfl, ⟨rfl, h0⟩, ⟨rfl, h1⟩⟩
theorem kTag.op {w : World} {S : Sp} {x : Tag} {cs : List Value} (h : kTag.R w S x cs) : cs = [vs x.Key, vs x.Val] ∧ Lim x.Key ∧ Lim x.Val := by
  obtain ⟨_, _, rfl, ⟨rfl, h1⟩, ⟨rfl, h2⟩⟩ := h
  exact ⟨rfl, h1, h2⟩
structure Feat where
  Id : Str
  Shape : Shape
  Tags : List Tag
  deriving Inhabited, DecidableEq
def kFeat : Kd Feat := Kd.iso (Kd.pair Kd.str (Kd.pair kShape (Kd.sl kTag))) (fun x => (x.Id, x.Shape, x.Tags))
theorem kFeat.mk (w : World) (S : Sp) (x : Feat) {A2 : Option Addr} {n2 c2 : Nat} {A3 : Option Addr} {n3 c3 : Nat} (h0 : Lim x.Id) (h2 : Sl kPt w S (.slice A2 n2 c2) x.Shape.Pts) (h3 : Sl kTag w S (.slice A3 n3 c3) x.Tags) : kFeat.R w S x [vs x.Id, vi x.Shape.Kind, .slice A2 n2 c2, .slice A3 n3 c3] := ⟨[vs x.Id], (([vi x.Shape.Kind] ++ [.slice A2 n2 c2]) ++ [.slice A3 n3 c3]), rfl, ⟨rfl, h0⟩, ⟨([vi x.Shape.Kind] ++ [.slice A2 n2 c2]), [.slice A3 n3 c3], rfl, ⟨[vi x.Shape.Kind], [.slice A2 n2 c2], rfl, rfl, ⟨_, rfl, h2⟩⟩, ⟨_, rfl, h3⟩⟩⟩
theorem kFeat.op {w : World} {S : Sp} {x : Feat} {cs : List Value} (h : kFeat.R w S x cs) : ∃ A2 n2 c2 A3 n3 c3, cs = [vs x.Id, vi x.Shape.Kind, .slice A2 n2 c2, .slice A3 n3 c3] ∧ Lim x.Id ∧ Sl kPt w S (.slice A2 n2 c2) x.Shape.Pts ∧ Sl kTag w S (.slice A3 n3 c3) x.Tags := by
  obtain ⟨_, _, rfl, ⟨rfl, h1⟩, ⟨_, _, rfl, ⟨_, _, rfl, rfl, ⟨_, rfl, h2⟩⟩, ⟨_, rfl, h3⟩⟩⟩ := h
  obtain ⟨A901, c901, rfl⟩ := h2.shape
  obtain ⟨A902, c902, rfl⟩ := h3.shape
  exact ⟨A901, _, c901, A902, _, c902, rfl, h1, h2, h3⟩
structure Commit where
  Up : List Int
  Sheet : List Feat
  Note : Str
  deriving Inhabited, DecidableEq
def kCommit : Kd Commit := Kd.iso (Kd.pair (Kd.sl (Kd.int .i64)) (Kd.pair (Kd.sl kFeat) Kd.str)) (fun x => (x.Up, x.Sheet, x.Note))
theorem kCommit.mk (w : World) (S : Sp) (x : Commit) {A0 : Option Addr} {n0 c0 : Nat} {A1 : Option Addr} {n1 c1 : Nat} (h0 : Sl (Kd.int .i64) w S (.slice A0 n0 c0) x.Up) (h1 : Sl kFeat w S (.slice A1 n1 c1) x.Sheet) (h2 : Lim x.Note) : kCommit.R w S x [.slice A0 n0 c0, .slice A1 n1 c1, vs x.Note] := ⟨[.slice A0 n0 c0], ([.slice A1 n1 c1] ++ [vs x.Note]), rfl, ⟨_, rfl, h0⟩, ⟨[.slice A1 n1 c1], [vs x.Note], rfl, ⟨_, rfl, h1⟩, ⟨rfl, h2⟩⟩⟩
theorem kCommit.op {w : World} {S : Sp} {x : Commit} {cs : List Value} (h : kCommit.R w S x cs) : ∃ A0 n0 c0 A1 n1 c1, cs = [.slice A0 n0 c0, .slice A1 n1 c1, vs x.Note] ∧ Sl (Kd.int .i64) w S (.slice A0 n0 c0) x.Up ∧ Sl kFeat w S (.slice A1 n1 c1) x.Sheet ∧ Lim x.Note := by
  obtain ⟨_, _, rfl, ⟨_, rfl, h1⟩, ⟨_, _, rfl, ⟨_, rfl, h2⟩, ⟨rfl, h3⟩⟩⟩ := h
  obtain ⟨A901, c901, rfl⟩ := h1.shape
  obtain ⟨A902, c902, rfl⟩ := h2.shape
  exact ⟨A901, _, c901, A902, _, c902, rfl, h1, h2, h3⟩
structure Head where
  Name : Str
  At : Int
  deriving Inhabited, DecidableEq
def kHead : Kd Head := Kd.iso (Kd.pair Kd.str (Kd.int .i64)) (fun x => (x.Name, x.At))
theorem kHead_flat : kHead.Flat := iso_flat (pair_flat str_flat (int_flat _)) _
theorem kHead.mk (w : World) (S : Sp) (x : Head) (h0 : Lim x.Name) : kHead.R w S x [vs x.Name, vi x.At] := ⟨[vs x.Name], [vi x.At], rfl, ⟨rfl, h0⟩, rfl⟩
theorem kHead.op {w : World} {S : Sp} {x : Head} {cs : List Value} (h : kHead.R w S x cs) : cs = [vs x.Name, vi x.At] ∧ Lim x.Name := by
  obtain ⟨_, _, rfl, ⟨rfl, h1⟩, rfl⟩ := h
  exact ⟨rfl, h1⟩
structure Repo where
  Commits : List Commit
  Heads : List Head
  deriving Inhabited, DecidableEq
def kRepo : Kd Repo := Kd.iso (Kd.pair (Kd.sl kCommit) (Kd.sl kHead)) (fun x => (x.Commits, x.Heads))
theorem kRepo.mk (w : World) (S : Sp) (x : Repo) {A0 : Option Addr} {n0 c0 : Nat} {A1 : Option Addr} {n1 c1 : Nat} (h0 : Sl kCommit w S (.slice A0 n0 c0) x.Commits) (h1 : Sl kHead w S (.slice A1 n1 c1) x.Heads) : kRepo.R w S x [.slice A0 n0 c0, .slice A1 n1 c1] := ⟨[.slice A0 n0 c0], [.slice A1 n1 c1], rfl, ⟨_, rfl, h0⟩, ⟨_, rfl, h1⟩⟩
theorem kRepo.op {w : World} {S : Sp} {x : Repo} {cs : List Value} (h : kRepo.R w S x cs) : ∃ A0 n0 c0 A1 n1 c1, cs = [.slice A0 n0 c0, .slice A1 n1 c1] ∧ Sl kCommit w S (.slice A0 n0 c0) x.Commits ∧ Sl kHead w S (.slice A1 n1 c1) x.Heads := by
  obtain ⟨_, _, rfl, ⟨_, rfl, h1⟩, ⟨_, rfl, h2⟩⟩ := h
  obtain ⟨A901, c901, rfl⟩ := h1.shape
  obtain ⟨A902, c902, rfl⟩ := h2.shape
  exact ⟨A901, _, c901, A902, _, c902, rfl, h1, h2⟩
structure Change where
  Id : Str
  Had : Bool
  Was : Feat
  Has : Bool
  Now : Feat
  deriving Inhabited, DecidableEq
def kChange : Kd Change := Kd.iso (Kd.pair Kd.str (Kd.pair Kd.bool (Kd.pair kFeat (Kd.pair Kd.bool kFeat)))) (fun x => (x.Id, x.Had, x.Was, x.Has, x.Now))
theorem kChange.mk (w : World) (S : Sp) (x : Change) {A4 : Option Addr} {n4 c4 : Nat} {A5 : Option Addr} {n5 c5 : Nat} {A9 : Option Addr} {n9 c9 : Nat} {A10 : Option Addr} {n10 c10 : Nat} (h0 : Lim x.Id) (h2 : Lim x.Was.Id) (h4 : Sl kPt w S (.slice A4 n4 c4) x.Was.Shape.Pts) (h5 : Sl kTag w S (.slice A5 n5 c5) x.Was.Tags) (h7 : Lim x.Now.Id) (h9 : Sl kPt w S (.slice A9 n9 c9) x.Now.Shape.Pts) (h10 : Sl kTag w S (.slice A10 n10 c10) x.Now.Tags) : kChange.R w S x [vs x.Id, vb x.Had, vs x.Was.Id, vi x.Was.Shape.Kind, .slice A4 n4 c4, .slice A5 n5 c5, vb x.Has, vs x.Now.Id, vi x.Now.Shape.Kind, .slice A9 n9 c9, .slice A10 n10 c10] := ⟨[vs x.Id], ([vb x.Had] ++ (([vs x.Was.Id] ++ (([vi x.Was.Shape.Kind] ++ [.slice A4 n4 c4]) ++ [.slice A5 n5 c5])) ++ ([vb x.Has] ++ ([vs x.Now.Id] ++ (([vi x.Now.Shape.Kind] ++ [.slice A9 n9 c9]) ++ [.slice A10 n10 c10]))))), rfl, ⟨rfl, h0⟩, ⟨[vb x.Had], (([vs x.Was.Id] ++ (([vi x.Was.Shape.Kind] ++ [.slice A4 n4 c4]) ++ [.slice A5 n5 c5])) ++ ([vb x.Has] ++ ([vs x.Now.Id] ++ (([vi x.Now.Shape.Kind] ++ [.slice A9 n9 c9]) ++ [.slice A10 n10 c10])))), rfl, rfl, ⟨([vs x.Was.Id] ++ (([vi x.Was.Shape.Kind] ++ [.slice A4 n4 c4]) ++ [.slice A5 n5 c5])), ([vb x.Has] ++ ([vs x.Now.Id] ++ (([vi x.Now.Shape.Kind] ++ [.slice A9 n9 c9]) ++ [.slice A10 n10 c10]))), rfl, ⟨[vs x.Was.Id], (([vi x.Was.Shape.Kind] ++ [.slice A4 n4 c4]) ++ [.slice A5 n5 c5]), rfl, ⟨rfl, h2⟩, ⟨([vi x.Was.Shape.Kind] ++ [.slice A4 n4 c4]), [.slice A5 n5 c5], rfl, ⟨[vi x.Was.Shape.Kind], [.slice A4 n4 c4], rfl, rfl, ⟨_, rfl, h4⟩⟩, ⟨_, rfl, h5⟩⟩⟩, ⟨[vb x.Has], ([vs x.Now.Id] ++ (([vi x.Now.Shape.Kind] ++ [.slice A9 n9 c9]) ++ [.slice A10 n10 c10])), rfl, rfl, ⟨[vs x.Now.Id], (([vi x.Now.Shape.Kind] ++ [.slice A9 n9 c9]) ++ [.slice A10 n10 c10]), rfl, ⟨rfl, h7⟩, ⟨([vi x.Now.Shape.Kind] ++ [.slice A9 n9 c9]), [.slice A10 n10 c10], rfl, ⟨[vi x.Now.Shape.Kind], [.slice A9 n9 c9], rfl, rfl, ⟨_, rfl, h9⟩⟩, ⟨_, rfl, h10⟩⟩⟩⟩⟩⟩⟩
theorem kChange.op {w : World} {S : Sp} {x : Change} {cs : List Value} (h : kChange.R w S x cs) : ∃ A4 n4 c4 A5 n5 c5 A9 n9 c9 A10 n10 c10, cs = [vs x.Id, vb x.Had, vs x.Was.Id, vi x.Was.Shape.Kind, .slice A4 n4 c4, .slice A5 n5 c5, vb x.Has, vs x.Now.Id, vi x.Now.Shape.Kind, .slice A9 n9 c9, .slice A10 n10 c10] ∧ Lim x.Id ∧ Lim x.Was.Id ∧ Sl kPt w S (.slice A4 n4 c4) x.Was.Shape.Pts ∧ Sl kTag w S (.slice A5 n5 c5) x.Was.Tags ∧ Lim x.Now.Id ∧ Sl kPt w S (.slice A9 n9 c9) x.Now.Shape.Pts ∧ Sl kTag w S (.slice A10 n10 c10) x.Now.Tags := by
  obtain ⟨_, _, rfl, ⟨rfl, h1⟩, ⟨_, _, rfl, rfl, ⟨_, _, rfl, ⟨_, _, rfl, ⟨rfl, h2⟩, ⟨_, _, rfl, ⟨_, _, rfl, rfl, ⟨_, rfl, h3⟩⟩, ⟨_, rfl, h4⟩⟩⟩, ⟨_, _, rfl, rfl, ⟨_, _, rfl, ⟨rfl, h5⟩, ⟨_, _, rfl, ⟨_, _, rfl, rfl, ⟨_, rfl, h6⟩⟩, ⟨_, rfl, h7⟩⟩⟩⟩⟩⟩⟩ := h
  obtain ⟨A901, c901, rfl⟩ := h3.shape
  obtain ⟨A902, c902, rfl⟩ := h4.shape
  obtain ⟨A903, c903, rfl⟩ := h6.shape
  obtain ⟨A904, c904, rfl⟩ := h7.shape
  exact ⟨A901, _, c901, A902, _, c902, A903, _, c903, A904, _, c904, rfl, h1, h2, h3, h4, h5, h6, h7⟩
structure value where
  has : Bool
  val : Str
  deriving Inhabited, DecidableEq
def kvalue : Kd value := Kd.iso (Kd.pair Kd.bool Kd.str) (fun x => (x.has, x.val))
theorem kvalue_flat : kvalue.Flat := iso_flat (pair_flat bool_flat str_flat) _
theorem kvalue.mk (w : World) (S : Sp) (x : value) (h1 : Lim x.val) : kvalue.R w S x [vb x.has, vs x.val] := ⟨[vb x.has], [vs x.val], rfl, rfl, ⟨rfl, h1⟩⟩
theorem kvalue.op {w : World} {S : Sp} {x : value} {cs : List Value} (h : kvalue.R w S x cs) : cs = [vb x.has, vs x.val] ∧ Lim x.val := by
  obtain ⟨_, _, rfl, rfl, ⟨rfl, h1⟩⟩ := h
  exact ⟨rfl, h1⟩
theorem ag100 : IsAgg Try.prog 100 true := IsAgg_mk Try.underlying100
theorem ag103 : IsAgg Try.prog 103 true := IsAgg_mk Try.underlying103
theorem ag133 : IsAgg Try.prog 133 true := IsAgg_mk Try.underlying133
theorem ag135 : IsAgg Try.prog 135 true := IsAgg_mk Try.underlying135
theorem ag148 : IsAgg Try.prog 148 true := IsAgg_mk Try.underlying148
theorem ag166 : IsAgg Try.prog 166 true := IsAgg_mk Try.underlying166
theorem ag201 : IsAgg Try.prog 201 true := IsAgg_mk Try.underlying201
theorem ag22 : IsAgg Try.prog 22 false := IsAgg_mk Try.underlying22
theorem ag23 : IsAgg Try.prog 23 false := IsAgg_mk Try.underlying23
theorem ag29 : IsAgg Try.prog 29 true := IsAgg_mk Try.underlying29
theorem ag3 : IsAgg Try.prog 3 false := IsAgg_mk Try.underlying3
theorem ag32 : IsAgg Try.prog 32 false := IsAgg_mk Try.underlying32
theorem ag33 : IsAgg Try.prog 33 false := IsAgg_mk Try.underlying33
theorem ag35 : IsAgg Try.prog 35 true := IsAgg_mk Try.underlying35
theorem ag4 : IsAgg Try.prog 4 false := IsAgg_mk Try.underlying4
theorem ag43 : IsAgg Try.prog 43 false := IsAgg_mk Try.underlying43
theorem ag5 : IsAgg Try.prog 5 false := IsAgg_mk Try.underlying5
theorem ag52 : IsAgg Try.prog 52 false := IsAgg_mk Try.underlying52
theorem ag60 : IsAgg Try.prog 60 false := IsAgg_mk Try.underlying60
theorem ag62 : IsAgg Try.prog 62 true := IsAgg_mk Try.underlying62
theorem ag63 : IsAgg Try.prog 63 false := IsAgg_mk Try.underlying63
theorem ag65 : IsAgg Try.prog 65 true := IsAgg_mk Try.underlying65
theorem ag68 : IsAgg Try.prog 68 true := IsAgg_mk Try.underlying68
theorem ag69 : IsAgg Try.prog 69 false := IsAgg_mk Try.underlying69
theorem ag71 : IsAgg Try.prog 71 true := IsAgg_mk Try.underlying71
theorem ag89 : IsAgg Try.prog 89 false := IsAgg_mk Try.underlying89
theorem ag9 : IsAgg Try.prog 9 false := IsAgg_mk Try.underlying9
theorem ag91 : IsAgg Try.prog 91 true := IsAgg_mk Try.underlying91
theorem ag93 : IsAgg Try.prog 93 true := IsAgg_mk Try.underlying93
def dShape_68 : Dd kShape := Dd.iso (Dd.pair (Dd.flat (k := (Kd.int .i64)) (int_flat _)) (Dd.sl (Dd.flat kPt_flat) 29)) (fun x : Shape => (x.Kind, x.Pts))
theorem dShape_68.mk (w : World) (x : Shape) {A1 : Option Addr} {n1 c1 : Nat} {r1 : Ob} (h1 : Ds (Dd.flat kPt_flat) 29 w r1 (.slice A1 n1 c1) x.Pts) : dShape_68.D w ([] ++ r1) x [vi x.Kind, .slice A1 n1 c1] := ⟨_, _, [vi x.Kind], [.slice A1 n1 c1], rfl, rfl, ⟨rfl, rfl⟩, ⟨_, rfl, h1⟩⟩
def dFeat_71 : Dd kFeat := Dd.iso (Dd.pair (Dd.flat (k := Kd.str) str_flat) (Dd.pair dShape_68 (Dd.sl (Dd.flat kTag_flat) 133))) (fun x : Feat => (x.Id, x.Shape, x.Tags))
theorem dFeat_71.mk (w : World) (x : Feat) {A2 : Option Addr} {n2 c2 : Nat} {A3 : Option Addr} {n3 c3 : Nat} {r2 : Ob} {r3 : Ob} (h0 : Lim x.Id) (h2 : Ds (Dd.flat kPt_flat) 29 w r2 (.slice A2 n2 c2) x.Shape.Pts) (h3 : Ds (Dd.flat kTag_flat) 133 w r3 (.slice A3 n3 c3) x.Tags) : dFeat_71.D w ([] ++ (([] ++ r2) ++ r3)) x [vs x.Id, vi x.Shape.Kind, .slice A2 n2 c2, .slice A3 n3 c3] := ⟨_, _, [vs x.Id], (([vi x.Shape.Kind] ++ [.slice A2 n2 c2]) ++ [.slice A3 n3 c3]), rfl, rfl, ⟨rfl, rfl, h0⟩, ⟨_, _, ([vi x.Shape.Kind] ++ [.slice A2 n2 c2]), [.slice A3 n3 c3], rfl, rfl, ⟨_, _, [vi x.Shape.Kind], [.slice A2 n2 c2], rfl, rfl, ⟨rfl, rfl⟩, ⟨_, rfl, h2⟩⟩, ⟨_, rfl, h3⟩⟩⟩
def dChange_103 : Dd kChange := Dd.iso (Dd.pair (Dd.flat (k := Kd.str) str_flat) (Dd.pair (Dd.flat (k := Kd.bool) bool_flat) (Dd.pair dFeat_71 (Dd.pair (Dd.flat (k := Kd.bool) bool_flat) dFeat_71)))) (fun x : Change => (x.Id, x.Had, x.Was, x.Has, x.Now))
theorem dChange_103.mk (w : World) (x : Change) {A4 : Option Addr} {n4 c4 : Nat} {A5 : Option Addr} {n5 c5 : Nat} {A9 : Option Addr} {n9 c9 : Nat} {A10 : Option Addr} {n10 c10 : Nat} {r4 : Ob} {r5 : Ob} {r9 : Ob} {r10 : Ob} (h0 : Lim x.Id) (h2 : Lim x.Was.Id) (h4 : Ds (Dd.flat kPt_flat) 29 w r4 (.slice A4 n4 c4) x.Was.Shape.Pts) (h5 : Ds (Dd.flat kTag_flat) 133 w r5 (.slice A5 n5 c5) x.Was.Tags) (h7 : Lim x.Now.Id) (h9 : Ds (Dd.flat kPt_flat) 29 w r9 (.slice A9 n9 c9) x.Now.Shape.Pts) (h10 : Ds (Dd.flat kTag_flat) 133 w r10 (.slice A10 n10 c10) x.Now.Tags) : dChange_103.D w ([] ++ ([] ++ (([] ++ (([] ++ r4) ++ r5)) ++ ([] ++ ([] ++ (([] ++ r9) ++ r10)))))) x [vs x.Id, vb x.Had, vs x.Was.Id, vi x.Was.Shape.Kind, .slice A4 n4 c4, .slice A5 n5 c5, vb x.Has, vs x.Now.Id, vi x.Now.Shape.Kind, .slice A9 n9 c9, .slice A10 n10 c10] := ⟨_, _, [vs x.Id], ([vb x.Had] ++ (([vs x.Was.Id] ++ (([vi x.Was.Shape.Kind] ++ [.slice A4 n4 c4]) ++ [.slice A5 n5 c5])) ++ ([vb x.Has] ++ ([vs x.Now.Id] ++ (([vi x.Now.Shape.Kind] ++ [.slice A9 n9 c9]) ++ [.slice A10 n10 c10]))))), rfl, rfl, ⟨rfl, rfl, h0⟩, ⟨_, _, [vb x.Had], (([vs x.Was.Id] ++ (([vi x.Was.Shape.Kind] ++ [.slice A4 n4 c4]) ++ [.slice A5 n5 c5])) ++ ([vb x.Has] ++ ([vs x.Now.Id] ++ (([vi x.Now.Shape.Kind] ++ [.slice A9 n9 c9]) ++ [.slice A10 n10 c10])))), rfl, rfl, ⟨rfl, rfl⟩, ⟨_, _, ([vs x.Was.Id] ++ (([vi x.Was.Shape.Kind] ++ [.slice A4 n4 c4]) ++ [.slice A5 n5 c5])), ([vb x.Has] ++ ([vs x.Now.Id] ++ (([vi x.Now.Shape.Kind] ++ [.slice A9 n9 c9]) ++ [.slice A10 n10 c10]))), rfl, rfl, ⟨_, _, [vs x.Was.Id], (([vi x.Was.Shape.Kind] ++ [.slice A4 n4 c4]) ++ [.slice A5 n5 c5]), rfl, rfl, ⟨rfl, rfl, h2⟩, ⟨_, _, ([vi x.Was.Shape.Kind] ++ [.slice A4 n4 c4]), [.slice A5 n5 c5], rfl, rfl, ⟨_, _, [vi x.Was.Shape.Kind], [.slice A4 n4 c4], rfl, rfl, ⟨rfl, rfl⟩, ⟨_, rfl, h4⟩⟩, ⟨_, rfl, h5⟩⟩⟩, ⟨_, _, [vb x.Has], ([vs x.Now.Id] ++ (([vi x.Now.Shape.Kind] ++ [.slice A9 n9 c9]) ++ [.slice A10 n10 c10])), rfl, rfl, ⟨rfl, rfl⟩, ⟨_, _, [vs x.Now.Id], (([vi x.Now.Shape.Kind] ++ [.slice A9 n9 c9]) ++ [.slice A10 n10 c10]), rfl, rfl, ⟨rfl, rfl, h7⟩, ⟨_, _, ([vi x.Now.Shape.Kind] ++ [.slice A9 n9 c9]), [.slice A10 n10 c10], rfl, rfl, ⟨_, _, [vi x.Now.Shape.Kind], [.slice A9 n9 c9], rfl, rfl, ⟨rfl, rfl⟩, ⟨_, rfl, h9⟩⟩, ⟨_, rfl, h10⟩⟩⟩⟩⟩⟩⟩
def dCommit_91 : Dd kCommit := Dd.iso (Dd.pair (Dd.sl (Dd.flat (k := (Kd.int .i64)) (int_flat _)) 3) (Dd.pair (Dd.sl dFeat_71 71) (Dd.flat (k := Kd.str) str_flat))) (fun x : Commit => (x.Up, x.Sheet, x.Note))
theorem dCommit_91.mk (w : World) (x : Commit) {A0 : Option Addr} {n0 c0 : Nat} {A1 : Option Addr} {n1 c1 : Nat} {r0 : Ob} {r1 : Ob} (h0 : Ds (Dd.flat (k := (Kd.int .i64)) (int_flat _)) 3 w r0 (.slice A0 n0 c0) x.Up) (h1 : Ds dFeat_71 71 w r1 (.slice A1 n1 c1) x.Sheet) (h2 : Lim x.Note) : dCommit_91.D w (r0 ++ (r1 ++ [])) x [.slice A0 n0 c0, .slice A1 n1 c1, vs x.Note] := ⟨_, _, [.slice A0 n0 c0], ([.slice A1 n1 c1] ++ [vs x.Note]), rfl, rfl, ⟨_, rfl, h0⟩, ⟨_, _, [.slice A1 n1 c1], [vs x.Note], rfl, rfl, ⟨_, rfl, h1⟩, ⟨rfl, rfl, h2⟩⟩⟩
theorem ei145 : EI Try.prog 145 89 1 24 [.slice none 0 0] := EI_mk (z := .slice none 0 0) Try.underlying145 (by kernel_rfl) rfl rfl (by decide) (by decide)
theorem ei156 : EI Try.prog 156 52 1 24 [.slice none 0 0] := EI_mk (z := .slice none 0 0) Try.underlying156 (by kernel_rfl) rfl rfl (by decide) (by decide)
theorem ei158 : EI Try.prog 158 43 1 24 [.slice none 0 0] := EI_mk (z := .slice none 0 0) Try.underlying158 (by kernel_rfl) rfl rfl (by decide) (by decide)
theorem ei175 : EI Try.prog 175 69 1 24 [.slice none 0 0] := EI_mk (z := .slice none 0 0) Try.underlying175 (by kernel_rfl) rfl rfl (by decide) (by decide)
theorem ei22 : EI Try.prog 22 5 1 1 [.int .u8 0] := EI_mk (z := .int .u8 0) Try.underlying22 (by kernel_rfl) rfl rfl (by decide) (by decide)
theorem ei23 : EI Try.prog 23 29 2 16 [.int .i64 0, .int .i64 0] := EI_mk (z := .agg #[.int .i64 0, .int .i64 0]) Try.underlying23 (by kernel_rfl) rfl rfl (by decide) (by decide)
theorem ei32 : EI Try.prog 32 91 3 64 [.slice none 0 0, .slice none 0 0, vs []] := EI_mk (z := .agg #[.slice none 0 0, .slice none 0 0, vs []]) Try.underlying32 (by kernel_rfl) rfl rfl (by decide) (by decide)
theorem ei33 : EI Try.prog 33 93 2 24 [vs [], .int .i64 0] := EI_mk (z := .agg #[vs [], .int .i64 0]) Try.underlying33 (by kernel_rfl) rfl rfl (by decide) (by decide)
theorem ei43 : EI Try.prog 43 103 11 176 [vs [], vb false, vs [], .int .i64 0, .slice none 0 0, .slice none 0 0, vb false, vs [], .int .i64 0, .slice none 0 0, .slice none 0 0] := EI_mk (z := .agg #[vs [], vb false, vs [], .int .i64 0, .slice none 0 0, .slice none 0 0, vb false, vs [], .int .i64 0, .slice none 0 0, .slice none 0 0]) Try.underlying43 (by kernel_rfl) rfl rfl (by decide) (by decide)
theorem ei52 : EI Try.prog 52 71 4 72 [vs [], .int .i64 0, .slice none 0 0, .slice none 0 0] := EI_mk (z := .agg #[vs [], .int .i64 0, .slice none 0 0, .slice none 0 0]) Try.underlying52 (by kernel_rfl) rfl rfl (by decide) (by decide)
theorem ei69 : EI Try.prog 69 133 2 32 [vs [], vs []] := EI_mk (z := .agg #[vs [], vs []]) Try.underlying69 (by kernel_rfl) rfl rfl (by decide) (by decide)
theorem ei72 : EI Try.prog 72 9 1 16 [vs []] := EI_mk (z := vs []) Try.underlying72 (by kernel_rfl) rfl rfl (by decide) (by decide)
theorem ei86 : EI Try.prog 86 148 2 16 [.int .i64 0, .int .i64 0] := EI_mk (z := .agg #[.int .i64 0, .int .i64 0]) Try.underlying86 (by kernel_rfl) rfl rfl (by decide) (by decide)
theorem ei89 : EI Try.prog 89 3 1 8 [.int .i64 0] := EI_mk (z := .int .i64 0) Try.underlying89 (by kernel_rfl) rfl rfl (by decide) (by decide)
theorem se145 : SizeOf Try.prog 89 1 := SizeOf_mk (by kernel_rfl)
theorem se156 : SizeOf Try.prog 52 1 := SizeOf_mk (by kernel_rfl)
theorem se158 : SizeOf Try.prog 43 1 := SizeOf_mk (by kernel_rfl)
theorem se175 : SizeOf Try.prog 69 1 := SizeOf_mk (by kernel_rfl)
theorem se22 : SizeOf Try.prog 5 1 := SizeOf_mk (by kernel_rfl)
theorem se23 : SizeOf Try.prog 29 2 := SizeOf_mk (by kernel_rfl)
theorem se32 : SizeOf Try.prog 91 3 := SizeOf_mk (by kernel_rfl)
theorem se33 : SizeOf Try.prog 93 2 := SizeOf_mk (by kernel_rfl)
theorem se41 : SizeOf Try.prog 100 11 := SizeOf_mk (by kernel_rfl)
theorem se43 : SizeOf Try.prog 103 11 := SizeOf_mk (by kernel_rfl)
theorem se49 : SizeOf Try.prog 65 4 := SizeOf_mk (by kernel_rfl)
theorem se52 : SizeOf Try.prog 71 4 := SizeOf_mk (by kernel_rfl)
theorem se60 : SizeOf Try.prog 201 2 := SizeOf_mk (by kernel_rfl)
theorem se63 : SizeOf Try.prog 166 2 := SizeOf_mk (by kernel_rfl)
theorem se69 : SizeOf Try.prog 133 2 := SizeOf_mk (by kernel_rfl)
theorem se72 : SizeOf Try.prog 9 1 := SizeOf_mk (by kernel_rfl)
theorem se86 : SizeOf Try.prog 148 2 := SizeOf_mk (by kernel_rfl)
theorem se89 : SizeOf Try.prog 3 1 := SizeOf_mk (by kernel_rfl)
def eqTag (a b : Tag) : Bool := (a.Key == b.Key) && (a.Val == b.Val)
theorem eqTag_is (x y : Tag) : eqTag x y = decide (x = y) := by
  obtain ⟨a, b⟩ := x; obtain ⟨c, d⟩ := y
  simp only [eqTag, Tag.mk.injEq, Bool.decide_and]
  by_cases h1 : a = c <;> by_cases h2 : b = d <;> simp [h1, h2]
theorem qt133 (a b : Tag) : EqT Try.prog 133 [vs a.Key, vs a.Val] [vs b.Key, vs b.Val] (eqTag a b) := EqT_mk2 Try.underlying133 (by kernel_rfl) (by kernel_rfl) (by decide) (cmp1_str Try.underlying9 _ _) (cmp1_str Try.underlying9 _ _)
def eqvalue (a b : value) : Bool := (a.has == b.has) && (a.val == b.val)
theorem eqvalue_is (x y : value) : eqvalue x y = decide (x = y) := by
  obtain ⟨a, b⟩ := x; obtain ⟨c, d⟩ := y
  simp only [eqvalue, value.mk.injEq, Bool.decide_and]
  by_cases h1 : a = c <;> by_cases h2 : b = d <;> simp [h1, h2]
theorem qt135 (a b : value) : EqT Try.prog 135 [vb a.has, vs a.val] [vb b.has, vs b.val] (eqvalue a b) := EqT_mk2 Try.underlying135 (by kernel_rfl) (by kernel_rfl) (by decide) (cmp1_bool Try.underlying4 _ _) (cmp1_str Try.underlying9 _ _)
def eqPt (a b : Pt) : Bool := (a.X == b.X) && (a.Y == b.Y)
theorem eqPt_is (x y : Pt) : eqPt x y = decide (x = y) := by
  obtain ⟨a, b⟩ := x; obtain ⟨c, d⟩ := y
  simp only [eqPt, Pt.mk.injEq, Bool.decide_and]
  by_cases h1 : a = c <;> by_cases h2 : b = d <;> simp [h1, h2]
theorem qt29 (a b : Pt) : EqT Try.prog 29 [vi a.X, vi a.Y] [vi b.X, vi b.Y] (eqPt a b) := EqT_mk2 Try.underlying29 (by kernel_rfl) (by kernel_rfl) (by decide) (cmp1_int Try.underlying3 _ _) (cmp1_int Try.underlying3 _ _)
theorem fa100_0 : FA Try.prog 100 0 0 := FA_mk 1 0 Try.underlying100 rfl (by kernel_rfl) (by decide) rfl
theorem fa100_1 : FA Try.prog 100 1 1 := FA_mk 1 1 Try.underlying100 rfl (by kernel_rfl) (by decide) rfl
theorem fa100_2 : FA Try.prog 100 2 2 := FA_mk 4 2 Try.underlying100 rfl (by kernel_rfl) (by decide) rfl
theorem fa100_3 : FA Try.prog 100 3 6 := FA_mk 1 6 Try.underlying100 rfl (by kernel_rfl) (by decide) rfl
theorem fa100_4 : FA Try.prog 100 4 7 := FA_mk 4 7 Try.underlying100 rfl (by kernel_rfl) (by decide) rfl
theorem fa103_0 : FA Try.prog 103 0 0 := FA_mk 1 0 Try.underlying103 rfl (by kernel_rfl) (by decide) rfl
theorem fa103_1 : FA Try.prog 103 1 1 := FA_mk 1 1 Try.underlying103 rfl (by kernel_rfl) (by decide) rfl
theorem fa103_2 : FA Try.prog 103 2 2 := FA_mk 4 2 Try.underlying103 rfl (by kernel_rfl) (by decide) rfl
theorem fa103_3 : FA Try.prog 103 3 6 := FA_mk 1 6 Try.underlying103 rfl (by kernel_rfl) (by decide) rfl
theorem fa103_4 : FA Try.prog 103 4 7 := FA_mk 4 7 Try.underlying103 rfl (by kernel_rfl) (by decide) rfl
theorem fa133_0 : FA Try.prog 133 0 0 := FA_mk 1 0 Try.underlying133 rfl (by kernel_rfl) (by decide) rfl
theorem fa133_1 : FA Try.prog 133 1 1 := FA_mk 1 1 Try.underlying133 rfl (by kernel_rfl) (by decide) rfl
theorem fa143_0 : FA Try.prog 143 0 0 := FA_mk 1 0 Try.underlying143 rfl (by kernel_rfl) (by decide) rfl
theorem fa143_1 : FA Try.prog 143 1 1 := FA_mk 1 1 Try.underlying143 rfl (by kernel_rfl) (by decide) rfl
theorem fa148_0 : FA Try.prog 148 0 0 := FA_mk 1 0 Try.underlying148 rfl (by kernel_rfl) (by decide) rfl
theorem fa148_1 : FA Try.prog 148 1 1 := FA_mk 1 1 Try.underlying148 rfl (by kernel_rfl) (by decide) rfl
theorem fa166_0 : FA Try.prog 166 0 0 := FA_mk 1 0 Try.underlying166 rfl (by kernel_rfl) (by decide) rfl
theorem fa166_1 : FA Try.prog 166 1 1 := FA_mk 1 1 Try.underlying166 rfl (by kernel_rfl) (by decide) rfl
theorem fa201_0 : FA Try.prog 201 0 0 := FA_mk 1 0 Try.underlying201 rfl (by kernel_rfl) (by decide) rfl
theorem fa201_1 : FA Try.prog 201 1 1 := FA_mk 1 1 Try.underlying201 rfl (by kernel_rfl) (by decide) rfl
theorem fa29_0 : FA Try.prog 29 0 0 := FA_mk 1 0 Try.underlying29 rfl (by kernel_rfl) (by decide) rfl
theorem fa29_1 : FA Try.prog 29 1 1 := FA_mk 1 1 Try.underlying29 rfl (by kernel_rfl) (by decide) rfl
theorem fa35_0 : FA Try.prog 35 0 0 := FA_mk 1 0 Try.underlying35 rfl (by kernel_rfl) (by decide) rfl
theorem fa35_1 : FA Try.prog 35 1 1 := FA_mk 1 1 Try.underlying35 rfl (by kernel_rfl) (by decide) rfl
theorem fa62_0 : FA Try.prog 62 0 0 := FA_mk 1 0 Try.underlying62 rfl (by kernel_rfl) (by decide) rfl
theorem fa62_1 : FA Try.prog 62 1 1 := FA_mk 1 1 Try.underlying62 rfl (by kernel_rfl) (by decide) rfl
theorem fa65_0 : FA Try.prog 65 0 0 := FA_mk 1 0 Try.underlying65 rfl (by kernel_rfl) (by decide) rfl
theorem fa65_1 : FA Try.prog 65 1 1 := FA_mk 2 1 Try.underlying65 rfl (by kernel_rfl) (by decide) rfl
theorem fa65_2 : FA Try.prog 65 2 3 := FA_mk 1 3 Try.underlying65 rfl (by kernel_rfl) (by decide) rfl
theorem fa68_0 : FA Try.prog 68 0 0 := FA_mk 1 0 Try.underlying68 rfl (by kernel_rfl) (by decide) rfl
theorem fa68_1 : FA Try.prog 68 1 1 := FA_mk 1 1 Try.underlying68 rfl (by kernel_rfl) (by decide) rfl
theorem fa71_0 : FA Try.prog 71 0 0 := FA_mk 1 0 Try.underlying71 rfl (by kernel_rfl) (by decide) rfl
theorem fa71_1 : FA Try.prog 71 1 1 := FA_mk 2 1 Try.underlying71 rfl (by kernel_rfl) (by decide) rfl
theorem fa71_2 : FA Try.prog 71 2 3 := FA_mk 1 3 Try.underlying71 rfl (by kernel_rfl) (by decide) rfl
theorem fa91_0 : FA Try.prog 91 0 0 := FA_mk 1 0 Try.underlying91 rfl (by kernel_rfl) (by decide) rfl
theorem fa91_1 : FA Try.prog 91 1 1 := FA_mk 1 1 Try.underlying91 rfl (by kernel_rfl) (by decide) rfl
theorem fa91_2 : FA Try.prog 91 2 2 := FA_mk 1 2 Try.underlying91 rfl (by kernel_rfl) (by decide) rfl
theorem fa93_0 : FA Try.prog 93 0 0 := FA_mk 1 0 Try.underlying93 rfl (by kernel_rfl) (by decide) rfl
theorem fa93_1 : FA Try.prog 93 1 1 := FA_mk 1 1 Try.underlying93 rfl (by kernel_rfl) (by decide) rfl
theorem foc103_0 : Foc dChange_103 (Dd.flat (k := Kd.str) str_flat) 0 (fun x => x.Id) (fun x y => (⟨y, x.Had, x.Was, x.Has, x.Now⟩ : Change)) := (Foc.iso (fun (a : Str × Bool × Feat × Bool × Feat) => (⟨a.1, a.2.1, a.2.2.1, a.2.2.2.1, a.2.2.2.2⟩ : Change)) (fun _ => rfl) Foc.left)
theorem foc103_1 : Foc dChange_103 (Dd.flat (k := Kd.bool) bool_flat) 1 (fun x => x.Had) (fun x y => (⟨x.Id, y, x.Was, x.Has, x.Now⟩ : Change)) := (Foc.iso (fun (a : Str × Bool × Feat × Bool × Feat) => (⟨a.1, a.2.1, a.2.2.1, a.2.2.2.1, a.2.2.2.2⟩ : Change)) (fun _ => rfl) (Foc.trans Foc.right Foc.left))
theorem foc103_10 : Foc dChange_103 (Dd.sl (Dd.flat kTag_flat) 133) 10 (fun x => x.Now.Tags) (fun x y => (⟨x.Id, x.Had, x.Was, x.Has, (⟨x.Now.Id, x.Now.Shape, y⟩ : Feat)⟩ : Change)) := (Foc.iso (fun (a : Str × Bool × Feat × Bool × Feat) => (⟨a.1, a.2.1, a.2.2.1, a.2.2.2.1, a.2.2.2.2⟩ : Change)) (fun _ => rfl) (Foc.trans Foc.right (Foc.trans Foc.right (Foc.trans Foc.right (Foc.trans Foc.right (Foc.iso (fun (a : Str × Shape × (List Tag)) => (⟨a.1, a.2.1, a.2.2⟩ : Feat)) (fun _ => rfl) (Foc.trans Foc.right Foc.right)))))))
theorem foc103_2 : Foc dChange_103 (Dd.flat (k := Kd.str) str_flat) 2 (fun x => x.Was.Id) (fun x y => (⟨x.Id, x.Had, (⟨y, x.Was.Shape, x.Was.Tags⟩ : Feat), x.Has, x.Now⟩ : Change)) := (Foc.iso (fun (a : Str × Bool × Feat × Bool × Feat) => (⟨a.1, a.2.1, a.2.2.1, a.2.2.2.1, a.2.2.2.2⟩ : Change)) (fun _ => rfl) (Foc.trans Foc.right (Foc.trans Foc.right (Foc.trans Foc.left (Foc.iso (fun (a : Str × Shape × (List Tag)) => (⟨a.1, a.2.1, a.2.2⟩ : Feat)) (fun _ => rfl) Foc.left)))))
theorem foc103_3 : Foc dChange_103 (Dd.flat (k := (Kd.int .i64)) (int_flat _)) 3 (fun x => x.Was.Shape.Kind) (fun x y => (⟨x.Id, x.Had, (⟨x.Was.Id, (⟨y, x.Was.Shape.Pts⟩ : Shape), x.Was.Tags⟩ : Feat), x.Has, x.Now⟩ : Change)) := (Foc.iso (fun (a : Str × Bool × Feat × Bool × Feat) => (⟨a.1, a.2.1, a.2.2.1, a.2.2.2.1, a.2.2.2.2⟩ : Change)) (fun _ => rfl) (Foc.trans Foc.right (Foc.trans Foc.right (Foc.trans Foc.left (Foc.iso (fun (a : Str × Shape × (List Tag)) => (⟨a.1, a.2.1, a.2.2⟩ : Feat)) (fun _ => rfl) (Foc.trans Foc.right (Foc.trans Foc.left (Foc.iso (fun (a : Int × (List Pt)) => (⟨a.1, a.2⟩ : Shape)) (fun _ => rfl) Foc.left))))))))
theorem foc103_4 : Foc dChange_103 (Dd.sl (Dd.flat kPt_flat) 29) 4 (fun x => x.Was.Shape.Pts) (fun x y => (⟨x.Id, x.Had, (⟨x.Was.Id, (⟨x.Was.Shape.Kind, y⟩ : Shape), x.Was.Tags⟩ : Feat), x.Has, x.Now⟩ : Change)) := (Foc.iso (fun (a : Str × Bool × Feat × Bool × Feat) => (⟨a.1, a.2.1, a.2.2.1, a.2.2.2.1, a.2.2.2.2⟩ : Change)) (fun _ => rfl) (Foc.trans Foc.right (Foc.trans Foc.right (Foc.trans Foc.left (Foc.iso (fun (a : Str × Shape × (List Tag)) => (⟨a.1, a.2.1, a.2.2⟩ : Feat)) (fun _ => rfl) (Foc.trans Foc.right (Foc.trans Foc.left (Foc.iso (fun (a : Int × (List Pt)) => (⟨a.1, a.2⟩ : Shape)) (fun _ => rfl) Foc.right))))))))
theorem foc103_5 : Foc dChange_103 (Dd.sl (Dd.flat kTag_flat) 133) 5 (fun x => x.Was.Tags) (fun x y => (⟨x.Id, x.Had, (⟨x.Was.Id, x.Was.Shape, y⟩ : Feat), x.Has, x.Now⟩ : Change)) := (Foc.iso (fun (a : Str × Bool × Feat × Bool × Feat) => (⟨a.1, a.2.1, a.2.2.1, a.2.2.2.1, a.2.2.2.2⟩ : Change)) (fun _ => rfl) (Foc.trans Foc.right (Foc.trans Foc.right (Foc.trans Foc.left (Foc.iso (fun (a : Str × Shape × (List Tag)) => (⟨a.1, a.2.1, a.2.2⟩ : Feat)) (fun _ => rfl) (Foc.trans Foc.right Foc.right))))))
theorem foc103_6 : Foc dChange_103 (Dd.flat (k := Kd.bool) bool_flat) 6 (fun x => x.Has) (fun x y => (⟨x.Id, x.Had, x.Was, y, x.Now⟩ : Change)) := (Foc.iso (fun (a : Str × Bool × Feat × Bool × Feat) => (⟨a.1, a.2.1, a.2.2.1, a.2.2.2.1, a.2.2.2.2⟩ : Change)) (fun _ => rfl) (Foc.trans Foc.right (Foc.trans Foc.right (Foc.trans Foc.right Foc.left))))
theorem foc103_7 : Foc dChange_103 (Dd.flat (k := Kd.str) str_flat) 7 (fun x => x.Now.Id) (fun x y => (⟨x.Id, x.Had, x.Was, x.Has, (⟨y, x.Now.Shape, x.Now.Tags⟩ : Feat)⟩ : Change)) := (Foc.iso (fun (a : Str × Bool × Feat × Bool × Feat) => (⟨a.1, a.2.1, a.2.2.1, a.2.2.2.1, a.2.2.2.2⟩ : Change)) (fun _ => rfl) (Foc.trans Foc.right (Foc.trans Foc.right (Foc.trans Foc.right (Foc.trans Foc.right (Foc.iso (fun (a : Str × Shape × (List Tag)) => (⟨a.1, a.2.1, a.2.2⟩ : Feat)) (fun _ => rfl) Foc.left))))))
theorem foc103_8 : Foc dChange_103 (Dd.flat (k := (Kd.int .i64)) (int_flat _)) 8 (fun x => x.Now.Shape.Kind) (fun x y => (⟨x.Id, x.Had, x.Was, x.Has, (⟨x.Now.Id, (⟨y, x.Now.Shape.Pts⟩ : Shape), x.Now.Tags⟩ : Feat)⟩ : Change)) := (Foc.iso (fun (a : Str × Bool × Feat × Bool × Feat) => (⟨a.1, a.2.1, a.2.2.1, a.2.2.2.1, a.2.2.2.2⟩ : Change)) (fun _ => rfl) (Foc.trans Foc.right (Foc.trans Foc.right (Foc.trans Foc.right (Foc.trans Foc.right (Foc.iso (fun (a : Str × Shape × (List Tag)) => (⟨a.1, a.2.1, a.2.2⟩ : Feat)) (fun _ => rfl) (Foc.trans Foc.right (Foc.trans Foc.left (Foc.iso (fun (a : Int × (List Pt)) => (⟨a.1, a.2⟩ : Shape)) (fun _ => rfl) Foc.left)))))))))
theorem foc103_9 : Foc dChange_103 (Dd.sl (Dd.flat kPt_flat) 29) 9 (fun x => x.Now.Shape.Pts) (fun x y => (⟨x.Id, x.Had, x.Was, x.Has, (⟨x.Now.Id, (⟨x.Now.Shape.Kind, y⟩ : Shape), x.Now.Tags⟩ : Feat)⟩ : Change)) := (Foc.iso (fun (a : Str × Bool × Feat × Bool × Feat) => (⟨a.1, a.2.1, a.2.2.1, a.2.2.2.1, a.2.2.2.2⟩ : Change)) (fun _ => rfl) (Foc.trans Foc.right (Foc.trans Foc.right (Foc.trans Foc.right (Foc.trans Foc.right (Foc.iso (fun (a : Str × Shape × (List Tag)) => (⟨a.1, a.2.1, a.2.2⟩ : Feat)) (fun _ => rfl) (Foc.trans Foc.right (Foc.trans Foc.left (Foc.iso (fun (a : Int × (List Pt)) => (⟨a.1, a.2⟩ : Shape)) (fun _ => rfl) Foc.right)))))))))
theorem foc71_0 : Foc dFeat_71 (Dd.flat (k := Kd.str) str_flat) 0 (fun x => x.Id) (fun x y => (⟨y, x.Shape, x.Tags⟩ : Feat)) := (Foc.iso (fun (a : Str × Shape × (List Tag)) => (⟨a.1, a.2.1, a.2.2⟩ : Feat)) (fun _ => rfl) Foc.left)
theorem foc71_1 : Foc dFeat_71 (Dd.flat (k := (Kd.int .i64)) (int_flat _)) 1 (fun x => x.Shape.Kind) (fun x y => (⟨x.Id, (⟨y, x.Shape.Pts⟩ : Shape), x.Tags⟩ : Feat)) := (Foc.iso (fun (a : Str × Shape × (List Tag)) => (⟨a.1, a.2.1, a.2.2⟩ : Feat)) (fun _ => rfl) (Foc.trans Foc.right (Foc.trans Foc.left (Foc.iso (fun (a : Int × (List Pt)) => (⟨a.1, a.2⟩ : Shape)) (fun _ => rfl) Foc.left))))
theorem foc71_2 : Foc dFeat_71 (Dd.sl (Dd.flat kPt_flat) 29) 2 (fun x => x.Shape.Pts) (fun x y => (⟨x.Id, (⟨x.Shape.Kind, y⟩ : Shape), x.Tags⟩ : Feat)) := (Foc.iso (fun (a : Str × Shape × (List Tag)) => (⟨a.1, a.2.1, a.2.2⟩ : Feat)) (fun _ => rfl) (Foc.trans Foc.right (Foc.trans Foc.left (Foc.iso (fun (a : Int × (List Pt)) => (⟨a.1, a.2⟩ : Shape)) (fun _ => rfl) Foc.right))))
theorem foc71_3 : Foc dFeat_71 (Dd.sl (Dd.flat kTag_flat) 133) 3 (fun x => x.Tags) (fun x y => (⟨x.Id, x.Shape, y⟩ : Feat)) := (Foc.iso (fun (a : Str × Shape × (List Tag)) => (⟨a.1, a.2.1, a.2.2⟩ : Feat)) (fun _ => rfl) (Foc.trans Foc.right Foc.right))
theorem foc91_0 : Foc dCommit_91 (Dd.sl (Dd.flat (k := (Kd.int .i64)) (int_flat _)) 3) 0 (fun x => x.Up) (fun x y => (⟨y, x.Sheet, x.Note⟩ : Commit)) := (Foc.iso (fun (a : (List Int) × (List Feat) × Str) => (⟨a.1, a.2.1, a.2.2⟩ : Commit)) (fun _ => rfl) Foc.left)
theorem foc91_1 : Foc dCommit_91 (Dd.sl dFeat_71 71) 1 (fun x => x.Sheet) (fun x y => (⟨x.Up, y, x.Note⟩ : Commit)) := (Foc.iso (fun (a : (List Int) × (List Feat) × Str) => (⟨a.1, a.2.1, a.2.2⟩ : Commit)) (fun _ => rfl) (Foc.trans Foc.right Foc.left))
theorem foc91_2 : Foc dCommit_91 (Dd.flat (k := Kd.str) str_flat) 2 (fun x => x.Note) (fun x y => (⟨x.Up, x.Sheet, y⟩ : Commit)) := (Foc.iso (fun (a : (List Int) × (List Feat) × Str) => (⟨a.1, a.2.1, a.2.2⟩ : Commit)) (fun _ => rfl) (Foc.trans Foc.right Foc.right))
theorem go10 : Goes Try.prog 10 := ⟨_, Try.func10, by kernel_rfl, rfl⟩
theorem go102 : Goes Try.prog 102 := ⟨_, Try.func102, by kernel_rfl, rfl⟩
theorem go103 : Goes Try.prog 103 := ⟨_, Try.func103, by kernel_rfl, rfl⟩
theorem go104 : Goes Try.prog 104 := ⟨_, Try.func104, by kernel_rfl, rfl⟩
theorem go105 : Goes Try.prog 105 := ⟨_, Try.func105, by kernel_rfl, rfl⟩
theorem go106 : Goes Try.prog 106 := ⟨_, Try.func106, by kernel_rfl, rfl⟩
theorem go107 : Goes Try.prog 107 := ⟨_, Try.func107, by kernel_rfl, rfl⟩
theorem go108 : Goes Try.prog 108 := ⟨_, Try.func108, by kernel_rfl, rfl⟩
theorem go109 : Goes Try.prog 109 := ⟨_, Try.func109, by kernel_rfl, rfl⟩
theorem go11 : Goes Try.prog 11 := ⟨_, Try.func11, by kernel_rfl, rfl⟩
theorem go110 : Goes Try.prog 110 := ⟨_, Try.func110, by kernel_rfl, rfl⟩
theorem go111 : Goes Try.prog 111 := ⟨_, Try.func111, by kernel_rfl, rfl⟩
theorem go112 : Goes Try.prog 112 := ⟨_, Try.func112, by kernel_rfl, rfl⟩
theorem go113 : Goes Try.prog 113 := ⟨_, Try.func113, by kernel_rfl, rfl⟩
theorem go114 : Goes Try.prog 114 := ⟨_, Try.func114, by kernel_rfl, rfl⟩
theorem go115 : Goes Try.prog 115 := ⟨_, Try.func115, by kernel_rfl, rfl⟩
theorem go116 : Goes Try.prog 116 := ⟨_, Try.func116, by kernel_rfl, rfl⟩
theorem go117 : Goes Try.prog 117 := ⟨_, Try.func117, by kernel_rfl, rfl⟩
theorem go118 : Goes Try.prog 118 := ⟨_, Try.func118, by kernel_rfl, rfl⟩
theorem go119 : Goes Try.prog 119 := ⟨_, Try.func119, by kernel_rfl, rfl⟩
theorem go12 : Goes Try.prog 12 := ⟨_, Try.func12, by kernel_rfl, rfl⟩
theorem go120 : Goes Try.prog 120 := ⟨_, Try.func120, by kernel_rfl, rfl⟩
theorem go121 : Goes Try.prog 121 := ⟨_, Try.func121, by kernel_rfl, rfl⟩
theorem go122 : Goes Try.prog 122 := ⟨_, Try.func122, by kernel_rfl, rfl⟩
theorem go123 : Goes Try.prog 123 := ⟨_, Try.func123, by kernel_rfl, rfl⟩
theorem go124 : Goes Try.prog 124 := ⟨_, Try.func124, by kernel_rfl, rfl⟩
theorem go125 : Goes Try.prog 125 := ⟨_, Try.func125, by kernel_rfl, rfl⟩
theorem go129 : Goes Try.prog 129 := ⟨_, Try.func129, by kernel_rfl, rfl⟩
theorem go13 : Goes Try.prog 13 := ⟨_, Try.func13, by kernel_rfl, rfl⟩
theorem go130 : Goes Try.prog 130 := ⟨_, Try.func130, by kernel_rfl, rfl⟩
theorem go131 : Goes Try.prog 131 := ⟨_, Try.func131, by kernel_rfl, rfl⟩
theorem go132 : Goes Try.prog 132 := ⟨_, Try.func132, by kernel_rfl, rfl⟩
theorem go133 : Goes Try.prog 133 := ⟨_, Try.func133, by kernel_rfl, rfl⟩
theorem go134 : Goes Try.prog 134 := ⟨_, Try.func134, by kernel_rfl, rfl⟩
theorem go135 : Goes Try.prog 135 := ⟨_, Try.func135, by kernel_rfl, rfl⟩
theorem go136 : Goes Try.prog 136 := ⟨_, Try.func136, by kernel_rfl, rfl⟩
theorem go137 : Goes Try.prog 137 := ⟨_, Try.func137, by kernel_rfl, rfl⟩
theorem go138 : Goes Try.prog 138 := ⟨_, Try.func138, by kernel_rfl, rfl⟩
theorem go139 : Goes Try.prog 139 := ⟨_, Try.func139, by kernel_rfl, rfl⟩
theorem go14 : Goes Try.prog 14 := ⟨_, Try.func14, by kernel_rfl, rfl⟩
theorem go140 : Goes Try.prog 140 := ⟨_, Try.func140, by kernel_rfl, rfl⟩
theorem go141 : Goes Try.prog 141 := ⟨_, Try.func141, by kernel_rfl, rfl⟩
theorem go143 : Goes Try.prog 143 := ⟨_, Try.func143, by kernel_rfl, rfl⟩
theorem go144 : Goes Try.prog 144 := ⟨_, Try.func144, by kernel_rfl, rfl⟩
theorem go145 : Goes Try.prog 145 := ⟨_, Try.func145, by kernel_rfl, rfl⟩
theorem go146 : Goes Try.prog 146 := ⟨_, Try.func146, by kernel_rfl, rfl⟩
theorem go147 : Goes Try.prog 147 := ⟨_, Try.func147, by kernel_rfl, rfl⟩
theorem go148 : Goes Try.prog 148 := ⟨_, Try.func148, by kernel_rfl, rfl⟩
theorem go149 : Goes Try.prog 149 := ⟨_, Try.func149, by kernel_rfl, rfl⟩
theorem go15 : Goes Try.prog 15 := ⟨_, Try.func15, by kernel_rfl, rfl⟩
theorem go150 : Goes Try.prog 150 := ⟨_, Try.func150, by kernel_rfl, rfl⟩
theorem go151 : Goes Try.prog 151 := ⟨_, Try.func151, by kernel_rfl, rfl⟩
theorem go152 : Goes Try.prog 152 := ⟨_, Try.func152, by kernel_rfl, rfl⟩
theorem go153 : Goes Try.prog 153 := ⟨_, Try.func153, by kernel_rfl, rfl⟩
theorem go16 : Goes Try.prog 16 := ⟨_, Try.func16, by kernel_rfl, rfl⟩
theorem go165 : Goes Try.prog 165 := ⟨_, Try.func165, by kernel_rfl, rfl⟩
theorem go166 : Goes Try.prog 166 := ⟨_, Try.func166, by kernel_rfl, rfl⟩
theorem go167 : Goes Try.prog 167 := ⟨_, Try.func167, by kernel_rfl, rfl⟩
theorem go168 : Goes Try.prog 168 := ⟨_, Try.func168, by kernel_rfl, rfl⟩
theorem go169 : Goes Try.prog 169 := ⟨_, Try.func169, by kernel_rfl, rfl⟩
theorem go17 : Goes Try.prog 17 := ⟨_, Try.func17, by kernel_rfl, rfl⟩
theorem go170 : Goes Try.prog 170 := ⟨_, Try.func170, by kernel_rfl, rfl⟩
theorem go171 : Goes Try.prog 171 := ⟨_, Try.func171, by kernel_rfl, rfl⟩
theorem go172 : Goes Try.prog 172 := ⟨_, Try.func172, by kernel_rfl, rfl⟩
theorem go179 : Goes Try.prog 179 := ⟨_, Try.func179, by kernel_rfl, rfl⟩
theorem go18 : Goes Try.prog 18 := ⟨_, Try.func18, by kernel_rfl, rfl⟩
theorem go19 : Goes Try.prog 19 := ⟨_, Try.func19, by kernel_rfl, rfl⟩
theorem go20 : Goes Try.prog 20 := ⟨_, Try.func20, by kernel_rfl, rfl⟩
theorem go21 : Goes Try.prog 21 := ⟨_, Try.func21, by kernel_rfl, rfl⟩
theorem go22 : Goes Try.prog 22 := ⟨_, Try.func22, by kernel_rfl, rfl⟩
theorem go23 : Goes Try.prog 23 := ⟨_, Try.func23, by kernel_rfl, rfl⟩
theorem go24 : Goes Try.prog 24 := ⟨_, Try.func24, by kernel_rfl, rfl⟩
theorem go25 : Goes Try.prog 25 := ⟨_, Try.func25, by kernel_rfl, rfl⟩
theorem go26 : Goes Try.prog 26 := ⟨_, Try.func26, by kernel_rfl, rfl⟩
theorem go27 : Goes Try.prog 27 := ⟨_, Try.func27, by kernel_rfl, rfl⟩
theorem go28 : Goes Try.prog 28 := ⟨_, Try.func28, by kernel_rfl, rfl⟩
theorem go29 : Goes Try.prog 29 := ⟨_, Try.func29, by kernel_rfl, rfl⟩
theorem go30 : Goes Try.prog 30 := ⟨_, Try.func30, by kernel_rfl, rfl⟩
theorem go31 : Goes Try.prog 31 := ⟨_, Try.func31, by kernel_rfl, rfl⟩
theorem go33 : Goes Try.prog 33 := ⟨_, Try.func33, by kernel_rfl, rfl⟩
theorem go35 : Goes Try.prog 35 := ⟨_, Try.func35, by kernel_rfl, rfl⟩
theorem go37 : Goes Try.prog 37 := ⟨_, Try.func37, by kernel_rfl, rfl⟩
theorem go43 : Goes Try.prog 43 := ⟨_, Try.func43, by kernel_rfl, rfl⟩
theorem go44 : Goes Try.prog 44 := ⟨_, Try.func44, by kernel_rfl, rfl⟩
theorem go45 : Goes Try.prog 45 := ⟨_, Try.func45, by kernel_rfl, rfl⟩
theorem go46 : Goes Try.prog 46 := ⟨_, Try.func46, by kernel_rfl, rfl⟩
theorem go47 : Goes Try.prog 47 := ⟨_, Try.func47, by kernel_rfl, rfl⟩
theorem go48 : Goes Try.prog 48 := ⟨_, Try.func48, by kernel_rfl, rfl⟩
theorem go49 : Goes Try.prog 49 := ⟨_, Try.func49, by kernel_rfl, rfl⟩
theorem go50 : Goes Try.prog 50 := ⟨_, Try.func50, by kernel_rfl, rfl⟩
theorem go51 : Goes Try.prog 51 := ⟨_, Try.func51, by kernel_rfl, rfl⟩
theorem go52 : Goes Try.prog 52 := ⟨_, Try.func52, by kernel_rfl, rfl⟩
theorem go53 : Goes Try.prog 53 := ⟨_, Try.func53, by kernel_rfl, rfl⟩
theorem go54 : Goes Try.prog 54 := ⟨_, Try.func54, by kernel_rfl, rfl⟩
theorem go55 : Goes Try.prog 55 := ⟨_, Try.func55, by kernel_rfl, rfl⟩
theorem go56 : Goes Try.prog 56 := ⟨_, Try.func56, by kernel_rfl, rfl⟩
theorem go57 : Goes Try.prog 57 := ⟨_, Try.func57, by kernel_rfl, rfl⟩
theorem go58 : Goes Try.prog 58 := ⟨_, Try.func58, by kernel_rfl, rfl⟩
theorem go59 : Goes Try.prog 59 := ⟨_, Try.func59, by kernel_rfl, rfl⟩
theorem go60 : Goes Try.prog 60 := ⟨_, Try.func60, by kernel_rfl, rfl⟩
theorem go61 : Goes Try.prog 61 := ⟨_, Try.func61, by kernel_rfl, rfl⟩
theorem go62 : Goes Try.prog 62 := ⟨_, Try.func62, by kernel_rfl, rfl⟩
theorem go63 : Goes Try.prog 63 := ⟨_, Try.func63, by kernel_rfl, rfl⟩
theorem go64 : Goes Try.prog 64 := ⟨_, Try.func64, by kernel_rfl, rfl⟩
theorem go65 : Goes Try.prog 65 := ⟨_, Try.func65, by kernel_rfl, rfl⟩
theorem go66 : Goes Try.prog 66 := ⟨_, Try.func66, by kernel_rfl, rfl⟩
theorem go67 : Goes Try.prog 67 := ⟨_, Try.func67, by kernel_rfl, rfl⟩
theorem go68 : Goes Try.prog 68 := ⟨_, Try.func68, by kernel_rfl, rfl⟩
theorem go69 : Goes Try.prog 69 := ⟨_, Try.func69, by kernel_rfl, rfl⟩
theorem go70 : Goes Try.prog 70 := ⟨_, Try.func70, by kernel_rfl, rfl⟩
theorem go71 : Goes Try.prog 71 := ⟨_, Try.func71, by kernel_rfl, rfl⟩
theorem go72 : Goes Try.prog 72 := ⟨_, Try.func72, by kernel_rfl, rfl⟩
theorem go73 : Goes Try.prog 73 := ⟨_, Try.func73, by kernel_rfl, rfl⟩
theorem go74 : Goes Try.prog 74 := ⟨_, Try.func74, by kernel_rfl, rfl⟩
theorem go75 : Goes Try.prog 75 := ⟨_, Try.func75, by kernel_rfl, rfl⟩
theorem go76 : Goes Try.prog 76 := ⟨_, Try.func76, by kernel_rfl, rfl⟩
theorem go77 : Goes Try.prog 77 := ⟨_, Try.func77, by kernel_rfl, rfl⟩
theorem go78 : Goes Try.prog 78 := ⟨_, Try.func78, by kernel_rfl, rfl⟩
theorem go79 : Goes Try.prog 79 := ⟨_, Try.func79, by kernel_rfl, rfl⟩
theorem go80 : Goes Try.prog 80 := ⟨_, Try.func80, by kernel_rfl, rfl⟩
theorem go81 : Goes Try.prog 81 := ⟨_, Try.func81, by kernel_rfl, rfl⟩
theorem go83 : Goes Try.prog 83 := ⟨_, Try.func83, by kernel_rfl, rfl⟩
theorem go84 : Goes Try.prog 84 := ⟨_, Try.func84, by kernel_rfl, rfl⟩
theorem go86 : Goes Try.prog 86 := ⟨_, Try.func86, by kernel_rfl, rfl⟩
theorem go87 : Goes Try.prog 87 := ⟨_, Try.func87, by kernel_rfl, rfl⟩
theorem go88 : Goes Try.prog 88 := ⟨_, Try.func88, by kernel_rfl, rfl⟩
theorem go89 : Goes Try.prog 89 := ⟨_, Try.func89, by kernel_rfl, rfl⟩
theorem go9 : Goes Try.prog 9 := ⟨_, Try.func9, by kernel_rfl, rfl⟩
theorem go91 : Goes Try.prog 91 := ⟨_, Try.func91, by kernel_rfl, rfl⟩
theorem go92 : Goes Try.prog 92 := ⟨_, Try.func92, by kernel_rfl, rfl⟩
theorem go93 : Goes Try.prog 93 := ⟨_, Try.func93, by kernel_rfl, rfl⟩
theorem go94 : Goes Try.prog 94 := ⟨_, Try.func94, by kernel_rfl, rfl⟩
theorem go95 : Goes Try.prog 95 := ⟨_, Try.func95, by kernel_rfl, rfl⟩
theorem go96 : Goes Try.prog 96 := ⟨_, Try.func96, by kernel_rfl, rfl⟩
theorem go97 : Goes Try.prog 97 := ⟨_, Try.func97, by kernel_rfl, rfl⟩
theorem sz100 : SizeOf Try.prog 100 11 := SizeOf_mk (by kernel_rfl)
theorem sz103 : SizeOf Try.prog 103 11 := SizeOf_mk (by kernel_rfl)
theorem sz133 : SizeOf Try.prog 133 2 := SizeOf_mk (by kernel_rfl)
theorem sz135 : SizeOf Try.prog 135 2 := SizeOf_mk (by kernel_rfl)
theorem sz148 : SizeOf Try.prog 148 2 := SizeOf_mk (by kernel_rfl)
theorem sz166 : SizeOf Try.prog 166 2 := SizeOf_mk (by kernel_rfl)
theorem sz201 : SizeOf Try.prog 201 2 := SizeOf_mk (by kernel_rfl)
theorem sz23 : SizeOf Try.prog 23 1 := SizeOf_mk (by kernel_rfl)
theorem sz29 : SizeOf Try.prog 29 2 := SizeOf_mk (by kernel_rfl)
theorem sz3 : SizeOf Try.prog 3 1 := SizeOf_mk (by kernel_rfl)
theorem sz35 : SizeOf Try.prog 35 2 := SizeOf_mk (by kernel_rfl)
theorem sz4 : SizeOf Try.prog 4 1 := SizeOf_mk (by kernel_rfl)
theorem sz62 : SizeOf Try.prog 62 2 := SizeOf_mk (by kernel_rfl)
theorem sz65 : SizeOf Try.prog 65 4 := SizeOf_mk (by kernel_rfl)
theorem sz68 : SizeOf Try.prog 68 2 := SizeOf_mk (by kernel_rfl)
theorem sz69 : SizeOf Try.prog 69 1 := SizeOf_mk (by kernel_rfl)
theorem sz71 : SizeOf Try.prog 71 4 := SizeOf_mk (by kernel_rfl)
theorem sz89 : SizeOf Try.prog 89 1 := SizeOf_mk (by kernel_rfl)
theorem sz9 : SizeOf Try.prog 9 1 := SizeOf_mk (by kernel_rfl)
theorem sz91 : SizeOf Try.prog 91 3 := SizeOf_mk (by kernel_rfl)
theorem sz93 : SizeOf Try.prog 93 2 := SizeOf_mk (by kernel_rfl)
theorem ze103 : ZeroOf Try.prog 103 [vs [], vb false, vs [], .int .i64 0, .slice none 0 0, .slice none 0 0, vb false, vs [], .int .i64 0, .slice none 0 0, .slice none 0 0] := ZeroOf_mk (z := .agg #[vs [], vb false, vs [], .int .i64 0, .slice none 0 0, .slice none 0 0, vb false, vs [], .int .i64 0, .slice none 0 0, .slice none 0 0]) (by kernel_rfl) rfl
theorem ze133 : ZeroOf Try.prog 133 [vs [], vs []] := ZeroOf_mk (z := .agg #[vs [], vs []]) (by kernel_rfl) rfl
theorem ze135 : ZeroOf Try.prog 135 [vb false, vs []] := ZeroOf_mk (z := .agg #[vb false, vs []]) (by kernel_rfl) rfl
theorem ze148 : ZeroOf Try.prog 148 [.int .i64 0, .int .i64 0] := ZeroOf_mk (z := .agg #[.int .i64 0, .int .i64 0]) (by kernel_rfl) rfl
theorem ze29 : ZeroOf Try.prog 29 [.int .i64 0, .int .i64 0] := ZeroOf_mk (z := .agg #[.int .i64 0, .int .i64 0]) (by kernel_rfl) rfl
theorem ze35 : ZeroOf Try.prog 35 [.slice none 0 0, .slice none 0 0] := ZeroOf_mk (z := .agg #[.slice none 0 0, .slice none 0 0]) (by kernel_rfl) rfl
theorem ze68 : ZeroOf Try.prog 68 [.int .i64 0, .slice none 0 0] := ZeroOf_mk (z := .agg #[.int .i64 0, .slice none 0 0]) (by kernel_rfl) rfl
theorem ze71 : ZeroOf Try.prog 71 [vs [], .int .i64 0, .slice none 0 0, .slice none 0 0] := ZeroOf_mk (z := .agg #[vs [], .int .i64 0, .slice none 0 0, .slice none 0 0]) (by kernel_rfl) rfl
end Go.Proofs.Ytndjggncgpjolaa

namespace Go.Proofs.Ytndjggncgpjolaa
open Go.RowKit
def vPt (x : Pt) : Prop := (I64 x.X) ∧ (I64 x.Y)
theorem tr201 : Tr Try.prog 201 kPt vPt := Tr.iso (Tr.struct (tot := 2) Try.underlying201 (by kernel_rfl) (TrF.cons (n := 1) (Tr.int Try.underlying3) rfl (by kernel_rfl) (TrF.one (n := 1) (Tr.int Try.underlying3) rfl (by kernel_rfl) (by decide)))) (fun x : Pt => (x.X, x.Y)) (fun a => (⟨a.1, a.2⟩ : Pt)) (fun _ => rfl)
def vShape (x : Shape) : Prop := (I64 x.Kind) ∧ (∀ y0 ∈ x.Pts, vPt y0)
theorem tr62 : Tr Try.prog 62 kShape vShape := Tr.iso (Tr.struct (tot := 2) Try.underlying62 (by kernel_rfl) (TrF.cons (n := 1) (Tr.int Try.underlying3) rfl (by kernel_rfl) (TrF.one (n := 1) (Tr.sl Try.underlying60 (by kernel_rfl) tr201) rfl (by kernel_rfl) (by decide)))) (fun x : Shape => (x.Kind, x.Pts)) (fun a => (⟨a.1, a.2⟩ : Shape)) (fun _ => rfl)
def vTag (x : Tag) : Prop := (Lim x.Key) ∧ (Lim x.Val)
theorem tr166 : Tr Try.prog 166 kTag vTag := Tr.iso (Tr.struct (tot := 2) Try.underlying166 (by kernel_rfl) (TrF.cons (n := 1) (Tr.str Try.underlying9) rfl (by kernel_rfl) (TrF.one (n := 1) (Tr.str Try.underlying9) rfl (by kernel_rfl) (by decide)))) (fun x : Tag => (x.Key, x.Val)) (fun a => (⟨a.1, a.2⟩ : Tag)) (fun _ => rfl)
def vFeat (x : Feat) : Prop := (Lim x.Id) ∧ (vShape x.Shape) ∧ (∀ y0 ∈ x.Tags, vTag y0)
theorem tr65 : Tr Try.prog 65 kFeat vFeat := Tr.iso (Tr.struct (tot := 4) Try.underlying65 (by kernel_rfl) (TrF.cons (n := 1) (Tr.str Try.underlying9) rfl (by kernel_rfl) (TrF.cons (n := 2) (tr62) rfl (by kernel_rfl) (TrF.one (n := 1) (Tr.sl Try.underlying63 (by kernel_rfl) tr166) rfl (by kernel_rfl) (by decide))))) (fun x : Feat => (x.Id, x.Shape, x.Tags)) (fun a => (⟨a.1, a.2.1, a.2.2⟩ : Feat)) (fun _ => rfl)
def vChange (x : Change) : Prop := (Lim x.Id) ∧ (True) ∧ (vFeat x.Was) ∧ (True) ∧ (vFeat x.Now)
theorem tr100 : Tr Try.prog 100 kChange vChange := Tr.iso (Tr.struct (tot := 11) Try.underlying100 (by kernel_rfl) (TrF.cons (n := 1) (Tr.str Try.underlying9) rfl (by kernel_rfl) (TrF.cons (n := 1) (Tr.bool Try.underlying4) rfl (by kernel_rfl) (TrF.cons (n := 4) (tr65) rfl (by kernel_rfl) (TrF.cons (n := 1) (Tr.bool Try.underlying4) rfl (by kernel_rfl) (TrF.one (n := 4) (tr65) rfl (by kernel_rfl) (by decide))))))) (fun x : Change => (x.Id, x.Had, x.Was, x.Has, x.Now)) (fun a => (⟨a.1, a.2.1, a.2.2.1, a.2.2.2.1, a.2.2.2.2⟩ : Change)) (fun _ => rfl)
end Go.Proofs.Ytndjggncgpjolaa

/- Plain laws for the shapes that the exact laws' helpers share. -/
namespace Go.Proofs.Ytndjggncgpjolaa
set_option linter.unusedVariables false
class Bulk (α : Type) where
  bulk : α → Nat
def bulk {α : Type} [Bulk α] : α → Nat := Bulk.bulk
instance : Bulk Int := ⟨fun _ => 0⟩
instance : Bulk Bool := ⟨fun _ => 0⟩
instance : Bulk UInt8 := ⟨fun _ => 0⟩
def bulkL {α : Type} [Bulk α] : List α → Nat
  | [] => 0
  | x :: l => 1 + Bulk.bulk x + bulkL l
instance {α : Type} [Bulk α] : Bulk (List α) := ⟨bulkL⟩
section
variable {α : Type} [Bulk α]
theorem bulk_nil : bulk ([] : List α) = 0 := rfl
theorem bulk_cons (x : α) (l : List α) : bulk (x :: l) = 1 + bulk x + bulk l := rfl
theorem bulk_app (l m : List α) : bulk (l ++ m) = bulk l + bulk m := by
  induction l with
  | nil => simp [bulk_nil]
  | cons x l ih => rw [List.cons_append, bulk_cons, bulk_cons, ih]; omega
theorem bulk_len (l : List α) : l.length ≤ bulk l := by
  induction l with
  | nil => exact Nat.zero_le _
  | cons x l ih => rw [bulk_cons, List.length_cons]; omega
theorem bulk_mem {l : List α} {x : α} (h : x ∈ l) : 1 + bulk x ≤ bulk l := by
  induction l with
  | nil => cases h
  | cons y l ih =>
    rw [bulk_cons]
    rcases List.mem_cons.1 h with rfl | h
    · omega
    · have := ih h; omega
theorem bulk_flat (h : ∀ x : α, bulk x = 0) (l : List α) : bulk l = l.length := by
  induction l with
  | nil => rfl
  | cons x l ih => rw [bulk_cons, h, ih, List.length_cons]; omega
theorem bulk_str (l : Str) : bulk l = l.length := bulk_flat (fun _ => rfl) l
theorem bulk_ints (l : List Int) : bulk l = l.length := bulk_flat (fun _ => rfl) l
theorem bulk_take (l : List α) (k : Nat) : bulk (l.take k) ≤ bulk l := by
  have h := bulk_app (l.take k) (l.drop k)
  rw [List.take_append_drop] at h; omega
end
section
variable {α : Type} [Inhabited α]
theorem nth_nat (l : List α) {k : Nat} (h : k < l.length) : nth l (k : Int) = l[k] := by
  unfold nth; rw [Int.toNat_natCast, List.getD_eq_getElem?_getD, List.getElem?_eq_getElem h]; rfl
theorem nth_mem (l : List α) {k : Nat} (h : k < l.length) : nth l (k : Int) ∈ l := by rw [nth_nat l h]; exact List.getElem_mem h
theorem nth_memi (l : List α) {i : Int} (h0 : 0 ≤ i) (h : i < (l.length : Int)) : nth l i ∈ l := by
  obtain ⟨k, rfl⟩ := Int.eq_ofNat_of_zero_le h0
  exact nth_mem l (by omega)
theorem take_nth (l : List α) {k : Nat} (h : k < l.length) : l.take (k + 1) = l.take k ++ [nth l (k : Int)] := by rw [nth_nat l h]; exact List.take_succ_eq_append_getElem h
theorem ext_nth {l m : List α} (h : l.length = m.length) (g : ∀ k, k < l.length → nth l (k : Int) = nth m (k : Int)) : l = m := by
  refine List.ext_getElem h fun k h1 h2 => ?_
  have := g k h1
  rwa [nth_nat l h1, nth_nat m h2] at this
end
/-- the bulk of a row, against what is left -/
theorem szS_shape {α : Type} [Inhabited α] [Bulk α] (el : α → Int → (Int → Prop) → Prop)
    (hel : ∀ (x : α) (left : Int) (Q : Int → Prop), 0 ≤ left → left ≤ 1048576 → (left - (bulk x : Nat) < 0 → Q (-1)) → (0 ≤ left - (bulk x : Nat) → Q (left - (bulk x : Nat))) → el x left Q)
    (a : List α) (left : Int) (Q : Int → Prop) (h0 : 0 ≤ left) (h1 : left ≤ 1048576) (hn : left - (bulk a : Nat) < 0 → Q (-1)) (hp : 0 ≤ left - (bulk a : Nat) → Q (left - (bulk a : Nat))) :
    ((a.length : Int) ≤ 9223372036854775807 → I64 (left - (a.length : Int))) ∧ (if decide (left - (a.length : Int) < 0) then Q (-1) else (∃ (I22 : Int → Int → Prop) (mu23 : Int → Int → Nat), I22 (left - (a.length : Int)) 0 ∧ ∀ (left3 : Int) (i2 : Int), I22 left3 i2 → (if decide (i2 < (a.length : Int)) then ((0 : Int) ≤ i2 ∧ i2 < (a.length : Int)) ∧ el (nth a i2) left3 (fun r => (if decide (r < 0) then Q (-1) else (-9223372036854775808 ≤ i2) ∧ I22 r (i2 + 1) ∧ mu23 r (i2 + 1) < mu23 left3 i2)) else Q left3))) := by
  have hl := bulk_len a
  refine ⟨fun _ => by unfold I64; omega, ?_⟩
  by_cases hc : left - (a.length : Int) < 0
  · rw [if_pos (by simpa using hc)]; exact hn (by omega)
  rw [if_neg (by simpa using hc)]
  refine ⟨fun l i => ∃ k : Nat, i = k ∧ k ≤ a.length ∧ 0 ≤ l ∧ l = left - (bulk (a.take k) : Nat) - ((a.length - k : Nat) : Int), fun _ i => (a.length - i).toNat, ⟨0, rfl, by omega, by omega, by simp [bulk_nil]⟩, ?_⟩
  rintro l _ ⟨k, rfl, hk, hl0, hle⟩
  by_cases hki : (k : Int) < (a.length : Int)
  · rw [if_pos (by simpa using hki)]
    have hk' : k < a.length := by omega
    have e := take_nth a hk'
    have hb : bulk (a.take (k + 1)) = bulk (a.take k) + (1 + bulk (nth a (k : Int))) := by rw [e, bulk_app, bulk_cons, bulk_nil]; omega
    have ht := bulk_app (a.take (k + 1)) (a.drop (k + 1))
    rw [List.take_append_drop] at ht
    have hdl := bulk_len (a.drop (k + 1))
    rw [List.length_drop] at hdl
    refine ⟨⟨by omega, hki⟩, hel (nth a (k : Int)) l _ hl0 (by omega) (fun h => ?_) (fun h => ?_)⟩
    · rw [if_pos (by decide)]; exact hn (by omega)
    · rw [if_neg (by simpa using h)]
      refine ⟨by omega, ⟨k + 1, by omega, by omega, h, ?_⟩, by dsimp only; omega⟩
      rw [hb]; omega
  · rw [if_neg (by simpa using hki)]
    have : k = a.length := by omega
    subst this
    rw [List.take_length, Nat.sub_self] at hle
    have : l = left - (bulk a : Nat) := by omega
    subst this
    exact hp hl0
theorem szL_shape {α : Type} [Bulk α] (hz : ∀ x : α, bulk x = 0) (a : List α) (left : Int) (Q : Int → Prop) (h0 : 0 ≤ left) (h1 : left ≤ 1048576) (hn : left - (bulk a : Nat) < 0 → Q (-1)) (hp : 0 ≤ left - (bulk a : Nat) → Q (left - (bulk a : Nat))) :
    ((a.length : Int) ≤ 9223372036854775807 → I64 (left - (a.length : Int))) ∧ (if decide (left - (a.length : Int) < 0) then Q (-1) else Q (left - (a.length : Int))) := by
  have hl := bulk_flat hz a
  rw [hl] at hn hp
  refine ⟨fun _ => by unfold I64; have := hn; by_cases h : left - (a.length : Int) < 0 <;> omega, ?_⟩
  by_cases hc : left - (a.length : Int) < 0
  · rw [if_pos (by simpa using hc)]; exact hn hc
  · rw [if_neg (by simpa using hc)]; exact hp (by omega)
/-- a row, copied -/
theorem toS_shape {α : Type} [Inhabited α] [Bulk α] (z : α) (el : α → (α → Prop) → Prop) (hel : ∀ x (Q : α → Prop), bulk x ≤ 1048576 → Q x → el x Q) (a : List α) (Q : List α → Prop) (ha : bulk a ≤ 1048576) (hq : Q a) :
    ((0 : Int) ≤ (a.length : Int) ∧ (a.length : Int) ≤ (268435456 : Int)) ∧ (∃ (I41 : (List α) → Int → Prop) (mu42 : (List α) → Int → Nat), I41 (List.replicate (a.length : Int).toNat z) 0 ∧ ∀ (xs2 : List α) (i2 : Int), I41 xs2 i2 → (if decide (i2 < (a.length : Int)) then ((0 : Int) ≤ i2 ∧ i2 < (a.length : Int)) ∧ el (nth a i2) (fun r => ((0 : Int) ≤ i2 ∧ i2 < (xs2.length : Int)) ∧ (-9223372036854775808 ≤ i2) ∧ I41 (xs2.set i2.toNat r) (i2 + 1) ∧ mu42 (xs2.set i2.toNat r) (i2 + 1) < mu42 xs2 i2) else Q xs2)) := by
  have hl := bulk_len a
  refine ⟨⟨by omega, by omega⟩, fun xs i => ∃ k : Nat, i = k ∧ k ≤ a.length ∧ xs.length = a.length ∧ xs.take k = a.take k, fun _ i => (a.length - i).toNat, ⟨0, rfl, by omega, by simp, by simp⟩, ?_⟩
  rintro xs _ ⟨k, rfl, hk, hxl, ht⟩
  by_cases hki : (k : Int) < (a.length : Int)
  · rw [if_pos (by simpa using hki)]
    have hk' : k < a.length := by omega
    refine ⟨⟨by omega, hki⟩, hel _ _ (by have := bulk_mem (nth_mem a hk'); omega) ⟨⟨by omega, by omega⟩, by omega, ⟨k + 1, by omega, by omega, by simp [hxl], ?_⟩, by dsimp only; omega⟩⟩
    rw [Int.toNat_natCast, List.take_succ_eq_append_getElem (by simp; omega), take_nth a hk', List.getElem_set_self, List.take_set_of_le (Nat.le_refl _), ht]
  · rw [if_neg (by simpa using hki)]
    have : k = a.length := by omega
    subst this
    rw [List.take_of_length_le (by omega), List.take_length] at ht
    subst ht; exact hq
/-- two rows, compared -/
theorem eqS_shape {α : Type} [Inhabited α] [DecidableEq α] (el : α → α → Bool) (hel : ∀ x y, el x y = decide (x = y)) (a b : List α) (Q : Bool → Prop) (hq : Q (decide (a = b))) :
    (if (a.length : Int) != (b.length : Int) then Q false else (∃ (I32 : Int → Prop) (mu33 : Int → Nat), I32 0 ∧ ∀ (i2 : Int), I32 i2 → (if decide (i2 < (a.length : Int)) then ((0 : Int) ≤ i2 ∧ i2 < (a.length : Int)) ∧ ((0 : Int) ≤ i2 ∧ i2 < (b.length : Int)) ∧ (if !(el (nth a i2) (nth b i2)) then Q false else (-9223372036854775808 ≤ i2) ∧ I32 (i2 + 1) ∧ mu33 (i2 + 1) < mu33 i2) else Q true))) := by
  by_cases hl : a.length = b.length
  · rw [if_neg (by simp [hl])]
    refine ⟨fun i => ∃ k : Nat, i = k ∧ k ≤ a.length ∧ ∀ j, j < k → nth a (j : Int) = nth b (j : Int), fun i => (a.length - i).toNat, ⟨0, rfl, by omega, fun j hj => absurd hj (by omega)⟩, ?_⟩
    rintro _ ⟨k, rfl, hk, ht⟩
    by_cases hki : (k : Int) < (a.length : Int)
    · rw [if_pos (by simpa using hki)]
      refine ⟨⟨by omega, hki⟩, ⟨by omega, by omega⟩, ?_⟩
      rw [hel]
      by_cases he : nth a (k : Int) = nth b (k : Int)
      · rw [if_neg (by rw [decide_eq_true he]; exact Bool.false_ne_true)]
        refine ⟨by omega, ⟨k + 1, by omega, by omega, fun j hj => ?_⟩, by dsimp only; omega⟩
        by_cases hjk : j = k
        · subst hjk; exact he
        · exact ht j (by omega)
      · rw [if_pos (by rw [decide_eq_false he]; rfl)]
        have : decide (a = b) = false := by
          simp only [decide_eq_false_iff_not]; rintro rfl; exact he rfl
        rw [this] at hq; exact hq
    · rw [if_neg (by simpa using hki)]
      have : a = b := ext_nth hl fun j hj => ht j (by omega)
      rw [decide_eq_true this] at hq; exact hq
  · rw [if_pos (by simp; omega)]
    have : decide (a = b) = false := by
      simp only [decide_eq_false_iff_not]; rintro rfl; exact hl rfl
    rw [this] at hq; exact hq
/-- two rows, compared, with a plain bound -/
theorem eqI_shape {α : Type} [Inhabited α] [DecidableEq α] (el : α → α → Bool) (hel : ∀ x y, el x y = decide (x = y)) (a b : List α) (Q : Bool → Prop) (hb : a.length ≤ 1048576) (hq : Q (decide (a = b))) :
    (if (a.length : Int) != (b.length : Int) then Q false else (∃ (I32 : Int → Prop) (mu33 : Int → Nat), I32 0 ∧ ∀ (i2 : Int), I32 i2 → (if decide (i2 < (a.length : Int)) then ((0 : Int) ≤ i2 ∧ i2 < (a.length : Int)) ∧ ((0 : Int) ≤ i2 ∧ i2 < (b.length : Int)) ∧ (if !(el (nth a i2) (nth b i2)) then Q false else (I64 (i2 + 1)) ∧ I32 (i2 + 1) ∧ mu33 (i2 + 1) < mu33 i2) else Q true))) := by
  have h := eqS_shape el hel a b Q hq
  by_cases hl : ((a.length : Int) != (b.length : Int)) = true
  · rw [if_pos hl] at h ⊢; exact h
  · rw [if_neg hl] at h ⊢
    obtain ⟨I, mu, h0, h1⟩ := h
    refine ⟨fun i => 0 ≤ i ∧ I i, mu, ⟨by omega, h0⟩, fun i ⟨hp, hi⟩ => ?_⟩
    have h2 := h1 i hi
    by_cases hc : decide (i < (a.length : Int)) = true
    · rw [if_pos hc] at h2 ⊢
      have hc' : i < (a.length : Int) := by simpa using hc
      refine ⟨h2.1, h2.2.1, ?_⟩
      have h3 := h2.2.2
      by_cases he : (!(el (nth a i) (nth b i))) = true
      · rw [if_pos he] at h3 ⊢; exact h3
      · rw [if_neg he] at h3 ⊢
        exact ⟨by unfold I64; omega, ⟨by omega, h3.2.1⟩, h3.2.2⟩
    · rw [if_neg hc] at h2 ⊢; exact h2
theorem eqN_shape {α : Type} [Inhabited α] [DecidableEq α] (a b : List α) (Q : Bool → Prop) (hq : Q (decide (a = b))) :
    (if (a.length : Int) != (b.length : Int) then Q false else (∃ (I32 : Int → Prop) (mu33 : Int → Nat), I32 0 ∧ ∀ (i2 : Int), I32 i2 → (if decide (i2 < (a.length : Int)) then ((0 : Int) ≤ i2 ∧ i2 < (a.length : Int)) ∧ ((0 : Int) ≤ i2 ∧ i2 < (b.length : Int)) ∧ (if nth a i2 != nth b i2 then Q false else (-9223372036854775808 ≤ i2) ∧ I32 (i2 + 1) ∧ mu33 (i2 + 1) < mu33 i2) else Q true))) :=
  eqS_shape (fun x y => x == y) (fun x y => by by_cases h : x = y <;> simp [h]) a b Q hq
end Go.Proofs.Ytndjggncgpjolaa

namespace Go.Proofs.Ytndjggncgpjolaa
instance : Bulk l12Rd := ⟨fun x => bulk x.b + bulk x.p⟩
instance : Bulk Pt := ⟨fun x => bulk x.X + bulk x.Y⟩
instance : Bulk Pair := ⟨fun x => bulk x.A + bulk x.B⟩
instance : Bulk Shape := ⟨fun x => bulk x.Kind + bulk x.Pts⟩
instance : Bulk Tag := ⟨fun x => bulk x.Key + bulk x.Val⟩
instance : Bulk Feat := ⟨fun x => bulk x.Id + bulk x.Shape + bulk x.Tags⟩
instance : Bulk Commit := ⟨fun x => bulk x.Up + bulk x.Sheet + bulk x.Note⟩
instance : Bulk Head := ⟨fun x => bulk x.Name + bulk x.At⟩
instance : Bulk Repo := ⟨fun x => bulk x.Commits + bulk x.Heads⟩
instance : Bulk Change := ⟨fun x => bulk x.Id + bulk x.Had + bulk x.Was + bulk x.Has + bulk x.Now⟩
instance : Bulk value := ⟨fun x => bulk x.has + bulk x.val⟩
end Go.Proofs.Ytndjggncgpjolaa

namespace Go.Proofs.Ytndjggncgpjolaa
open Go.RowKit
set_option linter.unusedVariables false
def spec_l12Open.E (code : List UInt8) (Q : List UInt8 → Int → Prop) : Prop :=
  (if decide ((code.length : Int) > 2000) then ((0 : Int) ≤ 0 ∧ (0 : Int) ≤ 2000 ∧ 2000 ≤ (code.length : Int)) ∧ Q ((code.drop (0 : Int).toNat).take ((2000 : Int).toNat - (0 : Int).toNat)) 0 else Q code 0)
set_option maxHeartbeats 8000000 in
set_option maxRecDepth 100000 in
theorem spec_l12Open.calls {O : Ob} (w0 : World) (hO : Ok w0 O) (code : List UInt8) (A1 : Option Addr) (n2 c3 : Nat) (hp4 : Sl Kd.byte w0 (Fr O) (.slice A1 n2 c3) code) (Q : List UInt8 → Int → Prop) (h : spec_l12Open.E code Q) :
    Ret Try.prog 43 [.slice A1 n2 c3] w0 (fun v w' => ∃ (r0_b : List UInt8) (r0_p : Int) (b0 : Nat) (A1 : Option Addr) (n1 c1 : Nat), v = .pointer (some ⟨b0, 0, none⟩) ∧ Q r0_b r0_p ∧ Gr w0 w' none ∧ Ok w' ([some b0] ++ O) ∧ (∀ b, some b ∈ [some b0] → w0.heap.size ≤ b) ∧ Bx w' b0 [.slice A1 n1 c1, vi r0_p] ∧ Sl Kd.byte w' (Fr ([some b0] ++ O)) (.slice A1 n1 c1) r0_b) := by
  have H : (if decide ((code.length : Int) > 2000) then ((0 : Int) ≤ 0 ∧ (0 : Int) ≤ 2000 ∧ 2000 ≤ (code.length : Int)) ∧ Q ((code.drop (0 : Int).toNat).take ((2000 : Int).toNat - (0 : Int).toNat)) 0 else Q code 0) := h
  clear h
  have hc0 := Ct.init hO
  refine Ret_enter Try.func43 rfl 11 rfl [.tmp 2] rfl rfl ?_
  refine W_seq ?_
  refine W_reg ?_
  refine L_pu (P_assign (.pointer none) rfl) ?_
  refine L_nil ?_
  refine W_seq ?_
  refine W_seq ?_
  refine W_reg ?_
  refine L_pu (P_move (.slice A1 n2 c3) rfl) ?_
  have hl6 := hp4.le
  refine L_pu (P_len Try.underlying22 A1 n2 c3 hp4.len rfl) ?_
  refine L_pu (P_cmp (code.length : Int) 2000 (decide ((code.length : Int) > 2000)) rfl rfl rfl) ?_
  refine L_nil ?_
  refine W_cond (decide ((code.length : Int) > 2000)) rfl (fun hq7 => ?_) (fun hq7 => ?_)
  · have H := ite_t H hq7
    refine W_reg ?_
    refine L_pu (P_move (.slice A1 n2 c3) rfl) ?_
    obtain ⟨hb8, H⟩ := H
    refine L_cuts Try.underlying22 se22 A1 n2 c3 code rfl hp4 0 2000 rfl rfl hb8 fun A9 n10 c11 h12 => ?_
    refine L_pu (P_assign (.slice A9 n10 c11) rfl) ?_
    refine L_nil ?_
    refine W_seq ?_
    refine W_reg ?_
    refine L_pu (P_move (.slice A9 n10 c11) rfl) ?_
    refine L_pu (P_build (.agg #[.slice A9 n10 c11, vi 0]) (fun _ => by kernel_rfl)) ?_
    refine L_box [.slice A9 n10 c11, vi 0] rfl fun w14 b15 hl17 hu18 g16 hx19 => ?_
    have hc21 := hc0.own g16 (some b15) (oglt hl17 hu18)
    refine L_pu (P_assign (.pointer (some ⟨b15, 0, none⟩)) rfl) ?_
    refine L_nil ?_
    refine W_ret ?_
    exact ⟨[.pointer (some ⟨b15, 0, none⟩)], ⟨_, rfl, rfl⟩, ((code.drop (0 : Int).toNat).take ((2000 : Int).toNat - (0 : Int).toNat)), 0, b15, A9, n10, c11, rfl, H, hc21.gr.g0, hc21.ok, hc21.ge, hx19, (h12.st hc21.st)⟩
  · have H := ite_f H hq7
    refine W_skip ?_
    refine W_seq ?_
    refine W_reg ?_
    refine L_pu (P_move (.slice A1 n2 c3) rfl) ?_
    refine L_pu (P_build (.agg #[.slice A1 n2 c3, vi 0]) (fun _ => by kernel_rfl)) ?_
    refine L_box [.slice A1 n2 c3, vi 0] rfl fun w22 b23 hl25 hu26 g24 hx27 => ?_
    have hc29 := hc0.own g24 (some b23) (oglt hl25 hu26)
    refine L_pu (P_assign (.pointer (some ⟨b23, 0, none⟩)) rfl) ?_
    refine L_nil ?_
    refine W_ret ?_
    exact ⟨[.pointer (some ⟨b23, 0, none⟩)], ⟨_, rfl, rfl⟩, code, 0, b23, A1, n2, c3, rfl, H, hc29.gr.g0, hc29.ok, hc29.ge, hx27, (hp4.st hc29.st)⟩
end Go.Proofs.Ytndjggncgpjolaa

namespace Go.Proofs.Ytndjggncgpjolaa
set_option linter.unusedVariables false
set_option linter.unusedSimpArgs false
set_option linter.unusedSectionVars false
theorem spec_l12Open.law (code : List UInt8) (Q : List UInt8 → Int → Prop) (hq : ∀ b, b.length ≤ 2000 → Q b 0) : spec_l12Open.E code Q := by
  unfold spec_l12Open.E
  by_cases h : (code.length : Int) > 2000
  · rw [if_pos (by simpa using h)]
    exact ⟨by omega, hq _ (by rw [List.length_take]; omega)⟩
  · rw [if_neg (by simpa using h)]
    exact hq _ (by omega)
end Go.Proofs.Ytndjggncgpjolaa

namespace Go.Proofs.Ytndjggncgpjolaa
open Go.RowKit
set_option linter.unusedVariables false
def spec_l12Rd_pick.E (r_b : List UInt8) (r_p : Int) (n : Int) (Q : Int → Int → Prop) : Prop :=
  (I64 (r_p + 1)) ∧ (if decide (n < 1) then Q 0 (r_p + 1) else (if (r_b.length : Int) == 0 then Q 0 (r_p + 1) else ((r_b.length : Int) ≤ 9223372036854775807 → I64 (r_p + 1 - 1)) ∧ (if decide (r_p + 1 - 1 < (r_b.length : Int)) then ((0 : Int) ≤ r_p + 1 - 1 ∧ r_p + 1 - 1 < (r_b.length : Int)) ∧ ((0 : Int) ≤ ((nth r_b (r_p + 1 - 1)).toNat : Int) ∧ (0 : Int) < n) ∧ Q (((nth r_b (r_p + 1 - 1)).toNat : Int) % n) (r_p + 1) else ((0 : Int) ≤ r_p + 1 - 1 ∧ (0 : Int) < (r_b.length : Int)) ∧ ((0 : Int) ≤ (r_p + 1 - 1) % (r_b.length : Int) ∧ (r_p + 1 - 1) % (r_b.length : Int) < (r_b.length : Int)) ∧ ((r_b.length : Int) ≤ 9223372036854775807 → I64 (((nth r_b ((r_p + 1 - 1) % (r_b.length : Int))).toNat : Int) * 131)) ∧ ((r_b.length : Int) ≤ 9223372036854775807 → I64 ((r_p + 1 - 1) * 7)) ∧ ((r_b.length : Int) ≤ 9223372036854775807 → I64 ((r_p + 1 - 1) * 7 + 3)) ∧ ((0 : Int) ≤ (r_p + 1 - 1) * 7 + 3 ∧ (0 : Int) < (r_b.length : Int)) ∧ ((0 : Int) ≤ ((r_p + 1 - 1) * 7 + 3) % (r_b.length : Int) ∧ ((r_p + 1 - 1) * 7 + 3) % (r_b.length : Int) < (r_b.length : Int)) ∧ ((r_b.length : Int) ≤ 9223372036854775807 → I64 (((nth r_b (((r_p + 1 - 1) * 7 + 3) % (r_b.length : Int))).toNat : Int) * 1117)) ∧ ((r_b.length : Int) ≤ 9223372036854775807 → I64 (((nth r_b ((r_p + 1 - 1) % (r_b.length : Int))).toNat : Int) * 131 + ((nth r_b (((r_p + 1 - 1) * 7 + 3) % (r_b.length : Int))).toNat : Int) * 1117)) ∧ ((r_b.length : Int) ≤ 9223372036854775807 → I64 ((r_p + 1 - 1) * 29)) ∧ ((r_b.length : Int) ≤ 9223372036854775807 → I64 (((nth r_b ((r_p + 1 - 1) % (r_b.length : Int))).toNat : Int) * 131 + ((nth r_b (((r_p + 1 - 1) * 7 + 3) % (r_b.length : Int))).toNat : Int) * 1117 + (r_p + 1 - 1) * 29)) ∧ (((0 : Int) ≤ r_p + 1 - 1 ∧ r_p + 1 - 1 ≤ (9223372036854775807 : Int)) ∧ (0 : Int) < (r_b.length : Int)) ∧ ((r_b.length : Int) ≤ 9223372036854775807 → I64 (((r_p + 1 - 1) / (r_b.length : Int)) * 53)) ∧ ((r_b.length : Int) ≤ 9223372036854775807 → I64 (((nth r_b ((r_p + 1 - 1) % (r_b.length : Int))).toNat : Int) * 131 + ((nth r_b (((r_p + 1 - 1) * 7 + 3) % (r_b.length : Int))).toNat : Int) * 1117 + (r_p + 1 - 1) * 29 + ((r_p + 1 - 1) / (r_b.length : Int)) * 53)) ∧ (((0 : Int) ≤ ((nth r_b ((r_p + 1 - 1) % (r_b.length : Int))).toNat : Int) * 131 + ((nth r_b (((r_p + 1 - 1) * 7 + 3) % (r_b.length : Int))).toNat : Int) * 1117 + (r_p + 1 - 1) * 29 + ((r_p + 1 - 1) / (r_b.length : Int)) * 53 ∧ ((nth r_b ((r_p + 1 - 1) % (r_b.length : Int))).toNat : Int) * 131 + ((nth r_b (((r_p + 1 - 1) * 7 + 3) % (r_b.length : Int))).toNat : Int) * 1117 + (r_p + 1 - 1) * 29 + ((r_p + 1 - 1) / (r_b.length : Int)) * 53 ≤ (9223372036854775807 : Int)) ∧ (0 : Int) < 64) ∧ ((0 : Int) ≤ xor64 (((nth r_b ((r_p + 1 - 1) % (r_b.length : Int))).toNat : Int) * 131 + ((nth r_b (((r_p + 1 - 1) * 7 + 3) % (r_b.length : Int))).toNat : Int) * 1117 + (r_p + 1 - 1) * 29 + ((r_p + 1 - 1) / (r_b.length : Int)) * 53) ((((nth r_b ((r_p + 1 - 1) % (r_b.length : Int))).toNat : Int) * 131 + ((nth r_b (((r_p + 1 - 1) * 7 + 3) % (r_b.length : Int))).toNat : Int) * 1117 + (r_p + 1 - 1) * 29 + ((r_p + 1 - 1) / (r_b.length : Int)) * 53) / 64) ∧ (0 : Int) < n) ∧ Q ((xor64 (((nth r_b ((r_p + 1 - 1) % (r_b.length : Int))).toNat : Int) * 131 + ((nth r_b (((r_p + 1 - 1) * 7 + 3) % (r_b.length : Int))).toNat : Int) * 1117 + (r_p + 1 - 1) * 29 + ((r_p + 1 - 1) / (r_b.length : Int)) * 53) ((((nth r_b ((r_p + 1 - 1) % (r_b.length : Int))).toNat : Int) * 131 + ((nth r_b (((r_p + 1 - 1) * 7 + 3) % (r_b.length : Int))).toNat : Int) * 1117 + (r_p + 1 - 1) * 29 + ((r_p + 1 - 1) / (r_b.length : Int)) * 53) / 64)) % n) (r_p + 1))))
set_option maxHeartbeats 8000000 in
set_option maxRecDepth 100000 in
theorem spec_l12Rd_pick.calls {O : Ob} (w0 : World) (hO : Ok w0 O) (b : Nat) (r_b : List UInt8) (A2 : Option Addr) (n3 c4 : Nat) (r_p : Int) (hp5 : Sl Kd.byte w0 (Fr O) (.slice A2 n3 c4) r_b) (hp0 : Bx w0 b [.slice A2 n3 c4, vi r_p]) (hm : some b ∈ O) (n : Int) (Q : Int → Int → Prop) (h : spec_l12Rd_pick.E r_b r_p n Q) :
    Ret Try.prog 45 [.pointer (some ⟨b, 0, none⟩), vi n] w0 (fun v w' => ∃ (r0 : Int) (m0 : Int), v = vi r0 ∧ Q r0 m0 ∧ Gr w0 w' (some b) ∧ Bx w' b [.slice A2 n3 c4, vi m0]) := by
  have H : (I64 (r_p + 1)) ∧ (if decide (n < 1) then Q 0 (r_p + 1) else (if (r_b.length : Int) == 0 then Q 0 (r_p + 1) else ((r_b.length : Int) ≤ 9223372036854775807 → I64 (r_p + 1 - 1)) ∧ (if decide (r_p + 1 - 1 < (r_b.length : Int)) then ((0 : Int) ≤ r_p + 1 - 1 ∧ r_p + 1 - 1 < (r_b.length : Int)) ∧ ((0 : Int) ≤ ((nth r_b (r_p + 1 - 1)).toNat : Int) ∧ (0 : Int) < n) ∧ Q (((nth r_b (r_p + 1 - 1)).toNat : Int) % n) (r_p + 1) else ((0 : Int) ≤ r_p + 1 - 1 ∧ (0 : Int) < (r_b.length : Int)) ∧ ((0 : Int) ≤ (r_p + 1 - 1) % (r_b.length : Int) ∧ (r_p + 1 - 1) % (r_b.length : Int) < (r_b.length : Int)) ∧ ((r_b.length : Int) ≤ 9223372036854775807 → I64 (((nth r_b ((r_p + 1 - 1) % (r_b.length : Int))).toNat : Int) * 131)) ∧ ((r_b.length : Int) ≤ 9223372036854775807 → I64 ((r_p + 1 - 1) * 7)) ∧ ((r_b.length : Int) ≤ 9223372036854775807 → I64 ((r_p + 1 - 1) * 7 + 3)) ∧ ((0 : Int) ≤ (r_p + 1 - 1) * 7 + 3 ∧ (0 : Int) < (r_b.length : Int)) ∧ ((0 : Int) ≤ ((r_p + 1 - 1) * 7 + 3) % (r_b.length : Int) ∧ ((r_p + 1 - 1) * 7 + 3) % (r_b.length : Int) < (r_b.length : Int)) ∧ ((r_b.length : Int) ≤ 9223372036854775807 → I64 (((nth r_b (((r_p + 1 - 1) * 7 + 3) % (r_b.length : Int))).toNat : Int) * 1117)) ∧ ((r_b.length : Int) ≤ 9223372036854775807 → I64 (((nth r_b ((r_p + 1 - 1) % (r_b.length : Int))).toNat : Int) * 131 + ((nth r_b (((r_p + 1 - 1) * 7 + 3) % (r_b.length : Int))).toNat : Int) * 1117)) ∧ ((r_b.length : Int) ≤ 9223372036854775807 → I64 ((r_p + 1 - 1) * 29)) ∧ ((r_b.length : Int) ≤ 9223372036854775807 → I64 (((nth r_b ((r_p + 1 - 1) % (r_b.length : Int))).toNat : Int) * 131 + ((nth r_b (((r_p + 1 - 1) * 7 + 3) % (r_b.length : Int))).toNat : Int) * 1117 + (r_p + 1 - 1) * 29)) ∧ (((0 : Int) ≤ r_p + 1 - 1 ∧ r_p + 1 - 1 ≤ (9223372036854775807 : Int)) ∧ (0 : Int) < (r_b.length : Int)) ∧ ((r_b.length : Int) ≤ 9223372036854775807 → I64 (((r_p + 1 - 1) / (r_b.length : Int)) * 53)) ∧ ((r_b.length : Int) ≤ 9223372036854775807 → I64 (((nth r_b ((r_p + 1 - 1) % (r_b.length : Int))).toNat : Int) * 131 + ((nth r_b (((r_p + 1 - 1) * 7 + 3) % (r_b.length : Int))).toNat : Int) * 1117 + (r_p + 1 - 1) * 29 + ((r_p + 1 - 1) / (r_b.length : Int)) * 53)) ∧ (((0 : Int) ≤ ((nth r_b ((r_p + 1 - 1) % (r_b.length : Int))).toNat : Int) * 131 + ((nth r_b (((r_p + 1 - 1) * 7 + 3) % (r_b.length : Int))).toNat : Int) * 1117 + (r_p + 1 - 1) * 29 + ((r_p + 1 - 1) / (r_b.length : Int)) * 53 ∧ ((nth r_b ((r_p + 1 - 1) % (r_b.length : Int))).toNat : Int) * 131 + ((nth r_b (((r_p + 1 - 1) * 7 + 3) % (r_b.length : Int))).toNat : Int) * 1117 + (r_p + 1 - 1) * 29 + ((r_p + 1 - 1) / (r_b.length : Int)) * 53 ≤ (9223372036854775807 : Int)) ∧ (0 : Int) < 64) ∧ ((0 : Int) ≤ xor64 (((nth r_b ((r_p + 1 - 1) % (r_b.length : Int))).toNat : Int) * 131 + ((nth r_b (((r_p + 1 - 1) * 7 + 3) % (r_b.length : Int))).toNat : Int) * 1117 + (r_p + 1 - 1) * 29 + ((r_p + 1 - 1) / (r_b.length : Int)) * 53) ((((nth r_b ((r_p + 1 - 1) % (r_b.length : Int))).toNat : Int) * 131 + ((nth r_b (((r_p + 1 - 1) * 7 + 3) % (r_b.length : Int))).toNat : Int) * 1117 + (r_p + 1 - 1) * 29 + ((r_p + 1 - 1) / (r_b.length : Int)) * 53) / 64) ∧ (0 : Int) < n) ∧ Q ((xor64 (((nth r_b ((r_p + 1 - 1) % (r_b.length : Int))).toNat : Int) * 131 + ((nth r_b (((r_p + 1 - 1) * 7 + 3) % (r_b.length : Int))).toNat : Int) * 1117 + (r_p + 1 - 1) * 29 + ((r_p + 1 - 1) / (r_b.length : Int)) * 53) ((((nth r_b ((r_p + 1 - 1) % (r_b.length : Int))).toNat : Int) * 131 + ((nth r_b (((r_p + 1 - 1) * 7 + 3) % (r_b.length : Int))).toNat : Int) * 1117 + (r_p + 1 - 1) * 29 + ((r_p + 1 - 1) / (r_b.length : Int)) * 53) / 64)) % n) (r_p + 1)))) := h
  clear h
  have hc0 := Ct.initm1 (r := some b) hO (by intro b e; cases e; exact hm)
  refine Ret_enter Try.func45 rfl 99 rfl [.tmp 4] rfl rfl ?_
  refine W_seq ?_
  refine W_reg ?_
  refine L_pu (P_assign (vi 0) rfl) ?_
  refine L_nil ?_
  refine W_seq ?_
  refine W_reg ?_
  refine L_pu (P_move (.pointer (some ⟨b, 0, none⟩)) rfl) ?_
  refine L_pu (P_move (.pointer (some ⟨b, 0, none⟩)) rfl) ?_
  refine L_pu (P_nilc (.pointer (some ⟨b, 0, none⟩)) rfl _ rfl) ?_
  refine L_pu (P_fa fa143_1 ⟨b, 0, none⟩ ⟨b, 1, none⟩ rfl rfl) ?_
  refine L_pu (P_ld ag3 cL ⟨b, 1, none⟩ (vi r_p) rfl (hp0.cell rfl)) ?_
  obtain ⟨hb7, H⟩ := H
  refine L_pu (P_add r_p 1 rfl rfl hb7) ?_
  refine L_pu (P_nilc (.pointer (some ⟨b, 0, none⟩)) rfl _ rfl) ?_
  refine L_pu (P_fa fa143_1 ⟨b, 0, none⟩ ⟨b, 1, none⟩ rfl rfl) ?_
  refine L_stb b 1 [.slice A2 n3 c4, vi r_p] [vi (r_p + 1)] [.slice A2 n3 c4, vi (r_p + 1)] rfl hp0 rfl sz3 rfl rfl rfl fun w8 g9 hx10 => ?_
  have hc11 := hc0.wm g9
  refine L_nil ?_
  refine W_seq ?_
  refine W_seq ?_
  refine W_reg ?_
  refine L_pu (P_move (vi n) rfl) ?_
  refine L_pu (P_cmp n 1 (decide (n < 1)) rfl rfl rfl) ?_
  refine L_pu (P_move (vb (decide (n < 1))) rfl) ?_
  rcases bool_or (decide (n < 1)) with hq12 | hq12
  · have H := ite_t H hq12
    refine L_pass (dj := 17) rfl rfl (.inl (by exact congrArg Value.bool hq12)) ?_
    refine L_pass (dj := 17) rfl rfl (.inl (by exact congrArg Value.bool hq12)) ?_
    refine L_pass (dj := 17) rfl rfl (.inl (by exact congrArg Value.bool hq12)) ?_
    refine L_pass (dj := 17) rfl rfl (.inl (by exact congrArg Value.bool hq12)) ?_
    refine L_pass (dj := 17) rfl rfl (.inl (by exact congrArg Value.bool hq12)) ?_
    refine L_pass (dj := 17) rfl rfl (.inl (by exact congrArg Value.bool hq12)) ?_
    refine L_pu (P_pick true (vb true) (by exact congrArg Value.bool hq12) rfl) ?_
    refine L_nil ?_
    refine W_ct (b := true) rfl rfl ?_
    refine W_seq ?_
    refine W_reg ?_
    refine L_pu (P_assign (vi 0) rfl) ?_
    refine L_nil ?_
    refine W_ret ?_
    exact ⟨[vi 0], ⟨_, rfl, rfl⟩, 0, r_p + 1, rfl, H, hc11.gr.g1, hx10⟩
  · have H := ite_f H hq12
    refine L_run (dj := 17) rfl rfl (by exact congrArg Value.bool hq12) ?_
    refine L_pu (P_move (.pointer (some ⟨b, 0, none⟩)) rfl) ?_
    refine L_run (dj := 17) rfl rfl (by exact congrArg Value.bool hq12) ?_
    refine L_pu (P_nilc (.pointer (some ⟨b, 0, none⟩)) rfl _ rfl) ?_
    refine L_run (dj := 17) rfl rfl (by exact congrArg Value.bool hq12) ?_
    refine L_pu (P_fa fa143_0 ⟨b, 0, none⟩ ⟨b, 0, none⟩ rfl rfl) ?_
    refine L_run (dj := 17) rfl rfl (by exact congrArg Value.bool hq12) ?_
    refine L_pu (P_ld ag22 cL ⟨b, 0, none⟩ (.slice A2 n3 c4) rfl (hx10.cell rfl)) ?_
    refine L_run (dj := 17) rfl rfl (by exact congrArg Value.bool hq12) ?_
    have hl13 := (hp5.st hc11.st).le
    refine L_pu (P_len Try.underlying22 A2 n3 c4 (hp5.st hc11.st).len rfl) ?_
    refine L_run (dj := 17) rfl rfl (by exact congrArg Value.bool hq12) ?_
    refine L_pu (P_cmp (r_b.length : Int) 0 ((r_b.length : Int) == 0) rfl rfl rfl) ?_
    refine L_pu (P_pick false (vb ((r_b.length : Int) == 0)) (by exact congrArg Value.bool hq12) rfl) ?_
    refine L_nil ?_
    refine W_cond ((r_b.length : Int) == 0) rfl (fun hq14 => ?_) (fun hq14 => ?_)
    · have H := ite_t H hq14
      refine W_seq ?_
      refine W_reg ?_
      refine L_pu (P_assign (vi 0) rfl) ?_
      refine L_nil ?_
      refine W_ret ?_
      exact ⟨[vi 0], ⟨_, rfl, rfl⟩, 0, r_p + 1, rfl, H, hc11.gr.g1, hx10⟩
    · have H := ite_f H hq14
      refine W_skip ?_
      refine W_seq ?_
      refine W_reg ?_
      refine L_pu (P_move (.pointer (some ⟨b, 0, none⟩)) rfl) ?_
      refine L_pu (P_nilc (.pointer (some ⟨b, 0, none⟩)) rfl _ rfl) ?_
      refine L_pu (P_fa fa143_1 ⟨b, 0, none⟩ ⟨b, 1, none⟩ rfl rfl) ?_
      refine L_pu (P_ld ag3 cL ⟨b, 1, none⟩ (vi (r_p + 1)) rfl (hx10.cell rfl)) ?_
      obtain ⟨hb15, H⟩ := H
      have hi16 := hb15 (len_le hl13)
      refine L_pu (P_sub (r_p + 1) 1 rfl rfl hi16) ?_
      refine L_pu (P_assign (vi (r_p + 1 - 1)) rfl) ?_
      refine L_nil ?_
      refine W_seq ?_
      refine W_seq ?_
      refine W_reg ?_
      refine L_pu (P_move (vi (r_p + 1 - 1)) rfl) ?_
      refine L_pu (P_move (.pointer (some ⟨b, 0, none⟩)) rfl) ?_
      refine L_pu (P_nilc (.pointer (some ⟨b, 0, none⟩)) rfl _ rfl) ?_
      refine L_pu (P_fa fa143_0 ⟨b, 0, none⟩ ⟨b, 0, none⟩ rfl rfl) ?_
      refine L_pu (P_ld ag22 cL ⟨b, 0, none⟩ (.slice A2 n3 c4) rfl (hx10.cell rfl)) ?_
      refine L_pu (P_len Try.underlying22 A2 n3 c4 (hp5.st hc11.st).len rfl) ?_
      refine L_pu (P_cmp (r_p + 1 - 1) (r_b.length : Int) (decide (r_p + 1 - 1 < (r_b.length : Int))) rfl rfl rfl) ?_
      refine L_nil ?_
      refine W_cond (decide (r_p + 1 - 1 < (r_b.length : Int))) rfl (fun hq17 => ?_) (fun hq17 => ?_)
      · have H := ite_t H hq17
        refine W_seq ?_
        refine W_reg ?_
        refine L_pu (P_move (.pointer (some ⟨b, 0, none⟩)) rfl) ?_
        refine L_pu (P_nilc (.pointer (some ⟨b, 0, none⟩)) rfl _ rfl) ?_
        refine L_pu (P_fa fa143_0 ⟨b, 0, none⟩ ⟨b, 0, none⟩ rfl rfl) ?_
        refine L_pu (P_ld ag22 cL ⟨b, 0, none⟩ (.slice A2 n3 c4) rfl (hx10.cell rfl)) ?_
        refine L_pu (P_move (vi (r_p + 1 - 1)) rfl) ?_
        obtain ⟨hb18, H⟩ := H
        obtain ⟨ad19, cs20, hA21, hS24, hR22, hcl23⟩ := (hp5.st hc11.st).get default (by decide) (r_p + 1 - 1) hb18
        obtain rfl := Kd.byte.op hR22
        refine L_pu (P_ia Try.underlying22 se22 A2 ad19 n3 c4 (hp5.st hc11.st).len (r_p + 1 - 1) rfl hA21 rfl hb18) ?_
        refine L_pu (P_ld ag5 cL (ad19.add ((r_p + 1 - 1).toNat * 1)) (v8 (nth r_b (r_p + 1 - 1))) rfl (hcl23 0 _ rfl)) ?_
        refine L_pu (P_conv Try.underlying5 Try.underlying3 ((nth r_b (r_p + 1 - 1)).toNat : Int) rfl (i64_byte _)) ?_
        refine L_pu (P_move (vi n) rfl) ?_
        obtain ⟨hb25, H⟩ := H
        refine L_pu (P_rem ((nth r_b (r_p + 1 - 1)).toNat : Int) n rfl rfl hb25) ?_
        refine L_pu (P_assign (vi (((nth r_b (r_p + 1 - 1)).toNat : Int) % n)) rfl) ?_
        refine L_nil ?_
        refine W_ret ?_
        exact ⟨[vi (((nth r_b (r_p + 1 - 1)).toNat : Int) % n)], ⟨_, rfl, rfl⟩, ((nth r_b (r_p + 1 - 1)).toNat : Int) % n, r_p + 1, rfl, H, hc11.gr.g1, hx10⟩
      · have H := ite_f H hq17
        refine W_skip ?_
        refine W_seq ?_
        refine W_draw (fun x => Gr w8 x none) (by kernel_rfl) (by kernel_rfl) (Gr.drew _) ?_
        refine Q_pu (P_move (.pointer (some ⟨b, 0, none⟩)) rfl) ?_
        refine Q_pu (P_nilc (.pointer (some ⟨b, 0, none⟩)) rfl _ rfl) ?_
        refine Q_pu (P_fa fa143_0 ⟨b, 0, none⟩ ⟨b, 0, none⟩ rfl rfl) ?_
        refine Q_pu (P_ld ag22 cQ ⟨b, 0, none⟩ (.slice A2 n3 c4) rfl (hx10.cell rfl)) ?_
        refine Q_pu (P_move (vi (r_p + 1 - 1)) rfl) ?_
        refine Q_pu (P_move (.pointer (some ⟨b, 0, none⟩)) rfl) ?_
        refine Q_pu (P_nilc (.pointer (some ⟨b, 0, none⟩)) rfl _ rfl) ?_
        refine Q_pu (P_fa fa143_0 ⟨b, 0, none⟩ ⟨b, 0, none⟩ rfl rfl) ?_
        refine Q_pu (P_ld ag22 cQ ⟨b, 0, none⟩ (.slice A2 n3 c4) rfl (hx10.cell rfl)) ?_
        refine Q_pu (P_len Try.underlying22 A2 n3 c4 (hp5.st hc11.st).len rfl) ?_
        obtain ⟨hb26, H⟩ := H
        refine Q_pu (P_rem (r_p + 1 - 1) (r_b.length : Int) rfl rfl hb26) ?_
        obtain ⟨hb27, H⟩ := H
        obtain ⟨ad28, cs29, hA30, hS33, hR31, hcl32⟩ := (hp5.st hc11.st).get default (by decide) ((r_p + 1 - 1) % (r_b.length : Int)) hb27
        obtain rfl := Kd.byte.op hR31
        refine Q_pu (P_ia Try.underlying22 se22 A2 ad28 n3 c4 (hp5.st hc11.st).len ((r_p + 1 - 1) % (r_b.length : Int)) rfl hA30 rfl hb27) ?_
        refine Q_pu (P_ld ag5 cQ (ad28.add (((r_p + 1 - 1) % (r_b.length : Int)).toNat * 1)) (v8 (nth r_b ((r_p + 1 - 1) % (r_b.length : Int)))) rfl (hcl32 0 _ rfl)) ?_
        refine Q_pu (P_conv Try.underlying5 Try.underlying3 ((nth r_b ((r_p + 1 - 1) % (r_b.length : Int))).toNat : Int) rfl (i64_byte _)) ?_
        obtain ⟨hb34, H⟩ := H
        have hi35 := hb34 (len_le hl13)
        refine Q_pu (P_mul ((nth r_b ((r_p + 1 - 1) % (r_b.length : Int))).toNat : Int) 131 rfl rfl hi35) ?_
        refine Q_pu (P_move (.pointer (some ⟨b, 0, none⟩)) rfl) ?_
        refine Q_pu (P_nilc (.pointer (some ⟨b, 0, none⟩)) rfl _ rfl) ?_
        refine Q_pu (P_fa fa143_0 ⟨b, 0, none⟩ ⟨b, 0, none⟩ rfl rfl) ?_
        refine Q_pu (P_ld ag22 cQ ⟨b, 0, none⟩ (.slice A2 n3 c4) rfl (hx10.cell rfl)) ?_
        refine Q_pu (P_move (vi (r_p + 1 - 1)) rfl) ?_
        obtain ⟨hb36, H⟩ := H
        have hi37 := hb36 (len_le hl13)
        refine Q_pu (P_mul (r_p + 1 - 1) 7 rfl rfl hi37) ?_
        obtain ⟨hb38, H⟩ := H
        have hi39 := hb38 (len_le hl13)
        refine Q_pu (P_add ((r_p + 1 - 1) * 7) 3 rfl rfl hi39) ?_
        refine Q_pu (P_move (.pointer (some ⟨b, 0, none⟩)) rfl) ?_
        refine Q_pu (P_nilc (.pointer (some ⟨b, 0, none⟩)) rfl _ rfl) ?_
        refine Q_pu (P_fa fa143_0 ⟨b, 0, none⟩ ⟨b, 0, none⟩ rfl rfl) ?_
        refine Q_pu (P_ld ag22 cQ ⟨b, 0, none⟩ (.slice A2 n3 c4) rfl (hx10.cell rfl)) ?_
        refine Q_pu (P_len Try.underlying22 A2 n3 c4 (hp5.st hc11.st).len rfl) ?_
        obtain ⟨hb40, H⟩ := H
        refine Q_pu (P_rem ((r_p + 1 - 1) * 7 + 3) (r_b.length : Int) rfl rfl hb40) ?_
        obtain ⟨hb41, H⟩ := H
        obtain ⟨ad42, cs43, hA44, hS47, hR45, hcl46⟩ := (hp5.st hc11.st).get default (by decide) (((r_p + 1 - 1) * 7 + 3) % (r_b.length : Int)) hb41
        obtain rfl := Kd.byte.op hR45
        refine Q_pu (P_ia Try.underlying22 se22 A2 ad42 n3 c4 (hp5.st hc11.st).len (((r_p + 1 - 1) * 7 + 3) % (r_b.length : Int)) rfl hA44 rfl hb41) ?_
        refine Q_pu (P_ld ag5 cQ (ad42.add ((((r_p + 1 - 1) * 7 + 3) % (r_b.length : Int)).toNat * 1)) (v8 (nth r_b (((r_p + 1 - 1) * 7 + 3) % (r_b.length : Int)))) rfl (hcl46 0 _ rfl)) ?_
        refine Q_pu (P_conv Try.underlying5 Try.underlying3 ((nth r_b (((r_p + 1 - 1) * 7 + 3) % (r_b.length : Int))).toNat : Int) rfl (i64_byte _)) ?_
        obtain ⟨hb48, H⟩ := H
        have hi49 := hb48 (len_le hl13)
        refine Q_pu (P_mul ((nth r_b (((r_p + 1 - 1) * 7 + 3) % (r_b.length : Int))).toNat : Int) 1117 rfl rfl hi49) ?_
        obtain ⟨hb50, H⟩ := H
        have hi51 := hb50 (len_le hl13)
        refine Q_pu (P_add (((nth r_b ((r_p + 1 - 1) % (r_b.length : Int))).toNat : Int) * 131) (((nth r_b (((r_p + 1 - 1) * 7 + 3) % (r_b.length : Int))).toNat : Int) * 1117) rfl rfl hi51) ?_
        refine Q_pu (P_move (vi (r_p + 1 - 1)) rfl) ?_
        obtain ⟨hb52, H⟩ := H
        have hi53 := hb52 (len_le hl13)
        refine Q_pu (P_mul (r_p + 1 - 1) 29 rfl rfl hi53) ?_
        obtain ⟨hb54, H⟩ := H
        have hi55 := hb54 (len_le hl13)
        refine Q_pu (P_add (((nth r_b ((r_p + 1 - 1) % (r_b.length : Int))).toNat : Int) * 131 + ((nth r_b (((r_p + 1 - 1) * 7 + 3) % (r_b.length : Int))).toNat : Int) * 1117) ((r_p + 1 - 1) * 29) rfl rfl hi55) ?_
        refine Q_pu (P_move (vi (r_p + 1 - 1)) rfl) ?_
        refine Q_pu (P_move (.pointer (some ⟨b, 0, none⟩)) rfl) ?_
        refine Q_pu (P_nilc (.pointer (some ⟨b, 0, none⟩)) rfl _ rfl) ?_
        refine Q_pu (P_fa fa143_0 ⟨b, 0, none⟩ ⟨b, 0, none⟩ rfl rfl) ?_
        refine Q_pu (P_ld ag22 cQ ⟨b, 0, none⟩ (.slice A2 n3 c4) rfl (hx10.cell rfl)) ?_
        refine Q_pu (P_len Try.underlying22 A2 n3 c4 (hp5.st hc11.st).len rfl) ?_
        obtain ⟨hb56, H⟩ := H
        refine Q_pu (P_quo (r_p + 1 - 1) (r_b.length : Int) rfl rfl hb56) ?_
        obtain ⟨hb57, H⟩ := H
        have hi58 := hb57 (len_le hl13)
        refine Q_pu (P_mul ((r_p + 1 - 1) / (r_b.length : Int)) 53 rfl rfl hi58) ?_
        obtain ⟨hb59, H⟩ := H
        have hi60 := hb59 (len_le hl13)
        refine Q_pu (P_add (((nth r_b ((r_p + 1 - 1) % (r_b.length : Int))).toNat : Int) * 131 + ((nth r_b (((r_p + 1 - 1) * 7 + 3) % (r_b.length : Int))).toNat : Int) * 1117 + (r_p + 1 - 1) * 29) (((r_p + 1 - 1) / (r_b.length : Int)) * 53) rfl rfl hi60) ?_
        refine Q_pu (P_assign (vi (((nth r_b ((r_p + 1 - 1) % (r_b.length : Int))).toNat : Int) * 131 + ((nth r_b (((r_p + 1 - 1) * 7 + 3) % (r_b.length : Int))).toNat : Int) * 1117 + (r_p + 1 - 1) * 29 + ((r_p + 1 - 1) / (r_b.length : Int)) * 53)) rfl) ?_
        refine Q_nil fun w61 g62 => ?_
        have hc64 := hc11.k0 g62
        refine W_seq ?_
        refine W_reg ?_
        refine L_pu (P_move (vi (((nth r_b ((r_p + 1 - 1) % (r_b.length : Int))).toNat : Int) * 131 + ((nth r_b (((r_p + 1 - 1) * 7 + 3) % (r_b.length : Int))).toNat : Int) * 1117 + (r_p + 1 - 1) * 29 + ((r_p + 1 - 1) / (r_b.length : Int)) * 53)) rfl) ?_
        refine L_pu (P_move (vi (((nth r_b ((r_p + 1 - 1) % (r_b.length : Int))).toNat : Int) * 131 + ((nth r_b (((r_p + 1 - 1) * 7 + 3) % (r_b.length : Int))).toNat : Int) * 1117 + (r_p + 1 - 1) * 29 + ((r_p + 1 - 1) / (r_b.length : Int)) * 53)) rfl) ?_
        obtain ⟨hb65, H⟩ := H
        refine L_pu (P_quo (((nth r_b ((r_p + 1 - 1) % (r_b.length : Int))).toNat : Int) * 131 + ((nth r_b (((r_p + 1 - 1) * 7 + 3) % (r_b.length : Int))).toNat : Int) * 1117 + (r_p + 1 - 1) * 29 + ((r_p + 1 - 1) / (r_b.length : Int)) * 53) 64 rfl rfl hb65) ?_
        refine L_pu (P_xor (((nth r_b ((r_p + 1 - 1) % (r_b.length : Int))).toNat : Int) * 131 + ((nth r_b (((r_p + 1 - 1) * 7 + 3) % (r_b.length : Int))).toNat : Int) * 1117 + (r_p + 1 - 1) * 29 + ((r_p + 1 - 1) / (r_b.length : Int)) * 53) ((((nth r_b ((r_p + 1 - 1) % (r_b.length : Int))).toNat : Int) * 131 + ((nth r_b (((r_p + 1 - 1) * 7 + 3) % (r_b.length : Int))).toNat : Int) * 1117 + (r_p + 1 - 1) * 29 + ((r_p + 1 - 1) / (r_b.length : Int)) * 53) / 64) rfl rfl) ?_
        refine L_pu (P_assign (vi (xor64 (((nth r_b ((r_p + 1 - 1) % (r_b.length : Int))).toNat : Int) * 131 + ((nth r_b (((r_p + 1 - 1) * 7 + 3) % (r_b.length : Int))).toNat : Int) * 1117 + (r_p + 1 - 1) * 29 + ((r_p + 1 - 1) / (r_b.length : Int)) * 53) ((((nth r_b ((r_p + 1 - 1) % (r_b.length : Int))).toNat : Int) * 131 + ((nth r_b (((r_p + 1 - 1) * 7 + 3) % (r_b.length : Int))).toNat : Int) * 1117 + (r_p + 1 - 1) * 29 + ((r_p + 1 - 1) / (r_b.length : Int)) * 53) / 64))) rfl) ?_
        refine L_nil ?_
        refine W_seq ?_
        refine W_reg ?_
        refine L_pu (P_move (vi (xor64 (((nth r_b ((r_p + 1 - 1) % (r_b.length : Int))).toNat : Int) * 131 + ((nth r_b (((r_p + 1 - 1) * 7 + 3) % (r_b.length : Int))).toNat : Int) * 1117 + (r_p + 1 - 1) * 29 + ((r_p + 1 - 1) / (r_b.length : Int)) * 53) ((((nth r_b ((r_p + 1 - 1) % (r_b.length : Int))).toNat : Int) * 131 + ((nth r_b (((r_p + 1 - 1) * 7 + 3) % (r_b.length : Int))).toNat : Int) * 1117 + (r_p + 1 - 1) * 29 + ((r_p + 1 - 1) / (r_b.length : Int)) * 53) / 64))) rfl) ?_
        refine L_pu (P_move (vi n) rfl) ?_
        obtain ⟨hb66, H⟩ := H
        refine L_pu (P_rem (xor64 (((nth r_b ((r_p + 1 - 1) % (r_b.length : Int))).toNat : Int) * 131 + ((nth r_b (((r_p + 1 - 1) * 7 + 3) % (r_b.length : Int))).toNat : Int) * 1117 + (r_p + 1 - 1) * 29 + ((r_p + 1 - 1) / (r_b.length : Int)) * 53) ((((nth r_b ((r_p + 1 - 1) % (r_b.length : Int))).toNat : Int) * 131 + ((nth r_b (((r_p + 1 - 1) * 7 + 3) % (r_b.length : Int))).toNat : Int) * 1117 + (r_p + 1 - 1) * 29 + ((r_p + 1 - 1) / (r_b.length : Int)) * 53) / 64)) n rfl rfl hb66) ?_
        refine L_pu (P_assign (vi ((xor64 (((nth r_b ((r_p + 1 - 1) % (r_b.length : Int))).toNat : Int) * 131 + ((nth r_b (((r_p + 1 - 1) * 7 + 3) % (r_b.length : Int))).toNat : Int) * 1117 + (r_p + 1 - 1) * 29 + ((r_p + 1 - 1) / (r_b.length : Int)) * 53) ((((nth r_b ((r_p + 1 - 1) % (r_b.length : Int))).toNat : Int) * 131 + ((nth r_b (((r_p + 1 - 1) * 7 + 3) % (r_b.length : Int))).toNat : Int) * 1117 + (r_p + 1 - 1) * 29 + ((r_p + 1 - 1) / (r_b.length : Int)) * 53) / 64)) % n)) rfl) ?_
        refine L_nil ?_
        refine W_ret ?_
        have h67 := (hx10.k0 g62)
        exact ⟨[vi ((xor64 (((nth r_b ((r_p + 1 - 1) % (r_b.length : Int))).toNat : Int) * 131 + ((nth r_b (((r_p + 1 - 1) * 7 + 3) % (r_b.length : Int))).toNat : Int) * 1117 + (r_p + 1 - 1) * 29 + ((r_p + 1 - 1) / (r_b.length : Int)) * 53) ((((nth r_b ((r_p + 1 - 1) % (r_b.length : Int))).toNat : Int) * 131 + ((nth r_b (((r_p + 1 - 1) * 7 + 3) % (r_b.length : Int))).toNat : Int) * 1117 + (r_p + 1 - 1) * 29 + ((r_p + 1 - 1) / (r_b.length : Int)) * 53) / 64)) % n)], ⟨_, rfl, rfl⟩, (xor64 (((nth r_b ((r_p + 1 - 1) % (r_b.length : Int))).toNat : Int) * 131 + ((nth r_b (((r_p + 1 - 1) * 7 + 3) % (r_b.length : Int))).toNat : Int) * 1117 + (r_p + 1 - 1) * 29 + ((r_p + 1 - 1) / (r_b.length : Int)) * 53) ((((nth r_b ((r_p + 1 - 1) % (r_b.length : Int))).toNat : Int) * 131 + ((nth r_b (((r_p + 1 - 1) * 7 + 3) % (r_b.length : Int))).toNat : Int) * 1117 + (r_p + 1 - 1) * 29 + ((r_p + 1 - 1) / (r_b.length : Int)) * 53) / 64)) % n, r_p + 1, rfl, H, hc64.gr.g1, h67⟩
end Go.Proofs.Ytndjggncgpjolaa

namespace Go.Proofs.Ytndjggncgpjolaa
set_option linter.unusedVariables false
set_option linter.unusedSimpArgs false
set_option linter.unusedSectionVars false
theorem ediv_le {p l : Int} (hp : 0 ≤ p) (hl : 0 < l) : 0 ≤ p / l ∧ p / l ≤ p := ⟨Int.ediv_nonneg hp (by omega), Int.ediv_le_self _ hp⟩
/-- what is drawn lies below the number that is handed in -/
theorem spec_l12Rd_pick.law (b : List UInt8) (p n : Int) (Q : Int → Int → Prop) (hb : b.length ≤ 2000) (hp : 0 ≤ p) (hp1 : p ≤ 1099511627776) (hq : ∀ v, 0 ≤ v → (v < n ∨ v = 0) → Q v (p + 1)) : spec_l12Rd_pick.E b p n Q := by
  unfold spec_l12Rd_pick.E
  refine ⟨by unfold I64; omega, ?_⟩
  by_cases hn : n < 1
  · rw [if_pos (by simpa using hn)]; exact hq 0 (by omega) (.inr rfl)
  rw [if_neg (by simpa using hn)]
  by_cases hl : (b.length : Int) = 0
  · rw [if_pos (by simpa using hl)]; exact hq 0 (by omega) (.inr rfl)
  rw [if_neg (by simpa using hl)]
  refine ⟨fun _ => by unfold I64; omega, ?_⟩
  rw [show p + 1 - 1 = p by omega]
  have fin : ∀ z : Int, 0 ≤ z → Q (z % n) (p + 1) := fun z hz => hq _ (Int.emod_nonneg _ (by omega)) (.inl (Int.emod_lt_of_pos _ (by omega)))
  by_cases hc : p < (b.length : Int)
  · rw [if_pos (by simpa using hc)]
    exact ⟨by omega, ⟨by omega, by omega⟩, fin _ (by omega)⟩
  rw [if_neg (by simpa using hc)]
  have hlen : (0 : Int) < (b.length : Int) := by omega
  generalize hL : (b.length : Int) = L at *
  have m1 := Int.emod_nonneg p (show L ≠ 0 by omega)
  have m2 := Int.emod_lt_of_pos p hlen
  have m3 := Int.emod_nonneg (p * 7 + 3) (show L ≠ 0 by omega)
  have m4 := Int.emod_lt_of_pos (p * 7 + 3) hlen
  obtain ⟨d1, d2⟩ := ediv_le hp hlen
  generalize p % L = r1 at *
  generalize (p * 7 + 3) % L = r2 at *
  generalize p / L = q at *
  have u1 := (nth b r1).toNat_lt
  have u2 := (nth b r2).toNat_lt
  generalize (nth b r1).toNat = x1 at *
  generalize (nth b r2).toNat = x2 at *
  have s0 : 0 ≤ (x1 : Int) * 131 + (x2 : Int) * 1117 + p * 29 + q * 53 := by omega
  have s1 : (x1 : Int) * 131 + (x2 : Int) * 1117 + p * 29 + q * 53 ≤ 9223372036854775807 := by omega
  refine ⟨by omega, by omega, fun _ => by unfold I64; omega, fun _ => by unfold I64; omega, fun _ => by unfold I64; omega, by omega, by omega, fun _ => by unfold I64; omega, fun _ => by unfold I64; omega, fun _ => by unfold I64; omega, fun _ => by unfold I64; omega, by omega, fun _ => by unfold I64; omega, fun _ => by unfold I64; omega, by omega, ?_⟩
  generalize (x1 : Int) * 131 + (x2 : Int) * 1117 + p * 29 + q * 53 = s at *
  have hx : 0 ≤ xor64 s (s / 64) := xor64_nonneg ⟨s0, s1⟩ (by omega)
  exact ⟨by omega, fin _ hx⟩
end Go.Proofs.Ytndjggncgpjolaa

namespace Go.Proofs.Ytndjggncgpjolaa
open Go.RowKit
set_option linter.unusedVariables false
def spec_l5Seq.E (r_b : List UInt8) (r_p : Int) (most : Int) (Q : List Pt → Int → Prop) : Prop :=
  (I64 (most + 1)) ∧ spec_l12Rd_pick.E r_b r_p (most + 1) (fun r2 m => (∃ (I51 : (List Pt) → Int → Int → Prop) (mu52 : (List Pt) → Int → Int → Nat), I51 ([] : List Pt) r2 m ∧ ∀ (xs2 : List Pt) (i2 : Int) (z2 : Int), I51 xs2 i2 z2 → (if decide (i2 > 0) then spec_l12Rd_pick.E r_b z2 4 (fun r3 m2 => spec_l12Rd_pick.E r_b m2 2 (fun r4 m3 => (xs2.length + ([(⟨r3, r4⟩ : Pt)] : List Pt).length ≤ 268435456) ∧ (I64 (i2 - 1)) ∧ I51 (xs2 ++ ([(⟨r3, r4⟩ : Pt)] : List Pt)) (i2 - 1) m3 ∧ mu52 (xs2 ++ ([(⟨r3, r4⟩ : Pt)] : List Pt)) (i2 - 1) m3 < mu52 xs2 i2 z2)) else Q xs2 z2)))
set_option maxHeartbeats 8000000 in
set_option maxRecDepth 100000 in
theorem spec_l5Seq.calls {O : Ob} (w0 : World) (hO : Ok w0 O) (b : Nat) (r_b : List UInt8) (A2 : Option Addr) (n3 c4 : Nat) (r_p : Int) (hp5 : Sl Kd.byte w0 (Fr O) (.slice A2 n3 c4) r_b) (hp0 : Bx w0 b [.slice A2 n3 c4, vi r_p]) (hm : some b ∈ O) (most : Int) (Q : List Pt → Int → Prop) (h : spec_l5Seq.E r_b r_p most Q) :
    Ret Try.prog 44 [.pointer (some ⟨b, 0, none⟩), vi most] w0 (fun v w' => ∃ (r0 : List Pt) (m0 : Int) (A0 : Option Addr) (n0 c0 : Nat), v = .slice A0 n0 c0 ∧ Q r0 m0 ∧ Gr w0 w' (some b) ∧ Bx w' b [.slice A2 n3 c4, vi m0] ∧ Ok w' ([blk (.slice A0 n0 c0)] ++ O) ∧ (∀ b, some b ∈ [blk (.slice A0 n0 c0)] → w0.heap.size ≤ b) ∧ Ow kPt 29 w' ([blk (.slice A0 n0 c0)] ++ O) (.slice A0 n0 c0) r0) := by
  have H : (I64 (most + 1)) ∧ spec_l12Rd_pick.E r_b r_p (most + 1) (fun r2 m => (∃ (I51 : (List Pt) → Int → Int → Prop) (mu52 : (List Pt) → Int → Int → Nat), I51 ([] : List Pt) r2 m ∧ ∀ (xs2 : List Pt) (i2 : Int) (z2 : Int), I51 xs2 i2 z2 → (if decide (i2 > 0) then spec_l12Rd_pick.E r_b z2 4 (fun r3 m2 => spec_l12Rd_pick.E r_b m2 2 (fun r4 m3 => (xs2.length + ([(⟨r3, r4⟩ : Pt)] : List Pt).length ≤ 268435456) ∧ (I64 (i2 - 1)) ∧ I51 (xs2 ++ ([(⟨r3, r4⟩ : Pt)] : List Pt)) (i2 - 1) m3 ∧ mu52 (xs2 ++ ([(⟨r3, r4⟩ : Pt)] : List Pt)) (i2 - 1) m3 < mu52 xs2 i2 z2)) else Q xs2 z2))) := h
  clear h
  have hc0 := Ct.initm1 (r := some b) hO (by intro b e; cases e; exact hm)
  refine Ret_enter Try.func44 rfl 25 rfl [.tmp 4] rfl rfl ?_
  refine W_seq ?_
  refine W_reg ?_
  refine L_pu (P_assign (.slice none 0 0) rfl) ?_
  refine L_nil ?_
  refine W_seq ?_
  refine W_reg ?_
  refine L_lit (kd := kPt) ei23 hc0 ([] : List Pt) (cells := []) rfl (fun _ => by kernel_rfl) fun w7 A8 n9 c10 g11 hr12 hc13 h14 => ?_
  refine L_pu (P_assign (.slice A8 n9 c10) rfl) ?_
  refine L_nil ?_
  refine W_seq ?_
  refine W_seq ?_
  refine W_reg ?_
  refine L_pu (P_move (.pointer (some ⟨b, 0, none⟩)) rfl) ?_
  refine L_pu (P_move (vi most) rfl) ?_
  obtain ⟨hb16, H⟩ := H
  refine L_pu (P_add most 1 rfl rfl hb16) ?_
  have h17 := (hp0.k0 g11)
  refine L_call go45 [.pointer (some ⟨b, 0, none⟩), vi (most + 1)] rfl ((spec_l12Rd_pick.calls w7 hc13.ok b r_b A2 n3 c4 r_p (hp5.st hc13.st) h17 (List.mem_append_right _ hm) (most + 1) _ H).mono ?_)
  rintro _ w18 ⟨r2, m, rfl, H, g19, hx20⟩
  have hc23 := hc13.wm g19
  refine L_pu (P_assign (vi r2) rfl) ?_
  refine L_nil ?_
  refine W_block ?_
  obtain ⟨I51, mu52, hI53, H⟩ := H
  have h55 := (Ow.swm (L := [blk (.slice A8 n9 c10)]) (O := O) h14 hc13 (i := 0) rfl g19)
  refine W_loop (α := (List Pt) × (Option Addr) × Nat × Nat × Int × Int) (fun (sv__ : (List Pt) × (Option Addr) × Nat × Nat × Int × Int) t w41 => match sv__ with | (xs2, A42, n43, c44, i2, z2) => I51 xs2 i2 z2 ∧ Has t [(0, .pointer (some ⟨b, 0, none⟩)), (5, .slice A42 n43 c44), (6, vi i2)] ∧ Ct [some b] w0 w41 [blk (.slice A42 n43 c44)] O ∧ Sl Kd.byte w41 (Fr ([blk (.slice A42 n43 c44)] ++ O)) (.slice A2 n3 c4) r_b ∧ Ow kPt 29 w41 ([blk (.slice A42 n43 c44)] ++ O) (.slice A42 n43 c44) xs2 ∧ Bx w41 b [.slice A2 n3 c4, vi z2]) (fun (sv__ : (List Pt) × (Option Addr) × Nat × Nat × Int × Int) => match sv__ with | (xs2, _, _, _, i2, z2) => mu52 xs2 i2 z2) (([] : List Pt), A8, n9, c10, r2, m) ⟨hI53, ⟨rfl, rfl, rfl, trivial⟩, hc23, (hp5.st hc23.st), h55, hx20⟩ ?_
  rintro ⟨xs2, A42, n43, c44, i2, z2⟩ _ w41 ⟨hI53, hh56, hc47, h48, h49, h50⟩
  obtain ⟨u57, rfl⟩ := Has.ins hh56
  have H := H xs2 i2 z2 hI53
  refine W_seq ?_
  refine W_seq ?_
  refine W_reg ?_
  refine L_pu (P_move (vi i2) rfl) ?_
  refine L_pu (P_cmp i2 0 (decide (i2 > 0)) rfl rfl rfl) ?_
  refine L_nil ?_
  refine W_cond (decide (i2 > 0)) rfl (fun hq58 => ?_) (fun hq58 => ?_)
  · have H := ite_t H hq58
    refine W_skip ?_
    refine W_seq ?_
    refine W_block ?_
    refine W_reg ?_
    refine L_pu (P_move (.slice A42 n43 c44) rfl) ?_
    refine L_pu (P_move (.pointer (some ⟨b, 0, none⟩)) rfl) ?_
    refine L_call go45 [.pointer (some ⟨b, 0, none⟩), vi 4] rfl ((spec_l12Rd_pick.calls w41 hc47.ok b r_b A2 n3 c4 z2 h48 h50 (List.mem_append_right _ hm) 4 _ H).mono ?_)
    rintro _ w59 ⟨r3, m2, rfl, H, g60, hx61⟩
    have hc64 := hc47.wm g60
    refine L_pu (P_move (.pointer (some ⟨b, 0, none⟩)) rfl) ?_
    have h65 := (h48.st (.wm (L := [blk (.slice A42 n43 c44)]) (O := O) hc47 g60))
    refine L_call go45 [.pointer (some ⟨b, 0, none⟩), vi 2] rfl ((spec_l12Rd_pick.calls w59 hc64.ok b r_b A2 n3 c4 m2 h65 hx61 (List.mem_append_right _ hm) 2 _ H).mono ?_)
    rintro _ w66 ⟨r4, m3, rfl, H, g67, hx68⟩
    have hc71 := hc64.wm g67
    refine L_pu (P_build (.agg #[vi r3, vi r4]) (fun _ => by kernel_rfl)) ?_
    refine L_lit (kd := kPt) ei23 hc71 ([(⟨r3, r4⟩ : Pt)] : List Pt) (cells := [vi r3, vi r4]) ⟨[vi r3, vi r4], _, rfl, (kPt.mk _ _ (⟨r3, r4⟩ : Pt)), rfl⟩ (fun _ => by kernel_rfl) fun w72 A73 n74 c75 g76 hr77 hc78 h79 => ?_
    obtain ⟨hb81, H⟩ := H
    have h82 := ((Ow.swm (L := [blk (.slice A42 n43 c44)]) (O := O) (Ow.swm (L := [blk (.slice A42 n43 c44)]) (O := O) h49 hc47 (i := 0) rfl g60) hc64 (i := 0) rfl g67).so _ g76 hr77)
    refine L_app ei23 hc78 (.slice A42 n43 c44) xs2 ([(⟨r3, r4⟩ : Pt)] : List Pt) rfl h82 (.slice A73 n74 c75) rfl h79.sx 1 rfl hb81 fun w83 A84 n85 c86 g87 s88 hc89 h90 => ?_
    refine L_pu (P_assign (.slice A84 n85 c86) rfl) ?_
    refine L_nil ?_
    refine W_reg ?_
    refine L_pu (P_move (vi i2) rfl) ?_
    obtain ⟨hb92, H⟩ := H
    refine L_pu (P_sub i2 1 rfl rfl hb92) ?_
    refine L_pu (P_assign (vi (i2 - 1)) rfl) ?_
    refine L_nil ?_
    have hc93 := hc89.drop 0 rfl
    obtain ⟨hI94, hm95⟩ := H
    have h96 := ((((h65.st (.wm (L := [blk (.slice A42 n43 c44)]) (O := O) hc64 g67)).st (.own _ _ g76 hr77)).st s88).st (.dr _ (L := [blk (.slice A73 n74 c75), blk (.slice A84 n85 c86)]) (O := O) (j := 0) rfl))
    have h97 := (Ow.sd (L := [blk (.slice A73 n74 c75), blk (.slice A84 n85 c86)]) (O := O) h90 (i := 1) rfl (j := 0) rfl (by decide))
    have h98 := (Bx.mo (L := [blk (.slice A73 n74 c75), blk (.slice A42 n43 c44)]) (O := O) (hx68.k0 g76) hc78 (j := 1) rfl g87)
    exact ⟨((xs2 ++ ([(⟨r3, r4⟩ : Pt)] : List Pt)), A84, n85, c86, i2 - 1, m3), hm95, hI94, ⟨rfl, rfl, rfl, trivial⟩, hc93, h96, h97, h98⟩
  · have H := ite_f H hq58
    refine W_exit (xin_hit ?_)
    refine W_seq ?_
    refine W_reg ?_
    refine L_pu (P_move (.slice A42 n43 c44) rfl) ?_
    refine L_pu (P_assign (.slice A42 n43 c44) rfl) ?_
    refine L_nil ?_
    refine W_ret ?_
    exact ⟨[.slice A42 n43 c44], ⟨_, rfl, rfl⟩, xs2, z2, A42, n43, c44, rfl, H, hc47.gr.g1, h50, hc47.ok, hc47.ge, h49⟩
end Go.Proofs.Ytndjggncgpjolaa

/- Words: what two rows have in common, in plain lists. -/
namespace Go.Proofs.Ytndjggncgpjolaa
set_option linter.unusedSimpArgs false
set_option linter.unusedVariables false
set_option linter.unusedSectionVars false
section
variable {α : Type} [DecidableEq α]
def lcsR (x : α) (p : List α → Nat) : List α → Nat
  | [] => 0
  | y :: b => if x = y then p b + 1 else max (p (y :: b)) (lcsR x p b)
def lcs : List α → List α → Nat
  | [] => fun _ => 0
  | x :: a => lcsR x (lcs a)
@[simp] theorem lcs_nil (b : List α) : lcs [] b = 0 := rfl
@[simp] theorem lcs_nil2 (a : List α) : lcs a [] = 0 := by cases a <;> rfl
theorem lcs_cons (x y : α) (a b : List α) : lcs (x :: a) (y :: b) = if x = y then lcs a b + 1 else max (lcs a (y :: b)) (lcs (x :: a) b) := rfl
theorem lcs_sub (a b : List α) : ∃ s : List α, s.Sublist a ∧ s.Sublist b ∧ s.length = lcs a b := by
  induction a generalizing b with
  | nil => exact ⟨[], List.nil_sublist _, List.nil_sublist _, rfl⟩
  | cons x a ih =>
    induction b with
    | nil => exact ⟨[], List.nil_sublist _, List.nil_sublist _, rfl⟩
    | cons y b ihb =>
      rw [lcs_cons]
      by_cases h : x = y
      · subst h
        obtain ⟨s, h1, h2, h3⟩ := ih b
        exact ⟨x :: s, h1.cons_cons x, h2.cons_cons x, by rw [if_pos rfl, ← h3]; rfl⟩
      · rw [if_neg h]
        by_cases hm : lcs (x :: a) b ≤ lcs a (y :: b)
        · obtain ⟨s, h1, h2, h3⟩ := ih (y :: b)
          exact ⟨s, h1.cons x, h2, by omega⟩
        · obtain ⟨s, h1, h2, h3⟩ := ihb
          exact ⟨s, h1, h2.cons y, by omega⟩
theorem lcs_max {s a b : List α} (h1 : s.Sublist a) (h2 : s.Sublist b) : s.length ≤ lcs a b := by
  induction a generalizing s b with
  | nil => rw [List.sublist_nil.1 h1]; exact Nat.zero_le _
  | cons x a ih =>
    induction b generalizing s with
    | nil => rw [List.sublist_nil.1 h2]; exact Nat.zero_le _
    | cons y b ihb =>
      rw [lcs_cons]
      by_cases h : x = y
      · subst h
        rw [if_pos rfl]
        cases s with
        | nil => exact Nat.zero_le _
        | cons z s =>
          have := ih (List.Sublist.tail h1) (List.Sublist.tail h2)
          simp only [List.tail_cons] at this
          simp only [List.length_cons]; omega
      · rw [if_neg h]
        cases h1 with
        | cons _ h1 => have := ih h1 h2; omega
        | cons_cons _ h1 =>
          cases h2 with
          | cons _ h2 => have := ihb (h1.cons_cons x) h2; omega
          | cons_cons _ h2 => exact absurd rfl h
theorem lcs_le1 (a b : List α) : lcs a b ≤ a.length := by
  obtain ⟨s, h1, h2, h3⟩ := lcs_sub a b; rw [← h3]; exact h1.length_le
theorem lcs_le2 (a b : List α) : lcs a b ≤ b.length := by
  obtain ⟨s, h1, h2, h3⟩ := lcs_sub a b; rw [← h3]; exact h2.length_le
theorem lcs_comm (a b : List α) : lcs a b = lcs b a := by
  apply Nat.le_antisymm
  · obtain ⟨s, h1, h2, h3⟩ := lcs_sub a b; rw [← h3]; exact lcs_max h2 h1
  · obtain ⟨s, h1, h2, h3⟩ := lcs_sub b a; rw [← h3]; exact lcs_max h2 h1
theorem lcs_mono {a a' b b' : List α} (ha : a.Sublist a') (hb : b.Sublist b') : lcs a b ≤ lcs a' b' := by
  obtain ⟨s, h1, h2, h3⟩ := lcs_sub a b; rw [← h3]; exact lcs_max (h1.trans ha) (h2.trans hb)
theorem lcs_sub_eq {a b : List α} (h : a.Sublist b) : lcs a b = a.length :=
  Nat.le_antisymm (lcs_le1 a b) (lcs_max (List.Sublist.refl a) h)
theorem lcs_self (a : List α) : lcs a a = a.length := lcs_sub_eq (List.Sublist.refl a)
theorem lcs_insert (u v b : List α) (x : α) : lcs (u ++ x :: v) b ≤ lcs (u ++ v) b + 1 := by
  obtain ⟨s, h1, h2, h3⟩ := lcs_sub (u ++ x :: v) b
  obtain ⟨s1, s2, rfl, h4, h5⟩ := List.sublist_append_iff.1 h1
  have : ∃ r : List α, r.Sublist v ∧ r.Sublist s2 ∧ s2.length ≤ r.length + 1 := by
    cases h5 with
    | cons _ h => exact ⟨s2, h, List.Sublist.refl _, by omega⟩
    | cons_cons _ h => exact ⟨_, h, List.sublist_cons_self _ _, Nat.le_refl _⟩
  obtain ⟨r, r1, r2, r3⟩ := this
  have := lcs_max (h4.append r1) (((List.Sublist.refl s1).append r2).trans h2)
  simp only [List.length_append] at this h3; omega
theorem lcs_insert_le (u v b : List α) (x : α) : lcs (u ++ v) b ≤ lcs (u ++ x :: v) b :=
  lcs_mono ((List.Sublist.refl u).append (List.sublist_cons_self x v)) (List.Sublist.refl b)
theorem lcs_snoc (a b : List α) (x : α) : lcs (a ++ [x]) (b ++ [x]) = lcs a b + 1 := by
  apply Nat.le_antisymm
  · obtain ⟨s, h1, h2, h3⟩ := lcs_sub (a ++ [x]) (b ++ [x])
    have f : ∀ {a : List α}, s.Sublist (a ++ [x]) → s.dropLast.Sublist a := fun {a} h => by
      have := h.reverse.tail.reverse
      rw [List.reverse_append, List.reverse_singleton, List.singleton_append, List.tail_cons, List.reverse_reverse, List.tail_reverse, List.reverse_reverse] at this
      exact this
    have := lcs_max (f h1) (f h2)
    rw [List.length_dropLast] at this; omega
  · obtain ⟨s, h1, h2, h3⟩ := lcs_sub a b
    have := lcs_max (h1.append (List.Sublist.refl [x])) (h2.append (List.Sublist.refl [x]))
    simp only [List.length_append, List.length_singleton] at this; omega
theorem lcs_append (a b c : List α) : lcs (a ++ c) (b ++ c) = lcs a b + c.length := by
  induction c generalizing a b with
  | nil => simp
  | cons x c ih =>
    have h : ∀ l : List α, l ++ x :: c = l ++ [x] ++ c := fun l => by simp
    rw [h, h, ih, lcs_snoc, List.length_cons]; omega

/-! ### pairs -/
theorem pp {a b c d : Nat} (h : a = c) (k : b = d) : (a, b) = (c, d) := by rw [h, k]
def pairs (i j : Nat) : List α → List α → List (Nat × Nat)
  | x :: a, y :: b => if x = y then (i, j) :: pairs (i + 1) (j + 1) a b else if lcs (x :: a) b ≤ lcs a (y :: b) then pairs (i + 1) j a (y :: b) else pairs i (j + 1) (x :: a) b
  | [], _ => []
  | _ :: _, [] => []
  termination_by a b => a.length + b.length
theorem pairs_nil (i j : Nat) (b : List α) : pairs i j [] b = [] := by rw [pairs]
theorem pairs_nil2 (i j : Nat) (a : List α) : pairs i j a [] = [] := by cases a <;> rw [pairs]
theorem pairs_cons (i j : Nat) (x y : α) (a b : List α) : pairs i j (x :: a) (y :: b) = if x = y then (i, j) :: pairs (i + 1) (j + 1) a b else if lcs (x :: a) b ≤ lcs a (y :: b) then pairs (i + 1) j a (y :: b) else pairs i (j + 1) (x :: a) b := by rw [pairs]
theorem pairs_ind {C : Nat → Nat → List α → List α → Prop} (h0 : ∀ i j b, C i j [] b) (h1 : ∀ i j a, C i j a [])
    (he : ∀ i j x a b, C (i + 1) (j + 1) a b → C i j (x :: a) (x :: b))
    (ha : ∀ i j x y a b, x ≠ y → lcs (x :: a) b ≤ lcs a (y :: b) → C (i + 1) j a (y :: b) → C i j (x :: a) (y :: b))
    (hb : ∀ i j x y a b, x ≠ y → ¬ lcs (x :: a) b ≤ lcs a (y :: b) → C i (j + 1) (x :: a) b → C i j (x :: a) (y :: b)) : ∀ i j (a b : List α), C i j a b := by
  have : ∀ n i j (a b : List α), a.length + b.length ≤ n → C i j a b := by
    intro n
    induction n with
    | zero => intro i j a b h; cases a with
      | nil => exact h0 _ _ _
      | cons _ _ => simp at h
    | succ n ih =>
      intro i j a b h
      cases a with
      | nil => exact h0 _ _ _
      | cons x a => cases b with
        | nil => exact h1 _ _ _
        | cons y b =>
          simp only [List.length_cons] at h
          by_cases e : x = y
          · subst e; exact he _ _ _ _ _ (ih _ _ _ _ (by omega))
          · by_cases l : lcs (x :: a) b ≤ lcs a (y :: b)
            · exact ha _ _ _ _ _ _ e l (ih _ _ _ _ (by simp only [List.length_cons]; omega))
            · exact hb _ _ _ _ _ _ e l (ih _ _ _ _ (by simp only [List.length_cons]; omega))
  exact fun i j a b => this _ i j a b (Nat.le_refl _)
theorem pairs_len (i j : Nat) (a b : List α) : (pairs i j a b).length = lcs a b := by
  refine pairs_ind (C := fun i j a b => (pairs i j a b).length = lcs a b) ?_ ?_ ?_ ?_ ?_ i j a b
  · intros; rw [pairs_nil]; rfl
  · intros; rw [pairs_nil2, lcs_nil2]; rfl
  · intro i j x a b h; rw [pairs_cons, if_pos rfl, lcs_cons, if_pos rfl, List.length_cons, h]
  · intro i j x y a b e l h; rw [pairs_cons, if_neg e, if_pos l, lcs_cons, if_neg e, h]; exact (Nat.max_eq_left l).symm
  · intro i j x y a b e l h; rw [pairs_cons, if_neg e, if_neg l, lcs_cons, if_neg e, h]; exact (Nat.max_eq_right (by omega)).symm
/-- what is paired lies at or behind the two places, and holds the same -/
theorem pairs_mem (i j : Nat) (a b : List α) : ∀ p ∈ pairs i j a b, ∃ k l, p = (i + k, j + l) ∧ ∃ x, a[k]? = some x ∧ b[l]? = some x := by
  refine pairs_ind (C := fun i j a b => ∀ p ∈ pairs i j a b, ∃ k l, p = (i + k, j + l) ∧ ∃ x, a[k]? = some x ∧ b[l]? = some x) ?_ ?_ ?_ ?_ ?_ i j a b
  · intro i j b p h; rw [pairs_nil] at h; cases h
  · intro i j a p h; rw [pairs_nil2] at h; cases h
  · intro i j x a b ih p h
    rw [pairs_cons, if_pos rfl] at h
    rcases List.mem_cons.1 h with rfl | h
    · exact ⟨0, 0, rfl, x, rfl, rfl⟩
    · obtain ⟨k, l, rfl, z, h1, h2⟩ := ih p h
      exact ⟨k + 1, l + 1, pp (by omega) (by omega), z, h1, h2⟩
  · intro i j x y a b e l ih p h
    rw [pairs_cons, if_neg e, if_pos l] at h
    obtain ⟨k, l, rfl, z, h1, h2⟩ := ih p h
    exact ⟨k + 1, l, pp (by omega) (by omega), z, h1, h2⟩
  · intro i j x y a b e l ih p h
    rw [pairs_cons, if_neg e, if_neg l] at h
    obtain ⟨k, l, rfl, z, h1, h2⟩ := ih p h
    exact ⟨k, l + 1, pp (by omega) (by omega), z, h1, h2⟩
theorem pairs_ord (i j : Nat) (a b : List α) : (pairs i j a b).Pairwise (fun p q => p.1 < q.1 ∧ p.2 < q.2) := by
  refine pairs_ind (C := fun i j a b => (pairs i j a b).Pairwise (fun p q => p.1 < q.1 ∧ p.2 < q.2)) ?_ ?_ ?_ ?_ ?_ i j a b
  · intros; rw [pairs_nil]; exact List.Pairwise.nil
  · intros; rw [pairs_nil2]; exact List.Pairwise.nil
  · intro i j x a b h; rw [pairs_cons, if_pos rfl]
    refine List.Pairwise.cons (fun p hp => ?_) h
    obtain ⟨k, l, rfl, _⟩ := pairs_mem _ _ _ _ p hp
    exact ⟨by dsimp only; omega, by dsimp only; omega⟩
  · intro i j x y a b e l h; rw [pairs_cons, if_neg e, if_pos l]; exact h
  · intro i j x y a b e l h; rw [pairs_cons, if_neg e, if_neg l]; exact h
theorem pairs_self (i j : Nat) (a b : List α) : pairs i j a (a ++ b) = (List.range a.length).map fun k => (i + k, j + k) := by
  induction a generalizing i j with
  | nil => exact pairs_nil _ _ _
  | cons x a ih =>
    rw [List.cons_append, pairs_cons, if_pos rfl, ih, List.length_cons, List.range_succ_eq_map, List.map_cons, List.map_map]
    congr 1
    apply List.map_congr_left; intro k _; simp only [Function.comp, Prod.mk.injEq]; omega
theorem pairs_cons_self (i j : Nat) (x : α) (a b : List α) : pairs i j (x :: a) (x :: b) = (i, j) :: pairs (i + 1) (j + 1) a b := by rw [pairs_cons, if_pos rfl]
theorem pairs_shift (i j : Nat) (a b : List α) (u v : Nat) : pairs (i + u) (j + v) a b = (pairs i j a b).map fun p => (p.1 + u, p.2 + v) := by
  refine pairs_ind (C := fun i j a b => pairs (i + u) (j + v) a b = (pairs i j a b).map fun p => (p.1 + u, p.2 + v)) ?_ ?_ ?_ ?_ ?_ i j a b
  · intros; rw [pairs_nil, pairs_nil]; rfl
  · intros; rw [pairs_nil2, pairs_nil2]; rfl
  · intro i j x a b h; rw [pairs_cons_self, pairs_cons_self, List.map_cons, ← h, Nat.add_right_comm i, Nat.add_right_comm j]
  · intro i j x y a b e l h; rw [pairs_cons, if_neg e, if_pos l, pairs_cons, if_neg e, if_pos l, ← h, Nat.add_right_comm i]
  · intro i j x y a b e l h; rw [pairs_cons, if_neg e, if_neg l, pairs_cons, if_neg e, if_neg l, ← h, Nat.add_right_comm j]
/-- one more that neither holds, at the end of both -/
theorem pairs_snoc (p : α) (i j : Nat) (a b : List α) : p ∉ a → p ∉ b → pairs i j (a ++ [p]) (b ++ [p]) = pairs i j a b ++ [(i + a.length, j + b.length)] := by
  refine pairs_ind (C := fun i j a b => p ∉ a → p ∉ b → pairs i j (a ++ [p]) (b ++ [p]) = pairs i j a b ++ [(i + a.length, j + b.length)]) ?_ ?_ ?_ ?_ ?_ i j a b
  · intro i j b _ hb
    rw [pairs_nil]
    induction b generalizing j with
    | nil => rw [List.nil_append, List.nil_append, pairs_cons_self, pairs_nil]; rfl
    | cons y b ih =>
      have : p ≠ y := fun e => hb (e ▸ List.mem_cons_self)
      have ih := ih (j + 1) (fun h => hb (List.mem_cons_of_mem _ h))
      rw [List.nil_append] at ih
      rw [List.nil_append, List.cons_append, pairs_cons, if_neg this, if_neg, ih]
      · simp only [List.nil_append, List.length_nil, List.length_cons, List.cons.injEq, Prod.mk.injEq, and_true, Nat.add_zero, true_and]; omega
      · have := lcs_snoc [] b p
        rw [List.nil_append] at this
        rw [lcs_nil, this]; omega
  · intro i j a ha _
    rw [pairs_nil2]
    induction a generalizing i with
    | nil => rw [List.nil_append, pairs_cons_self, pairs_nil]; rfl
    | cons y a ih =>
      have : y ≠ p := fun e => ha (e ▸ List.mem_cons_self)
      have ih := ih (i + 1) (fun h => ha (List.mem_cons_of_mem _ h))
      rw [List.nil_append] at ih
      rw [List.nil_append, List.cons_append, pairs_cons, if_neg this, if_pos, ih]
      · simp only [List.nil_append, List.length_nil, List.length_cons, List.cons.injEq, Prod.mk.injEq, and_true, Nat.add_zero, true_and]; omega
      · rw [lcs_nil2]; omega
  · intro i j x a b ih ha hb
    rw [List.cons_append, List.cons_append, pairs_cons_self, pairs_cons_self, ih (fun h => ha (List.mem_cons_of_mem _ h)) (fun h => hb (List.mem_cons_of_mem _ h))]
    simp only [List.length_cons, List.cons_append, List.cons.injEq, true_and, List.append_cancel_left_eq, Prod.mk.injEq, and_true]; omega
  · intro i j x y a b e l ih ha hb
    rw [List.cons_append, List.cons_append, pairs_cons, if_neg e, if_pos, pairs_cons, if_neg e, if_pos l, ← List.cons_append, ih (fun h => ha (List.mem_cons_of_mem _ h)) hb]
    · simp only [List.length_cons]; congr 2; exact pp (by omega) (by omega)
    · rw [← List.cons_append, ← List.cons_append, lcs_snoc, lcs_snoc]; omega
  · intro i j x y a b e l ih ha hb
    rw [List.cons_append, List.cons_append, pairs_cons, if_neg e, if_neg, pairs_cons, if_neg e, if_neg l, ← List.cons_append, ih ha (fun h => hb (List.mem_cons_of_mem _ h))]
    · simp only [List.length_cons]; congr 2; exact pp (by omega) (by omega)
    · rw [← List.cons_append, ← List.cons_append, lcs_snoc, lcs_snoc]; omega

end
section
variable {α : Type} [Inhabited α]
theorem nth_set (l : List α) {k : Nat} (h : k < l.length) (m : Nat) (v : α) : nth (l.set k v) (m : Int) = if m = k then v else nth l (m : Int) := by
  unfold nth
  rw [Int.toNat_natCast, List.getD_eq_getElem?_getD, List.getD_eq_getElem?_getD, List.getElem?_set]
  by_cases e : m = k
  · subst e; rw [if_pos rfl, if_pos rfl, if_pos h]; rfl
  · rw [if_neg (fun x => e x.symm), if_neg e]
theorem nth_rep (n m : Nat) (v : α) (h : m < n) : nth (List.replicate n v) (m : Int) = v := by
  rw [nth_nat _ (by simpa using h)]; simp
theorem drop_nth (l : List α) {k : Nat} (h : k < l.length) : l.drop k = nth l (k : Int) :: l.drop (k + 1) := by
  rw [nth_nat l h]; exact List.drop_eq_getElem_cons h
/-- the elements from one place to another -/
def seg (l : List α) (i j : Nat) : List α := (l.drop i).take (j - i)
theorem seg_len (l : List α) (i j : Nat) (h : j ≤ l.length) : (seg l i j).length = j - i := by
  unfold seg; rw [List.length_take, List.length_drop]; omega
theorem seg_end (l : List α) (i : Nat) : seg l i l.length = l.drop i := List.take_of_length_le (by simp)
theorem seg_app (l : List α) {i j : Nat} (h : i ≤ j) : seg l i j ++ l.drop j = l.drop i := by
  unfold seg
  have : l.drop j = (l.drop i).drop (j - i) := by rw [List.drop_drop]; congr 1; omega
  rw [this, List.take_append_drop]
theorem seg_self (l : List α) (i : Nat) : seg l i i = [] := by unfold seg; rw [Nat.sub_self, List.take_zero]
theorem seg_cons (x : α) (l : List α) (i j : Nat) : seg (x :: l) (i + 1) (j + 1) = seg l i j := by unfold seg; rw [List.drop_succ_cons, Nat.add_sub_add_right]
theorem seg_snoc (x : α) (l : List α) (i j : Nat) (h : j ≤ l.length) (hij : i ≤ j) : seg (l ++ [x]) i j = seg l i j := by
  unfold seg; rw [List.drop_append_of_le_length (by omega), List.take_append_of_le_length (by rw [List.length_drop]; omega)]
theorem nth_cons (x : α) (l : List α) (k : Nat) : nth (x :: l) ((k + 1 : Nat) : Int) = nth l (k : Int) := rfl
theorem nth_zero (x : α) (l : List α) : nth (x :: l) ((0 : Nat) : Int) = x := rfl
theorem nth_app (l m : List α) {k : Nat} (h : k < l.length) : nth (l ++ m) (k : Int) = nth l (k : Int) := by
  rw [nth_nat _ (by rw [List.length_append]; omega), nth_nat _ h, List.getElem_append_left]
theorem nth_snoc (l : List α) (x : α) : nth (l ++ [x]) (l.length : Int) = x := by
  rw [nth_nat _ (by simp)]; simp
theorem mem_nth {l : List α} {x : α} (h : x ∈ l) : ∃ k : Nat, k < l.length ∧ nth l (k : Int) = x := by
  obtain ⟨k, hk, rfl⟩ := List.getElem_of_mem h
  exact ⟨k, hk, nth_nat l hk⟩
variable [DecidableEq α]
theorem lcs_drop (a b : List α) {i j : Nat} (hi : i < a.length) (hj : j < b.length) : lcs (a.drop i) (b.drop j) = if nth a (i : Int) = nth b (j : Int) then lcs (a.drop (i + 1)) (b.drop (j + 1)) + 1 else max (lcs (a.drop (i + 1)) (b.drop j)) (lcs (a.drop i) (b.drop (j + 1))) := by
  rw [drop_nth a hi, drop_nth b hj, lcs_cons, ← drop_nth a hi, ← drop_nth b hj]
theorem pairs_drop (a b : List α) {i j : Nat} (hi : i < a.length) (hj : j < b.length) : pairs i j (a.drop i) (b.drop j) = if nth a (i : Int) = nth b (j : Int) then (i, j) :: pairs (i + 1) (j + 1) (a.drop (i + 1)) (b.drop (j + 1)) else if lcs (a.drop i) (b.drop (j + 1)) ≤ lcs (a.drop (i + 1)) (b.drop j) then pairs (i + 1) j (a.drop (i + 1)) (b.drop j) else pairs i (j + 1) (a.drop i) (b.drop (j + 1)) := by
  rw [drop_nth a hi, drop_nth b hj, pairs_cons, ← drop_nth a hi, ← drop_nth b hj]

/-! ### of two rows one -/
def pickL (o a b : List α) : Option (List α) := if a = o then some b else if b = o then some a else if a = b then some a else none
theorem pickL_comm (o a b : List α) : pickL o a b = pickL o b a := by
  unfold pickL
  by_cases h1 : a = o <;> by_cases h2 : b = o
  · subst h1; subst h2; rfl
  · rw [if_pos h1, if_neg h2, if_pos h1]
  · rw [if_neg h1, if_pos h2, if_pos h2]
  · rw [if_neg h1, if_neg h2, if_neg h2, if_neg h1]
    by_cases h3 : a = b
    · subst h3; rfl
    · rw [if_neg h3, if_neg (fun e => h3 e.symm)]
theorem pickL_old (o a : List α) : pickL o a o = some a := by
  unfold pickL
  by_cases h : a = o
  · rw [if_pos h, h]
  · rw [if_neg h, if_pos rfl]
theorem pickL_same (o a : List α) : pickL o a a = some a := by
  unfold pickL
  by_cases h : a = o
  · rw [if_pos h]
  · rw [if_neg h, if_neg h, if_pos rfl]
theorem pickL_none (a b : List α) : pickL [] a b = if a = [] then some b else if b = [] then some a else if a = b then some a else none := rfl
theorem pickL_mem {o a b r : List α} (h : pickL o a b = some r) : (∀ z ∈ r, z ∈ a ∨ z ∈ b) ∧ (∀ z ∈ a, z ∈ o ∨ z ∈ r) ∧ (∀ z ∈ b, z ∈ o ∨ z ∈ r) ∧ r.length ≤ a.length + b.length := by
  unfold pickL at h
  by_cases h1 : a = o
  · rw [if_pos h1] at h; cases h; subst h1
    exact ⟨fun z hz => .inr hz, fun z hz => .inl hz, fun z hz => .inr hz, by omega⟩
  · rw [if_neg h1] at h
    by_cases h2 : b = o
    · rw [if_pos h2] at h; cases h; subst h2
      exact ⟨fun z hz => .inl hz, fun z hz => .inr hz, fun z hz => .inl hz, by omega⟩
    · rw [if_neg h2] at h
      by_cases h3 : a = b
      · rw [if_pos h3] at h; cases h; subst h3
        exact ⟨fun z hz => .inl hz, fun z hz => .inr hz, fun z hz => .inr hz, by omega⟩
      · rw [if_neg h3] at h; cases h
/-- from a place on: n places of the old row are left -/
def mloop (o a b : List α) (f g : Nat → Option Nat) : Nat → Nat → Nat → Nat → Nat → Option (List α)
  | 0, _, i, j, k => pickL (o.drop i) (a.drop j) (b.drop k)
  | n + 1, at_, i, j, k => match f at_, g at_ with
    | some x, some y => (pickL (seg o i at_) (seg a j x) (seg b k y)).bind fun p => (mloop o a b f g n (at_ + 1) (at_ + 1) (x + 1) (y + 1)).map fun r => p ++ nth o (at_ : Int) :: r
    | _, _ => mloop o a b f g n (at_ + 1) i j k
theorem mloop_zero (o a b : List α) (f g : Nat → Option Nat) (t i j k : Nat) : mloop o a b f g 0 t i j k = pickL (o.drop i) (a.drop j) (b.drop k) := rfl
theorem mloop_some {o a b : List α} {f g : Nat → Option Nat} {n t i j k x y : Nat} (hf : f t = some x) (hg : g t = some y) : mloop o a b f g (n + 1) t i j k = (pickL (seg o i t) (seg a j x) (seg b k y)).bind fun p => (mloop o a b f g n (t + 1) (t + 1) (x + 1) (y + 1)).map fun r => p ++ nth o (t : Int) :: r := by
  rw [mloop, hf, hg]
theorem mloop_none {o a b : List α} {f g : Nat → Option Nat} {n t i j k : Nat} (h : f t = none ∨ g t = none) : mloop o a b f g (n + 1) t i j k = mloop o a b f g n (t + 1) i j k := by
  rw [mloop]
  rcases h with h | h
  · rw [h]
  · rw [h]; cases f t <;> rfl
/-- what a row's partners are: in order, within, and alike -/
structure Mates (o a : List α) (f : Nat → Option Nat) : Prop where
  lt : ∀ {t x}, f t = some x → t < o.length ∧ x < a.length
  eq : ∀ {t x}, f t = some x → nth o (t : Int) = nth a (x : Int)
  mono : ∀ {t x u y}, f t = some x → f u = some y → t < u → x < y
/-- no partner of a place at or behind one lies ahead of j -/
def From (f : Nat → Option Nat) (t j : Nat) : Prop := ∀ u x, t ≤ u → f u = some x → j ≤ x
theorem From.zero (f : Nat → Option Nat) (t : Nat) : From f t 0 := fun _ _ _ _ => Nat.zero_le _
theorem From.skip {f : Nat → Option Nat} {t j : Nat} (h : From f t j) : From f (t + 1) j := fun u x hu hx => h u x (by omega) hx
theorem From.step {o a : List α} {f : Nat → Option Nat} (m : Mates o a f) {t x : Nat} (h : f t = some x) : From f (t + 1) (x + 1) := fun u y hu hy => m.mono h hy (by omega)
theorem mloop_comm (o a b : List α) (f g : Nat → Option Nat) (n t i j k : Nat) : mloop o a b f g n t i j k = mloop o b a g f n t i k j := by
  induction n generalizing t i j k with
  | zero => exact pickL_comm _ _ _
  | succ n ih =>
    cases hf : f t with
    | none => rw [mloop_none (.inl hf), mloop_none (.inr hf), ih]
    | some x => cases hg : g t with
      | none => rw [mloop_none (.inr hg), mloop_none (.inl hg), ih]
      | some y => rw [mloop_some hf hg, mloop_some hg hf, pickL_comm, ih]
theorem mloop_old {o a : List α} {f g : Nat → Option Nat} (m : Mates o a f) (hg : ∀ t, t < o.length → g t = some t) (n t i j : Nat) (hn : t + n = o.length) (h : From f t j) : mloop o a o f g n t i j i = some (a.drop j) := by
  induction n generalizing t i j with
  | zero => rw [mloop_zero, pickL_old]
  | succ n ih =>
    cases hf : f t with
    | none => rw [mloop_none (.inl hf), ih _ _ _ (by omega) h.skip]
    | some x =>
      rw [mloop_some hf (hg t (by omega)), pickL_old, Option.bind_some, ih _ _ _ (by omega) (.step m hf), Option.map_some, m.eq hf, ← drop_nth a (m.lt hf).2, seg_app a (h t x (Nat.le_refl _) hf)]
theorem mloop_same {o a : List α} {f : Nat → Option Nat} (m : Mates o a f) (n t i j : Nat) (hn : t + n = o.length) (h : From f t j) : mloop o a a f f n t i j j = some (a.drop j) := by
  induction n generalizing t i j with
  | zero => rw [mloop_zero, pickL_same]
  | succ n ih =>
    cases hf : f t with
    | none => rw [mloop_none (.inl hf), ih _ _ _ (by omega) h.skip]
    | some x =>
      rw [mloop_some hf hf, pickL_same, Option.bind_some, ih _ _ _ (by omega) (.step m hf), Option.map_some, m.eq hf, ← drop_nth a (m.lt hf).2, seg_app a (h t x (Nat.le_refl _) hf)]
theorem mem_seg {l : List α} {i j : Nat} {z : α} (h : z ∈ seg l i j) : z ∈ l := List.mem_of_mem_drop (List.mem_of_mem_take h)
theorem mem_split {l : List α} {i j : Nat} (hij : i ≤ j) (hj : j < l.length) {z : α} (h : z ∈ l.drop i) : z ∈ seg l i j ∨ z = nth l (j : Int) ∨ z ∈ l.drop (j + 1) := by
  rw [← seg_app l hij, drop_nth l hj] at h
  rcases List.mem_append.1 h with h | h
  · exact .inl h
  · rcases List.mem_cons.1 h with h | h
    · exact .inr (.inl h)
    · exact .inr (.inr h)
theorem mloop_keep {o a b : List α} {f g : Nat → Option Nat} (mf : Mates o a f) (mg : Mates o b g) (n t i j k : Nat) (hn : t + n = o.length) (hj : From f t j) (hk : From g t k) (r : List α) (h : mloop o a b f g n t i j k = some r) :
    (∀ z ∈ r, z ∈ a ∨ z ∈ b) ∧ (∀ z ∈ a.drop j, z ∈ o ∨ z ∈ r) ∧ (∀ z ∈ b.drop k, z ∈ o ∨ z ∈ r) ∧ r.length ≤ (a.drop j).length + (b.drop k).length := by
  induction n generalizing t i j k r with
  | zero =>
    rw [mloop_zero] at h
    obtain ⟨h1, h2, h3, h4⟩ := pickL_mem h
    exact ⟨fun z hz => (h1 z hz).imp List.mem_of_mem_drop List.mem_of_mem_drop, fun z hz => (h2 z hz).imp List.mem_of_mem_drop id, fun z hz => (h3 z hz).imp List.mem_of_mem_drop id, h4⟩
  | succ n ih =>
    cases hf : f t with
    | none => rw [mloop_none (.inl hf)] at h; exact ih _ _ _ _ (by omega) hj.skip hk.skip _ h
    | some x => cases hg : g t with
      | none => rw [mloop_none (.inr hg)] at h; exact ih _ _ _ _ (by omega) hj.skip hk.skip _ h
      | some y =>
        rw [mloop_some hf hg] at h
        cases hp : pickL (seg o i t) (seg a j x) (seg b k y) with
        | none => rw [hp] at h; cases h
        | some p =>
          rw [hp, Option.bind_some] at h
          cases hr : mloop o a b f g n (t + 1) (t + 1) (x + 1) (y + 1) with
          | none => rw [hr] at h; cases h
          | some q =>
            rw [hr, Option.map_some] at h; cases h
            obtain ⟨h1, h2, h3, h4⟩ := pickL_mem hp
            obtain ⟨g1, g2, g3, g4⟩ := ih _ _ _ _ (by omega) (.step mf hf) (.step mg hg) _ hr
            have hjx := hj t x (Nat.le_refl _) hf
            have hky := hk t y (Nat.le_refl _) hg
            have hx := (mf.lt hf).2
            have hy := (mg.lt hg).2
            have ex := mf.eq hf
            have ey := mg.eq hg
            refine ⟨fun z hz => ?_, fun z hz => ?_, fun z hz => ?_, ?_⟩
            · rcases List.mem_append.1 hz with hz | hz
              · exact (h1 z hz).imp mem_seg mem_seg
              · rcases List.mem_cons.1 hz with rfl | hz
                · rw [ex]; exact .inl (nth_mem a hx)
                · exact g1 z hz
            · rcases mem_split hjx hx hz with hz | rfl | hz
              · exact (h2 z hz).imp mem_seg (fun h => List.mem_append_left _ h)
              · exact .inr (List.mem_append_right _ (by rw [ex]; exact List.mem_cons_self))
              · exact (g2 z hz).imp id (fun h => List.mem_append_right _ (List.mem_cons_of_mem _ h))
            · rcases mem_split hky hy hz with hz | rfl | hz
              · exact (h3 z hz).imp mem_seg (fun h => List.mem_append_left _ h)
              · exact .inr (List.mem_append_right _ (by rw [ey]; exact List.mem_cons_self))
              · exact (g3 z hz).imp id (fun h => List.mem_append_right _ (List.mem_cons_of_mem _ h))
            · rw [seg_len a _ _ (by omega), seg_len b _ _ (by omega)] at h4
              simp only [List.length_append, List.length_cons, List.length_drop] at g4 ⊢
              omega
theorem mloop_cons {o a b : List α} {f g f' g' : Nat → Option Nat} (p : α) (hf : ∀ t, t < o.length → f' (t + 1) = (f t).map (· + 1)) (hg : ∀ t, t < o.length → g' (t + 1) = (g t).map (· + 1)) (n t i j k : Nat) (hn : t + n = o.length) :
    mloop (p :: o) (p :: a) (p :: b) f' g' n (t + 1) (i + 1) (j + 1) (k + 1) = mloop o a b f g n t i j k := by
  induction n generalizing t i j k with
  | zero => rfl
  | succ n ih =>
    have h1 := hf t (by omega); have h2 := hg t (by omega)
    cases e1 : f t with
    | none => rw [e1] at h1; rw [mloop_none (.inl e1), mloop_none (.inl h1), ih _ _ _ _ (by omega)]
    | some x => cases e2 : g t with
      | none => rw [e2] at h2; rw [mloop_none (.inr e2), mloop_none (.inr h2), ih _ _ _ _ (by omega)]
      | some y =>
        rw [e1] at h1; rw [e2] at h2
        rw [mloop_some e1 e2, mloop_some h1 h2, seg_cons, seg_cons, seg_cons, ih _ _ _ _ (by omega)]
        rfl
theorem mloop_snoc {o a b : List α} {f g f' g' : Nat → Option Nat} (p : α) (mf : Mates o a f) (mg : Mates o b g) (hf : ∀ t, t < o.length → f' t = f t) (hf1 : f' o.length = some a.length) (hg : ∀ t, t < o.length → g' t = g t) (hg1 : g' o.length = some b.length) (n t i j k : Nat) (hn : t + n = o.length)
    (hi : i ≤ t) (hj0 : j ≤ a.length) (hk0 : k ≤ b.length) (hj : From f t j) (hk : From g t k) :
    mloop (o ++ [p]) (a ++ [p]) (b ++ [p]) f' g' (n + 1) t i j k = (mloop o a b f g n t i j k).map (· ++ [p]) := by
  induction n generalizing t i j k with
  | zero =>
    have : t = o.length := by omega
    subst this
    rw [mloop_some hf1 hg1, mloop_zero, seg_snoc _ _ _ _ (Nat.le_refl _) hi, seg_snoc _ _ _ _ (Nat.le_refl _) hj0, seg_snoc _ _ _ _ (Nat.le_refl _) hk0, seg_end, seg_end, seg_end, mloop_zero, nth_snoc]
    have e : ∀ l : List α, (l ++ [p]).drop (l.length + 1) = [] := fun l => List.drop_of_length_le (by simp)
    rw [e, e, e, pickL_same]
    cases pickL (o.drop i) (a.drop j) (b.drop k) <;> rfl
  | succ n ih =>
    have h1 := hf t (by omega); have h2 := hg t (by omega)
    cases e1 : f t with
    | none => rw [e1] at h1; rw [mloop_none (.inl e1), mloop_none (.inl h1), ih _ _ _ _ (by omega) (by omega) hj0 hk0 hj.skip hk.skip]
    | some x => cases e2 : g t with
      | none => rw [e2] at h2; rw [mloop_none (.inr e2), mloop_none (.inr h2), ih _ _ _ _ (by omega) (by omega) hj0 hk0 hj.skip hk.skip]
      | some y =>
        rw [e1] at h1; rw [e2] at h2
        have hx := (mf.lt e1).2
        have hy := (mg.lt e2).2
        rw [mloop_some e1 e2, mloop_some h1 h2, seg_snoc _ _ _ _ (by omega) hi, seg_snoc _ _ _ _ (by omega) (hj t x (Nat.le_refl _) e1), seg_snoc _ _ _ _ (by omega) (hk t y (Nat.le_refl _) e2), ih _ _ _ _ (by omega) (Nat.le_refl _) (by omega) (by omega) (.step mf e1) (.step mg e2), nth_app o [p] (by omega)]
        cases pickL (seg o i t) (seg a j x) (seg b k y) with
        | none => rfl
        | some q =>
          rw [Option.bind_some, Option.bind_some]
          cases mloop o a b f g n (t + 1) (t + 1) (x + 1) (y + 1) with
          | none => rfl
          | some r => simp
theorem mloop_apart {o : List α} {f g : Nat → Option Nat} (p q : α) (hf : ∀ t, t < o.length → f t = some (t + 1)) (hg : ∀ t, t < o.length → g t = some t) (n t : Nat) (hn : t + n = o.length) : mloop o (p :: o) (o ++ [q]) f g n t t (t + 1) t = some (o.drop t ++ [q]) := by
  induction n generalizing t with
  | zero =>
    rw [mloop_zero, List.drop_of_length_le (by omega : o.length ≤ t), List.drop_of_length_le (l := p :: o) (by rw [List.length_cons]; omega), pickL_none, if_pos rfl, List.drop_append_of_le_length (by omega), List.drop_of_length_le (by omega : o.length ≤ t)]
  | succ n ih =>
    rw [mloop_some (hf t (by omega)) (hg t (by omega)), seg_self, seg_self, seg_self, pickL_same, Option.bind_some, ih _ (by omega), Option.map_some, drop_nth o (show t < o.length by omega)]
    rfl
end
end Go.Proofs.Ytndjggncgpjolaa

namespace Go.Proofs.Ytndjggncgpjolaa
set_option linter.unusedVariables false
set_option linter.unusedSimpArgs false
set_option linter.unusedSectionVars false
def few (a b : List Pt) : Bool := decide (a.length ≤ 12) && decide (b.length ≤ 12)
theorem few_iff {a b : List Pt} : few a b = true ↔ a.length ≤ 12 ∧ b.length ≤ 12 := by simp [few]
theorem few_not {a b : List Pt} : few a b = false ↔ ¬ (a.length ≤ 12 ∧ b.length ≤ 12) := by rw [← few_iff]; simp
def slen (a b : List Pt) : Int := if few a b then (lcs a b : Nat) else 0
def mkP (p : Nat × Nat) : Pair := ⟨p.1, p.2⟩
def spairs (a b : List Pt) : List Pair := if few a b then (pairs 0 0 a b).map mkP else []
theorem spairs_few {a b : List Pt} (h : few a b = true) : spairs a b = (pairs 0 0 a b).map mkP := by unfold spairs; rw [if_pos h]
theorem spairs_len (a b : List Pt) : ((spairs a b).length : Int) = slen a b := by
  unfold spairs slen
  by_cases h : few a b = true
  · rw [if_pos h, if_pos h, List.length_map, pairs_len]
  · rw [if_neg h, if_neg h]; rfl
theorem slen_le (a b : List Pt) : 0 ≤ slen a b ∧ slen a b ≤ a.length ∧ slen a b ≤ b.length ∧ slen a b ≤ 12 := by
  unfold slen
  by_cases h : few a b = true
  · have := few_iff.1 h
    have h1 := lcs_le1 a b; have h2 := lcs_le2 a b
    rw [if_pos h]; omega
  · rw [if_neg h]; omega
/-- a row: what is in common from a place of the second on -/
def RowOk (a b : List Pt) (i : Nat) (j : Nat) (xs : List Int) : Prop := xs.length = b.length + 1 ∧ ∀ m : Nat, j ≤ m → m ≤ b.length → nth xs (m : Int) = (lcs (a.drop i) (b.drop m) : Nat)
def Tab (a b : List Pt) (D : Nat → Nat → Prop) (t : List (List Int)) : Prop := t.length = a.length + 1 ∧ ∀ r : Nat, r ≤ a.length → (nth t (r : Int)).length = b.length + 1 ∧ ∀ m : Nat, m ≤ b.length → D r m → nth (nth t (r : Int)) (m : Int) = (lcs (a.drop r) (b.drop m) : Nat)
theorem Tab.set {a b : List Pt} {D : Nat → Nat → Prop} {t : List (List Int)} (h : Tab a b D t) {i j : Nat} (hi : i ≤ a.length) (hj : j ≤ b.length) {v : Int} (hv : v = (lcs (a.drop i) (b.drop j) : Nat)) {D' : Nat → Nat → Prop} (hD : ∀ r m, D' r m → D r m ∨ (r = i ∧ m = j)) :
    Tab a b D' (t.set i ((nth t (i : Int)).set j v)) := by
  obtain ⟨h1, h2⟩ := h
  refine ⟨by rw [List.length_set]; exact h1, fun r hr => ?_⟩
  rw [nth_set _ (by omega)]
  by_cases e : r = i
  · subst e
    rw [if_pos rfl]
    refine ⟨by rw [List.length_set]; exact (h2 r hr).1, fun m hm hd => ?_⟩
    rw [nth_set _ (by rw [(h2 r hr).1]; omega)]
    by_cases f : m = j
    · subst f; rw [if_pos rfl, hv]
    · rw [if_neg f]
      exact (h2 r hr).2 m hm ((hD r m hd).resolve_right fun x => f x.2)
  · rw [if_neg e]
    exact ⟨(h2 r hr).1, fun m hm hd => (h2 r hr).2 m hm ((hD r m hd).resolve_right fun x => e x.1)⟩
def mateI (l : List Pair) (k : Int) : Int := match l with
  | [] => -1
  | p :: l => if p.A == k then p.B else mateI l k
theorem mateI_nil (k : Int) : mateI [] k = -1 := rfl
theorem mateI_cons (p : Pair) (l : List Pair) (k : Int) : mateI (p :: l) k = if p.A == k then p.B else mateI l k := rfl
def mateN (l : List (Nat × Nat)) (k : Nat) : Option Nat := match l with
  | [] => none
  | p :: l => if p.1 = k then some p.2 else mateN l k
theorem mateI_mk (l : List (Nat × Nat)) (k : Nat) : mateI (l.map mkP) (k : Int) = match mateN l k with | some x => (x : Int) | none => -1 := by
  induction l with
  | nil => rfl
  | cons p l ih =>
    rw [List.map_cons, mateI_cons, mateN]
    by_cases h : p.1 = k
    · rw [if_pos (by simp [mkP, h]), if_pos h]; rfl
    · rw [if_neg (by simp [mkP]; omega), if_neg h, ih]
theorem mateN_mem {l : List (Nat × Nat)} {k x : Nat} (h : mateN l k = some x) : (k, x) ∈ l := by
  induction l with
  | nil => cases h
  | cons p l ih =>
    rw [mateN] at h
    by_cases e : p.1 = k
    · rw [if_pos e] at h; cases h; subst e; exact List.mem_cons_self
    · rw [if_neg e] at h; exact List.mem_cons_of_mem _ (ih h)
theorem mateN_of {l : List (Nat × Nat)} {k x : Nat} (ho : l.Pairwise fun p q => p.1 < q.1 ∧ p.2 < q.2) (h : (k, x) ∈ l) : mateN l k = some x := by
  induction l with
  | nil => cases h
  | cons p l ih =>
    rw [mateN]
    rcases List.mem_cons.1 h with h | h
    · subst h; rw [if_pos rfl]
    · have := (List.pairwise_cons.1 ho).1 _ h
      rw [if_neg (by dsimp only at this; omega)]
      exact ih (List.pairwise_cons.1 ho).2 h
theorem mateN_none {l : List (Nat × Nat)} {k : Nat} (h : ∀ x, (k, x) ∉ l) : mateN l k = none := by
  cases e : mateN l k with
  | none => rfl
  | some x => exact absurd (mateN_mem e) (h x)
def part (o a : List Pt) : Nat → Option Nat := mateN (pairs 0 0 o a)
theorem part_mates (o a : List Pt) : Mates o a (part o a) := by
  have hm : ∀ {t x}, part o a t = some x → ∃ z, o[t]? = some z ∧ a[x]? = some z := fun {t x} h => by
    obtain ⟨k, l, e, z, h1, h2⟩ := pairs_mem 0 0 o a _ (mateN_mem h)
    rw [Nat.zero_add, Nat.zero_add] at e; cases e
    exact ⟨z, h1, h2⟩
  refine ⟨fun {t x} h => ?_, fun {t x} h => ?_, fun {t x u y} h1 h2 hu => ?_⟩
  · obtain ⟨z, h1, h2⟩ := hm h
    exact ⟨(List.getElem?_eq_some_iff.1 h1).1, (List.getElem?_eq_some_iff.1 h2).1⟩
  · obtain ⟨z, h1, h2⟩ := hm h
    obtain ⟨e1, e2⟩ := List.getElem?_eq_some_iff.1 h1
    obtain ⟨e3, e4⟩ := List.getElem?_eq_some_iff.1 h2
    rw [nth_nat _ e1, nth_nat _ e3, e2, e4]
  · have ho := pairs_ord 0 0 o a
    have m1 := mateN_mem h1; have m2 := mateN_mem h2
    generalize pairs 0 0 o a = l at ho m1 m2
    induction l with
    | nil => cases m1
    | cons p l ih =>
      obtain ⟨q1, q2⟩ := List.pairwise_cons.1 ho
      rcases List.mem_cons.1 m1 with e1 | n1
      · rcases List.mem_cons.1 m2 with e2 | n2
        · subst e1; cases e2; omega
        · subst e1; exact (q1 _ n2).2
      · rcases List.mem_cons.1 m2 with e2 | n2
        · subst e2; have := (q1 _ n1).1; dsimp only at this; omega
        · exact ih q2 n1 n2
theorem part_old (o : List Pt) (l : List Pt) : ∀ t, t < o.length → part o (o ++ l) t = some t := fun t ht => by
  refine mateN_of (pairs_ord _ _ _ _) ?_
  rw [pairs_self, List.mem_map]
  exact ⟨t, by simpa using ht, by simp⟩
theorem part_self (o : List Pt) : ∀ t, t < o.length → part o o t = some t := fun t ht => by
  have := part_old o [] t ht
  rwa [List.append_nil] at this
/-- what is made of two rows, and of which one was -/
def smerge (o a b : List Pt) : Option (List Pt) := if few o a && few o b then mloop o a b (part o a) (part o b) o.length 0 0 0 0 else none
theorem smerge_few {o a b : List Pt} (h1 : few o a = true) (h2 : few o b = true) : smerge o a b = mloop o a b (part o a) (part o b) o.length 0 0 0 0 := by unfold smerge; rw [h1, h2]; rfl
theorem smerge_not {o a b : List Pt} (h : few o a = false ∨ few o b = false) : smerge o a b = none := by
  unfold smerge; rcases h with h | h <;> rw [h] <;> simp
theorem smerge_comm (o a b : List Pt) : smerge o a b = smerge o b a := by
  unfold smerge; rw [Bool.and_comm, mloop_comm]
theorem smerge_old {o a : List Pt} (h : few o a = true) : smerge o a o = some a := by
  rw [smerge_few h (by rw [few_iff] at h ⊢; exact ⟨h.1, h.1⟩), mloop_old (part_mates o a) (part_self o) _ _ _ _ (by omega) (From.zero _ _)]; rfl
theorem smerge_same {o a : List Pt} (h : few o a = true) : smerge o a a = some a := by
  rw [smerge_few h h, mloop_same (part_mates o a) _ _ _ _ (by omega) (From.zero _ _)]; rfl
theorem smerge_keep {o a b r : List Pt} (h : smerge o a b = some r) : (∀ z ∈ r, z ∈ a ∨ z ∈ b) ∧ (∀ z ∈ a, z ∈ o ∨ z ∈ r) ∧ (∀ z ∈ b, z ∈ o ∨ z ∈ r) ∧ r.length ≤ a.length + b.length := by
  unfold smerge at h
  by_cases hf : (few o a && few o b) = true
  · rw [if_pos hf] at h
    exact mloop_keep (part_mates o a) (part_mates o b) _ _ _ _ _ (by omega) (From.zero _ _) (From.zero _ _) _ h
  · rw [if_neg hf] at h; cases h
theorem smerge_len {o a b r : List Pt} (h : smerge o a b = some r) : r.length ≤ 24 := by
  have h1 := (smerge_keep h).2.2.2
  unfold smerge at h
  by_cases hf : (few o a && few o b) = true
  · rw [Bool.and_eq_true, few_iff, few_iff] at hf; omega
  · rw [if_neg hf] at h; cases h
theorem part_cons (p : Pt) (o a : List Pt) (t : Nat) : part (p :: o) (p :: a) (t + 1) = (part o a t).map (· + 1) := by
  have h := pairs_shift 0 0 o a 1 1
  have e : mateN (pairs (0 + 1) (0 + 1) o a) (t + 1) = (mateN (pairs 0 0 o a) t).map (· + 1) := by
    rw [h]
    generalize pairs 0 0 o a = l
    induction l with
    | nil => rfl
    | cons q l ih =>
      rw [List.map_cons, mateN, mateN]
      by_cases e : q.1 = t
      · rw [if_pos (by dsimp only; omega), if_pos e]; rfl
      · rw [if_neg (by dsimp only; omega), if_neg e, ih]
  unfold part
  rw [pairs_cons_self, mateN, if_neg (by dsimp only; omega), e]
theorem part_cons0 (p : Pt) (o a : List Pt) : part (p :: o) (p :: a) 0 = some 0 := by
  unfold part; rw [pairs_cons_self, mateN, if_pos rfl]
theorem mateN_app (l m : List (Nat × Nat)) (k : Nat) : mateN (l ++ m) k = (mateN l k).or (mateN m k) := by
  induction l with
  | nil => rfl
  | cons p l ih =>
    rw [List.cons_append, mateN, mateN]
    by_cases e : p.1 = k
    · rw [if_pos e, if_pos e]; rfl
    · rw [if_neg e, if_neg e, ih]
theorem part_snoc {p : Pt} {o a : List Pt} (ho : p ∉ o) (ha : p ∉ a) (t : Nat) : part (o ++ [p]) (a ++ [p]) t = (part o a t).or (if o.length = t then some a.length else none) := by
  unfold part; rw [pairs_snoc p 0 0 o a ho ha, mateN_app]
  simp only [mateN, Nat.zero_add]
theorem part_snoc1 {p : Pt} {o a : List Pt} (ho : p ∉ o) (ha : p ∉ a) {t : Nat} (h : t < o.length) : part (o ++ [p]) (a ++ [p]) t = part o a t := by
  rw [part_snoc ho ha, if_neg (by omega)]; cases part o a t <;> rfl
theorem part_snoc2 {p : Pt} {o a : List Pt} (ho : p ∉ o) (ha : p ∉ a) : part (o ++ [p]) (a ++ [p]) o.length = some a.length := by
  rw [part_snoc ho ha, if_pos rfl]
  cases h : part o a o.length with
  | none => rfl
  | some x => have := ((part_mates o a).lt h).1; omega
theorem smerge_cons {o a b : List Pt} (p : Pt) (h1 : few (p :: o) (p :: a) = true) (h2 : few (p :: o) (p :: b) = true) : smerge (p :: o) (p :: a) (p :: b) = (smerge o a b).map (p :: ·) := by
  have g1 : few o a = true := by rw [few_iff] at h1 ⊢; simp only [List.length_cons] at h1; omega
  have g2 : few o b = true := by rw [few_iff] at h2 ⊢; simp only [List.length_cons] at h2; omega
  rw [smerge_few h1 h2, smerge_few g1 g2, List.length_cons, mloop_some (part_cons0 p o a) (part_cons0 p o b), seg_self, seg_self, seg_self, pickL_same, Option.bind_some]
  rw [show (0 : Nat) + 1 = 0 + 1 from rfl, mloop_cons p (fun t _ => part_cons p o a t) (fun t _ => part_cons p o b t) _ _ _ _ _ (by omega)]
  rfl
theorem smerge_snoc {o a b : List Pt} (p : Pt) (ho : p ∉ o) (ha : p ∉ a) (hb : p ∉ b) (h1 : few (o ++ [p]) (a ++ [p]) = true) (h2 : few (o ++ [p]) (b ++ [p]) = true) : smerge (o ++ [p]) (a ++ [p]) (b ++ [p]) = (smerge o a b).map (· ++ [p]) := by
  have g1 : few o a = true := by rw [few_iff] at h1 ⊢; simp only [List.length_append] at h1; omega
  have g2 : few o b = true := by rw [few_iff] at h2 ⊢; simp only [List.length_append] at h2; omega
  rw [smerge_few h1 h2, smerge_few g1 g2, List.length_append, List.length_singleton]
  exact mloop_snoc p (part_mates o a) (part_mates o b) (fun t ht => part_snoc1 ho ha ht) (part_snoc2 ho ha) (fun t ht => part_snoc1 ho hb ht) (part_snoc2 ho hb) _ _ _ _ _ (by omega) (Nat.zero_le _) (Nat.zero_le _) (Nat.zero_le _) (From.zero _ _) (From.zero _ _)
theorem part_shift {p : Pt} {o : List Pt} (hp : p ∉ o) : ∀ t, t < o.length → part o (p :: o) t = some (t + 1) := fun t ht => by
  have e : pairs 0 0 o (p :: o) = pairs 0 1 o o := by
    cases o with
    | nil => rw [pairs_nil, pairs_nil]
    | cons x o =>
      have hx : x ≠ p := fun e => hp (e ▸ List.mem_cons_self)
      rw [pairs_cons, if_neg hx, if_neg]
      have h1 : lcs (x :: o) (x :: o) = o.length + 1 := lcs_self (x :: o)
      have h2 := lcs_le1 o (p :: x :: o)
      omega
  refine mateN_of (pairs_ord _ _ _ _) ?_
  rw [e]
  have := pairs_self 0 1 o []
  rw [List.append_nil] at this
  rw [this, List.mem_map]
  exact ⟨t, by simpa using ht, pp (by omega) (by omega)⟩
theorem smerge_apart {o : List Pt} {p q : Pt} (hp : p ∉ o) (h0 : 0 < o.length) (h : o.length < 12) : smerge o (p :: o) (o ++ [q]) = some (p :: o ++ [q]) := by
  have h1 : few o (p :: o) = true := by rw [few_iff]; simp only [List.length_cons]; omega
  have h2 : few o (o ++ [q]) = true := by rw [few_iff]; simp only [List.length_append, List.length_singleton]; omega
  rw [smerge_few h1 h2]
  obtain ⟨n, e⟩ : ∃ n, o.length = n + 1 := ⟨o.length - 1, by omega⟩
  have hf := part_shift hp
  have hg := part_old o [q]
  rw [e, mloop_some (hf 0 h0) (hg 0 h0), seg_self, seg_self, pickL_old, Option.bind_some]
  have := mloop_apart p q hf hg n 1 (by omega)
  rw [show (0 : Nat) + 1 = 1 from rfl, show (0 : Nat) + 1 + 1 = 1 + 1 from rfl, this, Option.map_some]
  have hd := drop_nth o h0
  rw [List.drop_zero] at hd
  have : seg (p :: o) 0 1 = [p] := rfl
  rw [show (0 : Nat) + 1 = 1 from rfl] at hd
  rw [this, List.singleton_append, ← List.cons_append, ← hd]
  rfl
theorem smerge_clash {o : List Pt} {p q : Pt} (hp : p ∉ o) (hq : q ∉ o) (hpq : p ≠ q) (h0 : 0 < o.length) : smerge o (p :: o) (q :: o) = none := by
  unfold smerge
  by_cases hf : (few o (p :: o) && few o (q :: o)) = true
  · rw [if_pos hf]
    obtain ⟨n, e⟩ : ∃ n, o.length = n + 1 := ⟨o.length - 1, by omega⟩
    rw [e, mloop_some (part_shift hp 0 h0) (part_shift hq 0 h0)]
    have : pickL (seg o 0 0) (seg (p :: o) 0 (0 + 1)) (seg (q :: o) 0 (0 + 1)) = none := by
      show pickL [] [p] [q] = none
      unfold pickL
      rw [if_neg (by simp), if_neg (by simp), if_neg (by simpa using hpq)]
    rw [this]; rfl
  · rw [if_neg hf]
theorem smerge_nil {a b : List Pt} (h1 : a.length ≤ 12) (h2 : b.length ≤ 12) : smerge [] a b = if a = [] then some b else if b = [] then some a else if a = b then some a else none := by
  rw [smerge_few (by rw [few_iff]; exact ⟨Nat.zero_le _, h1⟩) (by rw [few_iff]; exact ⟨Nat.zero_le _, h2⟩)]; rfl
end Go.Proofs.Ytndjggncgpjolaa

namespace Go.Proofs.Ytndjggncgpjolaa
set_option linter.unusedVariables false
set_option linter.unusedSimpArgs false
set_option linter.unusedSectionVars false
/-- a drawn row: not longer than it may be, and within the drawn field -/
def Field (l : List Pt) : Prop := ∀ x ∈ l, x.X ≤ 8
theorem spec_l5Seq.law (b : List UInt8) (p : Int) (most : Nat) (Q : List Pt → Int → Prop) (hb : b.length ≤ 2000) (hp : 0 ≤ p) (hp1 : p ≤ 1000000000) (hm : most ≤ 1000) (hq : ∀ l p', l.length ≤ most → Field l → 0 ≤ p' → p' ≤ p + 3000 → Q l p') : spec_l5Seq.E b p most Q := by
  unfold spec_l5Seq.E
  refine ⟨by unfold I64; omega, spec_l12Rd_pick.law _ _ _ _ hb hp (by omega) fun v hv0 hv1 => ?_⟩
  refine ⟨fun l i z => 0 ≤ i ∧ (l.length : Int) + i ≤ most ∧ Field l ∧ 0 ≤ z ∧ z ≤ p + 1 + 2 * l.length, fun _ i _ => i.toNat, ⟨hv0, by simp only [List.length_nil]; omega, fun x hx => (by cases hx), by omega, by simp only [List.length_nil]; omega⟩, ?_⟩
  rintro l i z ⟨h0, h1, h2, h3, h4⟩
  by_cases hi : i > 0
  · rw [if_pos (by simpa using hi)]
    refine spec_l12Rd_pick.law _ _ _ _ hb h3 (by omega) fun x hx0 hx1 => spec_l12Rd_pick.law _ _ _ _ hb (by omega) (by omega) fun y hy0 hy1 => ?_
    refine ⟨by simp only [List.length_singleton]; omega, by unfold I64; omega, ⟨by omega, by simp only [List.length_append, List.length_singleton]; omega, fun q hq => ?_, by omega, by simp only [List.length_append, List.length_singleton]; omega⟩, by dsimp only; omega⟩
    rcases List.mem_append.1 hq with hq | hq
    · exact h2 q hq
    · rw [List.mem_singleton.1 hq]; dsimp only; omega
  · rw [if_neg (by simpa using hi)]
    exact hq _ _ (by omega) h2 h3 (by omega)
end Go.Proofs.Ytndjggncgpjolaa

namespace Go.Proofs.Ytndjggncgpjolaa
open Go.RowKit
set_option linter.unusedVariables false
def spec_l1Min.E (a : Int) (b : Int) (Q : Int → Prop) : Prop :=
  (if decide (a < b) then Q a else Q b)
set_option maxHeartbeats 8000000 in
set_option maxRecDepth 100000 in
theorem spec_l1Min.calls {O : Ob} (w0 : World) (hO : Ok w0 O) (a : Int) (b : Int) (Q : Int → Prop) (h : spec_l1Min.E a b Q) :
    Ret Try.prog 107 [vi a, vi b] w0 (fun v w' => ∃ (r0 : Int), v = vi r0 ∧ Q r0 ∧ Gr w0 w' none ∧ w' = w0) := by
  have H : (if decide (a < b) then Q a else Q b) := h
  clear h
  have hc0 := Ct.init hO
  refine Ret_enter Try.func107 rfl 10 rfl [.tmp 4] rfl rfl ?_
  refine W_seq ?_
  refine W_reg ?_
  refine L_pu (P_assign (vi 0) rfl) ?_
  refine L_nil ?_
  refine W_seq ?_
  refine W_seq ?_
  refine W_reg ?_
  refine L_pu (P_move (vi a) rfl) ?_
  refine L_pu (P_move (vi b) rfl) ?_
  refine L_pu (P_cmp a b (decide (a < b)) rfl rfl rfl) ?_
  refine L_nil ?_
  refine W_cond (decide (a < b)) rfl (fun hq1 => ?_) (fun hq1 => ?_)
  · have H := ite_t H hq1
    refine W_seq ?_
    refine W_reg ?_
    refine L_pu (P_move (vi a) rfl) ?_
    refine L_pu (P_assign (vi a) rfl) ?_
    refine L_nil ?_
    refine W_ret ?_
    exact ⟨[vi a], ⟨_, rfl, rfl⟩, a, rfl, H, hc0.gr.g0, rfl⟩
  · have H := ite_f H hq1
    refine W_skip ?_
    refine W_seq ?_
    refine W_reg ?_
    refine L_pu (P_move (vi b) rfl) ?_
    refine L_pu (P_assign (vi b) rfl) ?_
    refine L_nil ?_
    refine W_ret ?_
    exact ⟨[vi b], ⟨_, rfl, rfl⟩, b, rfl, H, hc0.gr.g0, rfl⟩
def spec_l1Min.m (a : Int) (b : Int) : Int := (if decide (a < b) then a else b)
theorem spec_l1Min.fn (a : Int) (b : Int) : spec_l1Min.E a b (fun r => r = spec_l1Min.m a b) := by
  unfold spec_l1Min.E spec_l1Min.m
  (repeat' split) <;> simp_all
end Go.Proofs.Ytndjggncgpjolaa

namespace Go.Proofs.Ytndjggncgpjolaa
set_option linter.unusedVariables false
set_option linter.unusedSimpArgs false
set_option linter.unusedSectionVars false
theorem spec_l1Min.m_is (a b : Int) : spec_l1Min.m a b = min a b := by
  unfold spec_l1Min.m
  by_cases h : a < b
  · simp [h]; omega
  · simp [h]; omega
end Go.Proofs.Ytndjggncgpjolaa

namespace Go.Proofs.Ytndjggncgpjolaa
open Go.RowKit
set_option linter.unusedVariables false
def spec_l5Near.E (r_b : List UInt8) (r_p : Int) (s : List Pt) (Q : List Pt → Int → Prop) : Prop :=
  (([] : List Pt).length + s.length ≤ 268435456) ∧ spec_l12Rd_pick.E r_b r_p 2 (fun r2 m => (I64 (1 + r2)) ∧ (∃ (I66 : (List Pt) → Int → Int → Prop) (mu67 : (List Pt) → Int → Int → Nat), I66 (([] : List Pt) ++ s) (1 + r2) m ∧ ∀ (xs2 : List Pt) (i2 : Int) (z2 : Int), I66 xs2 i2 z2 → (if decide (i2 > 0) then ((xs2.length : Int) ≤ 9223372036854775807 → I64 ((xs2.length : Int) + 1)) ∧ spec_l12Rd_pick.E r_b z2 ((xs2.length : Int) + 1) (fun r3 m2 => spec_l12Rd_pick.E r_b m2 4 (fun r4 m3 => ((xs2.length : Int) ≤ 9223372036854775807 → I64 (5 + r4)) ∧ spec_l12Rd_pick.E r_b m3 3 (fun r5 m4 => ((0 : Int) ≤ r3 ∧ (r3 : Int) ≤ (xs2.length : Int) ∧ (xs2.length : Int) ≤ (xs2.length : Int)) ∧ (([] : List Pt).length + ((xs2.drop r3.toNat).take ((xs2.length : Int).toNat - r3.toNat)).length ≤ 268435456) ∧ spec_l12Rd_pick.E r_b m4 3 (fun r6 m5 => (if r6 == 0 then ((0 : Int) ≤ r3 ∧ r3 ≤ (xs2.length : Int)) ∧ ((xs2.take r3.toNat).length + ([(⟨5 + r4, r5⟩ : Pt)] : List Pt).length ≤ 268435456) ∧ (((xs2.take r3.toNat) ++ ([(⟨5 + r4, r5⟩ : Pt)] : List Pt)).length + (([] : List Pt) ++ ((xs2.drop r3.toNat).take ((xs2.length : Int).toNat - r3.toNat))).length ≤ 268435456) ∧ ((xs2.length : Int) ≤ 9223372036854775807 → I64 (i2 - 1)) ∧ I66 (((xs2.take r3.toNat) ++ ([(⟨5 + r4, r5⟩ : Pt)] : List Pt)) ++ (([] : List Pt) ++ ((xs2.drop r3.toNat).take ((xs2.length : Int).toNat - r3.toNat)))) (i2 - 1) m5 ∧ mu67 (((xs2.take r3.toNat) ++ ([(⟨5 + r4, r5⟩ : Pt)] : List Pt)) ++ (([] : List Pt) ++ ((xs2.drop r3.toNat).take ((xs2.length : Int).toNat - r3.toNat)))) (i2 - 1) m5 < mu67 xs2 i2 z2 else (if r6 == 1 then ((0 : Int) ≤ r3 ∧ r3 ≤ (xs2.length : Int)) ∧ ((0 : Int) ≤ (spec_l1Min.m 1 ((([] : List Pt) ++ ((xs2.drop r3.toNat).take ((xs2.length : Int).toNat - r3.toNat))).length : Int)) ∧ ((spec_l1Min.m 1 ((([] : List Pt) ++ ((xs2.drop r3.toNat).take ((xs2.length : Int).toNat - r3.toNat))).length : Int)) : Int) ≤ ((([] : List Pt) ++ ((xs2.drop r3.toNat).take ((xs2.length : Int).toNat - r3.toNat))).length : Int) ∧ ((([] : List Pt) ++ ((xs2.drop r3.toNat).take ((xs2.length : Int).toNat - r3.toNat))).length : Int) ≤ ((([] : List Pt) ++ ((xs2.drop r3.toNat).take ((xs2.length : Int).toNat - r3.toNat))).length : Int)) ∧ ((xs2.take r3.toNat).length + (((([] : List Pt) ++ ((xs2.drop r3.toNat).take ((xs2.length : Int).toNat - r3.toNat))).drop (spec_l1Min.m 1 ((([] : List Pt) ++ ((xs2.drop r3.toNat).take ((xs2.length : Int).toNat - r3.toNat))).length : Int)).toNat).take (((([] : List Pt) ++ ((xs2.drop r3.toNat).take ((xs2.length : Int).toNat - r3.toNat))).length : Int).toNat - (spec_l1Min.m 1 ((([] : List Pt) ++ ((xs2.drop r3.toNat).take ((xs2.length : Int).toNat - r3.toNat))).length : Int)).toNat)).length ≤ 268435456) ∧ ((xs2.length : Int) ≤ 9223372036854775807 → ((([] : List Pt) ++ ((xs2.drop r3.toNat).take ((xs2.length : Int).toNat - r3.toNat))).length : Int) ≤ 9223372036854775807 → I64 (i2 - 1)) ∧ I66 ((xs2.take r3.toNat) ++ (((([] : List Pt) ++ ((xs2.drop r3.toNat).take ((xs2.length : Int).toNat - r3.toNat))).drop (spec_l1Min.m 1 ((([] : List Pt) ++ ((xs2.drop r3.toNat).take ((xs2.length : Int).toNat - r3.toNat))).length : Int)).toNat).take (((([] : List Pt) ++ ((xs2.drop r3.toNat).take ((xs2.length : Int).toNat - r3.toNat))).length : Int).toNat - (spec_l1Min.m 1 ((([] : List Pt) ++ ((xs2.drop r3.toNat).take ((xs2.length : Int).toNat - r3.toNat))).length : Int)).toNat))) (i2 - 1) m5 ∧ mu67 ((xs2.take r3.toNat) ++ (((([] : List Pt) ++ ((xs2.drop r3.toNat).take ((xs2.length : Int).toNat - r3.toNat))).drop (spec_l1Min.m 1 ((([] : List Pt) ++ ((xs2.drop r3.toNat).take ((xs2.length : Int).toNat - r3.toNat))).length : Int)).toNat).take (((([] : List Pt) ++ ((xs2.drop r3.toNat).take ((xs2.length : Int).toNat - r3.toNat))).length : Int).toNat - (spec_l1Min.m 1 ((([] : List Pt) ++ ((xs2.drop r3.toNat).take ((xs2.length : Int).toNat - r3.toNat))).length : Int)).toNat))) (i2 - 1) m5 < mu67 xs2 i2 z2 else (if decide (((([] : List Pt) ++ ((xs2.drop r3.toNat).take ((xs2.length : Int).toNat - r3.toNat))).length : Int) > 0) then ((0 : Int) ≤ 0 ∧ 0 < ((([] : List Pt) ++ ((xs2.drop r3.toNat).take ((xs2.length : Int).toNat - r3.toNat))).length : Int)) ∧ ((0 : Int) ≤ r3 ∧ r3 ≤ (xs2.length : Int)) ∧ ((xs2.take r3.toNat).length + ((([] : List Pt) ++ ((xs2.drop r3.toNat).take ((xs2.length : Int).toNat - r3.toNat))).set (0 : Int).toNat (⟨5 + r4, r5⟩ : Pt)).length ≤ 268435456) ∧ ((xs2.length : Int) ≤ 9223372036854775807 → ((([] : List Pt) ++ ((xs2.drop r3.toNat).take ((xs2.length : Int).toNat - r3.toNat))).length : Int) ≤ 9223372036854775807 → I64 (i2 - 1)) ∧ I66 ((xs2.take r3.toNat) ++ ((([] : List Pt) ++ ((xs2.drop r3.toNat).take ((xs2.length : Int).toNat - r3.toNat))).set (0 : Int).toNat (⟨5 + r4, r5⟩ : Pt))) (i2 - 1) m5 ∧ mu67 ((xs2.take r3.toNat) ++ ((([] : List Pt) ++ ((xs2.drop r3.toNat).take ((xs2.length : Int).toNat - r3.toNat))).set (0 : Int).toNat (⟨5 + r4, r5⟩ : Pt))) (i2 - 1) m5 < mu67 xs2 i2 z2 else ((0 : Int) ≤ r3 ∧ r3 ≤ (xs2.length : Int)) ∧ ((xs2.take r3.toNat).length + (([] : List Pt) ++ ((xs2.drop r3.toNat).take ((xs2.length : Int).toNat - r3.toNat))).length ≤ 268435456) ∧ ((xs2.length : Int) ≤ 9223372036854775807 → ((([] : List Pt) ++ ((xs2.drop r3.toNat).take ((xs2.length : Int).toNat - r3.toNat))).length : Int) ≤ 9223372036854775807 → I64 (i2 - 1)) ∧ I66 ((xs2.take r3.toNat) ++ (([] : List Pt) ++ ((xs2.drop r3.toNat).take ((xs2.length : Int).toNat - r3.toNat)))) (i2 - 1) m5 ∧ mu67 ((xs2.take r3.toNat) ++ (([] : List Pt) ++ ((xs2.drop r3.toNat).take ((xs2.length : Int).toNat - r3.toNat)))) (i2 - 1) m5 < mu67 xs2 i2 z2))))))) else Q xs2 z2)))
set_option maxHeartbeats 8000000 in
set_option maxRecDepth 100000 in
theorem spec_l5Near.calls {O : Ob} (w0 : World) (hO : Ok w0 O) (b : Nat) (r_b : List UInt8) (A2 : Option Addr) (n3 c4 : Nat) (r_p : Int) (hp5 : Sl Kd.byte w0 (Fr O) (.slice A2 n3 c4) r_b) (hp0 : Bx w0 b [.slice A2 n3 c4, vi r_p]) (hm : some b ∈ O) (s : List Pt) (A7 : Option Addr) (n8 c9 : Nat) (hp10 : Sl kPt w0 (Fr O) (.slice A7 n8 c9) s) (Q : List Pt → Int → Prop) (h : spec_l5Near.E r_b r_p s Q) :
    Ret Try.prog 46 [.pointer (some ⟨b, 0, none⟩), .slice A7 n8 c9] w0 (fun v w' => ∃ (r0 : List Pt) (m0 : Int) (A0 : Option Addr) (n0 c0 : Nat), v = .slice A0 n0 c0 ∧ Q r0 m0 ∧ Gr w0 w' (some b) ∧ Bx w' b [.slice A2 n3 c4, vi m0] ∧ Ok w' ([blk (.slice A0 n0 c0)] ++ O) ∧ (∀ b, some b ∈ [blk (.slice A0 n0 c0)] → w0.heap.size ≤ b) ∧ Ow kPt 29 w' ([blk (.slice A0 n0 c0)] ++ O) (.slice A0 n0 c0) r0) := by
  have H : (([] : List Pt).length + s.length ≤ 268435456) ∧ spec_l12Rd_pick.E r_b r_p 2 (fun r2 m => (I64 (1 + r2)) ∧ (∃ (I66 : (List Pt) → Int → Int → Prop) (mu67 : (List Pt) → Int → Int → Nat), I66 (([] : List Pt) ++ s) (1 + r2) m ∧ ∀ (xs2 : List Pt) (i2 : Int) (z2 : Int), I66 xs2 i2 z2 → (if decide (i2 > 0) then ((xs2.length : Int) ≤ 9223372036854775807 → I64 ((xs2.length : Int) + 1)) ∧ spec_l12Rd_pick.E r_b z2 ((xs2.length : Int) + 1) (fun r3 m2 => spec_l12Rd_pick.E r_b m2 4 (fun r4 m3 => ((xs2.length : Int) ≤ 9223372036854775807 → I64 (5 + r4)) ∧ spec_l12Rd_pick.E r_b m3 3 (fun r5 m4 => ((0 : Int) ≤ r3 ∧ (r3 : Int) ≤ (xs2.length : Int) ∧ (xs2.length : Int) ≤ (xs2.length : Int)) ∧ (([] : List Pt).length + ((xs2.drop r3.toNat).take ((xs2.length : Int).toNat - r3.toNat)).length ≤ 268435456) ∧ spec_l12Rd_pick.E r_b m4 3 (fun r6 m5 => (if r6 == 0 then ((0 : Int) ≤ r3 ∧ r3 ≤ (xs2.length : Int)) ∧ ((xs2.take r3.toNat).length + ([(⟨5 + r4, r5⟩ : Pt)] : List Pt).length ≤ 268435456) ∧ (((xs2.take r3.toNat) ++ ([(⟨5 + r4, r5⟩ : Pt)] : List Pt)).length + (([] : List Pt) ++ ((xs2.drop r3.toNat).take ((xs2.length : Int).toNat - r3.toNat))).length ≤ 268435456) ∧ ((xs2.length : Int) ≤ 9223372036854775807 → I64 (i2 - 1)) ∧ I66 (((xs2.take r3.toNat) ++ ([(⟨5 + r4, r5⟩ : Pt)] : List Pt)) ++ (([] : List Pt) ++ ((xs2.drop r3.toNat).take ((xs2.length : Int).toNat - r3.toNat)))) (i2 - 1) m5 ∧ mu67 (((xs2.take r3.toNat) ++ ([(⟨5 + r4, r5⟩ : Pt)] : List Pt)) ++ (([] : List Pt) ++ ((xs2.drop r3.toNat).take ((xs2.length : Int).toNat - r3.toNat)))) (i2 - 1) m5 < mu67 xs2 i2 z2 else (if r6 == 1 then ((0 : Int) ≤ r3 ∧ r3 ≤ (xs2.length : Int)) ∧ ((0 : Int) ≤ (spec_l1Min.m 1 ((([] : List Pt) ++ ((xs2.drop r3.toNat).take ((xs2.length : Int).toNat - r3.toNat))).length : Int)) ∧ ((spec_l1Min.m 1 ((([] : List Pt) ++ ((xs2.drop r3.toNat).take ((xs2.length : Int).toNat - r3.toNat))).length : Int)) : Int) ≤ ((([] : List Pt) ++ ((xs2.drop r3.toNat).take ((xs2.length : Int).toNat - r3.toNat))).length : Int) ∧ ((([] : List Pt) ++ ((xs2.drop r3.toNat).take ((xs2.length : Int).toNat - r3.toNat))).length : Int) ≤ ((([] : List Pt) ++ ((xs2.drop r3.toNat).take ((xs2.length : Int).toNat - r3.toNat))).length : Int)) ∧ ((xs2.take r3.toNat).length + (((([] : List Pt) ++ ((xs2.drop r3.toNat).take ((xs2.length : Int).toNat - r3.toNat))).drop (spec_l1Min.m 1 ((([] : List Pt) ++ ((xs2.drop r3.toNat).take ((xs2.length : Int).toNat - r3.toNat))).length : Int)).toNat).take (((([] : List Pt) ++ ((xs2.drop r3.toNat).take ((xs2.length : Int).toNat - r3.toNat))).length : Int).toNat - (spec_l1Min.m 1 ((([] : List Pt) ++ ((xs2.drop r3.toNat).take ((xs2.length : Int).toNat - r3.toNat))).length : Int)).toNat)).length ≤ 268435456) ∧ ((xs2.length : Int) ≤ 9223372036854775807 → ((([] : List Pt) ++ ((xs2.drop r3.toNat).take ((xs2.length : Int).toNat - r3.toNat))).length : Int) ≤ 9223372036854775807 → I64 (i2 - 1)) ∧ I66 ((xs2.take r3.toNat) ++ (((([] : List Pt) ++ ((xs2.drop r3.toNat).take ((xs2.length : Int).toNat - r3.toNat))).drop (spec_l1Min.m 1 ((([] : List Pt) ++ ((xs2.drop r3.toNat).take ((xs2.length : Int).toNat - r3.toNat))).length : Int)).toNat).take (((([] : List Pt) ++ ((xs2.drop r3.toNat).take ((xs2.length : Int).toNat - r3.toNat))).length : Int).toNat - (spec_l1Min.m 1 ((([] : List Pt) ++ ((xs2.drop r3.toNat).take ((xs2.length : Int).toNat - r3.toNat))).length : Int)).toNat))) (i2 - 1) m5 ∧ mu67 ((xs2.take r3.toNat) ++ (((([] : List Pt) ++ ((xs2.drop r3.toNat).take ((xs2.length : Int).toNat - r3.toNat))).drop (spec_l1Min.m 1 ((([] : List Pt) ++ ((xs2.drop r3.toNat).take ((xs2.length : Int).toNat - r3.toNat))).length : Int)).toNat).take (((([] : List Pt) ++ ((xs2.drop r3.toNat).take ((xs2.length : Int).toNat - r3.toNat))).length : Int).toNat - (spec_l1Min.m 1 ((([] : List Pt) ++ ((xs2.drop r3.toNat).take ((xs2.length : Int).toNat - r3.toNat))).length : Int)).toNat))) (i2 - 1) m5 < mu67 xs2 i2 z2 else (if decide (((([] : List Pt) ++ ((xs2.drop r3.toNat).take ((xs2.length : Int).toNat - r3.toNat))).length : Int) > 0) then ((0 : Int) ≤ 0 ∧ 0 < ((([] : List Pt) ++ ((xs2.drop r3.toNat).take ((xs2.length : Int).toNat - r3.toNat))).length : Int)) ∧ ((0 : Int) ≤ r3 ∧ r3 ≤ (xs2.length : Int)) ∧ ((xs2.take r3.toNat).length + ((([] : List Pt) ++ ((xs2.drop r3.toNat).take ((xs2.length : Int).toNat - r3.toNat))).set (0 : Int).toNat (⟨5 + r4, r5⟩ : Pt)).length ≤ 268435456) ∧ ((xs2.length : Int) ≤ 9223372036854775807 → ((([] : List Pt) ++ ((xs2.drop r3.toNat).take ((xs2.length : Int).toNat - r3.toNat))).length : Int) ≤ 9223372036854775807 → I64 (i2 - 1)) ∧ I66 ((xs2.take r3.toNat) ++ ((([] : List Pt) ++ ((xs2.drop r3.toNat).take ((xs2.length : Int).toNat - r3.toNat))).set (0 : Int).toNat (⟨5 + r4, r5⟩ : Pt))) (i2 - 1) m5 ∧ mu67 ((xs2.take r3.toNat) ++ ((([] : List Pt) ++ ((xs2.drop r3.toNat).take ((xs2.length : Int).toNat - r3.toNat))).set (0 : Int).toNat (⟨5 + r4, r5⟩ : Pt))) (i2 - 1) m5 < mu67 xs2 i2 z2 else ((0 : Int) ≤ r3 ∧ r3 ≤ (xs2.length : Int)) ∧ ((xs2.take r3.toNat).length + (([] : List Pt) ++ ((xs2.drop r3.toNat).take ((xs2.length : Int).toNat - r3.toNat))).length ≤ 268435456) ∧ ((xs2.length : Int) ≤ 9223372036854775807 → ((([] : List Pt) ++ ((xs2.drop r3.toNat).take ((xs2.length : Int).toNat - r3.toNat))).length : Int) ≤ 9223372036854775807 → I64 (i2 - 1)) ∧ I66 ((xs2.take r3.toNat) ++ (([] : List Pt) ++ ((xs2.drop r3.toNat).take ((xs2.length : Int).toNat - r3.toNat)))) (i2 - 1) m5 ∧ mu67 ((xs2.take r3.toNat) ++ (([] : List Pt) ++ ((xs2.drop r3.toNat).take ((xs2.length : Int).toNat - r3.toNat)))) (i2 - 1) m5 < mu67 xs2 i2 z2))))))) else Q xs2 z2))) := h
  clear h
  have hc0 := Ct.initm1 (r := some b) hO (by intro b e; cases e; exact hm)
  refine Ret_enter Try.func46 rfl 71 rfl [.tmp 4] rfl rfl ?_
  refine W_seq ?_
  refine W_reg ?_
  refine L_pu (P_assign (.slice none 0 0) rfl) ?_
  refine L_nil ?_
  refine W_seq ?_
  refine W_reg ?_
  refine L_lit (kd := kPt) ei23 hc0 ([] : List Pt) (cells := []) rfl (fun _ => by kernel_rfl) fun w12 A13 n14 c15 g16 hr17 hc18 h19 => ?_
  refine L_pu (P_move (.slice A7 n8 c9) rfl) ?_
  obtain ⟨hb21, H⟩ := H
  refine L_app ei23 hc18 (.slice A13 n14 c15) ([] : List Pt) s rfl h19 (.slice A7 n8 c9) rfl (hp10.st hc18.st).sx 0 rfl hb21 fun w22 A23 n24 c25 g26 s27 hc28 h29 => ?_
  refine L_pu (P_assign (.slice A23 n24 c25) rfl) ?_
  refine L_nil ?_
  refine W_seq ?_
  refine W_seq ?_
  refine W_reg ?_
  refine L_pu (P_move (.pointer (some ⟨b, 0, none⟩)) rfl) ?_
  have h31 := (Bx.mo (L := [blk (.slice A13 n14 c15)]) (O := O) (hp0.k0 g16) hc18 (j := 0) rfl g26)
  refine L_call go45 [.pointer (some ⟨b, 0, none⟩), vi 2] rfl ((spec_l12Rd_pick.calls w22 hc28.ok b r_b A2 n3 c4 r_p (hp5.st hc28.st) h31 (List.mem_append_right _ hm) 2 _ H).mono ?_)
  rintro _ w32 ⟨r2, m, rfl, H, g33, hx34⟩
  have hc37 := hc28.wm g33
  obtain ⟨hb38, H⟩ := H
  refine L_pu (P_add 1 r2 rfl rfl hb38) ?_
  refine L_pu (P_assign (vi (1 + r2)) rfl) ?_
  refine L_nil ?_
  refine W_block ?_
  obtain ⟨I66, mu67, hI68, H⟩ := H
  have h70 := (Ow.swm (L := [blk (.slice A23 n24 c25)]) (O := O) h29 hc28 (i := 0) rfl g33)
  refine W_loop (α := (List Pt) × (Option Addr) × Nat × Nat × Int × Int) (fun (sv__ : (List Pt) × (Option Addr) × Nat × Nat × Int × Int) t w56 => match sv__ with | (xs2, A57, n58, c59, i2, z2) => I66 xs2 i2 z2 ∧ Has t [(0, .pointer (some ⟨b, 0, none⟩)), (5, .slice A57 n58 c59), (6, vi i2)] ∧ Ct [some b] w0 w56 [blk (.slice A57 n58 c59)] O ∧ Sl Kd.byte w56 (Fr ([blk (.slice A57 n58 c59)] ++ O)) (.slice A2 n3 c4) r_b ∧ Ow kPt 29 w56 ([blk (.slice A57 n58 c59)] ++ O) (.slice A57 n58 c59) xs2 ∧ Bx w56 b [.slice A2 n3 c4, vi z2]) (fun (sv__ : (List Pt) × (Option Addr) × Nat × Nat × Int × Int) => match sv__ with | (xs2, _, _, _, i2, z2) => mu67 xs2 i2 z2) ((([] : List Pt) ++ s), A23, n24, c25, 1 + r2, m) ⟨hI68, ⟨rfl, rfl, rfl, trivial⟩, hc37, (hp5.st hc37.st), h70, hx34⟩ ?_
  rintro ⟨xs2, A57, n58, c59, i2, z2⟩ _ w56 ⟨hI68, hh71, hc62, h63, h64, h65⟩
  obtain ⟨u72, rfl⟩ := Has.ins hh71
  have H := H xs2 i2 z2 hI68
  refine W_seq ?_
  refine W_seq ?_
  refine W_reg ?_
  refine L_pu (P_move (vi i2) rfl) ?_
  refine L_pu (P_cmp i2 0 (decide (i2 > 0)) rfl rfl rfl) ?_
  refine L_nil ?_
  refine W_cond (decide (i2 > 0)) rfl (fun hq73 => ?_) (fun hq73 => ?_)
  · have H := ite_t H hq73
    refine W_skip ?_
    refine W_seq ?_
    refine W_block ?_
    refine W_seq ?_
    refine W_reg ?_
    refine L_pu (P_move (.pointer (some ⟨b, 0, none⟩)) rfl) ?_
    refine L_pu (P_move (.slice A57 n58 c59) rfl) ?_
    have hl74 := h64.le
    refine L_pu (P_len Try.underlying23 A57 n58 c59 h64.len rfl) ?_
    obtain ⟨hb75, H⟩ := H
    have hi76 := hb75 (len_le hl74)
    refine L_pu (P_add (xs2.length : Int) 1 rfl rfl hi76) ?_
    refine L_call go45 [.pointer (some ⟨b, 0, none⟩), vi ((xs2.length : Int) + 1)] rfl ((spec_l12Rd_pick.calls w56 hc62.ok b r_b A2 n3 c4 z2 h63 h65 (List.mem_append_right _ hm) ((xs2.length : Int) + 1) _ H).mono ?_)
    rintro _ w77 ⟨r3, m2, rfl, H, g78, hx79⟩
    have hc82 := hc62.wm g78
    refine L_pu (P_assign (vi r3) rfl) ?_
    refine L_nil ?_
    refine W_seq ?_
    refine W_reg ?_
    refine L_pu (P_move (.pointer (some ⟨b, 0, none⟩)) rfl) ?_
    have h83 := (h63.st (.wm (L := [blk (.slice A57 n58 c59)]) (O := O) hc62 g78))
    refine L_call go45 [.pointer (some ⟨b, 0, none⟩), vi 4] rfl ((spec_l12Rd_pick.calls w77 hc82.ok b r_b A2 n3 c4 m2 h83 hx79 (List.mem_append_right _ hm) 4 _ H).mono ?_)
    rintro _ w84 ⟨r4, m3, rfl, H, g85, hx86⟩
    have hc89 := hc82.wm g85
    obtain ⟨hb90, H⟩ := H
    have hi91 := hb90 (len_le hl74)
    refine L_pu (P_add 5 r4 rfl rfl hi91) ?_
    refine L_pu (P_move (.pointer (some ⟨b, 0, none⟩)) rfl) ?_
    have h92 := (h83.st (.wm (L := [blk (.slice A57 n58 c59)]) (O := O) hc82 g85))
    refine L_call go45 [.pointer (some ⟨b, 0, none⟩), vi 3] rfl ((spec_l12Rd_pick.calls w84 hc89.ok b r_b A2 n3 c4 m3 h92 hx86 (List.mem_append_right _ hm) 3 _ H).mono ?_)
    rintro _ w93 ⟨r5, m4, rfl, H, g94, hx95⟩
    have hc98 := hc89.wm g94
    refine L_pu (P_build (.agg #[vi (5 + r4), vi r5]) (fun _ => by kernel_rfl)) ?_
    refine L_alloc [.int .i64 0, .int .i64 0] ze29 fun w99 b100 hl102 hu103 g101 hx104 => ?_
    have hc106 := hc98.own g101 (some b100) (oglt hl102 hu103)
    refine L_stb b100 0 [vi 0, vi 0] [vi (5 + r4), vi r5] [vi (5 + r4), vi r5] rfl hx104 rfl sz29 rfl rfl rfl fun w107 g108 hx109 => ?_
    have hc110 := hc106.wr 0 rfl g108
    refine L_nil ?_
    refine W_seq ?_
    refine W_reg ?_
    refine L_lit (kd := kPt) ei23 hc110 ([] : List Pt) (cells := []) rfl (fun _ => by kernel_rfl) fun w111 A112 n113 c114 g115 hr116 hc117 h118 => ?_
    refine L_pu (P_move (.slice A57 n58 c59) rfl) ?_
    refine L_pu (P_move (vi r3) rfl) ?_
    have h120 := ((Ow.sw (L := [some b100, blk (.slice A57 n58 c59)]) (O := O) ((Ow.swm (L := [blk (.slice A57 n58 c59)]) (O := O) (Ow.swm (L := [blk (.slice A57 n58 c59)]) (O := O) (Ow.swm (L := [blk (.slice A57 n58 c59)]) (O := O) h64 hc62 (i := 0) rfl g78) hc82 (i := 0) rfl g85) hc89 (i := 0) rfl g94).so _ g101 (oge hl102)) hc106 (i := 1) rfl (j := 0) rfl (by decide) g108).so _ g115 hr116)
    obtain ⟨hb121, H⟩ := H
    refine L_pu (P_cutx Try.underlying23 se23 A57 n58 c59 rfl h120 r3 (xs2.length : Int) rfl (bd_none h120.len) hb121) ?_
    obtain ⟨hb122, H⟩ := H
    refine L_app ei23 hc117 (.slice A112 n113 c114) ([] : List Pt) ((xs2.drop r3.toNat).take ((xs2.length : Int).toNat - r3.toNat)) rfl h118 (sliced A57 r3.toNat (xs2.length : Int).toNat c59 2) rfl (h120.sx.cut r3 (xs2.length : Int) hb121) 0 rfl hb122 fun w123 A124 n125 c126 g127 s128 hc129 h130 => ?_
    refine L_pu (P_assign (.slice A124 n125 c126) rfl) ?_
    refine L_nil ?_
    refine W_seq ?_
    refine W_reg ?_
    refine L_pu (P_move (.pointer (some ⟨b, 0, none⟩)) rfl) ?_
    have h132 := (((((h92.st (.wm (L := [blk (.slice A57 n58 c59)]) (O := O) hc89 g94)).st (.own _ _ g101 (oge hl102))).st (.wl (L := [some b100, blk (.slice A57 n58 c59)]) (O := O) (j := 0) rfl g108)).st (.own _ _ g115 hr116)).st s128)
    have h133 := (Bx.mo (L := [blk (.slice A112 n113 c114), some b100, blk (.slice A57 n58 c59)]) (O := O) ((Bx.mo (L := [some b100, blk (.slice A57 n58 c59)]) (O := O) (hx95.k0 g101) hc106 (j := 0) rfl g108).k0 g115) hc117 (j := 0) rfl g127)
    refine L_call go45 [.pointer (some ⟨b, 0, none⟩), vi 3] rfl ((spec_l12Rd_pick.calls w123 hc129.ok b r_b A2 n3 c4 m4 h132 h133 (List.mem_append_right _ hm) 3 _ H).mono ?_)
    rintro _ w134 ⟨r6, m5, rfl, H, g135, hx136⟩
    have hc139 := hc129.wm g135
    refine L_nil ?_
    refine W_block ?_
    refine W_seq ?_
    refine W_reg ?_
    refine L_pu (P_cmp r6 0 (r6 == 0) rfl rfl rfl) ?_
    refine L_pu (P_assign (vb (r6 == 0)) rfl) ?_
    refine L_nil ?_
    refine W_cond (r6 == 0) rfl (fun hq140 => ?_) (fun hq140 => ?_)
    · have H := ite_t H hq140
      refine W_mixr 9 [blk (.slice A57 n58 c59)] (by kernel_rfl) rfl fun w141 g142 hM143 => ?_
      have hc144 := hc139.k0 g142
      refine M_pu 0 rfl (by kernel_rfl) hM143 (P_move (.slice A57 n58 c59) rfl) ?_
      refine M_pu 1 rfl (by kernel_rfl) hM143 (P_move (vi r3) rfl) ?_
      have h145 := ((Ow.swm (L := [blk (.slice A124 n125 c126), some b100, blk (.slice A57 n58 c59)]) (O := O) (Ow.sm (L := [blk (.slice A112 n113 c114), some b100, blk (.slice A57 n58 c59)]) (O := O) h120 hc117 (i := 2) rfl (j := 0) rfl (by decide) g127 s128) hc129 (i := 2) rfl g135).sn g142)
      obtain ⟨hb146, H⟩ := H
      refine M_cuto 2 rfl (by kernel_rfl) hM143 Try.underlying23 se23 A57 n58 c59 xs2 rfl h145 r3 rfl rfl hb146 fun n147 h148 => ?_
      have h150 := ((Bx.swm (L := [blk (.slice A124 n125 c126), some b100, blk (.slice A57 n58 c59)]) (O := O) (Bx.sm (L := [blk (.slice A112 n113 c114), some b100, blk (.slice A57 n58 c59)]) (O := O) (hx109.k0 g115) hc117 (i := 1) rfl (j := 0) rfl (by decide) g127) hc129 (i := 1) rfl g135).k0 g142)
      refine M_pu 3 rfl (by kernel_rfl) hM143 (P_ldar ag29 sz29 cR ⟨b100, 0, none⟩ [vi (5 + r4), vi r5] rfl rfl (h150.cells (off := 0) rfl) (nm_cons (bx_ne hc144 (j := 1) (i := 2) rfl rfl (by decide)) nm_nil)) ?_
      refine M_pu 6 rfl (by kernel_rfl) hM143 (P_move (.slice A124 n125 c126) rfl) ?_
      refine M_any1 4 (by kernel_rfl) rfl ?_
      refine L_lit (kd := kPt) ei23 hc144 ([(⟨5 + r4, r5⟩ : Pt)] : List Pt) (cells := [vi (5 + r4), vi r5]) ⟨[vi (5 + r4), vi r5], _, rfl, (kPt.mk _ _ (⟨5 + r4, r5⟩ : Pt)), rfl⟩ (fun _ => by kernel_rfl) fun w151 A152 n153 c154 g155 hr156 hc157 h158 => ?_
      have hM160 := Gm.tm hM143 g155
      refine L_nil ⟨hM160, ?_⟩
      refine M_any1 5 (by kernel_rfl) rfl ?_
      obtain ⟨hb161, H⟩ := H
      have h162 := (h148.so _ g155 hr156)
      refine L_app ei23 hc157 (.slice A57 n147 c59) (xs2.take r3.toNat) ([(⟨5 + r4, r5⟩ : Pt)] : List Pt) rfl h162 (.slice A152 n153 c154) rfl h158.sx 3 rfl hb161 fun w163 A164 n165 c166 g167 s168 hc169 h170 => ?_
      have hM171 := Gm.tq hM160 g167 (hv_mem 0 rfl)
      have hv172 := hv_app (L := [blk (.slice A152 n153 c154), blk (.slice A124 n125 c126), some b100, blk (.slice A57 n147 c59)]) (O := O) (i := 3) hM160 rfl (hv_mem 0 rfl) s168 hc169
      refine L_nil ⟨hM171, ?_⟩
      refine M_any1 7 (by kernel_rfl) rfl ?_
      have h174 := (Ow.sm (L := [blk (.slice A152 n153 c154), blk (.slice A124 n125 c126), some b100, blk (.slice A57 n147 c59)]) (O := O) (((Ow.swm (L := [blk (.slice A124 n125 c126), some b100, blk (.slice A57 n58 c59)]) (O := O) h130 hc129 (i := 0) rfl g135).sn g142).so _ g155 hr156) hc157 (i := 1) rfl (j := 3) rfl (by decide) g167 s168)
      obtain ⟨hb175, H⟩ := H
      refine L_app ei23 hc169 (.slice A164 n165 c166) ((xs2.take r3.toNat) ++ ([(⟨5 + r4, r5⟩ : Pt)] : List Pt)) (([] : List Pt) ++ ((xs2.drop r3.toNat).take ((xs2.length : Int).toNat - r3.toNat))) rfl h170 (.slice A124 n125 c126) rfl h174.sx 3 rfl hb175 fun w176 A177 n178 c179 g180 s181 hc182 h183 => ?_
      have hM184 := Gm.tq hM171 g180 hv172
      have hv185 := hv_app (L := [blk (.slice A152 n153 c154), blk (.slice A124 n125 c126), some b100, blk (.slice A164 n165 c166)]) (O := O) (i := 3) hM171 rfl hv172 s181 hc182
      refine L_nil ⟨hM184, ?_⟩
      refine M_pu 8 rfl (by kernel_rfl) hM184 (P_assign (.slice A177 n178 c179) rfl) ?_
      refine M_nil (by kernel_rfl) ?_
      refine W_reg ?_
      refine L_pu (P_move (vi i2) rfl) ?_
      obtain ⟨hb187, H⟩ := H
      have hi188 := hb187 (len_le hl74)
      refine L_pu (P_sub i2 1 rfl rfl hi188) ?_
      refine L_pu (P_assign (vi (i2 - 1)) rfl) ?_
      refine L_nil ?_
      have hc189 := hc182.drop 0 rfl
      have hc190 := hc189.drop 0 rfl
      have hc191 := hc190.drop 0 rfl
      obtain ⟨hI192, hm193⟩ := H
      have h194 := ((((((((h132.st (.wm (L := [blk (.slice A124 n125 c126), some b100, blk (.slice A57 n58 c59)]) (O := O) hc129 g135)).st (.new _ g142)).st (.own _ _ g155 hr156)).st s168).st s181).st (.dr _ (L := [blk (.slice A152 n153 c154), blk (.slice A124 n125 c126), some b100, blk (.slice A177 n178 c179)]) (O := O) (j := 0) rfl)).st (.dr _ (L := [blk (.slice A124 n125 c126), some b100, blk (.slice A177 n178 c179)]) (O := O) (j := 0) rfl)).st (.dr _ (L := [some b100, blk (.slice A177 n178 c179)]) (O := O) (j := 0) rfl))
      have h195 := (Ow.sd (L := [some b100, blk (.slice A177 n178 c179)]) (O := O) (Ow.sd (L := [blk (.slice A124 n125 c126), some b100, blk (.slice A177 n178 c179)]) (O := O) (Ow.sd (L := [blk (.slice A152 n153 c154), blk (.slice A124 n125 c126), some b100, blk (.slice A177 n178 c179)]) (O := O) h183 (i := 3) rfl (j := 0) rfl (by decide)) (i := 2) rfl (j := 0) rfl (by decide)) (i := 1) rfl (j := 0) rfl (by decide))
      have h196 := (Bx.mo (L := [blk (.slice A152 n153 c154), blk (.slice A124 n125 c126), some b100, blk (.slice A164 n165 c166)]) (O := O) (Bx.mo (L := [blk (.slice A152 n153 c154), blk (.slice A124 n125 c126), some b100, blk (.slice A57 n147 c59)]) (O := O) ((hx136.k0 g142).k0 g155) hc157 (j := 3) rfl g167) hc169 (j := 3) rfl g180)
      exact ⟨((((xs2.take r3.toNat) ++ ([(⟨5 + r4, r5⟩ : Pt)] : List Pt)) ++ (([] : List Pt) ++ ((xs2.drop r3.toNat).take ((xs2.length : Int).toNat - r3.toNat)))), A177, n178, c179, i2 - 1, m5), hm193, hI192, ⟨rfl, rfl, rfl, trivial⟩, hc191, h194, h195, h196⟩
    · have H := ite_f H hq140
      refine W_seq ?_
      refine W_reg ?_
      refine L_pu (P_cmp r6 1 (r6 == 1) rfl rfl rfl) ?_
      refine L_pu (P_assign (vb (r6 == 1)) rfl) ?_
      refine L_nil ?_
      refine W_cond (r6 == 1) rfl (fun hq197 => ?_) (fun hq197 => ?_)
      · have H := ite_t H hq197
        refine W_tail 8 (by kernel_rfl) (by kernel_rfl) fun w198 g199 => ?_
        have hc200 := hc139.k0 g199
        refine S_pu (P_move (.slice A57 n58 c59) rfl) ?_
        refine S_pu (P_move (vi r3) rfl) ?_
        have h201 := ((Ow.swm (L := [blk (.slice A124 n125 c126), some b100, blk (.slice A57 n58 c59)]) (O := O) (Ow.sm (L := [blk (.slice A112 n113 c114), some b100, blk (.slice A57 n58 c59)]) (O := O) h120 hc117 (i := 2) rfl (j := 0) rfl (by decide) g127 s128) hc129 (i := 2) rfl g135).sn g199)
        obtain ⟨hb202, H⟩ := H
        refine S_cuto Try.underlying23 se23 A57 n58 c59 xs2 rfl h201 r3 rfl rfl hb202 fun n203 h204 => ?_
        refine S_pu (P_move (.slice A124 n125 c126) rfl) ?_
        refine S_pu (P_move (.slice A124 n125 c126) rfl) ?_
        have h206 := ((Ow.swm (L := [blk (.slice A124 n125 c126), some b100, blk (.slice A57 n58 c59)]) (O := O) h130 hc129 (i := 0) rfl g135).sn g199)
        have hl207 := h206.le
        refine S_pu (P_len Try.underlying23 A124 n125 c126 h206.len rfl) ?_
        refine S_call go107 [vi 1, vi ((([] : List Pt) ++ ((xs2.drop r3.toNat).take ((xs2.length : Int).toNat - r3.toNat))).length : Int)] rfl (vi (spec_l1Min.m 1 ((([] : List Pt) ++ ((xs2.drop r3.toNat).take ((xs2.length : Int).toNat - r3.toNat))).length : Int))) ((spec_l1Min.calls w198 hc200.ok 1 ((([] : List Pt) ++ ((xs2.drop r3.toNat).take ((xs2.length : Int).toNat - r3.toNat))).length : Int) _ (spec_l1Min.fn 1 ((([] : List Pt) ++ ((xs2.drop r3.toNat).take ((xs2.length : Int).toNat - r3.toNat))).length : Int))).mono ?_) ?_
        · rintro _ w ⟨r, rfl, rfl, _, rfl⟩
          exact ⟨rfl, rfl⟩
        obtain ⟨hb213, H⟩ := H
        refine S_pu (P_cutx Try.underlying23 se23 A124 n125 c126 rfl h206 (spec_l1Min.m 1 ((([] : List Pt) ++ ((xs2.drop r3.toNat).take ((xs2.length : Int).toNat - r3.toNat))).length : Int)) ((([] : List Pt) ++ ((xs2.drop r3.toNat).take ((xs2.length : Int).toNat - r3.toNat))).length : Int) rfl (bd_none h206.len) hb213) ?_
        refine S_nil ?_
        obtain ⟨hb214, H⟩ := H
        refine L_app ei23 hc200 (.slice A57 n203 c59) (xs2.take r3.toNat) (((([] : List Pt) ++ ((xs2.drop r3.toNat).take ((xs2.length : Int).toNat - r3.toNat))).drop (spec_l1Min.m 1 ((([] : List Pt) ++ ((xs2.drop r3.toNat).take ((xs2.length : Int).toNat - r3.toNat))).length : Int)).toNat).take (((([] : List Pt) ++ ((xs2.drop r3.toNat).take ((xs2.length : Int).toNat - r3.toNat))).length : Int).toNat - (spec_l1Min.m 1 ((([] : List Pt) ++ ((xs2.drop r3.toNat).take ((xs2.length : Int).toNat - r3.toNat))).length : Int)).toNat)) rfl h204 (sliced A124 (spec_l1Min.m 1 ((([] : List Pt) ++ ((xs2.drop r3.toNat).take ((xs2.length : Int).toNat - r3.toNat))).length : Int)).toNat ((([] : List Pt) ++ ((xs2.drop r3.toNat).take ((xs2.length : Int).toNat - r3.toNat))).length : Int).toNat c126 2) rfl (h206.sx.cut (spec_l1Min.m 1 ((([] : List Pt) ++ ((xs2.drop r3.toNat).take ((xs2.length : Int).toNat - r3.toNat))).length : Int)) ((([] : List Pt) ++ ((xs2.drop r3.toNat).take ((xs2.length : Int).toNat - r3.toNat))).length : Int) hb213) 2 rfl hb214 fun w215 A216 n217 c218 g219 s220 hc221 h222 => ?_
        refine L_pu (P_assign (.slice A216 n217 c218) rfl) ?_
        refine L_nil ?_
        refine W_reg ?_
        refine L_pu (P_move (vi i2) rfl) ?_
        obtain ⟨hb224, H⟩ := H
        have hi225 := hb224 (len_le hl74) (len_le hl207)
        refine L_pu (P_sub i2 1 rfl rfl hi225) ?_
        refine L_pu (P_assign (vi (i2 - 1)) rfl) ?_
        refine L_nil ?_
        have hc226 := hc221.drop 0 rfl
        have hc227 := hc226.drop 0 rfl
        obtain ⟨hI228, hm229⟩ := H
        have h230 := (((((h132.st (.wm (L := [blk (.slice A124 n125 c126), some b100, blk (.slice A57 n58 c59)]) (O := O) hc129 g135)).st (.new _ g199)).st s220).st (.dr _ (L := [blk (.slice A124 n125 c126), some b100, blk (.slice A216 n217 c218)]) (O := O) (j := 0) rfl)).st (.dr _ (L := [some b100, blk (.slice A216 n217 c218)]) (O := O) (j := 0) rfl))
        have h231 := (Ow.sd (L := [some b100, blk (.slice A216 n217 c218)]) (O := O) (Ow.sd (L := [blk (.slice A124 n125 c126), some b100, blk (.slice A216 n217 c218)]) (O := O) h222 (i := 2) rfl (j := 0) rfl (by decide)) (i := 1) rfl (j := 0) rfl (by decide))
        have h232 := (Bx.mo (L := [blk (.slice A124 n125 c126), some b100, blk (.slice A57 n203 c59)]) (O := O) (hx136.k0 g199) hc200 (j := 2) rfl g219)
        exact ⟨(((xs2.take r3.toNat) ++ (((([] : List Pt) ++ ((xs2.drop r3.toNat).take ((xs2.length : Int).toNat - r3.toNat))).drop (spec_l1Min.m 1 ((([] : List Pt) ++ ((xs2.drop r3.toNat).take ((xs2.length : Int).toNat - r3.toNat))).length : Int)).toNat).take (((([] : List Pt) ++ ((xs2.drop r3.toNat).take ((xs2.length : Int).toNat - r3.toNat))).length : Int).toNat - (spec_l1Min.m 1 ((([] : List Pt) ++ ((xs2.drop r3.toNat).take ((xs2.length : Int).toNat - r3.toNat))).length : Int)).toNat))), A216, n217, c218, i2 - 1, m5), hm229, hI228, ⟨rfl, rfl, rfl, trivial⟩, hc227, h230, h231, h232⟩
      · have H := ite_f H hq197
        refine W_seq ?_
        refine W_seq ?_
        refine W_reg ?_
        refine L_pu (P_move (.slice A124 n125 c126) rfl) ?_
        have h233 := (Ow.swm (L := [blk (.slice A124 n125 c126), some b100, blk (.slice A57 n58 c59)]) (O := O) h130 hc129 (i := 0) rfl g135)
        have hl234 := h233.le
        refine L_pu (P_len Try.underlying23 A124 n125 c126 h233.len rfl) ?_
        refine L_pu (P_cmp ((([] : List Pt) ++ ((xs2.drop r3.toNat).take ((xs2.length : Int).toNat - r3.toNat))).length : Int) 0 (decide (((([] : List Pt) ++ ((xs2.drop r3.toNat).take ((xs2.length : Int).toNat - r3.toNat))).length : Int) > 0)) rfl rfl rfl) ?_
        refine L_nil ?_
        refine W_cond (decide (((([] : List Pt) ++ ((xs2.drop r3.toNat).take ((xs2.length : Int).toNat - r3.toNat))).length : Int) > 0)) rfl (fun hq235 => ?_) (fun hq235 => ?_)
        · have H := ite_t H hq235
          refine W_reg ?_
          refine L_pu (P_move (.slice A124 n125 c126) rfl) ?_
          have h236 := (Bx.swm (L := [blk (.slice A124 n125 c126), some b100, blk (.slice A57 n58 c59)]) (O := O) (Bx.sm (L := [blk (.slice A112 n113 c114), some b100, blk (.slice A57 n58 c59)]) (O := O) (hx109.k0 g115) hc117 (i := 1) rfl (j := 0) rfl (by decide) g127) hc129 (i := 1) rfl g135)
          refine L_pu (P_lda ag29 sz29 cL ⟨b100, 0, none⟩ [vi (5 + r4), vi r5] rfl rfl (h236.cells (off := 0) rfl)) ?_
          obtain ⟨hb237, H⟩ := H
          obtain ⟨ad238, cs239, hA240, hR241, hcl242⟩ := h233.get default (by decide) 0 hb237
          obtain rfl := kPt.op hR241
          refine L_pu (P_ia Try.underlying23 se23 A124 ad238 n125 c126 h233.len 0 rfl hA240 rfl hb237) ?_
          refine L_ste0 A124 n125 c126 (([] : List Pt) ++ ((xs2.drop r3.toNat).take ((xs2.length : Int).toNat - r3.toNat))) h233 0 hb237 ad238 hA240 0 rfl [vi (5 + r4), vi r5] rfl sz29 rfl (⟨5 + r4, r5⟩ : Pt) [vi ((nth (([] : List Pt) ++ ((xs2.drop r3.toNat).take ((xs2.length : Int).toNat - r3.toNat))) 0).X), vi ((nth (([] : List Pt) ++ ((xs2.drop r3.toNat).take ((xs2.length : Int).toNat - r3.toNat))) 0).Y)] [vi (5 + r4), vi r5] hcl242 rfl rfl (kPt.mk _ _ (⟨5 + r4, r5⟩ : Pt)) fun w244 g245 h246 => ?_
          have hc247 := hc139.wr 0 rfl g245
          refine L_nil ?_
          refine W_reg ?_
          refine L_pu (P_move (.slice A57 n58 c59) rfl) ?_
          refine L_pu (P_move (vi r3) rfl) ?_
          have h248 := (Ow.sw (L := [blk (.slice A124 n125 c126), some b100, blk (.slice A57 n58 c59)]) (O := O) (Ow.swm (L := [blk (.slice A124 n125 c126), some b100, blk (.slice A57 n58 c59)]) (O := O) (Ow.sm (L := [blk (.slice A112 n113 c114), some b100, blk (.slice A57 n58 c59)]) (O := O) h120 hc117 (i := 2) rfl (j := 0) rfl (by decide) g127 s128) hc129 (i := 2) rfl g135) hc139 (i := 2) rfl (j := 0) rfl (by decide) g245)
          obtain ⟨hb249, H⟩ := H
          refine L_cuto Try.underlying23 se23 A57 n58 c59 xs2 rfl h248 r3 rfl rfl hb249 fun n250 h251 => ?_
          refine L_pu (P_move (.slice A124 n125 c126) rfl) ?_
          obtain ⟨hb253, H⟩ := H
          refine L_app ei23 hc247 (.slice A57 n250 c59) (xs2.take r3.toNat) ((([] : List Pt) ++ ((xs2.drop r3.toNat).take ((xs2.length : Int).toNat - r3.toNat))).set (0 : Int).toNat (⟨5 + r4, r5⟩ : Pt)) rfl h251 (.slice A124 n125 c126) rfl h246.sx 2 rfl hb253 fun w254 A255 n256 c257 g258 s259 hc260 h261 => ?_
          refine L_pu (P_assign (.slice A255 n256 c257) rfl) ?_
          refine L_nil ?_
          refine W_reg ?_
          refine L_pu (P_move (vi i2) rfl) ?_
          obtain ⟨hb263, H⟩ := H
          have hi264 := hb263 (len_le hl74) (len_le hl234)
          refine L_pu (P_sub i2 1 rfl rfl hi264) ?_
          refine L_pu (P_assign (vi (i2 - 1)) rfl) ?_
          refine L_nil ?_
          have hc265 := hc260.drop 0 rfl
          have hc266 := hc265.drop 0 rfl
          obtain ⟨hI267, hm268⟩ := H
          have h269 := (((((h132.st (.wm (L := [blk (.slice A124 n125 c126), some b100, blk (.slice A57 n58 c59)]) (O := O) hc129 g135)).st (.wl (L := [blk (.slice A124 n125 c126), some b100, blk (.slice A57 n58 c59)]) (O := O) (j := 0) rfl g245)).st s259).st (.dr _ (L := [blk (.slice A124 n125 c126), some b100, blk (.slice A255 n256 c257)]) (O := O) (j := 0) rfl)).st (.dr _ (L := [some b100, blk (.slice A255 n256 c257)]) (O := O) (j := 0) rfl))
          have h270 := (Ow.sd (L := [some b100, blk (.slice A255 n256 c257)]) (O := O) (Ow.sd (L := [blk (.slice A124 n125 c126), some b100, blk (.slice A255 n256 c257)]) (O := O) h261 (i := 2) rfl (j := 0) rfl (by decide)) (i := 1) rfl (j := 0) rfl (by decide))
          have h271 := (Bx.mo (L := [blk (.slice A124 n125 c126), some b100, blk (.slice A57 n250 c59)]) (O := O) (Bx.mo (L := [blk (.slice A124 n125 c126), some b100, blk (.slice A57 n58 c59)]) (O := O) hx136 hc139 (j := 0) rfl g245) hc247 (j := 2) rfl g258)
          exact ⟨(((xs2.take r3.toNat) ++ ((([] : List Pt) ++ ((xs2.drop r3.toNat).take ((xs2.length : Int).toNat - r3.toNat))).set (0 : Int).toNat (⟨5 + r4, r5⟩ : Pt))), A255, n256, c257, i2 - 1, m5), hm268, hI267, ⟨rfl, rfl, rfl, trivial⟩, hc266, h269, h270, h271⟩
        · have H := ite_f H hq235
          refine W_skip ?_
          refine W_reg ?_
          refine L_pu (P_move (.slice A57 n58 c59) rfl) ?_
          refine L_pu (P_move (vi r3) rfl) ?_
          have h272 := (Ow.swm (L := [blk (.slice A124 n125 c126), some b100, blk (.slice A57 n58 c59)]) (O := O) (Ow.sm (L := [blk (.slice A112 n113 c114), some b100, blk (.slice A57 n58 c59)]) (O := O) h120 hc117 (i := 2) rfl (j := 0) rfl (by decide) g127 s128) hc129 (i := 2) rfl g135)
          obtain ⟨hb273, H⟩ := H
          refine L_cuto Try.underlying23 se23 A57 n58 c59 xs2 rfl h272 r3 rfl rfl hb273 fun n274 h275 => ?_
          refine L_pu (P_move (.slice A124 n125 c126) rfl) ?_
          obtain ⟨hb277, H⟩ := H
          refine L_app ei23 hc139 (.slice A57 n274 c59) (xs2.take r3.toNat) (([] : List Pt) ++ ((xs2.drop r3.toNat).take ((xs2.length : Int).toNat - r3.toNat))) rfl h275 (.slice A124 n125 c126) rfl h233.sx 2 rfl hb277 fun w278 A279 n280 c281 g282 s283 hc284 h285 => ?_
          refine L_pu (P_assign (.slice A279 n280 c281) rfl) ?_
          refine L_nil ?_
          refine W_reg ?_
          refine L_pu (P_move (vi i2) rfl) ?_
          obtain ⟨hb287, H⟩ := H
          have hi288 := hb287 (len_le hl74) (len_le hl234)
          refine L_pu (P_sub i2 1 rfl rfl hi288) ?_
          refine L_pu (P_assign (vi (i2 - 1)) rfl) ?_
          refine L_nil ?_
          have hc289 := hc284.drop 0 rfl
          have hc290 := hc289.drop 0 rfl
          obtain ⟨hI291, hm292⟩ := H
          have h293 := ((((h132.st (.wm (L := [blk (.slice A124 n125 c126), some b100, blk (.slice A57 n58 c59)]) (O := O) hc129 g135)).st s283).st (.dr _ (L := [blk (.slice A124 n125 c126), some b100, blk (.slice A279 n280 c281)]) (O := O) (j := 0) rfl)).st (.dr _ (L := [some b100, blk (.slice A279 n280 c281)]) (O := O) (j := 0) rfl))
          have h294 := (Ow.sd (L := [some b100, blk (.slice A279 n280 c281)]) (O := O) (Ow.sd (L := [blk (.slice A124 n125 c126), some b100, blk (.slice A279 n280 c281)]) (O := O) h285 (i := 2) rfl (j := 0) rfl (by decide)) (i := 1) rfl (j := 0) rfl (by decide))
          have h295 := (Bx.mo (L := [blk (.slice A124 n125 c126), some b100, blk (.slice A57 n274 c59)]) (O := O) hx136 hc139 (j := 2) rfl g282)
          exact ⟨(((xs2.take r3.toNat) ++ (([] : List Pt) ++ ((xs2.drop r3.toNat).take ((xs2.length : Int).toNat - r3.toNat)))), A279, n280, c281, i2 - 1, m5), hm292, hI291, ⟨rfl, rfl, rfl, trivial⟩, hc290, h293, h294, h295⟩
  · have H := ite_f H hq73
    refine W_exit (xin_hit ?_)
    refine W_seq ?_
    refine W_reg ?_
    refine L_pu (P_move (.slice A57 n58 c59) rfl) ?_
    refine L_pu (P_assign (.slice A57 n58 c59) rfl) ?_
    refine L_nil ?_
    refine W_ret ?_
    exact ⟨[.slice A57 n58 c59], ⟨_, rfl, rfl⟩, xs2, z2, A57, n58, c59, rfl, H, hc62.gr.g1, h65, hc62.ok, hc62.ge, h64⟩
end Go.Proofs.Ytndjggncgpjolaa

namespace Go.Proofs.Ytndjggncgpjolaa
set_option linter.unusedVariables false
set_option linter.unusedSimpArgs false
set_option linter.unusedSectionVars false
theorem Field.app {l m : List Pt} (hl : Field l) (hm : Field m) : Field (l ++ m) := fun x hx => (List.mem_append.1 hx).elim (hl x) (hm x)
theorem Field.take {l : List Pt} (h : Field l) (k : Nat) : Field (l.take k) := fun x hx => h x (List.mem_of_mem_take hx)
theorem Field.drop {l : List Pt} (h : Field l) (k : Nat) : Field (l.drop k) := fun x hx => h x (List.mem_of_mem_drop hx)
theorem Field.one {x y : Int} (h : x ≤ 8) : Field [(⟨x, y⟩ : Pt)] := fun q hq => by rw [List.mem_singleton.1 hq]; exact h
theorem Field.set {l : List Pt} (h : Field l) (k : Nat) {x y : Int} (hx : x ≤ 8) : Field (l.set k ⟨x, y⟩) := fun q hq => by
  rcases List.mem_or_eq_of_mem_set hq with hq | rfl
  · exact h q hq
  · exact hx
theorem spec_l5Near.law (b : List UInt8) (p : Int) (s : List Pt) (Q : List Pt → Int → Prop) (hb : b.length ≤ 2000) (hp : 0 ≤ p) (hp1 : p ≤ 1000000000) (hs : s.length ≤ 1000) (hf : Field s) (hq : ∀ l p', l.length ≤ s.length + 2 → Field l → 0 ≤ p' → p' ≤ p + 3000 → Q l p') : spec_l5Near.E b p s Q := by
  unfold spec_l5Near.E
  rw [List.nil_append]
  refine ⟨by simp only [List.length_nil]; omega, spec_l12Rd_pick.law _ _ _ _ hb hp (by omega) fun v hv0 hv1 => ⟨by unfold I64; omega, ?_⟩⟩
  refine ⟨fun l i z => 0 ≤ i ∧ i ≤ 2 ∧ (l.length : Int) + i ≤ s.length + 2 ∧ Field l ∧ 0 ≤ z ∧ z ≤ p + 1 + 4 * (2 - i), fun _ i _ => i.toNat, ⟨by omega, by omega, by omega, hf, by omega, by omega⟩, ?_⟩
  rintro l i z ⟨h0, h1, h2, h3, h4, h5⟩
  by_cases hi : i > 0
  · rw [if_pos (by simpa using hi)]
    refine ⟨fun _ => by unfold I64; omega, spec_l12Rd_pick.law _ _ _ _ hb h4 (by omega) fun k hk0 hk1 => spec_l12Rd_pick.law _ _ _ _ hb (by omega) (by omega) fun x hx0 hx1 => ⟨fun _ => by unfold I64; omega, spec_l12Rd_pick.law _ _ _ _ hb (by omega) (by omega) fun y hy0 hy1 => ?_⟩⟩
    rw [List.nil_append]
    have hx8 : 5 + x ≤ 8 := by omega
    obtain ⟨m, rfl⟩ := Int.eq_ofNat_of_zero_le hk0
    have hm : m ≤ l.length := by omega
    have e : (l.drop (m : Int).toNat).take ((l.length : Int).toNat - (m : Int).toNat) = l.drop m := by
      rw [Int.toNat_natCast, Int.toNat_natCast]; exact List.take_of_length_le (by rw [List.length_drop]; omega)
    rw [e, Int.toNat_natCast]
    have l1 : (l.take m).length = m := by rw [List.length_take]; omega
    have l2 : (l.drop m).length = l.length - m := List.length_drop
    have f1 := h3.take m
    have f2 := h3.drop m
    generalize l.take m = u at *
    generalize l.drop m = t at *
    refine ⟨by omega, by simp only [List.length_nil]; omega, spec_l12Rd_pick.law _ _ _ _ hb (by omega) (by omega) fun w hw0 hw1 => ?_⟩
    by_cases hw : w = 0
    · rw [if_pos (by simpa using hw)]
      exact ⟨by omega, by simp only [List.length_singleton]; omega, by simp only [List.length_append, List.length_singleton]; omega, fun _ => by unfold I64; omega, ⟨by omega, by omega, by simp only [List.length_append, List.length_singleton]; omega, (f1.app (Field.one hx8)).app f2, by omega, by omega⟩, by dsimp only; omega⟩
    rw [if_neg (by simpa using hw)]
    by_cases hw' : w = 1
    · rw [if_pos (by simpa using hw')]
      rw [spec_l1Min.m_is]
      have hmin : min 1 (t.length : Int) = ((min 1 t.length : Nat) : Int) := by omega
      rw [hmin]
      have e2 : (t.drop ((min 1 t.length : Nat) : Int).toNat).take ((t.length : Int).toNat - ((min 1 t.length : Nat) : Int).toNat) = t.drop (min 1 t.length) := by
        rw [Int.toNat_natCast, Int.toNat_natCast]; exact List.take_of_length_le (by rw [List.length_drop]; omega)
      rw [e2]
      have l3 : (t.drop (min 1 t.length)).length ≤ t.length := by rw [List.length_drop]; omega
      have f3 := f2.drop (min 1 t.length)
      generalize t.drop (min 1 t.length) = t' at *
      exact ⟨by omega, by omega, by omega, fun _ _ => by unfold I64; omega, ⟨by omega, by omega, by simp only [List.length_append]; omega, f1.app f3, by omega, by omega⟩, by dsimp only; omega⟩
    rw [if_neg (by simpa using hw')]
    by_cases ht : (t.length : Int) > 0
    · rw [if_pos (by simpa using ht)]
      exact ⟨by omega, by omega, by simp only [List.length_set]; omega, fun _ _ => by unfold I64; omega, ⟨by omega, by omega, by simp only [List.length_append, List.length_set]; omega, f1.app (f2.set _ hx8), by omega, by omega⟩, by dsimp only; omega⟩
    · rw [if_neg (by simpa using ht)]
      exact ⟨by omega, by omega, fun _ _ => by unfold I64; omega, ⟨by omega, by omega, by simp only [List.length_append]; omega, f1.app f2, by omega, by omega⟩, by dsimp only; omega⟩
  · rw [if_neg (by simpa using hi)]
    exact hq _ _ (by omega) h3 h4 (by omega)
end Go.Proofs.Ytndjggncgpjolaa

namespace Go.Proofs.Ytndjggncgpjolaa
open Go.RowKit
set_option linter.unusedVariables false
def spec_DrawSeqMerge.E (code : List UInt8) (Q : List Pt → List Pt → List Pt → Prop) : Prop :=
  spec_l12Open.E code (fun r_b r_p => spec_l5Seq.E r_b r_p 8 (fun r m => spec_l12Rd_pick.E r_b m 10 (fun r2 m2 => (if r2 == 0 then spec_l5Seq.E r_b m2 6 (fun r3 m3 => spec_l5Near.E r_b m3 r (fun r4 m4 => Q r r3 r4)) else (if r2 == 1 then spec_l5Seq.E r_b m2 14 (fun r5 m5 => Q r r5 r) else (if r2 == 2 then spec_l5Near.E r_b m2 r (fun r6 m6 => (([] : List Pt).length + r6.length ≤ 268435456) ∧ Q r r6 (([] : List Pt) ++ r6)) else spec_l5Near.E r_b m2 r (fun r7 m7 => spec_l5Near.E r_b m7 r (fun r8 m8 => Q r r7 r8))))))))
set_option maxHeartbeats 8000000 in
set_option maxRecDepth 100000 in
theorem spec_DrawSeqMerge.calls {O : Ob} (w0 : World) (hO : Ok w0 O) (code : List UInt8) (A1 : Option Addr) (n2 c3 : Nat) (hp4 : Sl Kd.byte w0 (Fr O) (.slice A1 n2 c3) code) (Q : List Pt → List Pt → List Pt → Prop) (h : spec_DrawSeqMerge.E code Q) :
    Ret Try.prog 9 [.slice A1 n2 c3] w0 (fun v w' => ∃ (r0 : List Pt) (r1 : List Pt) (r2 : List Pt) (A0 : Option Addr) (n0 c0 : Nat) (A2 : Option Addr) (n2 c2 : Nat) (A4 : Option Addr) (n4 c4 : Nat), v = .tuple #[.slice A0 n0 c0, .slice A2 n2 c2, .slice A4 n4 c4] ∧ Q r0 r1 r2 ∧ Gr w0 w' none ∧ Ok w' ([blk (.slice A2 n2 c2)] ++ O) ∧ (∀ b, some b ∈ [blk (.slice A2 n2 c2)] → w0.heap.size ≤ b) ∧ Sl kPt w' (Fr ([blk (.slice A2 n2 c2)] ++ O)) (.slice A0 n0 c0) r0 ∧ Ow kPt 29 w' ([blk (.slice A2 n2 c2)] ++ O) (.slice A2 n2 c2) r1 ∧ Sl kPt w' (Fr ([blk (.slice A2 n2 c2)] ++ O)) (.slice A4 n4 c4) r2) := by
  have H : spec_l12Open.E code (fun r_b r_p => spec_l5Seq.E r_b r_p 8 (fun r m => spec_l12Rd_pick.E r_b m 10 (fun r2 m2 => (if r2 == 0 then spec_l5Seq.E r_b m2 6 (fun r3 m3 => spec_l5Near.E r_b m3 r (fun r4 m4 => Q r r3 r4)) else (if r2 == 1 then spec_l5Seq.E r_b m2 14 (fun r5 m5 => Q r r5 r) else (if r2 == 2 then spec_l5Near.E r_b m2 r (fun r6 m6 => (([] : List Pt).length + r6.length ≤ 268435456) ∧ Q r r6 (([] : List Pt) ++ r6)) else spec_l5Near.E r_b m2 r (fun r7 m7 => spec_l5Near.E r_b m7 r (fun r8 m8 => Q r r7 r8)))))))) := h
  clear h
  have hc0 := Ct.init hO
  refine Ret_enter Try.func9 rfl 45 rfl [.tmp 2, .tmp 3, .tmp 4] rfl rfl ?_
  refine W_seq ?_
  refine W_reg ?_
  refine L_pu (P_assign (.slice none 0 0) rfl) ?_
  refine L_pu (P_assign (.slice none 0 0) rfl) ?_
  refine L_pu (P_assign (.slice none 0 0) rfl) ?_
  refine L_nil ?_
  refine W_seq ?_
  refine W_reg ?_
  refine L_pu (P_move (.slice A1 n2 c3) rfl) ?_
  refine L_call go43 [.slice A1 n2 c3] rfl ((spec_l12Open.calls w0 hc0.ok code A1 n2 c3 hp4 _ H).mono ?_)
  rintro _ w6 ⟨r_b, r_p, b8, A10, n11, c12, rfl, H, g7, hk16, hk17, hx9, h13⟩
  have hc18 := hc0.owns g7 hk16 hk17
  refine L_pu (P_assign (.pointer (some ⟨b8, 0, none⟩)) rfl) ?_
  refine L_nil ?_
  refine W_seq ?_
  refine W_reg ?_
  refine L_pu (P_move (.pointer (some ⟨b8, 0, none⟩)) rfl) ?_
  refine L_call go44 [.pointer (some ⟨b8, 0, none⟩), vi 8] rfl ((spec_l5Seq.calls w6 hc18.ok b8 r_b A10 n11 c12 r_p h13 hx9 (mem_app 0 rfl) 8 _ H).mono ?_)
  rintro _ w20 ⟨r, m, A22, n23, c24, rfl, H, g21, hx27, hk28, hk29, h25⟩
  have hc30 := hc18.ownw (j := 0) rfl g21 hk28 hk29
  refine L_pu (P_assign (.slice A22 n23 c24) rfl) ?_
  refine L_nil ?_
  refine W_seq ?_
  refine W_seq ?_
  refine W_reg ?_
  refine L_pu (P_move (.pointer (some ⟨b8, 0, none⟩)) rfl) ?_
  have h31 := (h13.st (.ownw (L := [some b8]) (O := O) (j := 0) rfl g21 hk29))
  refine L_call go45 [.pointer (some ⟨b8, 0, none⟩), vi 10] rfl ((spec_l12Rd_pick.calls w20 hc30.ok b8 r_b A10 n11 c12 m h31 hx27 (mem_app 1 rfl) 10 _ H).mono ?_)
  rintro _ w32 ⟨r2, m2, rfl, H, g33, hx34⟩
  have hc37 := hc30.wr 1 rfl g33
  refine L_nil ?_
  refine W_block ?_
  refine W_seq ?_
  refine W_reg ?_
  refine L_pu (P_cmp r2 0 (r2 == 0) rfl rfl rfl) ?_
  refine L_pu (P_assign (vb (r2 == 0)) rfl) ?_
  refine L_nil ?_
  refine W_cond (r2 == 0) rfl (fun hq38 => ?_) (fun hq38 => ?_)
  · have H := ite_t H hq38
    refine W_seq ?_
    refine W_reg ?_
    refine L_pu (P_move (.slice A22 n23 c24) rfl) ?_
    refine L_pu (P_move (.pointer (some ⟨b8, 0, none⟩)) rfl) ?_
    have h39 := (h31.st (.wl (L := [blk (.slice A22 n23 c24), some b8]) (O := O) (j := 1) rfl g33))
    refine L_call go44 [.pointer (some ⟨b8, 0, none⟩), vi 6] rfl ((spec_l5Seq.calls w32 hc37.ok b8 r_b A10 n11 c12 m2 h39 hx34 (mem_app 1 rfl) 6 _ H).mono ?_)
    rintro _ w40 ⟨r3, m3, A42, n43, c44, rfl, H, g41, hx47, hk48, hk49, h45⟩
    have hc50 := hc37.ownw (j := 1) rfl g41 hk48 hk49
    refine L_pu (P_move (.pointer (some ⟨b8, 0, none⟩)) rfl) ?_
    refine L_pu (P_move (.slice A22 n23 c24) rfl) ?_
    have h51 := (Ow.sow (L := [blk (.slice A22 n23 c24), some b8]) (O := O) (Ow.sw (L := [blk (.slice A22 n23 c24), some b8]) (O := O) h25 hc30 (i := 0) rfl (j := 1) rfl (by decide) g33) hc37 (i := 0) rfl (j := 1) rfl (by decide) g41 hk49)
    have h52 := Ow.gv (L := [blk (.slice A42 n43 c44), blk (.slice A22 n23 c24), some b8]) (O := O) h51 hc50 (i := 1) rfl
    have hc53 := hc50.drop 1 rfl
    have h55 := ((h39.st (.ownw (L := [blk (.slice A22 n23 c24), some b8]) (O := O) (j := 1) rfl g41 hk49)).st (.dr _ (L := [blk (.slice A42 n43 c44), blk (.slice A22 n23 c24), some b8]) (O := O) (j := 1) rfl))
    have h56 := hx47
    refine L_call go46 [.pointer (some ⟨b8, 0, none⟩), .slice A22 n23 c24] rfl ((spec_l5Near.calls w40 hc53.ok b8 r_b A10 n11 c12 m3 h55 h56 (mem_app 1 rfl) r A22 n23 c24 h52 _ H).mono ?_)
    rintro _ w57 ⟨r4, m4, A59, n60, c61, rfl, H, g58, hx64, hk65, hk66, h62⟩
    have hk68 := Ok.unl (L := [blk (.slice A42 n43 c44), blk (.slice A22 n23 c24), some b8]) (L' := [blk (.slice A42 n43 c44), some b8]) (O := O) hc50 g58 hk65 hk66
    have h69 := Ow.unl (L := [blk (.slice A42 n43 c44), blk (.slice A22 n23 c24), some b8]) (L' := [blk (.slice A42 n43 c44), some b8]) (O := O) (fun _ _ _ _ _ _ h => h) (.cons_cons _ (.cons _ (.cons_cons _ (.slnil)))) h62
    have hc67 := hc50.ownw (j := 2) rfl g58 hk68 hk66
    refine L_pu (P_assign (.slice A22 n23 c24) rfl) ?_
    refine L_pu (P_assign (.slice A42 n43 c44) rfl) ?_
    refine L_pu (P_assign (.slice A59 n60 c61) rfl) ?_
    refine L_nil ?_
    refine W_ret ?_
    have h70 := (Ow.sow (L := [blk (.slice A42 n43 c44), blk (.slice A22 n23 c24), some b8]) (O := O) (Ow.sow (L := [blk (.slice A22 n23 c24), some b8]) (O := O) (Ow.sw (L := [blk (.slice A22 n23 c24), some b8]) (O := O) h25 hc30 (i := 0) rfl (j := 1) rfl (by decide) g33) hc37 (i := 0) rfl (j := 1) rfl (by decide) g41 hk49) hc50 (i := 1) rfl (j := 2) rfl (by decide) g58 hk66)
    have h71 := Ow.gv (L := [blk (.slice A59 n60 c61), blk (.slice A42 n43 c44), blk (.slice A22 n23 c24), some b8]) (O := O) h70 hc67 (i := 2) rfl
    have hc72 := hc67.drop 2 rfl
    have h74 := (Ow.sd (L := [blk (.slice A59 n60 c61), blk (.slice A42 n43 c44), blk (.slice A22 n23 c24), some b8]) (O := O) h69 (i := 0) rfl (j := 2) rfl (by decide))
    have h75 := Ow.gv (L := [blk (.slice A59 n60 c61), blk (.slice A42 n43 c44), some b8]) (O := O) h74 hc72 (i := 0) rfl
    have hc76 := hc72.drop 0 rfl
    have hc78 := hc76.drop 1 rfl
    have h79 := ((h71.st (.dr _ (L := [blk (.slice A59 n60 c61), blk (.slice A42 n43 c44), some b8]) (O := O) (j := 0) rfl)).st (.dr _ (L := [blk (.slice A42 n43 c44), some b8]) (O := O) (j := 1) rfl))
    have h80 := (Ow.sd (L := [blk (.slice A42 n43 c44), some b8]) (O := O) (Ow.sd (L := [blk (.slice A59 n60 c61), blk (.slice A42 n43 c44), some b8]) (O := O) (Ow.sd (L := [blk (.slice A59 n60 c61), blk (.slice A42 n43 c44), blk (.slice A22 n23 c24), some b8]) (O := O) (Ow.sow (L := [blk (.slice A42 n43 c44), blk (.slice A22 n23 c24), some b8]) (O := O) h45 hc50 (i := 0) rfl (j := 2) rfl (by decide) g58 hk66) (i := 1) rfl (j := 2) rfl (by decide)) (i := 1) rfl (j := 0) rfl (by decide)) (i := 0) rfl (j := 1) rfl (by decide))
    have h81 := (h75.st (.dr _ (L := [blk (.slice A42 n43 c44), some b8]) (O := O) (j := 1) rfl))
    exact ⟨[.slice A22 n23 c24, .slice A42 n43 c44, .slice A59 n60 c61], ⟨_, rfl, ⟨_, rfl, ⟨_, rfl, rfl⟩⟩⟩, r, r3, r4, A22, n23, c24, A42, n43, c44, A59, n60, c61, rfl, H, hc78.gr.g0, hc78.ok, hc78.ge, h79, h80, h81⟩
  · have H := ite_f H hq38
    refine W_seq ?_
    refine W_reg ?_
    refine L_pu (P_cmp r2 1 (r2 == 1) rfl rfl rfl) ?_
    refine L_pu (P_assign (vb (r2 == 1)) rfl) ?_
    refine L_nil ?_
    refine W_cond (r2 == 1) rfl (fun hq82 => ?_) (fun hq82 => ?_)
    · have H := ite_t H hq82
      refine W_seq ?_
      refine W_reg ?_
      refine L_pu (P_move (.slice A22 n23 c24) rfl) ?_
      refine L_pu (P_move (.pointer (some ⟨b8, 0, none⟩)) rfl) ?_
      have h83 := (h31.st (.wl (L := [blk (.slice A22 n23 c24), some b8]) (O := O) (j := 1) rfl g33))
      refine L_call go44 [.pointer (some ⟨b8, 0, none⟩), vi 14] rfl ((spec_l5Seq.calls w32 hc37.ok b8 r_b A10 n11 c12 m2 h83 hx34 (mem_app 1 rfl) 14 _ H).mono ?_)
      rintro _ w84 ⟨r5, m5, A86, n87, c88, rfl, H, g85, hx91, hk92, hk93, h89⟩
      have hc94 := hc37.ownw (j := 1) rfl g85 hk92 hk93
      refine L_pu (P_move (.slice A22 n23 c24) rfl) ?_
      refine L_pu (P_assign (.slice A22 n23 c24) rfl) ?_
      refine L_pu (P_assign (.slice A86 n87 c88) rfl) ?_
      refine L_pu (P_assign (.slice A22 n23 c24) rfl) ?_
      refine L_nil ?_
      refine W_ret ?_
      have h95 := (Ow.sow (L := [blk (.slice A22 n23 c24), some b8]) (O := O) (Ow.sw (L := [blk (.slice A22 n23 c24), some b8]) (O := O) h25 hc30 (i := 0) rfl (j := 1) rfl (by decide) g33) hc37 (i := 0) rfl (j := 1) rfl (by decide) g85 hk93)
      have h96 := Ow.gv (L := [blk (.slice A86 n87 c88), blk (.slice A22 n23 c24), some b8]) (O := O) h95 hc94 (i := 1) rfl
      have hc97 := hc94.drop 1 rfl
      have hc99 := hc97.drop 1 rfl
      have h100 := (h96.st (.dr _ (L := [blk (.slice A86 n87 c88), some b8]) (O := O) (j := 1) rfl))
      have h101 := (Ow.sd (L := [blk (.slice A86 n87 c88), some b8]) (O := O) (Ow.sd (L := [blk (.slice A86 n87 c88), blk (.slice A22 n23 c24), some b8]) (O := O) h89 (i := 0) rfl (j := 1) rfl (by decide)) (i := 0) rfl (j := 1) rfl (by decide))
      exact ⟨[.slice A22 n23 c24, .slice A86 n87 c88, .slice A22 n23 c24], ⟨_, rfl, ⟨_, rfl, ⟨_, rfl, rfl⟩⟩⟩, r, r5, r, A22, n23, c24, A86, n87, c88, A22, n23, c24, rfl, H, hc99.gr.g0, hc99.ok, hc99.ge, h100, h101, h100⟩
    · have H := ite_f H hq82
      refine W_seq ?_
      refine W_reg ?_
      refine L_pu (P_cmp r2 2 (r2 == 2) rfl rfl rfl) ?_
      refine L_pu (P_assign (vb (r2 == 2)) rfl) ?_
      refine L_nil ?_
      refine W_cond (r2 == 2) rfl (fun hq102 => ?_) (fun hq102 => ?_)
      · have H := ite_t H hq102
        refine W_seq ?_
        refine W_reg ?_
        refine L_pu (P_move (.pointer (some ⟨b8, 0, none⟩)) rfl) ?_
        refine L_pu (P_move (.slice A22 n23 c24) rfl) ?_
        have h103 := (Ow.sw (L := [blk (.slice A22 n23 c24), some b8]) (O := O) h25 hc30 (i := 0) rfl (j := 1) rfl (by decide) g33)
        have h104 := Ow.gv (L := [blk (.slice A22 n23 c24), some b8]) (O := O) h103 hc37 (i := 0) rfl
        have hc105 := hc37.drop 0 rfl
        have h107 := ((h31.st (.wl (L := [blk (.slice A22 n23 c24), some b8]) (O := O) (j := 1) rfl g33)).st (.dr _ (L := [blk (.slice A22 n23 c24), some b8]) (O := O) (j := 0) rfl))
        have h108 := hx34
        refine L_call go46 [.pointer (some ⟨b8, 0, none⟩), .slice A22 n23 c24] rfl ((spec_l5Near.calls w32 hc105.ok b8 r_b A10 n11 c12 m2 h107 h108 (mem_app 0 rfl) r A22 n23 c24 h104 _ H).mono ?_)
        rintro _ w109 ⟨r6, m6, A111, n112, c113, rfl, H, g110, hx116, hk117, hk118, h114⟩
        have hk120 := Ok.unl (L := [blk (.slice A22 n23 c24), some b8]) (L' := [some b8]) (O := O) hc37 g110 hk117 hk118
        have h121 := Ow.unl (L := [blk (.slice A22 n23 c24), some b8]) (L' := [some b8]) (O := O) (fun _ _ _ _ _ _ h => h) (.cons _ (.cons_cons _ (.slnil))) h114
        have hc119 := hc37.ownw (j := 1) rfl g110 hk120 hk118
        refine L_pu (P_assign (.slice A111 n112 c113) rfl) ?_
        refine L_nil ?_
        refine W_seq ?_
        refine W_reg ?_
        refine L_pu (P_move (.slice A22 n23 c24) rfl) ?_
        refine L_pu (P_move (.slice A111 n112 c113) rfl) ?_
        refine L_lit (kd := kPt) ei23 hc119 ([] : List Pt) (cells := []) rfl (fun _ => by kernel_rfl) fun w122 A123 n124 c125 g126 hr127 hc128 h129 => ?_
        refine L_pu (P_move (.slice A111 n112 c113) rfl) ?_
        have h131 := (h121.so _ g126 hr127)
        obtain ⟨hb132, H⟩ := H
        refine L_app ei23 hc128 (.slice A123 n124 c125) ([] : List Pt) r6 rfl h129 (.slice A111 n112 c113) rfl h131.sx 0 rfl hb132 fun w133 A134 n135 c136 g137 s138 hc139 h140 => ?_
        refine L_pu (P_assign (.slice A22 n23 c24) rfl) ?_
        refine L_pu (P_assign (.slice A111 n112 c113) rfl) ?_
        refine L_pu (P_assign (.slice A134 n135 c136) rfl) ?_
        refine L_nil ?_
        refine W_ret ?_
        have h142 := (Ow.sm (L := [blk (.slice A123 n124 c125), blk (.slice A111 n112 c113), blk (.slice A22 n23 c24), some b8]) (O := O) ((Ow.sow (L := [blk (.slice A22 n23 c24), some b8]) (O := O) (Ow.sw (L := [blk (.slice A22 n23 c24), some b8]) (O := O) h25 hc30 (i := 0) rfl (j := 1) rfl (by decide) g33) hc37 (i := 0) rfl (j := 1) rfl (by decide) g110 hk118).so _ g126 hr127) hc128 (i := 2) rfl (j := 0) rfl (by decide) g137 s138)
        have h143 := Ow.gv (L := [blk (.slice A134 n135 c136), blk (.slice A111 n112 c113), blk (.slice A22 n23 c24), some b8]) (O := O) h142 hc139 (i := 2) rfl
        have hc144 := hc139.drop 2 rfl
        have h146 := (Ow.sd (L := [blk (.slice A134 n135 c136), blk (.slice A111 n112 c113), blk (.slice A22 n23 c24), some b8]) (O := O) h140 (i := 0) rfl (j := 2) rfl (by decide))
        have h147 := Ow.gv (L := [blk (.slice A134 n135 c136), blk (.slice A111 n112 c113), some b8]) (O := O) h146 hc144 (i := 0) rfl
        have hc148 := hc144.drop 0 rfl
        have hc150 := hc148.drop 1 rfl
        have h151 := ((h143.st (.dr _ (L := [blk (.slice A134 n135 c136), blk (.slice A111 n112 c113), some b8]) (O := O) (j := 0) rfl)).st (.dr _ (L := [blk (.slice A111 n112 c113), some b8]) (O := O) (j := 1) rfl))
        have h152 := (Ow.sd (L := [blk (.slice A111 n112 c113), some b8]) (O := O) (Ow.sd (L := [blk (.slice A134 n135 c136), blk (.slice A111 n112 c113), some b8]) (O := O) (Ow.sd (L := [blk (.slice A134 n135 c136), blk (.slice A111 n112 c113), blk (.slice A22 n23 c24), some b8]) (O := O) (Ow.sm (L := [blk (.slice A123 n124 c125), blk (.slice A111 n112 c113), blk (.slice A22 n23 c24), some b8]) (O := O) h131 hc128 (i := 1) rfl (j := 0) rfl (by decide) g137 s138) (i := 1) rfl (j := 2) rfl (by decide)) (i := 1) rfl (j := 0) rfl (by decide)) (i := 0) rfl (j := 1) rfl (by decide))
        have h153 := (h147.st (.dr _ (L := [blk (.slice A111 n112 c113), some b8]) (O := O) (j := 1) rfl))
        exact ⟨[.slice A22 n23 c24, .slice A111 n112 c113, .slice A134 n135 c136], ⟨_, rfl, ⟨_, rfl, ⟨_, rfl, rfl⟩⟩⟩, r, r6, (([] : List Pt) ++ r6), A22, n23, c24, A111, n112, c113, A134, n135, c136, rfl, H, hc150.gr.g0, hc150.ok, hc150.ge, h151, h152, h153⟩
      · have H := ite_f H hq102
        refine W_skip ?_
        refine W_seq ?_
        refine W_reg ?_
        refine L_pu (P_move (.slice A22 n23 c24) rfl) ?_
        refine L_pu (P_move (.pointer (some ⟨b8, 0, none⟩)) rfl) ?_
        refine L_pu (P_move (.slice A22 n23 c24) rfl) ?_
        have h154 := (Ow.sw (L := [blk (.slice A22 n23 c24), some b8]) (O := O) h25 hc30 (i := 0) rfl (j := 1) rfl (by decide) g33)
        have h155 := Ow.gv (L := [blk (.slice A22 n23 c24), some b8]) (O := O) h154 hc37 (i := 0) rfl
        have hc156 := hc37.drop 0 rfl
        have h158 := ((h31.st (.wl (L := [blk (.slice A22 n23 c24), some b8]) (O := O) (j := 1) rfl g33)).st (.dr _ (L := [blk (.slice A22 n23 c24), some b8]) (O := O) (j := 0) rfl))
        have h159 := hx34
        refine L_call go46 [.pointer (some ⟨b8, 0, none⟩), .slice A22 n23 c24] rfl ((spec_l5Near.calls w32 hc156.ok b8 r_b A10 n11 c12 m2 h158 h159 (mem_app 0 rfl) r A22 n23 c24 h155 _ H).mono ?_)
        rintro _ w160 ⟨r7, m7, A162, n163, c164, rfl, H, g161, hx167, hk168, hk169, h165⟩
        have hk171 := Ok.unl (L := [blk (.slice A22 n23 c24), some b8]) (L' := [some b8]) (O := O) hc37 g161 hk168 hk169
        have h172 := Ow.unl (L := [blk (.slice A22 n23 c24), some b8]) (L' := [some b8]) (O := O) (fun _ _ _ _ _ _ h => h) (.cons _ (.cons_cons _ (.slnil))) h165
        have hc170 := hc37.ownw (j := 1) rfl g161 hk171 hk169
        refine L_pu (P_move (.pointer (some ⟨b8, 0, none⟩)) rfl) ?_
        refine L_pu (P_move (.slice A22 n23 c24) rfl) ?_
        have h173 := (Ow.sow (L := [blk (.slice A22 n23 c24), some b8]) (O := O) (Ow.sw (L := [blk (.slice A22 n23 c24), some b8]) (O := O) h25 hc30 (i := 0) rfl (j := 1) rfl (by decide) g33) hc37 (i := 0) rfl (j := 1) rfl (by decide) g161 hk169)
        have h174 := Ow.gv (L := [blk (.slice A162 n163 c164), blk (.slice A22 n23 c24), some b8]) (O := O) h173 hc170 (i := 1) rfl
        have hc175 := hc170.drop 1 rfl
        have h177 := (((h31.st (.wl (L := [blk (.slice A22 n23 c24), some b8]) (O := O) (j := 1) rfl g33)).st (.ownw (L := [blk (.slice A22 n23 c24), some b8]) (O := O) (j := 1) rfl g161 hk169)).st (.dr _ (L := [blk (.slice A162 n163 c164), blk (.slice A22 n23 c24), some b8]) (O := O) (j := 1) rfl))
        have h178 := hx167
        refine L_call go46 [.pointer (some ⟨b8, 0, none⟩), .slice A22 n23 c24] rfl ((spec_l5Near.calls w160 hc175.ok b8 r_b A10 n11 c12 m7 h177 h178 (mem_app 1 rfl) r A22 n23 c24 h174 _ H).mono ?_)
        rintro _ w179 ⟨r8, m8, A181, n182, c183, rfl, H, g180, hx186, hk187, hk188, h184⟩
        have hk190 := Ok.unl (L := [blk (.slice A162 n163 c164), blk (.slice A22 n23 c24), some b8]) (L' := [blk (.slice A162 n163 c164), some b8]) (O := O) hc170 g180 hk187 hk188
        have h191 := Ow.unl (L := [blk (.slice A162 n163 c164), blk (.slice A22 n23 c24), some b8]) (L' := [blk (.slice A162 n163 c164), some b8]) (O := O) (fun _ _ _ _ _ _ h => h) (.cons_cons _ (.cons _ (.cons_cons _ (.slnil)))) h184
        have hc189 := hc170.ownw (j := 2) rfl g180 hk190 hk188
        refine L_pu (P_assign (.slice A22 n23 c24) rfl) ?_
        refine L_pu (P_assign (.slice A162 n163 c164) rfl) ?_
        refine L_pu (P_assign (.slice A181 n182 c183) rfl) ?_
        refine L_nil ?_
        refine W_ret ?_
        have h192 := (Ow.sow (L := [blk (.slice A162 n163 c164), blk (.slice A22 n23 c24), some b8]) (O := O) (Ow.sow (L := [blk (.slice A22 n23 c24), some b8]) (O := O) (Ow.sw (L := [blk (.slice A22 n23 c24), some b8]) (O := O) h25 hc30 (i := 0) rfl (j := 1) rfl (by decide) g33) hc37 (i := 0) rfl (j := 1) rfl (by decide) g161 hk169) hc170 (i := 1) rfl (j := 2) rfl (by decide) g180 hk188)
        have h193 := Ow.gv (L := [blk (.slice A181 n182 c183), blk (.slice A162 n163 c164), blk (.slice A22 n23 c24), some b8]) (O := O) h192 hc189 (i := 2) rfl
        have hc194 := hc189.drop 2 rfl
        have h196 := (Ow.sd (L := [blk (.slice A181 n182 c183), blk (.slice A162 n163 c164), blk (.slice A22 n23 c24), some b8]) (O := O) h191 (i := 0) rfl (j := 2) rfl (by decide))
        have h197 := Ow.gv (L := [blk (.slice A181 n182 c183), blk (.slice A162 n163 c164), some b8]) (O := O) h196 hc194 (i := 0) rfl
        have hc198 := hc194.drop 0 rfl
        have hc200 := hc198.drop 1 rfl
        have h201 := ((h193.st (.dr _ (L := [blk (.slice A181 n182 c183), blk (.slice A162 n163 c164), some b8]) (O := O) (j := 0) rfl)).st (.dr _ (L := [blk (.slice A162 n163 c164), some b8]) (O := O) (j := 1) rfl))
        have h202 := (Ow.sd (L := [blk (.slice A162 n163 c164), some b8]) (O := O) (Ow.sd (L := [blk (.slice A181 n182 c183), blk (.slice A162 n163 c164), some b8]) (O := O) (Ow.sd (L := [blk (.slice A181 n182 c183), blk (.slice A162 n163 c164), blk (.slice A22 n23 c24), some b8]) (O := O) (Ow.sow (L := [blk (.slice A162 n163 c164), blk (.slice A22 n23 c24), some b8]) (O := O) h172 hc170 (i := 0) rfl (j := 2) rfl (by decide) g180 hk188) (i := 1) rfl (j := 2) rfl (by decide)) (i := 1) rfl (j := 0) rfl (by decide)) (i := 0) rfl (j := 1) rfl (by decide))
        have h203 := (h197.st (.dr _ (L := [blk (.slice A162 n163 c164), some b8]) (O := O) (j := 1) rfl))
        exact ⟨[.slice A22 n23 c24, .slice A162 n163 c164, .slice A181 n182 c183], ⟨_, rfl, ⟨_, rfl, ⟨_, rfl, rfl⟩⟩⟩, r, r7, r8, A22, n23, c24, A162, n163, c164, A181, n182, c183, rfl, H, hc200.gr.g0, hc200.ok, hc200.ge, h201, h202, h203⟩
end Go.Proofs.Ytndjggncgpjolaa

namespace Go.Proofs.Ytndjggncgpjolaa
set_option linter.unusedVariables false
set_option linter.unusedSimpArgs false
set_option linter.unusedSectionVars false
theorem spec_DrawSeqMerge.law (code : List UInt8) (Q : List Pt → List Pt → List Pt → Prop) (hq : ∀ o a b, o.length ≤ 14 → a.length ≤ 14 → b.length ≤ 14 → Field o → Field a → Field b → Q o a b) : spec_DrawSeqMerge.E code Q := by
  unfold spec_DrawSeqMerge.E
  refine spec_l12Open.law _ _ fun b hb => spec_l5Seq.law b 0 8 _ hb (by omega) (by omega) (by omega) fun l p hl hf hp0 hp1 => spec_l12Rd_pick.law _ _ _ _ hb hp0 (by omega) fun v hv0 hv1 => ?_
  by_cases h0 : v = 0
  · rw [if_pos (by simpa using h0)]
    exact spec_l5Seq.law b _ 6 _ hb (by omega) (by omega) (by omega) fun l' p' hl' hf' _ _ => spec_l5Near.law b _ l _ hb (by omega) (by omega) (by omega) hf fun l2 p2 hl2 hf2 _ _ => hq _ _ _ (by omega) (by omega) (by omega) hf hf' hf2
  rw [if_neg (by simpa using h0)]
  by_cases h1 : v = 1
  · rw [if_pos (by simpa using h1)]
    exact spec_l5Seq.law b _ 14 _ hb (by omega) (by omega) (by omega) fun l' p' hl' hf' _ _ => hq _ _ _ (by omega) (by omega) (by omega) hf hf' hf
  rw [if_neg (by simpa using h1)]
  by_cases h2 : v = 2
  · rw [if_pos (by simpa using h2)]
    exact spec_l5Near.law b _ l _ hb (by omega) (by omega) (by omega) hf fun l2 p2 hl2 hf2 _ _ => ⟨by simp only [List.length_nil]; omega, by rw [List.nil_append]; exact hq _ _ _ (by omega) (by omega) (by omega) hf hf2 hf2⟩
  rw [if_neg (by simpa using h2)]
  exact spec_l5Near.law b _ l _ hb (by omega) (by omega) (by omega) hf fun l2 p2 hl2 hf2 _ _ => spec_l5Near.law b _ l _ hb (by omega) (by omega) (by omega) hf fun l3 p3 hl3 hf3 _ _ => hq _ _ _ (by omega) (by omega) (by omega) hf hf2 hf3
end Go.Proofs.Ytndjggncgpjolaa

namespace Go.Proofs.Ytndjggncgpjolaa
open Go.RowKit
set_option linter.unusedVariables false
def impl_lengths.E (a : List Pt) (b : List Pt) (Q : List (List Int) → Prop) : Prop :=
  ((a.length : Int) ≤ 9223372036854775807 → I64 ((a.length : Int) + 1)) ∧ ((0 : Int) ≤ (a.length : Int) + 1 ∧ (a.length : Int) + 1 ≤ (268435456 : Int)) ∧ (∃ (I59 : (List (List Int)) → Int → Prop) (mu60 : (List (List Int)) → Int → Nat), I59 (List.replicate ((a.length : Int) + 1).toNat ([] : List Int)) 0 ∧ ∀ (xs2 : List (List Int)) (v2 : Int), I59 xs2 v2 → (if decide (v2 < ((List.replicate ((a.length : Int) + 1).toNat ([] : List Int)).length : Int)) then ((b.length : Int) ≤ 9223372036854775807 → I64 ((b.length : Int) + 1)) ∧ ((0 : Int) ≤ (b.length : Int) + 1 ∧ (b.length : Int) + 1 ≤ (268435456 : Int)) ∧ ((0 : Int) ≤ v2 ∧ v2 < (xs2.length : Int)) ∧ ((b.length : Int) ≤ 9223372036854775807 → I64 (v2 + 1)) ∧ I59 (xs2.set v2.toNat (List.replicate ((b.length : Int) + 1).toNat (0 : Int))) (v2 + 1) ∧ mu60 (xs2.set v2.toNat (List.replicate ((b.length : Int) + 1).toNat (0 : Int))) (v2 + 1) < mu60 xs2 v2 else ((a.length : Int) ≤ 9223372036854775807 → I64 ((a.length : Int) - 1)) ∧ (∃ (I146 : (List (List Int)) → Int → Prop) (mu147 : (List (List Int)) → Int → Nat), I146 xs2 ((a.length : Int) - 1) ∧ ∀ (xs4 : List (List Int)) (i2 : Int), I146 xs4 i2 → (if decide (i2 ≥ 0) then ((b.length : Int) ≤ 9223372036854775807 → I64 ((b.length : Int) - 1)) ∧ (∃ (I188 : (List (List Int)) → Int → Prop) (mu189 : (List (List Int)) → Int → Nat), I188 xs4 ((b.length : Int) - 1) ∧ ∀ (xs6 : List (List Int)) (j2 : Int), I188 xs6 j2 → (if decide (j2 ≥ 0) then ((0 : Int) ≤ i2 ∧ i2 < (a.length : Int)) ∧ ((0 : Int) ≤ j2 ∧ j2 < (b.length : Int)) ∧ (if eqPt (nth a i2) (nth b j2) then ((0 : Int) ≤ i2 ∧ i2 < (xs6.length : Int)) ∧ (I64 (i2 + 1)) ∧ ((0 : Int) ≤ i2 + 1 ∧ i2 + 1 < (xs6.length : Int)) ∧ (I64 (j2 + 1)) ∧ ((0 : Int) ≤ j2 + 1 ∧ j2 + 1 < ((nth xs6 (i2 + 1)).length : Int)) ∧ (I64 ((nth (nth xs6 (i2 + 1)) (j2 + 1)) + 1)) ∧ ((0 : Int) ≤ j2 ∧ j2 < ((nth xs6 i2).length : Int)) ∧ (I64 (j2 - 1)) ∧ I188 (xs6.set i2.toNat ((nth xs6 i2).set j2.toNat ((nth (nth xs6 (i2 + 1)) (j2 + 1)) + 1))) (j2 - 1) ∧ mu189 (xs6.set i2.toNat ((nth xs6 i2).set j2.toNat ((nth (nth xs6 (i2 + 1)) (j2 + 1)) + 1))) (j2 - 1) < mu189 xs6 j2 else ((0 : Int) ≤ i2 ∧ i2 < (xs6.length : Int)) ∧ (I64 (i2 + 1)) ∧ ((0 : Int) ≤ i2 + 1 ∧ i2 + 1 < (xs6.length : Int)) ∧ ((0 : Int) ≤ j2 ∧ j2 < ((nth xs6 (i2 + 1)).length : Int)) ∧ ((0 : Int) ≤ i2 ∧ i2 < (xs6.length : Int)) ∧ (I64 (j2 + 1)) ∧ ((0 : Int) ≤ j2 + 1 ∧ j2 + 1 < ((nth xs6 i2).length : Int)) ∧ ((0 : Int) ≤ j2 ∧ j2 < ((nth xs6 i2).length : Int)) ∧ (I64 (j2 - 1)) ∧ I188 (xs6.set i2.toNat ((nth xs6 i2).set j2.toNat (max (nth (nth xs6 (i2 + 1)) j2) (nth (nth xs6 i2) (j2 + 1))))) (j2 - 1) ∧ mu189 (xs6.set i2.toNat ((nth xs6 i2).set j2.toNat (max (nth (nth xs6 (i2 + 1)) j2) (nth (nth xs6 i2) (j2 + 1))))) (j2 - 1) < mu189 xs6 j2) else (I64 (i2 - 1)) ∧ I146 xs6 (i2 - 1) ∧ mu147 xs6 (i2 - 1) < mu147 xs4 i2)) else Q xs4))))
set_option maxHeartbeats 8000000 in
set_option maxRecDepth 100000 in
theorem impl_lengths.calls {O : Ob} (w0 : World) (hO : Ok w0 O) (a : List Pt) (A1 : Option Addr) (n2 c3 : Nat) (hp4 : Sl kPt w0 (Fr O) (.slice A1 n2 c3) a) (b : List Pt) (A6 : Option Addr) (n7 c8 : Nat) (hp9 : Sl kPt w0 (Fr O) (.slice A6 n7 c8) b) (Q : List (List Int) → Prop) (h : impl_lengths.E a b Q) :
    Ret Try.prog 108 [.slice A1 n2 c3, .slice A6 n7 c8] w0 (fun v w' => ∃ (r0 : List (List Int)) (A0 : Option Addr) (n0 c0 : Nat), v = .slice A0 n0 c0 ∧ Q r0 ∧ Gr w0 w' none ∧ Sl (Kd.sl (Kd.int .i64)) w' (Fr O) (.slice A0 n0 c0) r0) := by
  have H : ((a.length : Int) ≤ 9223372036854775807 → I64 ((a.length : Int) + 1)) ∧ ((0 : Int) ≤ (a.length : Int) + 1 ∧ (a.length : Int) + 1 ≤ (268435456 : Int)) ∧ (∃ (I59 : (List (List Int)) → Int → Prop) (mu60 : (List (List Int)) → Int → Nat), I59 (List.replicate ((a.length : Int) + 1).toNat ([] : List Int)) 0 ∧ ∀ (xs2 : List (List Int)) (v2 : Int), I59 xs2 v2 → (if decide (v2 < ((List.replicate ((a.length : Int) + 1).toNat ([] : List Int)).length : Int)) then ((b.length : Int) ≤ 9223372036854775807 → I64 ((b.length : Int) + 1)) ∧ ((0 : Int) ≤ (b.length : Int) + 1 ∧ (b.length : Int) + 1 ≤ (268435456 : Int)) ∧ ((0 : Int) ≤ v2 ∧ v2 < (xs2.length : Int)) ∧ ((b.length : Int) ≤ 9223372036854775807 → I64 (v2 + 1)) ∧ I59 (xs2.set v2.toNat (List.replicate ((b.length : Int) + 1).toNat (0 : Int))) (v2 + 1) ∧ mu60 (xs2.set v2.toNat (List.replicate ((b.length : Int) + 1).toNat (0 : Int))) (v2 + 1) < mu60 xs2 v2 else ((a.length : Int) ≤ 9223372036854775807 → I64 ((a.length : Int) - 1)) ∧ (∃ (I146 : (List (List Int)) → Int → Prop) (mu147 : (List (List Int)) → Int → Nat), I146 xs2 ((a.length : Int) - 1) ∧ ∀ (xs4 : List (List Int)) (i2 : Int), I146 xs4 i2 → (if decide (i2 ≥ 0) then ((b.length : Int) ≤ 9223372036854775807 → I64 ((b.length : Int) - 1)) ∧ (∃ (I188 : (List (List Int)) → Int → Prop) (mu189 : (List (List Int)) → Int → Nat), I188 xs4 ((b.length : Int) - 1) ∧ ∀ (xs6 : List (List Int)) (j2 : Int), I188 xs6 j2 → (if decide (j2 ≥ 0) then ((0 : Int) ≤ i2 ∧ i2 < (a.length : Int)) ∧ ((0 : Int) ≤ j2 ∧ j2 < (b.length : Int)) ∧ (if eqPt (nth a i2) (nth b j2) then ((0 : Int) ≤ i2 ∧ i2 < (xs6.length : Int)) ∧ (I64 (i2 + 1)) ∧ ((0 : Int) ≤ i2 + 1 ∧ i2 + 1 < (xs6.length : Int)) ∧ (I64 (j2 + 1)) ∧ ((0 : Int) ≤ j2 + 1 ∧ j2 + 1 < ((nth xs6 (i2 + 1)).length : Int)) ∧ (I64 ((nth (nth xs6 (i2 + 1)) (j2 + 1)) + 1)) ∧ ((0 : Int) ≤ j2 ∧ j2 < ((nth xs6 i2).length : Int)) ∧ (I64 (j2 - 1)) ∧ I188 (xs6.set i2.toNat ((nth xs6 i2).set j2.toNat ((nth (nth xs6 (i2 + 1)) (j2 + 1)) + 1))) (j2 - 1) ∧ mu189 (xs6.set i2.toNat ((nth xs6 i2).set j2.toNat ((nth (nth xs6 (i2 + 1)) (j2 + 1)) + 1))) (j2 - 1) < mu189 xs6 j2 else ((0 : Int) ≤ i2 ∧ i2 < (xs6.length : Int)) ∧ (I64 (i2 + 1)) ∧ ((0 : Int) ≤ i2 + 1 ∧ i2 + 1 < (xs6.length : Int)) ∧ ((0 : Int) ≤ j2 ∧ j2 < ((nth xs6 (i2 + 1)).length : Int)) ∧ ((0 : Int) ≤ i2 ∧ i2 < (xs6.length : Int)) ∧ (I64 (j2 + 1)) ∧ ((0 : Int) ≤ j2 + 1 ∧ j2 + 1 < ((nth xs6 i2).length : Int)) ∧ ((0 : Int) ≤ j2 ∧ j2 < ((nth xs6 i2).length : Int)) ∧ (I64 (j2 - 1)) ∧ I188 (xs6.set i2.toNat ((nth xs6 i2).set j2.toNat (max (nth (nth xs6 (i2 + 1)) j2) (nth (nth xs6 i2) (j2 + 1))))) (j2 - 1) ∧ mu189 (xs6.set i2.toNat ((nth xs6 i2).set j2.toNat (max (nth (nth xs6 (i2 + 1)) j2) (nth (nth xs6 i2) (j2 + 1))))) (j2 - 1) < mu189 xs6 j2) else (I64 (i2 - 1)) ∧ I146 xs6 (i2 - 1) ∧ mu147 xs6 (i2 - 1) < mu147 xs4 i2)) else Q xs4)))) := h
  clear h
  have hc0 := Ct.init hO
  refine Ret_enter Try.func108 rfl 89 rfl [.tmp 4] rfl rfl ?_
  refine W_seq ?_
  refine W_reg ?_
  refine L_pu (P_assign (.slice none 0 0) rfl) ?_
  refine L_nil ?_
  refine W_seq ?_
  refine W_reg ?_
  refine L_pu (P_move (.slice A1 n2 c3) rfl) ?_
  have hl11 := hp4.le
  refine L_pu (P_len Try.underlying23 A1 n2 c3 hp4.len rfl) ?_
  obtain ⟨hb12, H⟩ := H
  have hi13 := hb12 (len_le hl11)
  refine L_pu (P_add (a.length : Int) 1 rfl rfl hi13) ?_
  obtain ⟨hb14, H⟩ := H
  refine L_make (kd := Kd.raw) ei145 hc0 (.slice none 0 0 : Value) ⟨rfl, rfl⟩ ((a.length : Int) + 1) rfl rfl hb14 fun w15 A16 n17 c18 g19 hr20 hc21 h22 => ?_
  have h25 : Tb (Kd.int .i64) 89 3 w15 _ _ _ (List.replicate ((a.length : Int) + 1).toNat []) := h22.nones
  have hc24 := hc21.nones ((a.length : Int) + 1).toNat
  refine L_pu (P_assign (.slice A16 n17 c18) rfl) ?_
  refine L_nil ?_
  refine W_seq ?_
  refine W_seq ?_
  refine W_reg ?_
  refine L_pu (P_move (.slice A16 n17 c18) rfl) ?_
  have hl26 := h25.le
  refine L_pu (P_len Try.underlying145 A16 n17 c18 h25.len rfl) ?_
  refine L_pu (P_move (vi 0) rfl) ?_
  refine L_nil ?_
  refine W_block ?_
  obtain ⟨I59, mu60, hI61, H⟩ := H
  refine W_loop (α := (List (List Int)) × (List Value) × Int) (fun (sv__ : (List (List Int)) × (List Value) × Int) t w47 => match sv__ with | (xs2, vs54, v2) => I59 xs2 v2 ∧ Has t [(0, .slice A1 n2 c3), (1, .slice A6 n7 c8), (5, .slice A16 n17 c18), (14, vi ((List.replicate ((a.length : Int) + 1).toNat ([] : List Int)).length : Int)), (15, vi v2)] ∧ Ct [] w0 w47 (blk (.slice A16 n17 c18) :: (vs54).map blk) O ∧ Sl kPt w47 (Fr ((blk (.slice A16 n17 c18) :: (vs54).map blk) ++ O)) (.slice A1 n2 c3) a ∧ Sl kPt w47 (Fr ((blk (.slice A16 n17 c18) :: (vs54).map blk) ++ O)) (.slice A6 n7 c8) b ∧ Tb (Kd.int .i64) 89 3 w47 ((blk (.slice A16 n17 c18) :: (vs54).map blk) ++ O) (.slice A16 n17 c18) vs54 xs2) (fun (sv__ : (List (List Int)) × (List Value) × Int) => match sv__ with | (xs2, _, v2) => mu60 xs2 v2) ((List.replicate ((a.length : Int) + 1).toNat ([] : List Int)), (List.replicate ((a.length : Int) + 1).toNat (Value.slice none 0 0)), 0) ⟨hI61, ⟨rfl, rfl, rfl, rfl, rfl, trivial⟩, hc24, (hp4.st hc24.st), (hp9.st hc24.st), h25⟩ ?_
  rintro ⟨xs2, vs54, v2⟩ _ w47 ⟨hI61, hh63, hc55, h56, h57, h58⟩
  obtain ⟨u64, rfl⟩ := Has.ins hh63
  have H := H xs2 v2 hI61
  refine W_seq ?_
  refine W_reg ?_
  refine L_pu (P_cmp v2 ((List.replicate ((a.length : Int) + 1).toNat ([] : List Int)).length : Int) (decide (v2 < ((List.replicate ((a.length : Int) + 1).toNat ([] : List Int)).length : Int))) rfl rfl rfl) ?_
  refine L_nil ?_
  refine W_seq ?_
  refine W_cond (decide (v2 < ((List.replicate ((a.length : Int) + 1).toNat ([] : List Int)).length : Int))) rfl (fun hq65 => ?_) (fun hq65 => ?_)
  · have H := ite_t H hq65
    refine W_skip ?_
    refine W_seq ?_
    refine W_block ?_
    refine W_seq ?_
    refine W_reg ?_
    refine L_pu (P_move (vi v2) rfl) ?_
    refine L_pu (P_assign (vi v2) rfl) ?_
    refine L_nil ?_
    refine W_reg ?_
    refine L_pu (P_move (.slice A16 n17 c18) rfl) ?_
    refine L_pu (P_move (vi v2) rfl) ?_
    refine L_pu (P_move (.slice A6 n7 c8) rfl) ?_
    have hl66 := h57.le
    refine L_pu (P_len Try.underlying23 A6 n7 c8 h57.len rfl) ?_
    obtain ⟨hb67, H⟩ := H
    have hi68 := hb67 (len_le hl66)
    refine L_pu (P_add (b.length : Int) 1 rfl rfl hi68) ?_
    obtain ⟨hb69, H⟩ := H
    refine L_make (kd := (Kd.int .i64)) ei89 hc55 (0 : Int) (rfl) ((b.length : Int) + 1) rfl rfl hb69 fun w70 A71 n72 c73 g74 hr75 hc76 h77 => ?_
    obtain ⟨hb79, H⟩ := H
    have h91 := (h58.own _ g74 hr75)
    obtain ⟨ad80, A86, n87, c88, hA82, hv89, hcl84, h90⟩ := h91.get v2 hb79
    refine L_pu (P_ia Try.underlying145 se145 A16 ad80 n17 c18 h91.len v2 rfl hA82 rfl hb79) ?_
    have hl95 : (0 : Int) ≤ v2 ∧ v2 < ((vs54).length : Int) := by rw [h91.2.1]; exact hb79
    obtain ⟨ad98, cs99, hA100, hR101, hcl97⟩ := h91.1.get (default : Value) (by decide) v2 hl95
    obtain rfl := Option.some.inj (hA82.symm.trans hA100)
    refine L_ste0 A16 n17 c18 vs54 h91.1 v2 hl95 ad80 hA82 0 rfl [.slice A71 n72 c73] rfl sz89 rfl (.slice A71 n72 c73) _ [.slice A71 n72 c73] hcl97 (by rw [hR101.1]; rfl) (by rw [hR101.1]; rfl) ⟨rfl, rfl⟩ fun w92 g93 h94 => ?_
    have h102 := Tb.sto (O := O) h91 hc76 h77 v2 hb79 g93 h94
    have hc103 := Ct.sto hc76 v2 hl95 g93
    have s104 := St.sto (u := (.slice A71 n72 c73)) (vs := vs54) (O := O) v2 g93
    refine L_nil ?_
    refine W_reg ?_
    obtain ⟨hb105, H⟩ := H
    have hi106 := hb105 (len_le hl66)
    refine L_pu (P_add v2 1 rfl rfl hi106) ?_
    refine L_pu (P_move (vi (v2 + 1)) rfl) ?_
    refine L_nil ?_
    obtain ⟨hI107, hm108⟩ := H
    have h109 := ((h56.st (.own _ _ g74 hr75)).st s104)
    have h110 := ((h57.st (.own _ _ g74 hr75)).st s104)
    exact ⟨((xs2.set v2.toNat (List.replicate ((b.length : Int) + 1).toNat (0 : Int))), (vs54.set v2.toNat (.slice A71 n72 c73)), v2 + 1), hm108, hI107, ⟨rfl, rfl, rfl, rfl, rfl, trivial⟩, hc103, h109, h110, h102⟩
  · have H := ite_f H hq65
    refine W_exit (xin_hit ?_)
    refine W_seq ?_
    refine W_seq ?_
    refine W_reg ?_
    refine L_pu (P_move (.slice A1 n2 c3) rfl) ?_
    have hl111 := h56.le
    refine L_pu (P_len Try.underlying23 A1 n2 c3 h56.len rfl) ?_
    obtain ⟨hb112, H⟩ := H
    have hi113 := hb112 (len_le hl111)
    refine L_pu (P_sub (a.length : Int) 1 rfl rfl hi113) ?_
    refine L_pu (P_assign (vi ((a.length : Int) - 1)) rfl) ?_
    refine L_nil ?_
    refine W_block ?_
    obtain ⟨I146, mu147, hI148, H⟩ := H
    refine W_loop (α := (List (List Int)) × (List Value) × (Option Addr) × Nat × Nat × Int) (fun (sv__ : (List (List Int)) × (List Value) × (Option Addr) × Nat × Nat × Int) t w134 => match sv__ with | (xs4, vs141, A137, n138, c139, i2) => I146 xs4 i2 ∧ Has t [(0, .slice A1 n2 c3), (1, .slice A6 n7 c8), (5, .slice A137 n138 c139), (7, vi i2)] ∧ Ct [] w0 w134 (blk (.slice A137 n138 c139) :: (vs141).map blk) O ∧ Sl kPt w134 (Fr ((blk (.slice A137 n138 c139) :: (vs141).map blk) ++ O)) (.slice A1 n2 c3) a ∧ Sl kPt w134 (Fr ((blk (.slice A137 n138 c139) :: (vs141).map blk) ++ O)) (.slice A6 n7 c8) b ∧ Tb (Kd.int .i64) 89 3 w134 ((blk (.slice A137 n138 c139) :: (vs141).map blk) ++ O) (.slice A137 n138 c139) vs141 xs4) (fun (sv__ : (List (List Int)) × (List Value) × (Option Addr) × Nat × Nat × Int) => match sv__ with | (xs4, _, _, _, _, i2) => mu147 xs4 i2) (xs2, vs54, A16, n17, c18, (a.length : Int) - 1) ⟨hI148, ⟨rfl, rfl, rfl, rfl, trivial⟩, hc55, h56, h57, h58⟩ ?_
    rintro ⟨xs4, vs141, A137, n138, c139, i2⟩ _ w134 ⟨hI148, hh150, hc142, h143, h144, h145⟩
    obtain ⟨u151, rfl⟩ := Has.ins hh150
    have H := H xs4 i2 hI148
    refine W_seq ?_
    refine W_seq ?_
    refine W_reg ?_
    refine L_pu (P_move (vi i2) rfl) ?_
    refine L_pu (P_cmp i2 0 (decide (i2 ≥ 0)) rfl rfl rfl) ?_
    refine L_nil ?_
    refine W_cond (decide (i2 ≥ 0)) rfl (fun hq152 => ?_) (fun hq152 => ?_)
    · have H := ite_t H hq152
      refine W_skip ?_
      refine W_seq ?_
      refine W_block ?_
      refine W_seq ?_
      refine W_reg ?_
      refine L_pu (P_move (.slice A6 n7 c8) rfl) ?_
      have hl153 := h144.le
      refine L_pu (P_len Try.underlying23 A6 n7 c8 h144.len rfl) ?_
      obtain ⟨hb154, H⟩ := H
      have hi155 := hb154 (len_le hl153)
      refine L_pu (P_sub (b.length : Int) 1 rfl rfl hi155) ?_
      refine L_pu (P_assign (vi ((b.length : Int) - 1)) rfl) ?_
      refine L_nil ?_
      refine W_block ?_
      obtain ⟨I188, mu189, hI190, H⟩ := H
      refine W_loop (α := (List (List Int)) × (List Value) × Int) (fun (sv__ : (List (List Int)) × (List Value) × Int) t w176 => match sv__ with | (xs6, vs183, j2) => I188 xs6 j2 ∧ Has t [(0, .slice A1 n2 c3), (1, .slice A6 n7 c8), (5, .slice A137 n138 c139), (7, vi i2), (8, vi j2)] ∧ Ct [] w0 w176 (blk (.slice A137 n138 c139) :: (vs183).map blk) O ∧ Sl kPt w176 (Fr ((blk (.slice A137 n138 c139) :: (vs183).map blk) ++ O)) (.slice A1 n2 c3) a ∧ Sl kPt w176 (Fr ((blk (.slice A137 n138 c139) :: (vs183).map blk) ++ O)) (.slice A6 n7 c8) b ∧ Tb (Kd.int .i64) 89 3 w176 ((blk (.slice A137 n138 c139) :: (vs183).map blk) ++ O) (.slice A137 n138 c139) vs183 xs6) (fun (sv__ : (List (List Int)) × (List Value) × Int) => match sv__ with | (xs6, _, j2) => mu189 xs6 j2) (xs4, vs141, (b.length : Int) - 1) ⟨hI190, ⟨rfl, rfl, rfl, rfl, rfl, trivial⟩, hc142, h143, h144, h145⟩ ?_
      rintro ⟨xs6, vs183, j2⟩ _ w176 ⟨hI190, hh192, hc184, h185, h186, h187⟩
      obtain ⟨u193, rfl⟩ := Has.ins hh192
      have H := H xs6 j2 hI190
      refine W_seq ?_
      refine W_seq ?_
      refine W_reg ?_
      refine L_pu (P_move (vi j2) rfl) ?_
      refine L_pu (P_cmp j2 0 (decide (j2 ≥ 0)) rfl rfl rfl) ?_
      refine L_nil ?_
      refine W_cond (decide (j2 ≥ 0)) rfl (fun hq194 => ?_) (fun hq194 => ?_)
      · have H := ite_t H hq194
        refine W_skip ?_
        refine W_seq ?_
        refine W_block ?_
        refine W_seq ?_
        refine W_draw (fun x => Gr w176 x none) (by kernel_rfl) (by kernel_rfl) (Gr.drew _) ?_
        refine Q_pu (P_move (.slice A1 n2 c3) rfl) ?_
        refine Q_pu (P_move (vi i2) rfl) ?_
        obtain ⟨hb195, H⟩ := H
        obtain ⟨ad196, cs197, hA198, hS201, hR199, hcl200⟩ := h185.get default (by decide) i2 hb195
        obtain rfl := kPt.op hR199
        refine Q_pu (P_ia Try.underlying23 se23 A1 ad196 n2 c3 h185.len i2 rfl hA198 rfl hb195) ?_
        refine Q_pu (P_lda ag29 sz29 cQ (ad196.add (i2.toNat * 2)) [vi ((nth a i2).X), vi ((nth a i2).Y)] rfl rfl hcl200) ?_
        refine Q_pu (P_move (.slice A6 n7 c8) rfl) ?_
        refine Q_pu (P_move (vi j2) rfl) ?_
        obtain ⟨hb202, H⟩ := H
        obtain ⟨ad203, cs204, hA205, hS208, hR206, hcl207⟩ := h186.get default (by decide) j2 hb202
        obtain rfl := kPt.op hR206
        refine Q_pu (P_ia Try.underlying23 se23 A6 ad203 n7 c8 h186.len j2 rfl hA205 rfl hb202) ?_
        refine Q_pu (P_lda ag29 sz29 cQ (ad203.add (j2.toNat * 2)) [vi ((nth b j2).X), vi ((nth b j2).Y)] rfl rfl hcl207) ?_
        refine Q_pu (P_eq _ _ (eqPt (nth a i2) (nth b j2)) (qt29 (nth a i2) (nth b j2)) rfl rfl) ?_
        refine Q_nil fun w209 g210 => ?_
        have hc212 := hc184.k0 g210
        refine W_cond (eqPt (nth a i2) (nth b j2)) rfl (fun hq213 => ?_) (fun hq213 => ?_)
        · have H := ite_t H hq213
          refine W_tail 16 (by kernel_rfl) (by kernel_rfl) fun w214 g215 => ?_
          have hc216 := hc212.k0 g215
          refine S_pu (P_move (.slice A137 n138 c139) rfl) ?_
          refine S_pu (P_move (vi i2) rfl) ?_
          obtain ⟨hb217, H⟩ := H
          have h229 := ((h187.k0 g210).k0 g215)
          obtain ⟨ad218, A224, n225, c226, hA220, hv227, hcl222, h228⟩ := h229.get i2 hb217
          refine S_pu (P_ia Try.underlying145 se145 A137 ad218 n138 c139 h229.len i2 rfl hA220 rfl hb217) ?_
          refine S_pu (P_ld ag89 cL (ad218.add (i2.toNat * 1)) (.slice A224 n225 c226) rfl (hcl222 0 _ rfl)) ?_
          refine S_pu (P_move (vi j2) rfl) ?_
          refine S_pu (P_move (.slice A137 n138 c139) rfl) ?_
          refine S_pu (P_move (vi i2) rfl) ?_
          obtain ⟨hb230, H⟩ := H
          refine S_pu (P_add i2 1 rfl rfl hb230) ?_
          obtain ⟨hb231, H⟩ := H
          obtain ⟨ad232, A238, n239, c240, hA234, hv241, hcl236, h242⟩ := h229.get (i2 + 1) hb231
          refine S_pu (P_ia Try.underlying145 se145 A137 ad232 n138 c139 h229.len (i2 + 1) rfl hA234 rfl hb231) ?_
          refine S_pu (P_ld ag89 cL (ad232.add ((i2 + 1).toNat * 1)) (.slice A238 n239 c240) rfl (hcl236 0 _ rfl)) ?_
          refine S_pu (P_move (vi j2) rfl) ?_
          obtain ⟨hb243, H⟩ := H
          refine S_pu (P_add j2 1 rfl rfl hb243) ?_
          obtain ⟨hb244, H⟩ := H
          obtain ⟨ad245, cs246, hA247, hR248, hcl249⟩ := h242.get default (by decide) (j2 + 1) hb244
          obtain rfl := Kd.int.op hR248
          refine S_pu (P_ia Try.underlying89 se89 A238 ad245 n239 c240 h242.len (j2 + 1) rfl hA247 rfl hb244) ?_
          refine S_pu (P_ld ag3 cL (ad245.add ((j2 + 1).toNat * 1)) (vi (nth (nth xs6 (i2 + 1)) (j2 + 1))) rfl (hcl249 0 _ rfl)) ?_
          obtain ⟨hb251, H⟩ := H
          refine S_pu (P_add (nth (nth xs6 (i2 + 1)) (j2 + 1)) 1 rfl rfl hb251) ?_
          obtain ⟨hb252, H⟩ := H
          obtain ⟨ad253, cs254, hA255, hR256, hcl257⟩ := h228.get default (by decide) j2 hb252
          obtain rfl := Kd.int.op hR256
          refine S_pu (P_ia Try.underlying89 se89 A224 ad253 n225 c226 h228.len j2 rfl hA255 rfl hb252) ?_
          refine S_nil ?_
          refine L_ste0 A224 n225 c226 (nth xs6 i2) h228 j2 hb252 ad253 hA255 0 rfl [vi ((nth (nth xs6 (i2 + 1)) (j2 + 1)) + 1)] rfl sz3 rfl ((nth (nth xs6 (i2 + 1)) (j2 + 1)) + 1) [vi (nth (nth xs6 i2) j2)] [vi ((nth (nth xs6 (i2 + 1)) (j2 + 1)) + 1)] hcl257 rfl rfl rfl fun w259 g260 h261 => ?_
          have h262 := Tb.ste (O := O) h229 hc216 hv227 g260 h261
          have hc263 := Ct.tb hc216 hv227 g260
          have s264 := St.tb (v := .slice A137 n138 c139) (O := O) ⟨_, hv227⟩ g260
          refine L_nil ?_
          refine W_reg ?_
          refine L_pu (P_move (vi j2) rfl) ?_
          obtain ⟨hb265, H⟩ := H
          refine L_pu (P_sub j2 1 rfl rfl hb265) ?_
          refine L_pu (P_assign (vi (j2 - 1)) rfl) ?_
          refine L_nil ?_
          obtain ⟨hI266, hm267⟩ := H
          have h268 := (((h185.st (.new _ g210)).st (.new _ g215)).st s264)
          have h269 := (((h186.st (.new _ g210)).st (.new _ g215)).st s264)
          exact ⟨((xs6.set i2.toNat ((nth xs6 i2).set j2.toNat ((nth (nth xs6 (i2 + 1)) (j2 + 1)) + 1))), vs183, j2 - 1), hm267, hI266, ⟨rfl, rfl, rfl, rfl, rfl, trivial⟩, hc263, h268, h269, h262⟩
        · have H := ite_f H hq213
          refine W_tail 23 (by kernel_rfl) (by kernel_rfl) fun w270 g271 => ?_
          have hc272 := hc212.k0 g271
          refine S_pu (P_move (.slice A137 n138 c139) rfl) ?_
          refine S_pu (P_move (vi i2) rfl) ?_
          obtain ⟨hb273, H⟩ := H
          have h285 := ((h187.k0 g210).k0 g271)
          obtain ⟨ad274, A280, n281, c282, hA276, hv283, hcl278, h284⟩ := h285.get i2 hb273
          refine S_pu (P_ia Try.underlying145 se145 A137 ad274 n138 c139 h285.len i2 rfl hA276 rfl hb273) ?_
          refine S_pu (P_ld ag89 cL (ad274.add (i2.toNat * 1)) (.slice A280 n281 c282) rfl (hcl278 0 _ rfl)) ?_
          refine S_pu (P_move (vi j2) rfl) ?_
          refine S_pu (P_move (.slice A137 n138 c139) rfl) ?_
          refine S_pu (P_move (vi i2) rfl) ?_
          obtain ⟨hb286, H⟩ := H
          refine S_pu (P_add i2 1 rfl rfl hb286) ?_
          obtain ⟨hb287, H⟩ := H
          obtain ⟨ad288, A294, n295, c296, hA290, hv297, hcl292, h298⟩ := h285.get (i2 + 1) hb287
          refine S_pu (P_ia Try.underlying145 se145 A137 ad288 n138 c139 h285.len (i2 + 1) rfl hA290 rfl hb287) ?_
          refine S_pu (P_ld ag89 cL (ad288.add ((i2 + 1).toNat * 1)) (.slice A294 n295 c296) rfl (hcl292 0 _ rfl)) ?_
          refine S_pu (P_move (vi j2) rfl) ?_
          obtain ⟨hb299, H⟩ := H
          obtain ⟨ad300, cs301, hA302, hR303, hcl304⟩ := h298.get default (by decide) j2 hb299
          obtain rfl := Kd.int.op hR303
          refine S_pu (P_ia Try.underlying89 se89 A294 ad300 n295 c296 h298.len j2 rfl hA302 rfl hb299) ?_
          refine S_pu (P_ld ag3 cL (ad300.add (j2.toNat * 1)) (vi (nth (nth xs6 (i2 + 1)) j2)) rfl (hcl304 0 _ rfl)) ?_
          refine S_pu (P_move (.slice A137 n138 c139) rfl) ?_
          refine S_pu (P_move (vi i2) rfl) ?_
          obtain ⟨hb306, H⟩ := H
          obtain ⟨ad307, A313, n314, c315, hA309, hv316, hcl311, h317⟩ := h285.get i2 hb306
          refine S_pu (P_ia Try.underlying145 se145 A137 ad307 n138 c139 h285.len i2 rfl hA309 rfl hb306) ?_
          refine S_pu (P_ld ag89 cL (ad307.add (i2.toNat * 1)) (.slice A313 n314 c315) rfl (hcl311 0 _ rfl)) ?_
          refine S_pu (P_move (vi j2) rfl) ?_
          obtain ⟨hb318, H⟩ := H
          refine S_pu (P_add j2 1 rfl rfl hb318) ?_
          obtain ⟨hb319, H⟩ := H
          obtain ⟨ad320, cs321, hA322, hR323, hcl324⟩ := h317.get default (by decide) (j2 + 1) hb319
          obtain rfl := Kd.int.op hR323
          refine S_pu (P_ia Try.underlying89 se89 A313 ad320 n314 c315 h317.len (j2 + 1) rfl hA322 rfl hb319) ?_
          refine S_pu (P_ld ag3 cL (ad320.add ((j2 + 1).toNat * 1)) (vi (nth (nth xs6 i2) (j2 + 1))) rfl (hcl324 0 _ rfl)) ?_
          refine S_pu (P_max (nth (nth xs6 (i2 + 1)) j2) (nth (nth xs6 i2) (j2 + 1)) rfl rfl) ?_
          obtain ⟨hb326, H⟩ := H
          obtain ⟨ad327, cs328, hA329, hR330, hcl331⟩ := h284.get default (by decide) j2 hb326
          obtain rfl := Kd.int.op hR330
          refine S_pu (P_ia Try.underlying89 se89 A280 ad327 n281 c282 h284.len j2 rfl hA329 rfl hb326) ?_
          refine S_nil ?_
          refine L_ste0 A280 n281 c282 (nth xs6 i2) h284 j2 hb326 ad327 hA329 0 rfl [vi (max (nth (nth xs6 (i2 + 1)) j2) (nth (nth xs6 i2) (j2 + 1)))] rfl sz3 rfl (max (nth (nth xs6 (i2 + 1)) j2) (nth (nth xs6 i2) (j2 + 1))) [vi (nth (nth xs6 i2) j2)] [vi (max (nth (nth xs6 (i2 + 1)) j2) (nth (nth xs6 i2) (j2 + 1)))] hcl331 rfl rfl rfl fun w333 g334 h335 => ?_
          have h336 := Tb.ste (O := O) h285 hc272 hv283 g334 h335
          have hc337 := Ct.tb hc272 hv283 g334
          have s338 := St.tb (v := .slice A137 n138 c139) (O := O) ⟨_, hv283⟩ g334
          refine L_nil ?_
          refine W_reg ?_
          refine L_pu (P_move (vi j2) rfl) ?_
          obtain ⟨hb339, H⟩ := H
          refine L_pu (P_sub j2 1 rfl rfl hb339) ?_
          refine L_pu (P_assign (vi (j2 - 1)) rfl) ?_
          refine L_nil ?_
          obtain ⟨hI340, hm341⟩ := H
          have h342 := (((h185.st (.new _ g210)).st (.new _ g271)).st s338)
          have h343 := (((h186.st (.new _ g210)).st (.new _ g271)).st s338)
          exact ⟨((xs6.set i2.toNat ((nth xs6 i2).set j2.toNat (max (nth (nth xs6 (i2 + 1)) j2) (nth (nth xs6 i2) (j2 + 1))))), vs183, j2 - 1), hm341, hI340, ⟨rfl, rfl, rfl, rfl, rfl, trivial⟩, hc337, h342, h343, h336⟩
      · have H := ite_f H hq194
        refine W_exit (xin_hit ?_)
        refine W_reg ?_
        refine L_pu (P_move (vi i2) rfl) ?_
        obtain ⟨hb344, H⟩ := H
        refine L_pu (P_sub i2 1 rfl rfl hb344) ?_
        refine L_pu (P_assign (vi (i2 - 1)) rfl) ?_
        refine L_nil ?_
        obtain ⟨hI345, hm346⟩ := H
        exact ⟨(xs6, vs183, A137, n138, c139, i2 - 1), hm346, hI345, ⟨rfl, rfl, rfl, rfl, trivial⟩, hc184, h185, h186, h187⟩
    · have H := ite_f H hq152
      refine W_exit (xin_hit ?_)
      refine W_seq ?_
      refine W_reg ?_
      refine L_pu (P_move (.slice A137 n138 c139) rfl) ?_
      refine L_pu (P_assign (.slice A137 n138 c139) rfl) ?_
      refine L_nil ?_
      refine W_ret ?_
      have h347 := h145.sl hc142
      have hc348 := hc142.clear
      exact ⟨[.slice A137 n138 c139], ⟨_, rfl, rfl⟩, xs4, A137, n138, c139, rfl, H, hc348.gr.g0, h347⟩
end Go.Proofs.Ytndjggncgpjolaa

namespace Go.Proofs.Ytndjggncgpjolaa
set_option linter.unusedVariables false
set_option linter.unusedSimpArgs false
set_option linter.unusedSectionVars false
theorem impl_lengths.law (a b : List Pt) (Q : List (List Int) → Prop) (ha : a.length ≤ 1048576) (hb : b.length ≤ 1048576) (hq : ∀ t, Tab a b (fun _ _ => True) t → Q t) : impl_lengths.E a b Q := by
  unfold impl_lengths.E
  have hn : ((b.length : Int) + 1).toNat = b.length + 1 := by omega
  have hm : ((a.length : Int) + 1).toNat = a.length + 1 := by omega
  rw [hn, hm]
  refine ⟨fun _ => by unfold I64; omega, by omega, fun xs v => ∃ k : Nat, v = k ∧ k ≤ a.length + 1 ∧ xs.length = a.length + 1 ∧ ∀ r : Nat, r < k → nth xs (r : Int) = List.replicate (b.length + 1) 0, fun _ v => (a.length + 1 - v).toNat,
    ⟨0, rfl, Nat.zero_le _, by simp, fun r hr => absurd hr (Nat.not_lt_zero _)⟩, ?_⟩
  rintro xs _ ⟨k, rfl, hk, hl, hx⟩
  rw [List.length_replicate]
  by_cases hk0 : (k : Int) < ((a.length + 1 : Nat) : Int)
  · rw [if_pos (by simpa using hk0)]
    refine ⟨fun _ => by unfold I64; omega, by omega, by omega, fun _ => by unfold I64; omega, ⟨k + 1, by omega, by omega, by rw [List.length_set]; exact hl, fun r hr => ?_⟩, by dsimp only; omega⟩
    rw [Int.toNat_natCast, nth_set _ (by omega)]
    by_cases e : r = k
    · rw [if_pos e]
    · rw [if_neg e]; exact hx r (by omega)
  rw [if_neg (by simpa using hk0)]
  refine ⟨fun _ => by unfold I64; omega, fun xs i => ∃ k : Nat, i = (k : Int) - 1 ∧ k ≤ a.length ∧ Tab a b (fun r m => k ≤ r ∨ m = b.length) xs, fun _ i => (i + 1).toNat, ⟨a.length, rfl, Nat.le_refl _, hl, fun r hr => ?_⟩, ?_⟩
  · rw [hx r (by omega)]
    refine ⟨by simp, fun m hm hd => ?_⟩
    rw [nth_rep _ _ _ (by omega)]
    rcases hd with hd | hd
    · rw [List.drop_of_length_le (by omega : a.length ≤ r), lcs_nil]; rfl
    · rw [hd, List.drop_length, lcs_nil2]; rfl
  clear hx hl hk0 hk xs k
  rintro xs _ ⟨k, rfl, hk, ht⟩
  by_cases hk0 : (k : Int) - 1 ≥ 0
  · rw [if_pos (by simpa using hk0)]
    obtain ⟨i, rfl⟩ : ∃ i, k = i + 1 := ⟨k - 1, by omega⟩
    have ei : ((i + 1 : Nat) : Int) - 1 = (i : Int) := by omega
    have ei1 : (i : Int) + 1 = ((i + 1 : Nat) : Int) := by omega
    rw [ei]
    refine ⟨fun _ => by unfold I64; omega, fun ys j => ∃ m : Nat, j = (m : Int) - 1 ∧ m ≤ b.length ∧ Tab a b (fun r u => i < r ∨ (r = i ∧ m ≤ u) ∨ u = b.length) ys, fun _ j => (j + 1).toNat, ⟨b.length, rfl, Nat.le_refl _, ht.1, fun r hr => ⟨(ht.2 r hr).1, fun m hm hd => (ht.2 r hr).2 m hm ?_⟩⟩, ?_⟩
    · omega
    rintro ys _ ⟨m, rfl, hm, hs⟩
    by_cases hm0 : (m : Int) - 1 ≥ 0
    · rw [if_pos (by simpa using hm0)]
      obtain ⟨j, rfl⟩ : ∃ j, m = j + 1 := ⟨m - 1, by omega⟩
      have ej : ((j + 1 : Nat) : Int) - 1 = (j : Int) := by omega
      have ej1 : (j : Int) + 1 = ((j + 1 : Nat) : Int) := by omega
      rw [ej, ej1, ei1, eqPt_is]
      have hl := lcs_drop a b (i := i) (j := j) (by omega) (by omega)
      have s0 := hs.1
      have s1 := hs.2 i (by omega)
      have s2 := hs.2 (i + 1) (by omega)
      have n1 := s2.2 (j + 1) (by omega) (.inl (by omega))
      have n2 := s2.2 j (by omega) (.inl (by omega))
      have n3 := s1.2 (j + 1) (by omega) (.inr (.inl ⟨rfl, by omega⟩))
      have l1 := s1.1
      have l2 := s2.1
      have b1 := lcs_le2 (a.drop (i + 1)) (b.drop (j + 1))
      rw [List.length_drop] at b1
      have hset : ∀ v : Int, v = (lcs (a.drop i) (b.drop j) : Nat) → Tab a b (fun r u => i < r ∨ (r = i ∧ j ≤ u) ∨ u = b.length) (ys.set (i : Int).toNat ((nth ys (i : Int)).set (j : Int).toNat v)) := fun v hv => by
        rw [Int.toNat_natCast, Int.toNat_natCast]
        exact hs.set (by omega) (by omega) hv fun r u h => by omega
      refine ⟨by omega, by omega, ?_⟩
      by_cases he : nth a (i : Int) = nth b (j : Int)
      · rw [if_pos (by simpa using he)]
        rw [if_pos he] at hl
        rw [n1]
        exact ⟨by omega, by unfold I64; omega, by omega, by unfold I64; omega, by omega, by unfold I64; omega, by omega, by unfold I64; omega, ⟨j, by omega, by omega, hset _ (by omega)⟩, by dsimp only; omega⟩
      · rw [if_neg (by simpa using he)]
        rw [if_neg he] at hl
        rw [n2, n3]
        exact ⟨by omega, by unfold I64; omega, by omega, by omega, by omega, by unfold I64; omega, by omega, by omega, by unfold I64; omega, ⟨j, by omega, by omega, hset _ (by omega)⟩, by dsimp only; omega⟩
    · rw [if_neg (by simpa using hm0)]
      have : m = 0 := by omega
      subst this
      refine ⟨by unfold I64; omega, ⟨i, by omega, by omega, hs.1, fun r hr => ⟨(hs.2 r hr).1, fun m hm hd => (hs.2 r hr).2 m hm ?_⟩⟩, by dsimp only; omega⟩
      omega
  · rw [if_neg (by simpa using hk0)]
    have : k = 0 := by omega
    subst this
    exact hq _ ⟨ht.1, fun r hr => ⟨(ht.2 r hr).1, fun m hm _ => (ht.2 r hr).2 m hm (.inl (Nat.zero_le _))⟩⟩
end Go.Proofs.Ytndjggncgpjolaa
