/- It is proved here that the law FnExactDiffOf of the given program holds whatever it is handed: the walks through the code, the plain laws and the row, in this order.
   Conditions: none. -/
import Derived.Below
import Derived.ChangeArms
import Derived.ChangeOld
import Derived.ChangeSlices
import Derived.DataReads
import Derived.Deep.Quiet
import Derived.KernelRfl
import Derived.Laws.Build
import Derived.Laws.IdiomStrings
import Derived.Laws.OwnMore
import Derived.Laws.Slices
import Derived.Laws.StructEq
import Derived.OpenShut
import Derived.ProofKit
import Derived.Shelf.Slices.Cells
import Derived.Shelf.Slices.CompactS
import Derived.Shelf.Slices.In.SortNone
import Derived.Shelf.Small.Bits
import Derived.Shelf.Sort.Plain
import Derived.Shelf.Strconv.Itoa0
import Derived.ShutString
import Derived.SizedLaws
import Derived.StillTail
import Derived.Test.YtndjggncgpjolaaProg
import Derived.Test.YtndjggncgpjolaaRows
import Derived.WalkKit
import Derived.Test.YtndjggncgpjolaaCExactDiffOfa
namespace Go.Proofs.Ytndjggncgpjolaa
open Go.RowKit
structure l12Rd where
  b : List UInt8
  p : Int
  deriving Inhabited, DecidableEq
def kl12Rd : Kd l12Rd := Kd.iso (Kd.pair (Kd.sl Kd.byte) (Kd.int .i64)) (fun x => (x.b, x.p))
theorem kl12Rd.mk (w : World) (S : Sp) (x : l12Rd) {A0 : Option Addr} {n0 c0 : Nat} (h0 : Sl Kd.byte w S (.slice A0 n0 c0) x.b) : kl12Rd.R w S x [.slice A0 n0 c0, vi x.p] := ⟨[.slice A0 n0 c0], [vi x.p], rfl, ⟨_, rfl, h0⟩, rfl⟩
theorem kl12Rd.op {w : World} {S : Sp} {x : l12Rd} {cs : List Value} (h : kl12Rd.R w S x cs) : ∃ A0 n0 c0, cs = [.slice A0 n0 c0, vi x.p] ∧ Sl Kd.byte w S (.slice A0 n0 c0) x.b := by
  obtain ⟨_, _, rfl, ⟨_, rfl, h1⟩, rfl⟩ := h
  obtain ⟨A901, c901, rfl⟩ := h1.shape
  exact ⟨A901, _, c901, rfl, h1⟩
structure Pt where
  X : Int
  Y : Int
  deriving Inhabited, DecidableEq
def kPt : Kd Pt := Kd.iso (Kd.pair (Kd.int .i64) (Kd.int .i64)) (fun x => (x.X, x.Y))
theorem kPt_flat : kPt.Flat := iso_flat (pair_flat (int_flat _) (int_flat _)) _
theorem kPt.mk (w : World) (S : Sp) (x : Pt) : kPt.R w S x [vi x.X, vi x.Y] := ⟨[vi x.X], [vi x.Y], rfl, rfl, rfl⟩
theorem kPt.op {w : World} {S : Sp} {x : Pt} {cs : List Value} (h : kPt.R w S x cs) : cs = [vi x.X, vi x.Y] := by
  obtain ⟨_, _, rfl, rfl, rfl⟩ := h
  exact rfl
structure Pair where
  A : Int
  B : Int
  deriving Inhabited, DecidableEq
def kPair : Kd Pair := Kd.iso (Kd.pair (Kd.int .i64) (Kd.int .i64)) (fun x => (x.A, x.B))
theorem kPair_flat : kPair.Flat := iso_flat (pair_flat (int_flat _) (int_flat _)) _
theorem kPair.mk (w : World) (S : Sp) (x : Pair) : kPair.R w S x [vi x.A, vi x.B] := ⟨[vi x.A], [vi x.B], rfl, rfl, rfl⟩
theorem kPair.op {w : World} {S : Sp} {x : Pair} {cs : List Value} (h : kPair.R w S x cs) : cs = [vi x.A, vi x.B] := by
  obtain ⟨_, _, rfl, rfl, rfl⟩ := h
  exact rfl
structure Shape where
  Kind : Int
  Pts : List Pt
  deriving Inhabited, DecidableEq
def kShape : Kd Shape := Kd.iso (Kd.pair (Kd.int .i64) (Kd.sl kPt)) (fun x => (x.Kind, x.Pts))
theorem kShape.mk (w : World) (S : Sp) (x : Shape) {A1 : Option Addr} {n1 c1 : Nat} (h1 : Sl kPt w S (.slice A1 n1 c1) x.Pts) : kShape.R w S x [vi x.Kind, .slice A1 n1 c1] := ⟨[vi x.Kind], [.slice A1 n1 c1], rfl, rfl, ⟨_, rfl, h1⟩⟩
theorem kShape.op {w : World} {S : Sp} {x : Shape} {cs : List Value} (h : kShape.R w S x cs) : ∃ A1 n1 c1, cs = [vi x.Kind, .slice A1 n1 c1] ∧ Sl kPt w S (.slice A1 n1 c1) x.Pts := by
  obtain ⟨_, _, rfl, rfl, ⟨_, rfl, h1⟩⟩ := h
  obtain ⟨A901, c901, rfl⟩ := h1.shape
  exact ⟨A901, _, c901, rfl, h1⟩
structure Tag where
  Key : Str
  Val : Str
  deriving Inhabited, DecidableEq
def kTag : Kd Tag := Kd.iso (Kd.pair Kd.str Kd.str) (fun x => (x.Key, x.Val))
theorem kTag_flat : kTag.Flat := iso_flat (pair_flat str_flat str_flat) _
theorem kTag.mk (w : World) (S : Sp) (x : Tag) (h0 : Lim x.Key) (h1 : Lim x.Val) : kTag.R w S x [vs x.Key, vs x.Val] := ⟨[vs x.Key], [vs x.Val], rfl, ⟨rfl, h0⟩, ⟨rfl, h1⟩⟩
theorem kTag.op {w : World} {S : Sp} {x : Tag} {cs : List Value} (h : kTag.R w S x cs) : cs = [vs x.Key, vs x.Val] ∧ Lim x.Key ∧ Lim x.Val := by
  obtain ⟨_, _, rfl, ⟨rfl, h1⟩, ⟨rfl, h2⟩⟩ := h
  exact ⟨rfl, h1, h2⟩
structure Feat where
  Id : Str
  Shape : Shape
  Tags : List Tag
  deriving Inhabited, DecidableEq
def kFeat : Kd Feat := Kd.iso (Kd.pair Kd.str (Kd.pair kShape (Kd.sl kTag))) (fun x => (x.Id, x.Shape, x.Tags))
theorem kFeat.mk (w : World) (S : Sp) (x : Feat) {A2 : Option Addr} {n2 c2 : Nat} {A3 : Option Addr} {n3 c3 : Nat} (h0 : Lim x.Id) (h2 : Sl kPt w S (.slice A2 n2 c2) x.Shape.Pts) (h3 : Sl kTag w S (.slice A3 n3 c3) x.Tags) : kFeat.R w S x [vs x.Id, vi x.Shape.Kind, .slice A2 n2 c2, .slice A3 n3 c3] := ⟨[vs x.Id], (([vi x.Shape.Kind] ++ [.slice A2 n2 c2]) ++ [.slice A3 n3 c3]), rfl, ⟨rfl, h0⟩, ⟨([vi x.Shape.Kind] ++ [.slice A2 n2 c2]), [.slice A3 n3 c3], rfl, ⟨[vi x.Shape.Kind], [.slice A2 n2 c2], rfl, rfl, ⟨_, rfl, h2⟩⟩, ⟨_, rfl, h3⟩⟩⟩
theorem kFeat.op {w : World} {S : Sp} {x : Feat} {cs : List Value} (h : kFeat.R w S x cs) : ∃ A2 n2 c2 A3 n3 c3, cs = [vs x.Id, vi x.Shape.Kind, .slice A2 n2 c2, .slice A3 n3 c3] ∧ Lim x.Id ∧ Sl kPt w S (.slice A2 n2 c2) x.Shape.Pts ∧ Sl kTag w S (.slice A3 n3 c3) x.Tags := by
  obtain ⟨_, _, rfl, ⟨rfl, h1⟩, ⟨_, _, rfl, ⟨_, _, rfl, rfl, ⟨_, rfl, h2⟩⟩, ⟨_, rfl, h3⟩⟩⟩ := h
  obtain ⟨A901, c901, rfl⟩ := h2.shape
  obtain ⟨A902, c902, rfl⟩ := h3.shape
  exact ⟨A901, _, c901, A902, _, c902, rfl, h1, h2, h3⟩
structure Commit where
  Up : List Int
  Sheet : List Feat
  Note : Str
  deriving Inhabited, DecidableEq
def kCommit : Kd Commit := Kd.iso (Kd.pair (Kd.sl (Kd.int .i64)) (Kd.pair (Kd.sl kFeat) Kd.str)) (fun x => (x.Up, x.Sheet, x.Note))
theorem kCommit.mk (w : World) (S : Sp) (x : Commit) {A0 : Option Addr} {n0 c0 : Nat} {A1 : Option Addr} {n1 c1 : Nat} (h0 : Sl (Kd.int .i64) w S (.slice A0 n0 c0) x.Up) (h1 : Sl kFeat w S (.slice A1 n1 c1) x.Sheet) (h2 : Lim x.Note) : kCommit.R w S x [.slice A0 n0 c0, .slice A1 n1 c1, vs x.Note] := ⟨[.slice A0 n0 c0], ([.slice A1 n1 c1] ++ [vs x.Note]), rfl, ⟨_, rfl, h0⟩, ⟨[.slice A1 n1 c1], [vs x.Note], rfl, ⟨_, rfl, h1⟩, ⟨rfl, h2⟩⟩⟩
theorem kCommit.op {w : World} {S : Sp} {x : Commit} {cs : List Value} (h : kCommit.R w S x cs) : ∃ A0 n0 c0 A1 n1 c1, cs = [.slice A0 n0 c0, .slice A1 n1 c1, vs x.Note] ∧ Sl (Kd.int .i64) w S (.slice A0 n0 c0) x.Up ∧ Sl kFeat w S (.slice A1 n1 c1) x.Sheet ∧ Lim x.Note := by
  obtain ⟨_, _, rfl, ⟨_, rfl, h1⟩, ⟨_, _, rfl, ⟨_, rfl, h2⟩, ⟨rfl, h3⟩⟩⟩ := h
  obtain ⟨A901, c901, rfl⟩ := h1.shape
  obtain ⟨A902, c902, rfl⟩ := h2.shape
  exact ⟨A901, _, c901, A902, _, c902, rfl, h1, h2, h3⟩
structure Head where
  Name : Str
  At : Int
  deriving Inhabited, DecidableEq
def kHead : Kd Head := Kd.iso (Kd.pair Kd.str (Kd.int .i64)) (fun x => (x.Name, x.At))
theorem kHead_flat : kHead.Flat := iso_flat (pair_flat str_flat (int_flat _)) _
theorem kHead.mk (w : World) (S : Sp) (x : Head) (h0 : Lim x.Name) : kHead.R w S x [vs x.Name, vi x.At] := ⟨[vs x.Name], [vi x.At], rfl, ⟨rfl, h0⟩, rfl⟩
theorem kHead.op {w : World} {S : Sp} {x : Head} {cs : List Value} (h : kHead.R w S x cs) : cs = [vs x.Name, vi x.At] ∧ Lim x.Name := by
  obtain ⟨_, _, rfl, ⟨rfl, h1⟩, rfl⟩ := h
  exact ⟨rfl, h1⟩
structure Repo where
  Commits : List Commit
  Heads : List Head
  deriving Inhabited, DecidableEq
def kRepo : Kd Repo := Kd.iso (Kd.pair (Kd.sl kCommit) (Kd.sl kHead)) (fun x => (x.Commits, x.Heads))
theorem kRepo.mk (w : World) (S : Sp) (x : Repo) {A0 : Option Addr} {n0 c0 : Nat} {A1 : Option Addr} {n1 c1 : Nat} (h0 : Sl kCommit w S (.slice A0 n0 c0) x.Commits) (h1 : Sl kHead w S (.slice A1 n1 c1) x.Heads) : kRepo.R w S x [.slice A0 n0 c0, .slice A1 n1 c1] := ⟨[.slice A0 n0 c0], [.slice A1 n1 c1], rfl, ⟨_, rfl, h0⟩, ⟨_, rfl, h1⟩⟩
theorem kRepo.op {w : World} {S : Sp} {x : Repo} {cs : List Value} (h : kRepo.R w S x cs) : ∃ A0 n0 c0 A1 n1 c1, cs = [.slice A0 n0 c0, .slice A1 n1 c1] ∧ Sl kCommit w S (.slice A0 n0 c0) x.Commits ∧ Sl kHead w S (.slice A1 n1 c1) x.Heads := by
  obtain ⟨_, _, rfl, ⟨_, rfl, h1⟩, ⟨_, rfl, h2⟩⟩ := h
  obtain ⟨A901, c901, rfl⟩ := h1.shape
  obtain ⟨A902, c902, rfl⟩ := h2.shape
  exact ⟨A901, _, c901, A902, _, c902, rfl, h1, h2⟩
structure Change where
  Id : Str
  Had : Bool
  Was : Feat
  Has : Bool
  Now : Feat
  deriving Inhabited, DecidableEq
def kChange : Kd Change := Kd.iso (Kd.pair Kd.str (Kd.pair Kd.bool (Kd.pair kFeat (Kd.pair Kd.bool kFeat)))) (fun x => (x.Id, x.Had, x.Was, x.Has, x.Now))
theorem kChange.mk (w : World) (S : Sp) (x : Change) {A4 : Option Addr} {n4 c4 : Nat} {A5 : Option Addr} {n5 c5 : Nat} {A9 : Option Addr} {n9 c9 : Nat} {A10 : Option Addr} {n10 c10 : Nat} (h0 : Lim x.Id) (h2 : Lim x.Was.Id) (h4 : Sl kPt w S (.slice A4 n4 c4) x.Was.Shape.Pts) (h5 : Sl kTag w S (.slice A5 n5 c5) x.Was.Tags) (h7 : Lim x.Now.Id) (h9 : Sl kPt w S (.slice A9 n9 c9) x.Now.Shape.Pts) (h10 : Sl kTag w S (.slice A10 n10 c10) x.Now.Tags) : kChange.R w S x [vs x.Id, vb x.Had, vs x.Was.Id, vi x.Was.Shape.Kind, .slice A4 n4 c4, .slice A5 n5 c5, vb x.Has, vs x.Now.Id, vi x.Now.Shape.Kind, .slice A9 n9 c9, .slice A10 n10 c10] := ⟨[vs x.Id], ([vb x.Had] ++ (([vs x.Was.Id] ++ (([vi x.Was.Shape.Kind] ++ [.slice A4 n4 c4]) ++ [.slice A5 n5 c5])) ++ ([vb x.Has] ++ ([vs x.Now.Id] ++ (([vi x.Now.Shape.Kind] ++ [.slice A9 n9 c9]) ++ [.slice A10 n10 c10]))))), rfl, ⟨rfl, h0⟩, ⟨[vb x.Had], (([vs x.Was.Id] ++ (([vi x.Was.Shape.Kind] ++ [.slice A4 n4 c4]) ++ [.slice A5 n5 c5])) ++ ([vb x.Has] ++ ([vs x.Now.Id] ++ (([vi x.Now.Shape.Kind] ++ [.slice A9 n9 c9]) ++ [.slice A10 n10 c10])))), rfl, rfl, ⟨([vs x.Was.Id] ++ (([vi x.Was.Shape.Kind] ++ [.slice A4 n4 c4]) ++ [.slice A5 n5 c5])), ([vb x.Has] ++ ([vs x.Now.Id] ++ (([vi x.Now.Shape.Kind] ++ [.slice A9 n9 c9]) ++ [.slice A10 n10 c10]))), rfl, ⟨[vs x.Was.Id], (([vi x.Was.Shape.Kind] ++ [.slice A4 n4 c4]) ++ [.slice A5 n5 c5]), rfl, ⟨rfl, h2⟩, ⟨([vi x.Was.Shape.Kind] ++ [.slice A4 n4 c4]), [.slice A5 n5 c5], rfl, ⟨[vi x.Was.Shape.Kind], [.slice A4 n4 c4], rfl, rfl, ⟨_, rfl, h4⟩⟩, ⟨_, rfl, h5⟩⟩⟩, ⟨[vb x.Has], ([vs x.Now.Id] ++ (([vi x.Now.Shape.Kind] ++ [.slice A9 n9 c9]) ++ [.slice A10 n10 c10])), rfl, rfl, ⟨[vs x.Now.Id], (([vi x.Now.Shape.Kind] ++ [.slice A9 n9 c9]) ++ [.slice A10 n10 c10]), rfl, ⟨rfl, h7⟩, ⟨([vi x.Now.Shape.Kind] ++ [.slice A9 n9 c9]), [.slice A10 n10 c10], rfl, ⟨[vi x.Now.Shape.Kind], [.slice A9 n9 c9], rfl, rfl, ⟨_, rfl, h9⟩⟩, ⟨_, rfl, h10⟩⟩⟩⟩⟩⟩⟩
theorem kChange.op {w : World} {S : Sp} {x : Change} {cs : List Value} (h : kChange.R w S x cs) : ∃ A4 n4 c4 A5 n5 c5 A9 n9 c9 A10 n10 c10, cs = [vs x.Id, vb x.Had, vs x.Was.Id, vi x.Was.Shape.Kind, .slice A4 n4 c4, .slice A5 n5 c5, vb x.Has, vs x.Now.Id, vi x.Now.Shape.Kind, .slice A9 n9 c9, .slice A10 n10 c10] ∧ Lim x.Id ∧ Lim x.Was.Id ∧ Sl kPt w S (.slice A4 n4 c4) x.Was.Shape.Pts ∧ Sl kTag w S (.slice A5 n5 c5) x.Was.Tags ∧ Lim x.Now.Id ∧ Sl kPt w S (.slice A9 n9 c9) x.Now.Shape.Pts ∧ Sl kTag w S (.slice A10 n10 c10) x.Now.Tags := by
  obtain ⟨_, _, rfl, ⟨rfl, h1⟩, ⟨_, _, rfl, rfl, ⟨_, _, rfl, ⟨_, _, rfl, ⟨rfl, h2⟩, ⟨_, _, rfl, ⟨_, _, rfl, rfl, ⟨_, rfl, h3⟩⟩, ⟨_, rfl, h4⟩⟩⟩, ⟨_, _, rfl, rfl, ⟨_, _, rfl, ⟨rfl, h5⟩, ⟨_, _, rfl, ⟨_, _, rfl, rfl, ⟨_, rfl, h6⟩⟩, ⟨_, rfl, h7⟩⟩⟩⟩⟩⟩⟩ := h
  obtain ⟨A901, c901, rfl⟩ := h3.shape
  obtain ⟨A902, c902, rfl⟩ := h4.shape
  obtain ⟨A903, c903, rfl⟩ := h6.shape
  obtain ⟨A904, c904, rfl⟩ := h7.shape
  exact ⟨A901, _, c901, A902, _, c902, A903, _, c903, A904, _, c904, rfl, h1, h2, h3, h4, h5, h6, h7⟩
structure value where
  has : Bool
  val : Str
  deriving Inhabited, DecidableEq
def kvalue : Kd value := Kd.iso (Kd.pair Kd.bool Kd.str) (fun x => (x.has, x.val))
theorem kvalue_flat : kvalue.Flat := iso_flat (pair_flat bool_flat str_flat) _
theorem kvalue.mk (w : World) (S : Sp) (x : value) (h1 : Lim x.val) : kvalue.R w S x [vb x.has, vs x.val] := ⟨[vb x.has], [vs x.val], rfl, rfl, ⟨rfl, h1⟩⟩
theorem kvalue.op {w : World} {S : Sp} {x : value} {cs : List Value} (h : kvalue.R w S x cs) : cs = [vb x.has, vs x.val] ∧ Lim x.val := by
  obtain ⟨_, _, rfl, rfl, ⟨rfl, h1⟩⟩ := h
  exact ⟨rfl, h1⟩
theorem ag100 : IsAgg Try.prog 100 true := IsAgg_mk Try.underlying100
theorem ag103 : IsAgg Try.prog 103 true := IsAgg_mk Try.underlying103
theorem ag133 : IsAgg Try.prog 133 true := IsAgg_mk Try.underlying133
theorem ag135 : IsAgg Try.prog 135 true := IsAgg_mk Try.underlying135
theorem ag148 : IsAgg Try.prog 148 true := IsAgg_mk Try.underlying148
theorem ag166 : IsAgg Try.prog 166 true := IsAgg_mk Try.underlying166
theorem ag201 : IsAgg Try.prog 201 true := IsAgg_mk Try.underlying201
theorem ag22 : IsAgg Try.prog 22 false := IsAgg_mk Try.underlying22
theorem ag23 : IsAgg Try.prog 23 false := IsAgg_mk Try.underlying23
theorem ag29 : IsAgg Try.prog 29 true := IsAgg_mk Try.underlying29
theorem ag3 : IsAgg Try.prog 3 false := IsAgg_mk Try.underlying3
theorem ag32 : IsAgg Try.prog 32 false := IsAgg_mk Try.underlying32
theorem ag33 : IsAgg Try.prog 33 false := IsAgg_mk Try.underlying33
theorem ag35 : IsAgg Try.prog 35 true := IsAgg_mk Try.underlying35
theorem ag4 : IsAgg Try.prog 4 false := IsAgg_mk Try.underlying4
theorem ag43 : IsAgg Try.prog 43 false := IsAgg_mk Try.underlying43
theorem ag5 : IsAgg Try.prog 5 false := IsAgg_mk Try.underlying5
theorem ag52 : IsAgg Try.prog 52 false := IsAgg_mk Try.underlying52
theorem ag60 : IsAgg Try.prog 60 false := IsAgg_mk Try.underlying60
theorem ag62 : IsAgg Try.prog 62 true := IsAgg_mk Try.underlying62
theorem ag63 : IsAgg Try.prog 63 false := IsAgg_mk Try.underlying63
theorem ag65 : IsAgg Try.prog 65 true := IsAgg_mk Try.underlying65
theorem ag68 : IsAgg Try.prog 68 true := IsAgg_mk Try.underlying68
theorem ag69 : IsAgg Try.prog 69 false := IsAgg_mk Try.underlying69
theorem ag71 : IsAgg Try.prog 71 true := IsAgg_mk Try.underlying71
theorem ag89 : IsAgg Try.prog 89 false := IsAgg_mk Try.underlying89
theorem ag9 : IsAgg Try.prog 9 false := IsAgg_mk Try.underlying9
theorem ag91 : IsAgg Try.prog 91 true := IsAgg_mk Try.underlying91
theorem ag93 : IsAgg Try.prog 93 true := IsAgg_mk Try.underlying93
def dShape_68 : Dd kShape := Dd.iso (Dd.pair (Dd.flat (k := (Kd.int .i64)) (int_flat _)) (Dd.sl (Dd.flat kPt_flat) 29)) (fun x : Shape => (x.Kind, x.Pts))
theorem dShape_68.mk (w : World) (x : Shape) {A1 : Option Addr} {n1 c1 : Nat} {r1 : Ob} (h1 : Ds (Dd.flat kPt_flat) 29 w r1 (.slice A1 n1 c1) x.Pts) : dShape_68.D w ([] ++ r1) x [vi x.Kind, .slice A1 n1 c1] := ⟨_, _, [vi x.Kind], [.slice A1 n1 c1], rfl, rfl, ⟨rfl, rfl⟩, ⟨_, rfl, h1⟩⟩
def dFeat_71 : Dd kFeat := Dd.iso (Dd.pair (Dd.flat (k := Kd.str) str_flat) (Dd.pair dShape_68 (Dd.sl (Dd.flat kTag_flat) 133))) (fun x : Feat => (x.Id, x.Shape, x.Tags))
theorem dFeat_71.mk (w : World) (x : Feat) {A2 : Option Addr} {n2 c2 : Nat} {A3 : Option Addr} {n3 c3 : Nat} {r2 : Ob} {r3 : Ob} (h0 : Lim x.Id) (h2 : Ds (Dd.flat kPt_flat) 29 w r2 (.slice A2 n2 c2) x.Shape.Pts) (h3 : Ds (Dd.flat kTag_flat) 133 w r3 (.slice A3 n3 c3) x.Tags) : dFeat_71.D w ([] ++ (([] ++ r2) ++ r3)) x [vs x.Id, vi x.Shape.Kind, .slice A2 n2 c2, .slice A3 n3 c3] := ⟨_, _, [vs x.Id], (([vi x.Shape.Kind] ++ [.slice A2 n2 c2]) ++ [.slice A3 n3 c3]), rfl, rfl, ⟨rfl, rfl, h0⟩, ⟨_, _, ([vi x.Shape.Kind] ++ [.slice A2 n2 c2]), [.slice A3 n3 c3], rfl, rfl, ⟨_, _, [vi x.Shape.Kind], [.slice A2 n2 c2], rfl, rfl, ⟨rfl, rfl⟩, ⟨_, rfl, h2⟩⟩, ⟨_, rfl, h3⟩⟩⟩
def dChange_103 : Dd kChange := Dd.iso (Dd.pair (Dd.flat (k := Kd.str) str_flat) (Dd.pair (Dd.flat (k := Kd.bool) bool_flat) (Dd.pair dFeat_71 (Dd.pair (Dd.flat (k := Kd.bool) bool_flat) dFeat_71)))) (fun x : Change => (x.Id, x.Had, x.Was, x.Has, x.Now))
theorem dChange_103.mk (w : World) (x : Change) {A4 : Option Addr} {n4 c4 : Nat} {A5 : Option Addr} {n5 c5 : Nat} {A9 : Option Addr} {n9 c9 : Nat} {A10 : Option Addr} {n10 c10 : Nat} {r4 : Ob} {r5 : Ob} {r9 : Ob} {r10 : Ob} (h0 : Lim x.Id) (h2 : Lim x.Was.Id) (h4 : Ds (Dd.flat kPt_flat) 29 w r4 (.slice A4 n4 c4) x.Was.Shape.Pts) (h5 : Ds (Dd.flat kTag_flat) 133 w r5 (.slice A5 n5 c5) x.Was.Tags) (h7 : Lim x.Now.Id) (h9 : Ds (Dd.flat kPt_flat) 29 w r9 (.slice A9 n9 c9) x.Now.Shape.Pts) (h10 : Ds (Dd.flat kTag_flat) 133 w r10 (.slice A10 n10 c10) x.Now.Tags) : dChange_103.D w ([] ++ ([] ++ (([] ++ (([] ++ r4) ++ r5)) ++ ([] ++ ([] ++ (([] ++ r9) ++ r10)))))) x [vs x.Id, vb x.Had, vs x.Was.Id, vi x.Was.Shape.Kind, .slice A4 n4 c4, .slice A5 n5 c5, vb x.Has, vs x.Now.Id, vi x.Now.Shape.Kind, .slice A9 n9 c9, .slice A10 n10 c10] := ⟨_, _, [vs x.Id], ([vb x.Had] ++ (([vs x.Was.Id] ++ (([vi x.Was.Shape.Kind] ++ [.slice A4 n4 c4]) ++ [.slice A5 n5 c5])) ++ ([vb x.Has] ++ ([vs x.Now.Id] ++ (([vi x.Now.Shape.Kind] ++ [.slice A9 n9 c9]) ++ [.slice A10 n10 c10]))))), rfl, rfl, ⟨rfl, rfl, h0⟩, ⟨_, _, [vb x.Had], (([vs x.Was.Id] ++ (([vi x.Was.Shape.Kind] ++ [.slice A4 n4 c4]) ++ [.slice A5 n5 c5])) ++ ([vb x.Has] ++ ([vs x.Now.Id] ++ (([vi x.Now.Shape.Kind] ++ [.slice A9 n9 c9]) ++ [.slice A10 n10 c10])))), rfl, rfl, ⟨rfl, rfl⟩, ⟨_, _, ([vs x.Was.Id] ++ (([vi x.Was.Shape.Kind] ++ [.slice A4 n4 c4]) ++ [.slice A5 n5 c5])), ([vb x.Has] ++ ([vs x.Now.Id] ++ (([vi x.Now.Shape.Kind] ++ [.slice A9 n9 c9]) ++ [.slice A10 n10 c10]))), rfl, rfl, ⟨_, _, [vs x.Was.Id], (([vi x.Was.Shape.Kind] ++ [.slice A4 n4 c4]) ++ [.slice A5 n5 c5]), rfl, rfl, ⟨rfl, rfl, h2⟩, ⟨_, _, ([vi x.Was.Shape.Kind] ++ [.slice A4 n4 c4]), [.slice A5 n5 c5], rfl, rfl, ⟨_, _, [vi x.Was.Shape.Kind], [.slice A4 n4 c4], rfl, rfl, ⟨rfl, rfl⟩, ⟨_, rfl, h4⟩⟩, ⟨_, rfl, h5⟩⟩⟩, ⟨_, _, [vb x.Has], ([vs x.Now.Id] ++ (([vi x.Now.Shape.Kind] ++ [.slice A9 n9 c9]) ++ [.slice A10 n10 c10])), rfl, rfl, ⟨rfl, rfl⟩, ⟨_, _, [vs x.Now.Id], (([vi x.Now.Shape.Kind] ++ [.slice A9 n9 c9]) ++ [.slice A10 n10 c10]), rfl, rfl, ⟨rfl, rfl, h7⟩, ⟨_, _, ([vi x.Now.Shape.Kind] ++ [.slice A9 n9 c9]), [.slice A10 n10 c10], rfl, rfl, ⟨_, _, [vi x.Now.Shape.Kind], [.slice A9 n9 c9], rfl, rfl, ⟨rfl, rfl⟩, ⟨_, rfl, h9⟩⟩, ⟨_, rfl, h10⟩⟩⟩⟩⟩⟩⟩
def dCommit_91 : Dd kCommit := Dd.iso (Dd.pair (Dd.sl (Dd.flat (k := (Kd.int .i64)) (int_flat _)) 3) (Dd.pair (Dd.sl dFeat_71 71) (Dd.flat (k := Kd.str) str_flat))) (fun x : Commit => (x.Up, x.Sheet, x.Note))
theorem dCommit_91.mk (w : World) (x : Commit) {A0 : Option Addr} {n0 c0 : Nat} {A1 : Option Addr} {n1 c1 : Nat} {r0 : Ob} {r1 : Ob} (h0 : Ds (Dd.flat (k := (Kd.int .i64)) (int_flat _)) 3 w r0 (.slice A0 n0 c0) x.Up) (h1 : Ds dFeat_71 71 w r1 (.slice A1 n1 c1) x.Sheet) (h2 : Lim x.Note) : dCommit_91.D w (r0 ++ (r1 ++ [])) x [.slice A0 n0 c0, .slice A1 n1 c1, vs x.Note] := ⟨_, _, [.slice A0 n0 c0], ([.slice A1 n1 c1] ++ [vs x.Note]), rfl, rfl, ⟨_, rfl, h0⟩, ⟨_, _, [.slice A1 n1 c1], [vs x.Note], rfl, rfl, ⟨_, rfl, h1⟩, ⟨rfl, rfl, h2⟩⟩⟩
theorem ei145 : EI Try.prog 145 89 1 24 [.slice none 0 0] := EI_mk (z := .slice none 0 0) Try.underlying145 (by kernel_rfl) rfl rfl (by decide) (by decide)
theorem ei156 : EI Try.prog 156 52 1 24 [.slice none 0 0] := EI_mk (z := .slice none 0 0) Try.underlying156 (by kernel_rfl) rfl rfl (by decide) (by decide)
theorem ei158 : EI Try.prog 158 43 1 24 [.slice none 0 0] := EI_mk (z := .slice none 0 0) Try.underlying158 (by kernel_rfl) rfl rfl (by decide) (by decide)
theorem ei175 : EI Try.prog 175 69 1 24 [.slice none 0 0] := EI_mk (z := .slice none 0 0) Try.underlying175 (by kernel_rfl) rfl rfl (by decide) (by decide)
theorem ei22 : EI Try.prog 22 5 1 1 [.int .u8 0] := EI_mk (z := .int .u8 0) Try.underlying22 (by kernel_rfl) rfl rfl (by decide) (by decide)
theorem ei23 : EI Try.prog 23 29 2 16 [.int .i64 0, .int .i64 0] := EI_mk (z := .agg #[.int .i64 0, .int .i64 0]) Try.underlying23 (by kernel_rfl) rfl rfl (by decide) (by decide)
theorem ei32 : EI Try.prog 32 91 3 64 [.slice none 0 0, .slice none 0 0, vs []] := EI_mk (z := .agg #[.slice none 0 0, .slice none 0 0, vs []]) Try.underlying32 (by kernel_rfl) rfl rfl (by decide) (by decide)
theorem ei33 : EI Try.prog 33 93 2 24 [vs [], .int .i64 0] := EI_mk (z := .agg #[vs [], .int .i64 0]) Try.underlying33 (by kernel_rfl) rfl rfl (by decide) (by decide)
theorem ei43 : EI Try.prog 43 103 11 176 [vs [], vb false, vs [], .int .i64 0, .slice none 0 0, .slice none 0 0, vb false, vs [], .int .i64 0, .slice none 0 0, .slice none 0 0] := EI_mk (z := .agg #[vs [], vb false, vs [], .int .i64 0, .slice none 0 0, .slice none 0 0, vb false, vs [], .int .i64 0, .slice none 0 0, .slice none 0 0]) Try.underlying43 (by kernel_rfl) rfl rfl (by decide) (by decide)
theorem ei52 : EI Try.prog 52 71 4 72 [vs [], .int .i64 0, .slice none 0 0, .slice none 0 0] := EI_mk (z := .agg #[vs [], .int .i64 0, .slice none 0 0, .slice none 0 0]) Try.underlying52 (by kernel_rfl) rfl rfl (by decide) (by decide)
theorem ei69 : EI Try.prog 69 133 2 32 [vs [], vs []] := EI_mk (z := .agg #[vs [], vs []]) Try.underlying69 (by kernel_rfl) rfl rfl (by decide) (by decide)
theorem ei72 : EI Try.prog 72 9 1 16 [vs []] := EI_mk (z := vs []) Try.underlying72 (by kernel_rfl) rfl rfl (by decide) (by decide)
theorem ei86 : EI Try.prog 86 148 2 16 [.int .i64 0, .int .i64 0] := EI_mk (z := .agg #[.int .i64 0, .int .i64 0]) Try.underlying86 (by kernel_rfl) rfl rfl (by decide) (by decide)
theorem ei89 : EI Try.prog 89 3 1 8 [.int .i64 0] := EI_mk (z := .int .i64 0) Try.underlying89 (by kernel_rfl) rfl rfl (by decide) (by decide)
theorem se145 : SizeOf Try.prog 89 1 := SizeOf_mk (by kernel_rfl)
theorem se156 : SizeOf Try.prog 52 1 := SizeOf_mk (by kernel_rfl)
theorem se158 : SizeOf Try.prog 43 1 := SizeOf_mk (by kernel_rfl)
theorem se175 : SizeOf Try.prog 69 1 := SizeOf_mk (by kernel_rfl)
theorem se22 : SizeOf Try.prog 5 1 := SizeOf_mk (by kernel_rfl)
theorem se23 : SizeOf Try.prog 29 2 := SizeOf_mk (by kernel_rfl)
theorem se32 : SizeOf Try.prog 91 3 := SizeOf_mk (by kernel_rfl)
theorem se33 : SizeOf Try.prog 93 2 := SizeOf_mk (by kernel_rfl)
theorem se41 : SizeOf Try.prog 100 11 := SizeOf_mk (by kernel_rfl)
theorem se43 : SizeOf Try.prog 103 11 := SizeOf_mk (by kernel_rfl)
theorem se49 : SizeOf Try.prog 65 4 := SizeOf_mk (by kernel_rfl)
theorem se52 : SizeOf Try.prog 71 4 := SizeOf_mk (by kernel_rfl)
theorem se60 : SizeOf Try.prog 201 2 := SizeOf_mk (by kernel_rfl)
theorem se63 : SizeOf Try.prog 166 2 := SizeOf_mk (by kernel_rfl)
theorem se69 : SizeOf Try.prog 133 2 := SizeOf_mk (by kernel_rfl)
theorem se72 : SizeOf Try.prog 9 1 := SizeOf_mk (by kernel_rfl)
theorem se86 : SizeOf Try.prog 148 2 := SizeOf_mk (by kernel_rfl)
theorem se89 : SizeOf Try.prog 3 1 := SizeOf_mk (by kernel_rfl)
def eqTag (a b : Tag) : Bool := (a.Key == b.Key) && (a.Val == b.Val)
theorem eqTag_is (x y : Tag) : eqTag x y = decide (x = y) := by
  obtain ⟨a, b⟩ := x; obtain ⟨c, d⟩ := y
  simp only [eqTag, Tag.mk.injEq, Bool.decide_and]
  by_cases h1 : a = c <;> by_cases h2 : b = d <;> simp [h1, h2]
theorem qt133 (a b : Tag) : EqT Try.prog 133 [vs a.Key, vs a.Val] [vs b.Key, vs b.Val] (eqTag a b) := EqT_mk2 Try.underlying133 (by kernel_rfl) (by kernel_rfl) (by decide) (cmp1_str Try.underlying9 _ _) (cmp1_str Try.underlying9 _ _)
def eqvalue (a b : value) : Bool := (a.has == b.has) && (a.val == b.val)
theorem eqvalue_is (x y : value) : eqvalue x y = decide (x = y) := by
  obtain ⟨a, b⟩ := x; obtain ⟨c, d⟩ := y
  simp only [eqvalue, value.mk.injEq, Bool.decide_and]
  by_cases h1 : a = c <;> by_cases h2 : b = d <;> simp [h1, h2]
theorem qt135 (a b : value) : EqT Try.prog 135 [vb a.has, vs a.val] [vb b.has, vs b.val] (eqvalue a b) := EqT_mk2 Try.underlying135 (by kernel_rfl) (by kernel_rfl) (by decide) (cmp1_bool Try.underlying4 _ _) (cmp1_str Try.underlying9 _ _)
def eqPt (a b : Pt) : Bool := (a.X == b.X) && (a.Y == b.Y)
theorem eqPt_is (x y : Pt) : eqPt x y = decide (x = y) := by
  obtain ⟨a, b⟩ := x; obtain ⟨c, d⟩ := y
  simp only [eqPt, Pt.mk.injEq, Bool.decide_and]
  by_cases h1 : a = c <;> by_cases h2 : b = d <;> simp [h1, h2]
theorem qt29 (a b : Pt) : EqT Try.prog 29 [vi a.X, vi a.Y] [vi b.X, vi b.Y] (eqPt a b) := EqT_mk2 Try.underlying29 (by kernel_rfl) (by kernel_rfl) (by decide) (cmp1_int Try.underlying3 _ _) (cmp1_int Try.underlying3 _ _)
theorem fa100_0 : FA Try.prog 100 0 0 := FA_mk 1 0 Try.underlying100 rfl (by kernel_rfl) (by decide) rfl
theorem fa100_1 : FA Try.prog 100 1 1 := FA_mk 1 1 Try.underlying100 rfl (by kernel_rfl) (by decide) rfl
theorem fa100_2 : FA Try.prog 100 2 2 := FA_mk 4 2 Try.underlying100 rfl (by kernel_rfl) (by decide) rfl
theorem fa100_3 : FA Try.prog 100 3 6 := FA_mk 1 6 Try.underlying100 rfl (by kernel_rfl) (by decide) rfl
theorem fa100_4 : FA Try.prog 100 4 7 := FA_mk 4 7 Try.underlying100 rfl (by kernel_rfl) (by decide) rfl
theorem fa103_0 : FA Try.prog 103 0 0 := FA_mk 1 0 Try.underlying103 rfl (by kernel_rfl) (by decide) rfl
theorem fa103_1 : FA Try.prog 103 1 1 := FA_mk 1 1 Try.underlying103 rfl (by kernel_rfl) (by decide) rfl
theorem fa103_2 : FA Try.prog 103 2 2 := FA_mk 4 2 Try.underlying103 rfl (by kernel_rfl) (by decide) rfl
theorem fa103_3 : FA Try.prog 103 3 6 := FA_mk 1 6 Try.underlying103 rfl (by kernel_rfl) (by decide) rfl
theorem fa103_4 : FA Try.prog 103 4 7 := FA_mk 4 7 Try.underlying103 rfl (by kernel_rfl) (by decide) rfl
theorem fa133_0 : FA Try.prog 133 0 0 := FA_mk 1 0 Try.underlying133 rfl (by kernel_rfl) (by decide) rfl
theorem fa133_1 : FA Try.prog 133 1 1 := FA_mk 1 1 Try.underlying133 rfl (by kernel_rfl) (by decide) rfl
theorem fa143_0 : FA Try.prog 143 0 0 := FA_mk 1 0 Try.underlying143 rfl (by kernel_rfl) (by decide) rfl
theorem fa143_1 : FA Try.prog 143 1 1 := FA_mk 1 1 Try.underlying143 rfl (by kernel_rfl) (by decide) rfl
theorem fa148_0 : FA Try.prog 148 0 0 := FA_mk 1 0 Try.underlying148 rfl (by kernel_rfl) (by decide) rfl
theorem fa148_1 : FA Try.prog 148 1 1 := FA_mk 1 1 Try.underlying148 rfl (by kernel_rfl) (by decide) rfl
theorem fa166_0 : FA Try.prog 166 0 0 := FA_mk 1 0 Try.underlying166 rfl (by kernel_rfl) (by decide) rfl
theorem fa166_1 : FA Try.prog 166 1 1 := FA_mk 1 1 Try.underlying166 rfl (by kernel_rfl) (by decide) rfl
theorem fa201_0 : FA Try.prog 201 0 0 := FA_mk 1 0 Try.underlying201 rfl (by kernel_rfl) (by decide) rfl
theorem fa201_1 : FA Try.prog 201 1 1 := FA_mk 1 1 Try.underlying201 rfl (by kernel_rfl) (by decide) rfl
theorem fa29_0 : FA Try.prog 29 0 0 := FA_mk 1 0 Try.underlying29 rfl (by kernel_rfl) (by decide) rfl
theorem fa29_1 : FA Try.prog 29 1 1 := FA_mk 1 1 Try.underlying29 rfl (by kernel_rfl) (by decide) rfl
theorem fa35_0 : FA Try.prog 35 0 0 := FA_mk 1 0 Try.underlying35 rfl (by kernel_rfl) (by decide) rfl
theorem fa35_1 : FA Try.prog 35 1 1 := FA_mk 1 1 Try.underlying35 rfl (by kernel_rfl) (by decide) rfl
theorem fa62_0 : FA Try.prog 62 0 0 := FA_mk 1 0 Try.underlying62 rfl (by kernel_rfl) (by decide) rfl
theorem fa62_1 : FA Try.prog 62 1 1 := FA_mk 1 1 Try.underlying62 rfl (by kernel_rfl) (by decide) rfl
theorem fa65_0 : FA Try.prog 65 0 0 := FA_mk 1 0 Try.underlying65 rfl (by kernel_rfl) (by decide) rfl
theorem fa65_1 : FA Try.prog 65 1 1 := FA_mk 2 1 Try.underlying65 rfl (by kernel_rfl) (by decide) rfl
theorem fa65_2 : FA Try.prog 65 2 3 := FA_mk 1 3 Try.underlying65 rfl (by kernel_rfl) (by decide) rfl
theorem fa68_0 : FA Try.prog 68 0 0 := FA_mk 1 0 Try.underlying68 rfl (by kernel_rfl) (by decide) rfl
theorem fa68_1 : FA Try.prog 68 1 1 := FA_mk 1 1 Try.underlying68 rfl (by kernel_rfl) (by decide) rfl
theorem fa71_0 : FA Try.prog 71 0 0 := FA_mk 1 0 Try.underlying71 rfl (by kernel_rfl) (by decide) rfl
theorem fa71_1 : FA Try.prog 71 1 1 := FA_mk 2 1 Try.underlying71 rfl (by kernel_rfl) (by decide) rfl
theorem fa71_2 : FA Try.prog 71 2 3 := FA_mk 1 3 Try.underlying71 rfl (by kernel_rfl) (by decide) rfl
theorem fa91_0 : FA Try.prog 91 0 0 := FA_mk 1 0 Try.underlying91 rfl (by kernel_rfl) (by decide) rfl
theorem fa91_1 : FA Try.prog 91 1 1 := FA_mk 1 1 Try.underlying91 rfl (by kernel_rfl) (by decide) rfl
theorem fa91_2 : FA Try.prog 91 2 2 := FA_mk 1 2 Try.underlying91 rfl (by kernel_rfl) (by decide) rfl
theorem fa93_0 : FA Try.prog 93 0 0 := FA_mk 1 0 Try.underlying93 rfl (by kernel_rfl) (by decide) rfl
theorem fa93_1 : FA Try.prog 93 1 1 := FA_mk 1 1 Try.underlying93 rfl (by kernel_rfl) (by decide) rfl
theorem foc103_0 : Foc dChange_103 (Dd.flat (k := Kd.str) str_flat) 0 (fun x => x.Id) (fun x y => (⟨y, x.Had, x.Was, x.Has, x.Now⟩ : Change)) := (Foc.iso (fun (a : Str × Bool × Feat × Bool × Feat) => (⟨a.1, a.2.1, a.2.2.1, a.2.2.2.1, a.2.2.2.2⟩ : Change)) (fun _ => rfl) Foc.left)
theorem foc103_1 : Foc dChange_103 (Dd.flat (k := Kd.bool) bool_flat) 1 (fun x => x.Had) (fun x y => (⟨x.Id, y, x.Was, x.Has, x.Now⟩ : Change)) := (Foc.iso (fun (a : Str × Bool × Feat × Bool × Feat) => (⟨a.1, a.2.1, a.2.2.1, a.2.2.2.1, a.2.2.2.2⟩ : Change)) (fun _ => rfl) (Foc.trans Foc.right Foc.left))
theorem foc103_10 : Foc dChange_103 (Dd.sl (Dd.flat kTag_flat) 133) 10 (fun x => x.Now.Tags) (fun x y => (⟨x.Id, x.Had, x.Was, x.Has, (⟨x.Now.Id, x.Now.Shape, y⟩ : Feat)⟩ : Change)) := (Foc.iso (fun (a : Str × Bool × Feat × Bool × Feat) => (⟨a.1, a.2.1, a.2.2.1, a.2.2.2.1, a.2.2.2.2⟩ : Change)) (fun _ => rfl) (Foc.trans Foc.right (Foc.trans Foc.right (Foc.trans Foc.right (Foc.trans Foc.right (Foc.iso (fun (a : Str × Shape × (List Tag)) => (⟨a.1, a.2.1, a.2.2⟩ : Feat)) (fun _ => rfl) (Foc.trans Foc.right Foc.right)))))))
theorem foc103_2 : Foc dChange_103 (Dd.flat (k := Kd.str) str_flat) 2 (fun x => x.Was.Id) (fun x y => (⟨x.Id, x.Had, (⟨y, x.Was.Shape, x.Was.Tags⟩ : Feat), x.Has, x.Now⟩ : Change)) := (Foc.iso (fun (a : Str × Bool × Feat × Bool × Feat) => (⟨a.1, a.2.1, a.2.2.1, a.2.2.2.1, a.2.2.2.2⟩ : Change)) (fun _ => rfl) (Foc.trans Foc.right (Foc.trans Foc.right (Foc.trans Foc.left (Foc.iso (fun (a : Str × Shape × (List Tag)) => (⟨a.1, a.2.1, a.2.2⟩ : Feat)) (fun _ => rfl) Foc.left)))))
theorem foc103_3 : Foc dChange_103 (Dd.flat (k := (Kd.int .i64)) (int_flat _)) 3 (fun x => x.Was.Shape.Kind) (fun x y => (⟨x.Id, x.Had, (⟨x.Was.Id, (⟨y, x.Was.Shape.Pts⟩ : Shape), x.Was.Tags⟩ : Feat), x.Has, x.Now⟩ : Change)) := (Foc.iso (fun (a : Str × Bool × Feat × Bool × Feat) => (⟨a.1, a.2.1, a.2.2.1, a.2.2.2.1, a.2.2.2.2⟩ : Change)) (fun _ => rfl) (Foc.trans Foc.right (Foc.trans Foc.right (Foc.trans Foc.left (Foc.iso (fun (a : Str × Shape × (List Tag)) => (⟨a.1, a.2.1, a.2.2⟩ : Feat)) (fun _ => rfl) (Foc.trans Foc.right (Foc.trans Foc.left (Foc.iso (fun (a : Int × (List Pt)) => (⟨a.1, a.2⟩ : Shape)) (fun _ => rfl) Foc.left))))))))
theorem foc103_4 : Foc dChange_103 (Dd.sl (Dd.flat kPt_flat) 29) 4 (fun x => x.Was.Shape.Pts) (fun x y => (⟨x.Id, x.Had, (⟨x.Was.Id, (⟨x.Was.Shape.Kind, y⟩ : Shape), x.Was.Tags⟩ : Feat), x.Has, x.Now⟩ : Change)) := (Foc.iso (fun (a : Str × Bool × Feat × Bool × Feat) => (⟨a.1, a.2.1, a.2.2.1, a.2.2.2.1, a.2.2.2.2⟩ : Change)) (fun _ => rfl) (Foc.trans Foc.right (Foc.trans Foc.right (Foc.trans Foc.left (Foc.iso (fun (a : Str × Shape × (List Tag)) => (⟨a.1, a.2.1, a.2.2⟩ : Feat)) (fun _ => rfl) (Foc.trans Foc.right (Foc.trans Foc.left (Foc.iso (fun (a : Int × (List Pt)) => (⟨a.1, a.2⟩ : Shape)) (fun _ => rfl) Foc.right))))))))
theorem foc103_5 : Foc dChange_103 (Dd.sl (Dd.flat kTag_flat) 133) 5 (fun x => x.Was.Tags) (fun x y => (⟨x.Id, x.Had, (⟨x.Was.Id, x.Was.Shape, y⟩ : Feat), x.Has, x.Now⟩ : Change)) := (Foc.iso (fun (a : Str × Bool × Feat × Bool × Feat) => (⟨a.1, a.2.1, a.2.2.1, a.2.2.2.1, a.2.2.2.2⟩ : Change)) (fun _ => rfl) (Foc.trans Foc.right (Foc.trans Foc.right (Foc.trans Foc.left (Foc.iso (fun (a : Str × Shape × (List Tag)) => (⟨a.1, a.2.1, a.2.2⟩ : Feat)) (fun _ => rfl) (Foc.trans Foc.right Foc.right))))))
theorem foc103_6 : Foc dChange_103 (Dd.flat (k := Kd.bool) bool_flat) 6 (fun x => x.Has) (fun x y => (⟨x.Id, x.Had, x.Was, y, x.Now⟩ : Change)) := (Foc.iso (fun (a : Str × Bool × Feat × Bool × Feat) => (⟨a.1, a.2.1, a.2.2.1, a.2.2.2.1, a.2.2.2.2⟩ : Change)) (fun _ => rfl) (Foc.trans Foc.right (Foc.trans Foc.right (Foc.trans Foc.right Foc.left))))
theorem foc103_7 : Foc dChange_103 (Dd.flat (k := Kd.str) str_flat) 7 (fun x => x.Now.Id) (fun x y => (⟨x.Id, x.Had, x.Was, x.Has, (⟨y, x.Now.Shape, x.Now.Tags⟩ : Feat)⟩ : Change)) := (Foc.iso (fun (a : Str × Bool × Feat × Bool × Feat) => (⟨a.1, a.2.1, a.2.2.1, a.2.2.2.1, a.2.2.2.2⟩ : Change)) (fun _ => rfl) (Foc.trans Foc.right (Foc.trans Foc.right (Foc.trans Foc.right (Foc.trans Foc.right (Foc.iso (fun (a : Str × Shape × (List Tag)) => (⟨a.1, a.2.1, a.2.2⟩ : Feat)) (fun _ => rfl) Foc.left))))))
theorem foc103_8 : Foc dChange_103 (Dd.flat (k := (Kd.int .i64)) (int_flat _)) 8 (fun x => x.Now.Shape.Kind) (fun x y => (⟨x.Id, x.Had, x.Was, x.Has, (⟨x.Now.Id, (⟨y, x.Now.Shape.Pts⟩ : Shape), x.Now.Tags⟩ : Feat)⟩ : Change)) := (Foc.iso (fun (a : Str × Bool × Feat × Bool × Feat) => (⟨a.1, a.2.1, a.2.2.1, a.2.2.2.1, a.2.2.2.2⟩ : Change)) (fun _ => rfl) (Foc.trans Foc.right (Foc.trans Foc.right (Foc.trans Foc.right (Foc.trans Foc.right (Foc.iso (fun (a : Str × Shape × (List Tag)) => (⟨a.1, a.2.1, a.2.2⟩ : Feat)) (fun _ => rfl) (Foc.trans Foc.right (Foc.trans Foc.left (Foc.iso (fun (a : Int × (List Pt)) => (⟨a.1, a.2⟩ : Shape)) (fun _ => rfl) Foc.left)))))))))
theorem foc103_9 : Foc dChange_103 (Dd.sl (Dd.flat kPt_flat) 29) 9 (fun x => x.Now.Shape.Pts) (fun x y => (⟨x.Id, x.Had, x.Was, x.Has, (⟨x.Now.Id, (⟨x.Now.Shape.Kind, y⟩ : Shape), x.Now.Tags⟩ : Feat)⟩ : Change)) := (Foc.iso (fun (a : Str × Bool × Feat × Bool × Feat) => (⟨a.1, a.2.1, a.2.2.1, a.2.2.2.1, a.2.2.2.2⟩ : Change)) (fun _ => rfl) (Foc.trans Foc.right (Foc.trans Foc.right (Foc.trans Foc.right (Foc.trans Foc.right (Foc.iso (fun (a : Str × Shape × (List Tag)) => (⟨a.1, a.2.1, a.2.2⟩ : Feat)) (fun _ => rfl) (Foc.trans Foc.right (Foc.trans Foc.left (Foc.iso (fun (a : Int × (List Pt)) => (⟨a.1, a.2⟩ : Shape)) (fun _ => rfl) Foc.right)))))))))
theorem foc71_0 : Foc dFeat_71 (Dd.flat (k := Kd.str) str_flat) 0 (fun x => x.Id) (fun x y => (⟨y, x.Shape, x.Tags⟩ : Feat)) := (Foc.iso (fun (a : Str × Shape × (List Tag)) => (⟨a.1, a.2.1, a.2.2⟩ : Feat)) (fun _ => rfl) Foc.left)
theorem foc71_1 : Foc dFeat_71 (Dd.flat (k := (Kd.int .i64)) (int_flat _)) 1 (fun x => x.Shape.Kind) (fun x y => (⟨x.Id, (⟨y, x.Shape.Pts⟩ : Shape), x.Tags⟩ : Feat)) := (Foc.iso (fun (a : Str × Shape × (List Tag)) => (⟨a.1, a.2.1, a.2.2⟩ : Feat)) (fun _ => rfl) (Foc.trans Foc.right (Foc.trans Foc.left (Foc.iso (fun (a : Int × (List Pt)) => (⟨a.1, a.2⟩ : Shape)) (fun _ => rfl) Foc.left))))
theorem foc71_2 : Foc dFeat_71 (Dd.sl (Dd.flat kPt_flat) 29) 2 (fun x => x.Shape.Pts) (fun x y => (⟨x.Id, (⟨x.Shape.Kind, y⟩ : Shape), x.Tags⟩ : Feat)) := (Foc.iso (fun (a : Str × Shape × (List Tag)) => (⟨a.1, a.2.1, a.2.2⟩ : Feat)) (fun _ => rfl) (Foc.trans Foc.right (Foc.trans Foc.left (Foc.iso (fun (a : Int × (List Pt)) => (⟨a.1, a.2⟩ : Shape)) (fun _ => rfl) Foc.right))))
theorem foc71_3 : Foc dFeat_71 (Dd.sl (Dd.flat kTag_flat) 133) 3 (fun x => x.Tags) (fun x y => (⟨x.Id, x.Shape, y⟩ : Feat)) := (Foc.iso (fun (a : Str × Shape × (List Tag)) => (⟨a.1, a.2.1, a.2.2⟩ : Feat)) (fun _ => rfl) (Foc.trans Foc.right Foc.right))
theorem foc91_0 : Foc dCommit_91 (Dd.sl (Dd.flat (k := (Kd.int .i64)) (int_flat _)) 3) 0 (fun x => x.Up) (fun x y => (⟨y, x.Sheet, x.Note⟩ : Commit)) := (Foc.iso (fun (a : (List Int) × (List Feat) × Str) => (⟨a.1, a.2.1, a.2.2⟩ : Commit)) (fun _ => rfl) Foc.left)
theorem foc91_1 : Foc dCommit_91 (Dd.sl dFeat_71 71) 1 (fun x => x.Sheet) (fun x y => (⟨x.Up, y, x.Note⟩ : Commit)) := (Foc.iso (fun (a : (List Int) × (List Feat) × Str) => (⟨a.1, a.2.1, a.2.2⟩ : Commit)) (fun _ => rfl) (Foc.trans Foc.right Foc.left))
theorem foc91_2 : Foc dCommit_91 (Dd.flat (k := Kd.str) str_flat) 2 (fun x => x.Note) (fun x y => (⟨x.Up, x.Sheet, y⟩ : Commit)) := (Foc.iso (fun (a : (List Int) × (List Feat) × Str) => (⟨a.1, a.2.1, a.2.2⟩ : Commit)) (fun _ => rfl) (Foc.trans Foc.right Foc.right))
theorem go10 : Goes Try.prog 10 := ⟨_, Try.func10, by kernel_rfl, rfl⟩
theorem go102 : Goes Try.prog 102 := ⟨_, Try.func102, by kernel_rfl, rfl⟩
theorem go103 : Goes Try.prog 103 := ⟨_, Try.func103, by kernel_rfl, rfl⟩
theorem go104 : Goes Try.prog 104 := ⟨_, Try.func104, by kernel_rfl, rfl⟩
theorem go105 : Goes Try.prog 105 := ⟨_, Try.func105, by kernel_rfl, rfl⟩
theorem go106 : Goes Try.prog 106 := ⟨_, Try.func106, by kernel_rfl, rfl⟩
theorem go107 : Goes Try.prog 107 := ⟨_, Try.func107, by kernel_rfl, rfl⟩
theorem go108 : Goes Try.prog 108 := ⟨_, Try.func108, by kernel_rfl, rfl⟩
theorem go109 : Goes Try.prog 109 := ⟨_, Try.func109, by kernel_rfl, rfl⟩
theorem go11 : Goes Try.prog 11 := ⟨_, Try.func11, by kernel_rfl, rfl⟩
theorem go110 : Goes Try.prog 110 := ⟨_, Try.func110, by kernel_rfl, rfl⟩
theorem go111 : Goes Try.prog 111 := ⟨_, Try.func111, by kernel_rfl, rfl⟩
theorem go112 : Goes Try.prog 112 := ⟨_, Try.func112, by kernel_rfl, rfl⟩
theorem go113 : Goes Try.prog 113 := ⟨_, Try.func113, by kernel_rfl, rfl⟩
theorem go114 : Goes Try.prog 114 := ⟨_, Try.func114, by kernel_rfl, rfl⟩
theorem go115 : Goes Try.prog 115 := ⟨_, Try.func115, by kernel_rfl, rfl⟩
theorem go116 : Goes Try.prog 116 := ⟨_, Try.func116, by kernel_rfl, rfl⟩
theorem go117 : Goes Try.prog 117 := ⟨_, Try.func117, by kernel_rfl, rfl⟩
theorem go118 : Goes Try.prog 118 := ⟨_, Try.func118, by kernel_rfl, rfl⟩
theorem go119 : Goes Try.prog 119 := ⟨_, Try.func119, by kernel_rfl, rfl⟩
theorem go12 : Goes Try.prog 12 := ⟨_, Try.func12, by kernel_rfl, rfl⟩
theorem go120 : Goes Try.prog 120 := ⟨_, Try.func120, by kernel_rfl, rfl⟩
theorem go121 : Goes Try.prog 121 := ⟨_, Try.func121, by kernel_rfl, rfl⟩
theorem go122 : Goes Try.prog 122 := ⟨_, Try.func122, by kernel_rfl, rfl⟩
theorem go123 : Goes Try.prog 123 := ⟨_, Try.func123, by kernel_rfl, rfl⟩
theorem go124 : Goes Try.prog 124 := ⟨_, Try.func124, by kernel_rfl, rfl⟩
theorem go125 : Goes Try.prog 125 := ⟨_, Try.func125, by kernel_rfl, rfl⟩
theorem go129 : Goes Try.prog 129 := ⟨_, Try.func129, by kernel_rfl, rfl⟩
theorem go13 : Goes Try.prog 13 := ⟨_, Try.func13, by kernel_rfl, rfl⟩
theorem go130 : Goes Try.prog 130 := ⟨_, Try.func130, by kernel_rfl, rfl⟩
theorem go131 : Goes Try.prog 131 := ⟨_, Try.func131, by kernel_rfl, rfl⟩
theorem go132 : Goes Try.prog 132 := ⟨_, Try.func132, by kernel_rfl, rfl⟩
theorem go133 : Goes Try.prog 133 := ⟨_, Try.func133, by kernel_rfl, rfl⟩
theorem go134 : Goes Try.prog 134 := ⟨_, Try.func134, by kernel_rfl, rfl⟩
theorem go135 : Goes Try.prog 135 := ⟨_, Try.func135, by kernel_rfl, rfl⟩
theorem go136 : Goes Try.prog 136 := ⟨_, Try.func136, by kernel_rfl, rfl⟩
theorem go137 : Goes Try.prog 137 := ⟨_, Try.func137, by kernel_rfl, rfl⟩
theorem go138 : Goes Try.prog 138 := ⟨_, Try.func138, by kernel_rfl, rfl⟩
theorem go139 : Goes Try.prog 139 := ⟨_, Try.func139, by kernel_rfl, rfl⟩
theorem go14 : Goes Try.prog 14 := ⟨_, Try.func14, by kernel_rfl, rfl⟩
theorem go140 : Goes Try.prog 140 := ⟨_, Try.func140, by kernel_rfl, rfl⟩
theorem go141 : Goes Try.prog 141 := ⟨_, Try.func141, by kernel_rfl, rfl⟩
theorem go143 : Goes Try.prog 143 := ⟨_, Try.func143, by kernel_rfl, rfl⟩
theorem go144 : Goes Try.prog 144 := ⟨_, Try.func144, by kernel_rfl, rfl⟩
theorem go145 : Goes Try.prog 145 := ⟨_, Try.func145, by kernel_rfl, rfl⟩
theorem go146 : Goes Try.prog 146 := ⟨_, Try.func146, by kernel_rfl, rfl⟩
theorem go147 : Goes Try.prog 147 := ⟨_, Try.func147, by kernel_rfl, rfl⟩
theorem go148 : Goes Try.prog 148 := ⟨_, Try.func148, by kernel_rfl, rfl⟩
theorem go149 : Goes Try.prog 149 := ⟨_, Try.func149, by kernel_rfl, rfl⟩
theorem go15 : Goes Try.prog 15 := ⟨_, Try.func15, by kernel_rfl, rfl⟩
theorem go150 : Goes Try.prog 150 := ⟨_, Try.func150, by kernel_rfl, rfl⟩
theorem go151 : Goes Try.prog 151 := ⟨_, Try.func151, by kernel_rfl, rfl⟩
theorem go152 : Goes Try.prog 152 := ⟨_, Try.func152, by kernel_rfl, rfl⟩
theorem go153 : Goes Try.prog 153 := ⟨_, Try.func153, by kernel_rfl, rfl⟩
theorem go16 : Goes Try.prog 16 := ⟨_, Try.func16, by kernel_rfl, rfl⟩
theorem go165 : Goes Try.prog 165 := ⟨_, Try.func165, by kernel_rfl, rfl⟩
theorem go166 : Goes Try.prog 166 := ⟨_, Try.func166, by kernel_rfl, rfl⟩
theorem go167 : Goes Try.prog 167 := ⟨_, Try.func167, by kernel_rfl, rfl⟩
theorem go168 : Goes Try.prog 168 := ⟨_, Try.func168, by kernel_rfl, rfl⟩
theorem go169 : Goes Try.prog 169 := ⟨_, Try.func169, by kernel_rfl, rfl⟩
theorem go17 : Goes Try.prog 17 := ⟨_, Try.func17, by kernel_rfl, rfl⟩
theorem go170 : Goes Try.prog 170 := ⟨_, Try.func170, by kernel_rfl, rfl⟩
theorem go171 : Goes Try.prog 171 := ⟨_, Try.func171, by kernel_rfl, rfl⟩
theorem go172 : Goes Try.prog 172 := ⟨_, Try.func172, by kernel_rfl, rfl⟩
theorem go179 : Goes Try.prog 179 := ⟨_, Try.func179, by kernel_rfl, rfl⟩
theorem go18 : Goes Try.prog 18 := ⟨_, Try.func18, by kernel_rfl, rfl⟩
theorem go19 : Goes Try.prog 19 := ⟨_, Try.func19, by kernel_rfl, rfl⟩
theorem go20 : Goes Try.prog 20 := ⟨_, Try.func20, by kernel_rfl, rfl⟩
theorem go21 : Goes Try.prog 21 := ⟨_, Try.func21, by kernel_rfl, rfl⟩
theorem go22 : Goes Try.prog 22 := ⟨_, Try.func22, by kernel_rfl, rfl⟩
theorem go23 : Goes Try.prog 23 := ⟨_, Try.func23, by kernel_rfl, rfl⟩
theorem go24 : Goes Try.prog 24 := ⟨_, Try.func24, by kernel_rfl, rfl⟩
theorem go25 : Goes Try.prog 25 := ⟨_, Try.func25, by kernel_rfl, rfl⟩
theorem go26 : Goes Try.prog 26 := ⟨_, Try.func26, by kernel_rfl, rfl⟩
theorem go27 : Goes Try.prog 27 := ⟨_, Try.func27, by kernel_rfl, rfl⟩
theorem go28 : Goes Try.prog 28 := ⟨_, Try.func28, by kernel_rfl, rfl⟩
theorem go29 : Goes Try.prog 29 := ⟨_, Try.func29, by kernel_rfl, rfl⟩
theorem go30 : Goes Try.prog 30 := ⟨_, Try.func30, by kernel_rfl, rfl⟩
theorem go31 : Goes Try.prog 31 := ⟨_, Try.func31, by kernel_rfl, rfl⟩
theorem go33 : Goes Try.prog 33 := ⟨_, Try.func33, by kernel_rfl, rfl⟩
theorem go35 : Goes Try.prog 35 := ⟨_, Try.func35, by kernel_rfl, rfl⟩
theorem go37 : Goes Try.prog 37 := ⟨_, Try.func37, by kernel_rfl, rfl⟩
theorem go43 : Goes Try.prog 43 := ⟨_, Try.func43, by kernel_rfl, rfl⟩
theorem go44 : Goes Try.prog 44 := ⟨_, Try.func44, by kernel_rfl, rfl⟩
theorem go45 : Goes Try.prog 45 := ⟨_, Try.func45, by kernel_rfl, rfl⟩
theorem go46 : Goes Try.prog 46 := ⟨_, Try.func46, by kernel_rfl, rfl⟩
theorem go47 : Goes Try.prog 47 := ⟨_, Try.func47, by kernel_rfl, rfl⟩
theorem go48 : Goes Try.prog 48 := ⟨_, Try.func48, by kernel_rfl, rfl⟩
theorem go49 : Goes Try.prog 49 := ⟨_, Try.func49, by kernel_rfl, rfl⟩
theorem go50 : Goes Try.prog 50 := ⟨_, Try.func50, by kernel_rfl, rfl⟩
theorem go51 : Goes Try.prog 51 := ⟨_, Try.func51, by kernel_rfl, rfl⟩
theorem go52 : Goes Try.prog 52 := ⟨_, Try.func52, by kernel_rfl, rfl⟩
theorem go53 : Goes Try.prog 53 := ⟨_, Try.func53, by kernel_rfl, rfl⟩
theorem go54 : Goes Try.prog 54 := ⟨_, Try.func54, by kernel_rfl, rfl⟩
theorem go55 : Goes Try.prog 55 := ⟨_, Try.func55, by kernel_rfl, rfl⟩
theorem go56 : Goes Try.prog 56 := ⟨_, Try.func56, by kernel_rfl, rfl⟩
theorem go57 : Goes Try.prog 57 := ⟨_, Try.func57, by kernel_rfl, rfl⟩
theorem go58 : Goes Try.prog 58 := ⟨_, Try.func58, by kernel_rfl, rfl⟩
theorem go59 : Goes Try.prog 59 := ⟨_, Try.func59, by kernel_rfl, rfl⟩
theorem go60 : Goes Try.prog 60 := ⟨_, Try.func60, by kernel_rfl, rfl⟩
theorem go61 : Goes Try.prog 61 := ⟨_, Try.func61, by kernel_rfl, rfl⟩
theorem go62 : Goes Try.prog 62 := ⟨_, Try.func62, by kernel_rfl, rfl⟩
theorem go63 : Goes Try.prog 63 := ⟨_, Try.func63, by kernel_rfl, rfl⟩
theorem go64 : Goes Try.prog 64 := ⟨_, Try.func64, by kernel_rfl, rfl⟩
theorem go65 : Goes Try.prog 65 := ⟨_, Try.func65, by kernel_rfl, rfl⟩
theorem go66 : Goes Try.prog 66 := ⟨_, Try.func66, by kernel_rfl, rfl⟩
theorem go67 : Goes Try.prog 67 := ⟨_, Try.func67, by kernel_rfl, rfl⟩
theorem go68 : Goes Try.prog 68 := ⟨_, Try.func68, by kernel_rfl, rfl⟩
theorem go69 : Goes Try.prog 69 := ⟨_, Try.func69, by kernel_rfl, rfl⟩
theorem go70 : Goes Try.prog 70 := ⟨_, Try.func70, by kernel_rfl, rfl⟩
theorem go71 : Goes Try.prog 71 := ⟨_, Try.func71, by kernel_rfl, rfl⟩
theorem go72 : Goes Try.prog 72 := ⟨_, Try.func72, by kernel_rfl, rfl⟩
theorem go73 : Goes Try.prog 73 := ⟨_, Try.func73, by kernel_rfl, rfl⟩
theorem go74 : Goes Try.prog 74 := ⟨_, Try.func74, by kernel_rfl, rfl⟩
theorem go75 : Goes Try.prog 75 := ⟨_, Try.func75, by kernel_rfl, rfl⟩
theorem go76 : Goes Try.prog 76 := ⟨_, Try.func76, by kernel_rfl, rfl⟩
theorem go77 : Goes Try.prog 77 := ⟨_, Try.func77, by kernel_rfl, rfl⟩
theorem go78 : Goes Try.prog 78 := ⟨_, Try.func78, by kernel_rfl, rfl⟩
theorem go79 : Goes Try.prog 79 := ⟨_, Try.func79, by kernel_rfl, rfl⟩
theorem go80 : Goes Try.prog 80 := ⟨_, Try.func80, by kernel_rfl, rfl⟩
theorem go81 : Goes Try.prog 81 := ⟨_, Try.func81, by kernel_rfl, rfl⟩
theorem go83 : Goes Try.prog 83 := ⟨_, Try.func83, by kernel_rfl, rfl⟩
theorem go84 : Goes Try.prog 84 := ⟨_, Try.func84, by kernel_rfl, rfl⟩
theorem go86 : Goes Try.prog 86 := ⟨_, Try.func86, by kernel_rfl, rfl⟩
theorem go87 : Goes Try.prog 87 := ⟨_, Try.func87, by kernel_rfl, rfl⟩
theorem go88 : Goes Try.prog 88 := ⟨_, Try.func88, by kernel_rfl, rfl⟩
theorem go89 : Goes Try.prog 89 := ⟨_, Try.func89, by kernel_rfl, rfl⟩
theorem go9 : Goes Try.prog 9 := ⟨_, Try.func9, by kernel_rfl, rfl⟩
theorem go91 : Goes Try.prog 91 := ⟨_, Try.func91, by kernel_rfl, rfl⟩
theorem go92 : Goes Try.prog 92 := ⟨_, Try.func92, by kernel_rfl, rfl⟩
theorem go93 : Goes Try.prog 93 := ⟨_, Try.func93, by kernel_rfl, rfl⟩
theorem go94 : Goes Try.prog 94 := ⟨_, Try.func94, by kernel_rfl, rfl⟩
theorem go95 : Goes Try.prog 95 := ⟨_, Try.func95, by kernel_rfl, rfl⟩
theorem go96 : Goes Try.prog 96 := ⟨_, Try.func96, by kernel_rfl, rfl⟩
theorem go97 : Goes Try.prog 97 := ⟨_, Try.func97, by kernel_rfl, rfl⟩
theorem sz100 : SizeOf Try.prog 100 11 := SizeOf_mk (by kernel_rfl)
theorem sz103 : SizeOf Try.prog 103 11 := SizeOf_mk (by kernel_rfl)
theorem sz133 : SizeOf Try.prog 133 2 := SizeOf_mk (by kernel_rfl)
theorem sz135 : SizeOf Try.prog 135 2 := SizeOf_mk (by kernel_rfl)
theorem sz148 : SizeOf Try.prog 148 2 := SizeOf_mk (by kernel_rfl)
theorem sz166 : SizeOf Try.prog 166 2 := SizeOf_mk (by kernel_rfl)
theorem sz201 : SizeOf Try.prog 201 2 := SizeOf_mk (by kernel_rfl)
theorem sz23 : SizeOf Try.prog 23 1 := SizeOf_mk (by kernel_rfl)
theorem sz29 : SizeOf Try.prog 29 2 := SizeOf_mk (by kernel_rfl)
theorem sz3 : SizeOf Try.prog 3 1 := SizeOf_mk (by kernel_rfl)
theorem sz35 : SizeOf Try.prog 35 2 := SizeOf_mk (by kernel_rfl)
theorem sz4 : SizeOf Try.prog 4 1 := SizeOf_mk (by kernel_rfl)
theorem sz62 : SizeOf Try.prog 62 2 := SizeOf_mk (by kernel_rfl)
theorem sz65 : SizeOf Try.prog 65 4 := SizeOf_mk (by kernel_rfl)
theorem sz68 : SizeOf Try.prog 68 2 := SizeOf_mk (by kernel_rfl)
theorem sz69 : SizeOf Try.prog 69 1 := SizeOf_mk (by kernel_rfl)
theorem sz71 : SizeOf Try.prog 71 4 := SizeOf_mk (by kernel_rfl)
theorem sz89 : SizeOf Try.prog 89 1 := SizeOf_mk (by kernel_rfl)
theorem sz9 : SizeOf Try.prog 9 1 := SizeOf_mk (by kernel_rfl)
theorem sz91 : SizeOf Try.prog 91 3 := SizeOf_mk (by kernel_rfl)
theorem sz93 : SizeOf Try.prog 93 2 := SizeOf_mk (by kernel_rfl)
theorem ze103 : ZeroOf Try.prog 103 [vs [], vb false, vs [], .int .i64 0, .slice none 0 0, .slice none 0 0, vb false, vs [], .int .i64 0, .slice none 0 0, .slice none 0 0] := ZeroOf_mk (z := .agg #[vs [], vb false, vs [], .int .i64 0, .slice none 0 0, .slice none 0 0, vb false, vs [], .int .i64 0, .slice none 0 0, .slice none 0 0]) (by kernel_rfl) rfl
theorem ze133 : ZeroOf Try.prog 133 [vs [], vs []] := ZeroOf_mk (z := .agg #[vs [], vs []]) (by kernel_rfl) rfl
theorem ze135 : ZeroOf Try.prog 135 [vb false, vs []] := ZeroOf_mk (z := .agg #[vb false, vs []]) (by kernel_rfl) rfl
theorem ze148 : ZeroOf Try.prog 148 [.int .i64 0, .int .i64 0] := ZeroOf_mk (z := .agg #[.int .i64 0, .int .i64 0]) (by kernel_rfl) rfl
theorem ze29 : ZeroOf Try.prog 29 [.int .i64 0, .int .i64 0] := ZeroOf_mk (z := .agg #[.int .i64 0, .int .i64 0]) (by kernel_rfl) rfl
theorem ze35 : ZeroOf Try.prog 35 [.slice none 0 0, .slice none 0 0] := ZeroOf_mk (z := .agg #[.slice none 0 0, .slice none 0 0]) (by kernel_rfl) rfl
theorem ze68 : ZeroOf Try.prog 68 [.int .i64 0, .slice none 0 0] := ZeroOf_mk (z := .agg #[.int .i64 0, .slice none 0 0]) (by kernel_rfl) rfl
theorem ze71 : ZeroOf Try.prog 71 [vs [], .int .i64 0, .slice none 0 0, .slice none 0 0] := ZeroOf_mk (z := .agg #[vs [], .int .i64 0, .slice none 0 0, .slice none 0 0]) (by kernel_rfl) rfl
end Go.Proofs.Ytndjggncgpjolaa

namespace Go.Proofs.Ytndjggncgpjolaa
open Go.RowKit
def vPt (x : Pt) : Prop := (I64 x.X) ∧ (I64 x.Y)
theorem tr201 : Tr Try.prog 201 kPt vPt := Tr.iso (Tr.struct (tot := 2) Try.underlying201 (by kernel_rfl) (TrF.cons (n := 1) (Tr.int Try.underlying3) rfl (by kernel_rfl) (TrF.one (n := 1) (Tr.int Try.underlying3) rfl (by kernel_rfl) (by decide)))) (fun x : Pt => (x.X, x.Y)) (fun a => (⟨a.1, a.2⟩ : Pt)) (fun _ => rfl)
def vShape (x : Shape) : Prop := (I64 x.Kind) ∧ (∀ y0 ∈ x.Pts, vPt y0)
theorem tr62 : Tr Try.prog 62 kShape vShape := Tr.iso (Tr.struct (tot := 2) Try.underlying62 (by kernel_rfl) (TrF.cons (n := 1) (Tr.int Try.underlying3) rfl (by kernel_rfl) (TrF.one (n := 1) (Tr.sl Try.underlying60 (by kernel_rfl) tr201) rfl (by kernel_rfl) (by decide)))) (fun x : Shape => (x.Kind, x.Pts)) (fun a => (⟨a.1, a.2⟩ : Shape)) (fun _ => rfl)
def vTag (x : Tag) : Prop := (Lim x.Key) ∧ (Lim x.Val)
theorem tr166 : Tr Try.prog 166 kTag vTag := Tr.iso (Tr.struct (tot := 2) Try.underlying166 (by kernel_rfl) (TrF.cons (n := 1) (Tr.str Try.underlying9) rfl (by kernel_rfl) (TrF.one (n := 1) (Tr.str Try.underlying9) rfl (by kernel_rfl) (by decide)))) (fun x : Tag => (x.Key, x.Val)) (fun a => (⟨a.1, a.2⟩ : Tag)) (fun _ => rfl)
def vFeat (x : Feat) : Prop := (Lim x.Id) ∧ (vShape x.Shape) ∧ (∀ y0 ∈ x.Tags, vTag y0)
theorem tr65 : Tr Try.prog 65 kFeat vFeat := Tr.iso (Tr.struct (tot := 4) Try.underlying65 (by kernel_rfl) (TrF.cons (n := 1) (Tr.str Try.underlying9) rfl (by kernel_rfl) (TrF.cons (n := 2) (tr62) rfl (by kernel_rfl) (TrF.one (n := 1) (Tr.sl Try.underlying63 (by kernel_rfl) tr166) rfl (by kernel_rfl) (by decide))))) (fun x : Feat => (x.Id, x.Shape, x.Tags)) (fun a => (⟨a.1, a.2.1, a.2.2⟩ : Feat)) (fun _ => rfl)
def vChange (x : Change) : Prop := (Lim x.Id) ∧ (True) ∧ (vFeat x.Was) ∧ (True) ∧ (vFeat x.Now)
theorem tr100 : Tr Try.prog 100 kChange vChange := Tr.iso (Tr.struct (tot := 11) Try.underlying100 (by kernel_rfl) (TrF.cons (n := 1) (Tr.str Try.underlying9) rfl (by kernel_rfl) (TrF.cons (n := 1) (Tr.bool Try.underlying4) rfl (by kernel_rfl) (TrF.cons (n := 4) (tr65) rfl (by kernel_rfl) (TrF.cons (n := 1) (Tr.bool Try.underlying4) rfl (by kernel_rfl) (TrF.one (n := 4) (tr65) rfl (by kernel_rfl) (by decide))))))) (fun x : Change => (x.Id, x.Had, x.Was, x.Has, x.Now)) (fun a => (⟨a.1, a.2.1, a.2.2.1, a.2.2.2.1, a.2.2.2.2⟩ : Change)) (fun _ => rfl)
end Go.Proofs.Ytndjggncgpjolaa

/- Plain laws for the shapes that the exact laws' helpers share. -/
namespace Go.Proofs.Ytndjggncgpjolaa
set_option linter.unusedVariables false
class Bulk (α : Type) where
  bulk : α → Nat
def bulk {α : Type} [Bulk α] : α → Nat := Bulk.bulk
instance : Bulk Int := ⟨fun _ => 0⟩
instance : Bulk Bool := ⟨fun _ => 0⟩
instance : Bulk UInt8 := ⟨fun _ => 0⟩
def bulkL {α : Type} [Bulk α] : List α → Nat
  | [] => 0
  | x :: l => 1 + Bulk.bulk x + bulkL l
instance {α : Type} [Bulk α] : Bulk (List α) := ⟨bulkL⟩
section
variable {α : Type} [Bulk α]
theorem bulk_nil : bulk ([] : List α) = 0 := rfl
theorem bulk_cons (x : α) (l : List α) : bulk (x :: l) = 1 + bulk x + bulk l := rfl
theorem bulk_app (l m : List α) : bulk (l ++ m) = bulk l + bulk m := by
  induction l with
  | nil => simp [bulk_nil]
  | cons x l ih => rw [List.cons_append, bulk_cons, bulk_cons, ih]; omega
theorem bulk_len (l : List α) : l.length ≤ bulk l := by
  induction l with
  | nil => exact Nat.zero_le _
  | cons x l ih => rw [bulk_cons, List.length_cons]; omega
theorem bulk_mem {l : List α} {x : α} (h : x ∈ l) : 1 + bulk x ≤ bulk l := by
  induction l with
  | nil => cases h
  | cons y l ih =>
    rw [bulk_cons]
    rcases List.mem_cons.1 h with rfl | h
    · omega
    · have := ih h; omega
theorem bulk_flat (h : ∀ x : α, bulk x = 0) (l : List α) : bulk l = l.length := by
  induction l with
  | nil => rfl
  | cons x l ih => rw [bulk_cons, h, ih, List.length_cons]; omega
theorem bulk_str (l : Str) : bulk l = l.length := bulk_flat (fun _ => rfl) l
theorem bulk_ints (l : List Int) : bulk l = l.length := bulk_flat (fun _ => rfl) l
theorem bulk_take (l : List α) (k : Nat) : bulk (l.take k) ≤ bulk l := by
  have h := bulk_app (l.take k) (l.drop k)
  rw [List.take_append_drop] at h; omega
end
section
variable {α : Type} [Inhabited α]
theorem nth_nat (l : List α) {k : Nat} (h : k < l.length) : nth l (k : Int) = l[k] := by
  unfold nth; rw [Int.toNat_natCast, List.getD_eq_getElem?_getD, List.getElem?_eq_getElem h]; rfl
theorem nth_mem (l : List α) {k : Nat} (h : k < l.length) : nth l (k : Int) ∈ l := by rw [nth_nat l h]; exact List.getElem_mem h
theorem nth_memi (l : List α) {i : Int} (h0 : 0 ≤ i) (h : i < (l.length : Int)) : nth l i ∈ l := by
  obtain ⟨k, rfl⟩ := Int.eq_ofNat_of_zero_le h0
  exact nth_mem l (by omega)
theorem take_nth (l : List α) {k : Nat} (h : k < l.length) : l.take (k + 1) = l.take k ++ [nth l (k : Int)] := by rw [nth_nat l h]; exact List.take_succ_eq_append_getElem h
theorem ext_nth {l m : List α} (h : l.length = m.length) (g : ∀ k, k < l.length → nth l (k : Int) = nth m (k : Int)) : l = m := by
  refine List.ext_getElem h fun k h1 h2 => ?_
  have := g k h1
  rwa [nth_nat l h1, nth_nat m h2] at this
end
/-- the bulk of a row, against what is left -/
theorem szS_shape {α : Type} [Inhabited α] [Bulk α] (el : α → Int → (Int → Prop) → Prop)
    (hel : ∀ (x : α) (left : Int) (Q : Int → Prop), 0 ≤ left → left ≤ 1048576 → (left - (bulk x : Nat) < 0 → Q (-1)) → (0 ≤ left - (bulk x : Nat) → Q (left - (bulk x : Nat))) → el x left Q)
    (a : List α) (left : Int) (Q : Int → Prop) (h0 : 0 ≤ left) (h1 : left ≤ 1048576) (hn : left - (bulk a : Nat) < 0 → Q (-1)) (hp : 0 ≤ left - (bulk a : Nat) → Q (left - (bulk a : Nat))) :
    ((a.length : Int) ≤ 9223372036854775807 → I64 (left - (a.length : Int))) ∧ (if decide (left - (a.length : Int) < 0) then Q (-1) else (∃ (I22 : Int → Int → Prop) (mu23 : Int → Int → Nat), I22 (left - (a.length : Int)) 0 ∧ ∀ (left3 : Int) (i2 : Int), I22 left3 i2 → (if decide (i2 < (a.length : Int)) then ((0 : Int) ≤ i2 ∧ i2 < (a.length : Int)) ∧ el (nth a i2) left3 (fun r => (if decide (r < 0) then Q (-1) else (-9223372036854775808 ≤ i2) ∧ I22 r (i2 + 1) ∧ mu23 r (i2 + 1) < mu23 left3 i2)) else Q left3))) := by
  have hl := bulk_len a
  refine ⟨fun _ => by unfold I64; omega, ?_⟩
  by_cases hc : left - (a.length : Int) < 0
  · rw [if_pos (by simpa using hc)]; exact hn (by omega)
  rw [if_neg (by simpa using hc)]
  refine ⟨fun l i => ∃ k : Nat, i = k ∧ k ≤ a.length ∧ 0 ≤ l ∧ l = left - (bulk (a.take k) : Nat) - ((a.length - k : Nat) : Int), fun _ i => (a.length - i).toNat, ⟨0, rfl, by omega, by omega, by simp [bulk_nil]⟩, ?_⟩
  rintro l _ ⟨k, rfl, hk, hl0, hle⟩
  by_cases hki : (k : Int) < (a.length : Int)
  · rw [if_pos (by simpa using hki)]
    have hk' : k < a.length := by omega
    have e := take_nth a hk'
    have hb : bulk (a.take (k + 1)) = bulk (a.take k) + (1 + bulk (nth a (k : Int))) := by rw [e, bulk_app, bulk_cons, bulk_nil]; omega
    have ht := bulk_app (a.take (k + 1)) (a.drop (k + 1))
    rw [List.take_append_drop] at ht
    have hdl := bulk_len (a.drop (k + 1))
    rw [List.length_drop] at hdl
    refine ⟨⟨by omega, hki⟩, hel (nth a (k : Int)) l _ hl0 (by omega) (fun h => ?_) (fun h => ?_)⟩
    · rw [if_pos (by decide)]; exact hn (by omega)
    · rw [if_neg (by simpa using h)]
      refine ⟨by omega, ⟨k + 1, by omega, by omega, h, ?_⟩, by dsimp only; omega⟩
      rw [hb]; omega
  · rw [if_neg (by simpa using hki)]
    have : k = a.length := by omega
    subst this
    rw [List.take_length, Nat.sub_self] at hle
    have : l = left - (bulk a : Nat) := by omega
    subst this
    exact hp hl0
theorem szL_shape {α : Type} [Bulk α] (hz : ∀ x : α, bulk x = 0) (a : List α) (left : Int) (Q : Int → Prop) (h0 : 0 ≤ left) (h1 : left ≤ 1048576) (hn : left - (bulk a : Nat) < 0 → Q (-1)) (hp : 0 ≤ left - (bulk a : Nat) → Q (left - (bulk a : Nat))) :
    ((a.length : Int) ≤ 9223372036854775807 → I64 (left - (a.length : Int))) ∧ (if decide (left - (a.length : Int) < 0) then Q (-1) else Q (left - (a.length : Int))) := by
  have hl := bulk_flat hz a
  rw [hl] at hn hp
  refine ⟨fun _ => by unfold I64; have := hn; by_cases h : left - (a.length : Int) < 0 <;> omega, ?_⟩
  by_cases hc : left - (a.length : Int) < 0
  · rw [if_pos (by simpa using hc)]; exact hn hc
  · rw [if_neg (by simpa using hc)]; exact hp (by omega)
/-- a row, copied -/
theorem toS_shape {α : Type} [Inhabited α] [Bulk α] (z : α) (el : α → (α → Prop) → Prop) (hel : ∀ x (Q : α → Prop), bulk x ≤ 1048576 → Q x → el x Q) (a : List α) (Q : List α → Prop) (ha : bulk a ≤ 1048576) (hq : Q a) :
    ((0 : Int) ≤ (a.length : Int) ∧ (a.length : Int) ≤ (268435456 : Int)) ∧ (∃ (I41 : (List α) → Int → Prop) (mu42 : (List α) → Int → Nat), I41 (List.replicate (a.length : Int).toNat z) 0 ∧ ∀ (xs2 : List α) (i2 : Int), I41 xs2 i2 → (if decide (i2 < (a.length : Int)) then ((0 : Int) ≤ i2 ∧ i2 < (a.length : Int)) ∧ el (nth a i2) (fun r => ((0 : Int) ≤ i2 ∧ i2 < (xs2.length : Int)) ∧ (-9223372036854775808 ≤ i2) ∧ I41 (xs2.set i2.toNat r) (i2 + 1) ∧ mu42 (xs2.set i2.toNat r) (i2 + 1) < mu42 xs2 i2) else Q xs2)) := by
  have hl := bulk_len a
  refine ⟨⟨by omega, by omega⟩, fun xs i => ∃ k : Nat, i = k ∧ k ≤ a.length ∧ xs.length = a.length ∧ xs.take k = a.take k, fun _ i => (a.length - i).toNat, ⟨0, rfl, by omega, by simp, by simp⟩, ?_⟩
  rintro xs _ ⟨k, rfl, hk, hxl, ht⟩
  by_cases hki : (k : Int) < (a.length : Int)
  · rw [if_pos (by simpa using hki)]
    have hk' : k < a.length := by omega
    refine ⟨⟨by omega, hki⟩, hel _ _ (by have := bulk_mem (nth_mem a hk'); omega) ⟨⟨by omega, by omega⟩, by omega, ⟨k + 1, by omega, by omega, by simp [hxl], ?_⟩, by dsimp only; omega⟩⟩
    rw [Int.toNat_natCast, List.take_succ_eq_append_getElem (by simp; omega), take_nth a hk', List.getElem_set_self, List.take_set_of_le (Nat.le_refl _), ht]
  · rw [if_neg (by simpa using hki)]
    have : k = a.length := by omega
    subst this
    rw [List.take_of_length_le (by omega), List.take_length] at ht
    subst ht; exact hq
/-- two rows, compared -/
theorem eqS_shape {α : Type} [Inhabited α] [DecidableEq α] (el : α → α → Bool) (hel : ∀ x y, el x y = decide (x = y)) (a b : List α) (Q : Bool → Prop) (hq : Q (decide (a = b))) :
    (if (a.length : Int) != (b.length : Int) then Q false else (∃ (I32 : Int → Prop) (mu33 : Int → Nat), I32 0 ∧ ∀ (i2 : Int), I32 i2 → (if decide (i2 < (a.length : Int)) then ((0 : Int) ≤ i2 ∧ i2 < (a.length : Int)) ∧ ((0 : Int) ≤ i2 ∧ i2 < (b.length : Int)) ∧ (if !(el (nth a i2) (nth b i2)) then Q false else (-9223372036854775808 ≤ i2) ∧ I32 (i2 + 1) ∧ mu33 (i2 + 1) < mu33 i2) else Q true))) := by
  by_cases hl : a.length = b.length
  · rw [if_neg (by simp [hl])]
    refine ⟨fun i => ∃ k : Nat, i = k ∧ k ≤ a.length ∧ ∀ j, j < k → nth a (j : Int) = nth b (j : Int), fun i => (a.length - i).toNat, ⟨0, rfl, by omega, fun j hj => absurd hj (by omega)⟩, ?_⟩
    rintro _ ⟨k, rfl, hk, ht⟩
    by_cases hki : (k : Int) < (a.length : Int)
    · rw [if_pos (by simpa using hki)]
      refine ⟨⟨by omega, hki⟩, ⟨by omega, by omega⟩, ?_⟩
      rw [hel]
      by_cases he : nth a (k : Int) = nth b (k : Int)
      · rw [if_neg (by rw [decide_eq_true he]; exact Bool.false_ne_true)]
        refine ⟨by omega, ⟨k + 1, by omega, by omega, fun j hj => ?_⟩, by dsimp only; omega⟩
        by_cases hjk : j = k
        · subst hjk; exact he
        · exact ht j (by omega)
      · rw [if_pos (by rw [decide_eq_false he]; rfl)]
        have : decide (a = b) = false := by
          simp only [decide_eq_false_iff_not]; rintro rfl; exact he rfl
        rw [this] at hq; exact hq
    · rw [if_neg (by simpa using hki)]
      have : a = b := ext_nth hl fun j hj => ht j (by omega)
      rw [decide_eq_true this] at hq; exact hq
  · rw [if_pos (by simp; omega)]
    have : decide (a = b) = false := by
      simp only [decide_eq_false_iff_not]; rintro rfl; exact hl rfl
    rw [this] at hq; exact hq
/-- two rows, compared, with a plain bound -/
theorem eqI_shape {α : Type} [Inhabited α] [DecidableEq α] (el : α → α → Bool) (hel : ∀ x y, el x y = decide (x = y)) (a b : List α) (Q : Bool → Prop) (hb : a.length ≤ 1048576) (hq : Q (decide (a = b))) :
    (if (a.length : Int) != (b.length : Int) then Q false else (∃ (I32 : Int → Prop) (mu33 : Int → Nat), I32 0 ∧ ∀ (i2 : Int), I32 i2 → (if decide (i2 < (a.length : Int)) then ((0 : Int) ≤ i2 ∧ i2 < (a.length : Int)) ∧ ((0 : Int) ≤ i2 ∧ i2 < (b.length : Int)) ∧ (if !(el (nth a i2) (nth b i2)) then Q false else (I64 (i2 + 1)) ∧ I32 (i2 + 1) ∧ mu33 (i2 + 1) < mu33 i2) else Q true))) := by
  have h := eqS_shape el hel a b Q hq
  by_cases hl : ((a.length : Int) != (b.length : Int)) = true
  · rw [if_pos hl] at h ⊢; exact h
  · rw [if_neg hl] at h ⊢
    obtain ⟨I, mu, h0, h1⟩ := h
    refine ⟨fun i => 0 ≤ i ∧ I i, mu, ⟨by omega, h0⟩, fun i ⟨hp, hi⟩ => ?_⟩
    have h2 := h1 i hi
    by_cases hc : decide (i < (a.length : Int)) = true
    · rw [if_pos hc] at h2 ⊢
      have hc' : i < (a.length : Int) := by simpa using hc
      refine ⟨h2.1, h2.2.1, ?_⟩
      have h3 := h2.2.2
      by_cases he : (!(el (nth a i) (nth b i))) = true
      · rw [if_pos he] at h3 ⊢; exact h3
      · rw [if_neg he] at h3 ⊢
        exact ⟨by unfold I64; omega, ⟨by omega, h3.2.1⟩, h3.2.2⟩
    · rw [if_neg hc] at h2 ⊢; exact h2
theorem eqN_shape {α : Type} [Inhabited α] [DecidableEq α] (a b : List α) (Q : Bool → Prop) (hq : Q (decide (a = b))) :
    (if (a.length : Int) != (b.length : Int) then Q false else (∃ (I32 : Int → Prop) (mu33 : Int → Nat), I32 0 ∧ ∀ (i2 : Int), I32 i2 → (if decide (i2 < (a.length : Int)) then ((0 : Int) ≤ i2 ∧ i2 < (a.length : Int)) ∧ ((0 : Int) ≤ i2 ∧ i2 < (b.length : Int)) ∧ (if nth a i2 != nth b i2 then Q false else (-9223372036854775808 ≤ i2) ∧ I32 (i2 + 1) ∧ mu33 (i2 + 1) < mu33 i2) else Q true))) :=
  eqS_shape (fun x y => x == y) (fun x y => by by_cases h : x = y <;> simp [h]) a b Q hq
end Go.Proofs.Ytndjggncgpjolaa

namespace Go.Proofs.Ytndjggncgpjolaa
instance : Bulk l12Rd := ⟨fun x => bulk x.b + bulk x.p⟩
instance : Bulk Pt := ⟨fun x => bulk x.X + bulk x.Y⟩
instance : Bulk Pair := ⟨fun x => bulk x.A + bulk x.B⟩
instance : Bulk Shape := ⟨fun x => bulk x.Kind + bulk x.Pts⟩
instance : Bulk Tag := ⟨fun x => bulk x.Key + bulk x.Val⟩
instance : Bulk Feat := ⟨fun x => bulk x.Id + bulk x.Shape + bulk x.Tags⟩
instance : Bulk Commit := ⟨fun x => bulk x.Up + bulk x.Sheet + bulk x.Note⟩
instance : Bulk Head := ⟨fun x => bulk x.Name + bulk x.At⟩
instance : Bulk Repo := ⟨fun x => bulk x.Commits + bulk x.Heads⟩
instance : Bulk Change := ⟨fun x => bulk x.Id + bulk x.Had + bulk x.Was + bulk x.Has + bulk x.Now⟩
instance : Bulk value := ⟨fun x => bulk x.has + bulk x.val⟩
end Go.Proofs.Ytndjggncgpjolaa

namespace Go.Proofs.Ytndjggncgpjolaa
open Go.RowKit
set_option linter.unusedVariables false
def laws_szPtS.E (a : List Pt) (left : Int) (Q : Int → Prop) : Prop :=
  ((a.length : Int) ≤ 9223372036854775807 → I64 (left - (a.length : Int))) ∧ (if decide (left - (a.length : Int) < 0) then Q (-1) else Q (left - (a.length : Int)))
set_option maxHeartbeats 8000000 in
set_option maxRecDepth 100000 in
theorem laws_szPtS.calls {O : Ob} (w0 : World) (hO : Ok w0 O) (a : List Pt) (A1 : Option Addr) (n2 c3 : Nat) (hp4 : Sl kPt w0 (Fr O) (.slice A1 n2 c3) a) (left : Int) (Q : Int → Prop) (h : laws_szPtS.E a left Q) :
    Ret Try.prog 132 [.slice A1 n2 c3, vi left] w0 (fun v w' => ∃ (r0 : Int), v = vi r0 ∧ Q r0 ∧ Gr w0 w' none ∧ w' = w0) := by
  have H : ((a.length : Int) ≤ 9223372036854775807 → I64 (left - (a.length : Int))) ∧ (if decide (left - (a.length : Int) < 0) then Q (-1) else Q (left - (a.length : Int))) := h
  clear h
  have hc0 := Ct.init hO
  refine Ret_enter Try.func132 rfl 12 rfl [.tmp 4] rfl rfl ?_
  refine W_seq ?_
  refine W_reg ?_
  refine L_pu (P_assign (vi 0) rfl) ?_
  refine L_nil ?_
  refine W_seq ?_
  refine W_reg ?_
  refine L_pu (P_move (vi left) rfl) ?_
  refine L_pu (P_move (.slice A1 n2 c3) rfl) ?_
  have hl6 := hp4.le
  refine L_pu (P_len Try.underlying60 A1 n2 c3 hp4.len rfl) ?_
  obtain ⟨hb7, H⟩ := H
  have hi8 := hb7 (len_le hl6)
  refine L_pu (P_sub left (a.length : Int) rfl rfl hi8) ?_
  refine L_pu (P_assign (vi (left - (a.length : Int))) rfl) ?_
  refine L_nil ?_
  refine W_seq ?_
  refine W_seq ?_
  refine W_reg ?_
  refine L_pu (P_move (vi (left - (a.length : Int))) rfl) ?_
  refine L_pu (P_cmp (left - (a.length : Int)) 0 (decide (left - (a.length : Int) < 0)) rfl rfl rfl) ?_
  refine L_nil ?_
  refine W_cond (decide (left - (a.length : Int) < 0)) rfl (fun hq9 => ?_) (fun hq9 => ?_)
  · have H := ite_t H hq9
    refine W_seq ?_
    refine W_reg ?_
    refine L_pu (P_assign (vi (-1)) rfl) ?_
    refine L_nil ?_
    refine W_ret ?_
    exact ⟨[vi (-1)], ⟨_, rfl, rfl⟩, (-1), rfl, H, hc0.gr.g0, rfl⟩
  · have H := ite_f H hq9
    refine W_skip ?_
    refine W_seq ?_
    refine W_reg ?_
    refine L_pu (P_move (vi (left - (a.length : Int))) rfl) ?_
    refine L_pu (P_assign (vi (left - (a.length : Int))) rfl) ?_
    refine L_nil ?_
    refine W_ret ?_
    exact ⟨[vi (left - (a.length : Int))], ⟨_, rfl, rfl⟩, left - (a.length : Int), rfl, H, hc0.gr.g0, rfl⟩
end Go.Proofs.Ytndjggncgpjolaa

namespace Go.Proofs.Ytndjggncgpjolaa
set_option linter.unusedVariables false
set_option linter.unusedSimpArgs false
set_option linter.unusedSectionVars false
theorem laws_szPtS.law (a : List Pt) (left : Int) (Q : Int → Prop) (h0 : 0 ≤ left) (h1 : left ≤ 1048576) (hn : left - (bulk a : Nat) < 0 → Q (-1)) (hp : 0 ≤ left - (bulk a : Nat) → Q (left - (bulk a : Nat))) : laws_szPtS.E a left Q := by
  unfold laws_szPtS.E
  exact szL_shape (fun _ => rfl) a left Q h0 h1 hn hp
end Go.Proofs.Ytndjggncgpjolaa

namespace Go.Proofs.Ytndjggncgpjolaa
open Go.RowKit
set_option linter.unusedVariables false
def laws_szShape.E (a : Shape) (left : Int) (Q : Int → Prop) : Prop :=
  laws_szPtS.E a.Pts left (fun r => (if decide (r < 0) then Q (-1) else Q r))
set_option maxHeartbeats 8000000 in
set_option maxRecDepth 100000 in
theorem laws_szShape.calls {O : Ob} (w0 : World) (hO : Ok w0 O) (a : Shape) (A1 : Option Addr) (n2 c3 : Nat) (hp4 : Sl kPt w0 (Fr O) (.slice A1 n2 c3) a.Pts) (left : Int) (Q : Int → Prop) (h : laws_szShape.E a left Q) :
    Ret Try.prog 87 [.agg #[vi a.Kind, .slice A1 n2 c3], vi left] w0 (fun v w' => ∃ (r0 : Int), v = vi r0 ∧ Q r0 ∧ Gr w0 w' none) := by
  have H : laws_szPtS.E a.Pts left (fun r => (if decide (r < 0) then Q (-1) else Q r)) := h
  clear h
  have hc0 := Ct.init hO
  refine Ret_enter Try.func87 rfl 12 rfl [.tmp 4] rfl rfl ?_
  refine W_seq ?_
  refine W_reg ?_
  refine L_box [vi a.Kind, .slice A1 n2 c3] rfl fun w6 b7 hl9 hu10 g8 hx11 => ?_
  have h13 := Fb.mk hc0.ok hl9 hx11
  have hc14 := hc0.k0 g8
  refine L_pu (P_assign (vi 0) rfl) ?_
  refine L_nil ?_
  refine W_seq ?_
  refine W_reg ?_
  refine L_pu (P_fa fa62_1 ⟨b7, 0, none⟩ ⟨b7, 1, none⟩ rfl rfl) ?_
  refine L_pu (P_ld ag60 cL ⟨b7, 1, none⟩ (.slice A1 n2 c3) rfl (h13.cell rfl)) ?_
  refine L_pu (P_move (vi left) rfl) ?_
  refine L_call go132 [.slice A1 n2 c3, vi left] rfl ((laws_szPtS.calls w6 hc14.ok a.Pts A1 n2 c3 (hp4.st hc14.st) left _ H).mono ?_)
  rintro _ w15 ⟨r, rfl, H, g16, _⟩
  have hc20 := hc14.k0 g16
  refine L_pu (P_assign (vi r) rfl) ?_
  refine L_nil ?_
  refine W_seq ?_
  refine W_seq ?_
  refine W_reg ?_
  refine L_pu (P_move (vi r) rfl) ?_
  refine L_pu (P_cmp r 0 (decide (r < 0)) rfl rfl rfl) ?_
  refine L_nil ?_
  refine W_cond (decide (r < 0)) rfl (fun hq21 => ?_) (fun hq21 => ?_)
  · have H := ite_t H hq21
    refine W_seq ?_
    refine W_reg ?_
    refine L_pu (P_assign (vi (-1)) rfl) ?_
    refine L_nil ?_
    refine W_ret ?_
    exact ⟨[vi (-1)], ⟨_, rfl, rfl⟩, (-1), rfl, H, hc20.gr.g0⟩
  · have H := ite_f H hq21
    refine W_skip ?_
    refine W_seq ?_
    refine W_reg ?_
    refine L_pu (P_move (vi r) rfl) ?_
    refine L_pu (P_assign (vi r) rfl) ?_
    refine L_nil ?_
    refine W_ret ?_
    exact ⟨[vi r], ⟨_, rfl, rfl⟩, r, rfl, H, hc20.gr.g0⟩
end Go.Proofs.Ytndjggncgpjolaa

namespace Go.Proofs.Ytndjggncgpjolaa
set_option linter.unusedVariables false
set_option linter.unusedSimpArgs false
set_option linter.unusedSectionVars false
theorem laws_szShape.law (a : Shape) (left : Int) (Q : Int → Prop) (h0 : 0 ≤ left) (h1 : left ≤ 1048576) (hn : left - (bulk a : Nat) < 0 → Q (-1)) (hp : 0 ≤ left - (bulk a : Nat) → Q (left - (bulk a : Nat))) : laws_szShape.E a left Q := by
  have hb : bulk a = bulk a.Kind + bulk a.Pts := rfl
  have hzKind : bulk a.Kind = 0 := rfl
  unfold laws_szShape.E
  refine laws_szPtS.law _ _ _ (by omega) (by omega) (fun h => ?_) (fun h1 => ?_)
  · rw [if_pos (by decide)]; exact hn (by omega)
  rw [if_neg (by rw [decide_eq_false (by omega)]; exact Bool.false_ne_true)]
  exact cast (congrArg Q (by omega)) (hp (by omega))
end Go.Proofs.Ytndjggncgpjolaa

namespace Go.Proofs.Ytndjggncgpjolaa
open Go.RowKit
set_option linter.unusedVariables false
def laws_szTag.E (a : Tag) (left : Int) (Q : Int → Prop) : Prop :=
  ((a.Key.length : Int) ≤ 9223372036854775807 → I64 (left - (a.Key.length : Int))) ∧ (if decide (left - (a.Key.length : Int) < 0) then Q (-1) else ((a.Key.length : Int) ≤ 9223372036854775807 → (a.Val.length : Int) ≤ 9223372036854775807 → I64 (left - (a.Key.length : Int) - (a.Val.length : Int))) ∧ (if decide (left - (a.Key.length : Int) - (a.Val.length : Int) < 0) then Q (-1) else Q (left - (a.Key.length : Int) - (a.Val.length : Int))))
set_option maxHeartbeats 8000000 in
set_option maxRecDepth 100000 in
theorem laws_szTag.calls {O : Ob} (w0 : World) (hO : Ok w0 O) (a : Tag) (hs1 : Lim a.Key) (hs2 : Lim a.Val) (left : Int) (Q : Int → Prop) (h : laws_szTag.E a left Q) :
    Ret Try.prog 133 [.agg #[vs a.Key, vs a.Val], vi left] w0 (fun v w' => ∃ (r0 : Int), v = vi r0 ∧ Q r0 ∧ Gr w0 w' none) := by
  have H : ((a.Key.length : Int) ≤ 9223372036854775807 → I64 (left - (a.Key.length : Int))) ∧ (if decide (left - (a.Key.length : Int) < 0) then Q (-1) else ((a.Key.length : Int) ≤ 9223372036854775807 → (a.Val.length : Int) ≤ 9223372036854775807 → I64 (left - (a.Key.length : Int) - (a.Val.length : Int))) ∧ (if decide (left - (a.Key.length : Int) - (a.Val.length : Int) < 0) then Q (-1) else Q (left - (a.Key.length : Int) - (a.Val.length : Int)))) := h
  clear h
  have hc0 := Ct.init hO
  refine Ret_enter Try.func133 rfl 20 rfl [.tmp 4] rfl rfl ?_
  refine W_seq ?_
  refine W_reg ?_
  refine L_box [vs a.Key, vs a.Val] rfl fun w3 b4 hl6 hu7 g5 hx8 => ?_
  have h10 := Fb.mk hc0.ok hl6 hx8
  have hc11 := hc0.k0 g5
  refine L_pu (P_assign (vi 0) rfl) ?_
  refine L_nil ?_
  refine W_seq ?_
  refine W_reg ?_
  refine L_pu (P_move (vi left) rfl) ?_
  refine L_pu (P_fa fa166_0 ⟨b4, 0, none⟩ ⟨b4, 0, none⟩ rfl rfl) ?_
  refine L_pu (P_ld ag9 cL ⟨b4, 0, none⟩ (vs a.Key) rfl (h10.cell rfl)) ?_
  have hl12 := hs1
  refine L_pu (P_lens Try.underlying9 a.Key rfl) ?_
  obtain ⟨hb13, H⟩ := H
  have hi14 := hb13 (len_le hl12)
  refine L_pu (P_sub left (a.Key.length : Int) rfl rfl hi14) ?_
  refine L_pu (P_assign (vi (left - (a.Key.length : Int))) rfl) ?_
  refine L_nil ?_
  refine W_seq ?_
  refine W_seq ?_
  refine W_reg ?_
  refine L_pu (P_move (vi (left - (a.Key.length : Int))) rfl) ?_
  refine L_pu (P_cmp (left - (a.Key.length : Int)) 0 (decide (left - (a.Key.length : Int) < 0)) rfl rfl rfl) ?_
  refine L_nil ?_
  refine W_cond (decide (left - (a.Key.length : Int) < 0)) rfl (fun hq15 => ?_) (fun hq15 => ?_)
  · have H := ite_t H hq15
    refine W_seq ?_
    refine W_reg ?_
    refine L_pu (P_assign (vi (-1)) rfl) ?_
    refine L_nil ?_
    refine W_ret ?_
    exact ⟨[vi (-1)], ⟨_, rfl, rfl⟩, (-1), rfl, H, hc11.gr.g0⟩
  · have H := ite_f H hq15
    refine W_skip ?_
    refine W_seq ?_
    refine W_reg ?_
    refine L_pu (P_move (vi (left - (a.Key.length : Int))) rfl) ?_
    refine L_pu (P_fa fa166_1 ⟨b4, 0, none⟩ ⟨b4, 1, none⟩ rfl rfl) ?_
    refine L_pu (P_ld ag9 cL ⟨b4, 1, none⟩ (vs a.Val) rfl (h10.cell rfl)) ?_
    have hl16 := hs2
    refine L_pu (P_lens Try.underlying9 a.Val rfl) ?_
    obtain ⟨hb17, H⟩ := H
    have hi18 := hb17 (len_le hl12) (len_le hl16)
    refine L_pu (P_sub (left - (a.Key.length : Int)) (a.Val.length : Int) rfl rfl hi18) ?_
    refine L_pu (P_assign (vi (left - (a.Key.length : Int) - (a.Val.length : Int))) rfl) ?_
    refine L_nil ?_
    refine W_seq ?_
    refine W_seq ?_
    refine W_reg ?_
    refine L_pu (P_move (vi (left - (a.Key.length : Int) - (a.Val.length : Int))) rfl) ?_
    refine L_pu (P_cmp (left - (a.Key.length : Int) - (a.Val.length : Int)) 0 (decide (left - (a.Key.length : Int) - (a.Val.length : Int) < 0)) rfl rfl rfl) ?_
    refine L_nil ?_
    refine W_cond (decide (left - (a.Key.length : Int) - (a.Val.length : Int) < 0)) rfl (fun hq19 => ?_) (fun hq19 => ?_)
    · have H := ite_t H hq19
      refine W_seq ?_
      refine W_reg ?_
      refine L_pu (P_assign (vi (-1)) rfl) ?_
      refine L_nil ?_
      refine W_ret ?_
      exact ⟨[vi (-1)], ⟨_, rfl, rfl⟩, (-1), rfl, H, hc11.gr.g0⟩
    · have H := ite_f H hq19
      refine W_skip ?_
      refine W_seq ?_
      refine W_reg ?_
      refine L_pu (P_move (vi (left - (a.Key.length : Int) - (a.Val.length : Int))) rfl) ?_
      refine L_pu (P_assign (vi (left - (a.Key.length : Int) - (a.Val.length : Int))) rfl) ?_
      refine L_nil ?_
      refine W_ret ?_
      exact ⟨[vi (left - (a.Key.length : Int) - (a.Val.length : Int))], ⟨_, rfl, rfl⟩, left - (a.Key.length : Int) - (a.Val.length : Int), rfl, H, hc11.gr.g0⟩
end Go.Proofs.Ytndjggncgpjolaa

namespace Go.Proofs.Ytndjggncgpjolaa
set_option linter.unusedVariables false
set_option linter.unusedSimpArgs false
set_option linter.unusedSectionVars false
theorem laws_szTag.law (a : Tag) (left : Int) (Q : Int → Prop) (h0 : 0 ≤ left) (h1 : left ≤ 1048576) (hn : left - (bulk a : Nat) < 0 → Q (-1)) (hp : 0 ≤ left - (bulk a : Nat) → Q (left - (bulk a : Nat))) : laws_szTag.E a left Q := by
  have hb : bulk a = bulk a.Key + bulk a.Val := rfl
  have hzKey : bulk a.Key = a.Key.length := bulk_str _
  have hzVal : bulk a.Val = a.Val.length := bulk_str _
  unfold laws_szTag.E
  refine ⟨by intros; unfold I64; omega, ?_⟩
  split
  · rename_i hc; simp only [decide_eq_true_eq] at hc; exact hn (by omega)
  rename_i hc0; simp only [decide_eq_true_eq] at hc0
  refine ⟨by intros; unfold I64; omega, ?_⟩
  split
  · rename_i hc; simp only [decide_eq_true_eq] at hc; exact hn (by omega)
  rename_i hc1; simp only [decide_eq_true_eq] at hc1
  exact cast (congrArg Q (by omega)) (hp (by omega))
end Go.Proofs.Ytndjggncgpjolaa

namespace Go.Proofs.Ytndjggncgpjolaa
open Go.RowKit
set_option linter.unusedVariables false
def laws_szTagS.E (a : List Tag) (left : Int) (Q : Int → Prop) : Prop :=
  ((a.length : Int) ≤ 9223372036854775807 → I64 (left - (a.length : Int))) ∧ (if decide (left - (a.length : Int) < 0) then Q (-1) else (∃ (I22 : Int → Int → Prop) (mu23 : Int → Int → Nat), I22 (left - (a.length : Int)) 0 ∧ ∀ (left3 : Int) (i2 : Int), I22 left3 i2 → (if decide (i2 < (a.length : Int)) then ((0 : Int) ≤ i2 ∧ i2 < (a.length : Int)) ∧ laws_szTag.E (nth a i2) left3 (fun r => (if decide (r < 0) then Q (-1) else (-9223372036854775808 ≤ i2) ∧ I22 r (i2 + 1) ∧ mu23 r (i2 + 1) < mu23 left3 i2)) else Q left3)))
set_option maxHeartbeats 8000000 in
set_option maxRecDepth 100000 in
theorem laws_szTagS.calls {O : Ob} (w0 : World) (hO : Ok w0 O) (a : List Tag) (A1 : Option Addr) (n2 c3 : Nat) (hp4 : Sl kTag w0 (Fr O) (.slice A1 n2 c3) a) (left : Int) (Q : Int → Prop) (h : laws_szTagS.E a left Q) :
    Ret Try.prog 88 [.slice A1 n2 c3, vi left] w0 (fun v w' => ∃ (r0 : Int), v = vi r0 ∧ Q r0 ∧ Gr w0 w' none) := by
  have H : ((a.length : Int) ≤ 9223372036854775807 → I64 (left - (a.length : Int))) ∧ (if decide (left - (a.length : Int) < 0) then Q (-1) else (∃ (I22 : Int → Int → Prop) (mu23 : Int → Int → Nat), I22 (left - (a.length : Int)) 0 ∧ ∀ (left3 : Int) (i2 : Int), I22 left3 i2 → (if decide (i2 < (a.length : Int)) then ((0 : Int) ≤ i2 ∧ i2 < (a.length : Int)) ∧ laws_szTag.E (nth a i2) left3 (fun r => (if decide (r < 0) then Q (-1) else (-9223372036854775808 ≤ i2) ∧ I22 r (i2 + 1) ∧ mu23 r (i2 + 1) < mu23 left3 i2)) else Q left3))) := h
  clear h
  have hc0 := Ct.init hO
  refine Ret_enter Try.func88 rfl 27 rfl [.tmp 4] rfl rfl ?_
  refine W_seq ?_
  refine W_reg ?_
  refine L_pu (P_assign (vi 0) rfl) ?_
  refine L_nil ?_
  refine W_seq ?_
  refine W_reg ?_
  refine L_pu (P_move (vi left) rfl) ?_
  refine L_pu (P_move (.slice A1 n2 c3) rfl) ?_
  have hl6 := hp4.le
  refine L_pu (P_len Try.underlying63 A1 n2 c3 hp4.len rfl) ?_
  obtain ⟨hb7, H⟩ := H
  have hi8 := hb7 (len_le hl6)
  refine L_pu (P_sub left (a.length : Int) rfl rfl hi8) ?_
  refine L_pu (P_assign (vi (left - (a.length : Int))) rfl) ?_
  refine L_nil ?_
  refine W_seq ?_
  refine W_seq ?_
  refine W_reg ?_
  refine L_pu (P_move (vi (left - (a.length : Int))) rfl) ?_
  refine L_pu (P_cmp (left - (a.length : Int)) 0 (decide (left - (a.length : Int) < 0)) rfl rfl rfl) ?_
  refine L_nil ?_
  refine W_cond (decide (left - (a.length : Int) < 0)) rfl (fun hq9 => ?_) (fun hq9 => ?_)
  · have H := ite_t H hq9
    refine W_seq ?_
    refine W_reg ?_
    refine L_pu (P_assign (vi (-1)) rfl) ?_
    refine L_nil ?_
    refine W_ret ?_
    exact ⟨[vi (-1)], ⟨_, rfl, rfl⟩, (-1), rfl, H, hc0.gr.g0⟩
  · have H := ite_f H hq9
    refine W_skip ?_
    refine W_seq ?_
    refine W_seq ?_
    refine W_reg ?_
    refine L_pu (P_assign (vi 0) rfl) ?_
    refine L_nil ?_
    refine W_block ?_
    obtain ⟨I22, mu23, hI24, H⟩ := H
    refine W_loop (α := Int × Int) (fun (sv__ : Int × Int) t w18 => match sv__ with | (left3, i2) => I22 left3 i2 ∧ Has t [(0, .slice A1 n2 c3), (1, vi left3), (5, vi i2)] ∧ Ct [] w0 w18 [] O ∧ Sl kTag w18 (Fr ([] ++ O)) (.slice A1 n2 c3) a) (fun (sv__ : Int × Int) => match sv__ with | (left3, i2) => mu23 left3 i2) (left - (a.length : Int), 0) ⟨hI24, ⟨rfl, rfl, rfl, trivial⟩, hc0, hp4⟩ ?_
    rintro ⟨left3, i2⟩ _ w18 ⟨hI24, hh26, hc20, h21⟩
    obtain ⟨u27, rfl⟩ := Has.ins hh26
    have H := H left3 i2 hI24
    refine W_seq ?_
    refine W_seq ?_
    refine W_reg ?_
    refine L_pu (P_move (vi i2) rfl) ?_
    refine L_pu (P_move (.slice A1 n2 c3) rfl) ?_
    have hl28 := h21.le
    refine L_pu (P_len Try.underlying63 A1 n2 c3 h21.len rfl) ?_
    refine L_pu (P_cmp i2 (a.length : Int) (decide (i2 < (a.length : Int))) rfl rfl rfl) ?_
    refine L_nil ?_
    refine W_cond (decide (i2 < (a.length : Int))) rfl (fun hq29 => ?_) (fun hq29 => ?_)
    · have H := ite_t H hq29
      refine W_skip ?_
      refine W_seq ?_
      refine W_block ?_
      refine W_seq ?_
      refine W_reg ?_
      refine L_pu (P_move (.slice A1 n2 c3) rfl) ?_
      refine L_pu (P_move (vi i2) rfl) ?_
      obtain ⟨hb30, H⟩ := H
      obtain ⟨ad31, cs32, hA33, hS36, hR34, hcl35⟩ := h21.get default (by decide) i2 hb30
      obtain ⟨rfl, hs37, hs38⟩ := kTag.op hR34
      refine L_pu (P_ia Try.underlying63 se63 A1 ad31 n2 c3 h21.len i2 rfl hA33 rfl hb30) ?_
      refine L_pu (P_lda ag166 sz166 cL (ad31.add (i2.toNat * 2)) [vs ((nth a i2).Key), vs ((nth a i2).Val)] rfl rfl hcl35) ?_
      refine L_pu (P_move (vi left3) rfl) ?_
      refine L_call go133 [.agg #[vs ((nth a i2).Key), vs ((nth a i2).Val)], vi left3] rfl ((laws_szTag.calls w18 hc20.ok (nth a i2) hs37 hs38 left3 _ H).mono ?_)
      rintro _ w39 ⟨r, rfl, H, g40⟩
      have hc44 := hc20.k0 g40
      refine L_pu (P_assign (vi r) rfl) ?_
      refine L_nil ?_
      refine W_seq ?_
      refine W_reg ?_
      refine L_pu (P_move (vi r) rfl) ?_
      refine L_pu (P_cmp r 0 (decide (r < 0)) rfl rfl rfl) ?_
      refine L_nil ?_
      refine W_cond (decide (r < 0)) rfl (fun hq45 => ?_) (fun hq45 => ?_)
      · have H := ite_t H hq45
        refine W_seq ?_
        refine W_reg ?_
        refine L_pu (P_assign (vi (-1)) rfl) ?_
        refine L_nil ?_
        refine W_ret ?_
        exact ⟨[vi (-1)], ⟨_, rfl, rfl⟩, (-1), rfl, H, hc44.gr.g0⟩
      · have H := ite_f H hq45
        refine W_skip ?_
        refine W_reg ?_
        refine L_pu (P_move (vi i2) rfl) ?_
        obtain ⟨hb47, H⟩ := H
        have hi46 : I64 (i2 + 1) := i64_succ (of_decide_eq_true hq29) hl28 hb47
        refine L_pu (P_add i2 1 rfl rfl hi46) ?_
        refine L_pu (P_assign (vi (i2 + 1)) rfl) ?_
        refine L_nil ?_
        obtain ⟨hI48, hm49⟩ := H
        exact ⟨(r, i2 + 1), hm49, hI48, ⟨rfl, rfl, rfl, trivial⟩, hc44, (h21.st (.new _ g40))⟩
    · have H := ite_f H hq29
      refine W_exit (xin_hit ?_)
      refine W_seq ?_
      refine W_reg ?_
      refine L_pu (P_move (vi left3) rfl) ?_
      refine L_pu (P_assign (vi left3) rfl) ?_
      refine L_nil ?_
      refine W_ret ?_
      exact ⟨[vi left3], ⟨_, rfl, rfl⟩, left3, rfl, H, hc20.gr.g0⟩
end Go.Proofs.Ytndjggncgpjolaa

namespace Go.Proofs.Ytndjggncgpjolaa
set_option linter.unusedVariables false
set_option linter.unusedSimpArgs false
set_option linter.unusedSectionVars false
theorem laws_szTagS.law (a : List Tag) (left : Int) (Q : Int → Prop) (h0 : 0 ≤ left) (h1 : left ≤ 1048576) (hn : left - (bulk a : Nat) < 0 → Q (-1)) (hp : 0 ≤ left - (bulk a : Nat) → Q (left - (bulk a : Nat))) : laws_szTagS.E a left Q := by
  unfold laws_szTagS.E
  exact szS_shape laws_szTag.E (fun x l Q => laws_szTag.law x l Q) a left Q h0 h1 hn hp
end Go.Proofs.Ytndjggncgpjolaa

namespace Go.Proofs.Ytndjggncgpjolaa
open Go.RowKit
set_option linter.unusedVariables false
def laws_szFeat.E (a : Feat) (left : Int) (Q : Int → Prop) : Prop :=
  ((a.Id.length : Int) ≤ 9223372036854775807 → I64 (left - (a.Id.length : Int))) ∧ (if decide (left - (a.Id.length : Int) < 0) then Q (-1) else laws_szShape.E a.Shape (left - (a.Id.length : Int)) (fun r => (if decide (r < 0) then Q (-1) else laws_szTagS.E a.Tags r (fun r2 => (if decide (r2 < 0) then Q (-1) else Q r2)))))
set_option maxHeartbeats 8000000 in
set_option maxRecDepth 100000 in
theorem laws_szFeat.calls {O : Ob} (w0 : World) (hO : Ok w0 O) (a : Feat) (A2 : Option Addr) (n3 c4 : Nat) (A7 : Option Addr) (n8 c9 : Nat) (hs1 : Lim a.Id) (hp5 : Sl kPt w0 (Fr O) (.slice A2 n3 c4) a.Shape.Pts) (hp10 : Sl kTag w0 (Fr O) (.slice A7 n8 c9) a.Tags) (left : Int) (Q : Int → Prop) (h : laws_szFeat.E a left Q) :
    Ret Try.prog 33 [.agg #[vs a.Id, vi a.Shape.Kind, .slice A2 n3 c4, .slice A7 n8 c9], vi left] w0 (fun v w' => ∃ (r0 : Int), v = vi r0 ∧ Q r0 ∧ Gr w0 w' none) := by
  have H : ((a.Id.length : Int) ≤ 9223372036854775807 → I64 (left - (a.Id.length : Int))) ∧ (if decide (left - (a.Id.length : Int) < 0) then Q (-1) else laws_szShape.E a.Shape (left - (a.Id.length : Int)) (fun r => (if decide (r < 0) then Q (-1) else laws_szTagS.E a.Tags r (fun r2 => (if decide (r2 < 0) then Q (-1) else Q r2))))) := h
  clear h
  have hc0 := Ct.init hO
  refine Ret_enter Try.func33 rfl 25 rfl [.tmp 4] rfl rfl ?_
  refine W_seq ?_
  refine W_reg ?_
  refine L_box [vs a.Id, vi a.Shape.Kind, .slice A2 n3 c4, .slice A7 n8 c9] rfl fun w12 b13 hl15 hu16 g14 hx17 => ?_
  have h19 := Fb.mk hc0.ok hl15 hx17
  have hc20 := hc0.k0 g14
  refine L_pu (P_assign (vi 0) rfl) ?_
  refine L_nil ?_
  refine W_seq ?_
  refine W_reg ?_
  refine L_pu (P_move (vi left) rfl) ?_
  refine L_pu (P_fa fa65_0 ⟨b13, 0, none⟩ ⟨b13, 0, none⟩ rfl rfl) ?_
  refine L_pu (P_ld ag9 cL ⟨b13, 0, none⟩ (vs a.Id) rfl (h19.cell rfl)) ?_
  have hl21 := hs1
  refine L_pu (P_lens Try.underlying9 a.Id rfl) ?_
  obtain ⟨hb22, H⟩ := H
  have hi23 := hb22 (len_le hl21)
  refine L_pu (P_sub left (a.Id.length : Int) rfl rfl hi23) ?_
  refine L_pu (P_assign (vi (left - (a.Id.length : Int))) rfl) ?_
  refine L_nil ?_
  refine W_seq ?_
  refine W_seq ?_
  refine W_reg ?_
  refine L_pu (P_move (vi (left - (a.Id.length : Int))) rfl) ?_
  refine L_pu (P_cmp (left - (a.Id.length : Int)) 0 (decide (left - (a.Id.length : Int) < 0)) rfl rfl rfl) ?_
  refine L_nil ?_
  refine W_cond (decide (left - (a.Id.length : Int) < 0)) rfl (fun hq24 => ?_) (fun hq24 => ?_)
  · have H := ite_t H hq24
    refine W_seq ?_
    refine W_reg ?_
    refine L_pu (P_assign (vi (-1)) rfl) ?_
    refine L_nil ?_
    refine W_ret ?_
    exact ⟨[vi (-1)], ⟨_, rfl, rfl⟩, (-1), rfl, H, hc20.gr.g0⟩
  · have H := ite_f H hq24
    refine W_skip ?_
    refine W_seq ?_
    refine W_reg ?_
    refine L_pu (P_fa fa65_1 ⟨b13, 0, none⟩ ⟨b13, 1, none⟩ rfl rfl) ?_
    refine L_pu (P_lda ag62 sz62 cL ⟨b13, 1, none⟩ [vi a.Shape.Kind, .slice A2 n3 c4] rfl rfl (h19.cells (off := 1) rfl)) ?_
    refine L_pu (P_move (vi (left - (a.Id.length : Int))) rfl) ?_
    refine L_call go87 [.agg #[vi a.Shape.Kind, .slice A2 n3 c4], vi (left - (a.Id.length : Int))] rfl ((laws_szShape.calls w12 hc20.ok a.Shape A2 n3 c4 (hp5.st hc20.st) (left - (a.Id.length : Int)) _ H).mono ?_)
    rintro _ w25 ⟨r, rfl, H, g26⟩
    have hc30 := hc20.k0 g26
    refine L_pu (P_assign (vi r) rfl) ?_
    refine L_nil ?_
    refine W_seq ?_
    refine W_seq ?_
    refine W_reg ?_
    refine L_pu (P_move (vi r) rfl) ?_
    refine L_pu (P_cmp r 0 (decide (r < 0)) rfl rfl rfl) ?_
    refine L_nil ?_
    refine W_cond (decide (r < 0)) rfl (fun hq31 => ?_) (fun hq31 => ?_)
    · have H := ite_t H hq31
      refine W_seq ?_
      refine W_reg ?_
      refine L_pu (P_assign (vi (-1)) rfl) ?_
      refine L_nil ?_
      refine W_ret ?_
      exact ⟨[vi (-1)], ⟨_, rfl, rfl⟩, (-1), rfl, H, hc30.gr.g0⟩
    · have H := ite_f H hq31
      refine W_skip ?_
      refine W_seq ?_
      refine W_reg ?_
      refine L_pu (P_fa fa65_2 ⟨b13, 0, none⟩ ⟨b13, 3, none⟩ rfl rfl) ?_
      have h32 := (h19.st (.new _ g26))
      refine L_pu (P_ld ag63 cL ⟨b13, 3, none⟩ (.slice A7 n8 c9) rfl (h32.cell rfl)) ?_
      refine L_pu (P_move (vi r) rfl) ?_
      refine L_call go88 [.slice A7 n8 c9, vi r] rfl ((laws_szTagS.calls w25 hc30.ok a.Tags A7 n8 c9 (hp10.st hc30.st) r _ H).mono ?_)
      rintro _ w33 ⟨r2, rfl, H, g34⟩
      have hc38 := hc30.k0 g34
      refine L_pu (P_assign (vi r2) rfl) ?_
      refine L_nil ?_
      refine W_seq ?_
      refine W_seq ?_
      refine W_reg ?_
      refine L_pu (P_move (vi r2) rfl) ?_
      refine L_pu (P_cmp r2 0 (decide (r2 < 0)) rfl rfl rfl) ?_
      refine L_nil ?_
      refine W_cond (decide (r2 < 0)) rfl (fun hq39 => ?_) (fun hq39 => ?_)
      · have H := ite_t H hq39
        refine W_seq ?_
        refine W_reg ?_
        refine L_pu (P_assign (vi (-1)) rfl) ?_
        refine L_nil ?_
        refine W_ret ?_
        exact ⟨[vi (-1)], ⟨_, rfl, rfl⟩, (-1), rfl, H, hc38.gr.g0⟩
      · have H := ite_f H hq39
        refine W_skip ?_
        refine W_seq ?_
        refine W_reg ?_
        refine L_pu (P_move (vi r2) rfl) ?_
        refine L_pu (P_assign (vi r2) rfl) ?_
        refine L_nil ?_
        refine W_ret ?_
        exact ⟨[vi r2], ⟨_, rfl, rfl⟩, r2, rfl, H, hc38.gr.g0⟩
end Go.Proofs.Ytndjggncgpjolaa

namespace Go.Proofs.Ytndjggncgpjolaa
set_option linter.unusedVariables false
set_option linter.unusedSimpArgs false
set_option linter.unusedSectionVars false
theorem laws_szFeat.law (a : Feat) (left : Int) (Q : Int → Prop) (h0 : 0 ≤ left) (h1 : left ≤ 1048576) (hn : left - (bulk a : Nat) < 0 → Q (-1)) (hp : 0 ≤ left - (bulk a : Nat) → Q (left - (bulk a : Nat))) : laws_szFeat.E a left Q := by
  have hb : bulk a = bulk a.Id + bulk a.Shape + bulk a.Tags := rfl
  have hzId : bulk a.Id = a.Id.length := bulk_str _
  unfold laws_szFeat.E
  refine ⟨by intros; unfold I64; omega, ?_⟩
  split
  · rename_i hc; simp only [decide_eq_true_eq] at hc; exact hn (by omega)
  rename_i hc0; simp only [decide_eq_true_eq] at hc0
  refine laws_szShape.law _ _ _ (by omega) (by omega) (fun h => ?_) (fun h1 => ?_)
  · rw [if_pos (by decide)]; exact hn (by omega)
  rw [if_neg (by rw [decide_eq_false (by omega)]; exact Bool.false_ne_true)]
  refine laws_szTagS.law _ _ _ (by omega) (by omega) (fun h => ?_) (fun h2 => ?_)
  · rw [if_pos (by decide)]; exact hn (by omega)
  rw [if_neg (by rw [decide_eq_false (by omega)]; exact Bool.false_ne_true)]
  exact cast (congrArg Q (by omega)) (hp (by omega))
end Go.Proofs.Ytndjggncgpjolaa

namespace Go.Proofs.Ytndjggncgpjolaa
open Go.RowKit
set_option linter.unusedVariables false
def laws_szFeatS.E (a : List Feat) (left : Int) (Q : Int → Prop) : Prop :=
  ((a.length : Int) ≤ 9223372036854775807 → I64 (left - (a.length : Int))) ∧ (if decide (left - (a.length : Int) < 0) then Q (-1) else (∃ (I22 : Int → Int → Prop) (mu23 : Int → Int → Nat), I22 (left - (a.length : Int)) 0 ∧ ∀ (left3 : Int) (i2 : Int), I22 left3 i2 → (if decide (i2 < (a.length : Int)) then ((0 : Int) ≤ i2 ∧ i2 < (a.length : Int)) ∧ laws_szFeat.E (nth a i2) left3 (fun r => (if decide (r < 0) then Q (-1) else (-9223372036854775808 ≤ i2) ∧ I22 r (i2 + 1) ∧ mu23 r (i2 + 1) < mu23 left3 i2)) else Q left3)))
set_option maxHeartbeats 8000000 in
set_option maxRecDepth 100000 in
theorem laws_szFeatS.calls {O : Ob} (w0 : World) (hO : Ok w0 O) (a : List Feat) (A1 : Option Addr) (n2 c3 : Nat) (hp4 : Sl kFeat w0 (Fr O) (.slice A1 n2 c3) a) (left : Int) (Q : Int → Prop) (h : laws_szFeatS.E a left Q) :
    Ret Try.prog 25 [.slice A1 n2 c3, vi left] w0 (fun v w' => ∃ (r0 : Int), v = vi r0 ∧ Q r0 ∧ Gr w0 w' none) := by
  have H : ((a.length : Int) ≤ 9223372036854775807 → I64 (left - (a.length : Int))) ∧ (if decide (left - (a.length : Int) < 0) then Q (-1) else (∃ (I22 : Int → Int → Prop) (mu23 : Int → Int → Nat), I22 (left - (a.length : Int)) 0 ∧ ∀ (left3 : Int) (i2 : Int), I22 left3 i2 → (if decide (i2 < (a.length : Int)) then ((0 : Int) ≤ i2 ∧ i2 < (a.length : Int)) ∧ laws_szFeat.E (nth a i2) left3 (fun r => (if decide (r < 0) then Q (-1) else (-9223372036854775808 ≤ i2) ∧ I22 r (i2 + 1) ∧ mu23 r (i2 + 1) < mu23 left3 i2)) else Q left3))) := h
  clear h
  have hc0 := Ct.init hO
  refine Ret_enter Try.func25 rfl 27 rfl [.tmp 4] rfl rfl ?_
  refine W_seq ?_
  refine W_reg ?_
  refine L_pu (P_assign (vi 0) rfl) ?_
  refine L_nil ?_
  refine W_seq ?_
  refine W_reg ?_
  refine L_pu (P_move (vi left) rfl) ?_
  refine L_pu (P_move (.slice A1 n2 c3) rfl) ?_
  have hl6 := hp4.le
  refine L_pu (P_len Try.underlying49 A1 n2 c3 hp4.len rfl) ?_
  obtain ⟨hb7, H⟩ := H
  have hi8 := hb7 (len_le hl6)
  refine L_pu (P_sub left (a.length : Int) rfl rfl hi8) ?_
  refine L_pu (P_assign (vi (left - (a.length : Int))) rfl) ?_
  refine L_nil ?_
  refine W_seq ?_
  refine W_seq ?_
  refine W_reg ?_
  refine L_pu (P_move (vi (left - (a.length : Int))) rfl) ?_
  refine L_pu (P_cmp (left - (a.length : Int)) 0 (decide (left - (a.length : Int) < 0)) rfl rfl rfl) ?_
  refine L_nil ?_
  refine W_cond (decide (left - (a.length : Int) < 0)) rfl (fun hq9 => ?_) (fun hq9 => ?_)
  · have H := ite_t H hq9
    refine W_seq ?_
    refine W_reg ?_
    refine L_pu (P_assign (vi (-1)) rfl) ?_
    refine L_nil ?_
    refine W_ret ?_
    exact ⟨[vi (-1)], ⟨_, rfl, rfl⟩, (-1), rfl, H, hc0.gr.g0⟩
  · have H := ite_f H hq9
    refine W_skip ?_
    refine W_seq ?_
    refine W_seq ?_
    refine W_reg ?_
    refine L_pu (P_assign (vi 0) rfl) ?_
    refine L_nil ?_
    refine W_block ?_
    obtain ⟨I22, mu23, hI24, H⟩ := H
    refine W_loop (α := Int × Int) (fun (sv__ : Int × Int) t w18 => match sv__ with | (left3, i2) => I22 left3 i2 ∧ Has t [(0, .slice A1 n2 c3), (1, vi left3), (5, vi i2)] ∧ Ct [] w0 w18 [] O ∧ Sl kFeat w18 (Fr ([] ++ O)) (.slice A1 n2 c3) a) (fun (sv__ : Int × Int) => match sv__ with | (left3, i2) => mu23 left3 i2) (left - (a.length : Int), 0) ⟨hI24, ⟨rfl, rfl, rfl, trivial⟩, hc0, hp4⟩ ?_
    rintro ⟨left3, i2⟩ _ w18 ⟨hI24, hh26, hc20, h21⟩
    obtain ⟨u27, rfl⟩ := Has.ins hh26
    have H := H left3 i2 hI24
    refine W_seq ?_
    refine W_seq ?_
    refine W_reg ?_
    refine L_pu (P_move (vi i2) rfl) ?_
    refine L_pu (P_move (.slice A1 n2 c3) rfl) ?_
    have hl28 := h21.le
    refine L_pu (P_len Try.underlying49 A1 n2 c3 h21.len rfl) ?_
    refine L_pu (P_cmp i2 (a.length : Int) (decide (i2 < (a.length : Int))) rfl rfl rfl) ?_
    refine L_nil ?_
    refine W_cond (decide (i2 < (a.length : Int))) rfl (fun hq29 => ?_) (fun hq29 => ?_)
    · have H := ite_t H hq29
      refine W_skip ?_
      refine W_seq ?_
      refine W_block ?_
      refine W_seq ?_
      refine W_reg ?_
      refine L_pu (P_move (.slice A1 n2 c3) rfl) ?_
      refine L_pu (P_move (vi i2) rfl) ?_
      obtain ⟨hb30, H⟩ := H
      obtain ⟨ad31, cs32, hA33, hS36, hR34, hcl35⟩ := h21.get default (by decide) i2 hb30
      obtain ⟨A38, n39, c40, A43, n44, c45, rfl, hs37, h41, h46⟩ := kFeat.op hR34
      refine L_pu (P_ia Try.underlying49 se49 A1 ad31 n2 c3 h21.len i2 rfl hA33 rfl hb30) ?_
      refine L_pu (P_lda ag65 sz65 cL (ad31.add (i2.toNat * 4)) [vs ((nth a i2).Id), vi ((nth a i2).Shape.Kind), .slice A38 n39 c40, .slice A43 n44 c45] rfl rfl hcl35) ?_
      refine L_pu (P_move (vi left3) rfl) ?_
      refine L_call go33 [.agg #[vs ((nth a i2).Id), vi ((nth a i2).Shape.Kind), .slice A38 n39 c40, .slice A43 n44 c45], vi left3] rfl ((laws_szFeat.calls w18 hc20.ok (nth a i2) A38 n39 c40 A43 n44 c45 hs37 h41 h46 left3 _ H).mono ?_)
      rintro _ w48 ⟨r, rfl, H, g49⟩
      have hc53 := hc20.k0 g49
      refine L_pu (P_assign (vi r) rfl) ?_
      refine L_nil ?_
      refine W_seq ?_
      refine W_reg ?_
      refine L_pu (P_move (vi r) rfl) ?_
      refine L_pu (P_cmp r 0 (decide (r < 0)) rfl rfl rfl) ?_
      refine L_nil ?_
      refine W_cond (decide (r < 0)) rfl (fun hq54 => ?_) (fun hq54 => ?_)
      · have H := ite_t H hq54
        refine W_seq ?_
        refine W_reg ?_
        refine L_pu (P_assign (vi (-1)) rfl) ?_
        refine L_nil ?_
        refine W_ret ?_
        exact ⟨[vi (-1)], ⟨_, rfl, rfl⟩, (-1), rfl, H, hc53.gr.g0⟩
      · have H := ite_f H hq54
        refine W_skip ?_
        refine W_reg ?_
        refine L_pu (P_move (vi i2) rfl) ?_
        obtain ⟨hb56, H⟩ := H
        have hi55 : I64 (i2 + 1) := i64_succ (of_decide_eq_true hq29) hl28 hb56
        refine L_pu (P_add i2 1 rfl rfl hi55) ?_
        refine L_pu (P_assign (vi (i2 + 1)) rfl) ?_
        refine L_nil ?_
        obtain ⟨hI57, hm58⟩ := H
        exact ⟨(r, i2 + 1), hm58, hI57, ⟨rfl, rfl, rfl, trivial⟩, hc53, (h21.st (.new _ g49))⟩
    · have H := ite_f H hq29
      refine W_exit (xin_hit ?_)
      refine W_seq ?_
      refine W_reg ?_
      refine L_pu (P_move (vi left3) rfl) ?_
      refine L_pu (P_assign (vi left3) rfl) ?_
      refine L_nil ?_
      refine W_ret ?_
      exact ⟨[vi left3], ⟨_, rfl, rfl⟩, left3, rfl, H, hc20.gr.g0⟩
end Go.Proofs.Ytndjggncgpjolaa

namespace Go.Proofs.Ytndjggncgpjolaa
set_option linter.unusedVariables false
set_option linter.unusedSimpArgs false
set_option linter.unusedSectionVars false
theorem laws_szFeatS.law (a : List Feat) (left : Int) (Q : Int → Prop) (h0 : 0 ≤ left) (h1 : left ≤ 1048576) (hn : left - (bulk a : Nat) < 0 → Q (-1)) (hp : 0 ≤ left - (bulk a : Nat) → Q (left - (bulk a : Nat))) : laws_szFeatS.E a left Q := by
  unfold laws_szFeatS.E
  exact szS_shape laws_szFeat.E (fun x l Q => laws_szFeat.law x l Q) a left Q h0 h1 hn hp
end Go.Proofs.Ytndjggncgpjolaa

namespace Go.Proofs.Ytndjggncgpjolaa
open Go.RowKit
set_option linter.unusedVariables false
def laws_toPt.E (a : Pt) (Q : Pt → Prop) : Prop :=
  Q a
set_option maxHeartbeats 8000000 in
set_option maxRecDepth 100000 in
theorem laws_toPt.calls {O : Ob} (w0 : World) (hO : Ok w0 O) (a : Pt) (Q : Pt → Prop) (h : laws_toPt.E a Q) :
    Ret Try.prog 168 [.agg #[vi a.X, vi a.Y]] w0 (fun v w' => ∃ (r0 : Pt), v = .agg #[vi r0.X, vi r0.Y] ∧ Q r0 ∧ Gr w0 w' none) := by
  have H : Q a := h
  clear h
  have hc0 := Ct.init hO
  refine Ret_enter Try.func168 rfl 11 rfl [.cell 2 29] rfl rfl ?_
  refine W_seq ?_
  refine W_reg ?_
  refine L_box [vi a.X, vi a.Y] rfl fun w1 b2 hl4 hu5 g3 hx6 => ?_
  have h8 := Fb.mk hc0.ok hl4 hx6
  have hc9 := hc0.k0 g3
  refine L_alloc [.int .i64 0, .int .i64 0] ze29 fun w10 b11 hl13 hu14 g12 hx15 => ?_
  have hc17 := hc9.own g12 (some b11) (oglt hl13 hu14)
  refine L_nil ?_
  refine W_seq ?_
  refine W_reg ?_
  refine L_alloc [.int .i64 0, .int .i64 0] ze29 fun w18 b19 hl21 hu22 g20 hx23 => ?_
  have hc25 := hc17.own g20 (some b19) (oglt hl21 hu22)
  refine L_nil ?_
  refine W_seq ?_
  refine W_reg ?_
  refine L_pu (P_fa fa201_0 ⟨b2, 0, none⟩ ⟨b2, 0, none⟩ rfl rfl) ?_
  have h26 := ((h8.st (.own _ _ g12 (oge hl13))).st (.own _ _ g20 (oge hl21)))
  refine L_pu (P_ld ag3 cL ⟨b2, 0, none⟩ (vi a.X) rfl (h26.cell rfl)) ?_
  refine L_pu (P_fa fa29_0 ⟨b19, 0, none⟩ ⟨b19, 0, none⟩ rfl rfl) ?_
  refine L_stb b19 0 [vi 0, vi 0] [vi a.X] [vi a.X, vi 0] rfl hx23 rfl sz3 rfl rfl rfl fun w27 g28 hx29 => ?_
  have hc30 := hc25.wr 0 rfl g28
  refine L_nil ?_
  refine W_seq ?_
  refine W_reg ?_
  refine L_pu (P_fa fa201_1 ⟨b2, 0, none⟩ ⟨b2, 1, none⟩ rfl rfl) ?_
  have h31 := (h26.st (.wl (L := [some b19, some b11]) (O := O) (j := 0) rfl g28))
  refine L_pu (P_ld ag3 cL ⟨b2, 1, none⟩ (vi a.Y) rfl (h31.cell rfl)) ?_
  refine L_pu (P_fa fa29_1 ⟨b19, 0, none⟩ ⟨b19, 1, none⟩ rfl rfl) ?_
  refine L_stb b19 1 [vi a.X, vi 0] [vi a.Y] [vi a.X, vi a.Y] rfl hx29 rfl sz3 rfl rfl rfl fun w32 g33 hx34 => ?_
  have hc35 := hc30.wr 0 rfl g33
  refine L_nil ?_
  refine W_seq ?_
  refine W_reg ?_
  refine L_pu (P_lda ag29 sz29 cL ⟨b19, 0, none⟩ [vi a.X, vi a.Y] rfl rfl (hx34.cells (off := 0) rfl)) ?_
  have h39 := (Bx.sm (L := [some b19, some b11]) (O := O) (Bx.sm (L := [some b19, some b11]) (O := O) (hx15.k0 g20) hc25 (i := 1) rfl (j := 0) rfl (by decide) g28) hc30 (i := 1) rfl (j := 0) rfl (by decide) g33)
  refine L_stb b11 0 [vi 0, vi 0] [vi a.X, vi a.Y] [vi a.X, vi a.Y] rfl h39 rfl sz29 rfl rfl rfl fun w36 g37 hx38 => ?_
  have hc40 := hc35.wr 1 rfl g37
  refine L_nil ?_
  refine W_ret ?_
  have h41 := Bx.gv (L := [some b19, some b11]) (O := O) hx38 hc40 (i := 1) rfl
  have hc42 := hc40.drop 1 rfl
  have hc43 := hc42.drop 0 rfl
  have h44 := (h41.st (.dr _ (L := [some b19]) (O := O) (j := 0) rfl))
  exact ⟨[.agg #[vi a.X, vi a.Y]], ⟨_, _, rfl, h44.1.res rfl ag29 sz29, rfl⟩, a, rfl, H, hc43.gr.g0⟩
def laws_toPt.m (a : Pt) : Pt := a
theorem laws_toPt.fn (a : Pt) : laws_toPt.E a (fun r => r = laws_toPt.m a) := by
  unfold laws_toPt.E laws_toPt.m
  rfl
end Go.Proofs.Ytndjggncgpjolaa

namespace Go.Proofs.Ytndjggncgpjolaa
set_option linter.unusedVariables false
set_option linter.unusedSimpArgs false
set_option linter.unusedSectionVars false
theorem laws_toPt.law (a : Pt) (Q : Pt → Prop) (ha : bulk a ≤ 1048576) (hq : Q a) : laws_toPt.E a Q := by
  unfold laws_toPt.E
  have hb : bulk a = bulk a.X + bulk a.Y := rfl
  exact hq
end Go.Proofs.Ytndjggncgpjolaa

namespace Go.Proofs.Ytndjggncgpjolaa
open Go.RowKit
set_option linter.unusedVariables false
def laws_toPtS.E (a : List Pt) (Q : List Pt → Prop) : Prop :=
  ((0 : Int) ≤ (a.length : Int) ∧ (a.length : Int) ≤ (268435456 : Int)) ∧ (∃ (I41 : (List Pt) → Int → Prop) (mu42 : (List Pt) → Int → Nat), I41 (List.replicate (a.length : Int).toNat ((⟨0, 0⟩ : Pt) : Pt)) 0 ∧ ∀ (xs2 : List Pt) (i2 : Int), I41 xs2 i2 → (if decide (i2 < (a.length : Int)) then ((0 : Int) ≤ i2 ∧ i2 < (a.length : Int)) ∧ laws_toPt.E (nth a i2) (fun r => ((0 : Int) ≤ i2 ∧ i2 < (xs2.length : Int)) ∧ (-9223372036854775808 ≤ i2) ∧ I41 (xs2.set i2.toNat r) (i2 + 1) ∧ mu42 (xs2.set i2.toNat r) (i2 + 1) < mu42 xs2 i2) else Q xs2))
set_option maxHeartbeats 8000000 in
set_option maxRecDepth 100000 in
theorem laws_toPtS.calls {O : Ob} (w0 : World) (hO : Ok w0 O) (a : List Pt) (A1 : Option Addr) (n2 c3 : Nat) (hp4 : Sl kPt w0 (Fr O) (.slice A1 n2 c3) a) (Q : List Pt → Prop) (h : laws_toPtS.E a Q) :
    Ret Try.prog 139 [.slice A1 n2 c3] w0 (fun v w' => ∃ (r0 : List Pt) (A0 : Option Addr) (n0 c0 : Nat), v = .slice A0 n0 c0 ∧ Q r0 ∧ Gr w0 w' none ∧ Ok w' ([blk (.slice A0 n0 c0)] ++ O) ∧ (∀ b, some b ∈ [blk (.slice A0 n0 c0)] → w0.heap.size ≤ b) ∧ Ow kPt 29 w' ([blk (.slice A0 n0 c0)] ++ O) (.slice A0 n0 c0) r0) := by
  have H : ((0 : Int) ≤ (a.length : Int) ∧ (a.length : Int) ≤ (268435456 : Int)) ∧ (∃ (I41 : (List Pt) → Int → Prop) (mu42 : (List Pt) → Int → Nat), I41 (List.replicate (a.length : Int).toNat ((⟨0, 0⟩ : Pt) : Pt)) 0 ∧ ∀ (xs2 : List Pt) (i2 : Int), I41 xs2 i2 → (if decide (i2 < (a.length : Int)) then ((0 : Int) ≤ i2 ∧ i2 < (a.length : Int)) ∧ laws_toPt.E (nth a i2) (fun r => ((0 : Int) ≤ i2 ∧ i2 < (xs2.length : Int)) ∧ (-9223372036854775808 ≤ i2) ∧ I41 (xs2.set i2.toNat r) (i2 + 1) ∧ mu42 (xs2.set i2.toNat r) (i2 + 1) < mu42 xs2 i2) else Q xs2)) := h
  clear h
  have hc0 := Ct.init hO
  refine Ret_enter Try.func139 rfl 23 rfl [.tmp 2] rfl rfl ?_
  refine W_seq ?_
  refine W_reg ?_
  refine L_pu (P_assign (.slice none 0 0) rfl) ?_
  refine L_nil ?_
  refine W_seq ?_
  refine W_reg ?_
  refine L_pu (P_move (.slice A1 n2 c3) rfl) ?_
  have hl6 := hp4.le
  refine L_pu (P_len Try.underlying60 A1 n2 c3 hp4.len rfl) ?_
  obtain ⟨hb7, H⟩ := H
  refine L_make (kd := kPt) ei23 hc0 ((⟨0, 0⟩ : Pt) : Pt) ((kPt.mk _ _ (⟨0, 0⟩ : Pt))) (a.length : Int) rfl rfl hb7 fun w8 A9 n10 c11 g12 hr13 hc14 h15 => ?_
  refine L_pu (P_assign (.slice A9 n10 c11) rfl) ?_
  refine L_nil ?_
  refine W_seq ?_
  refine W_seq ?_
  refine W_reg ?_
  refine L_pu (P_assign (vi 0) rfl) ?_
  refine L_nil ?_
  refine W_block ?_
  obtain ⟨I41, mu42, hI43, H⟩ := H
  refine W_loop (α := (List Pt) × Int) (fun (sv__ : (List Pt) × Int) t w32 => match sv__ with | (xs2, i2) => I41 xs2 i2 ∧ Has t [(0, .slice A1 n2 c3), (3, .slice A9 n10 c11), (4, vi i2)] ∧ Ct [] w0 w32 [blk (.slice A9 n10 c11)] O ∧ Sl kPt w32 (Fr ([blk (.slice A9 n10 c11)] ++ O)) (.slice A1 n2 c3) a ∧ Ow kPt 29 w32 ([blk (.slice A9 n10 c11)] ++ O) (.slice A9 n10 c11) xs2) (fun (sv__ : (List Pt) × Int) => match sv__ with | (xs2, i2) => mu42 xs2 i2) ((List.replicate (a.length : Int).toNat ((⟨0, 0⟩ : Pt) : Pt)), 0) ⟨hI43, ⟨rfl, rfl, rfl, trivial⟩, hc14, (hp4.st hc14.st), h15⟩ ?_
  rintro ⟨xs2, i2⟩ _ w32 ⟨hI43, hh45, hc38, h39, h40⟩
  obtain ⟨u46, rfl⟩ := Has.ins hh45
  have H := H xs2 i2 hI43
  refine W_seq ?_
  refine W_seq ?_
  refine W_reg ?_
  refine L_pu (P_move (vi i2) rfl) ?_
  refine L_pu (P_move (.slice A1 n2 c3) rfl) ?_
  have hl47 := h39.le
  refine L_pu (P_len Try.underlying60 A1 n2 c3 h39.len rfl) ?_
  refine L_pu (P_cmp i2 (a.length : Int) (decide (i2 < (a.length : Int))) rfl rfl rfl) ?_
  refine L_nil ?_
  refine W_cond (decide (i2 < (a.length : Int))) rfl (fun hq48 => ?_) (fun hq48 => ?_)
  · have H := ite_t H hq48
    refine W_skip ?_
    refine W_seq ?_
    refine W_block ?_
    refine W_reg ?_
    refine L_pu (P_move (.slice A9 n10 c11) rfl) ?_
    refine L_pu (P_move (vi i2) rfl) ?_
    refine L_pu (P_move (.slice A1 n2 c3) rfl) ?_
    refine L_pu (P_move (vi i2) rfl) ?_
    obtain ⟨hb49, H⟩ := H
    obtain ⟨ad50, cs51, hA52, hS55, hR53, hcl54⟩ := h39.get default (by decide) i2 hb49
    obtain rfl := kPt.op hR53
    refine L_pu (P_ia Try.underlying60 se60 A1 ad50 n2 c3 h39.len i2 rfl hA52 rfl hb49) ?_
    refine L_pu (P_lda ag201 sz201 cL (ad50.add (i2.toNat * 2)) [vi ((nth a i2).X), vi ((nth a i2).Y)] rfl rfl hcl54) ?_
    refine L_call go168 [.agg #[vi ((nth a i2).X), vi ((nth a i2).Y)]] rfl ((laws_toPt.calls w32 hc38.ok (nth a i2) _ H).mono ?_)
    rintro _ w56 ⟨r, rfl, H, g57⟩
    have hc61 := hc38.k0 g57
    obtain ⟨hb62, H⟩ := H
    have h69 := (h40.sn g57)
    obtain ⟨ad63, cs64, hA65, hR66, hcl67⟩ := h69.get default (by decide) i2 hb62
    obtain rfl := kPt.op hR66
    refine L_pu (P_ia Try.underlying23 se23 A9 ad63 n10 c11 h69.len i2 rfl hA65 rfl hb62) ?_
    refine L_ste0 A9 n10 c11 xs2 h69 i2 hb62 ad63 hA65 0 rfl [vi r.X, vi r.Y] rfl sz29 rfl r [vi ((nth xs2 i2).X), vi ((nth xs2 i2).Y)] [vi r.X, vi r.Y] hcl67 rfl rfl (kPt.mk _ _ r) fun w70 g71 h72 => ?_
    have hc73 := hc61.wr 0 rfl g71
    refine L_nil ?_
    refine W_reg ?_
    refine L_pu (P_move (vi i2) rfl) ?_
    obtain ⟨hb75, H⟩ := H
    have hi74 : I64 (i2 + 1) := i64_succ (of_decide_eq_true hq48) hl47 hb75
    refine L_pu (P_add i2 1 rfl rfl hi74) ?_
    refine L_pu (P_assign (vi (i2 + 1)) rfl) ?_
    refine L_nil ?_
    obtain ⟨hI76, hm77⟩ := H
    have h78 := ((h39.st (.new _ g57)).st (.wl (L := [blk (.slice A9 n10 c11)]) (O := O) (j := 0) rfl g71))
    exact ⟨((xs2.set i2.toNat r), i2 + 1), hm77, hI76, ⟨rfl, rfl, rfl, trivial⟩, hc73, h78, h72⟩
  · have H := ite_f H hq48
    refine W_exit (xin_hit ?_)
    refine W_seq ?_
    refine W_reg ?_
    refine L_pu (P_move (.slice A9 n10 c11) rfl) ?_
    refine L_pu (P_assign (.slice A9 n10 c11) rfl) ?_
    refine L_nil ?_
    refine W_ret ?_
    exact ⟨[.slice A9 n10 c11], ⟨_, rfl, rfl⟩, xs2, A9, n10, c11, rfl, H, hc38.gr.g0, hc38.ok, hc38.ge, h40⟩
end Go.Proofs.Ytndjggncgpjolaa

namespace Go.Proofs.Ytndjggncgpjolaa
set_option linter.unusedVariables false
set_option linter.unusedSimpArgs false
set_option linter.unusedSectionVars false
theorem laws_toPtS.law (a : List Pt) (Q : List Pt → Prop) (ha : bulk a ≤ 1048576) (hq : Q a) : laws_toPtS.E a Q := by
  unfold laws_toPtS.E
  exact toS_shape _ laws_toPt.E (fun x Q => laws_toPt.law x Q) a Q ha hq
end Go.Proofs.Ytndjggncgpjolaa

namespace Go.Proofs.Ytndjggncgpjolaa
open Go.RowKit
set_option linter.unusedVariables false
def laws_toShape.E (a : Shape) (Q : Shape → Prop) : Prop :=
  laws_toPtS.E a.Pts (fun r => Q (⟨a.Kind, r⟩ : Shape))
set_option maxHeartbeats 8000000 in
set_option maxRecDepth 100000 in
theorem laws_toShape.calls {O : Ob} (w0 : World) (hO : Ok w0 O) (a : Shape) (A1 : Option Addr) (n2 c3 : Nat) (hp4 : Sl kPt w0 (Fr O) (.slice A1 n2 c3) a.Pts) (Q : Shape → Prop) (h : laws_toShape.E a Q) :
    Ret Try.prog 91 [.agg #[vi a.Kind, .slice A1 n2 c3]] w0 (fun v w' => ∃ (r0 : Shape) (A0 : Option Addr) (n0 c0 : Nat), v = .agg #[vi r0.Kind, .slice A0 n0 c0] ∧ Q r0 ∧ Gr w0 w' none ∧ Ok w' ([blk (.slice A0 n0 c0)] ++ O) ∧ (∀ b, some b ∈ [blk (.slice A0 n0 c0)] → w0.heap.size ≤ b) ∧ Ow kPt 29 w' ([blk (.slice A0 n0 c0)] ++ O) (.slice A0 n0 c0) r0.Pts) := by
  have H : laws_toPtS.E a.Pts (fun r => Q (⟨a.Kind, r⟩ : Shape)) := h
  clear h
  have hc0 := Ct.init hO
  refine Ret_enter Try.func91 rfl 12 rfl [.cell 2 68] rfl rfl ?_
  refine W_seq ?_
  refine W_reg ?_
  refine L_box [vi a.Kind, .slice A1 n2 c3] rfl fun w6 b7 hl9 hu10 g8 hx11 => ?_
  have h13 := Fb.mk hc0.ok hl9 hx11
  have hc14 := hc0.k0 g8
  refine L_alloc [.int .i64 0, .slice none 0 0] ze68 fun w15 b16 hl18 hu19 g17 hx20 => ?_
  have hc22 := hc14.own g17 (some b16) (oglt hl18 hu19)
  refine L_nil ?_
  refine W_seq ?_
  refine W_reg ?_
  refine L_alloc [.int .i64 0, .slice none 0 0] ze68 fun w23 b24 hl26 hu27 g25 hx28 => ?_
  have hc30 := hc22.own g25 (some b24) (oglt hl26 hu27)
  refine L_nil ?_
  refine W_seq ?_
  refine W_reg ?_
  refine L_pu (P_fa fa62_0 ⟨b7, 0, none⟩ ⟨b7, 0, none⟩ rfl rfl) ?_
  have h31 := ((h13.st (.own _ _ g17 (oge hl18))).st (.own _ _ g25 (oge hl26)))
  refine L_pu (P_ld ag3 cL ⟨b7, 0, none⟩ (vi a.Kind) rfl (h31.cell rfl)) ?_
  refine L_pu (P_fa fa68_0 ⟨b24, 0, none⟩ ⟨b24, 0, none⟩ rfl rfl) ?_
  refine L_stb b24 0 [vi 0, .slice none 0 0] [vi a.Kind] [vi a.Kind, .slice none 0 0] rfl hx28 rfl sz3 rfl rfl rfl fun w32 g33 hx34 => ?_
  have hc35 := hc30.wr 0 rfl g33
  refine L_nil ?_
  refine W_seq ?_
  refine W_reg ?_
  refine L_pu (P_fa fa62_1 ⟨b7, 0, none⟩ ⟨b7, 1, none⟩ rfl rfl) ?_
  have h36 := (h31.st (.wl (L := [some b24, some b16]) (O := O) (j := 0) rfl g33))
  refine L_pu (P_ld ag60 cL ⟨b7, 1, none⟩ (.slice A1 n2 c3) rfl (h36.cell rfl)) ?_
  refine L_call go139 [.slice A1 n2 c3] rfl ((laws_toPtS.calls w32 hc35.ok a.Pts A1 n2 c3 (hp4.st hc35.st) _ H).mono ?_)
  rintro _ w37 ⟨r, A39, n40, c41, rfl, H, g38, hk45, hk46, h42⟩
  have hc47 := hc35.owns g38 hk45 hk46
  refine L_pu (P_fa fa68_1 ⟨b24, 0, none⟩ ⟨b24, 1, none⟩ rfl rfl) ?_
  have h51 := (hx34.k0 g38)
  refine L_stb b24 1 [vi a.Kind, .slice none 0 0] [.slice A39 n40 c41] [vi a.Kind, .slice A39 n40 c41] rfl h51 rfl sz23 rfl rfl rfl fun w48 g49 hx50 => ?_
  have hc52 := hc47.wr 1 rfl g49
  refine L_nil ?_
  refine W_seq ?_
  refine W_reg ?_
  refine L_pu (P_lda ag68 sz68 cL ⟨b24, 0, none⟩ [vi a.Kind, .slice A39 n40 c41] rfl rfl (hx50.cells (off := 0) rfl)) ?_
  have h56 := (Bx.sm (L := [blk (.slice A39 n40 c41), some b24, some b16]) (O := O) ((Bx.sm (L := [some b24, some b16]) (O := O) (hx20.k0 g25) hc30 (i := 1) rfl (j := 0) rfl (by decide) g33).k0 g38) hc47 (i := 2) rfl (j := 1) rfl (by decide) g49)
  refine L_stb b16 0 [vi 0, .slice none 0 0] [vi a.Kind, .slice A39 n40 c41] [vi a.Kind, .slice A39 n40 c41] rfl h56 rfl sz68 rfl rfl rfl fun w53 g54 hx55 => ?_
  have hc57 := hc52.wr 2 rfl g54
  refine L_nil ?_
  refine W_ret ?_
  have h58 := Bx.gv (L := [blk (.slice A39 n40 c41), some b24, some b16]) (O := O) hx55 hc57 (i := 2) rfl
  have hc59 := hc57.drop 2 rfl
  have hc60 := hc59.drop 1 rfl
  have h61 := (h58.st (.dr _ (L := [blk (.slice A39 n40 c41), some b24]) (O := O) (j := 1) rfl))
  have h62 := (Ow.sd (L := [blk (.slice A39 n40 c41), some b24]) (O := O) (Ow.sd (L := [blk (.slice A39 n40 c41), some b24, some b16]) (O := O) (Ow.sw (L := [blk (.slice A39 n40 c41), some b24, some b16]) (O := O) (Ow.sw (L := [blk (.slice A39 n40 c41), some b24, some b16]) (O := O) h42 hc47 (i := 0) rfl (j := 1) rfl (by decide) g49) hc52 (i := 0) rfl (j := 2) rfl (by decide) g54) (i := 0) rfl (j := 2) rfl (by decide)) (i := 0) rfl (j := 1) rfl (by decide))
  exact ⟨[.agg #[vi a.Kind, .slice A39 n40 c41]], ⟨_, _, rfl, h61.1.res rfl ag68 sz68, rfl⟩, (⟨a.Kind, r⟩ : Shape), A39, n40, c41, rfl, H, hc60.gr.g0, hc60.ok, hc60.ge, h62⟩
end Go.Proofs.Ytndjggncgpjolaa

namespace Go.Proofs.Ytndjggncgpjolaa
set_option linter.unusedVariables false
set_option linter.unusedSimpArgs false
set_option linter.unusedSectionVars false
theorem laws_toShape.law (a : Shape) (Q : Shape → Prop) (ha : bulk a ≤ 1048576) (hq : Q a) : laws_toShape.E a Q := by
  unfold laws_toShape.E
  have hb : bulk a = bulk a.Kind + bulk a.Pts := rfl
  refine laws_toPtS.law _ _ (by omega) ?_
  exact hq
end Go.Proofs.Ytndjggncgpjolaa

namespace Go.Proofs.Ytndjggncgpjolaa
open Go.RowKit
set_option linter.unusedVariables false
def laws_toTag.E (a : Tag) (Q : Tag → Prop) : Prop :=
  Q a
set_option maxHeartbeats 8000000 in
set_option maxRecDepth 100000 in
theorem laws_toTag.calls {O : Ob} (w0 : World) (hO : Ok w0 O) (a : Tag) (hs1 : Lim a.Key) (hs2 : Lim a.Val) (Q : Tag → Prop) (h : laws_toTag.E a Q) :
    Ret Try.prog 140 [.agg #[vs a.Key, vs a.Val]] w0 (fun v w' => ∃ (r0 : Tag), v = .agg #[vs r0.Key, vs r0.Val] ∧ Q r0 ∧ Gr w0 w' none ∧ Lim r0.Key ∧ Lim r0.Val) := by
  have H : Q a := h
  clear h
  have hc0 := Ct.init hO
  refine Ret_enter Try.func140 rfl 11 rfl [.cell 2 133] rfl rfl ?_
  refine W_seq ?_
  refine W_reg ?_
  refine L_box [vs a.Key, vs a.Val] rfl fun w3 b4 hl6 hu7 g5 hx8 => ?_
  have h10 := Fb.mk hc0.ok hl6 hx8
  have hc11 := hc0.k0 g5
  refine L_alloc [vs [], vs []] ze133 fun w12 b13 hl15 hu16 g14 hx17 => ?_
  have hc19 := hc11.own g14 (some b13) (oglt hl15 hu16)
  refine L_nil ?_
  refine W_seq ?_
  refine W_reg ?_
  refine L_alloc [vs [], vs []] ze133 fun w20 b21 hl23 hu24 g22 hx25 => ?_
  have hc27 := hc19.own g22 (some b21) (oglt hl23 hu24)
  refine L_nil ?_
  refine W_seq ?_
  refine W_reg ?_
  refine L_pu (P_fa fa166_0 ⟨b4, 0, none⟩ ⟨b4, 0, none⟩ rfl rfl) ?_
  have h28 := ((h10.st (.own _ _ g14 (oge hl15))).st (.own _ _ g22 (oge hl23)))
  refine L_pu (P_ld ag9 cL ⟨b4, 0, none⟩ (vs a.Key) rfl (h28.cell rfl)) ?_
  refine L_pu (P_fa fa133_0 ⟨b21, 0, none⟩ ⟨b21, 0, none⟩ rfl rfl) ?_
  refine L_stb b21 0 [vs ([] : Str), vs ([] : Str)] [vs a.Key] [vs a.Key, vs ([] : Str)] rfl hx25 rfl sz9 rfl rfl rfl fun w29 g30 hx31 => ?_
  have hc32 := hc27.wr 0 rfl g30
  refine L_nil ?_
  refine W_seq ?_
  refine W_reg ?_
  refine L_pu (P_fa fa166_1 ⟨b4, 0, none⟩ ⟨b4, 1, none⟩ rfl rfl) ?_
  have h33 := (h28.st (.wl (L := [some b21, some b13]) (O := O) (j := 0) rfl g30))
  refine L_pu (P_ld ag9 cL ⟨b4, 1, none⟩ (vs a.Val) rfl (h33.cell rfl)) ?_
  refine L_pu (P_fa fa133_1 ⟨b21, 0, none⟩ ⟨b21, 1, none⟩ rfl rfl) ?_
  refine L_stb b21 1 [vs a.Key, vs ([] : Str)] [vs a.Val] [vs a.Key, vs a.Val] rfl hx31 rfl sz9 rfl rfl rfl fun w34 g35 hx36 => ?_
  have hc37 := hc32.wr 0 rfl g35
  refine L_nil ?_
  refine W_seq ?_
  refine W_reg ?_
  refine L_pu (P_lda ag133 sz133 cL ⟨b21, 0, none⟩ [vs a.Key, vs a.Val] rfl rfl (hx36.cells (off := 0) rfl)) ?_
  have h41 := (Bx.sm (L := [some b21, some b13]) (O := O) (Bx.sm (L := [some b21, some b13]) (O := O) (hx17.k0 g22) hc27 (i := 1) rfl (j := 0) rfl (by decide) g30) hc32 (i := 1) rfl (j := 0) rfl (by decide) g35)
  refine L_stb b13 0 [vs ([] : Str), vs ([] : Str)] [vs a.Key, vs a.Val] [vs a.Key, vs a.Val] rfl h41 rfl sz133 rfl rfl rfl fun w38 g39 hx40 => ?_
  have hc42 := hc37.wr 1 rfl g39
  refine L_nil ?_
  refine W_ret ?_
  have h43 := Bx.gv (L := [some b21, some b13]) (O := O) hx40 hc42 (i := 1) rfl
  have hc44 := hc42.drop 1 rfl
  have hc45 := hc44.drop 0 rfl
  have h46 := (h43.st (.dr _ (L := [some b21]) (O := O) (j := 0) rfl))
  exact ⟨[.agg #[vs a.Key, vs a.Val]], ⟨_, _, rfl, h46.1.res rfl ag133 sz133, rfl⟩, a, rfl, H, hc45.gr.g0, hs1, hs2⟩
def laws_toTag.m (a : Tag) : Tag := a
theorem laws_toTag.fn (a : Tag) : laws_toTag.E a (fun r => r = laws_toTag.m a) := by
  unfold laws_toTag.E laws_toTag.m
  rfl
end Go.Proofs.Ytndjggncgpjolaa

namespace Go.Proofs.Ytndjggncgpjolaa
set_option linter.unusedVariables false
set_option linter.unusedSimpArgs false
set_option linter.unusedSectionVars false
theorem laws_toTag.law (a : Tag) (Q : Tag → Prop) (ha : bulk a ≤ 1048576) (hq : Q a) : laws_toTag.E a Q := by
  unfold laws_toTag.E
  have hb : bulk a = bulk a.Key + bulk a.Val := rfl
  exact hq
end Go.Proofs.Ytndjggncgpjolaa

namespace Go.Proofs.Ytndjggncgpjolaa
open Go.RowKit
set_option linter.unusedVariables false
def laws_toTagS.E (a : List Tag) (Q : List Tag → Prop) : Prop :=
  ((0 : Int) ≤ (a.length : Int) ∧ (a.length : Int) ≤ (268435456 : Int)) ∧ (∃ (I41 : (List Tag) → Int → Prop) (mu42 : (List Tag) → Int → Nat), I41 (List.replicate (a.length : Int).toNat ((⟨([] : Str), ([] : Str)⟩ : Tag) : Tag)) 0 ∧ ∀ (xs2 : List Tag) (i2 : Int), I41 xs2 i2 → (if decide (i2 < (a.length : Int)) then ((0 : Int) ≤ i2 ∧ i2 < (a.length : Int)) ∧ laws_toTag.E (nth a i2) (fun r => ((0 : Int) ≤ i2 ∧ i2 < (xs2.length : Int)) ∧ (-9223372036854775808 ≤ i2) ∧ I41 (xs2.set i2.toNat r) (i2 + 1) ∧ mu42 (xs2.set i2.toNat r) (i2 + 1) < mu42 xs2 i2) else Q xs2))
set_option maxHeartbeats 8000000 in
set_option maxRecDepth 100000 in
theorem laws_toTagS.calls {O : Ob} (w0 : World) (hO : Ok w0 O) (a : List Tag) (A1 : Option Addr) (n2 c3 : Nat) (hp4 : Sl kTag w0 (Fr O) (.slice A1 n2 c3) a) (Q : List Tag → Prop) (h : laws_toTagS.E a Q) :
    Ret Try.prog 92 [.slice A1 n2 c3] w0 (fun v w' => ∃ (r0 : List Tag) (A0 : Option Addr) (n0 c0 : Nat), v = .slice A0 n0 c0 ∧ Q r0 ∧ Gr w0 w' none ∧ Ok w' ([blk (.slice A0 n0 c0)] ++ O) ∧ (∀ b, some b ∈ [blk (.slice A0 n0 c0)] → w0.heap.size ≤ b) ∧ Ow kTag 133 w' ([blk (.slice A0 n0 c0)] ++ O) (.slice A0 n0 c0) r0) := by
  have H : ((0 : Int) ≤ (a.length : Int) ∧ (a.length : Int) ≤ (268435456 : Int)) ∧ (∃ (I41 : (List Tag) → Int → Prop) (mu42 : (List Tag) → Int → Nat), I41 (List.replicate (a.length : Int).toNat ((⟨([] : Str), ([] : Str)⟩ : Tag) : Tag)) 0 ∧ ∀ (xs2 : List Tag) (i2 : Int), I41 xs2 i2 → (if decide (i2 < (a.length : Int)) then ((0 : Int) ≤ i2 ∧ i2 < (a.length : Int)) ∧ laws_toTag.E (nth a i2) (fun r => ((0 : Int) ≤ i2 ∧ i2 < (xs2.length : Int)) ∧ (-9223372036854775808 ≤ i2) ∧ I41 (xs2.set i2.toNat r) (i2 + 1) ∧ mu42 (xs2.set i2.toNat r) (i2 + 1) < mu42 xs2 i2) else Q xs2)) := h
  clear h
  have hc0 := Ct.init hO
  refine Ret_enter Try.func92 rfl 23 rfl [.tmp 2] rfl rfl ?_
  refine W_seq ?_
  refine W_reg ?_
  refine L_pu (P_assign (.slice none 0 0) rfl) ?_
  refine L_nil ?_
  refine W_seq ?_
  refine W_reg ?_
  refine L_pu (P_move (.slice A1 n2 c3) rfl) ?_
  have hl6 := hp4.le
  refine L_pu (P_len Try.underlying63 A1 n2 c3 hp4.len rfl) ?_
  obtain ⟨hb7, H⟩ := H
  refine L_make (kd := kTag) ei69 hc0 ((⟨([] : Str), ([] : Str)⟩ : Tag) : Tag) ((kTag.mk _ _ (⟨([] : Str), ([] : Str)⟩ : Tag) (by decide) (by decide))) (a.length : Int) rfl rfl hb7 fun w8 A9 n10 c11 g12 hr13 hc14 h15 => ?_
  refine L_pu (P_assign (.slice A9 n10 c11) rfl) ?_
  refine L_nil ?_
  refine W_seq ?_
  refine W_seq ?_
  refine W_reg ?_
  refine L_pu (P_assign (vi 0) rfl) ?_
  refine L_nil ?_
  refine W_block ?_
  obtain ⟨I41, mu42, hI43, H⟩ := H
  refine W_loop (α := (List Tag) × Int) (fun (sv__ : (List Tag) × Int) t w32 => match sv__ with | (xs2, i2) => I41 xs2 i2 ∧ Has t [(0, .slice A1 n2 c3), (3, .slice A9 n10 c11), (4, vi i2)] ∧ Ct [] w0 w32 [blk (.slice A9 n10 c11)] O ∧ Sl kTag w32 (Fr ([blk (.slice A9 n10 c11)] ++ O)) (.slice A1 n2 c3) a ∧ Ow kTag 133 w32 ([blk (.slice A9 n10 c11)] ++ O) (.slice A9 n10 c11) xs2) (fun (sv__ : (List Tag) × Int) => match sv__ with | (xs2, i2) => mu42 xs2 i2) ((List.replicate (a.length : Int).toNat ((⟨([] : Str), ([] : Str)⟩ : Tag) : Tag)), 0) ⟨hI43, ⟨rfl, rfl, rfl, trivial⟩, hc14, (hp4.st hc14.st), h15⟩ ?_
  rintro ⟨xs2, i2⟩ _ w32 ⟨hI43, hh45, hc38, h39, h40⟩
  obtain ⟨u46, rfl⟩ := Has.ins hh45
  have H := H xs2 i2 hI43
  refine W_seq ?_
  refine W_seq ?_
  refine W_reg ?_
  refine L_pu (P_move (vi i2) rfl) ?_
  refine L_pu (P_move (.slice A1 n2 c3) rfl) ?_
  have hl47 := h39.le
  refine L_pu (P_len Try.underlying63 A1 n2 c3 h39.len rfl) ?_
  refine L_pu (P_cmp i2 (a.length : Int) (decide (i2 < (a.length : Int))) rfl rfl rfl) ?_
  refine L_nil ?_
  refine W_cond (decide (i2 < (a.length : Int))) rfl (fun hq48 => ?_) (fun hq48 => ?_)
  · have H := ite_t H hq48
    refine W_skip ?_
    refine W_seq ?_
    refine W_block ?_
    refine W_reg ?_
    refine L_pu (P_move (.slice A9 n10 c11) rfl) ?_
    refine L_pu (P_move (vi i2) rfl) ?_
    refine L_pu (P_move (.slice A1 n2 c3) rfl) ?_
    refine L_pu (P_move (vi i2) rfl) ?_
    obtain ⟨hb49, H⟩ := H
    obtain ⟨ad50, cs51, hA52, hS55, hR53, hcl54⟩ := h39.get default (by decide) i2 hb49
    obtain ⟨rfl, hs56, hs57⟩ := kTag.op hR53
    refine L_pu (P_ia Try.underlying63 se63 A1 ad50 n2 c3 h39.len i2 rfl hA52 rfl hb49) ?_
    refine L_pu (P_lda ag166 sz166 cL (ad50.add (i2.toNat * 2)) [vs ((nth a i2).Key), vs ((nth a i2).Val)] rfl rfl hcl54) ?_
    refine L_call go140 [.agg #[vs ((nth a i2).Key), vs ((nth a i2).Val)]] rfl ((laws_toTag.calls w32 hc38.ok (nth a i2) hs56 hs57 _ H).mono ?_)
    rintro _ w58 ⟨r, rfl, H, g59, hs60, hs61⟩
    have hc65 := hc38.k0 g59
    obtain ⟨hb66, H⟩ := H
    have h73 := (h40.sn g59)
    obtain ⟨ad67, cs68, hA69, hR70, hcl71⟩ := h73.get default (by decide) i2 hb66
    obtain ⟨rfl, hs74, hs75⟩ := kTag.op hR70
    refine L_pu (P_ia Try.underlying69 se69 A9 ad67 n10 c11 h73.len i2 rfl hA69 rfl hb66) ?_
    refine L_ste0 A9 n10 c11 xs2 h73 i2 hb66 ad67 hA69 0 rfl [vs r.Key, vs r.Val] rfl sz133 rfl r [vs ((nth xs2 i2).Key), vs ((nth xs2 i2).Val)] [vs r.Key, vs r.Val] hcl71 rfl rfl (kTag.mk _ _ r hs60 hs61) fun w76 g77 h78 => ?_
    have hc79 := hc65.wr 0 rfl g77
    refine L_nil ?_
    refine W_reg ?_
    refine L_pu (P_move (vi i2) rfl) ?_
    obtain ⟨hb81, H⟩ := H
    have hi80 : I64 (i2 + 1) := i64_succ (of_decide_eq_true hq48) hl47 hb81
    refine L_pu (P_add i2 1 rfl rfl hi80) ?_
    refine L_pu (P_assign (vi (i2 + 1)) rfl) ?_
    refine L_nil ?_
    obtain ⟨hI82, hm83⟩ := H
    have h84 := ((h39.st (.new _ g59)).st (.wl (L := [blk (.slice A9 n10 c11)]) (O := O) (j := 0) rfl g77))
    exact ⟨((xs2.set i2.toNat r), i2 + 1), hm83, hI82, ⟨rfl, rfl, rfl, trivial⟩, hc79, h84, h78⟩
  · have H := ite_f H hq48
    refine W_exit (xin_hit ?_)
    refine W_seq ?_
    refine W_reg ?_
    refine L_pu (P_move (.slice A9 n10 c11) rfl) ?_
    refine L_pu (P_assign (.slice A9 n10 c11) rfl) ?_
    refine L_nil ?_
    refine W_ret ?_
    exact ⟨[.slice A9 n10 c11], ⟨_, rfl, rfl⟩, xs2, A9, n10, c11, rfl, H, hc38.gr.g0, hc38.ok, hc38.ge, h40⟩
end Go.Proofs.Ytndjggncgpjolaa

namespace Go.Proofs.Ytndjggncgpjolaa
set_option linter.unusedVariables false
set_option linter.unusedSimpArgs false
set_option linter.unusedSectionVars false
theorem laws_toTagS.law (a : List Tag) (Q : List Tag → Prop) (ha : bulk a ≤ 1048576) (hq : Q a) : laws_toTagS.E a Q := by
  unfold laws_toTagS.E
  exact toS_shape _ laws_toTag.E (fun x Q => laws_toTag.law x Q) a Q ha hq
end Go.Proofs.Ytndjggncgpjolaa

namespace Go.Proofs.Ytndjggncgpjolaa
open Go.RowKit
set_option linter.unusedVariables false
def laws_toFeat.E (a : Feat) (Q : Feat → Prop) : Prop :=
  laws_toShape.E a.Shape (fun r => laws_toTagS.E a.Tags (fun r2 => Q (⟨a.Id, r, r2⟩ : Feat)))
set_option maxHeartbeats 8000000 in
set_option maxRecDepth 100000 in
theorem laws_toFeat.calls {O : Ob} (w0 : World) (hO : Ok w0 O) (a : Feat) (A2 : Option Addr) (n3 c4 : Nat) (A7 : Option Addr) (n8 c9 : Nat) (hs1 : Lim a.Id) (hp5 : Sl kPt w0 (Fr O) (.slice A2 n3 c4) a.Shape.Pts) (hp10 : Sl kTag w0 (Fr O) (.slice A7 n8 c9) a.Tags) (Q : Feat → Prop) (h : laws_toFeat.E a Q) :
    Ret Try.prog 35 [.agg #[vs a.Id, vi a.Shape.Kind, .slice A2 n3 c4, .slice A7 n8 c9]] w0 (fun v w' => ∃ (r0 : Feat) (A0 : Option Addr) (n0 c0 : Nat) (A2 : Option Addr) (n2 c2 : Nat), v = .agg #[vs r0.Id, vi r0.Shape.Kind, .slice A0 n0 c0, .slice A2 n2 c2] ∧ Q r0 ∧ Gr w0 w' none ∧ Ok w' ([blk (.slice A0 n0 c0), blk (.slice A2 n2 c2)] ++ O) ∧ (∀ b, some b ∈ [blk (.slice A0 n0 c0), blk (.slice A2 n2 c2)] → w0.heap.size ≤ b) ∧ Lim r0.Id ∧ Ow kPt 29 w' ([blk (.slice A0 n0 c0), blk (.slice A2 n2 c2)] ++ O) (.slice A0 n0 c0) r0.Shape.Pts ∧ Ow kTag 133 w' ([blk (.slice A0 n0 c0), blk (.slice A2 n2 c2)] ++ O) (.slice A2 n2 c2) r0.Tags) := by
  have H : laws_toShape.E a.Shape (fun r => laws_toTagS.E a.Tags (fun r2 => Q (⟨a.Id, r, r2⟩ : Feat))) := h
  clear h
  have hc0 := Ct.init hO
  refine Ret_enter Try.func35 rfl 16 rfl [.cell 2 71] rfl rfl ?_
  refine W_seq ?_
  refine W_reg ?_
  refine L_box [vs a.Id, vi a.Shape.Kind, .slice A2 n3 c4, .slice A7 n8 c9] rfl fun w12 b13 hl15 hu16 g14 hx17 => ?_
  have h19 := Fb.mk hc0.ok hl15 hx17
  have hc20 := hc0.k0 g14
  refine L_alloc [vs [], .int .i64 0, .slice none 0 0, .slice none 0 0] ze71 fun w21 b22 hl24 hu25 g23 hx26 => ?_
  have hc28 := hc20.own g23 (some b22) (oglt hl24 hu25)
  refine L_nil ?_
  refine W_seq ?_
  refine W_reg ?_
  refine L_alloc [vs [], .int .i64 0, .slice none 0 0, .slice none 0 0] ze71 fun w29 b30 hl32 hu33 g31 hx34 => ?_
  have hc36 := hc28.own g31 (some b30) (oglt hl32 hu33)
  refine L_nil ?_
  refine W_seq ?_
  refine W_reg ?_
  refine L_pu (P_fa fa65_0 ⟨b13, 0, none⟩ ⟨b13, 0, none⟩ rfl rfl) ?_
  have h37 := ((h19.st (.own _ _ g23 (oge hl24))).st (.own _ _ g31 (oge hl32)))
  refine L_pu (P_ld ag9 cL ⟨b13, 0, none⟩ (vs a.Id) rfl (h37.cell rfl)) ?_
  refine L_pu (P_fa fa71_0 ⟨b30, 0, none⟩ ⟨b30, 0, none⟩ rfl rfl) ?_
  refine L_stb b30 0 [vs ([] : Str), vi 0, .slice none 0 0, .slice none 0 0] [vs a.Id] [vs a.Id, vi 0, .slice none 0 0, .slice none 0 0] rfl hx34 rfl sz9 rfl rfl rfl fun w38 g39 hx40 => ?_
  have hc41 := hc36.wr 0 rfl g39
  refine L_nil ?_
  refine W_seq ?_
  refine W_reg ?_
  refine L_pu (P_fa fa65_1 ⟨b13, 0, none⟩ ⟨b13, 1, none⟩ rfl rfl) ?_
  have h42 := (h37.st (.wl (L := [some b30, some b22]) (O := O) (j := 0) rfl g39))
  refine L_pu (P_lda ag62 sz62 cL ⟨b13, 1, none⟩ [vi a.Shape.Kind, .slice A2 n3 c4] rfl rfl (h42.cells (off := 1) rfl)) ?_
  refine L_call go91 [.agg #[vi a.Shape.Kind, .slice A2 n3 c4]] rfl ((laws_toShape.calls w38 hc41.ok a.Shape A2 n3 c4 (hp5.st hc41.st) _ H).mono ?_)
  rintro _ w43 ⟨r, A45, n46, c47, rfl, H, g44, hk51, hk52, h48⟩
  have hc53 := hc41.owns g44 hk51 hk52
  refine L_pu (P_fa fa71_1 ⟨b30, 0, none⟩ ⟨b30, 1, none⟩ rfl rfl) ?_
  have h57 := (hx40.k0 g44)
  refine L_stb b30 1 [vs a.Id, vi 0, .slice none 0 0, .slice none 0 0] [vi r.Kind, .slice A45 n46 c47] [vs a.Id, vi r.Kind, .slice A45 n46 c47, .slice none 0 0] rfl h57 rfl sz68 rfl rfl rfl fun w54 g55 hx56 => ?_
  have hc58 := hc53.wr 1 rfl g55
  refine L_nil ?_
  refine W_seq ?_
  refine W_reg ?_
  refine L_pu (P_fa fa65_2 ⟨b13, 0, none⟩ ⟨b13, 3, none⟩ rfl rfl) ?_
  have h59 := ((h42.st (.owns _ g44 hk52)).st (.wl (L := [blk (.slice A45 n46 c47), some b30, some b22]) (O := O) (j := 1) rfl g55))
  refine L_pu (P_ld ag63 cL ⟨b13, 3, none⟩ (.slice A7 n8 c9) rfl (h59.cell rfl)) ?_
  refine L_call go92 [.slice A7 n8 c9] rfl ((laws_toTagS.calls w54 hc58.ok a.Tags A7 n8 c9 (hp10.st hc58.st) _ H).mono ?_)
  rintro _ w60 ⟨r2, A62, n63, c64, rfl, H, g61, hk68, hk69, h65⟩
  have hc70 := hc58.owns g61 hk68 hk69
  refine L_pu (P_fa fa71_2 ⟨b30, 0, none⟩ ⟨b30, 3, none⟩ rfl rfl) ?_
  have h74 := (hx56.k0 g61)
  refine L_stb b30 3 [vs a.Id, vi r.Kind, .slice A45 n46 c47, .slice none 0 0] [.slice A62 n63 c64] [vs a.Id, vi r.Kind, .slice A45 n46 c47, .slice A62 n63 c64] rfl h74 rfl sz69 rfl rfl rfl fun w71 g72 hx73 => ?_
  have hc75 := hc70.wr 2 rfl g72
  refine L_nil ?_
  refine W_seq ?_
  refine W_reg ?_
  refine L_pu (P_lda ag71 sz71 cL ⟨b30, 0, none⟩ [vs a.Id, vi r.Kind, .slice A45 n46 c47, .slice A62 n63 c64] rfl rfl (hx73.cells (off := 0) rfl)) ?_
  have h79 := (Bx.sm (L := [blk (.slice A62 n63 c64), blk (.slice A45 n46 c47), some b30, some b22]) (O := O) ((Bx.sm (L := [blk (.slice A45 n46 c47), some b30, some b22]) (O := O) ((Bx.sm (L := [some b30, some b22]) (O := O) (hx26.k0 g31) hc36 (i := 1) rfl (j := 0) rfl (by decide) g39).k0 g44) hc53 (i := 2) rfl (j := 1) rfl (by decide) g55).k0 g61) hc70 (i := 3) rfl (j := 2) rfl (by decide) g72)
  refine L_stb b22 0 [vs ([] : Str), vi 0, .slice none 0 0, .slice none 0 0] [vs a.Id, vi r.Kind, .slice A45 n46 c47, .slice A62 n63 c64] [vs a.Id, vi r.Kind, .slice A45 n46 c47, .slice A62 n63 c64] rfl h79 rfl sz71 rfl rfl rfl fun w76 g77 hx78 => ?_
  have hc80 := hc75.wr 3 rfl g77
  refine L_nil ?_
  refine W_ret ?_
  have h81 := Bx.gv (L := [blk (.slice A62 n63 c64), blk (.slice A45 n46 c47), some b30, some b22]) (O := O) hx78 hc80 (i := 3) rfl
  have hc82 := hc80.drop 3 rfl
  have hc83 := hc82.drop 2 rfl
  have hc84 := hc83.perm (.swap _ _ _)
  have h85 := ((h81.st (.dr _ (L := [blk (.slice A62 n63 c64), blk (.slice A45 n46 c47), some b30]) (O := O) (j := 2) rfl)).st (.perm (L := [blk (.slice A62 n63 c64), blk (.slice A45 n46 c47)]) (O := O) (.swap _ _ _)))
  have h86 := (Ow.sp (L := [blk (.slice A62 n63 c64), blk (.slice A45 n46 c47)]) (O := O) (Ow.sd (L := [blk (.slice A62 n63 c64), blk (.slice A45 n46 c47), some b30]) (O := O) (Ow.sd (L := [blk (.slice A62 n63 c64), blk (.slice A45 n46 c47), some b30, some b22]) (O := O) (Ow.sw (L := [blk (.slice A62 n63 c64), blk (.slice A45 n46 c47), some b30, some b22]) (O := O) (Ow.sw (L := [blk (.slice A62 n63 c64), blk (.slice A45 n46 c47), some b30, some b22]) (O := O) ((Ow.sw (L := [blk (.slice A45 n46 c47), some b30, some b22]) (O := O) h48 hc53 (i := 0) rfl (j := 1) rfl (by decide) g55).sos g61 hk69) hc70 (i := 1) rfl (j := 2) rfl (by decide) g72) hc75 (i := 1) rfl (j := 3) rfl (by decide) g77) (i := 1) rfl (j := 3) rfl (by decide)) (i := 1) rfl (j := 2) rfl (by decide)) (.swap _ _ _))
  have h87 := (Ow.sp (L := [blk (.slice A62 n63 c64), blk (.slice A45 n46 c47)]) (O := O) (Ow.sd (L := [blk (.slice A62 n63 c64), blk (.slice A45 n46 c47), some b30]) (O := O) (Ow.sd (L := [blk (.slice A62 n63 c64), blk (.slice A45 n46 c47), some b30, some b22]) (O := O) (Ow.sw (L := [blk (.slice A62 n63 c64), blk (.slice A45 n46 c47), some b30, some b22]) (O := O) (Ow.sw (L := [blk (.slice A62 n63 c64), blk (.slice A45 n46 c47), some b30, some b22]) (O := O) h65 hc70 (i := 0) rfl (j := 2) rfl (by decide) g72) hc75 (i := 0) rfl (j := 3) rfl (by decide) g77) (i := 0) rfl (j := 3) rfl (by decide)) (i := 0) rfl (j := 2) rfl (by decide)) (.swap _ _ _))
  exact ⟨[.agg #[vs a.Id, vi r.Kind, .slice A45 n46 c47, .slice A62 n63 c64]], ⟨_, _, rfl, h85.1.res rfl ag71 sz71, rfl⟩, (⟨a.Id, r, r2⟩ : Feat), A45, n46, c47, A62, n63, c64, rfl, H, hc84.gr.g0, hc84.ok, hc84.ge, hs1, h86, h87⟩
end Go.Proofs.Ytndjggncgpjolaa

namespace Go.Proofs.Ytndjggncgpjolaa
set_option linter.unusedVariables false
set_option linter.unusedSimpArgs false
set_option linter.unusedSectionVars false
theorem laws_toFeat.law (a : Feat) (Q : Feat → Prop) (ha : bulk a ≤ 1048576) (hq : Q a) : laws_toFeat.E a Q := by
  unfold laws_toFeat.E
  have hb : bulk a = bulk a.Id + bulk a.Shape + bulk a.Tags := rfl
  refine laws_toShape.law _ _ (by omega) ?_
  refine laws_toTagS.law _ _ (by omega) ?_
  exact hq
end Go.Proofs.Ytndjggncgpjolaa

namespace Go.Proofs.Ytndjggncgpjolaa
open Go.RowKit
set_option linter.unusedVariables false
def laws_toFeatS.E (a : List Feat) (Q : List Feat → Prop) : Prop :=
  ((0 : Int) ≤ (a.length : Int) ∧ (a.length : Int) ≤ (268435456 : Int)) ∧ (∃ (I62 : (List Feat) → Int → Prop) (mu63 : (List Feat) → Int → Nat), I62 (List.replicate (a.length : Int).toNat ((⟨([] : Str), (⟨0, []⟩ : Shape), []⟩ : Feat) : Feat)) 0 ∧ ∀ (xs2 : List Feat) (i2 : Int), I62 xs2 i2 → (if decide (i2 < (a.length : Int)) then ((0 : Int) ≤ i2 ∧ i2 < (a.length : Int)) ∧ laws_toFeat.E (nth a i2) (fun r => ((0 : Int) ≤ i2 ∧ i2 < (xs2.length : Int)) ∧ (-9223372036854775808 ≤ i2) ∧ I62 (xs2.set i2.toNat r) (i2 + 1) ∧ mu63 (xs2.set i2.toNat r) (i2 + 1) < mu63 xs2 i2) else Q xs2))
set_option maxHeartbeats 8000000 in
set_option maxRecDepth 100000 in
theorem laws_toFeatS.calls {O : Ob} (w0 : World) (hO : Ok w0 O) (a : List Feat) (A1 : Option Addr) (n2 c3 : Nat) (hp4 : Sl kFeat w0 (Fr O) (.slice A1 n2 c3) a) (Q : List Feat → Prop) (h : laws_toFeatS.E a Q) :
    Ret Try.prog 27 [.slice A1 n2 c3] w0 (fun v w' => ∃ (r0 : List Feat) (A0 : Option Addr) (n0 c0 : Nat) (q0 : Ob) (ra0 : List (List Value)), v = .slice A0 n0 c0 ∧ Q r0 ∧ Gr w0 w' none ∧ Ok w' ((blk (.slice A0 n0 c0) :: (q0 ++ [])) ++ O) ∧ (∀ b, some b ∈ (blk (.slice A0 n0 c0) :: (q0 ++ [])) → w0.heap.size ≤ b) ∧ Ow (Kd.cells 4) 71 w' ((blk (.slice A0 n0 c0) :: (q0 ++ [])) ++ O) (.slice A0 n0 c0) ra0 ∧ DArr dFeat_71 w' q0 r0 ra0) := by
  have H : ((0 : Int) ≤ (a.length : Int) ∧ (a.length : Int) ≤ (268435456 : Int)) ∧ (∃ (I62 : (List Feat) → Int → Prop) (mu63 : (List Feat) → Int → Nat), I62 (List.replicate (a.length : Int).toNat ((⟨([] : Str), (⟨0, []⟩ : Shape), []⟩ : Feat) : Feat)) 0 ∧ ∀ (xs2 : List Feat) (i2 : Int), I62 xs2 i2 → (if decide (i2 < (a.length : Int)) then ((0 : Int) ≤ i2 ∧ i2 < (a.length : Int)) ∧ laws_toFeat.E (nth a i2) (fun r => ((0 : Int) ≤ i2 ∧ i2 < (xs2.length : Int)) ∧ (-9223372036854775808 ≤ i2) ∧ I62 (xs2.set i2.toNat r) (i2 + 1) ∧ mu63 (xs2.set i2.toNat r) (i2 + 1) < mu63 xs2 i2) else Q xs2)) := h
  clear h
  have hc0 := Ct.init hO
  refine Ret_enter Try.func27 rfl 23 rfl [.tmp 2] rfl rfl ?_
  refine W_seq ?_
  refine W_reg ?_
  refine L_pu (P_assign (.slice none 0 0) rfl) ?_
  refine L_nil ?_
  refine W_seq ?_
  refine W_reg ?_
  refine L_pu (P_move (.slice A1 n2 c3) rfl) ?_
  have hl6 := hp4.le
  refine L_pu (P_len Try.underlying49 A1 n2 c3 hp4.len rfl) ?_
  obtain ⟨hb7, H⟩ := H
  have hd24 : (dFeat_71).D w0 ([] ++ (([] ++ [none]) ++ [none])) (⟨([] : Str), (⟨0, []⟩ : Shape), []⟩ : Feat) [vs ([] : Str), vi 0, .slice none 0 0, .slice none 0 0] := (dFeat_71.mk _ (⟨([] : Str), (⟨0, []⟩ : Shape), []⟩ : Feat) (by decide) Ds.nil Ds.nil)
  have hd25 := DArr.rep hd24 (a.length : Int).toNat
  have hn26 := none_rep (qs := ([] ++ (([] ++ [none]) ++ [none]))) (by simp) (a.length : Int).toNat
  refine L_make (kd := Kd.cells 4) ei52 hc0 [vs ([] : Str), vi 0, .slice none 0 0, .slice none 0 0] (Dd.raw _ hd24) (a.length : Int) rfl rfl hb7 fun w16 A17 n18 c19 g20 hr21 hc22 h23 => ?_
  have hp28 : ((List.replicate (a.length : Int).toNat ([] ++ (([] ++ [none]) ++ [none]))).flatten ++ ([blk (.slice A17 n18 c19)] : Ob)).Perm (blk (.slice A17 n18 c19) :: ((List.replicate (a.length : Int).toNat ([] ++ (([] ++ [none]) ++ [none]))).flatten ++ [])) := (by rw [List.perm_iff_count]; intro a; (try simp only [List.count_append, List.count_cons, List.count_nil, Nat.add_zero, Nat.zero_add]); first | done | ac_rfl)
  have hc29 := hc22.noned hn26 hp28
  have s30 := St.noned w16 O hn26 hp28
  refine L_pu (P_assign (.slice A17 n18 c19) rfl) ?_
  refine L_nil ?_
  refine W_seq ?_
  refine W_seq ?_
  refine W_reg ?_
  refine L_pu (P_assign (vi 0) rfl) ?_
  refine L_nil ?_
  refine W_block ?_
  obtain ⟨I62, mu63, hI64, H⟩ := H
  have h66 := (Ow.noned h23 hn26 hp28)
  have hd67 := (hd25.k0 g20)
  refine W_loop (α := (List Feat) × (List (List Value)) × Ob × Int) (fun (sv__ : (List Feat) × (List (List Value)) × Ob × Int) t w50 => match sv__ with | (xs2, ra56, q57, i2) => I62 xs2 i2 ∧ Has t [(0, .slice A1 n2 c3), (3, .slice A17 n18 c19), (4, vi i2)] ∧ Ct [] w0 w50 (blk (.slice A17 n18 c19) :: (q57 ++ [])) O ∧ Sl kFeat w50 (Fr ((blk (.slice A17 n18 c19) :: (q57 ++ [])) ++ O)) (.slice A1 n2 c3) a ∧ Ow (Kd.cells 4) 71 w50 ((blk (.slice A17 n18 c19) :: (q57 ++ [])) ++ O) (.slice A17 n18 c19) ra56 ∧ DArr dFeat_71 w50 q57 xs2 ra56) (fun (sv__ : (List Feat) × (List (List Value)) × Ob × Int) => match sv__ with | (xs2, _, _, i2) => mu63 xs2 i2) ((List.replicate (a.length : Int).toNat ((⟨([] : Str), (⟨0, []⟩ : Shape), []⟩ : Feat) : Feat)), (List.replicate (a.length : Int).toNat [vs ([] : Str), vi 0, .slice none 0 0, .slice none 0 0]), (List.replicate (a.length : Int).toNat ([] ++ (([] ++ [none]) ++ [none]))).flatten, 0) ⟨hI64, ⟨rfl, rfl, rfl, trivial⟩, hc29, (hp4.st hc29.st), h66, hd67⟩ ?_
  rintro ⟨xs2, ra56, q57, i2⟩ _ w50 ⟨hI64, hh68, hc58, h59, h60, hd61⟩
  obtain ⟨u69, rfl⟩ := Has.ins hh68
  have H := H xs2 i2 hI64
  refine W_seq ?_
  refine W_seq ?_
  refine W_reg ?_
  refine L_pu (P_move (vi i2) rfl) ?_
  refine L_pu (P_move (.slice A1 n2 c3) rfl) ?_
  have hl70 := h59.le
  refine L_pu (P_len Try.underlying49 A1 n2 c3 h59.len rfl) ?_
  refine L_pu (P_cmp i2 (a.length : Int) (decide (i2 < (a.length : Int))) rfl rfl rfl) ?_
  refine L_nil ?_
  refine W_cond (decide (i2 < (a.length : Int))) rfl (fun hq71 => ?_) (fun hq71 => ?_)
  · have H := ite_t H hq71
    refine W_skip ?_
    refine W_seq ?_
    refine W_block ?_
    refine W_reg ?_
    refine L_pu (P_move (.slice A17 n18 c19) rfl) ?_
    refine L_pu (P_move (vi i2) rfl) ?_
    refine L_pu (P_move (.slice A1 n2 c3) rfl) ?_
    refine L_pu (P_move (vi i2) rfl) ?_
    obtain ⟨hb72, H⟩ := H
    obtain ⟨ad73, cs74, hA75, hS78, hR76, hcl77⟩ := h59.get default (by decide) i2 hb72
    obtain ⟨A80, n81, c82, A85, n86, c87, rfl, hs79, h83, h88⟩ := kFeat.op hR76
    refine L_pu (P_ia Try.underlying49 se49 A1 ad73 n2 c3 h59.len i2 rfl hA75 rfl hb72) ?_
    refine L_pu (P_lda ag65 sz65 cL (ad73.add (i2.toNat * 4)) [vs ((nth a i2).Id), vi ((nth a i2).Shape.Kind), .slice A80 n81 c82, .slice A85 n86 c87] rfl rfl hcl77) ?_
    refine L_call go35 [.agg #[vs ((nth a i2).Id), vi ((nth a i2).Shape.Kind), .slice A80 n81 c82, .slice A85 n86 c87]] rfl ((laws_toFeat.calls w50 hc58.ok (nth a i2) A80 n81 c82 A85 n86 c87 hs79 h83 h88 _ H).mono ?_)
    rintro _ w90 ⟨r, A93, n94, c95, A98, n99, c100, rfl, H, g91, hk104, hk105, hs92, h96, h101⟩
    have hc106 := hc58.owns g91 hk104 hk105
    obtain ⟨hb107, H⟩ := H
    have h114 := (h60.sos g91 hk105)
    have hd115 := (hd61.k0 g91)
    have hn116 : (0 : Int) ≤ i2 ∧ i2 < (ra56.length : Int) := by rw [hd115.len]; exact hb107
    obtain ⟨ad108, cs109, hA110, hR111, hcl112⟩ := h114.get default (by decide) i2 hn116
    obtain rfl := Kd.cells.op hR111
    refine L_pu (P_ia Try.underlying52 se52 A17 ad108 n18 c19 (Dp.len h114 hd115) i2 rfl hA110 rfl hb107) ?_
    have hd117 : (dFeat_71).D w90 ([] ++ (([] ++ [blk (.slice A93 n94 c95)]) ++ [blk (.slice A98 n99 c100)])) r [vs r.Id, vi r.Shape.Kind, .slice A93 n94 c95, .slice A98 n99 c100] := (dFeat_71.mk _ r hs92 (Ds.ofOw kPt_flat h96) (Ds.ofOw kTag_flat h101))
    have hn123 : (0 : Int) ≤ i2 ∧ i2 < (ra56.length : Int) := by rw [hd115.len]; exact hb107
    obtain ⟨ad118, cs119, hA120, hR121, hcl122⟩ := h114.get default (by decide) i2 hn123
    obtain rfl := Option.some.inj (hA110.symm.trans hA120)
    have hl127 : cs119.length = 4 := (Kd.cells 4).len hR121
    refine L_ste0 (kd := Kd.cells 4) A17 n18 c19 ra56 h114 i2 hn123 ad108 hA110 0 rfl [vs r.Id, vi r.Shape.Kind, .slice A93 n94 c95, .slice A98 n99 c100] rfl sz71 rfl [vs r.Id, vi r.Shape.Kind, .slice A93 n94 c95, .slice A98 n99 c100] cs119 [vs r.Id, vi r.Shape.Kind, .slice A93 n94 c95, .slice A98 n99 c100] hcl122 hl127 (whole_put hl127) (Dd.raw _ hd117) fun w124 g125 h126 => ?_
    have hc128 := hc106.wr 2 rfl g125
    have h129 := (Ow.sw (L := (blk (.slice A93 n94 c95) :: blk (.slice A98 n99 c100) :: blk (.slice A17 n18 c19) :: (q57 ++ []))) (O := O) h96 hc106 (i := 0) rfl (j := 2) rfl (by decide) g125)
    have h130 := (Ow.sw (L := (blk (.slice A93 n94 c95) :: blk (.slice A98 n99 c100) :: blk (.slice A17 n18 c19) :: (q57 ++ []))) (O := O) h101 hc106 (i := 1) rfl (j := 2) rfl (by decide) g125)
    have hd131 : (dFeat_71).D w124 ([] ++ (([] ++ [blk (.slice A93 n94 c95)]) ++ [blk (.slice A98 n99 c100)])) r [vs r.Id, vi r.Shape.Kind, .slice A93 n94 c95, .slice A98 n99 c100] := (dFeat_71.mk _ r hs92 (Ds.ofOw kPt_flat h129) (Ds.ofOw kTag_flat h130))
    have hd132 := (DArr.sm (L := (blk (.slice A93 n94 c95) :: blk (.slice A98 n99 c100) :: blk (.slice A17 n18 c19) :: (q57 ++ []))) (O := O) (i := 2) hd115 hc106 rfl (fun b hb => (List.mem_append_left _ hb)) g125)
    obtain ⟨q133, q134, hp135, hd136⟩ := DArr.put hd131 (Int.toNat i2) hd132 (by have := hb107; omega)
    have hp137 : ((blk (.slice A93 n94 c95) :: blk (.slice A98 n99 c100) :: blk (.slice A17 n18 c19) :: (q57 ++ [])) : Ob).Perm (q134 ++ (blk (.slice A17 n18 c19) :: (q133 ++ []))) := (show ((blk (.slice A93 n94 c95) :: blk (.slice A98 n99 c100) :: blk (.slice A17 n18 c19) :: (q57 ++ [])) : Ob).Perm ((q57 ++ ([] ++ (([] ++ [blk (.slice A93 n94 c95)]) ++ [blk (.slice A98 n99 c100)]))) ++ (blk (.slice A17 n18 c19) :: [])) from (by rw [List.perm_iff_count]; intro a; (try simp only [List.count_append, List.count_cons, List.count_nil, Nat.add_zero, Nat.zero_add]); first | done | ac_rfl)).trans ((hp135.append_right (blk (.slice A17 n18 c19) :: [])).trans (show ((q134 ++ q133) ++ (blk (.slice A17 n18 c19) :: []) : Ob).Perm (q134 ++ (blk (.slice A17 n18 c19) :: (q133 ++ []))) from (by rw [List.perm_iff_count]; intro a; (try simp only [List.count_append, List.count_cons, List.count_nil, Nat.add_zero, Nat.zero_add]); first | done | ac_rfl)))
    have hc138 := hc128.drops hp137
    refine L_nil ?_
    refine W_reg ?_
    refine L_pu (P_move (vi i2) rfl) ?_
    obtain ⟨hb140, H⟩ := H
    have hi139 : I64 (i2 + 1) := i64_succ (of_decide_eq_true hq71) hl70 hb140
    refine L_pu (P_add i2 1 rfl rfl hi139) ?_
    refine L_pu (P_assign (vi (i2 + 1)) rfl) ?_
    refine L_nil ?_
    obtain ⟨hI141, hm142⟩ := H
    have h143 := (((h59.st (.owns _ g91 hk105)).st (.wl (L := (blk (.slice A93 n94 c95) :: blk (.slice A98 n99 c100) :: blk (.slice A17 n18 c19) :: (q57 ++ []))) (O := O) (j := 2) rfl g125)).st (St.drops _ O hp137))
    have h144 := (Ow.drops (L := (blk (.slice A93 n94 c95) :: blk (.slice A98 n99 c100) :: blk (.slice A17 n18 c19) :: (q57 ++ []))) (O := O) h126 hp137 (memi 0 rfl))
    exact ⟨((xs2.set i2.toNat r), (ra56.set i2.toNat [vs r.Id, vi r.Shape.Kind, .slice A93 n94 c95, .slice A98 n99 c100]), q133, i2 + 1), hm142, hI141, ⟨rfl, rfl, rfl, trivial⟩, hc138, h143, h144, hd136⟩
  · have H := ite_f H hq71
    refine W_exit (xin_hit ?_)
    refine W_seq ?_
    refine W_reg ?_
    refine L_pu (P_move (.slice A17 n18 c19) rfl) ?_
    refine L_pu (P_assign (.slice A17 n18 c19) rfl) ?_
    refine L_nil ?_
    refine W_ret ?_
    exact ⟨[.slice A17 n18 c19], ⟨_, rfl, rfl⟩, xs2, A17, n18, c19, q57, ra56, rfl, H, hc58.gr.g0, hc58.ok, hc58.ge, h60, hd61⟩
end Go.Proofs.Ytndjggncgpjolaa

namespace Go.Proofs.Ytndjggncgpjolaa
set_option linter.unusedVariables false
set_option linter.unusedSimpArgs false
set_option linter.unusedSectionVars false
theorem laws_toFeatS.law (a : List Feat) (Q : List Feat → Prop) (ha : bulk a ≤ 1048576) (hq : Q a) : laws_toFeatS.E a Q := by
  unfold laws_toFeatS.E
  exact toS_shape _ laws_toFeat.E (fun x Q => laws_toFeat.law x Q) a Q ha hq
end Go.Proofs.Ytndjggncgpjolaa

namespace Go.Proofs.Ytndjggncgpjolaa
open Go.RowKit
set_option linter.unusedVariables false
def spec_WordOk.E (s : Str) (Q : Bool → Prop) : Prop :=
  (∃ (I8 : Int → Prop) (mu9 : Int → Nat), I8 0 ∧ ∀ (i2 : Int), I8 i2 → (if decide (i2 < (s.length : Int)) then ((0 : Int) ≤ i2 ∧ i2 < (s.length : Int)) ∧ (if decide (((nth s i2).toNat : Int) < 97) then Q false else ((0 : Int) ≤ i2 ∧ i2 < (s.length : Int)) ∧ (if decide (((nth s i2).toNat : Int) > 122) then Q false else (-9223372036854775808 ≤ i2) ∧ I8 (i2 + 1) ∧ mu9 (i2 + 1) < mu9 i2)) else (if decide ((s.length : Int) ≥ 1) then Q (decide ((s.length : Int) ≤ 6)) else Q false)))
set_option maxHeartbeats 8000000 in
set_option maxRecDepth 100000 in
theorem spec_WordOk.calls {O : Ob} (w0 : World) (hO : Ok w0 O) (s : Str) (hs1 : Lim s) (Q : Bool → Prop) (h : spec_WordOk.E s Q) :
    Ret Try.prog 52 [vs s] w0 (fun v w' => ∃ (r0 : Bool), v = vb r0 ∧ Q r0 ∧ Gr w0 w' none) := by
  have H : (∃ (I8 : Int → Prop) (mu9 : Int → Nat), I8 0 ∧ ∀ (i2 : Int), I8 i2 → (if decide (i2 < (s.length : Int)) then ((0 : Int) ≤ i2 ∧ i2 < (s.length : Int)) ∧ (if decide (((nth s i2).toNat : Int) < 97) then Q false else ((0 : Int) ≤ i2 ∧ i2 < (s.length : Int)) ∧ (if decide (((nth s i2).toNat : Int) > 122) then Q false else (-9223372036854775808 ≤ i2) ∧ I8 (i2 + 1) ∧ mu9 (i2 + 1) < mu9 i2)) else (if decide ((s.length : Int) ≥ 1) then Q (decide ((s.length : Int) ≤ 6)) else Q false))) := h
  clear h
  have hc0 := Ct.init hO
  refine Ret_enter Try.func52 rfl 28 rfl [.tmp 2] rfl rfl ?_
  refine W_seq ?_
  refine W_reg ?_
  refine L_pu (P_assign (vb false) rfl) ?_
  refine L_nil ?_
  refine W_seq ?_
  refine W_seq ?_
  refine W_reg ?_
  refine L_pu (P_assign (vi 0) rfl) ?_
  refine L_nil ?_
  refine W_block ?_
  obtain ⟨I8, mu9, hI10, H⟩ := H
  refine W_loop (α := Int) (fun (sv__ : Int) t w6 => match sv__ with | i2 => I8 i2 ∧ Has t [(0, vs s), (3, vi i2)] ∧ Ct [] w0 w6 [] O) (fun (sv__ : Int) => match sv__ with | i2 => mu9 i2) 0 ⟨hI10, ⟨rfl, rfl, trivial⟩, hc0⟩ ?_
  rintro i2 _ w6 ⟨hI10, hh12, hc7⟩
  obtain ⟨u13, rfl⟩ := Has.ins hh12
  have H := H i2 hI10
  refine W_seq ?_
  refine W_seq ?_
  refine W_reg ?_
  refine L_pu (P_move (vi i2) rfl) ?_
  refine L_pu (P_move (vs s) rfl) ?_
  have hl14 := hs1
  refine L_pu (P_lens Try.underlying9 s rfl) ?_
  refine L_pu (P_cmp i2 (s.length : Int) (decide (i2 < (s.length : Int))) rfl rfl rfl) ?_
  refine L_nil ?_
  refine W_cond (decide (i2 < (s.length : Int))) rfl (fun hq15 => ?_) (fun hq15 => ?_)
  · have H := ite_t H hq15
    refine W_skip ?_
    refine W_seq ?_
    refine W_block ?_
    refine W_seq ?_
    refine W_reg ?_
    refine L_pu (P_move (vs s) rfl) ?_
    refine L_pu (P_move (vi i2) rfl) ?_
    obtain ⟨hb16, H⟩ := H
    refine L_pu (P_index Try.underlying9 s i2 rfl rfl hb16) ?_
    refine L_pu (P_cmp ((nth s i2).toNat : Int) 97 (decide (((nth s i2).toNat : Int) < 97)) rfl rfl rfl) ?_
    refine L_pu (P_move (vb (decide (((nth s i2).toNat : Int) < 97))) rfl) ?_
    rcases bool_or (decide (((nth s i2).toNat : Int) < 97)) with hq17 | hq17
    · have H := ite_t H hq17
      refine L_pass (dj := 14) rfl rfl (.inl (by exact congrArg Value.bool hq17)) ?_
      refine L_pass (dj := 14) rfl rfl (.inl (by exact congrArg Value.bool hq17)) ?_
      refine L_pass (dj := 14) rfl rfl (.inl (by exact congrArg Value.bool hq17)) ?_
      refine L_pass (dj := 14) rfl rfl (.inl (by exact congrArg Value.bool hq17)) ?_
      refine L_pu (P_pick true (vb true) (by exact congrArg Value.bool hq17) rfl) ?_
      refine L_nil ?_
      refine W_ct (b := true) rfl rfl ?_
      refine W_seq ?_
      refine W_reg ?_
      refine L_pu (P_assign (vb false) rfl) ?_
      refine L_nil ?_
      refine W_ret ?_
      exact ⟨[vb false], ⟨_, rfl, rfl⟩, false, rfl, H, hc7.gr.g0⟩
    · have H := ite_f H hq17
      refine L_run (dj := 14) rfl rfl (by exact congrArg Value.bool hq17) ?_
      refine L_pu (P_move (vs s) rfl) ?_
      refine L_run (dj := 14) rfl rfl (by exact congrArg Value.bool hq17) ?_
      refine L_pu (P_move (vi i2) rfl) ?_
      refine L_run (dj := 14) rfl rfl (by exact congrArg Value.bool hq17) ?_
      obtain ⟨hb18, H⟩ := H
      refine L_pu (P_index Try.underlying9 s i2 rfl rfl hb18) ?_
      refine L_run (dj := 14) rfl rfl (by exact congrArg Value.bool hq17) ?_
      refine L_pu (P_cmp ((nth s i2).toNat : Int) 122 (decide (((nth s i2).toNat : Int) > 122)) rfl rfl rfl) ?_
      refine L_pu (P_pick false (vb (decide (((nth s i2).toNat : Int) > 122))) (by exact congrArg Value.bool hq17) rfl) ?_
      refine L_nil ?_
      refine W_cond (decide (((nth s i2).toNat : Int) > 122)) rfl (fun hq19 => ?_) (fun hq19 => ?_)
      · have H := ite_t H hq19
        refine W_seq ?_
        refine W_reg ?_
        refine L_pu (P_assign (vb false) rfl) ?_
        refine L_nil ?_
        refine W_ret ?_
        exact ⟨[vb false], ⟨_, rfl, rfl⟩, false, rfl, H, hc7.gr.g0⟩
      · have H := ite_f H hq19
        refine W_skip ?_
        refine W_reg ?_
        refine L_pu (P_move (vi i2) rfl) ?_
        obtain ⟨hb21, H⟩ := H
        have hi20 : I64 (i2 + 1) := i64_succ (of_decide_eq_true hq15) hl14 hb21
        refine L_pu (P_add i2 1 rfl rfl hi20) ?_
        refine L_pu (P_assign (vi (i2 + 1)) rfl) ?_
        refine L_nil ?_
        obtain ⟨hI22, hm23⟩ := H
        exact ⟨i2 + 1, hm23, hI22, ⟨rfl, rfl, trivial⟩, hc7⟩
  · have H := ite_f H hq15
    refine W_exit (xin_hit ?_)
    refine W_seq ?_
    refine W_reg ?_
    refine L_pu (P_move (vs s) rfl) ?_
    refine L_pu (P_lens Try.underlying9 s rfl) ?_
    refine L_pu (P_cmp (s.length : Int) 1 (decide ((s.length : Int) ≥ 1)) rfl rfl rfl) ?_
    refine L_pu (P_move (vb (decide ((s.length : Int) ≥ 1))) rfl) ?_
    rcases bool_or (decide ((s.length : Int) ≥ 1)) with hq24 | hq24
    · have H := ite_t H hq24
      refine L_run (dj := 23) rfl rfl (by exact congrArg Value.bool hq24) ?_
      refine L_pu (P_move (vs s) rfl) ?_
      refine L_run (dj := 23) rfl rfl (by exact congrArg Value.bool hq24) ?_
      refine L_pu (P_lens Try.underlying9 s rfl) ?_
      refine L_run (dj := 23) rfl rfl (by exact congrArg Value.bool hq24) ?_
      refine L_pu (P_cmp (s.length : Int) 6 (decide ((s.length : Int) ≤ 6)) rfl rfl rfl) ?_
      refine L_pu (P_pick true (vb (decide ((s.length : Int) ≤ 6))) (by exact congrArg Value.bool hq24) rfl) ?_
      refine L_pu (P_assign (vb (decide ((s.length : Int) ≤ 6))) rfl) ?_
      refine L_nil ?_
      refine W_ret ?_
      exact ⟨[vb (decide ((s.length : Int) ≤ 6))], ⟨_, rfl, rfl⟩, decide ((s.length : Int) ≤ 6), rfl, H, hc7.gr.g0⟩
    · have H := ite_f H hq24
      refine L_pass (dj := 23) rfl rfl (.inl (by exact congrArg Value.bool hq24)) ?_
      refine L_pass (dj := 23) rfl rfl (.inl (by exact congrArg Value.bool hq24)) ?_
      refine L_pass (dj := 23) rfl rfl (.inl (by exact congrArg Value.bool hq24)) ?_
      refine L_pu (P_pick false (vb false) (by exact congrArg Value.bool hq24) rfl) ?_
      refine L_pu (P_assign (vb false) rfl) ?_
      refine L_nil ?_
      refine W_ret ?_
      exact ⟨[vb false], ⟨_, rfl, rfl⟩, false, rfl, H, hc7.gr.g0⟩
end Go.Proofs.Ytndjggncgpjolaa

/- Words: what two rows have in common, in plain lists. -/
namespace Go.Proofs.Ytndjggncgpjolaa
set_option linter.unusedSimpArgs false
set_option linter.unusedVariables false
set_option linter.unusedSectionVars false
section
variable {α : Type} [DecidableEq α]
def lcsR (x : α) (p : List α → Nat) : List α → Nat
  | [] => 0
  | y :: b => if x = y then p b + 1 else max (p (y :: b)) (lcsR x p b)
def lcs : List α → List α → Nat
  | [] => fun _ => 0
  | x :: a => lcsR x (lcs a)
@[simp] theorem lcs_nil (b : List α) : lcs [] b = 0 := rfl
@[simp] theorem lcs_nil2 (a : List α) : lcs a [] = 0 := by cases a <;> rfl
theorem lcs_cons (x y : α) (a b : List α) : lcs (x :: a) (y :: b) = if x = y then lcs a b + 1 else max (lcs a (y :: b)) (lcs (x :: a) b) := rfl
theorem lcs_sub (a b : List α) : ∃ s : List α, s.Sublist a ∧ s.Sublist b ∧ s.length = lcs a b := by
  induction a generalizing b with
  | nil => exact ⟨[], List.nil_sublist _, List.nil_sublist _, rfl⟩
  | cons x a ih =>
    induction b with
    | nil => exact ⟨[], List.nil_sublist _, List.nil_sublist _, rfl⟩
    | cons y b ihb =>
      rw [lcs_cons]
      by_cases h : x = y
      · subst h
        obtain ⟨s, h1, h2, h3⟩ := ih b
        exact ⟨x :: s, h1.cons_cons x, h2.cons_cons x, by rw [if_pos rfl, ← h3]; rfl⟩
      · rw [if_neg h]
        by_cases hm : lcs (x :: a) b ≤ lcs a (y :: b)
        · obtain ⟨s, h1, h2, h3⟩ := ih (y :: b)
          exact ⟨s, h1.cons x, h2, by omega⟩
        · obtain ⟨s, h1, h2, h3⟩ := ihb
          exact ⟨s, h1, h2.cons y, by omega⟩
theorem lcs_max {s a b : List α} (h1 : s.Sublist a) (h2 : s.Sublist b) : s.length ≤ lcs a b := by
  induction a generalizing s b with
  | nil => rw [List.sublist_nil.1 h1]; exact Nat.zero_le _
  | cons x a ih =>
    induction b generalizing s with
    | nil => rw [List.sublist_nil.1 h2]; exact Nat.zero_le _
    | cons y b ihb =>
      rw [lcs_cons]
      by_cases h : x = y
      · subst h
        rw [if_pos rfl]
        cases s with
        | nil => exact Nat.zero_le _
        | cons z s =>
          have := ih (List.Sublist.tail h1) (List.Sublist.tail h2)
          simp only [List.tail_cons] at this
          simp only [List.length_cons]; omega
      · rw [if_neg h]
        cases h1 with
        | cons _ h1 => have := ih h1 h2; omega
        | cons_cons _ h1 =>
          cases h2 with
          | cons _ h2 => have := ihb (h1.cons_cons x) h2; omega
          | cons_cons _ h2 => exact absurd rfl h
theorem lcs_le1 (a b : List α) : lcs a b ≤ a.length := by
  obtain ⟨s, h1, h2, h3⟩ := lcs_sub a b; rw [← h3]; exact h1.length_le
theorem lcs_le2 (a b : List α) : lcs a b ≤ b.length := by
  obtain ⟨s, h1, h2, h3⟩ := lcs_sub a b; rw [← h3]; exact h2.length_le
theorem lcs_comm (a b : List α) : lcs a b = lcs b a := by
  apply Nat.le_antisymm
  · obtain ⟨s, h1, h2, h3⟩ := lcs_sub a b; rw [← h3]; exact lcs_max h2 h1
  · obtain ⟨s, h1, h2, h3⟩ := lcs_sub b a; rw [← h3]; exact lcs_max h2 h1
theorem lcs_mono {a a' b b' : List α} (ha : a.Sublist a') (hb : b.Sublist b') : lcs a b ≤ lcs a' b' := by
  obtain ⟨s, h1, h2, h3⟩ := lcs_sub a b; rw [← h3]; exact lcs_max (h1.trans ha) (h2.trans hb)
theorem lcs_sub_eq {a b : List α} (h : a.Sublist b) : lcs a b = a.length :=
  Nat.le_antisymm (lcs_le1 a b) (lcs_max (List.Sublist.refl a) h)
theorem lcs_self (a : List α) : lcs a a = a.length := lcs_sub_eq (List.Sublist.refl a)
theorem lcs_insert (u v b : List α) (x : α) : lcs (u ++ x :: v) b ≤ lcs (u ++ v) b + 1 := by
  obtain ⟨s, h1, h2, h3⟩ := lcs_sub (u ++ x :: v) b
  obtain ⟨s1, s2, rfl, h4, h5⟩ := List.sublist_append_iff.1 h1
  have : ∃ r : List α, r.Sublist v ∧ r.Sublist s2 ∧ s2.length ≤ r.length + 1 := by
    cases h5 with
    | cons _ h => exact ⟨s2, h, List.Sublist.refl _, by omega⟩
    | cons_cons _ h => exact ⟨_, h, List.sublist_cons_self _ _, Nat.le_refl _⟩
  obtain ⟨r, r1, r2, r3⟩ := this
  have := lcs_max (h4.append r1) (((List.Sublist.refl s1).append r2).trans h2)
  simp only [List.length_append] at this h3; omega
theorem lcs_insert_le (u v b : List α) (x : α) : lcs (u ++ v) b ≤ lcs (u ++ x :: v) b :=
  lcs_mono ((List.Sublist.refl u).append (List.sublist_cons_self x v)) (List.Sublist.refl b)
theorem lcs_snoc (a b : List α) (x : α) : lcs (a ++ [x]) (b ++ [x]) = lcs a b + 1 := by
  apply Nat.le_antisymm
  · obtain ⟨s, h1, h2, h3⟩ := lcs_sub (a ++ [x]) (b ++ [x])
    have f : ∀ {a : List α}, s.Sublist (a ++ [x]) → s.dropLast.Sublist a := fun {a} h => by
      have := h.reverse.tail.reverse
      rw [List.reverse_append, List.reverse_singleton, List.singleton_append, List.tail_cons, List.reverse_reverse, List.tail_reverse, List.reverse_reverse] at this
      exact this
    have := lcs_max (f h1) (f h2)
    rw [List.length_dropLast] at this; omega
  · obtain ⟨s, h1, h2, h3⟩ := lcs_sub a b
    have := lcs_max (h1.append (List.Sublist.refl [x])) (h2.append (List.Sublist.refl [x]))
    simp only [List.length_append, List.length_singleton] at this; omega
theorem lcs_append (a b c : List α) : lcs (a ++ c) (b ++ c) = lcs a b + c.length := by
  induction c generalizing a b with
  | nil => simp
  | cons x c ih =>
    have h : ∀ l : List α, l ++ x :: c = l ++ [x] ++ c := fun l => by simp
    rw [h, h, ih, lcs_snoc, List.length_cons]; omega

/-! ### pairs -/
theorem pp {a b c d : Nat} (h : a = c) (k : b = d) : (a, b) = (c, d) := by rw [h, k]
def pairs (i j : Nat) : List α → List α → List (Nat × Nat)
  | x :: a, y :: b => if x = y then (i, j) :: pairs (i + 1) (j + 1) a b else if lcs (x :: a) b ≤ lcs a (y :: b) then pairs (i + 1) j a (y :: b) else pairs i (j + 1) (x :: a) b
  | [], _ => []
  | _ :: _, [] => []
  termination_by a b => a.length + b.length
theorem pairs_nil (i j : Nat) (b : List α) : pairs i j [] b = [] := by rw [pairs]
theorem pairs_nil2 (i j : Nat) (a : List α) : pairs i j a [] = [] := by cases a <;> rw [pairs]
theorem pairs_cons (i j : Nat) (x y : α) (a b : List α) : pairs i j (x :: a) (y :: b) = if x = y then (i, j) :: pairs (i + 1) (j + 1) a b else if lcs (x :: a) b ≤ lcs a (y :: b) then pairs (i + 1) j a (y :: b) else pairs i (j + 1) (x :: a) b := by rw [pairs]
theorem pairs_ind {C : Nat → Nat → List α → List α → Prop} (h0 : ∀ i j b, C i j [] b) (h1 : ∀ i j a, C i j a [])
    (he : ∀ i j x a b, C (i + 1) (j + 1) a b → C i j (x :: a) (x :: b))
    (ha : ∀ i j x y a b, x ≠ y → lcs (x :: a) b ≤ lcs a (y :: b) → C (i + 1) j a (y :: b) → C i j (x :: a) (y :: b))
    (hb : ∀ i j x y a b, x ≠ y → ¬ lcs (x :: a) b ≤ lcs a (y :: b) → C i (j + 1) (x :: a) b → C i j (x :: a) (y :: b)) : ∀ i j (a b : List α), C i j a b := by
  have : ∀ n i j (a b : List α), a.length + b.length ≤ n → C i j a b := by
    intro n
    induction n with
    | zero => intro i j a b h; cases a with
      | nil => exact h0 _ _ _
      | cons _ _ => simp at h
    | succ n ih =>
      intro i j a b h
      cases a with
      | nil => exact h0 _ _ _
      | cons x a => cases b with
        | nil => exact h1 _ _ _
        | cons y b =>
          simp only [List.length_cons] at h
          by_cases e : x = y
          · subst e; exact he _ _ _ _ _ (ih _ _ _ _ (by omega))
          · by_cases l : lcs (x :: a) b ≤ lcs a (y :: b)
            · exact ha _ _ _ _ _ _ e l (ih _ _ _ _ (by simp only [List.length_cons]; omega))
            · exact hb _ _ _ _ _ _ e l (ih _ _ _ _ (by simp only [List.length_cons]; omega))
  exact fun i j a b => this _ i j a b (Nat.le_refl _)
theorem pairs_len (i j : Nat) (a b : List α) : (pairs i j a b).length = lcs a b := by
  refine pairs_ind (C := fun i j a b => (pairs i j a b).length = lcs a b) ?_ ?_ ?_ ?_ ?_ i j a b
  · intros; rw [pairs_nil]; rfl
  · intros; rw [pairs_nil2, lcs_nil2]; rfl
  · intro i j x a b h; rw [pairs_cons, if_pos rfl, lcs_cons, if_pos rfl, List.length_cons, h]
  · intro i j x y a b e l h; rw [pairs_cons, if_neg e, if_pos l, lcs_cons, if_neg e, h]; exact (Nat.max_eq_left l).symm
  · intro i j x y a b e l h; rw [pairs_cons, if_neg e, if_neg l, lcs_cons, if_neg e, h]; exact (Nat.max_eq_right (by omega)).symm
/-- what is paired lies at or behind the two places, and holds the same -/
theorem pairs_mem (i j : Nat) (a b : List α) : ∀ p ∈ pairs i j a b, ∃ k l, p = (i + k, j + l) ∧ ∃ x, a[k]? = some x ∧ b[l]? = some x := by
  refine pairs_ind (C := fun i j a b => ∀ p ∈ pairs i j a b, ∃ k l, p = (i + k, j + l) ∧ ∃ x, a[k]? = some x ∧ b[l]? = some x) ?_ ?_ ?_ ?_ ?_ i j a b
  · intro i j b p h; rw [pairs_nil] at h; cases h
  · intro i j a p h; rw [pairs_nil2] at h; cases h
  · intro i j x a b ih p h
    rw [pairs_cons, if_pos rfl] at h
    rcases List.mem_cons.1 h with rfl | h
    · exact ⟨0, 0, rfl, x, rfl, rfl⟩
    · obtain ⟨k, l, rfl, z, h1, h2⟩ := ih p h
      exact ⟨k + 1, l + 1, pp (by omega) (by omega), z, h1, h2⟩
  · intro i j x y a b e l ih p h
    rw [pairs_cons, if_neg e, if_pos l] at h
    obtain ⟨k, l, rfl, z, h1, h2⟩ := ih p h
    exact ⟨k + 1, l, pp (by omega) (by omega), z, h1, h2⟩
  · intro i j x y a b e l ih p h
    rw [pairs_cons, if_neg e, if_neg l] at h
    obtain ⟨k, l, rfl, z, h1, h2⟩ := ih p h
    exact ⟨k, l + 1, pp (by omega) (by omega), z, h1, h2⟩
theorem pairs_ord (i j : Nat) (a b : List α) : (pairs i j a b).Pairwise (fun p q => p.1 < q.1 ∧ p.2 < q.2) := by
  refine pairs_ind (C := fun i j a b => (pairs i j a b).Pairwise (fun p q => p.1 < q.1 ∧ p.2 < q.2)) ?_ ?_ ?_ ?_ ?_ i j a b
  · intros; rw [pairs_nil]; exact List.Pairwise.nil
  · intros; rw [pairs_nil2]; exact List.Pairwise.nil
  · intro i j x a b h; rw [pairs_cons, if_pos rfl]
    refine List.Pairwise.cons (fun p hp => ?_) h
    obtain ⟨k, l, rfl, _⟩ := pairs_mem _ _ _ _ p hp
    exact ⟨by dsimp only; omega, by dsimp only; omega⟩
  · intro i j x y a b e l h; rw [pairs_cons, if_neg e, if_pos l]; exact h
  · intro i j x y a b e l h; rw [pairs_cons, if_neg e, if_neg l]; exact h
theorem pairs_self (i j : Nat) (a b : List α) : pairs i j a (a ++ b) = (List.range a.length).map fun k => (i + k, j + k) := by
  induction a generalizing i j with
  | nil => exact pairs_nil _ _ _
  | cons x a ih =>
    rw [List.cons_append, pairs_cons, if_pos rfl, ih, List.length_cons, List.range_succ_eq_map, List.map_cons, List.map_map]
    congr 1
    apply List.map_congr_left; intro k _; simp only [Function.comp, Prod.mk.injEq]; omega
theorem pairs_cons_self (i j : Nat) (x : α) (a b : List α) : pairs i j (x :: a) (x :: b) = (i, j) :: pairs (i + 1) (j + 1) a b := by rw [pairs_cons, if_pos rfl]
theorem pairs_shift (i j : Nat) (a b : List α) (u v : Nat) : pairs (i + u) (j + v) a b = (pairs i j a b).map fun p => (p.1 + u, p.2 + v) := by
  refine pairs_ind (C := fun i j a b => pairs (i + u) (j + v) a b = (pairs i j a b).map fun p => (p.1 + u, p.2 + v)) ?_ ?_ ?_ ?_ ?_ i j a b
  · intros; rw [pairs_nil, pairs_nil]; rfl
  · intros; rw [pairs_nil2, pairs_nil2]; rfl
  · intro i j x a b h; rw [pairs_cons_self, pairs_cons_self, List.map_cons, ← h, Nat.add_right_comm i, Nat.add_right_comm j]
  · intro i j x y a b e l h; rw [pairs_cons, if_neg e, if_pos l, pairs_cons, if_neg e, if_pos l, ← h, Nat.add_right_comm i]
  · intro i j x y a b e l h; rw [pairs_cons, if_neg e, if_neg l, pairs_cons, if_neg e, if_neg l, ← h, Nat.add_right_comm j]
/-- one more that neither holds, at the end of both -/
theorem pairs_snoc (p : α) (i j : Nat) (a b : List α) : p ∉ a → p ∉ b → pairs i j (a ++ [p]) (b ++ [p]) = pairs i j a b ++ [(i + a.length, j + b.length)] := by
  refine pairs_ind (C := fun i j a b => p ∉ a → p ∉ b → pairs i j (a ++ [p]) (b ++ [p]) = pairs i j a b ++ [(i + a.length, j + b.length)]) ?_ ?_ ?_ ?_ ?_ i j a b
  · intro i j b _ hb
    rw [pairs_nil]
    induction b generalizing j with
    | nil => rw [List.nil_append, List.nil_append, pairs_cons_self, pairs_nil]; rfl
    | cons y b ih =>
      have : p ≠ y := fun e => hb (e ▸ List.mem_cons_self)
      have ih := ih (j + 1) (fun h => hb (List.mem_cons_of_mem _ h))
      rw [List.nil_append] at ih
      rw [List.nil_append, List.cons_append, pairs_cons, if_neg this, if_neg, ih]
      · simp only [List.nil_append, List.length_nil, List.length_cons, List.cons.injEq, Prod.mk.injEq, and_true, Nat.add_zero, true_and]; omega
      · have := lcs_snoc [] b p
        rw [List.nil_append] at this
        rw [lcs_nil, this]; omega
  · intro i j a ha _
    rw [pairs_nil2]
    induction a generalizing i with
    | nil => rw [List.nil_append, pairs_cons_self, pairs_nil]; rfl
    | cons y a ih =>
      have : y ≠ p := fun e => ha (e ▸ List.mem_cons_self)
      have ih := ih (i + 1) (fun h => ha (List.mem_cons_of_mem _ h))
      rw [List.nil_append] at ih
      rw [List.nil_append, List.cons_append, pairs_cons, if_neg this, if_pos, ih]
      · simp only [List.nil_append, List.length_nil, List.length_cons, List.cons.injEq, Prod.mk.injEq, and_true, Nat.add_zero, true_and]; omega
      · rw [lcs_nil2]; omega
  · intro i j x a b ih ha hb
    rw [List.cons_append, List.cons_append, pairs_cons_self, pairs_cons_self, ih (fun h => ha (List.mem_cons_of_mem _ h)) (fun h => hb (List.mem_cons_of_mem _ h))]
    simp only [List.length_cons, List.cons_append, List.cons.injEq, true_and, List.append_cancel_left_eq, Prod.mk.injEq, and_true]; omega
  · intro i j x y a b e l ih ha hb
    rw [List.cons_append, List.cons_append, pairs_cons, if_neg e, if_pos, pairs_cons, if_neg e, if_pos l, ← List.cons_append, ih (fun h => ha (List.mem_cons_of_mem _ h)) hb]
    · simp only [List.length_cons]; congr 2; exact pp (by omega) (by omega)
    · rw [← List.cons_append, ← List.cons_append, lcs_snoc, lcs_snoc]; omega
  · intro i j x y a b e l ih ha hb
    rw [List.cons_append, List.cons_append, pairs_cons, if_neg e, if_neg, pairs_cons, if_neg e, if_neg l, ← List.cons_append, ih ha (fun h => hb (List.mem_cons_of_mem _ h))]
    · simp only [List.length_cons]; congr 2; exact pp (by omega) (by omega)
    · rw [← List.cons_append, ← List.cons_append, lcs_snoc, lcs_snoc]; omega

end
section
variable {α : Type} [Inhabited α]
theorem nth_set (l : List α) {k : Nat} (h : k < l.length) (m : Nat) (v : α) : nth (l.set k v) (m : Int) = if m = k then v else nth l (m : Int) := by
  unfold nth
  rw [Int.toNat_natCast, List.getD_eq_getElem?_getD, List.getD_eq_getElem?_getD, List.getElem?_set]
  by_cases e : m = k
  · subst e; rw [if_pos rfl, if_pos rfl, if_pos h]; rfl
  · rw [if_neg (fun x => e x.symm), if_neg e]
theorem nth_rep (n m : Nat) (v : α) (h : m < n) : nth (List.replicate n v) (m : Int) = v := by
  rw [nth_nat _ (by simpa using h)]; simp
theorem drop_nth (l : List α) {k : Nat} (h : k < l.length) : l.drop k = nth l (k : Int) :: l.drop (k + 1) := by
  rw [nth_nat l h]; exact List.drop_eq_getElem_cons h
/-- the elements from one place to another -/
def seg (l : List α) (i j : Nat) : List α := (l.drop i).take (j - i)
theorem seg_len (l : List α) (i j : Nat) (h : j ≤ l.length) : (seg l i j).length = j - i := by
  unfold seg; rw [List.length_take, List.length_drop]; omega
theorem seg_end (l : List α) (i : Nat) : seg l i l.length = l.drop i := List.take_of_length_le (by simp)
theorem seg_app (l : List α) {i j : Nat} (h : i ≤ j) : seg l i j ++ l.drop j = l.drop i := by
  unfold seg
  have : l.drop j = (l.drop i).drop (j - i) := by rw [List.drop_drop]; congr 1; omega
  rw [this, List.take_append_drop]
theorem seg_self (l : List α) (i : Nat) : seg l i i = [] := by unfold seg; rw [Nat.sub_self, List.take_zero]
theorem seg_cons (x : α) (l : List α) (i j : Nat) : seg (x :: l) (i + 1) (j + 1) = seg l i j := by unfold seg; rw [List.drop_succ_cons, Nat.add_sub_add_right]
theorem seg_snoc (x : α) (l : List α) (i j : Nat) (h : j ≤ l.length) (hij : i ≤ j) : seg (l ++ [x]) i j = seg l i j := by
  unfold seg; rw [List.drop_append_of_le_length (by omega), List.take_append_of_le_length (by rw [List.length_drop]; omega)]
theorem nth_cons (x : α) (l : List α) (k : Nat) : nth (x :: l) ((k + 1 : Nat) : Int) = nth l (k : Int) := rfl
theorem nth_zero (x : α) (l : List α) : nth (x :: l) ((0 : Nat) : Int) = x := rfl
theorem nth_app (l m : List α) {k : Nat} (h : k < l.length) : nth (l ++ m) (k : Int) = nth l (k : Int) := by
  rw [nth_nat _ (by rw [List.length_append]; omega), nth_nat _ h, List.getElem_append_left]
theorem nth_snoc (l : List α) (x : α) : nth (l ++ [x]) (l.length : Int) = x := by
  rw [nth_nat _ (by simp)]; simp
theorem mem_nth {l : List α} {x : α} (h : x ∈ l) : ∃ k : Nat, k < l.length ∧ nth l (k : Int) = x := by
  obtain ⟨k, hk, rfl⟩ := List.getElem_of_mem h
  exact ⟨k, hk, nth_nat l hk⟩
variable [DecidableEq α]
theorem lcs_drop (a b : List α) {i j : Nat} (hi : i < a.length) (hj : j < b.length) : lcs (a.drop i) (b.drop j) = if nth a (i : Int) = nth b (j : Int) then lcs (a.drop (i + 1)) (b.drop (j + 1)) + 1 else max (lcs (a.drop (i + 1)) (b.drop j)) (lcs (a.drop i) (b.drop (j + 1))) := by
  rw [drop_nth a hi, drop_nth b hj, lcs_cons, ← drop_nth a hi, ← drop_nth b hj]
theorem pairs_drop (a b : List α) {i j : Nat} (hi : i < a.length) (hj : j < b.length) : pairs i j (a.drop i) (b.drop j) = if nth a (i : Int) = nth b (j : Int) then (i, j) :: pairs (i + 1) (j + 1) (a.drop (i + 1)) (b.drop (j + 1)) else if lcs (a.drop i) (b.drop (j + 1)) ≤ lcs (a.drop (i + 1)) (b.drop j) then pairs (i + 1) j (a.drop (i + 1)) (b.drop j) else pairs i (j + 1) (a.drop i) (b.drop (j + 1)) := by
  rw [drop_nth a hi, drop_nth b hj, pairs_cons, ← drop_nth a hi, ← drop_nth b hj]

/-! ### of two rows one -/
def pickL (o a b : List α) : Option (List α) := if a = o then some b else if b = o then some a else if a = b then some a else none
theorem pickL_comm (o a b : List α) : pickL o a b = pickL o b a := by
  unfold pickL
  by_cases h1 : a = o <;> by_cases h2 : b = o
  · subst h1; subst h2; rfl
  · rw [if_pos h1, if_neg h2, if_pos h1]
  · rw [if_neg h1, if_pos h2, if_pos h2]
  · rw [if_neg h1, if_neg h2, if_neg h2, if_neg h1]
    by_cases h3 : a = b
    · subst h3; rfl
    · rw [if_neg h3, if_neg (fun e => h3 e.symm)]
theorem pickL_old (o a : List α) : pickL o a o = some a := by
  unfold pickL
  by_cases h : a = o
  · rw [if_pos h, h]
  · rw [if_neg h, if_pos rfl]
theorem pickL_same (o a : List α) : pickL o a a = some a := by
  unfold pickL
  by_cases h : a = o
  · rw [if_pos h]
  · rw [if_neg h, if_neg h, if_pos rfl]
theorem pickL_none (a b : List α) : pickL [] a b = if a = [] then some b else if b = [] then some a else if a = b then some a else none := rfl
theorem pickL_mem {o a b r : List α} (h : pickL o a b = some r) : (∀ z ∈ r, z ∈ a ∨ z ∈ b) ∧ (∀ z ∈ a, z ∈ o ∨ z ∈ r) ∧ (∀ z ∈ b, z ∈ o ∨ z ∈ r) ∧ r.length ≤ a.length + b.length := by
  unfold pickL at h
  by_cases h1 : a = o
  · rw [if_pos h1] at h; cases h; subst h1
    exact ⟨fun z hz => .inr hz, fun z hz => .inl hz, fun z hz => .inr hz, by omega⟩
  · rw [if_neg h1] at h
    by_cases h2 : b = o
    · rw [if_pos h2] at h; cases h; subst h2
      exact ⟨fun z hz => .inl hz, fun z hz => .inr hz, fun z hz => .inl hz, by omega⟩
    · rw [if_neg h2] at h
      by_cases h3 : a = b
      · rw [if_pos h3] at h; cases h; subst h3
        exact ⟨fun z hz => .inl hz, fun z hz => .inr hz, fun z hz => .inr hz, by omega⟩
      · rw [if_neg h3] at h; cases h
/-- from a place on: n places of the old row are left -/
def mloop (o a b : List α) (f g : Nat → Option Nat) : Nat → Nat → Nat → Nat → Nat → Option (List α)
  | 0, _, i, j, k => pickL (o.drop i) (a.drop j) (b.drop k)
  | n + 1, at_, i, j, k => match f at_, g at_ with
    | some x, some y => (pickL (seg o i at_) (seg a j x) (seg b k y)).bind fun p => (mloop o a b f g n (at_ + 1) (at_ + 1) (x + 1) (y + 1)).map fun r => p ++ nth o (at_ : Int) :: r
    | _, _ => mloop o a b f g n (at_ + 1) i j k
theorem mloop_zero (o a b : List α) (f g : Nat → Option Nat) (t i j k : Nat) : mloop o a b f g 0 t i j k = pickL (o.drop i) (a.drop j) (b.drop k) := rfl
theorem mloop_some {o a b : List α} {f g : Nat → Option Nat} {n t i j k x y : Nat} (hf : f t = some x) (hg : g t = some y) : mloop o a b f g (n + 1) t i j k = (pickL (seg o i t) (seg a j x) (seg b k y)).bind fun p => (mloop o a b f g n (t + 1) (t + 1) (x + 1) (y + 1)).map fun r => p ++ nth o (t : Int) :: r := by
  rw [mloop, hf, hg]
theorem mloop_none {o a b : List α} {f g : Nat → Option Nat} {n t i j k : Nat} (h : f t = none ∨ g t = none) : mloop o a b f g (n + 1) t i j k = mloop o a b f g n (t + 1) i j k := by
  rw [mloop]
  rcases h with h | h
  · rw [h]
  · rw [h]; cases f t <;> rfl
/-- what a row's partners are: in order, within, and alike -/
structure Mates (o a : List α) (f : Nat → Option Nat) : Prop where
  lt : ∀ {t x}, f t = some x → t < o.length ∧ x < a.length
  eq : ∀ {t x}, f t = some x → nth o (t : Int) = nth a (x : Int)
  mono : ∀ {t x u y}, f t = some x → f u = some y → t < u → x < y
/-- no partner of a place at or behind one lies ahead of j -/
def From (f : Nat → Option Nat) (t j : Nat) : Prop := ∀ u x, t ≤ u → f u = some x → j ≤ x
theorem From.zero (f : Nat → Option Nat) (t : Nat) : From f t 0 := fun _ _ _ _ => Nat.zero_le _
theorem From.skip {f : Nat → Option Nat} {t j : Nat} (h : From f t j) : From f (t + 1) j := fun u x hu hx => h u x (by omega) hx
theorem From.step {o a : List α} {f : Nat → Option Nat} (m : Mates o a f) {t x : Nat} (h : f t = some x) : From f (t + 1) (x + 1) := fun u y hu hy => m.mono h hy (by omega)
theorem mloop_comm (o a b : List α) (f g : Nat → Option Nat) (n t i j k : Nat) : mloop o a b f g n t i j k = mloop o b a g f n t i k j := by
  induction n generalizing t i j k with
  | zero => exact pickL_comm _ _ _
  | succ n ih =>
    cases hf : f t with
    | none => rw [mloop_none (.inl hf), mloop_none (.inr hf), ih]
    | some x => cases hg : g t with
      | none => rw [mloop_none (.inr hg), mloop_none (.inl hg), ih]
      | some y => rw [mloop_some hf hg, mloop_some hg hf, pickL_comm, ih]
theorem mloop_old {o a : List α} {f g : Nat → Option Nat} (m : Mates o a f) (hg : ∀ t, t < o.length → g t = some t) (n t i j : Nat) (hn : t + n = o.length) (h : From f t j) : mloop o a o f g n t i j i = some (a.drop j) := by
  induction n generalizing t i j with
  | zero => rw [mloop_zero, pickL_old]
  | succ n ih =>
    cases hf : f t with
    | none => rw [mloop_none (.inl hf), ih _ _ _ (by omega) h.skip]
    | some x =>
      rw [mloop_some hf (hg t (by omega)), pickL_old, Option.bind_some, ih _ _ _ (by omega) (.step m hf), Option.map_some, m.eq hf, ← drop_nth a (m.lt hf).2, seg_app a (h t x (Nat.le_refl _) hf)]
theorem mloop_same {o a : List α} {f : Nat → Option Nat} (m : Mates o a f) (n t i j : Nat) (hn : t + n = o.length) (h : From f t j) : mloop o a a f f n t i j j = some (a.drop j) := by
  induction n generalizing t i j with
  | zero => rw [mloop_zero, pickL_same]
  | succ n ih =>
    cases hf : f t with
    | none => rw [mloop_none (.inl hf), ih _ _ _ (by omega) h.skip]
    | some x =>
      rw [mloop_some hf hf, pickL_same, Option.bind_some, ih _ _ _ (by omega) (.step m hf), Option.map_some, m.eq hf, ← drop_nth a (m.lt hf).2, seg_app a (h t x (Nat.le_refl _) hf)]
theorem mem_seg {l : List α} {i j : Nat} {z : α} (h : z ∈ seg l i j) : z ∈ l := List.mem_of_mem_drop (List.mem_of_mem_take h)
theorem mem_split {l : List α} {i j : Nat} (hij : i ≤ j) (hj : j < l.length) {z : α} (h : z ∈ l.drop i) : z ∈ seg l i j ∨ z = nth l (j : Int) ∨ z ∈ l.drop (j + 1) := by
  rw [← seg_app l hij, drop_nth l hj] at h
  rcases List.mem_append.1 h with h | h
  · exact .inl h
  · rcases List.mem_cons.1 h with h | h
    · exact .inr (.inl h)
    · exact .inr (.inr h)
theorem mloop_keep {o a b : List α} {f g : Nat → Option Nat} (mf : Mates o a f) (mg : Mates o b g) (n t i j k : Nat) (hn : t + n = o.length) (hj : From f t j) (hk : From g t k) (r : List α) (h : mloop o a b f g n t i j k = some r) :
    (∀ z ∈ r, z ∈ a ∨ z ∈ b) ∧ (∀ z ∈ a.drop j, z ∈ o ∨ z ∈ r) ∧ (∀ z ∈ b.drop k, z ∈ o ∨ z ∈ r) ∧ r.length ≤ (a.drop j).length + (b.drop k).length := by
  induction n generalizing t i j k r with
  | zero =>
    rw [mloop_zero] at h
    obtain ⟨h1, h2, h3, h4⟩ := pickL_mem h
    exact ⟨fun z hz => (h1 z hz).imp List.mem_of_mem_drop List.mem_of_mem_drop, fun z hz => (h2 z hz).imp List.mem_of_mem_drop id, fun z hz => (h3 z hz).imp List.mem_of_mem_drop id, h4⟩
  | succ n ih =>
    cases hf : f t with
    | none => rw [mloop_none (.inl hf)] at h; exact ih _ _ _ _ (by omega) hj.skip hk.skip _ h
    | some x => cases hg : g t with
      | none => rw [mloop_none (.inr hg)] at h; exact ih _ _ _ _ (by omega) hj.skip hk.skip _ h
      | some y =>
        rw [mloop_some hf hg] at h
        cases hp : pickL (seg o i t) (seg a j x) (seg b k y) with
        | none => rw [hp] at h; cases h
        | some p =>
          rw [hp, Option.bind_some] at h
          cases hr : mloop o a b f g n (t + 1) (t + 1) (x + 1) (y + 1) with
          | none => rw [hr] at h; cases h
          | some q =>
            rw [hr, Option.map_some] at h; cases h
            obtain ⟨h1, h2, h3, h4⟩ := pickL_mem hp
            obtain ⟨g1, g2, g3, g4⟩ := ih _ _ _ _ (by omega) (.step mf hf) (.step mg hg) _ hr
            have hjx := hj t x (Nat.le_refl _) hf
            have hky := hk t y (Nat.le_refl _) hg
            have hx := (mf.lt hf).2
            have hy := (mg.lt hg).2
            have ex := mf.eq hf
            have ey := mg.eq hg
            refine ⟨fun z hz => ?_, fun z hz => ?_, fun z hz => ?_, ?_⟩
            · rcases List.mem_append.1 hz with hz | hz
              · exact (h1 z hz).imp mem_seg mem_seg
              · rcases List.mem_cons.1 hz with rfl | hz
                · rw [ex]; exact .inl (nth_mem a hx)
                · exact g1 z hz
            · rcases mem_split hjx hx hz with hz | rfl | hz
              · exact (h2 z hz).imp mem_seg (fun h => List.mem_append_left _ h)
              · exact .inr (List.mem_append_right _ (by rw [ex]; exact List.mem_cons_self))
              · exact (g2 z hz).imp id (fun h => List.mem_append_right _ (List.mem_cons_of_mem _ h))
            · rcases mem_split hky hy hz with hz | rfl | hz
              · exact (h3 z hz).imp mem_seg (fun h => List.mem_append_left _ h)
              · exact .inr (List.mem_append_right _ (by rw [ey]; exact List.mem_cons_self))
              · exact (g3 z hz).imp id (fun h => List.mem_append_right _ (List.mem_cons_of_mem _ h))
            · rw [seg_len a _ _ (by omega), seg_len b _ _ (by omega)] at h4
              simp only [List.length_append, List.length_cons, List.length_drop] at g4 ⊢
              omega
theorem mloop_cons {o a b : List α} {f g f' g' : Nat → Option Nat} (p : α) (hf : ∀ t, t < o.length → f' (t + 1) = (f t).map (· + 1)) (hg : ∀ t, t < o.length → g' (t + 1) = (g t).map (· + 1)) (n t i j k : Nat) (hn : t + n = o.length) :
    mloop (p :: o) (p :: a) (p :: b) f' g' n (t + 1) (i + 1) (j + 1) (k + 1) = mloop o a b f g n t i j k := by
  induction n generalizing t i j k with
  | zero => rfl
  | succ n ih =>
    have h1 := hf t (by omega); have h2 := hg t (by omega)
    cases e1 : f t with
    | none => rw [e1] at h1; rw [mloop_none (.inl e1), mloop_none (.inl h1), ih _ _ _ _ (by omega)]
    | some x => cases e2 : g t with
      | none => rw [e2] at h2; rw [mloop_none (.inr e2), mloop_none (.inr h2), ih _ _ _ _ (by omega)]
      | some y =>
        rw [e1] at h1; rw [e2] at h2
        rw [mloop_some e1 e2, mloop_some h1 h2, seg_cons, seg_cons, seg_cons, ih _ _ _ _ (by omega)]
        rfl
theorem mloop_snoc {o a b : List α} {f g f' g' : Nat → Option Nat} (p : α) (mf : Mates o a f) (mg : Mates o b g) (hf : ∀ t, t < o.length → f' t = f t) (hf1 : f' o.length = some a.length) (hg : ∀ t, t < o.length → g' t = g t) (hg1 : g' o.length = some b.length) (n t i j k : Nat) (hn : t + n = o.length)
    (hi : i ≤ t) (hj0 : j ≤ a.length) (hk0 : k ≤ b.length) (hj : From f t j) (hk : From g t k) :
    mloop (o ++ [p]) (a ++ [p]) (b ++ [p]) f' g' (n + 1) t i j k = (mloop o a b f g n t i j k).map (· ++ [p]) := by
  induction n generalizing t i j k with
  | zero =>
    have : t = o.length := by omega
    subst this
    rw [mloop_some hf1 hg1, mloop_zero, seg_snoc _ _ _ _ (Nat.le_refl _) hi, seg_snoc _ _ _ _ (Nat.le_refl _) hj0, seg_snoc _ _ _ _ (Nat.le_refl _) hk0, seg_end, seg_end, seg_end, mloop_zero, nth_snoc]
    have e : ∀ l : List α, (l ++ [p]).drop (l.length + 1) = [] := fun l => List.drop_of_length_le (by simp)
    rw [e, e, e, pickL_same]
    cases pickL (o.drop i) (a.drop j) (b.drop k) <;> rfl
  | succ n ih =>
    have h1 := hf t (by omega); have h2 := hg t (by omega)
    cases e1 : f t with
    | none => rw [e1] at h1; rw [mloop_none (.inl e1), mloop_none (.inl h1), ih _ _ _ _ (by omega) (by omega) hj0 hk0 hj.skip hk.skip]
    | some x => cases e2 : g t with
      | none => rw [e2] at h2; rw [mloop_none (.inr e2), mloop_none (.inr h2), ih _ _ _ _ (by omega) (by omega) hj0 hk0 hj.skip hk.skip]
      | some y =>
        rw [e1] at h1; rw [e2] at h2
        have hx := (mf.lt e1).2
        have hy := (mg.lt e2).2
        rw [mloop_some e1 e2, mloop_some h1 h2, seg_snoc _ _ _ _ (by omega) hi, seg_snoc _ _ _ _ (by omega) (hj t x (Nat.le_refl _) e1), seg_snoc _ _ _ _ (by omega) (hk t y (Nat.le_refl _) e2), ih _ _ _ _ (by omega) (Nat.le_refl _) (by omega) (by omega) (.step mf e1) (.step mg e2), nth_app o [p] (by omega)]
        cases pickL (seg o i t) (seg a j x) (seg b k y) with
        | none => rfl
        | some q =>
          rw [Option.bind_some, Option.bind_some]
          cases mloop o a b f g n (t + 1) (t + 1) (x + 1) (y + 1) with
          | none => rfl
          | some r => simp
theorem mloop_apart {o : List α} {f g : Nat → Option Nat} (p q : α) (hf : ∀ t, t < o.length → f t = some (t + 1)) (hg : ∀ t, t < o.length → g t = some t) (n t : Nat) (hn : t + n = o.length) : mloop o (p :: o) (o ++ [q]) f g n t t (t + 1) t = some (o.drop t ++ [q]) := by
  induction n generalizing t with
  | zero =>
    rw [mloop_zero, List.drop_of_length_le (by omega : o.length ≤ t), List.drop_of_length_le (l := p :: o) (by rw [List.length_cons]; omega), pickL_none, if_pos rfl, List.drop_append_of_le_length (by omega), List.drop_of_length_le (by omega : o.length ≤ t)]
  | succ n ih =>
    rw [mloop_some (hf t (by omega)) (hg t (by omega)), seg_self, seg_self, seg_self, pickL_same, Option.bind_some, ih _ (by omega), Option.map_some, drop_nth o (show t < o.length by omega)]
    rfl
end
end Go.Proofs.Ytndjggncgpjolaa

namespace Go.Proofs.Ytndjggncgpjolaa
set_option linter.unusedVariables false
set_option linter.unusedSimpArgs false
set_option linter.unusedSectionVars false
def few (a b : List Pt) : Bool := decide (a.length ≤ 12) && decide (b.length ≤ 12)
theorem few_iff {a b : List Pt} : few a b = true ↔ a.length ≤ 12 ∧ b.length ≤ 12 := by simp [few]
theorem few_not {a b : List Pt} : few a b = false ↔ ¬ (a.length ≤ 12 ∧ b.length ≤ 12) := by rw [← few_iff]; simp
def slen (a b : List Pt) : Int := if few a b then (lcs a b : Nat) else 0
def mkP (p : Nat × Nat) : Pair := ⟨p.1, p.2⟩
def spairs (a b : List Pt) : List Pair := if few a b then (pairs 0 0 a b).map mkP else []
theorem spairs_few {a b : List Pt} (h : few a b = true) : spairs a b = (pairs 0 0 a b).map mkP := by unfold spairs; rw [if_pos h]
theorem spairs_len (a b : List Pt) : ((spairs a b).length : Int) = slen a b := by
  unfold spairs slen
  by_cases h : few a b = true
  · rw [if_pos h, if_pos h, List.length_map, pairs_len]
  · rw [if_neg h, if_neg h]; rfl
theorem slen_le (a b : List Pt) : 0 ≤ slen a b ∧ slen a b ≤ a.length ∧ slen a b ≤ b.length ∧ slen a b ≤ 12 := by
  unfold slen
  by_cases h : few a b = true
  · have := few_iff.1 h
    have h1 := lcs_le1 a b; have h2 := lcs_le2 a b
    rw [if_pos h]; omega
  · rw [if_neg h]; omega
/-- a row: what is in common from a place of the second on -/
def RowOk (a b : List Pt) (i : Nat) (j : Nat) (xs : List Int) : Prop := xs.length = b.length + 1 ∧ ∀ m : Nat, j ≤ m → m ≤ b.length → nth xs (m : Int) = (lcs (a.drop i) (b.drop m) : Nat)
def Tab (a b : List Pt) (D : Nat → Nat → Prop) (t : List (List Int)) : Prop := t.length = a.length + 1 ∧ ∀ r : Nat, r ≤ a.length → (nth t (r : Int)).length = b.length + 1 ∧ ∀ m : Nat, m ≤ b.length → D r m → nth (nth t (r : Int)) (m : Int) = (lcs (a.drop r) (b.drop m) : Nat)
theorem Tab.set {a b : List Pt} {D : Nat → Nat → Prop} {t : List (List Int)} (h : Tab a b D t) {i j : Nat} (hi : i ≤ a.length) (hj : j ≤ b.length) {v : Int} (hv : v = (lcs (a.drop i) (b.drop j) : Nat)) {D' : Nat → Nat → Prop} (hD : ∀ r m, D' r m → D r m ∨ (r = i ∧ m = j)) :
    Tab a b D' (t.set i ((nth t (i : Int)).set j v)) := by
  obtain ⟨h1, h2⟩ := h
  refine ⟨by rw [List.length_set]; exact h1, fun r hr => ?_⟩
  rw [nth_set _ (by omega)]
  by_cases e : r = i
  · subst e
    rw [if_pos rfl]
    refine ⟨by rw [List.length_set]; exact (h2 r hr).1, fun m hm hd => ?_⟩
    rw [nth_set _ (by rw [(h2 r hr).1]; omega)]
    by_cases f : m = j
    · subst f; rw [if_pos rfl, hv]
    · rw [if_neg f]
      exact (h2 r hr).2 m hm ((hD r m hd).resolve_right fun x => f x.2)
  · rw [if_neg e]
    exact ⟨(h2 r hr).1, fun m hm hd => (h2 r hr).2 m hm ((hD r m hd).resolve_right fun x => e x.1)⟩
def mateI (l : List Pair) (k : Int) : Int := match l with
  | [] => -1
  | p :: l => if p.A == k then p.B else mateI l k
theorem mateI_nil (k : Int) : mateI [] k = -1 := rfl
theorem mateI_cons (p : Pair) (l : List Pair) (k : Int) : mateI (p :: l) k = if p.A == k then p.B else mateI l k := rfl
def mateN (l : List (Nat × Nat)) (k : Nat) : Option Nat := match l with
  | [] => none
  | p :: l => if p.1 = k then some p.2 else mateN l k
theorem mateI_mk (l : List (Nat × Nat)) (k : Nat) : mateI (l.map mkP) (k : Int) = match mateN l k with | some x => (x : Int) | none => -1 := by
  induction l with
  | nil => rfl
  | cons p l ih =>
    rw [List.map_cons, mateI_cons, mateN]
    by_cases h : p.1 = k
    · rw [if_pos (by simp [mkP, h]), if_pos h]; rfl
    · rw [if_neg (by simp [mkP]; omega), if_neg h, ih]
theorem mateN_mem {l : List (Nat × Nat)} {k x : Nat} (h : mateN l k = some x) : (k, x) ∈ l := by
  induction l with
  | nil => cases h
  | cons p l ih =>
    rw [mateN] at h
    by_cases e : p.1 = k
    · rw [if_pos e] at h; cases h; subst e; exact List.mem_cons_self
    · rw [if_neg e] at h; exact List.mem_cons_of_mem _ (ih h)
theorem mateN_of {l : List (Nat × Nat)} {k x : Nat} (ho : l.Pairwise fun p q => p.1 < q.1 ∧ p.2 < q.2) (h : (k, x) ∈ l) : mateN l k = some x := by
  induction l with
  | nil => cases h
  | cons p l ih =>
    rw [mateN]
    rcases List.mem_cons.1 h with h | h
    · subst h; rw [if_pos rfl]
    · have := (List.pairwise_cons.1 ho).1 _ h
      rw [if_neg (by dsimp only at this; omega)]
      exact ih (List.pairwise_cons.1 ho).2 h
theorem mateN_none {l : List (Nat × Nat)} {k : Nat} (h : ∀ x, (k, x) ∉ l) : mateN l k = none := by
  cases e : mateN l k with
  | none => rfl
  | some x => exact absurd (mateN_mem e) (h x)
def part (o a : List Pt) : Nat → Option Nat := mateN (pairs 0 0 o a)
theorem part_mates (o a : List Pt) : Mates o a (part o a) := by
  have hm : ∀ {t x}, part o a t = some x → ∃ z, o[t]? = some z ∧ a[x]? = some z := fun {t x} h => by
    obtain ⟨k, l, e, z, h1, h2⟩ := pairs_mem 0 0 o a _ (mateN_mem h)
    rw [Nat.zero_add, Nat.zero_add] at e; cases e
    exact ⟨z, h1, h2⟩
  refine ⟨fun {t x} h => ?_, fun {t x} h => ?_, fun {t x u y} h1 h2 hu => ?_⟩
  · obtain ⟨z, h1, h2⟩ := hm h
    exact ⟨(List.getElem?_eq_some_iff.1 h1).1, (List.getElem?_eq_some_iff.1 h2).1⟩
  · obtain ⟨z, h1, h2⟩ := hm h
    obtain ⟨e1, e2⟩ := List.getElem?_eq_some_iff.1 h1
    obtain ⟨e3, e4⟩ := List.getElem?_eq_some_iff.1 h2
    rw [nth_nat _ e1, nth_nat _ e3, e2, e4]
  · have ho := pairs_ord 0 0 o a
    have m1 := mateN_mem h1; have m2 := mateN_mem h2
    generalize pairs 0 0 o a = l at ho m1 m2
    induction l with
    | nil => cases m1
    | cons p l ih =>
      obtain ⟨q1, q2⟩ := List.pairwise_cons.1 ho
      rcases List.mem_cons.1 m1 with e1 | n1
      · rcases List.mem_cons.1 m2 with e2 | n2
        · subst e1; cases e2; omega
        · subst e1; exact (q1 _ n2).2
      · rcases List.mem_cons.1 m2 with e2 | n2
        · subst e2; have := (q1 _ n1).1; dsimp only at this; omega
        · exact ih q2 n1 n2
theorem part_old (o : List Pt) (l : List Pt) : ∀ t, t < o.length → part o (o ++ l) t = some t := fun t ht => by
  refine mateN_of (pairs_ord _ _ _ _) ?_
  rw [pairs_self, List.mem_map]
  exact ⟨t, by simpa using ht, by simp⟩
theorem part_self (o : List Pt) : ∀ t, t < o.length → part o o t = some t := fun t ht => by
  have := part_old o [] t ht
  rwa [List.append_nil] at this
/-- what is made of two rows, and of which one was -/
def smerge (o a b : List Pt) : Option (List Pt) := if few o a && few o b then mloop o a b (part o a) (part o b) o.length 0 0 0 0 else none
theorem smerge_few {o a b : List Pt} (h1 : few o a = true) (h2 : few o b = true) : smerge o a b = mloop o a b (part o a) (part o b) o.length 0 0 0 0 := by unfold smerge; rw [h1, h2]; rfl
theorem smerge_not {o a b : List Pt} (h : few o a = false ∨ few o b = false) : smerge o a b = none := by
  unfold smerge; rcases h with h | h <;> rw [h] <;> simp
theorem smerge_comm (o a b : List Pt) : smerge o a b = smerge o b a := by
  unfold smerge; rw [Bool.and_comm, mloop_comm]
theorem smerge_old {o a : List Pt} (h : few o a = true) : smerge o a o = some a := by
  rw [smerge_few h (by rw [few_iff] at h ⊢; exact ⟨h.1, h.1⟩), mloop_old (part_mates o a) (part_self o) _ _ _ _ (by omega) (From.zero _ _)]; rfl
theorem smerge_same {o a : List Pt} (h : few o a = true) : smerge o a a = some a := by
  rw [smerge_few h h, mloop_same (part_mates o a) _ _ _ _ (by omega) (From.zero _ _)]; rfl
theorem smerge_keep {o a b r : List Pt} (h : smerge o a b = some r) : (∀ z ∈ r, z ∈ a ∨ z ∈ b) ∧ (∀ z ∈ a, z ∈ o ∨ z ∈ r) ∧ (∀ z ∈ b, z ∈ o ∨ z ∈ r) ∧ r.length ≤ a.length + b.length := by
  unfold smerge at h
  by_cases hf : (few o a && few o b) = true
  · rw [if_pos hf] at h
    exact mloop_keep (part_mates o a) (part_mates o b) _ _ _ _ _ (by omega) (From.zero _ _) (From.zero _ _) _ h
  · rw [if_neg hf] at h; cases h
theorem smerge_len {o a b r : List Pt} (h : smerge o a b = some r) : r.length ≤ 24 := by
  have h1 := (smerge_keep h).2.2.2
  unfold smerge at h
  by_cases hf : (few o a && few o b) = true
  · rw [Bool.and_eq_true, few_iff, few_iff] at hf; omega
  · rw [if_neg hf] at h; cases h
theorem part_cons (p : Pt) (o a : List Pt) (t : Nat) : part (p :: o) (p :: a) (t + 1) = (part o a t).map (· + 1) := by
  have h := pairs_shift 0 0 o a 1 1
  have e : mateN (pairs (0 + 1) (0 + 1) o a) (t + 1) = (mateN (pairs 0 0 o a) t).map (· + 1) := by
    rw [h]
    generalize pairs 0 0 o a = l
    induction l with
    | nil => rfl
    | cons q l ih =>
      rw [List.map_cons, mateN, mateN]
      by_cases e : q.1 = t
      · rw [if_pos (by dsimp only; omega), if_pos e]; rfl
      · rw [if_neg (by dsimp only; omega), if_neg e, ih]
  unfold part
  rw [pairs_cons_self, mateN, if_neg (by dsimp only; omega), e]
theorem part_cons0 (p : Pt) (o a : List Pt) : part (p :: o) (p :: a) 0 = some 0 := by
  unfold part; rw [pairs_cons_self, mateN, if_pos rfl]
theorem mateN_app (l m : List (Nat × Nat)) (k : Nat) : mateN (l ++ m) k = (mateN l k).or (mateN m k) := by
  induction l with
  | nil => rfl
  | cons p l ih =>
    rw [List.cons_append, mateN, mateN]
    by_cases e : p.1 = k
    · rw [if_pos e, if_pos e]; rfl
    · rw [if_neg e, if_neg e, ih]
theorem part_snoc {p : Pt} {o a : List Pt} (ho : p ∉ o) (ha : p ∉ a) (t : Nat) : part (o ++ [p]) (a ++ [p]) t = (part o a t).or (if o.length = t then some a.length else none) := by
  unfold part; rw [pairs_snoc p 0 0 o a ho ha, mateN_app]
  simp only [mateN, Nat.zero_add]
theorem part_snoc1 {p : Pt} {o a : List Pt} (ho : p ∉ o) (ha : p ∉ a) {t : Nat} (h : t < o.length) : part (o ++ [p]) (a ++ [p]) t = part o a t := by
  rw [part_snoc ho ha, if_neg (by omega)]; cases part o a t <;> rfl
theorem part_snoc2 {p : Pt} {o a : List Pt} (ho : p ∉ o) (ha : p ∉ a) : part (o ++ [p]) (a ++ [p]) o.length = some a.length := by
  rw [part_snoc ho ha, if_pos rfl]
  cases h : part o a o.length with
  | none => rfl
  | some x => have := ((part_mates o a).lt h).1; omega
theorem smerge_cons {o a b : List Pt} (p : Pt) (h1 : few (p :: o) (p :: a) = true) (h2 : few (p :: o) (p :: b) = true) : smerge (p :: o) (p :: a) (p :: b) = (smerge o a b).map (p :: ·) := by
  have g1 : few o a = true := by rw [few_iff] at h1 ⊢; simp only [List.length_cons] at h1; omega
  have g2 : few o b = true := by rw [few_iff] at h2 ⊢; simp only [List.length_cons] at h2; omega
  rw [smerge_few h1 h2, smerge_few g1 g2, List.length_cons, mloop_some (part_cons0 p o a) (part_cons0 p o b), seg_self, seg_self, seg_self, pickL_same, Option.bind_some]
  rw [show (0 : Nat) + 1 = 0 + 1 from rfl, mloop_cons p (fun t _ => part_cons p o a t) (fun t _ => part_cons p o b t) _ _ _ _ _ (by omega)]
  rfl
theorem smerge_snoc {o a b : List Pt} (p : Pt) (ho : p ∉ o) (ha : p ∉ a) (hb : p ∉ b) (h1 : few (o ++ [p]) (a ++ [p]) = true) (h2 : few (o ++ [p]) (b ++ [p]) = true) : smerge (o ++ [p]) (a ++ [p]) (b ++ [p]) = (smerge o a b).map (· ++ [p]) := by
  have g1 : few o a = true := by rw [few_iff] at h1 ⊢; simp only [List.length_append] at h1; omega
  have g2 : few o b = true := by rw [few_iff] at h2 ⊢; simp only [List.length_append] at h2; omega
  rw [smerge_few h1 h2, smerge_few g1 g2, List.length_append, List.length_singleton]
  exact mloop_snoc p (part_mates o a) (part_mates o b) (fun t ht => part_snoc1 ho ha ht) (part_snoc2 ho ha) (fun t ht => part_snoc1 ho hb ht) (part_snoc2 ho hb) _ _ _ _ _ (by omega) (Nat.zero_le _) (Nat.zero_le _) (Nat.zero_le _) (From.zero _ _) (From.zero _ _)
theorem part_shift {p : Pt} {o : List Pt} (hp : p ∉ o) : ∀ t, t < o.length → part o (p :: o) t = some (t + 1) := fun t ht => by
  have e : pairs 0 0 o (p :: o) = pairs 0 1 o o := by
    cases o with
    | nil => rw [pairs_nil, pairs_nil]
    | cons x o =>
      have hx : x ≠ p := fun e => hp (e ▸ List.mem_cons_self)
      rw [pairs_cons, if_neg hx, if_neg]
      have h1 : lcs (x :: o) (x :: o) = o.length + 1 := lcs_self (x :: o)
      have h2 := lcs_le1 o (p :: x :: o)
      omega
  refine mateN_of (pairs_ord _ _ _ _) ?_
  rw [e]
  have := pairs_self 0 1 o []
  rw [List.append_nil] at this
  rw [this, List.mem_map]
  exact ⟨t, by simpa using ht, pp (by omega) (by omega)⟩
theorem smerge_apart {o : List Pt} {p q : Pt} (hp : p ∉ o) (h0 : 0 < o.length) (h : o.length < 12) : smerge o (p :: o) (o ++ [q]) = some (p :: o ++ [q]) := by
  have h1 : few o (p :: o) = true := by rw [few_iff]; simp only [List.length_cons]; omega
  have h2 : few o (o ++ [q]) = true := by rw [few_iff]; simp only [List.length_append, List.length_singleton]; omega
  rw [smerge_few h1 h2]
  obtain ⟨n, e⟩ : ∃ n, o.length = n + 1 := ⟨o.length - 1, by omega⟩
  have hf := part_shift hp
  have hg := part_old o [q]
  rw [e, mloop_some (hf 0 h0) (hg 0 h0), seg_self, seg_self, pickL_old, Option.bind_some]
  have := mloop_apart p q hf hg n 1 (by omega)
  rw [show (0 : Nat) + 1 = 1 from rfl, show (0 : Nat) + 1 + 1 = 1 + 1 from rfl, this, Option.map_some]
  have hd := drop_nth o h0
  rw [List.drop_zero] at hd
  have : seg (p :: o) 0 1 = [p] := rfl
  rw [show (0 : Nat) + 1 = 1 from rfl] at hd
  rw [this, List.singleton_append, ← List.cons_append, ← hd]
  rfl
theorem smerge_clash {o : List Pt} {p q : Pt} (hp : p ∉ o) (hq : q ∉ o) (hpq : p ≠ q) (h0 : 0 < o.length) : smerge o (p :: o) (q :: o) = none := by
  unfold smerge
  by_cases hf : (few o (p :: o) && few o (q :: o)) = true
  · rw [if_pos hf]
    obtain ⟨n, e⟩ : ∃ n, o.length = n + 1 := ⟨o.length - 1, by omega⟩
    rw [e, mloop_some (part_shift hp 0 h0) (part_shift hq 0 h0)]
    have : pickL (seg o 0 0) (seg (p :: o) 0 (0 + 1)) (seg (q :: o) 0 (0 + 1)) = none := by
      show pickL [] [p] [q] = none
      unfold pickL
      rw [if_neg (by simp), if_neg (by simp), if_neg (by simpa using hpq)]
    rw [this]; rfl
  · rw [if_neg hf]
theorem smerge_nil {a b : List Pt} (h1 : a.length ≤ 12) (h2 : b.length ≤ 12) : smerge [] a b = if a = [] then some b else if b = [] then some a else if a = b then some a else none := by
  rw [smerge_few (by rw [few_iff]; exact ⟨Nat.zero_le _, h1⟩) (by rw [few_iff]; exact ⟨Nat.zero_le _, h2⟩)]; rfl
end Go.Proofs.Ytndjggncgpjolaa

namespace Go.Proofs.Ytndjggncgpjolaa
set_option linter.unusedVariables false
set_option linter.unusedSimpArgs false
set_option linter.unusedSectionVars false
/-- a test at each place below n -/
def allN (n : Nat) (c : Nat → Bool) : Bool := (List.range n).all c
theorem allN_true {n : Nat} {c : Nat → Bool} (h : ∀ j, j < n → c j = true) : allN n c = true := by
  unfold allN; rw [List.all_eq_true]; intro j hj; exact h j (List.mem_range.1 hj)
theorem allN_false {n k : Nat} {c : Nat → Bool} (hk : k < n) (h : c k = false) : allN n c = false := by
  unfold allN
  rw [Bool.eq_false_iff]; intro ha
  rw [List.all_eq_true] at ha
  rw [ha k (List.mem_range.2 hk)] at h; cases h
theorem allN_iff {n : Nat} {c : Nat → Bool} : allN n c = true ↔ ∀ j, j < n → c j = true := by
  unfold allN; rw [List.all_eq_true]; exact ⟨fun h j hj => h j (List.mem_range.2 hj), fun h j hj => h j (List.mem_range.1 hj)⟩
theorem allN_congr {n : Nat} {c d : Nat → Bool} (h : ∀ j, j < n → c j = d j) : allN n c = allN n d := by
  unfold allN
  rw [Bool.eq_iff_iff, List.all_eq_true, List.all_eq_true]
  exact ⟨fun g j hj => by rw [← h j (List.mem_range.1 hj)]; exact g j hj, fun g j hj => by rw [h j (List.mem_range.1 hj)]; exact g j hj⟩
/-- a loop that goes over all places, and leaves at the first that fails -/
theorem loop_all (n : Nat) (c : Nat → Bool) {B : (Int → Prop) → (Int → Nat) → Int → Prop} {F : Prop}
    (hs : ∀ (I : Int → Prop) (mu : Int → Nat) (k : Nat), k < n → (∀ j, j < k → c j = true) → (c k = true → I ((k : Int) + 1) ∧ mu ((k : Int) + 1) < mu (k : Int)) → B I mu (k : Int))
    (hF : (∀ j, j < n → c j = true) → F) :
    ∃ (I : Int → Prop) (mu : Int → Nat), I 0 ∧ ∀ (i : Int), I i → (if decide (i < (n : Int)) then B I mu i else F) := by
  refine ⟨fun i => ∃ k : Nat, i = k ∧ k ≤ n ∧ ∀ j, j < k → c j = true, fun i => ((n : Int) - i).toNat, ⟨0, rfl, Nat.zero_le _, fun j hj => absurd hj (Nat.not_lt_zero _)⟩, ?_⟩
  rintro _ ⟨k, rfl, hk, ha⟩
  by_cases h : (k : Int) < (n : Int)
  · rw [if_pos (by simpa using h)]
    refine hs _ _ k (by omega) ha fun hc => ⟨⟨k + 1, by omega, by omega, fun j hj => ?_⟩, by omega⟩
    by_cases e : j = k
    · subst e; exact hc
    · exact ha j (by omega)
  · rw [if_neg (by simpa using h)]
    exact hF fun j hj => ha j (by omega)
theorem ite_true' {b : Bool} {p q : Prop} (h : b = true) (hp : p) : (if b then p else q) := by rw [if_pos h]; exact hp
theorem ite_false' {b : Bool} {p q : Prop} (h : b = false) (hq : q) : (if b then p else q) := by rw [if_neg (by rw [h]; exact Bool.false_ne_true)]; exact hq

/-! ### the order of texts -/
theorem less_irr : ∀ a : Str, Op.bytesLess a a = false
  | [] => rfl
  | x :: a => by rw [Op.bytesLess]; simp [less_irr a]
theorem less_tri : ∀ a b : Str, (!(Op.bytesLess a b)) = (Op.bytesLess b a || b == a)
  | [], [] => rfl
  | [], y :: b => rfl
  | x :: a, [] => rfl
  | x :: a, y :: b => by
    rw [Op.bytesLess, Op.bytesLess]
    have h := less_tri a b
    by_cases h1 : x < y
    · have h2 : ¬ y < x := fun h => absurd (UInt8.lt_trans h1 h) (UInt8.lt_irrefl _)
      have h3 : ¬ y = x := fun e => by subst e; exact UInt8.lt_irrefl _ h1
      simp [h1, h2, h3]
    · by_cases h2 : y < x
      · have h3 : ¬ x = y := fun e => by subst e; exact UInt8.lt_irrefl _ h2
        simp [h1, h2, h3]
      · have h3 : x = y := UInt8.le_antisymm (UInt8.not_lt.1 h2) (UInt8.not_lt.1 h1)
        subst h3
        simp only [h1, decide_false, Bool.false_or, beq_self_eq_true, Bool.true_and]
        rw [h]
        congr 1
        rw [Bool.eq_iff_iff, beq_iff_eq, beq_iff_eq]
        simp
end Go.Proofs.Ytndjggncgpjolaa

namespace Go.Proofs.Ytndjggncgpjolaa
set_option linter.unusedVariables false
set_option linter.unusedSimpArgs false
set_option linter.unusedSectionVars false
def byteOk (b : UInt8) : Bool := !(decide ((b.toNat : Int) < 97)) && !(decide ((b.toNat : Int) > 122))
def wordOk (s : Str) : Bool := allN s.length (fun k => byteOk (nth s (k : Int))) && (decide (1 ≤ s.length) && decide (s.length ≤ 6))
def inR (x : Int) : Bool := decide (-1000 ≤ x) && decide (x ≤ 1000)
def ptOk (p : Pt) : Bool := inR p.X && inR p.Y
def ptsOk (p : List Pt) : Bool := allN p.length fun k => ptOk (nth p (k : Int)) && (decide (k = 0) || !(decide (nth p ((k : Int) - 1) = nth p (k : Int))))
def kindOk (kind : Int) (p : List Pt) : Bool :=
  if kind = 1 then decide (p.length = 1) else if kind = 2 then decide (2 ≤ p.length) && decide (p.length ≤ 6)
  else if kind = 3 then decide (3 ≤ p.length) && decide (p.length ≤ 6) && !(decide (nth p 0 = nth p ((p.length : Int) - 1))) else false
def shapeOk (s : Shape) : Bool := ptsOk s.Pts && kindOk s.Kind s.Pts
def tagsOk (t : List Tag) : Bool := allN t.length fun k => wordOk (nth t (k : Int)).Key && wordOk (nth t (k : Int)).Val && (decide (k = 0) || Op.bytesLess (nth t ((k : Int) - 1)).Key (nth t (k : Int)).Key)
def featOk (f : Feat) : Bool := tagsOk f.Tags && decide (f.Tags.length ≤ 4) && wordOk f.Id && shapeOk f.Shape
def noF (f : Feat) : Bool := decide (f = ⟨[], ⟨0, []⟩, []⟩)
def sideOk (id : Str) (has : Bool) (f : Feat) : Bool := if has then featOk f && decide (f.Id = id) else noF f
def sameC (c : Change) : Bool := decide (c.Had = c.Has) && decide (c.Was = c.Now)
def changeOk (c : Change) : Bool := wordOk c.Id && sideOk c.Id c.Had c.Was && sideOk c.Id c.Has c.Now && !(sameC c)
def diffOk (d : List Change) : Bool := allN d.length (fun k => changeOk (nth d (k : Int)) && (decide (k = 0) || Op.bytesLess (nth d ((k : Int) - 1)).Id (nth d (k : Int)).Id)) && decide (d.length ≤ 16)
def sheetOk (s : List Feat) : Bool := allN s.length (fun k => featOk (nth s (k : Int)) && (decide (k = 0) || Op.bytesLess (nth s ((k : Int) - 1)).Id (nth s (k : Int)).Id)) && decide (s.length ≤ 8)
theorem Feat.ext_iff' (a b : Feat) : a = b ↔ a.Id = b.Id ∧ a.Shape = b.Shape ∧ a.Tags = b.Tags := by cases a; cases b; simp
theorem Shape.ext_iff' (a b : Shape) : a = b ↔ a.Kind = b.Kind ∧ a.Pts = b.Pts := by cases a; cases b; simp
end Go.Proofs.Ytndjggncgpjolaa

namespace Go.Proofs.Ytndjggncgpjolaa
set_option linter.unusedVariables false
set_option linter.unusedSimpArgs false
set_option linter.unusedSectionVars false
theorem spec_WordOk.law (s : Str) (Q : Bool → Prop) (hq : Q (wordOk s)) : spec_WordOk.E s Q := by
  unfold spec_WordOk.E
  unfold wordOk at hq
  refine loop_all s.length (fun k => byteOk (nth s (k : Int))) (fun I mu k hk hp hn => ?_) (fun ha => ?_)
  · refine ⟨by omega, ?_⟩
    cases h1 : decide (((nth s (k : Int)).toNat : Int) < 97) with
    | true => rw [if_pos rfl]; rw [allN_false hk (by simp only [byteOk, h1]; rfl), Bool.false_and] at hq; exact hq
    | false =>
      rw [if_neg (by decide)]
      refine ⟨by omega, ?_⟩
      cases h2 : decide (((nth s (k : Int)).toNat : Int) > 122) with
      | true => rw [if_pos rfl]; rw [allN_false hk (by simp only [byteOk, h1, h2]; rfl), Bool.false_and] at hq; exact hq
      | false =>
        rw [if_neg (by decide)]
        obtain ⟨i1, i2⟩ := hn (by simp only [byteOk, h1, h2]; rfl)
        exact ⟨by omega, i1, i2⟩
  · rw [allN_true ha, Bool.true_and] at hq
    by_cases h : 1 ≤ s.length
    · rw [decide_eq_true h, Bool.true_and] at hq
      rw [if_pos (by rw [decide_eq_true_eq]; omega)]
      have e2 : decide ((s.length : Int) ≤ 6) = decide (s.length ≤ 6) := decide_eq_decide.2 (by omega)
      rw [e2]; exact hq
    · rw [decide_eq_false h, Bool.false_and] at hq
      rw [if_neg (by rw [decide_eq_true_eq]; omega)]; exact hq
end Go.Proofs.Ytndjggncgpjolaa

namespace Go.Proofs.Ytndjggncgpjolaa
open Go.RowKit
set_option linter.unusedVariables false
def spec_l1Num.E (n : Int) (Q : Bool → Prop) : Prop :=
  (if decide (n ≥ (-1000)) then Q (decide (n ≤ 1000)) else Q false)
set_option maxHeartbeats 8000000 in
set_option maxRecDepth 100000 in
theorem spec_l1Num.calls {O : Ob} (w0 : World) (hO : Ok w0 O) (n : Int) (Q : Bool → Prop) (h : spec_l1Num.E n Q) :
    Ret Try.prog 179 [vi n] w0 (fun v w' => ∃ (r0 : Bool), v = vb r0 ∧ Q r0 ∧ Gr w0 w' none ∧ w' = w0) := by
  have H : (if decide (n ≥ (-1000)) then Q (decide (n ≤ 1000)) else Q false) := h
  clear h
  have hc0 := Ct.init hO
  refine Ret_enter Try.func179 rfl 9 rfl [.tmp 2] rfl rfl ?_
  refine W_seq ?_
  refine W_reg ?_
  refine L_pu (P_assign (vb false) rfl) ?_
  refine L_nil ?_
  refine W_seq ?_
  refine W_reg ?_
  refine L_pu (P_move (vi n) rfl) ?_
  refine L_pu (P_cmp n (-1000) (decide (n ≥ (-1000))) rfl rfl rfl) ?_
  refine L_pu (P_move (vb (decide (n ≥ (-1000)))) rfl) ?_
  rcases bool_or (decide (n ≥ (-1000))) with hq1 | hq1
  · have H := ite_t H hq1
    refine L_run (dj := 5) rfl rfl (by exact congrArg Value.bool hq1) ?_
    refine L_pu (P_move (vi n) rfl) ?_
    refine L_run (dj := 5) rfl rfl (by exact congrArg Value.bool hq1) ?_
    refine L_pu (P_cmp n 1000 (decide (n ≤ 1000)) rfl rfl rfl) ?_
    refine L_pu (P_pick true (vb (decide (n ≤ 1000))) (by exact congrArg Value.bool hq1) rfl) ?_
    refine L_pu (P_assign (vb (decide (n ≤ 1000))) rfl) ?_
    refine L_nil ?_
    refine W_ret ?_
    exact ⟨[vb (decide (n ≤ 1000))], ⟨_, rfl, rfl⟩, decide (n ≤ 1000), rfl, H, hc0.gr.g0, rfl⟩
  · have H := ite_f H hq1
    refine L_pass (dj := 5) rfl rfl (.inl (by exact congrArg Value.bool hq1)) ?_
    refine L_pass (dj := 5) rfl rfl (.inl (by exact congrArg Value.bool hq1)) ?_
    refine L_pu (P_pick false (vb false) (by exact congrArg Value.bool hq1) rfl) ?_
    refine L_pu (P_assign (vb false) rfl) ?_
    refine L_nil ?_
    refine W_ret ?_
    exact ⟨[vb false], ⟨_, rfl, rfl⟩, false, rfl, H, hc0.gr.g0, rfl⟩
def spec_l1Num.m (n : Int) : Bool := (if decide (n ≥ (-1000)) then (decide (n ≤ 1000)) else false)
theorem spec_l1Num.fn (n : Int) : spec_l1Num.E n (fun r => r = spec_l1Num.m n) := by
  unfold spec_l1Num.E spec_l1Num.m
  (repeat' split) <;> simp_all
end Go.Proofs.Ytndjggncgpjolaa

namespace Go.Proofs.Ytndjggncgpjolaa
set_option linter.unusedVariables false
set_option linter.unusedSimpArgs false
set_option linter.unusedSectionVars false
theorem spec_l1Num.m_is (n : Int) : spec_l1Num.m n = inR n := by
  unfold spec_l1Num.m inR
  by_cases h : -1000 ≤ n
  · rw [if_pos (by rw [decide_eq_true_eq]; omega), decide_eq_true h, Bool.true_and]
  · rw [if_neg (by rw [decide_eq_true_eq]; omega), decide_eq_false h, Bool.false_and]
end Go.Proofs.Ytndjggncgpjolaa

namespace Go.Proofs.Ytndjggncgpjolaa
open Go.RowKit
set_option linter.unusedVariables false
def spec_l1Pts.E (p : List Pt) (Q : Bool → Prop) : Prop :=
  (∃ (I18 : Int → Prop) (mu19 : Int → Nat), I18 0 ∧ ∀ (i2 : Int), I18 i2 → (if decide (i2 < (p.length : Int)) then ((0 : Int) ≤ i2 ∧ i2 < (p.length : Int)) ∧ (if !(spec_l1Num.m ((nth p i2).X)) then Q false else ((0 : Int) ≤ i2 ∧ i2 < (p.length : Int)) ∧ (if !(spec_l1Num.m ((nth p i2).Y)) then Q false else (if decide (i2 > 0) then ((0 : Int) ≤ i2 ∧ i2 < (p.length : Int)) ∧ ((p.length : Int) ≤ 9223372036854775807 → I64 (i2 - 1)) ∧ ((0 : Int) ≤ i2 - 1 ∧ i2 - 1 < (p.length : Int)) ∧ (if eqPt (nth p i2) (nth p (i2 - 1)) then Q false else (-9223372036854775808 ≤ i2) ∧ I18 (i2 + 1) ∧ mu19 (i2 + 1) < mu19 i2) else (-9223372036854775808 ≤ i2) ∧ I18 (i2 + 1) ∧ mu19 (i2 + 1) < mu19 i2))) else Q (decide ((p.length : Int) ≤ 6))))
set_option maxHeartbeats 8000000 in
set_option maxRecDepth 100000 in
theorem spec_l1Pts.calls {O : Ob} (w0 : World) (hO : Ok w0 O) (p : List Pt) (A1 : Option Addr) (n2 c3 : Nat) (hp4 : Sl kPt w0 (Fr O) (.slice A1 n2 c3) p) (Q : Bool → Prop) (h : spec_l1Pts.E p Q) :
    Ret Try.prog 165 [.slice A1 n2 c3] w0 (fun v w' => ∃ (r0 : Bool), v = vb r0 ∧ Q r0 ∧ Gr w0 w' none) := by
  have H : (∃ (I18 : Int → Prop) (mu19 : Int → Nat), I18 0 ∧ ∀ (i2 : Int), I18 i2 → (if decide (i2 < (p.length : Int)) then ((0 : Int) ≤ i2 ∧ i2 < (p.length : Int)) ∧ (if !(spec_l1Num.m ((nth p i2).X)) then Q false else ((0 : Int) ≤ i2 ∧ i2 < (p.length : Int)) ∧ (if !(spec_l1Num.m ((nth p i2).Y)) then Q false else (if decide (i2 > 0) then ((0 : Int) ≤ i2 ∧ i2 < (p.length : Int)) ∧ ((p.length : Int) ≤ 9223372036854775807 → I64 (i2 - 1)) ∧ ((0 : Int) ≤ i2 - 1 ∧ i2 - 1 < (p.length : Int)) ∧ (if eqPt (nth p i2) (nth p (i2 - 1)) then Q false else (-9223372036854775808 ≤ i2) ∧ I18 (i2 + 1) ∧ mu19 (i2 + 1) < mu19 i2) else (-9223372036854775808 ≤ i2) ∧ I18 (i2 + 1) ∧ mu19 (i2 + 1) < mu19 i2))) else Q (decide ((p.length : Int) ≤ 6)))) := h
  clear h
  have hc0 := Ct.init hO
  refine Ret_enter Try.func165 rfl 45 rfl [.tmp 2] rfl rfl ?_
  refine W_seq ?_
  refine W_reg ?_
  refine L_pu (P_assign (vb false) rfl) ?_
  refine L_nil ?_
  refine W_seq ?_
  refine W_seq ?_
  refine W_reg ?_
  refine L_pu (P_assign (vi 0) rfl) ?_
  refine L_nil ?_
  refine W_block ?_
  obtain ⟨I18, mu19, hI20, H⟩ := H
  refine W_loop (α := Int) (fun (sv__ : Int) t w14 => match sv__ with | i2 => I18 i2 ∧ Has t [(0, .slice A1 n2 c3), (3, vi i2)] ∧ Ct [] w0 w14 [] O ∧ Sl kPt w14 (Fr ([] ++ O)) (.slice A1 n2 c3) p) (fun (sv__ : Int) => match sv__ with | i2 => mu19 i2) 0 ⟨hI20, ⟨rfl, rfl, trivial⟩, hc0, hp4⟩ ?_
  rintro i2 _ w14 ⟨hI20, hh22, hc16, h17⟩
  obtain ⟨u23, rfl⟩ := Has.ins hh22
  have H := H i2 hI20
  refine W_seq ?_
  refine W_seq ?_
  refine W_reg ?_
  refine L_pu (P_move (vi i2) rfl) ?_
  refine L_pu (P_move (.slice A1 n2 c3) rfl) ?_
  have hl24 := h17.le
  refine L_pu (P_len Try.underlying23 A1 n2 c3 h17.len rfl) ?_
  refine L_pu (P_cmp i2 (p.length : Int) (decide (i2 < (p.length : Int))) rfl rfl rfl) ?_
  refine L_nil ?_
  refine W_cond (decide (i2 < (p.length : Int))) rfl (fun hq25 => ?_) (fun hq25 => ?_)
  · have H := ite_t H hq25
    refine W_skip ?_
    refine W_seq ?_
    refine W_block ?_
    refine W_seq ?_
    refine W_draw (fun x => Gr w14 x none) (by kernel_rfl) (by kernel_rfl) (Gr.drew _) ?_
    refine Q_pu (P_move (.slice A1 n2 c3) rfl) ?_
    refine Q_pu (P_move (vi i2) rfl) ?_
    obtain ⟨hb26, H⟩ := H
    obtain ⟨ad27, cs28, hA29, hS32, hR30, hcl31⟩ := h17.get default (by decide) i2 hb26
    obtain rfl := kPt.op hR30
    refine Q_pu (P_ia Try.underlying23 se23 A1 ad27 n2 c3 h17.len i2 rfl hA29 rfl hb26) ?_
    refine Q_pu (P_fa fa29_0 (ad27.add (i2.toNat * 2)) ((ad27.add (i2.toNat * 2)).add 0) rfl rfl) ?_
    refine Q_pu (P_ld ag3 cQ ((ad27.add (i2.toNat * 2)).add 0) (vi ((nth p i2).X)) rfl (hcl31 0 _ rfl)) ?_
    refine Q_call go179 [vi ((nth p i2).X)] rfl (vb (spec_l1Num.m ((nth p i2).X))) (fun w g => (spec_l1Num.calls w (hc16.k0 g).ok ((nth p i2).X) _ (spec_l1Num.fn ((nth p i2).X))).mono ?_) ?_
    · rintro _ w ⟨r, rfl, rfl, g2, _⟩
      exact ⟨rfl, Gr.t0 g g2⟩
    refine Q_pu (P_not (spec_l1Num.m ((nth p i2).X)) rfl) ?_
    refine Q_pu (P_move (vb (!(spec_l1Num.m ((nth p i2).X)))) rfl) ?_
    rcases bool_or (!(spec_l1Num.m ((nth p i2).X))) with hq38 | hq38
    · have H := ite_t H hq38
      refine Q_pass (dj := 17) rfl rfl (.inl (by exact congrArg Value.bool hq38)) ?_
      refine Q_pass (dj := 17) rfl rfl (.inl (by exact congrArg Value.bool hq38)) ?_
      refine Q_pass (dj := 17) rfl rfl (.inl (by exact congrArg Value.bool hq38)) ?_
      refine Q_pass (dj := 17) rfl rfl (.inl (by exact congrArg Value.bool hq38)) ?_
      refine Q_pass (dj := 17) rfl rfl (.inl (by exact congrArg Value.bool hq38)) ?_
      refine Q_pass (dj := 17) rfl rfl (.inl (by exact congrArg Value.bool hq38)) ?_
      refine Q_pass (dj := 17) rfl rfl (.inl (by exact congrArg Value.bool hq38)) ?_
      refine Q_pu (P_pick true (vb true) (by exact congrArg Value.bool hq38) rfl) ?_
      refine Q_pu (P_move (vb true) rfl) ?_
      refine Q_pass (dj := 26) rfl rfl (.inl rfl) ?_
      refine Q_pass (dj := 26) rfl rfl (.inl rfl) ?_
      refine Q_pass (dj := 26) rfl rfl (.inl rfl) ?_
      refine Q_pass (dj := 29) rfl rfl (.inr rfl) ?_
      refine Q_pass (dj := 29) rfl rfl (.inr rfl) ?_
      refine Q_pass (dj := 29) rfl rfl (.inr rfl) ?_
      refine Q_pass (dj := 29) rfl rfl (.inr rfl) ?_
      refine Q_pass (dj := 29) rfl rfl (.inr rfl) ?_
      refine Q_pass (dj := 29) rfl rfl (.inr rfl) ?_
      refine Q_pass (dj := 29) rfl rfl (.inr rfl) ?_
      refine Q_pass (dj := 29) rfl rfl (.inr rfl) ?_
      refine Q_pass (dj := 29) rfl rfl (.inr rfl) ?_
      refine Q_pass (dj := 29) rfl rfl (.inr rfl) ?_
      refine Q_pass (dj := 26) rfl rfl (.inl rfl) ?_
      refine Q_pu (P_pick true (vb true) (by exact congrArg Value.bool rfl) rfl) ?_
      refine Q_nil fun w39 g40 => ?_
      have hc42 := hc16.k0 g40
      refine W_ct (b := true) rfl rfl ?_
      refine W_seq ?_
      refine W_reg ?_
      refine L_pu (P_assign (vb false) rfl) ?_
      refine L_nil ?_
      refine W_ret ?_
      exact ⟨[vb false], ⟨_, rfl, rfl⟩, false, rfl, H, hc42.gr.g0⟩
    · have H := ite_f H hq38
      refine Q_run (dj := 17) rfl rfl (by exact congrArg Value.bool hq38) ?_
      refine Q_pu (P_move (.slice A1 n2 c3) rfl) ?_
      refine Q_run (dj := 17) rfl rfl (by exact congrArg Value.bool hq38) ?_
      refine Q_pu (P_move (vi i2) rfl) ?_
      refine Q_run (dj := 17) rfl rfl (by exact congrArg Value.bool hq38) ?_
      obtain ⟨hb43, H⟩ := H
      obtain ⟨ad44, cs45, hA46, hS49, hR47, hcl48⟩ := h17.get default (by decide) i2 hb43
      obtain rfl := kPt.op hR47
      refine Q_pu (P_ia Try.underlying23 se23 A1 ad44 n2 c3 h17.len i2 rfl hA46 rfl hb43) ?_
      refine Q_run (dj := 17) rfl rfl (by exact congrArg Value.bool hq38) ?_
      refine Q_pu (P_fa fa29_1 (ad44.add (i2.toNat * 2)) ((ad44.add (i2.toNat * 2)).add 1) rfl rfl) ?_
      refine Q_run (dj := 17) rfl rfl (by exact congrArg Value.bool hq38) ?_
      refine Q_pu (P_ld ag3 cQ ((ad44.add (i2.toNat * 2)).add 1) (vi ((nth p i2).Y)) rfl (hcl48 1 _ rfl)) ?_
      refine Q_run (dj := 17) rfl rfl (by exact congrArg Value.bool hq38) ?_
      refine Q_call go179 [vi ((nth p i2).Y)] rfl (vb (spec_l1Num.m ((nth p i2).Y))) (fun w g => (spec_l1Num.calls w (hc16.k0 g).ok ((nth p i2).Y) _ (spec_l1Num.fn ((nth p i2).Y))).mono ?_) ?_
      · rintro _ w ⟨r, rfl, rfl, g2, _⟩
        exact ⟨rfl, Gr.t0 g g2⟩
      refine Q_run (dj := 17) rfl rfl (by exact congrArg Value.bool hq38) ?_
      refine Q_pu (P_not (spec_l1Num.m ((nth p i2).Y)) rfl) ?_
      refine Q_pu (P_pick false (vb (!(spec_l1Num.m ((nth p i2).Y)))) (by exact congrArg Value.bool hq38) rfl) ?_
      refine Q_pu (P_move (vb (!(spec_l1Num.m ((nth p i2).Y)))) rfl) ?_
      rcases bool_or (!(spec_l1Num.m ((nth p i2).Y))) with hq55 | hq55
      · have H := ite_t H hq55
        refine Q_pass (dj := 26) rfl rfl (.inl (by exact congrArg Value.bool hq55)) ?_
        refine Q_pass (dj := 26) rfl rfl (.inl (by exact congrArg Value.bool hq55)) ?_
        refine Q_pass (dj := 26) rfl rfl (.inl (by exact congrArg Value.bool hq55)) ?_
        refine Q_pass (dj := 29) rfl rfl (.inr rfl) ?_
        refine Q_pass (dj := 29) rfl rfl (.inr rfl) ?_
        refine Q_pass (dj := 29) rfl rfl (.inr rfl) ?_
        refine Q_pass (dj := 29) rfl rfl (.inr rfl) ?_
        refine Q_pass (dj := 29) rfl rfl (.inr rfl) ?_
        refine Q_pass (dj := 29) rfl rfl (.inr rfl) ?_
        refine Q_pass (dj := 29) rfl rfl (.inr rfl) ?_
        refine Q_pass (dj := 29) rfl rfl (.inr rfl) ?_
        refine Q_pass (dj := 29) rfl rfl (.inr rfl) ?_
        refine Q_pass (dj := 29) rfl rfl (.inr rfl) ?_
        refine Q_pass (dj := 26) rfl rfl (.inl (by exact congrArg Value.bool hq55)) ?_
        refine Q_pu (P_pick true (vb true) (by exact congrArg Value.bool hq55) rfl) ?_
        refine Q_nil fun w56 g57 => ?_
        have hc59 := hc16.k0 g57
        refine W_ct (b := true) rfl rfl ?_
        refine W_seq ?_
        refine W_reg ?_
        refine L_pu (P_assign (vb false) rfl) ?_
        refine L_nil ?_
        refine W_ret ?_
        exact ⟨[vb false], ⟨_, rfl, rfl⟩, false, rfl, H, hc59.gr.g0⟩
      · have H := ite_f H hq55
        refine Q_run (dj := 26) rfl rfl (by exact congrArg Value.bool hq55) ?_
        refine Q_pu (P_move (vi i2) rfl) ?_
        refine Q_run (dj := 26) rfl rfl (by exact congrArg Value.bool hq55) ?_
        refine Q_pu (P_cmp i2 0 (decide (i2 > 0)) rfl rfl rfl) ?_
        refine Q_run (dj := 26) rfl rfl (by exact congrArg Value.bool hq55) ?_
        refine Q_pu (P_move (vb (decide (i2 > 0))) rfl) ?_
        rcases bool_or (decide (i2 > 0)) with hq60 | hq60
        · have H := ite_t H hq60
          refine Q_run (dj := 29) rfl rfl (by exact congrArg Value.bool hq60) ?_
          refine Q_pu (P_move (.slice A1 n2 c3) rfl) ?_
          refine Q_run (dj := 29) rfl rfl (by exact congrArg Value.bool hq60) ?_
          refine Q_pu (P_move (vi i2) rfl) ?_
          refine Q_run (dj := 29) rfl rfl (by exact congrArg Value.bool hq60) ?_
          obtain ⟨hb61, H⟩ := H
          obtain ⟨ad62, cs63, hA64, hS67, hR65, hcl66⟩ := h17.get default (by decide) i2 hb61
          obtain rfl := kPt.op hR65
          refine Q_pu (P_ia Try.underlying23 se23 A1 ad62 n2 c3 h17.len i2 rfl hA64 rfl hb61) ?_
          refine Q_run (dj := 29) rfl rfl (by exact congrArg Value.bool hq60) ?_
          refine Q_pu (P_lda ag29 sz29 cQ (ad62.add (i2.toNat * 2)) [vi ((nth p i2).X), vi ((nth p i2).Y)] rfl rfl hcl66) ?_
          refine Q_run (dj := 29) rfl rfl (by exact congrArg Value.bool hq60) ?_
          refine Q_pu (P_move (.slice A1 n2 c3) rfl) ?_
          refine Q_run (dj := 29) rfl rfl (by exact congrArg Value.bool hq60) ?_
          refine Q_pu (P_move (vi i2) rfl) ?_
          refine Q_run (dj := 29) rfl rfl (by exact congrArg Value.bool hq60) ?_
          obtain ⟨hb68, H⟩ := H
          have hi69 := hb68 (len_le hl24)
          refine Q_pu (P_sub i2 1 rfl rfl hi69) ?_
          refine Q_run (dj := 29) rfl rfl (by exact congrArg Value.bool hq60) ?_
          obtain ⟨hb70, H⟩ := H
          obtain ⟨ad71, cs72, hA73, hS76, hR74, hcl75⟩ := h17.get default (by decide) (i2 - 1) hb70
          obtain rfl := kPt.op hR74
          refine Q_pu (P_ia Try.underlying23 se23 A1 ad71 n2 c3 h17.len (i2 - 1) rfl hA73 rfl hb70) ?_
          refine Q_run (dj := 29) rfl rfl (by exact congrArg Value.bool hq60) ?_
          refine Q_pu (P_lda ag29 sz29 cQ (ad71.add ((i2 - 1).toNat * 2)) [vi ((nth p (i2 - 1)).X), vi ((nth p (i2 - 1)).Y)] rfl rfl hcl75) ?_
          refine Q_run (dj := 29) rfl rfl (by exact congrArg Value.bool hq60) ?_
          refine Q_pu (P_eq _ _ (eqPt (nth p i2) (nth p (i2 - 1))) (qt29 (nth p i2) (nth p (i2 - 1))) rfl rfl) ?_
          refine Q_run (dj := 26) rfl rfl (by exact congrArg Value.bool hq55) ?_
          refine Q_pu (P_pick true (vb (eqPt (nth p i2) (nth p (i2 - 1)))) (by exact congrArg Value.bool hq60) rfl) ?_
          refine Q_pu (P_pick false (vb (eqPt (nth p i2) (nth p (i2 - 1)))) (by exact congrArg Value.bool hq55) rfl) ?_
          refine Q_nil fun w77 g78 => ?_
          have hc80 := hc16.k0 g78
          refine W_cond (eqPt (nth p i2) (nth p (i2 - 1))) rfl (fun hq81 => ?_) (fun hq81 => ?_)
          · have H := ite_t H hq81
            refine W_seq ?_
            refine W_reg ?_
            refine L_pu (P_assign (vb false) rfl) ?_
            refine L_nil ?_
            refine W_ret ?_
            exact ⟨[vb false], ⟨_, rfl, rfl⟩, false, rfl, H, hc80.gr.g0⟩
          · have H := ite_f H hq81
            refine W_skip ?_
            refine W_reg ?_
            refine L_pu (P_move (vi i2) rfl) ?_
            obtain ⟨hb83, H⟩ := H
            have hi82 : I64 (i2 + 1) := i64_succ (of_decide_eq_true hq25) hl24 hb83
            refine L_pu (P_add i2 1 rfl rfl hi82) ?_
            refine L_pu (P_assign (vi (i2 + 1)) rfl) ?_
            refine L_nil ?_
            obtain ⟨hI84, hm85⟩ := H
            exact ⟨i2 + 1, hm85, hI84, ⟨rfl, rfl, trivial⟩, hc80, (h17.st (.new _ g78))⟩
        · have H := ite_f H hq60
          refine Q_pass (dj := 29) rfl rfl (.inl (by exact congrArg Value.bool hq60)) ?_
          refine Q_pass (dj := 29) rfl rfl (.inl (by exact congrArg Value.bool hq60)) ?_
          refine Q_pass (dj := 29) rfl rfl (.inl (by exact congrArg Value.bool hq60)) ?_
          refine Q_pass (dj := 29) rfl rfl (.inl (by exact congrArg Value.bool hq60)) ?_
          refine Q_pass (dj := 29) rfl rfl (.inl (by exact congrArg Value.bool hq60)) ?_
          refine Q_pass (dj := 29) rfl rfl (.inl (by exact congrArg Value.bool hq60)) ?_
          refine Q_pass (dj := 29) rfl rfl (.inl (by exact congrArg Value.bool hq60)) ?_
          refine Q_pass (dj := 29) rfl rfl (.inl (by exact congrArg Value.bool hq60)) ?_
          refine Q_pass (dj := 29) rfl rfl (.inl (by exact congrArg Value.bool hq60)) ?_
          refine Q_pass (dj := 29) rfl rfl (.inl (by exact congrArg Value.bool hq60)) ?_
          refine Q_run (dj := 26) rfl rfl (by exact congrArg Value.bool hq55) ?_
          refine Q_pu (P_pick false (vb false) (by exact congrArg Value.bool hq60) rfl) ?_
          refine Q_pu (P_pick false (vb false) (by exact congrArg Value.bool hq55) rfl) ?_
          refine Q_nil fun w86 g87 => ?_
          have hc89 := hc16.k0 g87
          refine W_cf (b := false) rfl rfl ?_
          refine W_skip ?_
          refine W_reg ?_
          refine L_pu (P_move (vi i2) rfl) ?_
          obtain ⟨hb91, H⟩ := H
          have hi90 : I64 (i2 + 1) := i64_succ (of_decide_eq_true hq25) hl24 hb91
          refine L_pu (P_add i2 1 rfl rfl hi90) ?_
          refine L_pu (P_assign (vi (i2 + 1)) rfl) ?_
          refine L_nil ?_
          obtain ⟨hI92, hm93⟩ := H
          exact ⟨i2 + 1, hm93, hI92, ⟨rfl, rfl, trivial⟩, hc89, (h17.st (.new _ g87))⟩
  · have H := ite_f H hq25
    refine W_exit (xin_hit ?_)
    refine W_seq ?_
    refine W_reg ?_
    refine L_pu (P_move (.slice A1 n2 c3) rfl) ?_
    refine L_pu (P_len Try.underlying23 A1 n2 c3 h17.len rfl) ?_
    refine L_pu (P_cmp (p.length : Int) 6 (decide ((p.length : Int) ≤ 6)) rfl rfl rfl) ?_
    refine L_pu (P_assign (vb (decide ((p.length : Int) ≤ 6))) rfl) ?_
    refine L_nil ?_
    refine W_ret ?_
    exact ⟨[vb (decide ((p.length : Int) ≤ 6))], ⟨_, rfl, rfl⟩, decide ((p.length : Int) ≤ 6), rfl, H, hc16.gr.g0⟩
end Go.Proofs.Ytndjggncgpjolaa

namespace Go.Proofs.Ytndjggncgpjolaa
set_option linter.unusedVariables false
set_option linter.unusedSimpArgs false
set_option linter.unusedSectionVars false
theorem spec_l1Pts.law (p : List Pt) (Q : Bool → Prop) (hq : Q (ptsOk p && decide (p.length ≤ 6))) : spec_l1Pts.E p Q := by
  unfold spec_l1Pts.E
  unfold ptsOk at hq
  refine loop_all p.length (fun k => ptOk (nth p (k : Int)) && (decide (k = 0) || !(decide (nth p ((k : Int) - 1) = nth p (k : Int))))) (fun I mu k hk hp hn => ?_) (fun ha => ?_)
  · refine ⟨by omega, ?_⟩
    rw [spec_l1Num.m_is, spec_l1Num.m_is]
    have bad : (ptOk (nth p (k : Int)) && (decide (k = 0) || !(decide (nth p ((k : Int) - 1) = nth p (k : Int))))) = false → Q false := fun h => by
      rw [allN_false hk h, Bool.false_and] at hq; exact hq
    cases h1 : inR (nth p (k : Int)).X with
    | false => rw [if_pos (by decide)]; exact bad (by simp only [ptOk, h1, Bool.false_and])
    | true =>
      rw [if_neg (by decide)]
      refine ⟨by omega, ?_⟩
      cases h2 : inR (nth p (k : Int)).Y with
      | false => rw [if_pos (by decide)]; exact bad (by simp only [ptOk, h2, Bool.and_false, Bool.false_and])
      | true =>
        rw [if_neg (by decide)]
        have hpt : ptOk (nth p (k : Int)) = true := by simp only [ptOk, h1, h2, Bool.and_self]
        by_cases hk0 : k = 0
        · rw [if_neg (by rw [decide_eq_true_eq]; omega)]
          obtain ⟨i1, i2⟩ := hn (by rw [hpt, decide_eq_true hk0]; rfl)
          exact ⟨by omega, i1, i2⟩
        · rw [if_pos (by rw [decide_eq_true_eq]; omega)]
          refine ⟨by omega, fun _ => by unfold I64; omega, by omega, ?_⟩
          rw [eqPt_is]
          by_cases he : nth p ((k : Int) - 1) = nth p (k : Int)
          · rw [if_pos (by rw [decide_eq_true_eq]; exact he.symm)]
            exact bad (by rw [hpt, decide_eq_false hk0, decide_eq_true he]; rfl)
          · rw [if_neg (by rw [decide_eq_true_eq]; exact fun e => he e.symm)]
            obtain ⟨i1, i2⟩ := hn (by rw [hpt, decide_eq_false hk0, decide_eq_false he]; rfl)
            exact ⟨by omega, i1, i2⟩
  · rw [allN_true ha, Bool.true_and] at hq
    have e2 : decide ((p.length : Int) ≤ 6) = decide (p.length ≤ 6) := decide_eq_decide.2 (by omega)
    rw [e2]; exact hq
end Go.Proofs.Ytndjggncgpjolaa

namespace Go.Proofs.Ytndjggncgpjolaa
open Go.RowKit
set_option linter.unusedVariables false
def spec_ShapeOk.E (s : Shape) (Q : Bool → Prop) : Prop :=
  spec_l1Pts.E s.Pts (fun r => (if !r then Q false else (if s.Kind == 1 then Q ((s.Pts.length : Int) == 1) else (if s.Kind == 2 then Q (decide ((s.Pts.length : Int) ≥ 2)) else (if s.Kind == 3 then (if decide ((s.Pts.length : Int) ≥ 3) then ((0 : Int) ≤ 0 ∧ 0 < (s.Pts.length : Int)) ∧ ((s.Pts.length : Int) ≤ 9223372036854775807 → I64 ((s.Pts.length : Int) - 1)) ∧ ((0 : Int) ≤ (s.Pts.length : Int) - 1 ∧ (s.Pts.length : Int) - 1 < (s.Pts.length : Int)) ∧ Q (!(eqPt (nth s.Pts 0) (nth s.Pts ((s.Pts.length : Int) - 1)))) else Q false) else Q false)))))
set_option maxHeartbeats 8000000 in
set_option maxRecDepth 100000 in
theorem spec_ShapeOk.calls {O : Ob} (w0 : World) (hO : Ok w0 O) (s : Shape) (A1 : Option Addr) (n2 c3 : Nat) (hp4 : Sl kPt w0 (Fr O) (.slice A1 n2 c3) s.Pts) (Q : Bool → Prop) (h : spec_ShapeOk.E s Q) :
    Ret Try.prog 134 [.agg #[vi s.Kind, .slice A1 n2 c3]] w0 (fun v w' => ∃ (r0 : Bool), v = vb r0 ∧ Q r0 ∧ Gr w0 w' none) := by
  have H : spec_l1Pts.E s.Pts (fun r => (if !r then Q false else (if s.Kind == 1 then Q ((s.Pts.length : Int) == 1) else (if s.Kind == 2 then Q (decide ((s.Pts.length : Int) ≥ 2)) else (if s.Kind == 3 then (if decide ((s.Pts.length : Int) ≥ 3) then ((0 : Int) ≤ 0 ∧ 0 < (s.Pts.length : Int)) ∧ ((s.Pts.length : Int) ≤ 9223372036854775807 → I64 ((s.Pts.length : Int) - 1)) ∧ ((0 : Int) ≤ (s.Pts.length : Int) - 1 ∧ (s.Pts.length : Int) - 1 < (s.Pts.length : Int)) ∧ Q (!(eqPt (nth s.Pts 0) (nth s.Pts ((s.Pts.length : Int) - 1)))) else Q false) else Q false))))) := h
  clear h
  have hc0 := Ct.init hO
  refine Ret_enter Try.func134 rfl 38 rfl [.tmp 2] rfl rfl ?_
  refine W_seq ?_
  refine W_reg ?_
  refine L_box [vi s.Kind, .slice A1 n2 c3] rfl fun w6 b7 hl9 hu10 g8 hx11 => ?_
  have h13 := Fb.mk hc0.ok hl9 hx11
  have hc14 := hc0.k0 g8
  refine L_pu (P_assign (vb false) rfl) ?_
  refine L_nil ?_
  refine W_seq ?_
  refine W_reg ?_
  refine L_pu (P_fa fa68_1 ⟨b7, 0, none⟩ ⟨b7, 1, none⟩ rfl rfl) ?_
  refine L_pu (P_ld ag23 cL ⟨b7, 1, none⟩ (.slice A1 n2 c3) rfl (h13.cell rfl)) ?_
  have hl15 := (hp4.st hc14.st).le
  refine L_pu (P_len Try.underlying23 A1 n2 c3 (hp4.st hc14.st).len rfl) ?_
  refine L_pu (P_assign (vi (s.Pts.length : Int)) rfl) ?_
  refine L_nil ?_
  refine W_seq ?_
  refine W_seq ?_
  refine W_reg ?_
  refine L_pu (P_fa fa68_1 ⟨b7, 0, none⟩ ⟨b7, 1, none⟩ rfl rfl) ?_
  refine L_pu (P_ld ag23 cL ⟨b7, 1, none⟩ (.slice A1 n2 c3) rfl (h13.cell rfl)) ?_
  refine L_call go165 [.slice A1 n2 c3] rfl ((spec_l1Pts.calls w6 hc14.ok s.Pts A1 n2 c3 (hp4.st hc14.st) _ H).mono ?_)
  rintro _ w16 ⟨r, rfl, H, g17⟩
  have hc21 := hc14.k0 g17
  refine L_pu (P_not r rfl) ?_
  refine L_nil ?_
  refine W_cond (!r) rfl (fun hq22 => ?_) (fun hq22 => ?_)
  · have H := ite_t H hq22
    refine W_seq ?_
    refine W_reg ?_
    refine L_pu (P_assign (vb false) rfl) ?_
    refine L_nil ?_
    refine W_ret ?_
    exact ⟨[vb false], ⟨_, rfl, rfl⟩, false, rfl, H, hc21.gr.g0⟩
  · have H := ite_f H hq22
    refine W_skip ?_
    refine W_seq ?_
    refine W_seq ?_
    refine W_reg ?_
    refine L_pu (P_fa fa68_0 ⟨b7, 0, none⟩ ⟨b7, 0, none⟩ rfl rfl) ?_
    have h23 := (h13.st (.new _ g17))
    refine L_pu (P_ld ag3 cL ⟨b7, 0, none⟩ (vi s.Kind) rfl (h23.cell rfl)) ?_
    refine L_nil ?_
    refine W_block ?_
    refine W_seq ?_
    refine W_reg ?_
    refine L_pu (P_cmp s.Kind 1 (s.Kind == 1) rfl rfl rfl) ?_
    refine L_pu (P_assign (vb (s.Kind == 1)) rfl) ?_
    refine L_nil ?_
    refine W_cond (s.Kind == 1) rfl (fun hq24 => ?_) (fun hq24 => ?_)
    · have H := ite_t H hq24
      refine W_seq ?_
      refine W_reg ?_
      refine L_pu (P_move (vi (s.Pts.length : Int)) rfl) ?_
      refine L_pu (P_cmp (s.Pts.length : Int) 1 ((s.Pts.length : Int) == 1) rfl rfl rfl) ?_
      refine L_pu (P_assign (vb ((s.Pts.length : Int) == 1)) rfl) ?_
      refine L_nil ?_
      refine W_ret ?_
      exact ⟨[vb ((s.Pts.length : Int) == 1)], ⟨_, rfl, rfl⟩, (s.Pts.length : Int) == 1, rfl, H, hc21.gr.g0⟩
    · have H := ite_f H hq24
      refine W_seq ?_
      refine W_reg ?_
      refine L_pu (P_cmp s.Kind 2 (s.Kind == 2) rfl rfl rfl) ?_
      refine L_pu (P_assign (vb (s.Kind == 2)) rfl) ?_
      refine L_nil ?_
      refine W_cond (s.Kind == 2) rfl (fun hq25 => ?_) (fun hq25 => ?_)
      · have H := ite_t H hq25
        refine W_seq ?_
        refine W_reg ?_
        refine L_pu (P_move (vi (s.Pts.length : Int)) rfl) ?_
        refine L_pu (P_cmp (s.Pts.length : Int) 2 (decide ((s.Pts.length : Int) ≥ 2)) rfl rfl rfl) ?_
        refine L_pu (P_assign (vb (decide ((s.Pts.length : Int) ≥ 2))) rfl) ?_
        refine L_nil ?_
        refine W_ret ?_
        exact ⟨[vb (decide ((s.Pts.length : Int) ≥ 2))], ⟨_, rfl, rfl⟩, decide ((s.Pts.length : Int) ≥ 2), rfl, H, hc21.gr.g0⟩
      · have H := ite_f H hq25
        refine W_seq ?_
        refine W_reg ?_
        refine L_pu (P_cmp s.Kind 3 (s.Kind == 3) rfl rfl rfl) ?_
        refine L_pu (P_assign (vb (s.Kind == 3)) rfl) ?_
        refine L_nil ?_
        refine W_cond (s.Kind == 3) rfl (fun hq26 => ?_) (fun hq26 => ?_)
        · have H := ite_t H hq26
          refine W_seq ?_
          refine W_draw (fun x => Gr w16 x none) (by kernel_rfl) (by kernel_rfl) (Gr.drew _) ?_
          refine Q_pu (P_move (vi (s.Pts.length : Int)) rfl) ?_
          refine Q_pu (P_cmp (s.Pts.length : Int) 3 (decide ((s.Pts.length : Int) ≥ 3)) rfl rfl rfl) ?_
          refine Q_pu (P_move (vb (decide ((s.Pts.length : Int) ≥ 3))) rfl) ?_
          rcases bool_or (decide ((s.Pts.length : Int) ≥ 3)) with hq27 | hq27
          · have H := ite_t H hq27
            refine Q_run (dj := 25) rfl rfl (by exact congrArg Value.bool hq27) ?_
            refine Q_pu (P_fa fa68_1 ⟨b7, 0, none⟩ ⟨b7, 1, none⟩ rfl rfl) ?_
            refine Q_run (dj := 25) rfl rfl (by exact congrArg Value.bool hq27) ?_
            refine Q_pu (P_ld ag23 cQ ⟨b7, 1, none⟩ (.slice A1 n2 c3) rfl (h23.cell rfl)) ?_
            refine Q_run (dj := 25) rfl rfl (by exact congrArg Value.bool hq27) ?_
            obtain ⟨hb28, H⟩ := H
            obtain ⟨ad29, cs30, hA31, hS34, hR32, hcl33⟩ := (hp4.st hc21.st).get default (by decide) 0 hb28
            obtain rfl := kPt.op hR32
            refine Q_pu (P_ia Try.underlying23 se23 A1 ad29 n2 c3 (hp4.st hc21.st).len 0 rfl hA31 rfl hb28) ?_
            refine Q_run (dj := 25) rfl rfl (by exact congrArg Value.bool hq27) ?_
            refine Q_pu (P_lda ag29 sz29 cQ (ad29.add ((0 : Int).toNat * 2)) [vi ((nth s.Pts 0).X), vi ((nth s.Pts 0).Y)] rfl rfl hcl33) ?_
            refine Q_run (dj := 25) rfl rfl (by exact congrArg Value.bool hq27) ?_
            refine Q_pu (P_fa fa68_1 ⟨b7, 0, none⟩ ⟨b7, 1, none⟩ rfl rfl) ?_
            refine Q_run (dj := 25) rfl rfl (by exact congrArg Value.bool hq27) ?_
            refine Q_pu (P_ld ag23 cQ ⟨b7, 1, none⟩ (.slice A1 n2 c3) rfl (h23.cell rfl)) ?_
            refine Q_run (dj := 25) rfl rfl (by exact congrArg Value.bool hq27) ?_
            refine Q_pu (P_move (vi (s.Pts.length : Int)) rfl) ?_
            refine Q_run (dj := 25) rfl rfl (by exact congrArg Value.bool hq27) ?_
            obtain ⟨hb35, H⟩ := H
            have hi36 := hb35 (len_le hl15)
            refine Q_pu (P_sub (s.Pts.length : Int) 1 rfl rfl hi36) ?_
            refine Q_run (dj := 25) rfl rfl (by exact congrArg Value.bool hq27) ?_
            obtain ⟨hb37, H⟩ := H
            obtain ⟨ad38, cs39, hA40, hS43, hR41, hcl42⟩ := (hp4.st hc21.st).get default (by decide) ((s.Pts.length : Int) - 1) hb37
            obtain rfl := kPt.op hR41
            refine Q_pu (P_ia Try.underlying23 se23 A1 ad38 n2 c3 (hp4.st hc21.st).len ((s.Pts.length : Int) - 1) rfl hA40 rfl hb37) ?_
            refine Q_run (dj := 25) rfl rfl (by exact congrArg Value.bool hq27) ?_
            refine Q_pu (P_lda ag29 sz29 cQ (ad38.add (((s.Pts.length : Int) - 1).toNat * 2)) [vi ((nth s.Pts ((s.Pts.length : Int) - 1)).X), vi ((nth s.Pts ((s.Pts.length : Int) - 1)).Y)] rfl rfl hcl42) ?_
            refine Q_run (dj := 25) rfl rfl (by exact congrArg Value.bool hq27) ?_
            refine Q_pu (P_ne _ _ (eqPt (nth s.Pts 0) (nth s.Pts ((s.Pts.length : Int) - 1))) (qt29 (nth s.Pts 0) (nth s.Pts ((s.Pts.length : Int) - 1))) rfl rfl) ?_
            refine Q_pu (P_pick true (vb (!(eqPt (nth s.Pts 0) (nth s.Pts ((s.Pts.length : Int) - 1))))) (by exact congrArg Value.bool hq27) rfl) ?_
            refine Q_pu (P_assign (vb (!(eqPt (nth s.Pts 0) (nth s.Pts ((s.Pts.length : Int) - 1))))) rfl) ?_
            refine Q_nil fun w44 g45 => ?_
            have hc47 := hc21.k0 g45
            refine W_ret ?_
            exact ⟨[vb (!(eqPt (nth s.Pts 0) (nth s.Pts ((s.Pts.length : Int) - 1))))], ⟨_, rfl, rfl⟩, !(eqPt (nth s.Pts 0) (nth s.Pts ((s.Pts.length : Int) - 1))), rfl, H, hc47.gr.g0⟩
          · have H := ite_f H hq27
            refine Q_pass (dj := 25) rfl rfl (.inl (by exact congrArg Value.bool hq27)) ?_
            refine Q_pass (dj := 25) rfl rfl (.inl (by exact congrArg Value.bool hq27)) ?_
            refine Q_pass (dj := 25) rfl rfl (.inl (by exact congrArg Value.bool hq27)) ?_
            refine Q_pass (dj := 25) rfl rfl (.inl (by exact congrArg Value.bool hq27)) ?_
            refine Q_pass (dj := 25) rfl rfl (.inl (by exact congrArg Value.bool hq27)) ?_
            refine Q_pass (dj := 25) rfl rfl (.inl (by exact congrArg Value.bool hq27)) ?_
            refine Q_pass (dj := 25) rfl rfl (.inl (by exact congrArg Value.bool hq27)) ?_
            refine Q_pass (dj := 25) rfl rfl (.inl (by exact congrArg Value.bool hq27)) ?_
            refine Q_pass (dj := 25) rfl rfl (.inl (by exact congrArg Value.bool hq27)) ?_
            refine Q_pass (dj := 25) rfl rfl (.inl (by exact congrArg Value.bool hq27)) ?_
            refine Q_pass (dj := 25) rfl rfl (.inl (by exact congrArg Value.bool hq27)) ?_
            refine Q_pu (P_pick false (vb false) (by exact congrArg Value.bool hq27) rfl) ?_
            refine Q_pu (P_assign (vb false) rfl) ?_
            refine Q_nil fun w48 g49 => ?_
            have hc51 := hc21.k0 g49
            refine W_ret ?_
            exact ⟨[vb false], ⟨_, rfl, rfl⟩, false, rfl, H, hc51.gr.g0⟩
        · have H := ite_f H hq26
          refine W_skip ?_
          refine W_seq ?_
          refine W_reg ?_
          refine L_pu (P_assign (vb false) rfl) ?_
          refine L_nil ?_
          refine W_ret ?_
          exact ⟨[vb false], ⟨_, rfl, rfl⟩, false, rfl, H, hc21.gr.g0⟩
end Go.Proofs.Ytndjggncgpjolaa

namespace Go.Proofs.Ytndjggncgpjolaa
set_option linter.unusedVariables false
set_option linter.unusedSimpArgs false
set_option linter.unusedSectionVars false
theorem spec_ShapeOk.law (s : Shape) (Q : Bool → Prop) (hq : Q (shapeOk s)) : spec_ShapeOk.E s Q := by
  unfold spec_ShapeOk.E
  unfold shapeOk at hq
  refine spec_l1Pts.law _ _ ?_
  cases h1 : ptsOk s.Pts with
  | false => rw [h1, Bool.false_and] at hq; rw [Bool.false_and, if_pos (by decide)]; exact hq
  | true =>
    rw [h1, Bool.true_and] at hq
    rw [Bool.true_and]
    unfold kindOk at hq
    by_cases h6 : s.Pts.length ≤ 6
    · rw [decide_eq_true h6, if_neg (by decide)]
      by_cases k1 : s.Kind = 1
      · rw [if_pos k1] at hq
        rw [if_pos (by rw [beq_iff_eq]; exact k1)]
        have : ((s.Pts.length : Int) == 1) = decide (s.Pts.length = 1) := by rw [Bool.eq_iff_iff, beq_iff_eq, decide_eq_true_eq]; omega
        rw [this]; exact hq
      rw [if_neg k1] at hq
      rw [if_neg (by rw [beq_iff_eq]; exact k1)]
      by_cases k2 : s.Kind = 2
      · rw [if_pos k2, decide_eq_true h6, Bool.and_true] at hq
        rw [if_pos (by rw [beq_iff_eq]; exact k2)]
        have : decide ((s.Pts.length : Int) ≥ 2) = decide (2 ≤ s.Pts.length) := decide_eq_decide.2 (by omega)
        rw [this]; exact hq
      rw [if_neg k2] at hq
      rw [if_neg (by rw [beq_iff_eq]; exact k2)]
      by_cases k3 : s.Kind = 3
      · rw [if_pos k3, decide_eq_true h6, Bool.and_true] at hq
        rw [if_pos (by rw [beq_iff_eq]; exact k3)]
        by_cases h3 : 3 ≤ s.Pts.length
        · rw [decide_eq_true h3, Bool.true_and] at hq
          rw [if_pos (by rw [decide_eq_true_eq]; omega), eqPt_is]
          exact ⟨by omega, fun _ => by unfold I64; omega, by omega, hq⟩
        · rw [decide_eq_false h3, Bool.false_and] at hq
          rw [if_neg (by rw [decide_eq_true_eq]; omega)]; exact hq
      · rw [if_neg k3] at hq
        rw [if_neg (by rw [beq_iff_eq]; exact k3)]; exact hq
    · rw [decide_eq_false h6, if_pos (by decide)]
      have : (if s.Kind = 1 then decide (s.Pts.length = 1) else if s.Kind = 2 then decide (2 ≤ s.Pts.length) && decide (s.Pts.length ≤ 6)
  else if s.Kind = 3 then decide (3 ≤ s.Pts.length) && decide (s.Pts.length ≤ 6) && !(decide (nth s.Pts 0 = nth s.Pts ((s.Pts.length : Int) - 1))) else false) = false := by
        rw [decide_eq_false h6, decide_eq_false (show ¬ s.Pts.length = 1 by omega)]
        simp
      rw [this] at hq; exact hq
end Go.Proofs.Ytndjggncgpjolaa
