/- It is proved here that the law FnExactRepoNew of the given program holds whatever it is handed: the walks through the code, the plain laws and the row, in this order.
   Conditions: none. -/
import Derived.Below
import Derived.ChangeArms
import Derived.ChangeOld
import Derived.ChangeSlices
import Derived.DataReads
import Derived.Deep.Quiet
import Derived.KernelRfl
import Derived.Laws.Build
import Derived.Laws.IdiomStrings
import Derived.Laws.OwnMore
import Derived.Laws.Slices
import Derived.Laws.StructEq
import Derived.OpenShut
import Derived.ProofKit
import Derived.ShutString
import Derived.SizedLaws
import Derived.StillTail
import Derived.Test.YtndjggncgpjolaaProg
import Derived.Test.YtndjggncgpjolaaRows
import Derived.WalkKit
import Derived.Test.YtndjggncgpjolaaCExactRepoNewa
namespace Go.Proofs.Ytndjggncgpjolaa
open Go.RowKit
structure l12Rd where
  b : List UInt8
  p : Int
  deriving Inhabited, DecidableEq
def kl12Rd : Kd l12Rd := Kd.iso (Kd.pair (Kd.sl Kd.byte) (Kd.int .i64)) (fun x => (x.b, x.p))
theorem kl12Rd.mk (w : World) (S : Sp) (x : l12Rd) {A0 : Option Addr} {n0 c0 : Nat} (h0 : Sl Kd.byte w S (.slice A0 n0 c0) x.b) : kl12Rd.R w S x [.slice A0 n0 c0, vi x.p] := ⟨[.slice A0 n0 c0], [vi x.p], rfl, ⟨_, rfl, h0⟩, rfl⟩
theorem kl12Rd.op {w : World} {S : Sp} {x : l12Rd} {cs : List Value} (h : kl12Rd.R w S x cs) : ∃ A0 n0 c0, cs = [.slice A0 n0 c0, vi x.p] ∧ Sl Kd.byte w S (.slice A0 n0 c0) x.b := by
  obtain ⟨_, _, rfl, ⟨_, rfl, h1⟩, rfl⟩ := h
  obtain ⟨A901, c901, rfl⟩ := h1.shape
  exact ⟨A901, _, c901, rfl, h1⟩
structure Pt where
  X : Int
  Y : Int
  deriving Inhabited, DecidableEq
def kPt : Kd Pt := Kd.iso (Kd.pair (Kd.int .i64) (Kd.int .i64)) (fun x => (x.X, x.Y))
theorem kPt_flat : kPt.Flat := iso_flat (pair_flat (int_flat _) (int_flat _)) _
theorem kPt.mk (w : World) (S : Sp) (x : Pt) : kPt.R w S x [vi x.X, vi x.Y] := ⟨[vi x.X], [vi x.Y], rfl, rfl, rfl⟩
theorem kPt.op {w : World} {S : Sp} {x : Pt} {cs : List Value} (h : kPt.R w S x cs) : cs = [vi x.X, vi x.Y] := by
  obtain ⟨_, _, rfl, rfl, rfl⟩ := h
  exact rfl
structure Pair where
  A : Int
  B : Int
  deriving Inhabited, DecidableEq
def kPair : Kd Pair := Kd.iso (Kd.pair (Kd.int .i64) (Kd.int .i64)) (fun x => (x.A, x.B))
theorem kPair_flat : kPair.Flat := iso_flat (pair_flat (int_flat _) (int_flat _)) _
theorem kPair.mk (w : World) (S : Sp) (x : Pair) : kPair.R w S x [vi x.A, vi x.B] := ⟨[vi x.A], [vi x.B], rfl, rfl, rfl⟩
theorem kPair.op {w : World} {S : Sp} {x : Pair} {cs : List Value} (h : kPair.R w S x cs) : cs = [vi x.A, vi x.B] := by
  obtain ⟨_, _, rfl, rfl, rfl⟩ := h
  exact rfl
structure Shape where
  Kind : Int
  Pts : List Pt
  deriving Inhabited, DecidableEq
def kShape : Kd Shape := Kd.iso (Kd.pair (Kd.int .i64) (Kd.sl kPt)) (fun x => (x.Kind, x.Pts))
theorem kShape.mk (w : World) (S : Sp) (x : Shape) {A1 : Option Addr} {n1 c1 : Nat} (h1 : Sl kPt w S (.slice A1 n1 c1) x.Pts) : kShape.R w S x [vi x.Kind, .slice A1 n1 c1] := ⟨[vi x.Kind], [.slice A1 n1 c1], rfl, rfl, ⟨_, rfl, h1⟩⟩
theorem kShape.op {w : World} {S : Sp} {x : Shape} {cs : List Value} (h : kShape.R w S x cs) : ∃ A1 n1 c1, cs = [vi x.Kind, .slice A1 n1 c1] ∧ Sl kPt w S (.slice A1 n1 c1) x.Pts := by
  obtain ⟨_, _, rfl, rfl, ⟨_, rfl, h1⟩⟩ := h
  obtain ⟨A901, c901, rfl⟩ := h1.shape
  exact ⟨A901, _, c901, rfl, h1⟩
structure Tag where
  Key : Str
  Val : Str
  deriving Inhabited, DecidableEq
def kTag : Kd Tag := Kd.iso (Kd.pair Kd.str Kd.str) (fun x => (x.Key, x.Val))
theorem kTag_flat : kTag.Flat := iso_flat (pair_flat str_flat str_flat) _
theorem kTag.mk (w : World) (S : Sp) (x : Tag) (h0 : Lim x.Key) (h1 : Lim x.Val) : kTag.R w S x [vs x.Key, vs x.Val] := ⟨[vs x.Key], [vs x.Val], rfl, ⟨rfl, h0⟩, ⟨rfl, h1⟩⟩
theorem kTag.op {w : World} {S : Sp} {x : Tag} {cs : List Value} (h : kTag.R w S x cs) : cs = [vs x.Key, vs x.Val] ∧ Lim x.Key ∧ Lim x.Val := by
  obtain ⟨_, _, rfl, ⟨rfl, h1⟩, ⟨rfl, h2⟩⟩ := h
  exact ⟨rfl, h1, h2⟩
structure Feat where
  Id : Str
  Shape : Shape
  Tags : List Tag
  deriving Inhabited, DecidableEq
def kFeat : Kd Feat := Kd.iso (Kd.pair Kd.str (Kd.pair kShape (Kd.sl kTag))) (fun x => (x.Id, x.Shape, x.Tags))
theorem kFeat.mk (w : World) (S : Sp) (x : Feat) {A2 : Option Addr} {n2 c2 : Nat} {A3 : Option Addr} {n3 c3 : Nat} (h0 : Lim x.Id) (h2 : Sl kPt w S (.slice A2 n2 c2) x.Shape.Pts) (h3 : Sl kTag w S (.slice A3 n3 c3) x.Tags) : kFeat.R w S x [vs x.Id, vi x.Shape.Kind, .slice A2 n2 c2, .slice A3 n3 c3] := ⟨[vs x.Id], (([vi x.Shape.Kind] ++ [.slice A2 n2 c2]) ++ [.slice A3 n3 c3]), rfl, ⟨rfl, h0⟩, ⟨([vi x.Shape.Kind] ++ [.slice A2 n2 c2]), [.slice A3 n3 c3], rfl, ⟨[vi x.Shape.Kind], [.slice A2 n2 c2], rfl, rfl, ⟨_, rfl, h2⟩⟩, ⟨_, rfl, h3⟩⟩⟩
theorem kFeat.op {w : World} {S : Sp} {x : Feat} {cs : List Value} (h : kFeat.R w S x cs) : ∃ A2 n2 c2 A3 n3 c3, cs = [vs x.Id, vi x.Shape.Kind, .slice A2 n2 c2, .slice A3 n3 c3] ∧ Lim x.Id ∧ Sl kPt w S (.slice A2 n2 c2) x.Shape.Pts ∧ Sl kTag w S (.slice A3 n3 c3) x.Tags := by
  obtain ⟨_, _, rfl, ⟨rfl, h1⟩, ⟨_, _, rfl, ⟨_, _, rfl, rfl, ⟨_, rfl, h2⟩⟩, ⟨_, rfl, h3⟩⟩⟩ := h
  obtain ⟨A901, c901, rfl⟩ := h2.shape
  obtain ⟨A902, c902, rfl⟩ := h3.shape
  exact ⟨A901, _, c901, A902, _, c902, rfl, h1, h2, h3⟩
structure Commit where
  Up : List Int
  Sheet : List Feat
  Note : Str
  deriving Inhabited, DecidableEq
def kCommit : Kd Commit := Kd.iso (Kd.pair (Kd.sl (Kd.int .i64)) (Kd.pair (Kd.sl kFeat) Kd.str)) (fun x => (x.Up, x.Sheet, x.Note))
theorem kCommit.mk (w : World) (S : Sp) (x : Commit) {A0 : Option Addr} {n0 c0 : Nat} {A1 : Option Addr} {n1 c1 : Nat} (h0 : Sl (Kd.int .i64) w S (.slice A0 n0 c0) x.Up) (h1 : Sl kFeat w S (.slice A1 n1 c1) x.Sheet) (h2 : Lim x.Note) : kCommit.R w S x [.slice A0 n0 c0, .slice A1 n1 c1, vs x.Note] := ⟨[.slice A0 n0 c0], ([.slice A1 n1 c1] ++ [vs x.Note]), rfl, ⟨_, rfl, h0⟩, ⟨[.slice A1 n1 c1], [vs x.Note], rfl, ⟨_, rfl, h1⟩, ⟨rfl, h2⟩⟩⟩
theorem kCommit.op {w : World} {S : Sp} {x : Commit} {cs : List Value} (h : kCommit.R w S x cs) : ∃ A0 n0 c0 A1 n1 c1, cs = [.slice A0 n0 c0, .slice A1 n1 c1, vs x.Note] ∧ Sl (Kd.int .i64) w S (.slice A0 n0 c0) x.Up ∧ Sl kFeat w S (.slice A1 n1 c1) x.Sheet ∧ Lim x.Note := by
  obtain ⟨_, _, rfl, ⟨_, rfl, h1⟩, ⟨_, _, rfl, ⟨_, rfl, h2⟩, ⟨rfl, h3⟩⟩⟩ := h
  obtain ⟨A901, c901, rfl⟩ := h1.shape
  obtain ⟨A902, c902, rfl⟩ := h2.shape
  exact ⟨A901, _, c901, A902, _, c902, rfl, h1, h2, h3⟩
structure Head where
  Name : Str
  At : Int
  deriving Inhabited, DecidableEq
def kHead : Kd Head := Kd.iso (Kd.pair Kd.str (Kd.int .i64)) (fun x => (x.Name, x.At))
theorem kHead_flat : kHead.Flat := iso_flat (pair_flat str_flat (int_flat _)) _
theorem kHead.mk (w : World) (S : Sp) (x : Head) (h0 : Lim x.Name) : kHead.R w S x [vs x.Name, vi x.At] := ⟨[vs x.Name], [vi x.At], rfl, ⟨rfl, h0⟩, rfl⟩
theorem kHead.op {w : World} {S : Sp} {x : Head} {cs : List Value} (h : kHead.R w S x cs) : cs = [vs x.Name, vi x.At] ∧ Lim x.Name := by
  obtain ⟨_, _, rfl, ⟨rfl, h1⟩, rfl⟩ := h
  exact ⟨rfl, h1⟩
structure Repo where
  Commits : List Commit
  Heads : List Head
  deriving Inhabited, DecidableEq
def kRepo : Kd Repo := Kd.iso (Kd.pair (Kd.sl kCommit) (Kd.sl kHead)) (fun x => (x.Commits, x.Heads))
theorem kRepo.mk (w : World) (S : Sp) (x : Repo) {A0 : Option Addr} {n0 c0 : Nat} {A1 : Option Addr} {n1 c1 : Nat} (h0 : Sl kCommit w S (.slice A0 n0 c0) x.Commits) (h1 : Sl kHead w S (.slice A1 n1 c1) x.Heads) : kRepo.R w S x [.slice A0 n0 c0, .slice A1 n1 c1] := ⟨[.slice A0 n0 c0], [.slice A1 n1 c1], rfl, ⟨_, rfl, h0⟩, ⟨_, rfl, h1⟩⟩
theorem kRepo.op {w : World} {S : Sp} {x : Repo} {cs : List Value} (h : kRepo.R w S x cs) : ∃ A0 n0 c0 A1 n1 c1, cs = [.slice A0 n0 c0, .slice A1 n1 c1] ∧ Sl kCommit w S (.slice A0 n0 c0) x.Commits ∧ Sl kHead w S (.slice A1 n1 c1) x.Heads := by
  obtain ⟨_, _, rfl, ⟨_, rfl, h1⟩, ⟨_, rfl, h2⟩⟩ := h
  obtain ⟨A901, c901, rfl⟩ := h1.shape
  obtain ⟨A902, c902, rfl⟩ := h2.shape
  exact ⟨A901, _, c901, A902, _, c902, rfl, h1, h2⟩
structure Change where
  Id : Str
  Had : Bool
  Was : Feat
  Has : Bool
  Now : Feat
  deriving Inhabited, DecidableEq
def kChange : Kd Change := Kd.iso (Kd.pair Kd.str (Kd.pair Kd.bool (Kd.pair kFeat (Kd.pair Kd.bool kFeat)))) (fun x => (x.Id, x.Had, x.Was, x.Has, x.Now))
theorem kChange.mk (w : World) (S : Sp) (x : Change) {A4 : Option Addr} {n4 c4 : Nat} {A5 : Option Addr} {n5 c5 : Nat} {A9 : Option Addr} {n9 c9 : Nat} {A10 : Option Addr} {n10 c10 : Nat} (h0 : Lim x.Id) (h2 : Lim x.Was.Id) (h4 : Sl kPt w S (.slice A4 n4 c4) x.Was.Shape.Pts) (h5 : Sl kTag w S (.slice A5 n5 c5) x.Was.Tags) (h7 : Lim x.Now.Id) (h9 : Sl kPt w S (.slice A9 n9 c9) x.Now.Shape.Pts) (h10 : Sl kTag w S (.slice A10 n10 c10) x.Now.Tags) : kChange.R w S x [vs x.Id, vb x.Had, vs x.Was.Id, vi x.Was.Shape.Kind, .slice A4 n4 c4, .slice A5 n5 c5, vb x.Has, vs x.Now.Id, vi x.Now.Shape.Kind, .slice A9 n9 c9, .slice A10 n10 c10] := ⟨[vs x.Id], ([vb x.Had] ++ (([vs x.Was.Id] ++ (([vi x.Was.Shape.Kind] ++ [.slice A4 n4 c4]) ++ [.slice A5 n5 c5])) ++ ([vb x.Has] ++ ([vs x.Now.Id] ++ (([vi x.Now.Shape.Kind] ++ [.slice A9 n9 c9]) ++ [.slice A10 n10 c10]))))), rfl, ⟨rfl, h0⟩, ⟨[vb x.Had], (([vs x.Was.Id] ++ (([vi x.Was.Shape.Kind] ++ [.slice A4 n4 c4]) ++ [.slice A5 n5 c5])) ++ ([vb x.Has] ++ ([vs x.Now.Id] ++ (([vi x.Now.Shape.Kind] ++ [.slice A9 n9 c9]) ++ [.slice A10 n10 c10])))), rfl, rfl, ⟨([vs x.Was.Id] ++ (([vi x.Was.Shape.Kind] ++ [.slice A4 n4 c4]) ++ [.slice A5 n5 c5])), ([vb x.Has] ++ ([vs x.Now.Id] ++ (([vi x.Now.Shape.Kind] ++ [.slice A9 n9 c9]) ++ [.slice A10 n10 c10]))), rfl, ⟨[vs x.Was.Id], (([vi x.Was.Shape.Kind] ++ [.slice A4 n4 c4]) ++ [.slice A5 n5 c5]), rfl, ⟨rfl, h2⟩, ⟨([vi x.Was.Shape.Kind] ++ [.slice A4 n4 c4]), [.slice A5 n5 c5], rfl, ⟨[vi x.Was.Shape.Kind], [.slice A4 n4 c4], rfl, rfl, ⟨_, rfl, h4⟩⟩, ⟨_, rfl, h5⟩⟩⟩, ⟨[vb x.Has], ([vs x.Now.Id] ++ (([vi x.Now.Shape.Kind] ++ [.slice A9 n9 c9]) ++ [.slice A10 n10 c10])), rfl, rfl, ⟨[vs x.Now.Id], (([vi x.Now.Shape.Kind] ++ [.slice A9 n9 c9]) ++ [.slice A10 n10 c10]), rfl, ⟨rfl, h7⟩, ⟨([vi x.Now.Shape.Kind] ++ [.slice A9 n9 c9]), [.slice A10 n10 c10], rfl, ⟨[vi x.Now.Shape.Kind], [.slice A9 n9 c9], rfl, rfl, ⟨_, rfl, h9⟩⟩, ⟨_, rfl, h10⟩⟩⟩⟩⟩⟩⟩
theorem kChange.op {w : World} {S : Sp} {x : Change} {cs : List Value} (h : kChange.R w S x cs) : ∃ A4 n4 c4 A5 n5 c5 A9 n9 c9 A10 n10 c10, cs = [vs x.Id, vb x.Had, vs x.Was.Id, vi x.Was.Shape.Kind, .slice A4 n4 c4, .slice A5 n5 c5, vb x.Has, vs x.Now.Id, vi x.Now.Shape.Kind, .slice A9 n9 c9, .slice A10 n10 c10] ∧ Lim x.Id ∧ Lim x.Was.Id ∧ Sl kPt w S (.slice A4 n4 c4) x.Was.Shape.Pts ∧ Sl kTag w S (.slice A5 n5 c5) x.Was.Tags ∧ Lim x.Now.Id ∧ Sl kPt w S (.slice A9 n9 c9) x.Now.Shape.Pts ∧ Sl kTag w S (.slice A10 n10 c10) x.Now.Tags := by
  obtain ⟨_, _, rfl, ⟨rfl, h1⟩, ⟨_, _, rfl, rfl, ⟨_, _, rfl, ⟨_, _, rfl, ⟨rfl, h2⟩, ⟨_, _, rfl, ⟨_, _, rfl, rfl, ⟨_, rfl, h3⟩⟩, ⟨_, rfl, h4⟩⟩⟩, ⟨_, _, rfl, rfl, ⟨_, _, rfl, ⟨rfl, h5⟩, ⟨_, _, rfl, ⟨_, _, rfl, rfl, ⟨_, rfl, h6⟩⟩, ⟨_, rfl, h7⟩⟩⟩⟩⟩⟩⟩ := h
  obtain ⟨A901, c901, rfl⟩ := h3.shape
  obtain ⟨A902, c902, rfl⟩ := h4.shape
  obtain ⟨A903, c903, rfl⟩ := h6.shape
  obtain ⟨A904, c904, rfl⟩ := h7.shape
  exact ⟨A901, _, c901, A902, _, c902, A903, _, c903, A904, _, c904, rfl, h1, h2, h3, h4, h5, h6, h7⟩
structure value where
  has : Bool
  val : Str
  deriving Inhabited, DecidableEq
def kvalue : Kd value := Kd.iso (Kd.pair Kd.bool Kd.str) (fun x => (x.has, x.val))
theorem kvalue_flat : kvalue.Flat := iso_flat (pair_flat bool_flat str_flat) _
theorem kvalue.mk (w : World) (S : Sp) (x : value) (h1 : Lim x.val) : kvalue.R w S x [vb x.has, vs x.val] := ⟨[vb x.has], [vs x.val], rfl, rfl, ⟨rfl, h1⟩⟩
theorem kvalue.op {w : World} {S : Sp} {x : value} {cs : List Value} (h : kvalue.R w S x cs) : cs = [vb x.has, vs x.val] ∧ Lim x.val := by
  obtain ⟨_, _, rfl, rfl, ⟨rfl, h1⟩⟩ := h
  exact ⟨rfl, h1⟩
theorem ag100 : IsAgg Try.prog 100 true := IsAgg_mk Try.underlying100
theorem ag103 : IsAgg Try.prog 103 true := IsAgg_mk Try.underlying103
theorem ag133 : IsAgg Try.prog 133 true := IsAgg_mk Try.underlying133
theorem ag135 : IsAgg Try.prog 135 true := IsAgg_mk Try.underlying135
theorem ag148 : IsAgg Try.prog 148 true := IsAgg_mk Try.underlying148
theorem ag166 : IsAgg Try.prog 166 true := IsAgg_mk Try.underlying166
theorem ag201 : IsAgg Try.prog 201 true := IsAgg_mk Try.underlying201
theorem ag205 : IsAgg Try.prog 205 false := IsAgg_mk Try.underlying205
theorem ag22 : IsAgg Try.prog 22 false := IsAgg_mk Try.underlying22
theorem ag23 : IsAgg Try.prog 23 false := IsAgg_mk Try.underlying23
theorem ag29 : IsAgg Try.prog 29 true := IsAgg_mk Try.underlying29
theorem ag3 : IsAgg Try.prog 3 false := IsAgg_mk Try.underlying3
theorem ag32 : IsAgg Try.prog 32 false := IsAgg_mk Try.underlying32
theorem ag33 : IsAgg Try.prog 33 false := IsAgg_mk Try.underlying33
theorem ag35 : IsAgg Try.prog 35 true := IsAgg_mk Try.underlying35
theorem ag4 : IsAgg Try.prog 4 false := IsAgg_mk Try.underlying4
theorem ag43 : IsAgg Try.prog 43 false := IsAgg_mk Try.underlying43
theorem ag5 : IsAgg Try.prog 5 false := IsAgg_mk Try.underlying5
theorem ag52 : IsAgg Try.prog 52 false := IsAgg_mk Try.underlying52
theorem ag60 : IsAgg Try.prog 60 false := IsAgg_mk Try.underlying60
theorem ag62 : IsAgg Try.prog 62 true := IsAgg_mk Try.underlying62
theorem ag63 : IsAgg Try.prog 63 false := IsAgg_mk Try.underlying63
theorem ag65 : IsAgg Try.prog 65 true := IsAgg_mk Try.underlying65
theorem ag68 : IsAgg Try.prog 68 true := IsAgg_mk Try.underlying68
theorem ag69 : IsAgg Try.prog 69 false := IsAgg_mk Try.underlying69
theorem ag71 : IsAgg Try.prog 71 true := IsAgg_mk Try.underlying71
theorem ag89 : IsAgg Try.prog 89 false := IsAgg_mk Try.underlying89
theorem ag9 : IsAgg Try.prog 9 false := IsAgg_mk Try.underlying9
theorem ag91 : IsAgg Try.prog 91 true := IsAgg_mk Try.underlying91
theorem ag93 : IsAgg Try.prog 93 true := IsAgg_mk Try.underlying93
def dShape_68 : Dd kShape := Dd.iso (Dd.pair (Dd.flat (k := (Kd.int .i64)) (int_flat _)) (Dd.sl (Dd.flat kPt_flat) 29)) (fun x : Shape => (x.Kind, x.Pts))
theorem dShape_68.mk (w : World) (x : Shape) {A1 : Option Addr} {n1 c1 : Nat} {r1 : Ob} (h1 : Ds (Dd.flat kPt_flat) 29 w r1 (.slice A1 n1 c1) x.Pts) : dShape_68.D w ([] ++ r1) x [vi x.Kind, .slice A1 n1 c1] := ⟨_, _, [vi x.Kind], [.slice A1 n1 c1], rfl, rfl, ⟨rfl, rfl⟩, ⟨_, rfl, h1⟩⟩
def dFeat_71 : Dd kFeat := Dd.iso (Dd.pair (Dd.flat (k := Kd.str) str_flat) (Dd.pair dShape_68 (Dd.sl (Dd.flat kTag_flat) 133))) (fun x : Feat => (x.Id, x.Shape, x.Tags))
theorem dFeat_71.mk (w : World) (x : Feat) {A2 : Option Addr} {n2 c2 : Nat} {A3 : Option Addr} {n3 c3 : Nat} {r2 : Ob} {r3 : Ob} (h0 : Lim x.Id) (h2 : Ds (Dd.flat kPt_flat) 29 w r2 (.slice A2 n2 c2) x.Shape.Pts) (h3 : Ds (Dd.flat kTag_flat) 133 w r3 (.slice A3 n3 c3) x.Tags) : dFeat_71.D w ([] ++ (([] ++ r2) ++ r3)) x [vs x.Id, vi x.Shape.Kind, .slice A2 n2 c2, .slice A3 n3 c3] := ⟨_, _, [vs x.Id], (([vi x.Shape.Kind] ++ [.slice A2 n2 c2]) ++ [.slice A3 n3 c3]), rfl, rfl, ⟨rfl, rfl, h0⟩, ⟨_, _, ([vi x.Shape.Kind] ++ [.slice A2 n2 c2]), [.slice A3 n3 c3], rfl, rfl, ⟨_, _, [vi x.Shape.Kind], [.slice A2 n2 c2], rfl, rfl, ⟨rfl, rfl⟩, ⟨_, rfl, h2⟩⟩, ⟨_, rfl, h3⟩⟩⟩
def dChange_103 : Dd kChange := Dd.iso (Dd.pair (Dd.flat (k := Kd.str) str_flat) (Dd.pair (Dd.flat (k := Kd.bool) bool_flat) (Dd.pair dFeat_71 (Dd.pair (Dd.flat (k := Kd.bool) bool_flat) dFeat_71)))) (fun x : Change => (x.Id, x.Had, x.Was, x.Has, x.Now))
theorem dChange_103.mk (w : World) (x : Change) {A4 : Option Addr} {n4 c4 : Nat} {A5 : Option Addr} {n5 c5 : Nat} {A9 : Option Addr} {n9 c9 : Nat} {A10 : Option Addr} {n10 c10 : Nat} {r4 : Ob} {r5 : Ob} {r9 : Ob} {r10 : Ob} (h0 : Lim x.Id) (h2 : Lim x.Was.Id) (h4 : Ds (Dd.flat kPt_flat) 29 w r4 (.slice A4 n4 c4) x.Was.Shape.Pts) (h5 : Ds (Dd.flat kTag_flat) 133 w r5 (.slice A5 n5 c5) x.Was.Tags) (h7 : Lim x.Now.Id) (h9 : Ds (Dd.flat kPt_flat) 29 w r9 (.slice A9 n9 c9) x.Now.Shape.Pts) (h10 : Ds (Dd.flat kTag_flat) 133 w r10 (.slice A10 n10 c10) x.Now.Tags) : dChange_103.D w ([] ++ ([] ++ (([] ++ (([] ++ r4) ++ r5)) ++ ([] ++ ([] ++ (([] ++ r9) ++ r10)))))) x [vs x.Id, vb x.Had, vs x.Was.Id, vi x.Was.Shape.Kind, .slice A4 n4 c4, .slice A5 n5 c5, vb x.Has, vs x.Now.Id, vi x.Now.Shape.Kind, .slice A9 n9 c9, .slice A10 n10 c10] := ⟨_, _, [vs x.Id], ([vb x.Had] ++ (([vs x.Was.Id] ++ (([vi x.Was.Shape.Kind] ++ [.slice A4 n4 c4]) ++ [.slice A5 n5 c5])) ++ ([vb x.Has] ++ ([vs x.Now.Id] ++ (([vi x.Now.Shape.Kind] ++ [.slice A9 n9 c9]) ++ [.slice A10 n10 c10]))))), rfl, rfl, ⟨rfl, rfl, h0⟩, ⟨_, _, [vb x.Had], (([vs x.Was.Id] ++ (([vi x.Was.Shape.Kind] ++ [.slice A4 n4 c4]) ++ [.slice A5 n5 c5])) ++ ([vb x.Has] ++ ([vs x.Now.Id] ++ (([vi x.Now.Shape.Kind] ++ [.slice A9 n9 c9]) ++ [.slice A10 n10 c10])))), rfl, rfl, ⟨rfl, rfl⟩, ⟨_, _, ([vs x.Was.Id] ++ (([vi x.Was.Shape.Kind] ++ [.slice A4 n4 c4]) ++ [.slice A5 n5 c5])), ([vb x.Has] ++ ([vs x.Now.Id] ++ (([vi x.Now.Shape.Kind] ++ [.slice A9 n9 c9]) ++ [.slice A10 n10 c10]))), rfl, rfl, ⟨_, _, [vs x.Was.Id], (([vi x.Was.Shape.Kind] ++ [.slice A4 n4 c4]) ++ [.slice A5 n5 c5]), rfl, rfl, ⟨rfl, rfl, h2⟩, ⟨_, _, ([vi x.Was.Shape.Kind] ++ [.slice A4 n4 c4]), [.slice A5 n5 c5], rfl, rfl, ⟨_, _, [vi x.Was.Shape.Kind], [.slice A4 n4 c4], rfl, rfl, ⟨rfl, rfl⟩, ⟨_, rfl, h4⟩⟩, ⟨_, rfl, h5⟩⟩⟩, ⟨_, _, [vb x.Has], ([vs x.Now.Id] ++ (([vi x.Now.Shape.Kind] ++ [.slice A9 n9 c9]) ++ [.slice A10 n10 c10])), rfl, rfl, ⟨rfl, rfl⟩, ⟨_, _, [vs x.Now.Id], (([vi x.Now.Shape.Kind] ++ [.slice A9 n9 c9]) ++ [.slice A10 n10 c10]), rfl, rfl, ⟨rfl, rfl, h7⟩, ⟨_, _, ([vi x.Now.Shape.Kind] ++ [.slice A9 n9 c9]), [.slice A10 n10 c10], rfl, rfl, ⟨_, _, [vi x.Now.Shape.Kind], [.slice A9 n9 c9], rfl, rfl, ⟨rfl, rfl⟩, ⟨_, rfl, h9⟩⟩, ⟨_, rfl, h10⟩⟩⟩⟩⟩⟩⟩
def dCommit_91 : Dd kCommit := Dd.iso (Dd.pair (Dd.sl (Dd.flat (k := (Kd.int .i64)) (int_flat _)) 3) (Dd.pair (Dd.sl dFeat_71 71) (Dd.flat (k := Kd.str) str_flat))) (fun x : Commit => (x.Up, x.Sheet, x.Note))
theorem dCommit_91.mk (w : World) (x : Commit) {A0 : Option Addr} {n0 c0 : Nat} {A1 : Option Addr} {n1 c1 : Nat} {r0 : Ob} {r1 : Ob} (h0 : Ds (Dd.flat (k := (Kd.int .i64)) (int_flat _)) 3 w r0 (.slice A0 n0 c0) x.Up) (h1 : Ds dFeat_71 71 w r1 (.slice A1 n1 c1) x.Sheet) (h2 : Lim x.Note) : dCommit_91.D w (r0 ++ (r1 ++ [])) x [.slice A0 n0 c0, .slice A1 n1 c1, vs x.Note] := ⟨_, _, [.slice A0 n0 c0], ([.slice A1 n1 c1] ++ [vs x.Note]), rfl, rfl, ⟨_, rfl, h0⟩, ⟨_, _, [.slice A1 n1 c1], [vs x.Note], rfl, rfl, ⟨_, rfl, h1⟩, ⟨rfl, rfl, h2⟩⟩⟩
theorem ei145 : EI Try.prog 145 89 1 24 [.slice none 0 0] := EI_mk (z := .slice none 0 0) Try.underlying145 (by kernel_rfl) rfl rfl (by decide) (by decide)
theorem ei156 : EI Try.prog 156 52 1 24 [.slice none 0 0] := EI_mk (z := .slice none 0 0) Try.underlying156 (by kernel_rfl) rfl rfl (by decide) (by decide)
theorem ei158 : EI Try.prog 158 43 1 24 [.slice none 0 0] := EI_mk (z := .slice none 0 0) Try.underlying158 (by kernel_rfl) rfl rfl (by decide) (by decide)
theorem ei175 : EI Try.prog 175 69 1 24 [.slice none 0 0] := EI_mk (z := .slice none 0 0) Try.underlying175 (by kernel_rfl) rfl rfl (by decide) (by decide)
theorem ei22 : EI Try.prog 22 5 1 1 [.int .u8 0] := EI_mk (z := .int .u8 0) Try.underlying22 (by kernel_rfl) rfl rfl (by decide) (by decide)
theorem ei23 : EI Try.prog 23 29 2 16 [.int .i64 0, .int .i64 0] := EI_mk (z := .agg #[.int .i64 0, .int .i64 0]) Try.underlying23 (by kernel_rfl) rfl rfl (by decide) (by decide)
theorem ei32 : EI Try.prog 32 91 3 64 [.slice none 0 0, .slice none 0 0, vs []] := EI_mk (z := .agg #[.slice none 0 0, .slice none 0 0, vs []]) Try.underlying32 (by kernel_rfl) rfl rfl (by decide) (by decide)
theorem ei33 : EI Try.prog 33 93 2 24 [vs [], .int .i64 0] := EI_mk (z := .agg #[vs [], .int .i64 0]) Try.underlying33 (by kernel_rfl) rfl rfl (by decide) (by decide)
theorem ei43 : EI Try.prog 43 103 11 176 [vs [], vb false, vs [], .int .i64 0, .slice none 0 0, .slice none 0 0, vb false, vs [], .int .i64 0, .slice none 0 0, .slice none 0 0] := EI_mk (z := .agg #[vs [], vb false, vs [], .int .i64 0, .slice none 0 0, .slice none 0 0, vb false, vs [], .int .i64 0, .slice none 0 0, .slice none 0 0]) Try.underlying43 (by kernel_rfl) rfl rfl (by decide) (by decide)
theorem ei52 : EI Try.prog 52 71 4 72 [vs [], .int .i64 0, .slice none 0 0, .slice none 0 0] := EI_mk (z := .agg #[vs [], .int .i64 0, .slice none 0 0, .slice none 0 0]) Try.underlying52 (by kernel_rfl) rfl rfl (by decide) (by decide)
theorem ei69 : EI Try.prog 69 133 2 32 [vs [], vs []] := EI_mk (z := .agg #[vs [], vs []]) Try.underlying69 (by kernel_rfl) rfl rfl (by decide) (by decide)
theorem ei72 : EI Try.prog 72 9 1 16 [vs []] := EI_mk (z := vs []) Try.underlying72 (by kernel_rfl) rfl rfl (by decide) (by decide)
theorem ei86 : EI Try.prog 86 148 2 16 [.int .i64 0, .int .i64 0] := EI_mk (z := .agg #[.int .i64 0, .int .i64 0]) Try.underlying86 (by kernel_rfl) rfl rfl (by decide) (by decide)
theorem ei89 : EI Try.prog 89 3 1 8 [.int .i64 0] := EI_mk (z := .int .i64 0) Try.underlying89 (by kernel_rfl) rfl rfl (by decide) (by decide)
theorem se145 : SizeOf Try.prog 89 1 := SizeOf_mk (by kernel_rfl)
theorem se156 : SizeOf Try.prog 52 1 := SizeOf_mk (by kernel_rfl)
theorem se158 : SizeOf Try.prog 43 1 := SizeOf_mk (by kernel_rfl)
theorem se175 : SizeOf Try.prog 69 1 := SizeOf_mk (by kernel_rfl)
theorem se22 : SizeOf Try.prog 5 1 := SizeOf_mk (by kernel_rfl)
theorem se23 : SizeOf Try.prog 29 2 := SizeOf_mk (by kernel_rfl)
theorem se32 : SizeOf Try.prog 91 3 := SizeOf_mk (by kernel_rfl)
theorem se33 : SizeOf Try.prog 93 2 := SizeOf_mk (by kernel_rfl)
theorem se41 : SizeOf Try.prog 100 11 := SizeOf_mk (by kernel_rfl)
theorem se43 : SizeOf Try.prog 103 11 := SizeOf_mk (by kernel_rfl)
theorem se49 : SizeOf Try.prog 65 4 := SizeOf_mk (by kernel_rfl)
theorem se52 : SizeOf Try.prog 71 4 := SizeOf_mk (by kernel_rfl)
theorem se60 : SizeOf Try.prog 201 2 := SizeOf_mk (by kernel_rfl)
theorem se63 : SizeOf Try.prog 166 2 := SizeOf_mk (by kernel_rfl)
theorem se69 : SizeOf Try.prog 133 2 := SizeOf_mk (by kernel_rfl)
theorem se72 : SizeOf Try.prog 9 1 := SizeOf_mk (by kernel_rfl)
theorem se86 : SizeOf Try.prog 148 2 := SizeOf_mk (by kernel_rfl)
theorem se89 : SizeOf Try.prog 3 1 := SizeOf_mk (by kernel_rfl)
def eqTag (a b : Tag) : Bool := (a.Key == b.Key) && (a.Val == b.Val)
theorem eqTag_is (x y : Tag) : eqTag x y = decide (x = y) := by
  obtain ⟨a, b⟩ := x; obtain ⟨c, d⟩ := y
  simp only [eqTag, Tag.mk.injEq, Bool.decide_and]
  by_cases h1 : a = c <;> by_cases h2 : b = d <;> simp [h1, h2]
theorem qt133 (a b : Tag) : EqT Try.prog 133 [vs a.Key, vs a.Val] [vs b.Key, vs b.Val] (eqTag a b) := EqT_mk2 Try.underlying133 (by kernel_rfl) (by kernel_rfl) (by decide) (cmp1_str Try.underlying9 _ _) (cmp1_str Try.underlying9 _ _)
def eqvalue (a b : value) : Bool := (a.has == b.has) && (a.val == b.val)
theorem eqvalue_is (x y : value) : eqvalue x y = decide (x = y) := by
  obtain ⟨a, b⟩ := x; obtain ⟨c, d⟩ := y
  simp only [eqvalue, value.mk.injEq, Bool.decide_and]
  by_cases h1 : a = c <;> by_cases h2 : b = d <;> simp [h1, h2]
theorem qt135 (a b : value) : EqT Try.prog 135 [vb a.has, vs a.val] [vb b.has, vs b.val] (eqvalue a b) := EqT_mk2 Try.underlying135 (by kernel_rfl) (by kernel_rfl) (by decide) (cmp1_bool Try.underlying4 _ _) (cmp1_str Try.underlying9 _ _)
def eqPt (a b : Pt) : Bool := (a.X == b.X) && (a.Y == b.Y)
theorem eqPt_is (x y : Pt) : eqPt x y = decide (x = y) := by
  obtain ⟨a, b⟩ := x; obtain ⟨c, d⟩ := y
  simp only [eqPt, Pt.mk.injEq, Bool.decide_and]
  by_cases h1 : a = c <;> by_cases h2 : b = d <;> simp [h1, h2]
theorem qt29 (a b : Pt) : EqT Try.prog 29 [vi a.X, vi a.Y] [vi b.X, vi b.Y] (eqPt a b) := EqT_mk2 Try.underlying29 (by kernel_rfl) (by kernel_rfl) (by decide) (cmp1_int Try.underlying3 _ _) (cmp1_int Try.underlying3 _ _)
theorem fa100_0 : FA Try.prog 100 0 0 := FA_mk 1 0 Try.underlying100 rfl (by kernel_rfl) (by decide) rfl
theorem fa100_1 : FA Try.prog 100 1 1 := FA_mk 1 1 Try.underlying100 rfl (by kernel_rfl) (by decide) rfl
theorem fa100_2 : FA Try.prog 100 2 2 := FA_mk 4 2 Try.underlying100 rfl (by kernel_rfl) (by decide) rfl
theorem fa100_3 : FA Try.prog 100 3 6 := FA_mk 1 6 Try.underlying100 rfl (by kernel_rfl) (by decide) rfl
theorem fa100_4 : FA Try.prog 100 4 7 := FA_mk 4 7 Try.underlying100 rfl (by kernel_rfl) (by decide) rfl
theorem fa103_0 : FA Try.prog 103 0 0 := FA_mk 1 0 Try.underlying103 rfl (by kernel_rfl) (by decide) rfl
theorem fa103_1 : FA Try.prog 103 1 1 := FA_mk 1 1 Try.underlying103 rfl (by kernel_rfl) (by decide) rfl
theorem fa103_2 : FA Try.prog 103 2 2 := FA_mk 4 2 Try.underlying103 rfl (by kernel_rfl) (by decide) rfl
theorem fa103_3 : FA Try.prog 103 3 6 := FA_mk 1 6 Try.underlying103 rfl (by kernel_rfl) (by decide) rfl
theorem fa103_4 : FA Try.prog 103 4 7 := FA_mk 4 7 Try.underlying103 rfl (by kernel_rfl) (by decide) rfl
theorem fa133_0 : FA Try.prog 133 0 0 := FA_mk 1 0 Try.underlying133 rfl (by kernel_rfl) (by decide) rfl
theorem fa133_1 : FA Try.prog 133 1 1 := FA_mk 1 1 Try.underlying133 rfl (by kernel_rfl) (by decide) rfl
theorem fa143_0 : FA Try.prog 143 0 0 := FA_mk 1 0 Try.underlying143 rfl (by kernel_rfl) (by decide) rfl
theorem fa143_1 : FA Try.prog 143 1 1 := FA_mk 1 1 Try.underlying143 rfl (by kernel_rfl) (by decide) rfl
theorem fa148_0 : FA Try.prog 148 0 0 := FA_mk 1 0 Try.underlying148 rfl (by kernel_rfl) (by decide) rfl
theorem fa148_1 : FA Try.prog 148 1 1 := FA_mk 1 1 Try.underlying148 rfl (by kernel_rfl) (by decide) rfl
theorem fa166_0 : FA Try.prog 166 0 0 := FA_mk 1 0 Try.underlying166 rfl (by kernel_rfl) (by decide) rfl
theorem fa166_1 : FA Try.prog 166 1 1 := FA_mk 1 1 Try.underlying166 rfl (by kernel_rfl) (by decide) rfl
theorem fa201_0 : FA Try.prog 201 0 0 := FA_mk 1 0 Try.underlying201 rfl (by kernel_rfl) (by decide) rfl
theorem fa201_1 : FA Try.prog 201 1 1 := FA_mk 1 1 Try.underlying201 rfl (by kernel_rfl) (by decide) rfl
theorem fa29_0 : FA Try.prog 29 0 0 := FA_mk 1 0 Try.underlying29 rfl (by kernel_rfl) (by decide) rfl
theorem fa29_1 : FA Try.prog 29 1 1 := FA_mk 1 1 Try.underlying29 rfl (by kernel_rfl) (by decide) rfl
theorem fa35_0 : FA Try.prog 35 0 0 := FA_mk 1 0 Try.underlying35 rfl (by kernel_rfl) (by decide) rfl
theorem fa35_1 : FA Try.prog 35 1 1 := FA_mk 1 1 Try.underlying35 rfl (by kernel_rfl) (by decide) rfl
theorem fa62_0 : FA Try.prog 62 0 0 := FA_mk 1 0 Try.underlying62 rfl (by kernel_rfl) (by decide) rfl
theorem fa62_1 : FA Try.prog 62 1 1 := FA_mk 1 1 Try.underlying62 rfl (by kernel_rfl) (by decide) rfl
theorem fa65_0 : FA Try.prog 65 0 0 := FA_mk 1 0 Try.underlying65 rfl (by kernel_rfl) (by decide) rfl
theorem fa65_1 : FA Try.prog 65 1 1 := FA_mk 2 1 Try.underlying65 rfl (by kernel_rfl) (by decide) rfl
theorem fa65_2 : FA Try.prog 65 2 3 := FA_mk 1 3 Try.underlying65 rfl (by kernel_rfl) (by decide) rfl
theorem fa68_0 : FA Try.prog 68 0 0 := FA_mk 1 0 Try.underlying68 rfl (by kernel_rfl) (by decide) rfl
theorem fa68_1 : FA Try.prog 68 1 1 := FA_mk 1 1 Try.underlying68 rfl (by kernel_rfl) (by decide) rfl
theorem fa71_0 : FA Try.prog 71 0 0 := FA_mk 1 0 Try.underlying71 rfl (by kernel_rfl) (by decide) rfl
theorem fa71_1 : FA Try.prog 71 1 1 := FA_mk 2 1 Try.underlying71 rfl (by kernel_rfl) (by decide) rfl
theorem fa71_2 : FA Try.prog 71 2 3 := FA_mk 1 3 Try.underlying71 rfl (by kernel_rfl) (by decide) rfl
theorem fa91_0 : FA Try.prog 91 0 0 := FA_mk 1 0 Try.underlying91 rfl (by kernel_rfl) (by decide) rfl
theorem fa91_1 : FA Try.prog 91 1 1 := FA_mk 1 1 Try.underlying91 rfl (by kernel_rfl) (by decide) rfl
theorem fa91_2 : FA Try.prog 91 2 2 := FA_mk 1 2 Try.underlying91 rfl (by kernel_rfl) (by decide) rfl
theorem fa93_0 : FA Try.prog 93 0 0 := FA_mk 1 0 Try.underlying93 rfl (by kernel_rfl) (by decide) rfl
theorem fa93_1 : FA Try.prog 93 1 1 := FA_mk 1 1 Try.underlying93 rfl (by kernel_rfl) (by decide) rfl
theorem foc103_0 : Foc dChange_103 (Dd.flat (k := Kd.str) str_flat) 0 (fun x => x.Id) (fun x y => (⟨y, x.Had, x.Was, x.Has, x.Now⟩ : Change)) := (Foc.iso (fun (a : Str × Bool × Feat × Bool × Feat) => (⟨a.1, a.2.1, a.2.2.1, a.2.2.2.1, a.2.2.2.2⟩ : Change)) (fun _ => rfl) Foc.left)
theorem foc103_1 : Foc dChange_103 (Dd.flat (k := Kd.bool) bool_flat) 1 (fun x => x.Had) (fun x y => (⟨x.Id, y, x.Was, x.Has, x.Now⟩ : Change)) := (Foc.iso (fun (a : Str × Bool × Feat × Bool × Feat) => (⟨a.1, a.2.1, a.2.2.1, a.2.2.2.1, a.2.2.2.2⟩ : Change)) (fun _ => rfl) (Foc.trans Foc.right Foc.left))
theorem foc103_10 : Foc dChange_103 (Dd.sl (Dd.flat kTag_flat) 133) 10 (fun x => x.Now.Tags) (fun x y => (⟨x.Id, x.Had, x.Was, x.Has, (⟨x.Now.Id, x.Now.Shape, y⟩ : Feat)⟩ : Change)) := (Foc.iso (fun (a : Str × Bool × Feat × Bool × Feat) => (⟨a.1, a.2.1, a.2.2.1, a.2.2.2.1, a.2.2.2.2⟩ : Change)) (fun _ => rfl) (Foc.trans Foc.right (Foc.trans Foc.right (Foc.trans Foc.right (Foc.trans Foc.right (Foc.iso (fun (a : Str × Shape × (List Tag)) => (⟨a.1, a.2.1, a.2.2⟩ : Feat)) (fun _ => rfl) (Foc.trans Foc.right Foc.right)))))))
theorem foc103_2 : Foc dChange_103 (Dd.flat (k := Kd.str) str_flat) 2 (fun x => x.Was.Id) (fun x y => (⟨x.Id, x.Had, (⟨y, x.Was.Shape, x.Was.Tags⟩ : Feat), x.Has, x.Now⟩ : Change)) := (Foc.iso (fun (a : Str × Bool × Feat × Bool × Feat) => (⟨a.1, a.2.1, a.2.2.1, a.2.2.2.1, a.2.2.2.2⟩ : Change)) (fun _ => rfl) (Foc.trans Foc.right (Foc.trans Foc.right (Foc.trans Foc.left (Foc.iso (fun (a : Str × Shape × (List Tag)) => (⟨a.1, a.2.1, a.2.2⟩ : Feat)) (fun _ => rfl) Foc.left)))))
theorem foc103_3 : Foc dChange_103 (Dd.flat (k := (Kd.int .i64)) (int_flat _)) 3 (fun x => x.Was.Shape.Kind) (fun x y => (⟨x.Id, x.Had, (⟨x.Was.Id, (⟨y, x.Was.Shape.Pts⟩ : Shape), x.Was.Tags⟩ : Feat), x.Has, x.Now⟩ : Change)) := (Foc.iso (fun (a : Str × Bool × Feat × Bool × Feat) => (⟨a.1, a.2.1, a.2.2.1, a.2.2.2.1, a.2.2.2.2⟩ : Change)) (fun _ => rfl) (Foc.trans Foc.right (Foc.trans Foc.right (Foc.trans Foc.left (Foc.iso (fun (a : Str × Shape × (List Tag)) => (⟨a.1, a.2.1, a.2.2⟩ : Feat)) (fun _ => rfl) (Foc.trans Foc.right (Foc.trans Foc.left (Foc.iso (fun (a : Int × (List Pt)) => (⟨a.1, a.2⟩ : Shape)) (fun _ => rfl) Foc.left))))))))
theorem foc103_4 : Foc dChange_103 (Dd.sl (Dd.flat kPt_flat) 29) 4 (fun x => x.Was.Shape.Pts) (fun x y => (⟨x.Id, x.Had, (⟨x.Was.Id, (⟨x.Was.Shape.Kind, y⟩ : Shape), x.Was.Tags⟩ : Feat), x.Has, x.Now⟩ : Change)) := (Foc.iso (fun (a : Str × Bool × Feat × Bool × Feat) => (⟨a.1, a.2.1, a.2.2.1, a.2.2.2.1, a.2.2.2.2⟩ : Change)) (fun _ => rfl) (Foc.trans Foc.right (Foc.trans Foc.right (Foc.trans Foc.left (Foc.iso (fun (a : Str × Shape × (List Tag)) => (⟨a.1, a.2.1, a.2.2⟩ : Feat)) (fun _ => rfl) (Foc.trans Foc.right (Foc.trans Foc.left (Foc.iso (fun (a : Int × (List Pt)) => (⟨a.1, a.2⟩ : Shape)) (fun _ => rfl) Foc.right))))))))
theorem foc103_5 : Foc dChange_103 (Dd.sl (Dd.flat kTag_flat) 133) 5 (fun x => x.Was.Tags) (fun x y => (⟨x.Id, x.Had, (⟨x.Was.Id, x.Was.Shape, y⟩ : Feat), x.Has, x.Now⟩ : Change)) := (Foc.iso (fun (a : Str × Bool × Feat × Bool × Feat) => (⟨a.1, a.2.1, a.2.2.1, a.2.2.2.1, a.2.2.2.2⟩ : Change)) (fun _ => rfl) (Foc.trans Foc.right (Foc.trans Foc.right (Foc.trans Foc.left (Foc.iso (fun (a : Str × Shape × (List Tag)) => (⟨a.1, a.2.1, a.2.2⟩ : Feat)) (fun _ => rfl) (Foc.trans Foc.right Foc.right))))))
theorem foc103_6 : Foc dChange_103 (Dd.flat (k := Kd.bool) bool_flat) 6 (fun x => x.Has) (fun x y => (⟨x.Id, x.Had, x.Was, y, x.Now⟩ : Change)) := (Foc.iso (fun (a : Str × Bool × Feat × Bool × Feat) => (⟨a.1, a.2.1, a.2.2.1, a.2.2.2.1, a.2.2.2.2⟩ : Change)) (fun _ => rfl) (Foc.trans Foc.right (Foc.trans Foc.right (Foc.trans Foc.right Foc.left))))
theorem foc103_7 : Foc dChange_103 (Dd.flat (k := Kd.str) str_flat) 7 (fun x => x.Now.Id) (fun x y => (⟨x.Id, x.Had, x.Was, x.Has, (⟨y, x.Now.Shape, x.Now.Tags⟩ : Feat)⟩ : Change)) := (Foc.iso (fun (a : Str × Bool × Feat × Bool × Feat) => (⟨a.1, a.2.1, a.2.2.1, a.2.2.2.1, a.2.2.2.2⟩ : Change)) (fun _ => rfl) (Foc.trans Foc.right (Foc.trans Foc.right (Foc.trans Foc.right (Foc.trans Foc.right (Foc.iso (fun (a : Str × Shape × (List Tag)) => (⟨a.1, a.2.1, a.2.2⟩ : Feat)) (fun _ => rfl) Foc.left))))))
theorem foc103_8 : Foc dChange_103 (Dd.flat (k := (Kd.int .i64)) (int_flat _)) 8 (fun x => x.Now.Shape.Kind) (fun x y => (⟨x.Id, x.Had, x.Was, x.Has, (⟨x.Now.Id, (⟨y, x.Now.Shape.Pts⟩ : Shape), x.Now.Tags⟩ : Feat)⟩ : Change)) := (Foc.iso (fun (a : Str × Bool × Feat × Bool × Feat) => (⟨a.1, a.2.1, a.2.2.1, a.2.2.2.1, a.2.2.2.2⟩ : Change)) (fun _ => rfl) (Foc.trans Foc.right (Foc.trans Foc.right (Foc.trans Foc.right (Foc.trans Foc.right (Foc.iso (fun (a : Str × Shape × (List Tag)) => (⟨a.1, a.2.1, a.2.2⟩ : Feat)) (fun _ => rfl) (Foc.trans Foc.right (Foc.trans Foc.left (Foc.iso (fun (a : Int × (List Pt)) => (⟨a.1, a.2⟩ : Shape)) (fun _ => rfl) Foc.left)))))))))
theorem foc103_9 : Foc dChange_103 (Dd.sl (Dd.flat kPt_flat) 29) 9 (fun x => x.Now.Shape.Pts) (fun x y => (⟨x.Id, x.Had, x.Was, x.Has, (⟨x.Now.Id, (⟨x.Now.Shape.Kind, y⟩ : Shape), x.Now.Tags⟩ : Feat)⟩ : Change)) := (Foc.iso (fun (a : Str × Bool × Feat × Bool × Feat) => (⟨a.1, a.2.1, a.2.2.1, a.2.2.2.1, a.2.2.2.2⟩ : Change)) (fun _ => rfl) (Foc.trans Foc.right (Foc.trans Foc.right (Foc.trans Foc.right (Foc.trans Foc.right (Foc.iso (fun (a : Str × Shape × (List Tag)) => (⟨a.1, a.2.1, a.2.2⟩ : Feat)) (fun _ => rfl) (Foc.trans Foc.right (Foc.trans Foc.left (Foc.iso (fun (a : Int × (List Pt)) => (⟨a.1, a.2⟩ : Shape)) (fun _ => rfl) Foc.right)))))))))
theorem foc71_0 : Foc dFeat_71 (Dd.flat (k := Kd.str) str_flat) 0 (fun x => x.Id) (fun x y => (⟨y, x.Shape, x.Tags⟩ : Feat)) := (Foc.iso (fun (a : Str × Shape × (List Tag)) => (⟨a.1, a.2.1, a.2.2⟩ : Feat)) (fun _ => rfl) Foc.left)
theorem foc71_1 : Foc dFeat_71 (Dd.flat (k := (Kd.int .i64)) (int_flat _)) 1 (fun x => x.Shape.Kind) (fun x y => (⟨x.Id, (⟨y, x.Shape.Pts⟩ : Shape), x.Tags⟩ : Feat)) := (Foc.iso (fun (a : Str × Shape × (List Tag)) => (⟨a.1, a.2.1, a.2.2⟩ : Feat)) (fun _ => rfl) (Foc.trans Foc.right (Foc.trans Foc.left (Foc.iso (fun (a : Int × (List Pt)) => (⟨a.1, a.2⟩ : Shape)) (fun _ => rfl) Foc.left))))
theorem foc71_2 : Foc dFeat_71 (Dd.sl (Dd.flat kPt_flat) 29) 2 (fun x => x.Shape.Pts) (fun x y => (⟨x.Id, (⟨x.Shape.Kind, y⟩ : Shape), x.Tags⟩ : Feat)) := (Foc.iso (fun (a : Str × Shape × (List Tag)) => (⟨a.1, a.2.1, a.2.2⟩ : Feat)) (fun _ => rfl) (Foc.trans Foc.right (Foc.trans Foc.left (Foc.iso (fun (a : Int × (List Pt)) => (⟨a.1, a.2⟩ : Shape)) (fun _ => rfl) Foc.right))))
theorem foc71_3 : Foc dFeat_71 (Dd.sl (Dd.flat kTag_flat) 133) 3 (fun x => x.Tags) (fun x y => (⟨x.Id, x.Shape, y⟩ : Feat)) := (Foc.iso (fun (a : Str × Shape × (List Tag)) => (⟨a.1, a.2.1, a.2.2⟩ : Feat)) (fun _ => rfl) (Foc.trans Foc.right Foc.right))
theorem foc91_0 : Foc dCommit_91 (Dd.sl (Dd.flat (k := (Kd.int .i64)) (int_flat _)) 3) 0 (fun x => x.Up) (fun x y => (⟨y, x.Sheet, x.Note⟩ : Commit)) := (Foc.iso (fun (a : (List Int) × (List Feat) × Str) => (⟨a.1, a.2.1, a.2.2⟩ : Commit)) (fun _ => rfl) Foc.left)
theorem foc91_1 : Foc dCommit_91 (Dd.sl dFeat_71 71) 1 (fun x => x.Sheet) (fun x y => (⟨x.Up, y, x.Note⟩ : Commit)) := (Foc.iso (fun (a : (List Int) × (List Feat) × Str) => (⟨a.1, a.2.1, a.2.2⟩ : Commit)) (fun _ => rfl) (Foc.trans Foc.right Foc.left))
theorem foc91_2 : Foc dCommit_91 (Dd.flat (k := Kd.str) str_flat) 2 (fun x => x.Note) (fun x y => (⟨x.Up, x.Sheet, y⟩ : Commit)) := (Foc.iso (fun (a : (List Int) × (List Feat) × Str) => (⟨a.1, a.2.1, a.2.2⟩ : Commit)) (fun _ => rfl) (Foc.trans Foc.right Foc.right))
theorem go10 : Goes Try.prog 10 := ⟨_, Try.func10, by kernel_rfl, rfl⟩
theorem go102 : Goes Try.prog 102 := ⟨_, Try.func102, by kernel_rfl, rfl⟩
theorem go103 : Goes Try.prog 103 := ⟨_, Try.func103, by kernel_rfl, rfl⟩
theorem go104 : Goes Try.prog 104 := ⟨_, Try.func104, by kernel_rfl, rfl⟩
theorem go105 : Goes Try.prog 105 := ⟨_, Try.func105, by kernel_rfl, rfl⟩
theorem go106 : Goes Try.prog 106 := ⟨_, Try.func106, by kernel_rfl, rfl⟩
theorem go107 : Goes Try.prog 107 := ⟨_, Try.func107, by kernel_rfl, rfl⟩
theorem go108 : Goes Try.prog 108 := ⟨_, Try.func108, by kernel_rfl, rfl⟩
theorem go109 : Goes Try.prog 109 := ⟨_, Try.func109, by kernel_rfl, rfl⟩
theorem go11 : Goes Try.prog 11 := ⟨_, Try.func11, by kernel_rfl, rfl⟩
theorem go110 : Goes Try.prog 110 := ⟨_, Try.func110, by kernel_rfl, rfl⟩
theorem go111 : Goes Try.prog 111 := ⟨_, Try.func111, by kernel_rfl, rfl⟩
theorem go112 : Goes Try.prog 112 := ⟨_, Try.func112, by kernel_rfl, rfl⟩
theorem go113 : Goes Try.prog 113 := ⟨_, Try.func113, by kernel_rfl, rfl⟩
theorem go114 : Goes Try.prog 114 := ⟨_, Try.func114, by kernel_rfl, rfl⟩
theorem go115 : Goes Try.prog 115 := ⟨_, Try.func115, by kernel_rfl, rfl⟩
theorem go116 : Goes Try.prog 116 := ⟨_, Try.func116, by kernel_rfl, rfl⟩
theorem go117 : Goes Try.prog 117 := ⟨_, Try.func117, by kernel_rfl, rfl⟩
theorem go118 : Goes Try.prog 118 := ⟨_, Try.func118, by kernel_rfl, rfl⟩
theorem go119 : Goes Try.prog 119 := ⟨_, Try.func119, by kernel_rfl, rfl⟩
theorem go120 : Goes Try.prog 120 := ⟨_, Try.func120, by kernel_rfl, rfl⟩
theorem go121 : Goes Try.prog 121 := ⟨_, Try.func121, by kernel_rfl, rfl⟩
theorem go122 : Goes Try.prog 122 := ⟨_, Try.func122, by kernel_rfl, rfl⟩
theorem go123 : Goes Try.prog 123 := ⟨_, Try.func123, by kernel_rfl, rfl⟩
theorem go124 : Goes Try.prog 124 := ⟨_, Try.func124, by kernel_rfl, rfl⟩
theorem go125 : Goes Try.prog 125 := ⟨_, Try.func125, by kernel_rfl, rfl⟩
theorem go129 : Goes Try.prog 129 := ⟨_, Try.func129, by kernel_rfl, rfl⟩
theorem go13 : Goes Try.prog 13 := ⟨_, Try.func13, by kernel_rfl, rfl⟩
theorem go130 : Goes Try.prog 130 := ⟨_, Try.func130, by kernel_rfl, rfl⟩
theorem go131 : Goes Try.prog 131 := ⟨_, Try.func131, by kernel_rfl, rfl⟩
theorem go132 : Goes Try.prog 132 := ⟨_, Try.func132, by kernel_rfl, rfl⟩
theorem go133 : Goes Try.prog 133 := ⟨_, Try.func133, by kernel_rfl, rfl⟩
theorem go134 : Goes Try.prog 134 := ⟨_, Try.func134, by kernel_rfl, rfl⟩
theorem go135 : Goes Try.prog 135 := ⟨_, Try.func135, by kernel_rfl, rfl⟩
theorem go136 : Goes Try.prog 136 := ⟨_, Try.func136, by kernel_rfl, rfl⟩
theorem go137 : Goes Try.prog 137 := ⟨_, Try.func137, by kernel_rfl, rfl⟩
theorem go138 : Goes Try.prog 138 := ⟨_, Try.func138, by kernel_rfl, rfl⟩
theorem go139 : Goes Try.prog 139 := ⟨_, Try.func139, by kernel_rfl, rfl⟩
theorem go14 : Goes Try.prog 14 := ⟨_, Try.func14, by kernel_rfl, rfl⟩
theorem go140 : Goes Try.prog 140 := ⟨_, Try.func140, by kernel_rfl, rfl⟩
theorem go141 : Goes Try.prog 141 := ⟨_, Try.func141, by kernel_rfl, rfl⟩
theorem go143 : Goes Try.prog 143 := ⟨_, Try.func143, by kernel_rfl, rfl⟩
theorem go144 : Goes Try.prog 144 := ⟨_, Try.func144, by kernel_rfl, rfl⟩
theorem go145 : Goes Try.prog 145 := ⟨_, Try.func145, by kernel_rfl, rfl⟩
theorem go146 : Goes Try.prog 146 := ⟨_, Try.func146, by kernel_rfl, rfl⟩
theorem go147 : Goes Try.prog 147 := ⟨_, Try.func147, by kernel_rfl, rfl⟩
theorem go148 : Goes Try.prog 148 := ⟨_, Try.func148, by kernel_rfl, rfl⟩
theorem go149 : Goes Try.prog 149 := ⟨_, Try.func149, by kernel_rfl, rfl⟩
theorem go15 : Goes Try.prog 15 := ⟨_, Try.func15, by kernel_rfl, rfl⟩
theorem go150 : Goes Try.prog 150 := ⟨_, Try.func150, by kernel_rfl, rfl⟩
theorem go151 : Goes Try.prog 151 := ⟨_, Try.func151, by kernel_rfl, rfl⟩
theorem go152 : Goes Try.prog 152 := ⟨_, Try.func152, by kernel_rfl, rfl⟩
theorem go153 : Goes Try.prog 153 := ⟨_, Try.func153, by kernel_rfl, rfl⟩
theorem go16 : Goes Try.prog 16 := ⟨_, Try.func16, by kernel_rfl, rfl⟩
theorem go160 : Goes Try.prog 160 := ⟨_, Try.func160, by kernel_rfl, rfl⟩
theorem go165 : Goes Try.prog 165 := ⟨_, Try.func165, by kernel_rfl, rfl⟩
theorem go166 : Goes Try.prog 166 := ⟨_, Try.func166, by kernel_rfl, rfl⟩
theorem go167 : Goes Try.prog 167 := ⟨_, Try.func167, by kernel_rfl, rfl⟩
theorem go168 : Goes Try.prog 168 := ⟨_, Try.func168, by kernel_rfl, rfl⟩
theorem go169 : Goes Try.prog 169 := ⟨_, Try.func169, by kernel_rfl, rfl⟩
theorem go17 : Goes Try.prog 17 := ⟨_, Try.func17, by kernel_rfl, rfl⟩
theorem go170 : Goes Try.prog 170 := ⟨_, Try.func170, by kernel_rfl, rfl⟩
theorem go171 : Goes Try.prog 171 := ⟨_, Try.func171, by kernel_rfl, rfl⟩
theorem go172 : Goes Try.prog 172 := ⟨_, Try.func172, by kernel_rfl, rfl⟩
theorem go176 : Goes Try.prog 176 := ⟨_, Try.func176, by kernel_rfl, rfl⟩
theorem go177 : Goes Try.prog 177 := ⟨_, Try.func177, by kernel_rfl, rfl⟩
theorem go178 : Goes Try.prog 178 := ⟨_, Try.func178, by kernel_rfl, rfl⟩
theorem go179 : Goes Try.prog 179 := ⟨_, Try.func179, by kernel_rfl, rfl⟩
theorem go18 : Goes Try.prog 18 := ⟨_, Try.func18, by kernel_rfl, rfl⟩
theorem go180 : Goes Try.prog 180 := ⟨_, Try.func180, by kernel_rfl, rfl⟩
theorem go19 : Goes Try.prog 19 := ⟨_, Try.func19, by kernel_rfl, rfl⟩
theorem go20 : Goes Try.prog 20 := ⟨_, Try.func20, by kernel_rfl, rfl⟩
theorem go21 : Goes Try.prog 21 := ⟨_, Try.func21, by kernel_rfl, rfl⟩
theorem go22 : Goes Try.prog 22 := ⟨_, Try.func22, by kernel_rfl, rfl⟩
theorem go23 : Goes Try.prog 23 := ⟨_, Try.func23, by kernel_rfl, rfl⟩
theorem go24 : Goes Try.prog 24 := ⟨_, Try.func24, by kernel_rfl, rfl⟩
theorem go25 : Goes Try.prog 25 := ⟨_, Try.func25, by kernel_rfl, rfl⟩
theorem go26 : Goes Try.prog 26 := ⟨_, Try.func26, by kernel_rfl, rfl⟩
theorem go27 : Goes Try.prog 27 := ⟨_, Try.func27, by kernel_rfl, rfl⟩
theorem go29 : Goes Try.prog 29 := ⟨_, Try.func29, by kernel_rfl, rfl⟩
theorem go30 : Goes Try.prog 30 := ⟨_, Try.func30, by kernel_rfl, rfl⟩
theorem go31 : Goes Try.prog 31 := ⟨_, Try.func31, by kernel_rfl, rfl⟩
theorem go33 : Goes Try.prog 33 := ⟨_, Try.func33, by kernel_rfl, rfl⟩
theorem go35 : Goes Try.prog 35 := ⟨_, Try.func35, by kernel_rfl, rfl⟩
theorem go37 : Goes Try.prog 37 := ⟨_, Try.func37, by kernel_rfl, rfl⟩
theorem go43 : Goes Try.prog 43 := ⟨_, Try.func43, by kernel_rfl, rfl⟩
theorem go44 : Goes Try.prog 44 := ⟨_, Try.func44, by kernel_rfl, rfl⟩
theorem go45 : Goes Try.prog 45 := ⟨_, Try.func45, by kernel_rfl, rfl⟩
theorem go46 : Goes Try.prog 46 := ⟨_, Try.func46, by kernel_rfl, rfl⟩
theorem go47 : Goes Try.prog 47 := ⟨_, Try.func47, by kernel_rfl, rfl⟩
theorem go48 : Goes Try.prog 48 := ⟨_, Try.func48, by kernel_rfl, rfl⟩
theorem go49 : Goes Try.prog 49 := ⟨_, Try.func49, by kernel_rfl, rfl⟩
theorem go50 : Goes Try.prog 50 := ⟨_, Try.func50, by kernel_rfl, rfl⟩
theorem go51 : Goes Try.prog 51 := ⟨_, Try.func51, by kernel_rfl, rfl⟩
theorem go52 : Goes Try.prog 52 := ⟨_, Try.func52, by kernel_rfl, rfl⟩
theorem go53 : Goes Try.prog 53 := ⟨_, Try.func53, by kernel_rfl, rfl⟩
theorem go54 : Goes Try.prog 54 := ⟨_, Try.func54, by kernel_rfl, rfl⟩
theorem go55 : Goes Try.prog 55 := ⟨_, Try.func55, by kernel_rfl, rfl⟩
theorem go56 : Goes Try.prog 56 := ⟨_, Try.func56, by kernel_rfl, rfl⟩
theorem go57 : Goes Try.prog 57 := ⟨_, Try.func57, by kernel_rfl, rfl⟩
theorem go58 : Goes Try.prog 58 := ⟨_, Try.func58, by kernel_rfl, rfl⟩
theorem go59 : Goes Try.prog 59 := ⟨_, Try.func59, by kernel_rfl, rfl⟩
theorem go60 : Goes Try.prog 60 := ⟨_, Try.func60, by kernel_rfl, rfl⟩
theorem go61 : Goes Try.prog 61 := ⟨_, Try.func61, by kernel_rfl, rfl⟩
theorem go62 : Goes Try.prog 62 := ⟨_, Try.func62, by kernel_rfl, rfl⟩
theorem go63 : Goes Try.prog 63 := ⟨_, Try.func63, by kernel_rfl, rfl⟩
theorem go64 : Goes Try.prog 64 := ⟨_, Try.func64, by kernel_rfl, rfl⟩
theorem go65 : Goes Try.prog 65 := ⟨_, Try.func65, by kernel_rfl, rfl⟩
theorem go66 : Goes Try.prog 66 := ⟨_, Try.func66, by kernel_rfl, rfl⟩
theorem go67 : Goes Try.prog 67 := ⟨_, Try.func67, by kernel_rfl, rfl⟩
theorem go68 : Goes Try.prog 68 := ⟨_, Try.func68, by kernel_rfl, rfl⟩
theorem go69 : Goes Try.prog 69 := ⟨_, Try.func69, by kernel_rfl, rfl⟩
theorem go70 : Goes Try.prog 70 := ⟨_, Try.func70, by kernel_rfl, rfl⟩
theorem go71 : Goes Try.prog 71 := ⟨_, Try.func71, by kernel_rfl, rfl⟩
theorem go72 : Goes Try.prog 72 := ⟨_, Try.func72, by kernel_rfl, rfl⟩
theorem go73 : Goes Try.prog 73 := ⟨_, Try.func73, by kernel_rfl, rfl⟩
theorem go74 : Goes Try.prog 74 := ⟨_, Try.func74, by kernel_rfl, rfl⟩
theorem go77 : Goes Try.prog 77 := ⟨_, Try.func77, by kernel_rfl, rfl⟩
theorem go78 : Goes Try.prog 78 := ⟨_, Try.func78, by kernel_rfl, rfl⟩
theorem go79 : Goes Try.prog 79 := ⟨_, Try.func79, by kernel_rfl, rfl⟩
theorem go80 : Goes Try.prog 80 := ⟨_, Try.func80, by kernel_rfl, rfl⟩
theorem go81 : Goes Try.prog 81 := ⟨_, Try.func81, by kernel_rfl, rfl⟩
theorem go86 : Goes Try.prog 86 := ⟨_, Try.func86, by kernel_rfl, rfl⟩
theorem go87 : Goes Try.prog 87 := ⟨_, Try.func87, by kernel_rfl, rfl⟩
theorem go88 : Goes Try.prog 88 := ⟨_, Try.func88, by kernel_rfl, rfl⟩
theorem go89 : Goes Try.prog 89 := ⟨_, Try.func89, by kernel_rfl, rfl⟩
theorem go9 : Goes Try.prog 9 := ⟨_, Try.func9, by kernel_rfl, rfl⟩
theorem go91 : Goes Try.prog 91 := ⟨_, Try.func91, by kernel_rfl, rfl⟩
theorem go92 : Goes Try.prog 92 := ⟨_, Try.func92, by kernel_rfl, rfl⟩
theorem go93 : Goes Try.prog 93 := ⟨_, Try.func93, by kernel_rfl, rfl⟩
theorem go94 : Goes Try.prog 94 := ⟨_, Try.func94, by kernel_rfl, rfl⟩
theorem go95 : Goes Try.prog 95 := ⟨_, Try.func95, by kernel_rfl, rfl⟩
theorem go96 : Goes Try.prog 96 := ⟨_, Try.func96, by kernel_rfl, rfl⟩
theorem go97 : Goes Try.prog 97 := ⟨_, Try.func97, by kernel_rfl, rfl⟩
theorem sz100 : SizeOf Try.prog 100 11 := SizeOf_mk (by kernel_rfl)
theorem sz103 : SizeOf Try.prog 103 11 := SizeOf_mk (by kernel_rfl)
theorem sz133 : SizeOf Try.prog 133 2 := SizeOf_mk (by kernel_rfl)
theorem sz135 : SizeOf Try.prog 135 2 := SizeOf_mk (by kernel_rfl)
theorem sz148 : SizeOf Try.prog 148 2 := SizeOf_mk (by kernel_rfl)
theorem sz166 : SizeOf Try.prog 166 2 := SizeOf_mk (by kernel_rfl)
theorem sz201 : SizeOf Try.prog 201 2 := SizeOf_mk (by kernel_rfl)
theorem sz23 : SizeOf Try.prog 23 1 := SizeOf_mk (by kernel_rfl)
theorem sz29 : SizeOf Try.prog 29 2 := SizeOf_mk (by kernel_rfl)
theorem sz3 : SizeOf Try.prog 3 1 := SizeOf_mk (by kernel_rfl)
theorem sz35 : SizeOf Try.prog 35 2 := SizeOf_mk (by kernel_rfl)
theorem sz4 : SizeOf Try.prog 4 1 := SizeOf_mk (by kernel_rfl)
theorem sz62 : SizeOf Try.prog 62 2 := SizeOf_mk (by kernel_rfl)
theorem sz65 : SizeOf Try.prog 65 4 := SizeOf_mk (by kernel_rfl)
theorem sz68 : SizeOf Try.prog 68 2 := SizeOf_mk (by kernel_rfl)
theorem sz69 : SizeOf Try.prog 69 1 := SizeOf_mk (by kernel_rfl)
theorem sz71 : SizeOf Try.prog 71 4 := SizeOf_mk (by kernel_rfl)
theorem sz89 : SizeOf Try.prog 89 1 := SizeOf_mk (by kernel_rfl)
theorem sz9 : SizeOf Try.prog 9 1 := SizeOf_mk (by kernel_rfl)
theorem sz91 : SizeOf Try.prog 91 3 := SizeOf_mk (by kernel_rfl)
theorem sz93 : SizeOf Try.prog 93 2 := SizeOf_mk (by kernel_rfl)
theorem ze103 : ZeroOf Try.prog 103 [vs [], vb false, vs [], .int .i64 0, .slice none 0 0, .slice none 0 0, vb false, vs [], .int .i64 0, .slice none 0 0, .slice none 0 0] := ZeroOf_mk (z := .agg #[vs [], vb false, vs [], .int .i64 0, .slice none 0 0, .slice none 0 0, vb false, vs [], .int .i64 0, .slice none 0 0, .slice none 0 0]) (by kernel_rfl) rfl
theorem ze133 : ZeroOf Try.prog 133 [vs [], vs []] := ZeroOf_mk (z := .agg #[vs [], vs []]) (by kernel_rfl) rfl
theorem ze135 : ZeroOf Try.prog 135 [vb false, vs []] := ZeroOf_mk (z := .agg #[vb false, vs []]) (by kernel_rfl) rfl
theorem ze148 : ZeroOf Try.prog 148 [.int .i64 0, .int .i64 0] := ZeroOf_mk (z := .agg #[.int .i64 0, .int .i64 0]) (by kernel_rfl) rfl
theorem ze29 : ZeroOf Try.prog 29 [.int .i64 0, .int .i64 0] := ZeroOf_mk (z := .agg #[.int .i64 0, .int .i64 0]) (by kernel_rfl) rfl
theorem ze3 : ZeroOf Try.prog 3 [.int .i64 0] := ZeroOf_mk (z := .int .i64 0) (by kernel_rfl) rfl
theorem ze35 : ZeroOf Try.prog 35 [.slice none 0 0, .slice none 0 0] := ZeroOf_mk (z := .agg #[.slice none 0 0, .slice none 0 0]) (by kernel_rfl) rfl
theorem ze68 : ZeroOf Try.prog 68 [.int .i64 0, .slice none 0 0] := ZeroOf_mk (z := .agg #[.int .i64 0, .slice none 0 0]) (by kernel_rfl) rfl
theorem ze71 : ZeroOf Try.prog 71 [vs [], .int .i64 0, .slice none 0 0, .slice none 0 0] := ZeroOf_mk (z := .agg #[vs [], .int .i64 0, .slice none 0 0, .slice none 0 0]) (by kernel_rfl) rfl
end Go.Proofs.Ytndjggncgpjolaa

namespace Go.Proofs.Ytndjggncgpjolaa
open Go.RowKit
def vPt (x : Pt) : Prop := (I64 x.X) ∧ (I64 x.Y)
theorem tr201 : Tr Try.prog 201 kPt vPt := Tr.iso (Tr.struct (tot := 2) Try.underlying201 (by kernel_rfl) (TrF.cons (n := 1) (Tr.int Try.underlying3) rfl (by kernel_rfl) (TrF.one (n := 1) (Tr.int Try.underlying3) rfl (by kernel_rfl) (by decide)))) (fun x : Pt => (x.X, x.Y)) (fun a => (⟨a.1, a.2⟩ : Pt)) (fun _ => rfl)
def vShape (x : Shape) : Prop := (I64 x.Kind) ∧ (∀ y0 ∈ x.Pts, vPt y0)
theorem tr62 : Tr Try.prog 62 kShape vShape := Tr.iso (Tr.struct (tot := 2) Try.underlying62 (by kernel_rfl) (TrF.cons (n := 1) (Tr.int Try.underlying3) rfl (by kernel_rfl) (TrF.one (n := 1) (Tr.sl Try.underlying60 (by kernel_rfl) tr201) rfl (by kernel_rfl) (by decide)))) (fun x : Shape => (x.Kind, x.Pts)) (fun a => (⟨a.1, a.2⟩ : Shape)) (fun _ => rfl)
def vTag (x : Tag) : Prop := (Lim x.Key) ∧ (Lim x.Val)
theorem tr166 : Tr Try.prog 166 kTag vTag := Tr.iso (Tr.struct (tot := 2) Try.underlying166 (by kernel_rfl) (TrF.cons (n := 1) (Tr.str Try.underlying9) rfl (by kernel_rfl) (TrF.one (n := 1) (Tr.str Try.underlying9) rfl (by kernel_rfl) (by decide)))) (fun x : Tag => (x.Key, x.Val)) (fun a => (⟨a.1, a.2⟩ : Tag)) (fun _ => rfl)
def vFeat (x : Feat) : Prop := (Lim x.Id) ∧ (vShape x.Shape) ∧ (∀ y0 ∈ x.Tags, vTag y0)
theorem tr65 : Tr Try.prog 65 kFeat vFeat := Tr.iso (Tr.struct (tot := 4) Try.underlying65 (by kernel_rfl) (TrF.cons (n := 1) (Tr.str Try.underlying9) rfl (by kernel_rfl) (TrF.cons (n := 2) (tr62) rfl (by kernel_rfl) (TrF.one (n := 1) (Tr.sl Try.underlying63 (by kernel_rfl) tr166) rfl (by kernel_rfl) (by decide))))) (fun x : Feat => (x.Id, x.Shape, x.Tags)) (fun a => (⟨a.1, a.2.1, a.2.2⟩ : Feat)) (fun _ => rfl)
def vChange (x : Change) : Prop := (Lim x.Id) ∧ (True) ∧ (vFeat x.Was) ∧ (True) ∧ (vFeat x.Now)
theorem tr100 : Tr Try.prog 100 kChange vChange := Tr.iso (Tr.struct (tot := 11) Try.underlying100 (by kernel_rfl) (TrF.cons (n := 1) (Tr.str Try.underlying9) rfl (by kernel_rfl) (TrF.cons (n := 1) (Tr.bool Try.underlying4) rfl (by kernel_rfl) (TrF.cons (n := 4) (tr65) rfl (by kernel_rfl) (TrF.cons (n := 1) (Tr.bool Try.underlying4) rfl (by kernel_rfl) (TrF.one (n := 4) (tr65) rfl (by kernel_rfl) (by decide))))))) (fun x : Change => (x.Id, x.Had, x.Was, x.Has, x.Now)) (fun a => (⟨a.1, a.2.1, a.2.2.1, a.2.2.2.1, a.2.2.2.2⟩ : Change)) (fun _ => rfl)
end Go.Proofs.Ytndjggncgpjolaa

/- Plain laws for the shapes that the exact laws' helpers share. -/
namespace Go.Proofs.Ytndjggncgpjolaa
set_option linter.unusedVariables false
class Bulk (α : Type) where
  bulk : α → Nat
def bulk {α : Type} [Bulk α] : α → Nat := Bulk.bulk
instance : Bulk Int := ⟨fun _ => 0⟩
instance : Bulk Bool := ⟨fun _ => 0⟩
instance : Bulk UInt8 := ⟨fun _ => 0⟩
def bulkL {α : Type} [Bulk α] : List α → Nat
  | [] => 0
  | x :: l => 1 + Bulk.bulk x + bulkL l
instance {α : Type} [Bulk α] : Bulk (List α) := ⟨bulkL⟩
section
variable {α : Type} [Bulk α]
theorem bulk_nil : bulk ([] : List α) = 0 := rfl
theorem bulk_cons (x : α) (l : List α) : bulk (x :: l) = 1 + bulk x + bulk l := rfl
theorem bulk_app (l m : List α) : bulk (l ++ m) = bulk l + bulk m := by
  induction l with
  | nil => simp [bulk_nil]
  | cons x l ih => rw [List.cons_append, bulk_cons, bulk_cons, ih]; omega
theorem bulk_len (l : List α) : l.length ≤ bulk l := by
  induction l with
  | nil => exact Nat.zero_le _
  | cons x l ih => rw [bulk_cons, List.length_cons]; omega
theorem bulk_mem {l : List α} {x : α} (h : x ∈ l) : 1 + bulk x ≤ bulk l := by
  induction l with
  | nil => cases h
  | cons y l ih =>
    rw [bulk_cons]
    rcases List.mem_cons.1 h with rfl | h
    · omega
    · have := ih h; omega
theorem bulk_flat (h : ∀ x : α, bulk x = 0) (l : List α) : bulk l = l.length := by
  induction l with
  | nil => rfl
  | cons x l ih => rw [bulk_cons, h, ih, List.length_cons]; omega
theorem bulk_str (l : Str) : bulk l = l.length := bulk_flat (fun _ => rfl) l
theorem bulk_ints (l : List Int) : bulk l = l.length := bulk_flat (fun _ => rfl) l
theorem bulk_take (l : List α) (k : Nat) : bulk (l.take k) ≤ bulk l := by
  have h := bulk_app (l.take k) (l.drop k)
  rw [List.take_append_drop] at h; omega
end
section
variable {α : Type} [Inhabited α]
theorem nth_nat (l : List α) {k : Nat} (h : k < l.length) : nth l (k : Int) = l[k] := by
  unfold nth; rw [Int.toNat_natCast, List.getD_eq_getElem?_getD, List.getElem?_eq_getElem h]; rfl
theorem nth_mem (l : List α) {k : Nat} (h : k < l.length) : nth l (k : Int) ∈ l := by rw [nth_nat l h]; exact List.getElem_mem h
theorem nth_memi (l : List α) {i : Int} (h0 : 0 ≤ i) (h : i < (l.length : Int)) : nth l i ∈ l := by
  obtain ⟨k, rfl⟩ := Int.eq_ofNat_of_zero_le h0
  exact nth_mem l (by omega)
theorem take_nth (l : List α) {k : Nat} (h : k < l.length) : l.take (k + 1) = l.take k ++ [nth l (k : Int)] := by rw [nth_nat l h]; exact List.take_succ_eq_append_getElem h
theorem ext_nth {l m : List α} (h : l.length = m.length) (g : ∀ k, k < l.length → nth l (k : Int) = nth m (k : Int)) : l = m := by
  refine List.ext_getElem h fun k h1 h2 => ?_
  have := g k h1
  rwa [nth_nat l h1, nth_nat m h2] at this
end
/-- the bulk of a row, against what is left -/
theorem szS_shape {α : Type} [Inhabited α] [Bulk α] (el : α → Int → (Int → Prop) → Prop)
    (hel : ∀ (x : α) (left : Int) (Q : Int → Prop), 0 ≤ left → left ≤ 1048576 → (left - (bulk x : Nat) < 0 → Q (-1)) → (0 ≤ left - (bulk x : Nat) → Q (left - (bulk x : Nat))) → el x left Q)
    (a : List α) (left : Int) (Q : Int → Prop) (h0 : 0 ≤ left) (h1 : left ≤ 1048576) (hn : left - (bulk a : Nat) < 0 → Q (-1)) (hp : 0 ≤ left - (bulk a : Nat) → Q (left - (bulk a : Nat))) :
    ((a.length : Int) ≤ 9223372036854775807 → I64 (left - (a.length : Int))) ∧ (if decide (left - (a.length : Int) < 0) then Q (-1) else (∃ (I22 : Int → Int → Prop) (mu23 : Int → Int → Nat), I22 (left - (a.length : Int)) 0 ∧ ∀ (left3 : Int) (i2 : Int), I22 left3 i2 → (if decide (i2 < (a.length : Int)) then ((0 : Int) ≤ i2 ∧ i2 < (a.length : Int)) ∧ el (nth a i2) left3 (fun r => (if decide (r < 0) then Q (-1) else (-9223372036854775808 ≤ i2) ∧ I22 r (i2 + 1) ∧ mu23 r (i2 + 1) < mu23 left3 i2)) else Q left3))) := by
  have hl := bulk_len a
  refine ⟨fun _ => by unfold I64; omega, ?_⟩
  by_cases hc : left - (a.length : Int) < 0
  · rw [if_pos (by simpa using hc)]; exact hn (by omega)
  rw [if_neg (by simpa using hc)]
  refine ⟨fun l i => ∃ k : Nat, i = k ∧ k ≤ a.length ∧ 0 ≤ l ∧ l = left - (bulk (a.take k) : Nat) - ((a.length - k : Nat) : Int), fun _ i => (a.length - i).toNat, ⟨0, rfl, by omega, by omega, by simp [bulk_nil]⟩, ?_⟩
  rintro l _ ⟨k, rfl, hk, hl0, hle⟩
  by_cases hki : (k : Int) < (a.length : Int)
  · rw [if_pos (by simpa using hki)]
    have hk' : k < a.length := by omega
    have e := take_nth a hk'
    have hb : bulk (a.take (k + 1)) = bulk (a.take k) + (1 + bulk (nth a (k : Int))) := by rw [e, bulk_app, bulk_cons, bulk_nil]; omega
    have ht := bulk_app (a.take (k + 1)) (a.drop (k + 1))
    rw [List.take_append_drop] at ht
    have hdl := bulk_len (a.drop (k + 1))
    rw [List.length_drop] at hdl
    refine ⟨⟨by omega, hki⟩, hel (nth a (k : Int)) l _ hl0 (by omega) (fun h => ?_) (fun h => ?_)⟩
    · rw [if_pos (by decide)]; exact hn (by omega)
    · rw [if_neg (by simpa using h)]
      refine ⟨by omega, ⟨k + 1, by omega, by omega, h, ?_⟩, by dsimp only; omega⟩
      rw [hb]; omega
  · rw [if_neg (by simpa using hki)]
    have : k = a.length := by omega
    subst this
    rw [List.take_length, Nat.sub_self] at hle
    have : l = left - (bulk a : Nat) := by omega
    subst this
    exact hp hl0
theorem szL_shape {α : Type} [Bulk α] (hz : ∀ x : α, bulk x = 0) (a : List α) (left : Int) (Q : Int → Prop) (h0 : 0 ≤ left) (h1 : left ≤ 1048576) (hn : left - (bulk a : Nat) < 0 → Q (-1)) (hp : 0 ≤ left - (bulk a : Nat) → Q (left - (bulk a : Nat))) :
    ((a.length : Int) ≤ 9223372036854775807 → I64 (left - (a.length : Int))) ∧ (if decide (left - (a.length : Int) < 0) then Q (-1) else Q (left - (a.length : Int))) := by
  have hl := bulk_flat hz a
  rw [hl] at hn hp
  refine ⟨fun _ => by unfold I64; have := hn; by_cases h : left - (a.length : Int) < 0 <;> omega, ?_⟩
  by_cases hc : left - (a.length : Int) < 0
  · rw [if_pos (by simpa using hc)]; exact hn hc
  · rw [if_neg (by simpa using hc)]; exact hp (by omega)
/-- a row, copied -/
theorem toS_shape {α : Type} [Inhabited α] [Bulk α] (z : α) (el : α → (α → Prop) → Prop) (hel : ∀ x (Q : α → Prop), bulk x ≤ 1048576 → Q x → el x Q) (a : List α) (Q : List α → Prop) (ha : bulk a ≤ 1048576) (hq : Q a) :
    ((0 : Int) ≤ (a.length : Int) ∧ (a.length : Int) ≤ (268435456 : Int)) ∧ (∃ (I41 : (List α) → Int → Prop) (mu42 : (List α) → Int → Nat), I41 (List.replicate (a.length : Int).toNat z) 0 ∧ ∀ (xs2 : List α) (i2 : Int), I41 xs2 i2 → (if decide (i2 < (a.length : Int)) then ((0 : Int) ≤ i2 ∧ i2 < (a.length : Int)) ∧ el (nth a i2) (fun r => ((0 : Int) ≤ i2 ∧ i2 < (xs2.length : Int)) ∧ (-9223372036854775808 ≤ i2) ∧ I41 (xs2.set i2.toNat r) (i2 + 1) ∧ mu42 (xs2.set i2.toNat r) (i2 + 1) < mu42 xs2 i2) else Q xs2)) := by
  have hl := bulk_len a
  refine ⟨⟨by omega, by omega⟩, fun xs i => ∃ k : Nat, i = k ∧ k ≤ a.length ∧ xs.length = a.length ∧ xs.take k = a.take k, fun _ i => (a.length - i).toNat, ⟨0, rfl, by omega, by simp, by simp⟩, ?_⟩
  rintro xs _ ⟨k, rfl, hk, hxl, ht⟩
  by_cases hki : (k : Int) < (a.length : Int)
  · rw [if_pos (by simpa using hki)]
    have hk' : k < a.length := by omega
    refine ⟨⟨by omega, hki⟩, hel _ _ (by have := bulk_mem (nth_mem a hk'); omega) ⟨⟨by omega, by omega⟩, by omega, ⟨k + 1, by omega, by omega, by simp [hxl], ?_⟩, by dsimp only; omega⟩⟩
    rw [Int.toNat_natCast, List.take_succ_eq_append_getElem (by simp; omega), take_nth a hk', List.getElem_set_self, List.take_set_of_le (Nat.le_refl _), ht]
  · rw [if_neg (by simpa using hki)]
    have : k = a.length := by omega
    subst this
    rw [List.take_of_length_le (by omega), List.take_length] at ht
    subst ht; exact hq
/-- two rows, compared -/
theorem eqS_shape {α : Type} [Inhabited α] [DecidableEq α] (el : α → α → Bool) (hel : ∀ x y, el x y = decide (x = y)) (a b : List α) (Q : Bool → Prop) (hq : Q (decide (a = b))) :
    (if (a.length : Int) != (b.length : Int) then Q false else (∃ (I32 : Int → Prop) (mu33 : Int → Nat), I32 0 ∧ ∀ (i2 : Int), I32 i2 → (if decide (i2 < (a.length : Int)) then ((0 : Int) ≤ i2 ∧ i2 < (a.length : Int)) ∧ ((0 : Int) ≤ i2 ∧ i2 < (b.length : Int)) ∧ (if !(el (nth a i2) (nth b i2)) then Q false else (-9223372036854775808 ≤ i2) ∧ I32 (i2 + 1) ∧ mu33 (i2 + 1) < mu33 i2) else Q true))) := by
  by_cases hl : a.length = b.length
  · rw [if_neg (by simp [hl])]
    refine ⟨fun i => ∃ k : Nat, i = k ∧ k ≤ a.length ∧ ∀ j, j < k → nth a (j : Int) = nth b (j : Int), fun i => (a.length - i).toNat, ⟨0, rfl, by omega, fun j hj => absurd hj (by omega)⟩, ?_⟩
    rintro _ ⟨k, rfl, hk, ht⟩
    by_cases hki : (k : Int) < (a.length : Int)
    · rw [if_pos (by simpa using hki)]
      refine ⟨⟨by omega, hki⟩, ⟨by omega, by omega⟩, ?_⟩
      rw [hel]
      by_cases he : nth a (k : Int) = nth b (k : Int)
      · rw [if_neg (by rw [decide_eq_true he]; exact Bool.false_ne_true)]
        refine ⟨by omega, ⟨k + 1, by omega, by omega, fun j hj => ?_⟩, by dsimp only; omega⟩
        by_cases hjk : j = k
        · subst hjk; exact he
        · exact ht j (by omega)
      · rw [if_pos (by rw [decide_eq_false he]; rfl)]
        have : decide (a = b) = false := by
          simp only [decide_eq_false_iff_not]; rintro rfl; exact he rfl
        rw [this] at hq; exact hq
    · rw [if_neg (by simpa using hki)]
      have : a = b := ext_nth hl fun j hj => ht j (by omega)
      rw [decide_eq_true this] at hq; exact hq
  · rw [if_pos (by simp; omega)]
    have : decide (a = b) = false := by
      simp only [decide_eq_false_iff_not]; rintro rfl; exact hl rfl
    rw [this] at hq; exact hq
/-- two rows, compared, with a plain bound -/
theorem eqI_shape {α : Type} [Inhabited α] [DecidableEq α] (el : α → α → Bool) (hel : ∀ x y, el x y = decide (x = y)) (a b : List α) (Q : Bool → Prop) (hb : a.length ≤ 1048576) (hq : Q (decide (a = b))) :
    (if (a.length : Int) != (b.length : Int) then Q false else (∃ (I32 : Int → Prop) (mu33 : Int → Nat), I32 0 ∧ ∀ (i2 : Int), I32 i2 → (if decide (i2 < (a.length : Int)) then ((0 : Int) ≤ i2 ∧ i2 < (a.length : Int)) ∧ ((0 : Int) ≤ i2 ∧ i2 < (b.length : Int)) ∧ (if !(el (nth a i2) (nth b i2)) then Q false else (I64 (i2 + 1)) ∧ I32 (i2 + 1) ∧ mu33 (i2 + 1) < mu33 i2) else Q true))) := by
  have h := eqS_shape el hel a b Q hq
  by_cases hl : ((a.length : Int) != (b.length : Int)) = true
  · rw [if_pos hl] at h ⊢; exact h
  · rw [if_neg hl] at h ⊢
    obtain ⟨I, mu, h0, h1⟩ := h
    refine ⟨fun i => 0 ≤ i ∧ I i, mu, ⟨by omega, h0⟩, fun i ⟨hp, hi⟩ => ?_⟩
    have h2 := h1 i hi
    by_cases hc : decide (i < (a.length : Int)) = true
    · rw [if_pos hc] at h2 ⊢
      have hc' : i < (a.length : Int) := by simpa using hc
      refine ⟨h2.1, h2.2.1, ?_⟩
      have h3 := h2.2.2
      by_cases he : (!(el (nth a i) (nth b i))) = true
      · rw [if_pos he] at h3 ⊢; exact h3
      · rw [if_neg he] at h3 ⊢
        exact ⟨by unfold I64; omega, ⟨by omega, h3.2.1⟩, h3.2.2⟩
    · rw [if_neg hc] at h2 ⊢; exact h2
theorem eqN_shape {α : Type} [Inhabited α] [DecidableEq α] (a b : List α) (Q : Bool → Prop) (hq : Q (decide (a = b))) :
    (if (a.length : Int) != (b.length : Int) then Q false else (∃ (I32 : Int → Prop) (mu33 : Int → Nat), I32 0 ∧ ∀ (i2 : Int), I32 i2 → (if decide (i2 < (a.length : Int)) then ((0 : Int) ≤ i2 ∧ i2 < (a.length : Int)) ∧ ((0 : Int) ≤ i2 ∧ i2 < (b.length : Int)) ∧ (if nth a i2 != nth b i2 then Q false else (-9223372036854775808 ≤ i2) ∧ I32 (i2 + 1) ∧ mu33 (i2 + 1) < mu33 i2) else Q true))) :=
  eqS_shape (fun x y => x == y) (fun x y => by by_cases h : x = y <;> simp [h]) a b Q hq
end Go.Proofs.Ytndjggncgpjolaa

namespace Go.Proofs.Ytndjggncgpjolaa
instance : Bulk l12Rd := ⟨fun x => bulk x.b + bulk x.p⟩
instance : Bulk Pt := ⟨fun x => bulk x.X + bulk x.Y⟩
instance : Bulk Pair := ⟨fun x => bulk x.A + bulk x.B⟩
instance : Bulk Shape := ⟨fun x => bulk x.Kind + bulk x.Pts⟩
instance : Bulk Tag := ⟨fun x => bulk x.Key + bulk x.Val⟩
instance : Bulk Feat := ⟨fun x => bulk x.Id + bulk x.Shape + bulk x.Tags⟩
instance : Bulk Commit := ⟨fun x => bulk x.Up + bulk x.Sheet + bulk x.Note⟩
instance : Bulk Head := ⟨fun x => bulk x.Name + bulk x.At⟩
instance : Bulk Repo := ⟨fun x => bulk x.Commits + bulk x.Heads⟩
instance : Bulk Change := ⟨fun x => bulk x.Id + bulk x.Had + bulk x.Was + bulk x.Has + bulk x.Now⟩
instance : Bulk value := ⟨fun x => bulk x.has + bulk x.val⟩
end Go.Proofs.Ytndjggncgpjolaa

namespace Go.Proofs.Ytndjggncgpjolaa
open Go.RowKit
set_option linter.unusedVariables false
def spec_WordOk.E (s : Str) (Q : Bool → Prop) : Prop :=
  (∃ (I8 : Int → Prop) (mu9 : Int → Nat), I8 0 ∧ ∀ (i2 : Int), I8 i2 → (if decide (i2 < (s.length : Int)) then ((0 : Int) ≤ i2 ∧ i2 < (s.length : Int)) ∧ (if decide (((nth s i2).toNat : Int) < 97) then Q false else ((0 : Int) ≤ i2 ∧ i2 < (s.length : Int)) ∧ (if decide (((nth s i2).toNat : Int) > 122) then Q false else (-9223372036854775808 ≤ i2) ∧ I8 (i2 + 1) ∧ mu9 (i2 + 1) < mu9 i2)) else (if decide ((s.length : Int) ≥ 1) then Q (decide ((s.length : Int) ≤ 6)) else Q false)))
set_option maxHeartbeats 8000000 in
set_option maxRecDepth 100000 in
theorem spec_WordOk.calls {O : Ob} (w0 : World) (hO : Ok w0 O) (s : Str) (hs1 : Lim s) (Q : Bool → Prop) (h : spec_WordOk.E s Q) :
    Ret Try.prog 52 [vs s] w0 (fun v w' => ∃ (r0 : Bool), v = vb r0 ∧ Q r0 ∧ Gr w0 w' none) := by
  have H : (∃ (I8 : Int → Prop) (mu9 : Int → Nat), I8 0 ∧ ∀ (i2 : Int), I8 i2 → (if decide (i2 < (s.length : Int)) then ((0 : Int) ≤ i2 ∧ i2 < (s.length : Int)) ∧ (if decide (((nth s i2).toNat : Int) < 97) then Q false else ((0 : Int) ≤ i2 ∧ i2 < (s.length : Int)) ∧ (if decide (((nth s i2).toNat : Int) > 122) then Q false else (-9223372036854775808 ≤ i2) ∧ I8 (i2 + 1) ∧ mu9 (i2 + 1) < mu9 i2)) else (if decide ((s.length : Int) ≥ 1) then Q (decide ((s.length : Int) ≤ 6)) else Q false))) := h
  clear h
  have hc0 := Ct.init hO
  refine Ret_enter Try.func52 rfl 28 rfl [.tmp 2] rfl rfl ?_
  refine W_seq ?_
  refine W_reg ?_
  refine L_pu (P_assign (vb false) rfl) ?_
  refine L_nil ?_
  refine W_seq ?_
  refine W_seq ?_
  refine W_reg ?_
  refine L_pu (P_assign (vi 0) rfl) ?_
  refine L_nil ?_
  refine W_block ?_
  obtain ⟨I8, mu9, hI10, H⟩ := H
  refine W_loop (α := Int) (fun (sv__ : Int) t w6 => match sv__ with | i2 => I8 i2 ∧ Has t [(0, vs s), (3, vi i2)] ∧ Ct [] w0 w6 [] O) (fun (sv__ : Int) => match sv__ with | i2 => mu9 i2) 0 ⟨hI10, ⟨rfl, rfl, trivial⟩, hc0⟩ ?_
  rintro i2 _ w6 ⟨hI10, hh12, hc7⟩
  obtain ⟨u13, rfl⟩ := Has.ins hh12
  have H := H i2 hI10
  refine W_seq ?_
  refine W_seq ?_
  refine W_reg ?_
  refine L_pu (P_move (vi i2) rfl) ?_
  refine L_pu (P_move (vs s) rfl) ?_
  have hl14 := hs1
  refine L_pu (P_lens Try.underlying9 s rfl) ?_
  refine L_pu (P_cmp i2 (s.length : Int) (decide (i2 < (s.length : Int))) rfl rfl rfl) ?_
  refine L_nil ?_
  refine W_cond (decide (i2 < (s.length : Int))) rfl (fun hq15 => ?_) (fun hq15 => ?_)
  · have H := ite_t H hq15
    refine W_skip ?_
    refine W_seq ?_
    refine W_block ?_
    refine W_seq ?_
    refine W_reg ?_
    refine L_pu (P_move (vs s) rfl) ?_
    refine L_pu (P_move (vi i2) rfl) ?_
    obtain ⟨hb16, H⟩ := H
    refine L_pu (P_index Try.underlying9 s i2 rfl rfl hb16) ?_
    refine L_pu (P_cmp ((nth s i2).toNat : Int) 97 (decide (((nth s i2).toNat : Int) < 97)) rfl rfl rfl) ?_
    refine L_pu (P_move (vb (decide (((nth s i2).toNat : Int) < 97))) rfl) ?_
    rcases bool_or (decide (((nth s i2).toNat : Int) < 97)) with hq17 | hq17
    · have H := ite_t H hq17
      refine L_pass (dj := 14) rfl rfl (.inl (by exact congrArg Value.bool hq17)) ?_
      refine L_pass (dj := 14) rfl rfl (.inl (by exact congrArg Value.bool hq17)) ?_
      refine L_pass (dj := 14) rfl rfl (.inl (by exact congrArg Value.bool hq17)) ?_
      refine L_pass (dj := 14) rfl rfl (.inl (by exact congrArg Value.bool hq17)) ?_
      refine L_pu (P_pick true (vb true) (by exact congrArg Value.bool hq17) rfl) ?_
      refine L_nil ?_
      refine W_ct (b := true) rfl rfl ?_
      refine W_seq ?_
      refine W_reg ?_
      refine L_pu (P_assign (vb false) rfl) ?_
      refine L_nil ?_
      refine W_ret ?_
      exact ⟨[vb false], ⟨_, rfl, rfl⟩, false, rfl, H, hc7.gr.g0⟩
    · have H := ite_f H hq17
      refine L_run (dj := 14) rfl rfl (by exact congrArg Value.bool hq17) ?_
      refine L_pu (P_move (vs s) rfl) ?_
      refine L_run (dj := 14) rfl rfl (by exact congrArg Value.bool hq17) ?_
      refine L_pu (P_move (vi i2) rfl) ?_
      refine L_run (dj := 14) rfl rfl (by exact congrArg Value.bool hq17) ?_
      obtain ⟨hb18, H⟩ := H
      refine L_pu (P_index Try.underlying9 s i2 rfl rfl hb18) ?_
      refine L_run (dj := 14) rfl rfl (by exact congrArg Value.bool hq17) ?_
      refine L_pu (P_cmp ((nth s i2).toNat : Int) 122 (decide (((nth s i2).toNat : Int) > 122)) rfl rfl rfl) ?_
      refine L_pu (P_pick false (vb (decide (((nth s i2).toNat : Int) > 122))) (by exact congrArg Value.bool hq17) rfl) ?_
      refine L_nil ?_
      refine W_cond (decide (((nth s i2).toNat : Int) > 122)) rfl (fun hq19 => ?_) (fun hq19 => ?_)
      · have H := ite_t H hq19
        refine W_seq ?_
        refine W_reg ?_
        refine L_pu (P_assign (vb false) rfl) ?_
        refine L_nil ?_
        refine W_ret ?_
        exact ⟨[vb false], ⟨_, rfl, rfl⟩, false, rfl, H, hc7.gr.g0⟩
      · have H := ite_f H hq19
        refine W_skip ?_
        refine W_reg ?_
        refine L_pu (P_move (vi i2) rfl) ?_
        obtain ⟨hb21, H⟩ := H
        have hi20 : I64 (i2 + 1) := i64_succ (of_decide_eq_true hq15) hl14 hb21
        refine L_pu (P_add i2 1 rfl rfl hi20) ?_
        refine L_pu (P_assign (vi (i2 + 1)) rfl) ?_
        refine L_nil ?_
        obtain ⟨hI22, hm23⟩ := H
        exact ⟨i2 + 1, hm23, hI22, ⟨rfl, rfl, trivial⟩, hc7⟩
  · have H := ite_f H hq15
    refine W_exit (xin_hit ?_)
    refine W_seq ?_
    refine W_reg ?_
    refine L_pu (P_move (vs s) rfl) ?_
    refine L_pu (P_lens Try.underlying9 s rfl) ?_
    refine L_pu (P_cmp (s.length : Int) 1 (decide ((s.length : Int) ≥ 1)) rfl rfl rfl) ?_
    refine L_pu (P_move (vb (decide ((s.length : Int) ≥ 1))) rfl) ?_
    rcases bool_or (decide ((s.length : Int) ≥ 1)) with hq24 | hq24
    · have H := ite_t H hq24
      refine L_run (dj := 23) rfl rfl (by exact congrArg Value.bool hq24) ?_
      refine L_pu (P_move (vs s) rfl) ?_
      refine L_run (dj := 23) rfl rfl (by exact congrArg Value.bool hq24) ?_
      refine L_pu (P_lens Try.underlying9 s rfl) ?_
      refine L_run (dj := 23) rfl rfl (by exact congrArg Value.bool hq24) ?_
      refine L_pu (P_cmp (s.length : Int) 6 (decide ((s.length : Int) ≤ 6)) rfl rfl rfl) ?_
      refine L_pu (P_pick true (vb (decide ((s.length : Int) ≤ 6))) (by exact congrArg Value.bool hq24) rfl) ?_
      refine L_pu (P_assign (vb (decide ((s.length : Int) ≤ 6))) rfl) ?_
      refine L_nil ?_
      refine W_ret ?_
      exact ⟨[vb (decide ((s.length : Int) ≤ 6))], ⟨_, rfl, rfl⟩, decide ((s.length : Int) ≤ 6), rfl, H, hc7.gr.g0⟩
    · have H := ite_f H hq24
      refine L_pass (dj := 23) rfl rfl (.inl (by exact congrArg Value.bool hq24)) ?_
      refine L_pass (dj := 23) rfl rfl (.inl (by exact congrArg Value.bool hq24)) ?_
      refine L_pass (dj := 23) rfl rfl (.inl (by exact congrArg Value.bool hq24)) ?_
      refine L_pu (P_pick false (vb false) (by exact congrArg Value.bool hq24) rfl) ?_
      refine L_pu (P_assign (vb false) rfl) ?_
      refine L_nil ?_
      refine W_ret ?_
      exact ⟨[vb false], ⟨_, rfl, rfl⟩, false, rfl, H, hc7.gr.g0⟩
end Go.Proofs.Ytndjggncgpjolaa

/- Words: what two rows have in common, in plain lists. -/
namespace Go.Proofs.Ytndjggncgpjolaa
set_option linter.unusedSimpArgs false
set_option linter.unusedVariables false
set_option linter.unusedSectionVars false
section
variable {α : Type} [DecidableEq α]
def lcsR (x : α) (p : List α → Nat) : List α → Nat
  | [] => 0
  | y :: b => if x = y then p b + 1 else max (p (y :: b)) (lcsR x p b)
def lcs : List α → List α → Nat
  | [] => fun _ => 0
  | x :: a => lcsR x (lcs a)
@[simp] theorem lcs_nil (b : List α) : lcs [] b = 0 := rfl
@[simp] theorem lcs_nil2 (a : List α) : lcs a [] = 0 := by cases a <;> rfl
theorem lcs_cons (x y : α) (a b : List α) : lcs (x :: a) (y :: b) = if x = y then lcs a b + 1 else max (lcs a (y :: b)) (lcs (x :: a) b) := rfl
theorem lcs_sub (a b : List α) : ∃ s : List α, s.Sublist a ∧ s.Sublist b ∧ s.length = lcs a b := by
  induction a generalizing b with
  | nil => exact ⟨[], List.nil_sublist _, List.nil_sublist _, rfl⟩
  | cons x a ih =>
    induction b with
    | nil => exact ⟨[], List.nil_sublist _, List.nil_sublist _, rfl⟩
    | cons y b ihb =>
      rw [lcs_cons]
      by_cases h : x = y
      · subst h
        obtain ⟨s, h1, h2, h3⟩ := ih b
        exact ⟨x :: s, h1.cons_cons x, h2.cons_cons x, by rw [if_pos rfl, ← h3]; rfl⟩
      · rw [if_neg h]
        by_cases hm : lcs (x :: a) b ≤ lcs a (y :: b)
        · obtain ⟨s, h1, h2, h3⟩ := ih (y :: b)
          exact ⟨s, h1.cons x, h2, by omega⟩
        · obtain ⟨s, h1, h2, h3⟩ := ihb
          exact ⟨s, h1, h2.cons y, by omega⟩
theorem lcs_max {s a b : List α} (h1 : s.Sublist a) (h2 : s.Sublist b) : s.length ≤ lcs a b := by
  induction a generalizing s b with
  | nil => rw [List.sublist_nil.1 h1]; exact Nat.zero_le _
  | cons x a ih =>
    induction b generalizing s with
    | nil => rw [List.sublist_nil.1 h2]; exact Nat.zero_le _
    | cons y b ihb =>
      rw [lcs_cons]
      by_cases h : x = y
      · subst h
        rw [if_pos rfl]
        cases s with
        | nil => exact Nat.zero_le _
        | cons z s =>
          have := ih (List.Sublist.tail h1) (List.Sublist.tail h2)
          simp only [List.tail_cons] at this
          simp only [List.length_cons]; omega
      · rw [if_neg h]
        cases h1 with
        | cons _ h1 => have := ih h1 h2; omega
        | cons_cons _ h1 =>
          cases h2 with
          | cons _ h2 => have := ihb (h1.cons_cons x) h2; omega
          | cons_cons _ h2 => exact absurd rfl h
theorem lcs_le1 (a b : List α) : lcs a b ≤ a.length := by
  obtain ⟨s, h1, h2, h3⟩ := lcs_sub a b; rw [← h3]; exact h1.length_le
theorem lcs_le2 (a b : List α) : lcs a b ≤ b.length := by
  obtain ⟨s, h1, h2, h3⟩ := lcs_sub a b; rw [← h3]; exact h2.length_le
theorem lcs_comm (a b : List α) : lcs a b = lcs b a := by
  apply Nat.le_antisymm
  · obtain ⟨s, h1, h2, h3⟩ := lcs_sub a b; rw [← h3]; exact lcs_max h2 h1
  · obtain ⟨s, h1, h2, h3⟩ := lcs_sub b a; rw [← h3]; exact lcs_max h2 h1
theorem lcs_mono {a a' b b' : List α} (ha : a.Sublist a') (hb : b.Sublist b') : lcs a b ≤ lcs a' b' := by
  obtain ⟨s, h1, h2, h3⟩ := lcs_sub a b; rw [← h3]; exact lcs_max (h1.trans ha) (h2.trans hb)
theorem lcs_sub_eq {a b : List α} (h : a.Sublist b) : lcs a b = a.length :=
  Nat.le_antisymm (lcs_le1 a b) (lcs_max (List.Sublist.refl a) h)
theorem lcs_self (a : List α) : lcs a a = a.length := lcs_sub_eq (List.Sublist.refl a)
theorem lcs_insert (u v b : List α) (x : α) : lcs (u ++ x :: v) b ≤ lcs (u ++ v) b + 1 := by
  obtain ⟨s, h1, h2, h3⟩ := lcs_sub (u ++ x :: v) b
  obtain ⟨s1, s2, rfl, h4, h5⟩ := List.sublist_append_iff.1 h1
  have : ∃ r : List α, r.Sublist v ∧ r.Sublist s2 ∧ s2.length ≤ r.length + 1 := by
    cases h5 with
    | cons _ h => exact ⟨s2, h, List.Sublist.refl _, by omega⟩
    | cons_cons _ h => exact ⟨_, h, List.sublist_cons_self _ _, Nat.le_refl _⟩
  obtain ⟨r, r1, r2, r3⟩ := this
  have := lcs_max (h4.append r1) (((List.Sublist.refl s1).append r2).trans h2)
  simp only [List.length_append] at this h3; omega
theorem lcs_insert_le (u v b : List α) (x : α) : lcs (u ++ v) b ≤ lcs (u ++ x :: v) b :=
  lcs_mono ((List.Sublist.refl u).append (List.sublist_cons_self x v)) (List.Sublist.refl b)
theorem lcs_snoc (a b : List α) (x : α) : lcs (a ++ [x]) (b ++ [x]) = lcs a b + 1 := by
  apply Nat.le_antisymm
  · obtain ⟨s, h1, h2, h3⟩ := lcs_sub (a ++ [x]) (b ++ [x])
    have f : ∀ {a : List α}, s.Sublist (a ++ [x]) → s.dropLast.Sublist a := fun {a} h => by
      have := h.reverse.tail.reverse
      rw [List.reverse_append, List.reverse_singleton, List.singleton_append, List.tail_cons, List.reverse_reverse, List.tail_reverse, List.reverse_reverse] at this
      exact this
    have := lcs_max (f h1) (f h2)
    rw [List.length_dropLast] at this; omega
  · obtain ⟨s, h1, h2, h3⟩ := lcs_sub a b
    have := lcs_max (h1.append (List.Sublist.refl [x])) (h2.append (List.Sublist.refl [x]))
    simp only [List.length_append, List.length_singleton] at this; omega
theorem lcs_append (a b c : List α) : lcs (a ++ c) (b ++ c) = lcs a b + c.length := by
  induction c generalizing a b with
  | nil => simp
  | cons x c ih =>
    have h : ∀ l : List α, l ++ x :: c = l ++ [x] ++ c := fun l => by simp
    rw [h, h, ih, lcs_snoc, List.length_cons]; omega

/-! ### pairs -/
theorem pp {a b c d : Nat} (h : a = c) (k : b = d) : (a, b) = (c, d) := by rw [h, k]
def pairs (i j : Nat) : List α → List α → List (Nat × Nat)
  | x :: a, y :: b => if x = y then (i, j) :: pairs (i + 1) (j + 1) a b else if lcs (x :: a) b ≤ lcs a (y :: b) then pairs (i + 1) j a (y :: b) else pairs i (j + 1) (x :: a) b
  | [], _ => []
  | _ :: _, [] => []
  termination_by a b => a.length + b.length
theorem pairs_nil (i j : Nat) (b : List α) : pairs i j [] b = [] := by rw [pairs]
theorem pairs_nil2 (i j : Nat) (a : List α) : pairs i j a [] = [] := by cases a <;> rw [pairs]
theorem pairs_cons (i j : Nat) (x y : α) (a b : List α) : pairs i j (x :: a) (y :: b) = if x = y then (i, j) :: pairs (i + 1) (j + 1) a b else if lcs (x :: a) b ≤ lcs a (y :: b) then pairs (i + 1) j a (y :: b) else pairs i (j + 1) (x :: a) b := by rw [pairs]
theorem pairs_ind {C : Nat → Nat → List α → List α → Prop} (h0 : ∀ i j b, C i j [] b) (h1 : ∀ i j a, C i j a [])
    (he : ∀ i j x a b, C (i + 1) (j + 1) a b → C i j (x :: a) (x :: b))
    (ha : ∀ i j x y a b, x ≠ y → lcs (x :: a) b ≤ lcs a (y :: b) → C (i + 1) j a (y :: b) → C i j (x :: a) (y :: b))
    (hb : ∀ i j x y a b, x ≠ y → ¬ lcs (x :: a) b ≤ lcs a (y :: b) → C i (j + 1) (x :: a) b → C i j (x :: a) (y :: b)) : ∀ i j (a b : List α), C i j a b := by
  have : ∀ n i j (a b : List α), a.length + b.length ≤ n → C i j a b := by
    intro n
    induction n with
    | zero => intro i j a b h; cases a with
      | nil => exact h0 _ _ _
      | cons _ _ => simp at h
    | succ n ih =>
      intro i j a b h
      cases a with
      | nil => exact h0 _ _ _
      | cons x a => cases b with
        | nil => exact h1 _ _ _
        | cons y b =>
          simp only [List.length_cons] at h
          by_cases e : x = y
          · subst e; exact he _ _ _ _ _ (ih _ _ _ _ (by omega))
          · by_cases l : lcs (x :: a) b ≤ lcs a (y :: b)
            · exact ha _ _ _ _ _ _ e l (ih _ _ _ _ (by simp only [List.length_cons]; omega))
            · exact hb _ _ _ _ _ _ e l (ih _ _ _ _ (by simp only [List.length_cons]; omega))
  exact fun i j a b => this _ i j a b (Nat.le_refl _)
theorem pairs_len (i j : Nat) (a b : List α) : (pairs i j a b).length = lcs a b := by
  refine pairs_ind (C := fun i j a b => (pairs i j a b).length = lcs a b) ?_ ?_ ?_ ?_ ?_ i j a b
  · intros; rw [pairs_nil]; rfl
  · intros; rw [pairs_nil2, lcs_nil2]; rfl
  · intro i j x a b h; rw [pairs_cons, if_pos rfl, lcs_cons, if_pos rfl, List.length_cons, h]
  · intro i j x y a b e l h; rw [pairs_cons, if_neg e, if_pos l, lcs_cons, if_neg e, h]; exact (Nat.max_eq_left l).symm
  · intro i j x y a b e l h; rw [pairs_cons, if_neg e, if_neg l, lcs_cons, if_neg e, h]; exact (Nat.max_eq_right (by omega)).symm
/-- what is paired lies at or behind the two places, and holds the same -/
theorem pairs_mem (i j : Nat) (a b : List α) : ∀ p ∈ pairs i j a b, ∃ k l, p = (i + k, j + l) ∧ ∃ x, a[k]? = some x ∧ b[l]? = some x := by
  refine pairs_ind (C := fun i j a b => ∀ p ∈ pairs i j a b, ∃ k l, p = (i + k, j + l) ∧ ∃ x, a[k]? = some x ∧ b[l]? = some x) ?_ ?_ ?_ ?_ ?_ i j a b
  · intro i j b p h; rw [pairs_nil] at h; cases h
  · intro i j a p h; rw [pairs_nil2] at h; cases h
  · intro i j x a b ih p h
    rw [pairs_cons, if_pos rfl] at h
    rcases List.mem_cons.1 h with rfl | h
    · exact ⟨0, 0, rfl, x, rfl, rfl⟩
    · obtain ⟨k, l, rfl, z, h1, h2⟩ := ih p h
      exact ⟨k + 1, l + 1, pp (by omega) (by omega), z, h1, h2⟩
  · intro i j x y a b e l ih p h
    rw [pairs_cons, if_neg e, if_pos l] at h
    obtain ⟨k, l, rfl, z, h1, h2⟩ := ih p h
    exact ⟨k + 1, l, pp (by omega) (by omega), z, h1, h2⟩
  · intro i j x y a b e l ih p h
    rw [pairs_cons, if_neg e, if_neg l] at h
    obtain ⟨k, l, rfl, z, h1, h2⟩ := ih p h
    exact ⟨k, l + 1, pp (by omega) (by omega), z, h1, h2⟩
theorem pairs_ord (i j : Nat) (a b : List α) : (pairs i j a b).Pairwise (fun p q => p.1 < q.1 ∧ p.2 < q.2) := by
  refine pairs_ind (C := fun i j a b => (pairs i j a b).Pairwise (fun p q => p.1 < q.1 ∧ p.2 < q.2)) ?_ ?_ ?_ ?_ ?_ i j a b
  · intros; rw [pairs_nil]; exact List.Pairwise.nil
  · intros; rw [pairs_nil2]; exact List.Pairwise.nil
  · intro i j x a b h; rw [pairs_cons, if_pos rfl]
    refine List.Pairwise.cons (fun p hp => ?_) h
    obtain ⟨k, l, rfl, _⟩ := pairs_mem _ _ _ _ p hp
    exact ⟨by dsimp only; omega, by dsimp only; omega⟩
  · intro i j x y a b e l h; rw [pairs_cons, if_neg e, if_pos l]; exact h
  · intro i j x y a b e l h; rw [pairs_cons, if_neg e, if_neg l]; exact h
theorem pairs_self (i j : Nat) (a b : List α) : pairs i j a (a ++ b) = (List.range a.length).map fun k => (i + k, j + k) := by
  induction a generalizing i j with
  | nil => exact pairs_nil _ _ _
  | cons x a ih =>
    rw [List.cons_append, pairs_cons, if_pos rfl, ih, List.length_cons, List.range_succ_eq_map, List.map_cons, List.map_map]
    congr 1
    apply List.map_congr_left; intro k _; simp only [Function.comp, Prod.mk.injEq]; omega
theorem pairs_cons_self (i j : Nat) (x : α) (a b : List α) : pairs i j (x :: a) (x :: b) = (i, j) :: pairs (i + 1) (j + 1) a b := by rw [pairs_cons, if_pos rfl]
theorem pairs_shift (i j : Nat) (a b : List α) (u v : Nat) : pairs (i + u) (j + v) a b = (pairs i j a b).map fun p => (p.1 + u, p.2 + v) := by
  refine pairs_ind (C := fun i j a b => pairs (i + u) (j + v) a b = (pairs i j a b).map fun p => (p.1 + u, p.2 + v)) ?_ ?_ ?_ ?_ ?_ i j a b
  · intros; rw [pairs_nil, pairs_nil]; rfl
  · intros; rw [pairs_nil2, pairs_nil2]; rfl
  · intro i j x a b h; rw [pairs_cons_self, pairs_cons_self, List.map_cons, ← h, Nat.add_right_comm i, Nat.add_right_comm j]
  · intro i j x y a b e l h; rw [pairs_cons, if_neg e, if_pos l, pairs_cons, if_neg e, if_pos l, ← h, Nat.add_right_comm i]
  · intro i j x y a b e l h; rw [pairs_cons, if_neg e, if_neg l, pairs_cons, if_neg e, if_neg l, ← h, Nat.add_right_comm j]
/-- one more that neither holds, at the end of both -/
theorem pairs_snoc (p : α) (i j : Nat) (a b : List α) : p ∉ a → p ∉ b → pairs i j (a ++ [p]) (b ++ [p]) = pairs i j a b ++ [(i + a.length, j + b.length)] := by
  refine pairs_ind (C := fun i j a b => p ∉ a → p ∉ b → pairs i j (a ++ [p]) (b ++ [p]) = pairs i j a b ++ [(i + a.length, j + b.length)]) ?_ ?_ ?_ ?_ ?_ i j a b
  · intro i j b _ hb
    rw [pairs_nil]
    induction b generalizing j with
    | nil => rw [List.nil_append, List.nil_append, pairs_cons_self, pairs_nil]; rfl
    | cons y b ih =>
      have : p ≠ y := fun e => hb (e ▸ List.mem_cons_self)
      have ih := ih (j + 1) (fun h => hb (List.mem_cons_of_mem _ h))
      rw [List.nil_append] at ih
      rw [List.nil_append, List.cons_append, pairs_cons, if_neg this, if_neg, ih]
      · simp only [List.nil_append, List.length_nil, List.length_cons, List.cons.injEq, Prod.mk.injEq, and_true, Nat.add_zero, true_and]; omega
      · have := lcs_snoc [] b p
        rw [List.nil_append] at this
        rw [lcs_nil, this]; omega
  · intro i j a ha _
    rw [pairs_nil2]
    induction a generalizing i with
    | nil => rw [List.nil_append, pairs_cons_self, pairs_nil]; rfl
    | cons y a ih =>
      have : y ≠ p := fun e => ha (e ▸ List.mem_cons_self)
      have ih := ih (i + 1) (fun h => ha (List.mem_cons_of_mem _ h))
      rw [List.nil_append] at ih
      rw [List.nil_append, List.cons_append, pairs_cons, if_neg this, if_pos, ih]
      · simp only [List.nil_append, List.length_nil, List.length_cons, List.cons.injEq, Prod.mk.injEq, and_true, Nat.add_zero, true_and]; omega
      · rw [lcs_nil2]; omega
  · intro i j x a b ih ha hb
    rw [List.cons_append, List.cons_append, pairs_cons_self, pairs_cons_self, ih (fun h => ha (List.mem_cons_of_mem _ h)) (fun h => hb (List.mem_cons_of_mem _ h))]
    simp only [List.length_cons, List.cons_append, List.cons.injEq, true_and, List.append_cancel_left_eq, Prod.mk.injEq, and_true]; omega
  · intro i j x y a b e l ih ha hb
    rw [List.cons_append, List.cons_append, pairs_cons, if_neg e, if_pos, pairs_cons, if_neg e, if_pos l, ← List.cons_append, ih (fun h => ha (List.mem_cons_of_mem _ h)) hb]
    · simp only [List.length_cons]; congr 2; exact pp (by omega) (by omega)
    · rw [← List.cons_append, ← List.cons_append, lcs_snoc, lcs_snoc]; omega
  · intro i j x y a b e l ih ha hb
    rw [List.cons_append, List.cons_append, pairs_cons, if_neg e, if_neg, pairs_cons, if_neg e, if_neg l, ← List.cons_append, ih ha (fun h => hb (List.mem_cons_of_mem _ h))]
    · simp only [List.length_cons]; congr 2; exact pp (by omega) (by omega)
    · rw [← List.cons_append, ← List.cons_append, lcs_snoc, lcs_snoc]; omega

end
section
variable {α : Type} [Inhabited α]
theorem nth_set (l : List α) {k : Nat} (h : k < l.length) (m : Nat) (v : α) : nth (l.set k v) (m : Int) = if m = k then v else nth l (m : Int) := by
  unfold nth
  rw [Int.toNat_natCast, List.getD_eq_getElem?_getD, List.getD_eq_getElem?_getD, List.getElem?_set]
  by_cases e : m = k
  · subst e; rw [if_pos rfl, if_pos rfl, if_pos h]; rfl
  · rw [if_neg (fun x => e x.symm), if_neg e]
theorem nth_rep (n m : Nat) (v : α) (h : m < n) : nth (List.replicate n v) (m : Int) = v := by
  rw [nth_nat _ (by simpa using h)]; simp
theorem drop_nth (l : List α) {k : Nat} (h : k < l.length) : l.drop k = nth l (k : Int) :: l.drop (k + 1) := by
  rw [nth_nat l h]; exact List.drop_eq_getElem_cons h
/-- the elements from one place to another -/
def seg (l : List α) (i j : Nat) : List α := (l.drop i).take (j - i)
theorem seg_len (l : List α) (i j : Nat) (h : j ≤ l.length) : (seg l i j).length = j - i := by
  unfold seg; rw [List.length_take, List.length_drop]; omega
theorem seg_end (l : List α) (i : Nat) : seg l i l.length = l.drop i := List.take_of_length_le (by simp)
theorem seg_app (l : List α) {i j : Nat} (h : i ≤ j) : seg l i j ++ l.drop j = l.drop i := by
  unfold seg
  have : l.drop j = (l.drop i).drop (j - i) := by rw [List.drop_drop]; congr 1; omega
  rw [this, List.take_append_drop]
theorem seg_self (l : List α) (i : Nat) : seg l i i = [] := by unfold seg; rw [Nat.sub_self, List.take_zero]
theorem seg_cons (x : α) (l : List α) (i j : Nat) : seg (x :: l) (i + 1) (j + 1) = seg l i j := by unfold seg; rw [List.drop_succ_cons, Nat.add_sub_add_right]
theorem seg_snoc (x : α) (l : List α) (i j : Nat) (h : j ≤ l.length) (hij : i ≤ j) : seg (l ++ [x]) i j = seg l i j := by
  unfold seg; rw [List.drop_append_of_le_length (by omega), List.take_append_of_le_length (by rw [List.length_drop]; omega)]
theorem nth_cons (x : α) (l : List α) (k : Nat) : nth (x :: l) ((k + 1 : Nat) : Int) = nth l (k : Int) := rfl
theorem nth_zero (x : α) (l : List α) : nth (x :: l) ((0 : Nat) : Int) = x := rfl
theorem nth_app (l m : List α) {k : Nat} (h : k < l.length) : nth (l ++ m) (k : Int) = nth l (k : Int) := by
  rw [nth_nat _ (by rw [List.length_append]; omega), nth_nat _ h, List.getElem_append_left]
theorem nth_snoc (l : List α) (x : α) : nth (l ++ [x]) (l.length : Int) = x := by
  rw [nth_nat _ (by simp)]; simp
theorem mem_nth {l : List α} {x : α} (h : x ∈ l) : ∃ k : Nat, k < l.length ∧ nth l (k : Int) = x := by
  obtain ⟨k, hk, rfl⟩ := List.getElem_of_mem h
  exact ⟨k, hk, nth_nat l hk⟩
variable [DecidableEq α]
theorem lcs_drop (a b : List α) {i j : Nat} (hi : i < a.length) (hj : j < b.length) : lcs (a.drop i) (b.drop j) = if nth a (i : Int) = nth b (j : Int) then lcs (a.drop (i + 1)) (b.drop (j + 1)) + 1 else max (lcs (a.drop (i + 1)) (b.drop j)) (lcs (a.drop i) (b.drop (j + 1))) := by
  rw [drop_nth a hi, drop_nth b hj, lcs_cons, ← drop_nth a hi, ← drop_nth b hj]
theorem pairs_drop (a b : List α) {i j : Nat} (hi : i < a.length) (hj : j < b.length) : pairs i j (a.drop i) (b.drop j) = if nth a (i : Int) = nth b (j : Int) then (i, j) :: pairs (i + 1) (j + 1) (a.drop (i + 1)) (b.drop (j + 1)) else if lcs (a.drop i) (b.drop (j + 1)) ≤ lcs (a.drop (i + 1)) (b.drop j) then pairs (i + 1) j (a.drop (i + 1)) (b.drop j) else pairs i (j + 1) (a.drop i) (b.drop (j + 1)) := by
  rw [drop_nth a hi, drop_nth b hj, pairs_cons, ← drop_nth a hi, ← drop_nth b hj]

/-! ### of two rows one -/
def pickL (o a b : List α) : Option (List α) := if a = o then some b else if b = o then some a else if a = b then some a else none
theorem pickL_comm (o a b : List α) : pickL o a b = pickL o b a := by
  unfold pickL
  by_cases h1 : a = o <;> by_cases h2 : b = o
  · subst h1; subst h2; rfl
  · rw [if_pos h1, if_neg h2, if_pos h1]
  · rw [if_neg h1, if_pos h2, if_pos h2]
  · rw [if_neg h1, if_neg h2, if_neg h2, if_neg h1]
    by_cases h3 : a = b
    · subst h3; rfl
    · rw [if_neg h3, if_neg (fun e => h3 e.symm)]
theorem pickL_old (o a : List α) : pickL o a o = some a := by
  unfold pickL
  by_cases h : a = o
  · rw [if_pos h, h]
  · rw [if_neg h, if_pos rfl]
theorem pickL_same (o a : List α) : pickL o a a = some a := by
  unfold pickL
  by_cases h : a = o
  · rw [if_pos h]
  · rw [if_neg h, if_neg h, if_pos rfl]
theorem pickL_none (a b : List α) : pickL [] a b = if a = [] then some b else if b = [] then some a else if a = b then some a else none := rfl
theorem pickL_mem {o a b r : List α} (h : pickL o a b = some r) : (∀ z ∈ r, z ∈ a ∨ z ∈ b) ∧ (∀ z ∈ a, z ∈ o ∨ z ∈ r) ∧ (∀ z ∈ b, z ∈ o ∨ z ∈ r) ∧ r.length ≤ a.length + b.length := by
  unfold pickL at h
  by_cases h1 : a = o
  · rw [if_pos h1] at h; cases h; subst h1
    exact ⟨fun z hz => .inr hz, fun z hz => .inl hz, fun z hz => .inr hz, by omega⟩
  · rw [if_neg h1] at h
    by_cases h2 : b = o
    · rw [if_pos h2] at h; cases h; subst h2
      exact ⟨fun z hz => .inl hz, fun z hz => .inr hz, fun z hz => .inl hz, by omega⟩
    · rw [if_neg h2] at h
      by_cases h3 : a = b
      · rw [if_pos h3] at h; cases h; subst h3
        exact ⟨fun z hz => .inl hz, fun z hz => .inr hz, fun z hz => .inr hz, by omega⟩
      · rw [if_neg h3] at h; cases h
/-- from a place on: n places of the old row are left -/
def mloop (o a b : List α) (f g : Nat → Option Nat) : Nat → Nat → Nat → Nat → Nat → Option (List α)
  | 0, _, i, j, k => pickL (o.drop i) (a.drop j) (b.drop k)
  | n + 1, at_, i, j, k => match f at_, g at_ with
    | some x, some y => (pickL (seg o i at_) (seg a j x) (seg b k y)).bind fun p => (mloop o a b f g n (at_ + 1) (at_ + 1) (x + 1) (y + 1)).map fun r => p ++ nth o (at_ : Int) :: r
    | _, _ => mloop o a b f g n (at_ + 1) i j k
theorem mloop_zero (o a b : List α) (f g : Nat → Option Nat) (t i j k : Nat) : mloop o a b f g 0 t i j k = pickL (o.drop i) (a.drop j) (b.drop k) := rfl
theorem mloop_some {o a b : List α} {f g : Nat → Option Nat} {n t i j k x y : Nat} (hf : f t = some x) (hg : g t = some y) : mloop o a b f g (n + 1) t i j k = (pickL (seg o i t) (seg a j x) (seg b k y)).bind fun p => (mloop o a b f g n (t + 1) (t + 1) (x + 1) (y + 1)).map fun r => p ++ nth o (t : Int) :: r := by
  rw [mloop, hf, hg]
theorem mloop_none {o a b : List α} {f g : Nat → Option Nat} {n t i j k : Nat} (h : f t = none ∨ g t = none) : mloop o a b f g (n + 1) t i j k = mloop o a b f g n (t + 1) i j k := by
  rw [mloop]
  rcases h with h | h
  · rw [h]
  · rw [h]; cases f t <;> rfl
/-- what a row's partners are: in order, within, and alike -/
structure Mates (o a : List α) (f : Nat → Option Nat) : Prop where
  lt : ∀ {t x}, f t = some x → t < o.length ∧ x < a.length
  eq : ∀ {t x}, f t = some x → nth o (t : Int) = nth a (x : Int)
  mono : ∀ {t x u y}, f t = some x → f u = some y → t < u → x < y
/-- no partner of a place at or behind one lies ahead of j -/
def From (f : Nat → Option Nat) (t j : Nat) : Prop := ∀ u x, t ≤ u → f u = some x → j ≤ x
theorem From.zero (f : Nat → Option Nat) (t : Nat) : From f t 0 := fun _ _ _ _ => Nat.zero_le _
theorem From.skip {f : Nat → Option Nat} {t j : Nat} (h : From f t j) : From f (t + 1) j := fun u x hu hx => h u x (by omega) hx
theorem From.step {o a : List α} {f : Nat → Option Nat} (m : Mates o a f) {t x : Nat} (h : f t = some x) : From f (t + 1) (x + 1) := fun u y hu hy => m.mono h hy (by omega)
theorem mloop_comm (o a b : List α) (f g : Nat → Option Nat) (n t i j k : Nat) : mloop o a b f g n t i j k = mloop o b a g f n t i k j := by
  induction n generalizing t i j k with
  | zero => exact pickL_comm _ _ _
  | succ n ih =>
    cases hf : f t with
    | none => rw [mloop_none (.inl hf), mloop_none (.inr hf), ih]
    | some x => cases hg : g t with
      | none => rw [mloop_none (.inr hg), mloop_none (.inl hg), ih]
      | some y => rw [mloop_some hf hg, mloop_some hg hf, pickL_comm, ih]
theorem mloop_old {o a : List α} {f g : Nat → Option Nat} (m : Mates o a f) (hg : ∀ t, t < o.length → g t = some t) (n t i j : Nat) (hn : t + n = o.length) (h : From f t j) : mloop o a o f g n t i j i = some (a.drop j) := by
  induction n generalizing t i j with
  | zero => rw [mloop_zero, pickL_old]
  | succ n ih =>
    cases hf : f t with
    | none => rw [mloop_none (.inl hf), ih _ _ _ (by omega) h.skip]
    | some x =>
      rw [mloop_some hf (hg t (by omega)), pickL_old, Option.bind_some, ih _ _ _ (by omega) (.step m hf), Option.map_some, m.eq hf, ← drop_nth a (m.lt hf).2, seg_app a (h t x (Nat.le_refl _) hf)]
theorem mloop_same {o a : List α} {f : Nat → Option Nat} (m : Mates o a f) (n t i j : Nat) (hn : t + n = o.length) (h : From f t j) : mloop o a a f f n t i j j = some (a.drop j) := by
  induction n generalizing t i j with
  | zero => rw [mloop_zero, pickL_same]
  | succ n ih =>
    cases hf : f t with
    | none => rw [mloop_none (.inl hf), ih _ _ _ (by omega) h.skip]
    | some x =>
      rw [mloop_some hf hf, pickL_same, Option.bind_some, ih _ _ _ (by omega) (.step m hf), Option.map_some, m.eq hf, ← drop_nth a (m.lt hf).2, seg_app a (h t x (Nat.le_refl _) hf)]
theorem mem_seg {l : List α} {i j : Nat} {z : α} (h : z ∈ seg l i j) : z ∈ l := List.mem_of_mem_drop (List.mem_of_mem_take h)
theorem mem_split {l : List α} {i j : Nat} (hij : i ≤ j) (hj : j < l.length) {z : α} (h : z ∈ l.drop i) : z ∈ seg l i j ∨ z = nth l (j : Int) ∨ z ∈ l.drop (j + 1) := by
  rw [← seg_app l hij, drop_nth l hj] at h
  rcases List.mem_append.1 h with h | h
  · exact .inl h
  · rcases List.mem_cons.1 h with h | h
    · exact .inr (.inl h)
    · exact .inr (.inr h)
theorem mloop_keep {o a b : List α} {f g : Nat → Option Nat} (mf : Mates o a f) (mg : Mates o b g) (n t i j k : Nat) (hn : t + n = o.length) (hj : From f t j) (hk : From g t k) (r : List α) (h : mloop o a b f g n t i j k = some r) :
    (∀ z ∈ r, z ∈ a ∨ z ∈ b) ∧ (∀ z ∈ a.drop j, z ∈ o ∨ z ∈ r) ∧ (∀ z ∈ b.drop k, z ∈ o ∨ z ∈ r) ∧ r.length ≤ (a.drop j).length + (b.drop k).length := by
  induction n generalizing t i j k r with
  | zero =>
    rw [mloop_zero] at h
    obtain ⟨h1, h2, h3, h4⟩ := pickL_mem h
    exact ⟨fun z hz => (h1 z hz).imp List.mem_of_mem_drop List.mem_of_mem_drop, fun z hz => (h2 z hz).imp List.mem_of_mem_drop id, fun z hz => (h3 z hz).imp List.mem_of_mem_drop id, h4⟩
  | succ n ih =>
    cases hf : f t with
    | none => rw [mloop_none (.inl hf)] at h; exact ih _ _ _ _ (by omega) hj.skip hk.skip _ h
    | some x => cases hg : g t with
      | none => rw [mloop_none (.inr hg)] at h; exact ih _ _ _ _ (by omega) hj.skip hk.skip _ h
      | some y =>
        rw [mloop_some hf hg] at h
        cases hp : pickL (seg o i t) (seg a j x) (seg b k y) with
        | none => rw [hp] at h; cases h
        | some p =>
          rw [hp, Option.bind_some] at h
          cases hr : mloop o a b f g n (t + 1) (t + 1) (x + 1) (y + 1) with
          | none => rw [hr] at h; cases h
          | some q =>
            rw [hr, Option.map_some] at h; cases h
            obtain ⟨h1, h2, h3, h4⟩ := pickL_mem hp
            obtain ⟨g1, g2, g3, g4⟩ := ih _ _ _ _ (by omega) (.step mf hf) (.step mg hg) _ hr
            have hjx := hj t x (Nat.le_refl _) hf
            have hky := hk t y (Nat.le_refl _) hg
            have hx := (mf.lt hf).2
            have hy := (mg.lt hg).2
            have ex := mf.eq hf
            have ey := mg.eq hg
            refine ⟨fun z hz => ?_, fun z hz => ?_, fun z hz => ?_, ?_⟩
            · rcases List.mem_append.1 hz with hz | hz
              · exact (h1 z hz).imp mem_seg mem_seg
              · rcases List.mem_cons.1 hz with rfl | hz
                · rw [ex]; exact .inl (nth_mem a hx)
                · exact g1 z hz
            · rcases mem_split hjx hx hz with hz | rfl | hz
              · exact (h2 z hz).imp mem_seg (fun h => List.mem_append_left _ h)
              · exact .inr (List.mem_append_right _ (by rw [ex]; exact List.mem_cons_self))
              · exact (g2 z hz).imp id (fun h => List.mem_append_right _ (List.mem_cons_of_mem _ h))
            · rcases mem_split hky hy hz with hz | rfl | hz
              · exact (h3 z hz).imp mem_seg (fun h => List.mem_append_left _ h)
              · exact .inr (List.mem_append_right _ (by rw [ey]; exact List.mem_cons_self))
              · exact (g3 z hz).imp id (fun h => List.mem_append_right _ (List.mem_cons_of_mem _ h))
            · rw [seg_len a _ _ (by omega), seg_len b _ _ (by omega)] at h4
              simp only [List.length_append, List.length_cons, List.length_drop] at g4 ⊢
              omega
theorem mloop_cons {o a b : List α} {f g f' g' : Nat → Option Nat} (p : α) (hf : ∀ t, t < o.length → f' (t + 1) = (f t).map (· + 1)) (hg : ∀ t, t < o.length → g' (t + 1) = (g t).map (· + 1)) (n t i j k : Nat) (hn : t + n = o.length) :
    mloop (p :: o) (p :: a) (p :: b) f' g' n (t + 1) (i + 1) (j + 1) (k + 1) = mloop o a b f g n t i j k := by
  induction n generalizing t i j k with
  | zero => rfl
  | succ n ih =>
    have h1 := hf t (by omega); have h2 := hg t (by omega)
    cases e1 : f t with
    | none => rw [e1] at h1; rw [mloop_none (.inl e1), mloop_none (.inl h1), ih _ _ _ _ (by omega)]
    | some x => cases e2 : g t with
      | none => rw [e2] at h2; rw [mloop_none (.inr e2), mloop_none (.inr h2), ih _ _ _ _ (by omega)]
      | some y =>
        rw [e1] at h1; rw [e2] at h2
        rw [mloop_some e1 e2, mloop_some h1 h2, seg_cons, seg_cons, seg_cons, ih _ _ _ _ (by omega)]
        rfl
theorem mloop_snoc {o a b : List α} {f g f' g' : Nat → Option Nat} (p : α) (mf : Mates o a f) (mg : Mates o b g) (hf : ∀ t, t < o.length → f' t = f t) (hf1 : f' o.length = some a.length) (hg : ∀ t, t < o.length → g' t = g t) (hg1 : g' o.length = some b.length) (n t i j k : Nat) (hn : t + n = o.length)
    (hi : i ≤ t) (hj0 : j ≤ a.length) (hk0 : k ≤ b.length) (hj : From f t j) (hk : From g t k) :
    mloop (o ++ [p]) (a ++ [p]) (b ++ [p]) f' g' (n + 1) t i j k = (mloop o a b f g n t i j k).map (· ++ [p]) := by
  induction n generalizing t i j k with
  | zero =>
    have : t = o.length := by omega
    subst this
    rw [mloop_some hf1 hg1, mloop_zero, seg_snoc _ _ _ _ (Nat.le_refl _) hi, seg_snoc _ _ _ _ (Nat.le_refl _) hj0, seg_snoc _ _ _ _ (Nat.le_refl _) hk0, seg_end, seg_end, seg_end, mloop_zero, nth_snoc]
    have e : ∀ l : List α, (l ++ [p]).drop (l.length + 1) = [] := fun l => List.drop_of_length_le (by simp)
    rw [e, e, e, pickL_same]
    cases pickL (o.drop i) (a.drop j) (b.drop k) <;> rfl
  | succ n ih =>
    have h1 := hf t (by omega); have h2 := hg t (by omega)
    cases e1 : f t with
    | none => rw [e1] at h1; rw [mloop_none (.inl e1), mloop_none (.inl h1), ih _ _ _ _ (by omega) (by omega) hj0 hk0 hj.skip hk.skip]
    | some x => cases e2 : g t with
      | none => rw [e2] at h2; rw [mloop_none (.inr e2), mloop_none (.inr h2), ih _ _ _ _ (by omega) (by omega) hj0 hk0 hj.skip hk.skip]
      | some y =>
        rw [e1] at h1; rw [e2] at h2
        have hx := (mf.lt e1).2
        have hy := (mg.lt e2).2
        rw [mloop_some e1 e2, mloop_some h1 h2, seg_snoc _ _ _ _ (by omega) hi, seg_snoc _ _ _ _ (by omega) (hj t x (Nat.le_refl _) e1), seg_snoc _ _ _ _ (by omega) (hk t y (Nat.le_refl _) e2), ih _ _ _ _ (by omega) (Nat.le_refl _) (by omega) (by omega) (.step mf e1) (.step mg e2), nth_app o [p] (by omega)]
        cases pickL (seg o i t) (seg a j x) (seg b k y) with
        | none => rfl
        | some q =>
          rw [Option.bind_some, Option.bind_some]
          cases mloop o a b f g n (t + 1) (t + 1) (x + 1) (y + 1) with
          | none => rfl
          | some r => simp
theorem mloop_apart {o : List α} {f g : Nat → Option Nat} (p q : α) (hf : ∀ t, t < o.length → f t = some (t + 1)) (hg : ∀ t, t < o.length → g t = some t) (n t : Nat) (hn : t + n = o.length) : mloop o (p :: o) (o ++ [q]) f g n t t (t + 1) t = some (o.drop t ++ [q]) := by
  induction n generalizing t with
  | zero =>
    rw [mloop_zero, List.drop_of_length_le (by omega : o.length ≤ t), List.drop_of_length_le (l := p :: o) (by rw [List.length_cons]; omega), pickL_none, if_pos rfl, List.drop_append_of_le_length (by omega), List.drop_of_length_le (by omega : o.length ≤ t)]
  | succ n ih =>
    rw [mloop_some (hf t (by omega)) (hg t (by omega)), seg_self, seg_self, seg_self, pickL_same, Option.bind_some, ih _ (by omega), Option.map_some, drop_nth o (show t < o.length by omega)]
    rfl
end
end Go.Proofs.Ytndjggncgpjolaa

namespace Go.Proofs.Ytndjggncgpjolaa
set_option linter.unusedVariables false
set_option linter.unusedSimpArgs false
set_option linter.unusedSectionVars false
def few (a b : List Pt) : Bool := decide (a.length ≤ 12) && decide (b.length ≤ 12)
theorem few_iff {a b : List Pt} : few a b = true ↔ a.length ≤ 12 ∧ b.length ≤ 12 := by simp [few]
theorem few_not {a b : List Pt} : few a b = false ↔ ¬ (a.length ≤ 12 ∧ b.length ≤ 12) := by rw [← few_iff]; simp
def slen (a b : List Pt) : Int := if few a b then (lcs a b : Nat) else 0
def mkP (p : Nat × Nat) : Pair := ⟨p.1, p.2⟩
def spairs (a b : List Pt) : List Pair := if few a b then (pairs 0 0 a b).map mkP else []
theorem spairs_few {a b : List Pt} (h : few a b = true) : spairs a b = (pairs 0 0 a b).map mkP := by unfold spairs; rw [if_pos h]
theorem spairs_len (a b : List Pt) : ((spairs a b).length : Int) = slen a b := by
  unfold spairs slen
  by_cases h : few a b = true
  · rw [if_pos h, if_pos h, List.length_map, pairs_len]
  · rw [if_neg h, if_neg h]; rfl
theorem slen_le (a b : List Pt) : 0 ≤ slen a b ∧ slen a b ≤ a.length ∧ slen a b ≤ b.length ∧ slen a b ≤ 12 := by
  unfold slen
  by_cases h : few a b = true
  · have := few_iff.1 h
    have h1 := lcs_le1 a b; have h2 := lcs_le2 a b
    rw [if_pos h]; omega
  · rw [if_neg h]; omega
/-- a row: what is in common from a place of the second on -/
def RowOk (a b : List Pt) (i : Nat) (j : Nat) (xs : List Int) : Prop := xs.length = b.length + 1 ∧ ∀ m : Nat, j ≤ m → m ≤ b.length → nth xs (m : Int) = (lcs (a.drop i) (b.drop m) : Nat)
def Tab (a b : List Pt) (D : Nat → Nat → Prop) (t : List (List Int)) : Prop := t.length = a.length + 1 ∧ ∀ r : Nat, r ≤ a.length → (nth t (r : Int)).length = b.length + 1 ∧ ∀ m : Nat, m ≤ b.length → D r m → nth (nth t (r : Int)) (m : Int) = (lcs (a.drop r) (b.drop m) : Nat)
theorem Tab.set {a b : List Pt} {D : Nat → Nat → Prop} {t : List (List Int)} (h : Tab a b D t) {i j : Nat} (hi : i ≤ a.length) (hj : j ≤ b.length) {v : Int} (hv : v = (lcs (a.drop i) (b.drop j) : Nat)) {D' : Nat → Nat → Prop} (hD : ∀ r m, D' r m → D r m ∨ (r = i ∧ m = j)) :
    Tab a b D' (t.set i ((nth t (i : Int)).set j v)) := by
  obtain ⟨h1, h2⟩ := h
  refine ⟨by rw [List.length_set]; exact h1, fun r hr => ?_⟩
  rw [nth_set _ (by omega)]
  by_cases e : r = i
  · subst e
    rw [if_pos rfl]
    refine ⟨by rw [List.length_set]; exact (h2 r hr).1, fun m hm hd => ?_⟩
    rw [nth_set _ (by rw [(h2 r hr).1]; omega)]
    by_cases f : m = j
    · subst f; rw [if_pos rfl, hv]
    · rw [if_neg f]
      exact (h2 r hr).2 m hm ((hD r m hd).resolve_right fun x => f x.2)
  · rw [if_neg e]
    exact ⟨(h2 r hr).1, fun m hm hd => (h2 r hr).2 m hm ((hD r m hd).resolve_right fun x => e x.1)⟩
def mateI (l : List Pair) (k : Int) : Int := match l with
  | [] => -1
  | p :: l => if p.A == k then p.B else mateI l k
theorem mateI_nil (k : Int) : mateI [] k = -1 := rfl
theorem mateI_cons (p : Pair) (l : List Pair) (k : Int) : mateI (p :: l) k = if p.A == k then p.B else mateI l k := rfl
def mateN (l : List (Nat × Nat)) (k : Nat) : Option Nat := match l with
  | [] => none
  | p :: l => if p.1 = k then some p.2 else mateN l k
theorem mateI_mk (l : List (Nat × Nat)) (k : Nat) : mateI (l.map mkP) (k : Int) = match mateN l k with | some x => (x : Int) | none => -1 := by
  induction l with
  | nil => rfl
  | cons p l ih =>
    rw [List.map_cons, mateI_cons, mateN]
    by_cases h : p.1 = k
    · rw [if_pos (by simp [mkP, h]), if_pos h]; rfl
    · rw [if_neg (by simp [mkP]; omega), if_neg h, ih]
theorem mateN_mem {l : List (Nat × Nat)} {k x : Nat} (h : mateN l k = some x) : (k, x) ∈ l := by
  induction l with
  | nil => cases h
  | cons p l ih =>
    rw [mateN] at h
    by_cases e : p.1 = k
    · rw [if_pos e] at h; cases h; subst e; exact List.mem_cons_self
    · rw [if_neg e] at h; exact List.mem_cons_of_mem _ (ih h)
theorem mateN_of {l : List (Nat × Nat)} {k x : Nat} (ho : l.Pairwise fun p q => p.1 < q.1 ∧ p.2 < q.2) (h : (k, x) ∈ l) : mateN l k = some x := by
  induction l with
  | nil => cases h
  | cons p l ih =>
    rw [mateN]
    rcases List.mem_cons.1 h with h | h
    · subst h; rw [if_pos rfl]
    · have := (List.pairwise_cons.1 ho).1 _ h
      rw [if_neg (by dsimp only at this; omega)]
      exact ih (List.pairwise_cons.1 ho).2 h
theorem mateN_none {l : List (Nat × Nat)} {k : Nat} (h : ∀ x, (k, x) ∉ l) : mateN l k = none := by
  cases e : mateN l k with
  | none => rfl
  | some x => exact absurd (mateN_mem e) (h x)
def part (o a : List Pt) : Nat → Option Nat := mateN (pairs 0 0 o a)
theorem part_mates (o a : List Pt) : Mates o a (part o a) := by
  have hm : ∀ {t x}, part o a t = some x → ∃ z, o[t]? = some z ∧ a[x]? = some z := fun {t x} h => by
    obtain ⟨k, l, e, z, h1, h2⟩ := pairs_mem 0 0 o a _ (mateN_mem h)
    rw [Nat.zero_add, Nat.zero_add] at e; cases e
    exact ⟨z, h1, h2⟩
  refine ⟨fun {t x} h => ?_, fun {t x} h => ?_, fun {t x u y} h1 h2 hu => ?_⟩
  · obtain ⟨z, h1, h2⟩ := hm h
    exact ⟨(List.getElem?_eq_some_iff.1 h1).1, (List.getElem?_eq_some_iff.1 h2).1⟩
  · obtain ⟨z, h1, h2⟩ := hm h
    obtain ⟨e1, e2⟩ := List.getElem?_eq_some_iff.1 h1
    obtain ⟨e3, e4⟩ := List.getElem?_eq_some_iff.1 h2
    rw [nth_nat _ e1, nth_nat _ e3, e2, e4]
  · have ho := pairs_ord 0 0 o a
    have m1 := mateN_mem h1; have m2 := mateN_mem h2
    generalize pairs 0 0 o a = l at ho m1 m2
    induction l with
    | nil => cases m1
    | cons p l ih =>
      obtain ⟨q1, q2⟩ := List.pairwise_cons.1 ho
      rcases List.mem_cons.1 m1 with e1 | n1
      · rcases List.mem_cons.1 m2 with e2 | n2
        · subst e1; cases e2; omega
        · subst e1; exact (q1 _ n2).2
      · rcases List.mem_cons.1 m2 with e2 | n2
        · subst e2; have := (q1 _ n1).1; dsimp only at this; omega
        · exact ih q2 n1 n2
theorem part_old (o : List Pt) (l : List Pt) : ∀ t, t < o.length → part o (o ++ l) t = some t := fun t ht => by
  refine mateN_of (pairs_ord _ _ _ _) ?_
  rw [pairs_self, List.mem_map]
  exact ⟨t, by simpa using ht, by simp⟩
theorem part_self (o : List Pt) : ∀ t, t < o.length → part o o t = some t := fun t ht => by
  have := part_old o [] t ht
  rwa [List.append_nil] at this
/-- what is made of two rows, and of which one was -/
def smerge (o a b : List Pt) : Option (List Pt) := if few o a && few o b then mloop o a b (part o a) (part o b) o.length 0 0 0 0 else none
theorem smerge_few {o a b : List Pt} (h1 : few o a = true) (h2 : few o b = true) : smerge o a b = mloop o a b (part o a) (part o b) o.length 0 0 0 0 := by unfold smerge; rw [h1, h2]; rfl
theorem smerge_not {o a b : List Pt} (h : few o a = false ∨ few o b = false) : smerge o a b = none := by
  unfold smerge; rcases h with h | h <;> rw [h] <;> simp
theorem smerge_comm (o a b : List Pt) : smerge o a b = smerge o b a := by
  unfold smerge; rw [Bool.and_comm, mloop_comm]
theorem smerge_old {o a : List Pt} (h : few o a = true) : smerge o a o = some a := by
  rw [smerge_few h (by rw [few_iff] at h ⊢; exact ⟨h.1, h.1⟩), mloop_old (part_mates o a) (part_self o) _ _ _ _ (by omega) (From.zero _ _)]; rfl
theorem smerge_same {o a : List Pt} (h : few o a = true) : smerge o a a = some a := by
  rw [smerge_few h h, mloop_same (part_mates o a) _ _ _ _ (by omega) (From.zero _ _)]; rfl
theorem smerge_keep {o a b r : List Pt} (h : smerge o a b = some r) : (∀ z ∈ r, z ∈ a ∨ z ∈ b) ∧ (∀ z ∈ a, z ∈ o ∨ z ∈ r) ∧ (∀ z ∈ b, z ∈ o ∨ z ∈ r) ∧ r.length ≤ a.length + b.length := by
  unfold smerge at h
  by_cases hf : (few o a && few o b) = true
  · rw [if_pos hf] at h
    exact mloop_keep (part_mates o a) (part_mates o b) _ _ _ _ _ (by omega) (From.zero _ _) (From.zero _ _) _ h
  · rw [if_neg hf] at h; cases h
theorem smerge_len {o a b r : List Pt} (h : smerge o a b = some r) : r.length ≤ 24 := by
  have h1 := (smerge_keep h).2.2.2
  unfold smerge at h
  by_cases hf : (few o a && few o b) = true
  · rw [Bool.and_eq_true, few_iff, few_iff] at hf; omega
  · rw [if_neg hf] at h; cases h
theorem part_cons (p : Pt) (o a : List Pt) (t : Nat) : part (p :: o) (p :: a) (t + 1) = (part o a t).map (· + 1) := by
  have h := pairs_shift 0 0 o a 1 1
  have e : mateN (pairs (0 + 1) (0 + 1) o a) (t + 1) = (mateN (pairs 0 0 o a) t).map (· + 1) := by
    rw [h]
    generalize pairs 0 0 o a = l
    induction l with
    | nil => rfl
    | cons q l ih =>
      rw [List.map_cons, mateN, mateN]
      by_cases e : q.1 = t
      · rw [if_pos (by dsimp only; omega), if_pos e]; rfl
      · rw [if_neg (by dsimp only; omega), if_neg e, ih]
  unfold part
  rw [pairs_cons_self, mateN, if_neg (by dsimp only; omega), e]
theorem part_cons0 (p : Pt) (o a : List Pt) : part (p :: o) (p :: a) 0 = some 0 := by
  unfold part; rw [pairs_cons_self, mateN, if_pos rfl]
theorem mateN_app (l m : List (Nat × Nat)) (k : Nat) : mateN (l ++ m) k = (mateN l k).or (mateN m k) := by
  induction l with
  | nil => rfl
  | cons p l ih =>
    rw [List.cons_append, mateN, mateN]
    by_cases e : p.1 = k
    · rw [if_pos e, if_pos e]; rfl
    · rw [if_neg e, if_neg e, ih]
theorem part_snoc {p : Pt} {o a : List Pt} (ho : p ∉ o) (ha : p ∉ a) (t : Nat) : part (o ++ [p]) (a ++ [p]) t = (part o a t).or (if o.length = t then some a.length else none) := by
  unfold part; rw [pairs_snoc p 0 0 o a ho ha, mateN_app]
  simp only [mateN, Nat.zero_add]
theorem part_snoc1 {p : Pt} {o a : List Pt} (ho : p ∉ o) (ha : p ∉ a) {t : Nat} (h : t < o.length) : part (o ++ [p]) (a ++ [p]) t = part o a t := by
  rw [part_snoc ho ha, if_neg (by omega)]; cases part o a t <;> rfl
theorem part_snoc2 {p : Pt} {o a : List Pt} (ho : p ∉ o) (ha : p ∉ a) : part (o ++ [p]) (a ++ [p]) o.length = some a.length := by
  rw [part_snoc ho ha, if_pos rfl]
  cases h : part o a o.length with
  | none => rfl
  | some x => have := ((part_mates o a).lt h).1; omega
theorem smerge_cons {o a b : List Pt} (p : Pt) (h1 : few (p :: o) (p :: a) = true) (h2 : few (p :: o) (p :: b) = true) : smerge (p :: o) (p :: a) (p :: b) = (smerge o a b).map (p :: ·) := by
  have g1 : few o a = true := by rw [few_iff] at h1 ⊢; simp only [List.length_cons] at h1; omega
  have g2 : few o b = true := by rw [few_iff] at h2 ⊢; simp only [List.length_cons] at h2; omega
  rw [smerge_few h1 h2, smerge_few g1 g2, List.length_cons, mloop_some (part_cons0 p o a) (part_cons0 p o b), seg_self, seg_self, seg_self, pickL_same, Option.bind_some]
  rw [show (0 : Nat) + 1 = 0 + 1 from rfl, mloop_cons p (fun t _ => part_cons p o a t) (fun t _ => part_cons p o b t) _ _ _ _ _ (by omega)]
  rfl
theorem smerge_snoc {o a b : List Pt} (p : Pt) (ho : p ∉ o) (ha : p ∉ a) (hb : p ∉ b) (h1 : few (o ++ [p]) (a ++ [p]) = true) (h2 : few (o ++ [p]) (b ++ [p]) = true) : smerge (o ++ [p]) (a ++ [p]) (b ++ [p]) = (smerge o a b).map (· ++ [p]) := by
  have g1 : few o a = true := by rw [few_iff] at h1 ⊢; simp only [List.length_append] at h1; omega
  have g2 : few o b = true := by rw [few_iff] at h2 ⊢; simp only [List.length_append] at h2; omega
  rw [smerge_few h1 h2, smerge_few g1 g2, List.length_append, List.length_singleton]
  exact mloop_snoc p (part_mates o a) (part_mates o b) (fun t ht => part_snoc1 ho ha ht) (part_snoc2 ho ha) (fun t ht => part_snoc1 ho hb ht) (part_snoc2 ho hb) _ _ _ _ _ (by omega) (Nat.zero_le _) (Nat.zero_le _) (Nat.zero_le _) (From.zero _ _) (From.zero _ _)
theorem part_shift {p : Pt} {o : List Pt} (hp : p ∉ o) : ∀ t, t < o.length → part o (p :: o) t = some (t + 1) := fun t ht => by
  have e : pairs 0 0 o (p :: o) = pairs 0 1 o o := by
    cases o with
    | nil => rw [pairs_nil, pairs_nil]
    | cons x o =>
      have hx : x ≠ p := fun e => hp (e ▸ List.mem_cons_self)
      rw [pairs_cons, if_neg hx, if_neg]
      have h1 : lcs (x :: o) (x :: o) = o.length + 1 := lcs_self (x :: o)
      have h2 := lcs_le1 o (p :: x :: o)
      omega
  refine mateN_of (pairs_ord _ _ _ _) ?_
  rw [e]
  have := pairs_self 0 1 o []
  rw [List.append_nil] at this
  rw [this, List.mem_map]
  exact ⟨t, by simpa using ht, pp (by omega) (by omega)⟩
theorem smerge_apart {o : List Pt} {p q : Pt} (hp : p ∉ o) (h0 : 0 < o.length) (h : o.length < 12) : smerge o (p :: o) (o ++ [q]) = some (p :: o ++ [q]) := by
  have h1 : few o (p :: o) = true := by rw [few_iff]; simp only [List.length_cons]; omega
  have h2 : few o (o ++ [q]) = true := by rw [few_iff]; simp only [List.length_append, List.length_singleton]; omega
  rw [smerge_few h1 h2]
  obtain ⟨n, e⟩ : ∃ n, o.length = n + 1 := ⟨o.length - 1, by omega⟩
  have hf := part_shift hp
  have hg := part_old o [q]
  rw [e, mloop_some (hf 0 h0) (hg 0 h0), seg_self, seg_self, pickL_old, Option.bind_some]
  have := mloop_apart p q hf hg n 1 (by omega)
  rw [show (0 : Nat) + 1 = 1 from rfl, show (0 : Nat) + 1 + 1 = 1 + 1 from rfl, this, Option.map_some]
  have hd := drop_nth o h0
  rw [List.drop_zero] at hd
  have : seg (p :: o) 0 1 = [p] := rfl
  rw [show (0 : Nat) + 1 = 1 from rfl] at hd
  rw [this, List.singleton_append, ← List.cons_append, ← hd]
  rfl
theorem smerge_clash {o : List Pt} {p q : Pt} (hp : p ∉ o) (hq : q ∉ o) (hpq : p ≠ q) (h0 : 0 < o.length) : smerge o (p :: o) (q :: o) = none := by
  unfold smerge
  by_cases hf : (few o (p :: o) && few o (q :: o)) = true
  · rw [if_pos hf]
    obtain ⟨n, e⟩ : ∃ n, o.length = n + 1 := ⟨o.length - 1, by omega⟩
    rw [e, mloop_some (part_shift hp 0 h0) (part_shift hq 0 h0)]
    have : pickL (seg o 0 0) (seg (p :: o) 0 (0 + 1)) (seg (q :: o) 0 (0 + 1)) = none := by
      show pickL [] [p] [q] = none
      unfold pickL
      rw [if_neg (by simp), if_neg (by simp), if_neg (by simpa using hpq)]
    rw [this]; rfl
  · rw [if_neg hf]
theorem smerge_nil {a b : List Pt} (h1 : a.length ≤ 12) (h2 : b.length ≤ 12) : smerge [] a b = if a = [] then some b else if b = [] then some a else if a = b then some a else none := by
  rw [smerge_few (by rw [few_iff]; exact ⟨Nat.zero_le _, h1⟩) (by rw [few_iff]; exact ⟨Nat.zero_le _, h2⟩)]; rfl
end Go.Proofs.Ytndjggncgpjolaa

namespace Go.Proofs.Ytndjggncgpjolaa
set_option linter.unusedVariables false
set_option linter.unusedSimpArgs false
set_option linter.unusedSectionVars false
/-- a test at each place below n -/
def allN (n : Nat) (c : Nat → Bool) : Bool := (List.range n).all c
theorem allN_true {n : Nat} {c : Nat → Bool} (h : ∀ j, j < n → c j = true) : allN n c = true := by
  unfold allN; rw [List.all_eq_true]; intro j hj; exact h j (List.mem_range.1 hj)
theorem allN_false {n k : Nat} {c : Nat → Bool} (hk : k < n) (h : c k = false) : allN n c = false := by
  unfold allN
  rw [Bool.eq_false_iff]; intro ha
  rw [List.all_eq_true] at ha
  rw [ha k (List.mem_range.2 hk)] at h; cases h
theorem allN_iff {n : Nat} {c : Nat → Bool} : allN n c = true ↔ ∀ j, j < n → c j = true := by
  unfold allN; rw [List.all_eq_true]; exact ⟨fun h j hj => h j (List.mem_range.2 hj), fun h j hj => h j (List.mem_range.1 hj)⟩
theorem allN_congr {n : Nat} {c d : Nat → Bool} (h : ∀ j, j < n → c j = d j) : allN n c = allN n d := by
  unfold allN
  rw [Bool.eq_iff_iff, List.all_eq_true, List.all_eq_true]
  exact ⟨fun g j hj => by rw [← h j (List.mem_range.1 hj)]; exact g j hj, fun g j hj => by rw [h j (List.mem_range.1 hj)]; exact g j hj⟩
/-- a loop that goes over all places, and leaves at the first that fails -/
theorem loop_all (n : Nat) (c : Nat → Bool) {B : (Int → Prop) → (Int → Nat) → Int → Prop} {F : Prop}
    (hs : ∀ (I : Int → Prop) (mu : Int → Nat) (k : Nat), k < n → (∀ j, j < k → c j = true) → (c k = true → I ((k : Int) + 1) ∧ mu ((k : Int) + 1) < mu (k : Int)) → B I mu (k : Int))
    (hF : (∀ j, j < n → c j = true) → F) :
    ∃ (I : Int → Prop) (mu : Int → Nat), I 0 ∧ ∀ (i : Int), I i → (if decide (i < (n : Int)) then B I mu i else F) := by
  refine ⟨fun i => ∃ k : Nat, i = k ∧ k ≤ n ∧ ∀ j, j < k → c j = true, fun i => ((n : Int) - i).toNat, ⟨0, rfl, Nat.zero_le _, fun j hj => absurd hj (Nat.not_lt_zero _)⟩, ?_⟩
  rintro _ ⟨k, rfl, hk, ha⟩
  by_cases h : (k : Int) < (n : Int)
  · rw [if_pos (by simpa using h)]
    refine hs _ _ k (by omega) ha fun hc => ⟨⟨k + 1, by omega, by omega, fun j hj => ?_⟩, by omega⟩
    by_cases e : j = k
    · subst e; exact hc
    · exact ha j (by omega)
  · rw [if_neg (by simpa using h)]
    exact hF fun j hj => ha j (by omega)
theorem ite_true' {b : Bool} {p q : Prop} (h : b = true) (hp : p) : (if b then p else q) := by rw [if_pos h]; exact hp
theorem ite_false' {b : Bool} {p q : Prop} (h : b = false) (hq : q) : (if b then p else q) := by rw [if_neg (by rw [h]; exact Bool.false_ne_true)]; exact hq

/-! ### the order of texts -/
theorem less_irr : ∀ a : Str, Op.bytesLess a a = false
  | [] => rfl
  | x :: a => by rw [Op.bytesLess]; simp [less_irr a]
theorem less_tri : ∀ a b : Str, (!(Op.bytesLess a b)) = (Op.bytesLess b a || b == a)
  | [], [] => rfl
  | [], y :: b => rfl
  | x :: a, [] => rfl
  | x :: a, y :: b => by
    rw [Op.bytesLess, Op.bytesLess]
    have h := less_tri a b
    by_cases h1 : x < y
    · have h2 : ¬ y < x := fun h => absurd (UInt8.lt_trans h1 h) (UInt8.lt_irrefl _)
      have h3 : ¬ y = x := fun e => by subst e; exact UInt8.lt_irrefl _ h1
      simp [h1, h2, h3]
    · by_cases h2 : y < x
      · have h3 : ¬ x = y := fun e => by subst e; exact UInt8.lt_irrefl _ h2
        simp [h1, h2, h3]
      · have h3 : x = y := UInt8.le_antisymm (UInt8.not_lt.1 h2) (UInt8.not_lt.1 h1)
        subst h3
        simp only [h1, decide_false, Bool.false_or, beq_self_eq_true, Bool.true_and]
        rw [h]
        congr 1
        rw [Bool.eq_iff_iff, beq_iff_eq, beq_iff_eq]
        simp
end Go.Proofs.Ytndjggncgpjolaa

namespace Go.Proofs.Ytndjggncgpjolaa
set_option linter.unusedVariables false
set_option linter.unusedSimpArgs false
set_option linter.unusedSectionVars false
def byteOk (b : UInt8) : Bool := !(decide ((b.toNat : Int) < 97)) && !(decide ((b.toNat : Int) > 122))
def wordOk (s : Str) : Bool := allN s.length (fun k => byteOk (nth s (k : Int))) && (decide (1 ≤ s.length) && decide (s.length ≤ 6))
def inR (x : Int) : Bool := decide (-1000 ≤ x) && decide (x ≤ 1000)
def ptOk (p : Pt) : Bool := inR p.X && inR p.Y
def ptsOk (p : List Pt) : Bool := allN p.length fun k => ptOk (nth p (k : Int)) && (decide (k = 0) || !(decide (nth p ((k : Int) - 1) = nth p (k : Int))))
def kindOk (kind : Int) (p : List Pt) : Bool :=
  if kind = 1 then decide (p.length = 1) else if kind = 2 then decide (2 ≤ p.length) && decide (p.length ≤ 6)
  else if kind = 3 then decide (3 ≤ p.length) && decide (p.length ≤ 6) && !(decide (nth p 0 = nth p ((p.length : Int) - 1))) else false
def shapeOk (s : Shape) : Bool := ptsOk s.Pts && kindOk s.Kind s.Pts
def tagsOk (t : List Tag) : Bool := allN t.length fun k => wordOk (nth t (k : Int)).Key && wordOk (nth t (k : Int)).Val && (decide (k = 0) || Op.bytesLess (nth t ((k : Int) - 1)).Key (nth t (k : Int)).Key)
def featOk (f : Feat) : Bool := tagsOk f.Tags && decide (f.Tags.length ≤ 4) && wordOk f.Id && shapeOk f.Shape
def noF (f : Feat) : Bool := decide (f = ⟨[], ⟨0, []⟩, []⟩)
def sideOk (id : Str) (has : Bool) (f : Feat) : Bool := if has then featOk f && decide (f.Id = id) else noF f
def sameC (c : Change) : Bool := decide (c.Had = c.Has) && decide (c.Was = c.Now)
def changeOk (c : Change) : Bool := wordOk c.Id && sideOk c.Id c.Had c.Was && sideOk c.Id c.Has c.Now && !(sameC c)
def diffOk (d : List Change) : Bool := allN d.length (fun k => changeOk (nth d (k : Int)) && (decide (k = 0) || Op.bytesLess (nth d ((k : Int) - 1)).Id (nth d (k : Int)).Id)) && decide (d.length ≤ 16)
def sheetOk (s : List Feat) : Bool := allN s.length (fun k => featOk (nth s (k : Int)) && (decide (k = 0) || Op.bytesLess (nth s ((k : Int) - 1)).Id (nth s (k : Int)).Id)) && decide (s.length ≤ 8)
theorem Feat.ext_iff' (a b : Feat) : a = b ↔ a.Id = b.Id ∧ a.Shape = b.Shape ∧ a.Tags = b.Tags := by cases a; cases b; simp
theorem Shape.ext_iff' (a b : Shape) : a = b ↔ a.Kind = b.Kind ∧ a.Pts = b.Pts := by cases a; cases b; simp
end Go.Proofs.Ytndjggncgpjolaa

namespace Go.Proofs.Ytndjggncgpjolaa
set_option linter.unusedVariables false
set_option linter.unusedSimpArgs false
set_option linter.unusedSectionVars false
theorem spec_WordOk.law (s : Str) (Q : Bool → Prop) (hq : Q (wordOk s)) : spec_WordOk.E s Q := by
  unfold spec_WordOk.E
  unfold wordOk at hq
  refine loop_all s.length (fun k => byteOk (nth s (k : Int))) (fun I mu k hk hp hn => ?_) (fun ha => ?_)
  · refine ⟨by omega, ?_⟩
    cases h1 : decide (((nth s (k : Int)).toNat : Int) < 97) with
    | true => rw [if_pos rfl]; rw [allN_false hk (by simp only [byteOk, h1]; rfl), Bool.false_and] at hq; exact hq
    | false =>
      rw [if_neg (by decide)]
      refine ⟨by omega, ?_⟩
      cases h2 : decide (((nth s (k : Int)).toNat : Int) > 122) with
      | true => rw [if_pos rfl]; rw [allN_false hk (by simp only [byteOk, h1, h2]; rfl), Bool.false_and] at hq; exact hq
      | false =>
        rw [if_neg (by decide)]
        obtain ⟨i1, i2⟩ := hn (by simp only [byteOk, h1, h2]; rfl)
        exact ⟨by omega, i1, i2⟩
  · rw [allN_true ha, Bool.true_and] at hq
    by_cases h : 1 ≤ s.length
    · rw [decide_eq_true h, Bool.true_and] at hq
      rw [if_pos (by rw [decide_eq_true_eq]; omega)]
      have e2 : decide ((s.length : Int) ≤ 6) = decide (s.length ≤ 6) := decide_eq_decide.2 (by omega)
      rw [e2]; exact hq
    · rw [decide_eq_false h, Bool.false_and] at hq
      rw [if_neg (by rw [decide_eq_true_eq]; omega)]; exact hq
end Go.Proofs.Ytndjggncgpjolaa

namespace Go.Proofs.Ytndjggncgpjolaa
open Go.RowKit
set_option linter.unusedVariables false
def spec_RepoNew.E (name : Str) (Q : Repo → Bool → Prop) : Prop :=
  spec_WordOk.E name (fun r => (if !r then Q (⟨([] : List Commit), ([] : List Head)⟩ : Repo) false else Q (⟨([(⟨[], [], ([98, 101, 103, 105, 110] : Str)⟩ : Commit)] : List Commit), ([(⟨name, 0⟩ : Head)] : List Head)⟩ : Repo) true))
set_option maxHeartbeats 8000000 in
set_option maxRecDepth 100000 in
theorem spec_RepoNew.calls {O : Ob} (w0 : World) (hO : Ok w0 O) (name : Str) (hs1 : Lim name) (Q : Repo → Bool → Prop) (h : spec_RepoNew.E name Q) :
    Ret Try.prog 13 [vs name] w0 (fun v w' => ∃ (r0 : Repo) (r1 : Bool) (A0 : Option Addr) (n0 c0 : Nat) (A2 : Option Addr) (n2 c2 : Nat), v = .tuple #[.agg #[.slice A0 n0 c0, .slice A2 n2 c2], vb r1] ∧ Q r0 r1 ∧ Gr w0 w' none ∧ Ok w' ([blk (.slice A0 n0 c0), blk (.slice A2 n2 c2)] ++ O) ∧ (∀ b, some b ∈ [blk (.slice A0 n0 c0), blk (.slice A2 n2 c2)] → w0.heap.size ≤ b) ∧ Ow kCommit 91 w' ([blk (.slice A0 n0 c0), blk (.slice A2 n2 c2)] ++ O) (.slice A0 n0 c0) r0.Commits ∧ Ow kHead 93 w' ([blk (.slice A0 n0 c0), blk (.slice A2 n2 c2)] ++ O) (.slice A2 n2 c2) r0.Heads) := by
  have H : spec_WordOk.E name (fun r => (if !r then Q (⟨([] : List Commit), ([] : List Head)⟩ : Repo) false else Q (⟨([(⟨[], [], ([98, 101, 103, 105, 110] : Str)⟩ : Commit)] : List Commit), ([(⟨name, 0⟩ : Head)] : List Head)⟩ : Repo) true)) := h
  clear h
  have hc0 := Ct.init hO
  refine Ret_enter Try.func13 rfl 14 rfl [.cell 2 35, .tmp 3] rfl rfl ?_
  refine W_seq ?_
  refine W_reg ?_
  refine L_alloc [.slice none 0 0, .slice none 0 0] ze35 fun w2 b3 hl5 hu6 g4 hx7 => ?_
  have hc9 := hc0.own g4 (some b3) (oglt hl5 hu6)
  refine L_pu (P_assign (vb false) rfl) ?_
  refine L_nil ?_
  refine W_seq ?_
  refine W_seq ?_
  refine W_reg ?_
  refine L_pu (P_move (vs name) rfl) ?_
  refine L_call go52 [vs name] rfl ((spec_WordOk.calls w2 hc9.ok name hs1 _ H).mono ?_)
  rintro _ w10 ⟨r, rfl, H, g11⟩
  have hc15 := hc9.k0 g11
  refine L_pu (P_not r rfl) ?_
  refine L_nil ?_
  refine W_cond (!r) rfl (fun hq16 => ?_) (fun hq16 => ?_)
  · have H := ite_t H hq16
    refine W_seq ?_
    refine W_reg ?_
    refine L_pu (P_build (.agg #[.slice none 0 0, .slice none 0 0]) (fun _ => by kernel_rfl)) ?_
    have h20 := (hx7.k0 g11)
    refine L_stb b3 0 [.slice none 0 0, .slice none 0 0] [.slice none 0 0, .slice none 0 0] [.slice none 0 0, .slice none 0 0] rfl h20 rfl sz35 rfl rfl rfl fun w17 g18 hx19 => ?_
    have hc21 := hc15.wr 0 rfl g18
    refine L_pu (P_assign (vb false) rfl) ?_
    refine L_nil ?_
    refine W_ret ?_
    have hc23 := hc21.own (Gr.refl _ none) none (by simp)
    have h24 : Ow kCommit 91 w17 ([blk (.slice none 0 0), some b3] ++ O) (.slice none 0 0) [] := Ow.nil _ _ _ _
    have hc26 := hc23.own (Gr.refl _ none) none (by simp)
    have h27 : Ow kHead 93 w17 ([blk (.slice none 0 0), blk (.slice none 0 0), some b3] ++ O) (.slice none 0 0) [] := Ow.nil _ _ _ _
    have h28 := hx19
    have h29 := Bx.gv (L := [blk (.slice none 0 0), blk (.slice none 0 0), some b3]) (O := O) h28 hc26 (i := 2) rfl
    have hc30 := hc26.drop 2 rfl
    have hc31 := hc30.perm (.swap _ _ _)
    have h32 := (h29.st (.perm (L := [blk (.slice none 0 0), blk (.slice none 0 0)]) (O := O) (.swap _ _ _)))
    have h33 := (Ow.sp (L := [blk (.slice none 0 0), blk (.slice none 0 0)]) (O := O) (Ow.sd (L := [blk (.slice none 0 0), blk (.slice none 0 0), some b3]) (O := O) (h24.so none (Gr.refl _ none) (by simp)) (i := 1) rfl (j := 2) rfl (by decide)) (.swap _ _ _))
    have h34 := (Ow.sp (L := [blk (.slice none 0 0), blk (.slice none 0 0)]) (O := O) (Ow.sd (L := [blk (.slice none 0 0), blk (.slice none 0 0), some b3]) (O := O) h27 (i := 0) rfl (j := 2) rfl (by decide)) (.swap _ _ _))
    exact ⟨[.agg #[.slice none 0 0, .slice none 0 0], vb false], ⟨_, _, rfl, h32.1.res rfl ag35 sz35, ⟨_, rfl, rfl⟩⟩, (⟨([] : List Commit), ([] : List Head)⟩ : Repo), false, none, 0, 0, none, 0, 0, rfl, H, hc31.gr.g0, hc31.ok, hc31.ge, h33, h34⟩
  · have H := ite_f H hq16
    refine W_skip ?_
    refine W_seq ?_
    refine W_reg ?_
    refine L_pu (P_build (.agg #[.slice none 0 0, .slice none 0 0, vs ([98, 101, 103, 105, 110] : Str)]) (fun _ => by kernel_rfl)) ?_
    refine L_lit (kd := kCommit) ei32 hc15 ([(⟨[], [], ([98, 101, 103, 105, 110] : Str)⟩ : Commit)] : List Commit) (cells := [.slice none 0 0, .slice none 0 0, vs ([98, 101, 103, 105, 110] : Str)]) ⟨[.slice none 0 0, .slice none 0 0, vs ([98, 101, 103, 105, 110] : Str)], _, rfl, (kCommit.mk _ _ (⟨[], [], ([98, 101, 103, 105, 110] : Str)⟩ : Commit) (Sl.nil _ _ _ none 0 (by decide)) (Sl.nil _ _ _ none 0 (by decide)) (by decide)), rfl⟩ (fun _ => by kernel_rfl) fun w35 A36 n37 c38 g39 hr40 hc41 h42 => ?_
    refine L_pu (P_move (vs name) rfl) ?_
    refine L_pu (P_build (.agg #[vs name, vi 0]) (fun _ => by kernel_rfl)) ?_
    refine L_lit (kd := kHead) ei33 hc41 ([(⟨name, 0⟩ : Head)] : List Head) (cells := [vs name, vi 0]) ⟨[vs name, vi 0], _, rfl, (kHead.mk _ _ (⟨name, 0⟩ : Head) hs1), rfl⟩ (fun _ => by kernel_rfl) fun w44 A45 n46 c47 g48 hr49 hc50 h51 => ?_
    refine L_pu (P_build (.agg #[.slice A36 n37 c38, .slice A45 n46 c47]) (fun _ => by kernel_rfl)) ?_
    have h56 := (((hx7.k0 g11).k0 g39).k0 g48)
    refine L_stb b3 0 [.slice none 0 0, .slice none 0 0] [.slice A36 n37 c38, .slice A45 n46 c47] [.slice A36 n37 c38, .slice A45 n46 c47] rfl h56 rfl sz35 rfl rfl rfl fun w53 g54 hx55 => ?_
    have hc57 := hc50.wr 2 rfl g54
    refine L_pu (P_assign (vb true) rfl) ?_
    refine L_nil ?_
    refine W_ret ?_
    have h58 := Bx.gv (L := [blk (.slice A45 n46 c47), blk (.slice A36 n37 c38), some b3]) (O := O) hx55 hc57 (i := 2) rfl
    have hc59 := hc57.drop 2 rfl
    have hc60 := hc59.perm (.swap _ _ _)
    have h61 := (h58.st (.perm (L := [blk (.slice A45 n46 c47), blk (.slice A36 n37 c38)]) (O := O) (.swap _ _ _)))
    have h62 := (Ow.sp (L := [blk (.slice A45 n46 c47), blk (.slice A36 n37 c38)]) (O := O) (Ow.sd (L := [blk (.slice A45 n46 c47), blk (.slice A36 n37 c38), some b3]) (O := O) (Ow.sw (L := [blk (.slice A45 n46 c47), blk (.slice A36 n37 c38), some b3]) (O := O) (h42.so _ g48 hr49) hc50 (i := 1) rfl (j := 2) rfl (by decide) g54) (i := 1) rfl (j := 2) rfl (by decide)) (.swap _ _ _))
    have h63 := (Ow.sp (L := [blk (.slice A45 n46 c47), blk (.slice A36 n37 c38)]) (O := O) (Ow.sd (L := [blk (.slice A45 n46 c47), blk (.slice A36 n37 c38), some b3]) (O := O) (Ow.sw (L := [blk (.slice A45 n46 c47), blk (.slice A36 n37 c38), some b3]) (O := O) h51 hc50 (i := 0) rfl (j := 2) rfl (by decide) g54) (i := 0) rfl (j := 2) rfl (by decide)) (.swap _ _ _))
    exact ⟨[.agg #[.slice A36 n37 c38, .slice A45 n46 c47], vb true], ⟨_, _, rfl, h61.1.res rfl ag35 sz35, ⟨_, rfl, rfl⟩⟩, (⟨([(⟨[], [], ([98, 101, 103, 105, 110] : Str)⟩ : Commit)] : List Commit), ([(⟨name, 0⟩ : Head)] : List Head)⟩ : Repo), true, A36, n37, c38, A45, n46, c47, rfl, H, hc60.gr.g0, hc60.ok, hc60.ge, h62, h63⟩
end Go.Proofs.Ytndjggncgpjolaa

namespace Go.Proofs.Ytndjggncgpjolaa
open Go.RowKit
set_option linter.unusedVariables false
def impl_within.E (n : Int) (low : Int) (high : Int) (Q : Bool → Prop) : Prop :=
  (if decide (n ≥ low) then Q (decide (n ≤ high)) else Q false)
set_option maxHeartbeats 8000000 in
set_option maxRecDepth 100000 in
theorem impl_within.calls {O : Ob} (w0 : World) (hO : Ok w0 O) (n : Int) (low : Int) (high : Int) (Q : Bool → Prop) (h : impl_within.E n low high Q) :
    Ret Try.prog 112 [vi n, vi low, vi high] w0 (fun v w' => ∃ (r0 : Bool), v = vb r0 ∧ Q r0 ∧ Gr w0 w' none ∧ w' = w0) := by
  have H : (if decide (n ≥ low) then Q (decide (n ≤ high)) else Q false) := h
  clear h
  have hc0 := Ct.init hO
  refine Ret_enter Try.func112 rfl 15 rfl [.tmp 6] rfl rfl ?_
  refine W_seq ?_
  refine W_reg ?_
  refine L_pu (P_assign (vb false) rfl) ?_
  refine L_nil ?_
  refine W_seq ?_
  refine W_reg ?_
  refine L_pu (P_move (vi n) rfl) ?_
  refine L_pu (P_move (vi low) rfl) ?_
  refine L_pu (P_cmp n low (decide (n ≥ low)) rfl rfl rfl) ?_
  refine L_pu (P_move (vb (decide (n ≥ low))) rfl) ?_
  rcases bool_or (decide (n ≥ low)) with hq1 | hq1
  · have H := ite_t H hq1
    refine L_run (dj := 10) rfl rfl (by exact congrArg Value.bool hq1) ?_
    refine L_pu (P_move (vi n) rfl) ?_
    refine L_run (dj := 10) rfl rfl (by exact congrArg Value.bool hq1) ?_
    refine L_pu (P_move (vi high) rfl) ?_
    refine L_run (dj := 10) rfl rfl (by exact congrArg Value.bool hq1) ?_
    refine L_pu (P_cmp n high (decide (n ≤ high)) rfl rfl rfl) ?_
    refine L_pu (P_pick true (vb (decide (n ≤ high))) (by exact congrArg Value.bool hq1) rfl) ?_
    refine L_pu (P_assign (vb (decide (n ≤ high))) rfl) ?_
    refine L_nil ?_
    refine W_ret ?_
    exact ⟨[vb (decide (n ≤ high))], ⟨_, rfl, rfl⟩, decide (n ≤ high), rfl, H, hc0.gr.g0, rfl⟩
  · have H := ite_f H hq1
    refine L_pass (dj := 10) rfl rfl (.inl (by exact congrArg Value.bool hq1)) ?_
    refine L_pass (dj := 10) rfl rfl (.inl (by exact congrArg Value.bool hq1)) ?_
    refine L_pass (dj := 10) rfl rfl (.inl (by exact congrArg Value.bool hq1)) ?_
    refine L_pu (P_pick false (vb false) (by exact congrArg Value.bool hq1) rfl) ?_
    refine L_pu (P_assign (vb false) rfl) ?_
    refine L_nil ?_
    refine W_ret ?_
    exact ⟨[vb false], ⟨_, rfl, rfl⟩, false, rfl, H, hc0.gr.g0, rfl⟩
def impl_within.m (n : Int) (low : Int) (high : Int) : Bool := (if decide (n ≥ low) then (decide (n ≤ high)) else false)
theorem impl_within.fn (n : Int) (low : Int) (high : Int) : impl_within.E n low high (fun r => r = impl_within.m n low high) := by
  unfold impl_within.E impl_within.m
  (repeat' split) <;> simp_all
end Go.Proofs.Ytndjggncgpjolaa

namespace Go.Proofs.Ytndjggncgpjolaa
set_option linter.unusedVariables false
set_option linter.unusedSimpArgs false
set_option linter.unusedSectionVars false
theorem impl_within.law (n lo hi : Int) (Q : Bool → Prop) (hq : Q (decide (lo ≤ n) && decide (n ≤ hi))) : impl_within.E n lo hi Q := by
  unfold impl_within.E
  by_cases h : lo ≤ n
  · rw [if_pos (by simpa using h)]; rw [decide_eq_true h, Bool.true_and] at hq; exact hq
  · rw [if_neg (by simpa using h)]; rw [decide_eq_false h, Bool.false_and] at hq; exact hq
theorem impl_within.m_is (n lo hi : Int) : impl_within.m n lo hi = (decide (lo ≤ n) && decide (n ≤ hi)) := by
  unfold impl_within.m
  by_cases h : lo ≤ n
  · rw [if_pos (by simpa using h), decide_eq_true h, Bool.true_and]
  · rw [if_neg (by simpa using h), decide_eq_false h, Bool.false_and]
end Go.Proofs.Ytndjggncgpjolaa

namespace Go.Proofs.Ytndjggncgpjolaa
open Go.RowKit
set_option linter.unusedVariables false
def impl_WordOk.E (s : Str) (Q : Bool → Prop) : Prop :=
  (∃ (I9 : Int → Prop) (mu10 : Int → Nat), I9 0 ∧ ∀ (v2 : Int), I9 v2 → (if decide (v2 < (s.length : Int)) then ((0 : Int) ≤ v2 ∧ v2 < (s.length : Int)) ∧ (if decide (((nth s v2).toNat : Int) < 97) then Q false else ((0 : Int) ≤ v2 ∧ v2 < (s.length : Int)) ∧ (if decide (((nth s v2).toNat : Int) > 122) then Q false else (I64 (v2 + 1)) ∧ I9 (v2 + 1) ∧ mu10 (v2 + 1) < mu10 v2)) else impl_within.E (s.length : Int) 1 6 (fun r => Q r)))
set_option maxHeartbeats 8000000 in
set_option maxRecDepth 100000 in
theorem impl_WordOk.calls {O : Ob} (w0 : World) (hO : Ok w0 O) (s : Str) (hs1 : Lim s) (Q : Bool → Prop) (h : impl_WordOk.E s Q) :
    Ret Try.prog 53 [vs s] w0 (fun v w' => ∃ (r0 : Bool), v = vb r0 ∧ Q r0 ∧ Gr w0 w' none) := by
  have H : (∃ (I9 : Int → Prop) (mu10 : Int → Nat), I9 0 ∧ ∀ (v2 : Int), I9 v2 → (if decide (v2 < (s.length : Int)) then ((0 : Int) ≤ v2 ∧ v2 < (s.length : Int)) ∧ (if decide (((nth s v2).toNat : Int) < 97) then Q false else ((0 : Int) ≤ v2 ∧ v2 < (s.length : Int)) ∧ (if decide (((nth s v2).toNat : Int) > 122) then Q false else (I64 (v2 + 1)) ∧ I9 (v2 + 1) ∧ mu10 (v2 + 1) < mu10 v2)) else impl_within.E (s.length : Int) 1 6 (fun r => Q r))) := h
  clear h
  have hc0 := Ct.init hO
  refine Ret_enter Try.func53 rfl 23 rfl [.tmp 2] rfl rfl ?_
  refine W_seq ?_
  refine W_reg ?_
  refine L_pu (P_assign (vb false) rfl) ?_
  refine L_nil ?_
  refine W_seq ?_
  refine W_seq ?_
  refine W_reg ?_
  refine L_pu (P_move (vs s) rfl) ?_
  have hl2 := hs1
  refine L_pu (P_lens Try.underlying9 s rfl) ?_
  refine L_pu (P_move (vi 0) rfl) ?_
  refine L_nil ?_
  refine W_block ?_
  obtain ⟨I9, mu10, hI11, H⟩ := H
  refine W_loop (α := Int) (fun (sv__ : Int) t w7 => match sv__ with | v2 => I9 v2 ∧ Has t [(0, vs s), (5, vi (s.length : Int)), (6, vi v2)] ∧ Ct [] w0 w7 [] O) (fun (sv__ : Int) => match sv__ with | v2 => mu10 v2) 0 ⟨hI11, ⟨rfl, rfl, rfl, trivial⟩, hc0⟩ ?_
  rintro v2 _ w7 ⟨hI11, hh13, hc8⟩
  obtain ⟨u14, rfl⟩ := Has.ins hh13
  have H := H v2 hI11
  refine W_seq ?_
  refine W_reg ?_
  refine L_pu (P_cmp v2 (s.length : Int) (decide (v2 < (s.length : Int))) rfl rfl rfl) ?_
  refine L_nil ?_
  refine W_seq ?_
  refine W_cond (decide (v2 < (s.length : Int))) rfl (fun hq15 => ?_) (fun hq15 => ?_)
  · have H := ite_t H hq15
    refine W_skip ?_
    refine W_seq ?_
    refine W_block ?_
    refine W_seq ?_
    refine W_reg ?_
    refine L_pu (P_move (vi v2) rfl) ?_
    refine L_pu (P_assign (vi v2) rfl) ?_
    refine L_nil ?_
    refine W_seq ?_
    refine W_reg ?_
    refine L_pu (P_move (vs s) rfl) ?_
    refine L_pu (P_move (vi v2) rfl) ?_
    obtain ⟨hb16, H⟩ := H
    refine L_pu (P_index Try.underlying9 s v2 rfl rfl hb16) ?_
    refine L_pu (P_cmp ((nth s v2).toNat : Int) 97 (decide (((nth s v2).toNat : Int) < 97)) rfl rfl rfl) ?_
    refine L_pu (P_move (vb (decide (((nth s v2).toNat : Int) < 97))) rfl) ?_
    rcases bool_or (decide (((nth s v2).toNat : Int) < 97)) with hq17 | hq17
    · have H := ite_t H hq17
      refine L_pass (dj := 13) rfl rfl (.inl (by exact congrArg Value.bool hq17)) ?_
      refine L_pass (dj := 13) rfl rfl (.inl (by exact congrArg Value.bool hq17)) ?_
      refine L_pass (dj := 13) rfl rfl (.inl (by exact congrArg Value.bool hq17)) ?_
      refine L_pass (dj := 13) rfl rfl (.inl (by exact congrArg Value.bool hq17)) ?_
      refine L_pu (P_pick true (vb true) (by exact congrArg Value.bool hq17) rfl) ?_
      refine L_nil ?_
      refine W_ct (b := true) rfl rfl ?_
      refine W_seq ?_
      refine W_reg ?_
      refine L_pu (P_assign (vb false) rfl) ?_
      refine L_nil ?_
      refine W_ret ?_
      exact ⟨[vb false], ⟨_, rfl, rfl⟩, false, rfl, H, hc8.gr.g0⟩
    · have H := ite_f H hq17
      refine L_run (dj := 13) rfl rfl (by exact congrArg Value.bool hq17) ?_
      refine L_pu (P_move (vs s) rfl) ?_
      refine L_run (dj := 13) rfl rfl (by exact congrArg Value.bool hq17) ?_
      refine L_pu (P_move (vi v2) rfl) ?_
      refine L_run (dj := 13) rfl rfl (by exact congrArg Value.bool hq17) ?_
      obtain ⟨hb18, H⟩ := H
      refine L_pu (P_index Try.underlying9 s v2 rfl rfl hb18) ?_
      refine L_run (dj := 13) rfl rfl (by exact congrArg Value.bool hq17) ?_
      refine L_pu (P_cmp ((nth s v2).toNat : Int) 122 (decide (((nth s v2).toNat : Int) > 122)) rfl rfl rfl) ?_
      refine L_pu (P_pick false (vb (decide (((nth s v2).toNat : Int) > 122))) (by exact congrArg Value.bool hq17) rfl) ?_
      refine L_nil ?_
      refine W_cond (decide (((nth s v2).toNat : Int) > 122)) rfl (fun hq19 => ?_) (fun hq19 => ?_)
      · have H := ite_t H hq19
        refine W_seq ?_
        refine W_reg ?_
        refine L_pu (P_assign (vb false) rfl) ?_
        refine L_nil ?_
        refine W_ret ?_
        exact ⟨[vb false], ⟨_, rfl, rfl⟩, false, rfl, H, hc8.gr.g0⟩
      · have H := ite_f H hq19
        refine W_skip ?_
        refine W_reg ?_
        obtain ⟨hb20, H⟩ := H
        refine L_pu (P_add v2 1 rfl rfl hb20) ?_
        refine L_pu (P_move (vi (v2 + 1)) rfl) ?_
        refine L_nil ?_
        obtain ⟨hI21, hm22⟩ := H
        exact ⟨v2 + 1, hm22, hI21, ⟨rfl, rfl, rfl, trivial⟩, hc8⟩
  · have H := ite_f H hq15
    refine W_exit (xin_hit ?_)
    refine W_seq ?_
    refine W_reg ?_
    refine L_pu (P_move (vs s) rfl) ?_
    have hl23 := hs1
    refine L_pu (P_lens Try.underlying9 s rfl) ?_
    refine L_call go112 [vi (s.length : Int), vi 1, vi 6] rfl ((impl_within.calls w7 hc8.ok (s.length : Int) 1 6 _ H).mono ?_)
    rintro _ w24 ⟨r, rfl, H, g25, _⟩
    have hc29 := hc8.k0 g25
    refine L_pu (P_assign (vb r) rfl) ?_
    refine L_nil ?_
    refine W_ret ?_
    exact ⟨[vb r], ⟨_, rfl, rfl⟩, r, rfl, H, hc29.gr.g0⟩
end Go.Proofs.Ytndjggncgpjolaa

namespace Go.Proofs.Ytndjggncgpjolaa
set_option linter.unusedVariables false
set_option linter.unusedSimpArgs false
set_option linter.unusedSectionVars false
theorem impl_WordOk.law (s : Str) (Q : Bool → Prop) (hl : s.length ≤ 1048576) (hq : Q (wordOk s)) : impl_WordOk.E s Q := by
  unfold impl_WordOk.E
  unfold wordOk at hq
  refine loop_all s.length (fun k => byteOk (nth s (k : Int))) (fun I mu k hk hp hn => ?_) (fun ha => ?_)
  · refine ⟨by omega, ?_⟩
    cases h1 : decide (((nth s (k : Int)).toNat : Int) < 97) with
    | true => rw [if_pos rfl]; rw [allN_false hk (by simp only [byteOk, h1]; rfl), Bool.false_and] at hq; exact hq
    | false =>
      rw [if_neg (by decide)]
      refine ⟨by omega, ?_⟩
      cases h2 : decide (((nth s (k : Int)).toNat : Int) > 122) with
      | true => rw [if_pos rfl]; rw [allN_false hk (by simp only [byteOk, h1, h2]; rfl), Bool.false_and] at hq; exact hq
      | false =>
        rw [if_neg (by decide)]
        obtain ⟨i1, i2⟩ := hn (by simp only [byteOk, h1, h2]; rfl)
        exact ⟨by unfold I64; omega, i1, i2⟩
  · rw [allN_true ha, Bool.true_and] at hq
    refine impl_within.law _ _ _ _ ?_
    have e1 : decide ((1 : Int) ≤ (s.length : Int)) = decide (1 ≤ s.length) := decide_eq_decide.2 (by omega)
    have e2 : decide ((s.length : Int) ≤ 6) = decide (s.length ≤ 6) := decide_eq_decide.2 (by omega)
    rw [e1, e2]; exact hq
end Go.Proofs.Ytndjggncgpjolaa

namespace Go.Proofs.Ytndjggncgpjolaa
open Go.RowKit
set_option linter.unusedVariables false
def impl_RepoNew.E (name : Str) (Q : Repo → Bool → Prop) : Prop :=
  impl_WordOk.E name (fun r => (if !r then Q (⟨([] : List Commit), ([] : List Head)⟩ : Repo) false else Q (⟨([(⟨([] : List Int), ([] : List Feat), ([98, 101, 103, 105, 110] : Str)⟩ : Commit)] : List Commit), ([(⟨name, 0⟩ : Head)] : List Head)⟩ : Repo) true))
set_option maxHeartbeats 8000000 in
set_option maxRecDepth 100000 in
theorem impl_RepoNew.calls {O : Ob} (w0 : World) (hO : Ok w0 O) (name : Str) (hs1 : Lim name) (Q : Repo → Bool → Prop) (h : impl_RepoNew.E name Q) :
    Ret Try.prog 14 [vs name] w0 (fun v w' => ∃ (r0 : Repo) (r1 : Bool) (A0 : Option Addr) (n0 c0 : Nat) (q0 : Ob) (ra0 : List (List Value)) (A13 : Option Addr) (n13 c13 : Nat), v = .tuple #[.agg #[.slice A0 n0 c0, .slice A13 n13 c13], vb r1] ∧ Q r0 r1 ∧ Gr w0 w' none ∧ Ok w' ((blk (.slice A0 n0 c0) :: blk (.slice A13 n13 c13) :: (q0 ++ [])) ++ O) ∧ (∀ b, some b ∈ (blk (.slice A0 n0 c0) :: blk (.slice A13 n13 c13) :: (q0 ++ [])) → w0.heap.size ≤ b) ∧ Ow (Kd.cells 3) 91 w' ((blk (.slice A0 n0 c0) :: blk (.slice A13 n13 c13) :: (q0 ++ [])) ++ O) (.slice A0 n0 c0) ra0 ∧ DArr dCommit_91 w' q0 r0.Commits ra0 ∧ Ow kHead 93 w' ((blk (.slice A0 n0 c0) :: blk (.slice A13 n13 c13) :: (q0 ++ [])) ++ O) (.slice A13 n13 c13) r0.Heads) := by
  have H : impl_WordOk.E name (fun r => (if !r then Q (⟨([] : List Commit), ([] : List Head)⟩ : Repo) false else Q (⟨([(⟨([] : List Int), ([] : List Feat), ([98, 101, 103, 105, 110] : Str)⟩ : Commit)] : List Commit), ([(⟨name, 0⟩ : Head)] : List Head)⟩ : Repo) true)) := h
  clear h
  have hc0 := Ct.init hO
  refine Ret_enter Try.func14 rfl 16 rfl [.cell 2 35, .tmp 3] rfl rfl ?_
  refine W_seq ?_
  refine W_reg ?_
  refine L_alloc [.slice none 0 0, .slice none 0 0] ze35 fun w2 b3 hl5 hu6 g4 hx7 => ?_
  have hc9 := hc0.own g4 (some b3) (oglt hl5 hu6)
  refine L_pu (P_assign (vb false) rfl) ?_
  refine L_nil ?_
  refine W_seq ?_
  refine W_seq ?_
  refine W_reg ?_
  refine L_pu (P_move (vs name) rfl) ?_
  refine L_call go53 [vs name] rfl ((impl_WordOk.calls w2 hc9.ok name hs1 _ H).mono ?_)
  rintro _ w10 ⟨r, rfl, H, g11⟩
  have hc15 := hc9.k0 g11
  refine L_pu (P_not r rfl) ?_
  refine L_nil ?_
  refine W_cond (!r) rfl (fun hq16 => ?_) (fun hq16 => ?_)
  · have H := ite_t H hq16
    refine W_seq ?_
    refine W_reg ?_
    refine L_pu (P_build (.agg #[.slice none 0 0, .slice none 0 0]) (fun _ => by kernel_rfl)) ?_
    have h20 := (hx7.k0 g11)
    refine L_stb b3 0 [.slice none 0 0, .slice none 0 0] [.slice none 0 0, .slice none 0 0] [.slice none 0 0, .slice none 0 0] rfl h20 rfl sz35 rfl rfl rfl fun w17 g18 hx19 => ?_
    have hc21 := hc15.wr 0 rfl g18
    refine L_pu (P_assign (vb false) rfl) ?_
    refine L_nil ?_
    refine W_ret ?_
    have hc23 := hc21.own (Gr.refl _ none) none (by simp)
    have h24 : Ow (Kd.cells 3) 91 w17 ([blk (.slice none 0 0), some b3] ++ O) (.slice none 0 0) [] := Ow.nil _ _ _ _
    have hd25 : DArr dCommit_91 w17 [] ([] : List Commit) [] := rfl
    have hp26 : ([blk (.slice none 0 0), some b3] : Ob).Perm (blk (.slice none 0 0) :: some b3 :: (([] : Ob) ++ [])) := (by rw [List.perm_iff_count]; intro a; (try simp only [List.count_append, List.count_cons, List.count_nil, Nat.add_zero, Nat.zero_add]); first | done | ac_rfl)
    have hc27 := hc23.perm hp26
    have hc29 := hc27.own (Gr.refl _ none) none (by simp)
    have h30 : Ow kHead 93 w17 ((blk (.slice none 0 0) :: blk (.slice none 0 0) :: some b3 :: (([] : Ob) ++ [])) ++ O) (.slice none 0 0) [] := Ow.nil _ _ _ _
    have h31 := hx19
    have h32 := Bx.gv (L := (blk (.slice none 0 0) :: blk (.slice none 0 0) :: some b3 :: (([] : Ob) ++ []))) (O := O) h31 hc29 (i := 2) rfl
    have hc33 := hc29.drop 2 rfl
    have hc34 := hc33.perm (.swap _ _ _)
    have h35 := (h32.st (.perm (L := (blk (.slice none 0 0) :: blk (.slice none 0 0) :: (([] : Ob) ++ []))) (O := O) (.swap _ _ _)))
    have h36 := (Ow.sp (L := (blk (.slice none 0 0) :: blk (.slice none 0 0) :: (([] : Ob) ++ []))) (O := O) (Ow.sd (L := (blk (.slice none 0 0) :: blk (.slice none 0 0) :: some b3 :: (([] : Ob) ++ []))) (O := O) ((Ow.sp (L := [blk (.slice none 0 0), some b3]) (O := O) h24 hp26).so none (Gr.refl _ none) (by simp)) (i := 1) rfl (j := 2) rfl (by decide)) (.swap _ _ _))
    have hd37 := hd25
    have h38 := (Ow.sp (L := (blk (.slice none 0 0) :: blk (.slice none 0 0) :: (([] : Ob) ++ []))) (O := O) (Ow.sd (L := (blk (.slice none 0 0) :: blk (.slice none 0 0) :: some b3 :: (([] : Ob) ++ []))) (O := O) h30 (i := 0) rfl (j := 2) rfl (by decide)) (.swap _ _ _))
    exact ⟨[.agg #[.slice none 0 0, .slice none 0 0], vb false], ⟨_, _, rfl, h35.1.res rfl ag35 sz35, ⟨_, rfl, rfl⟩⟩, (⟨([] : List Commit), ([] : List Head)⟩ : Repo), false, none, 0, 0, ([] : Ob), ([] : List (List Value)), none, 0, 0, rfl, H, hc34.gr.g0, hc34.ok, hc34.ge, h36, hd37, h38⟩
  · have H := ite_f H hq16
    refine W_skip ?_
    refine W_seq ?_
    refine W_reg ?_
    refine L_lit (kd := (Kd.int .i64)) ei89 hc15 ([] : List Int) (cells := []) rfl (fun _ => by kernel_rfl) fun w39 A40 n41 c42 g43 hr44 hc45 h46 => ?_
    have hd56 : DArr dFeat_71 w39 ([] : Ob) ([] : List Feat) ([] : List (List Value)) := rfl
    refine L_lit (kd := Kd.cells 4) ei52 hc45 ([] : List (List Value)) (cells := []) rfl (fun _ => by kernel_rfl) fun w48 A49 n50 c51 g52 hr53 hc54 h55 => ?_
    have hp58 : ([blk (.slice A49 n50 c51), blk (.slice A40 n41 c42), some b3] : Ob).Perm (blk (.slice A49 n50 c51) :: blk (.slice A40 n41 c42) :: some b3 :: (([] : Ob) ++ [])) := (by rw [List.perm_iff_count]; intro a; (try simp only [List.count_append, List.count_cons, List.count_nil, Nat.add_zero, Nat.zero_add]); first | done | ac_rfl)
    have hc59 := hc54.perm hp58
    refine L_pu (P_build (.agg #[.slice A40 n41 c42, .slice A49 n50 c51, vs ([98, 101, 103, 105, 110] : Str)]) (fun _ => by kernel_rfl)) ?_
    have h60 := (Ow.sp (L := [blk (.slice A49 n50 c51), blk (.slice A40 n41 c42), some b3]) (O := O) (h46.so _ g52 hr53) hp58)
    have h61 := (Ow.sp (L := [blk (.slice A49 n50 c51), blk (.slice A40 n41 c42), some b3]) (O := O) h55 hp58)
    have hd62 := (hd56.k0 g52)
    have hd63 : (dCommit_91).D w48 ([blk (.slice A40 n41 c42)] ++ ((blk (.slice A49 n50 c51) :: ([] : Ob)) ++ [])) (⟨([] : List Int), ([] : List Feat), ([98, 101, 103, 105, 110] : Str)⟩ : Commit) [.slice A40 n41 c42, .slice A49 n50 c51, vs ([98, 101, 103, 105, 110] : Str)] := (dCommit_91.mk _ (⟨([] : List Int), ([] : List Feat), ([98, 101, 103, 105, 110] : Str)⟩ : Commit) (Ds.ofOw (int_flat _) h60) (Ds.mk h61 hd62) (by decide))
    have hd72 : DArr dCommit_91 w48 (([blk (.slice A40 n41 c42)] ++ ((blk (.slice A49 n50 c51) :: ([] : Ob)) ++ [])) ++ []) ([(⟨([] : List Int), ([] : List Feat), ([98, 101, 103, 105, 110] : Str)⟩ : Commit)] : List Commit) ([[.slice A40 n41 c42, .slice A49 n50 c51, vs ([98, 101, 103, 105, 110] : Str)]] : List (List Value)) := ⟨_, _, rfl, hd63, rfl⟩
    refine L_lit (kd := Kd.cells 3) ei32 hc59 ([[.slice A40 n41 c42, .slice A49 n50 c51, vs ([98, 101, 103, 105, 110] : Str)]] : List (List Value)) (cells := [.slice A40 n41 c42, .slice A49 n50 c51, vs ([98, 101, 103, 105, 110] : Str)]) ⟨[.slice A40 n41 c42, .slice A49 n50 c51, vs ([98, 101, 103, 105, 110] : Str)], _, rfl, Dd.raw _ hd63, rfl⟩ (fun _ => by kernel_rfl) fun w64 A65 n66 c67 g68 hr69 hc70 h71 => ?_
    have hp74 : ((blk (.slice A65 n66 c67) :: blk (.slice A49 n50 c51) :: blk (.slice A40 n41 c42) :: some b3 :: (([] : Ob) ++ [])) : Ob).Perm (blk (.slice A65 n66 c67) :: some b3 :: ((([blk (.slice A40 n41 c42)] ++ ((blk (.slice A49 n50 c51) :: ([] : Ob)) ++ [])) ++ []) ++ [])) := (by rw [List.perm_iff_count]; intro a; (try simp only [List.count_append, List.count_cons, List.count_nil, Nat.add_zero, Nat.zero_add]); first | done | ac_rfl)
    have hc75 := hc70.perm hp74
    refine L_pu (P_move (vs name) rfl) ?_
    refine L_pu (P_build (.agg #[vs name, vi 0]) (fun _ => by kernel_rfl)) ?_
    refine L_lit (kd := kHead) ei33 hc75 ([(⟨name, 0⟩ : Head)] : List Head) (cells := [vs name, vi 0]) ⟨[vs name, vi 0], _, rfl, (kHead.mk _ _ (⟨name, 0⟩ : Head) hs1), rfl⟩ (fun _ => by kernel_rfl) fun w76 A77 n78 c79 g80 hr81 hc82 h83 => ?_
    refine L_pu (P_build (.agg #[.slice A65 n66 c67, .slice A77 n78 c79]) (fun _ => by kernel_rfl)) ?_
    have h88 := (((((hx7.k0 g11).k0 g43).k0 g52).k0 g68).k0 g80)
    refine L_stb b3 0 [.slice none 0 0, .slice none 0 0] [.slice A65 n66 c67, .slice A77 n78 c79] [.slice A65 n66 c67, .slice A77 n78 c79] rfl h88 rfl sz35 rfl rfl rfl fun w85 g86 hx87 => ?_
    have hc89 := hc82.wr 2 rfl g86
    refine L_pu (P_assign (vb true) rfl) ?_
    refine L_nil ?_
    refine W_ret ?_
    have h90 := Bx.gv (L := (blk (.slice A77 n78 c79) :: blk (.slice A65 n66 c67) :: some b3 :: ((([blk (.slice A40 n41 c42)] ++ ((blk (.slice A49 n50 c51) :: ([] : Ob)) ++ [])) ++ []) ++ []))) (O := O) hx87 hc89 (i := 2) rfl
    have hc91 := hc89.drop 2 rfl
    have hc92 := hc91.perm (.swap _ _ _)
    have h93 := (h90.st (.perm (L := (blk (.slice A77 n78 c79) :: blk (.slice A65 n66 c67) :: ((([blk (.slice A40 n41 c42)] ++ ((blk (.slice A49 n50 c51) :: ([] : Ob)) ++ [])) ++ []) ++ []))) (O := O) (.swap _ _ _)))
    have h94 := (Ow.sp (L := (blk (.slice A77 n78 c79) :: blk (.slice A65 n66 c67) :: ((([blk (.slice A40 n41 c42)] ++ ((blk (.slice A49 n50 c51) :: ([] : Ob)) ++ [])) ++ []) ++ []))) (O := O) (Ow.sd (L := (blk (.slice A77 n78 c79) :: blk (.slice A65 n66 c67) :: some b3 :: ((([blk (.slice A40 n41 c42)] ++ ((blk (.slice A49 n50 c51) :: ([] : Ob)) ++ [])) ++ []) ++ []))) (O := O) (Ow.sw (L := (blk (.slice A77 n78 c79) :: blk (.slice A65 n66 c67) :: some b3 :: ((([blk (.slice A40 n41 c42)] ++ ((blk (.slice A49 n50 c51) :: ([] : Ob)) ++ [])) ++ []) ++ []))) (O := O) ((Ow.sp (L := (blk (.slice A65 n66 c67) :: blk (.slice A49 n50 c51) :: blk (.slice A40 n41 c42) :: some b3 :: (([] : Ob) ++ []))) (O := O) h71 hp74).so _ g80 hr81) hc82 (i := 1) rfl (j := 2) rfl (by decide) g86) (i := 1) rfl (j := 2) rfl (by decide)) (.swap _ _ _))
    have hd95 := (DArr.sm (L := (blk (.slice A77 n78 c79) :: blk (.slice A65 n66 c67) :: some b3 :: ((([blk (.slice A40 n41 c42)] ++ ((blk (.slice A49 n50 c51) :: ([] : Ob)) ++ [])) ++ []) ++ []))) (O := O) (i := 2) ((hd72.k0 g68).k0 g80) hc82 rfl (fun b hb => (List.mem_append_left _ hb)) g86)
    have h96 := (Ow.sp (L := (blk (.slice A77 n78 c79) :: blk (.slice A65 n66 c67) :: ((([blk (.slice A40 n41 c42)] ++ ((blk (.slice A49 n50 c51) :: ([] : Ob)) ++ [])) ++ []) ++ []))) (O := O) (Ow.sd (L := (blk (.slice A77 n78 c79) :: blk (.slice A65 n66 c67) :: some b3 :: ((([blk (.slice A40 n41 c42)] ++ ((blk (.slice A49 n50 c51) :: ([] : Ob)) ++ [])) ++ []) ++ []))) (O := O) (Ow.sw (L := (blk (.slice A77 n78 c79) :: blk (.slice A65 n66 c67) :: some b3 :: ((([blk (.slice A40 n41 c42)] ++ ((blk (.slice A49 n50 c51) :: ([] : Ob)) ++ [])) ++ []) ++ []))) (O := O) h83 hc82 (i := 0) rfl (j := 2) rfl (by decide) g86) (i := 0) rfl (j := 2) rfl (by decide)) (.swap _ _ _))
    exact ⟨[.agg #[.slice A65 n66 c67, .slice A77 n78 c79], vb true], ⟨_, _, rfl, h93.1.res rfl ag35 sz35, ⟨_, rfl, rfl⟩⟩, (⟨([(⟨([] : List Int), ([] : List Feat), ([98, 101, 103, 105, 110] : Str)⟩ : Commit)] : List Commit), ([(⟨name, 0⟩ : Head)] : List Head)⟩ : Repo), true, A65, n66, c67, (([blk (.slice A40 n41 c42)] ++ ((blk (.slice A49 n50 c51) :: ([] : Ob)) ++ [])) ++ []), ([[.slice A40 n41 c42, .slice A49 n50 c51, vs ([98, 101, 103, 105, 110] : Str)]] : List (List Value)), A77, n78, c79, rfl, H, hc92.gr.g0, hc92.ok, hc92.ge, h94, hd95, h96⟩
end Go.Proofs.Ytndjggncgpjolaa

namespace Go.Proofs.Ytndjggncgpjolaa
open Go.RowKit
set_option linter.unusedVariables false
def laws_eqIntS.E (a : List Int) (b : List Int) (Q : Bool → Prop) : Prop :=
  (if (a.length : Int) != (b.length : Int) then Q false else (∃ (I32 : Int → Prop) (mu33 : Int → Nat), I32 0 ∧ ∀ (i2 : Int), I32 i2 → (if decide (i2 < (a.length : Int)) then ((0 : Int) ≤ i2 ∧ i2 < (a.length : Int)) ∧ ((0 : Int) ≤ i2 ∧ i2 < (b.length : Int)) ∧ (if (nth a i2) != (nth b i2) then Q false else (-9223372036854775808 ≤ i2) ∧ I32 (i2 + 1) ∧ mu33 (i2 + 1) < mu33 i2) else Q true)))
set_option maxHeartbeats 8000000 in
set_option maxRecDepth 100000 in
theorem laws_eqIntS.calls {O : Ob} (w0 : World) (hO : Ok w0 O) (a : List Int) (A1 : Option Addr) (n2 c3 : Nat) (hp4 : Sl (Kd.int .i64) w0 (Fr O) (.slice A1 n2 c3) a) (b : List Int) (A6 : Option Addr) (n7 c8 : Nat) (hp9 : Sl (Kd.int .i64) w0 (Fr O) (.slice A6 n7 c8) b) (Q : Bool → Prop) (h : laws_eqIntS.E a b Q) :
    Ret Try.prog 148 [.slice A1 n2 c3, .slice A6 n7 c8] w0 (fun v w' => ∃ (r0 : Bool), v = vb r0 ∧ Q r0 ∧ Gr w0 w' none) := by
  have H : (if (a.length : Int) != (b.length : Int) then Q false else (∃ (I32 : Int → Prop) (mu33 : Int → Nat), I32 0 ∧ ∀ (i2 : Int), I32 i2 → (if decide (i2 < (a.length : Int)) then ((0 : Int) ≤ i2 ∧ i2 < (a.length : Int)) ∧ ((0 : Int) ≤ i2 ∧ i2 < (b.length : Int)) ∧ (if (nth a i2) != (nth b i2) then Q false else (-9223372036854775808 ≤ i2) ∧ I32 (i2 + 1) ∧ mu33 (i2 + 1) < mu33 i2) else Q true))) := h
  clear h
  have hc0 := Ct.init hO
  refine Ret_enter Try.func148 rfl 26 rfl [.tmp 4] rfl rfl ?_
  refine W_seq ?_
  refine W_reg ?_
  refine L_pu (P_assign (vb false) rfl) ?_
  refine L_nil ?_
  refine W_seq ?_
  refine W_seq ?_
  refine W_reg ?_
  refine L_pu (P_move (.slice A1 n2 c3) rfl) ?_
  have hl11 := hp4.le
  refine L_pu (P_len Try.underlying89 A1 n2 c3 hp4.len rfl) ?_
  refine L_pu (P_move (.slice A6 n7 c8) rfl) ?_
  have hl12 := hp9.le
  refine L_pu (P_len Try.underlying89 A6 n7 c8 hp9.len rfl) ?_
  refine L_pu (P_cmp (a.length : Int) (b.length : Int) ((a.length : Int) != (b.length : Int)) rfl rfl rfl) ?_
  refine L_nil ?_
  refine W_cond ((a.length : Int) != (b.length : Int)) rfl (fun hq13 => ?_) (fun hq13 => ?_)
  · have H := ite_t H hq13
    refine W_seq ?_
    refine W_reg ?_
    refine L_pu (P_assign (vb false) rfl) ?_
    refine L_nil ?_
    refine W_ret ?_
    exact ⟨[vb false], ⟨_, rfl, rfl⟩, false, rfl, H, hc0.gr.g0⟩
  · have H := ite_f H hq13
    refine W_skip ?_
    refine W_seq ?_
    refine W_seq ?_
    refine W_reg ?_
    refine L_pu (P_assign (vi 0) rfl) ?_
    refine L_nil ?_
    refine W_block ?_
    obtain ⟨I32, mu33, hI34, H⟩ := H
    refine W_loop (α := Int) (fun (sv__ : Int) t w26 => match sv__ with | i2 => I32 i2 ∧ Has t [(0, .slice A1 n2 c3), (1, .slice A6 n7 c8), (5, vi i2)] ∧ Ct [] w0 w26 [] O ∧ Sl (Kd.int .i64) w26 (Fr ([] ++ O)) (.slice A1 n2 c3) a ∧ Sl (Kd.int .i64) w26 (Fr ([] ++ O)) (.slice A6 n7 c8) b) (fun (sv__ : Int) => match sv__ with | i2 => mu33 i2) 0 ⟨hI34, ⟨rfl, rfl, rfl, trivial⟩, hc0, hp4, hp9⟩ ?_
    rintro i2 _ w26 ⟨hI34, hh36, hc29, h30, h31⟩
    obtain ⟨u37, rfl⟩ := Has.ins hh36
    have H := H i2 hI34
    refine W_seq ?_
    refine W_seq ?_
    refine W_reg ?_
    refine L_pu (P_move (vi i2) rfl) ?_
    refine L_pu (P_move (.slice A1 n2 c3) rfl) ?_
    have hl38 := h30.le
    refine L_pu (P_len Try.underlying89 A1 n2 c3 h30.len rfl) ?_
    refine L_pu (P_cmp i2 (a.length : Int) (decide (i2 < (a.length : Int))) rfl rfl rfl) ?_
    refine L_nil ?_
    refine W_cond (decide (i2 < (a.length : Int))) rfl (fun hq39 => ?_) (fun hq39 => ?_)
    · have H := ite_t H hq39
      refine W_skip ?_
      refine W_seq ?_
      refine W_block ?_
      refine W_seq ?_
      refine W_draw (fun x => Gr w26 x none) (by kernel_rfl) (by kernel_rfl) (Gr.drew _) ?_
      refine Q_pu (P_move (.slice A1 n2 c3) rfl) ?_
      refine Q_pu (P_move (vi i2) rfl) ?_
      obtain ⟨hb40, H⟩ := H
      obtain ⟨ad41, cs42, hA43, hS46, hR44, hcl45⟩ := h30.get default (by decide) i2 hb40
      obtain rfl := Kd.int.op hR44
      refine Q_pu (P_ia Try.underlying89 se89 A1 ad41 n2 c3 h30.len i2 rfl hA43 rfl hb40) ?_
      refine Q_pu (P_ld ag3 cQ (ad41.add (i2.toNat * 1)) (vi (nth a i2)) rfl (hcl45 0 _ rfl)) ?_
      refine Q_pu (P_move (.slice A6 n7 c8) rfl) ?_
      refine Q_pu (P_move (vi i2) rfl) ?_
      obtain ⟨hb47, H⟩ := H
      obtain ⟨ad48, cs49, hA50, hS53, hR51, hcl52⟩ := h31.get default (by decide) i2 hb47
      obtain rfl := Kd.int.op hR51
      refine Q_pu (P_ia Try.underlying89 se89 A6 ad48 n7 c8 h31.len i2 rfl hA50 rfl hb47) ?_
      refine Q_pu (P_ld ag3 cQ (ad48.add (i2.toNat * 1)) (vi (nth b i2)) rfl (hcl52 0 _ rfl)) ?_
      refine Q_pu (P_cmp (nth a i2) (nth b i2) ((nth a i2) != (nth b i2)) rfl rfl rfl) ?_
      refine Q_nil fun w54 g55 => ?_
      have hc57 := hc29.k0 g55
      refine W_cond ((nth a i2) != (nth b i2)) rfl (fun hq58 => ?_) (fun hq58 => ?_)
      · have H := ite_t H hq58
        refine W_seq ?_
        refine W_reg ?_
        refine L_pu (P_assign (vb false) rfl) ?_
        refine L_nil ?_
        refine W_ret ?_
        exact ⟨[vb false], ⟨_, rfl, rfl⟩, false, rfl, H, hc57.gr.g0⟩
      · have H := ite_f H hq58
        refine W_skip ?_
        refine W_reg ?_
        refine L_pu (P_move (vi i2) rfl) ?_
        obtain ⟨hb60, H⟩ := H
        have hi59 : I64 (i2 + 1) := i64_succ (of_decide_eq_true hq39) hl38 hb60
        refine L_pu (P_add i2 1 rfl rfl hi59) ?_
        refine L_pu (P_assign (vi (i2 + 1)) rfl) ?_
        refine L_nil ?_
        obtain ⟨hI61, hm62⟩ := H
        exact ⟨i2 + 1, hm62, hI61, ⟨rfl, rfl, rfl, trivial⟩, hc57, (h30.st (.new _ g55)), (h31.st (.new _ g55))⟩
    · have H := ite_f H hq39
      refine W_exit (xin_hit ?_)
      refine W_seq ?_
      refine W_reg ?_
      refine L_pu (P_assign (vb true) rfl) ?_
      refine L_nil ?_
      refine W_ret ?_
      exact ⟨[vb true], ⟨_, rfl, rfl⟩, true, rfl, H, hc29.gr.g0⟩
end Go.Proofs.Ytndjggncgpjolaa

namespace Go.Proofs.Ytndjggncgpjolaa
set_option linter.unusedVariables false
set_option linter.unusedSimpArgs false
set_option linter.unusedSectionVars false
theorem laws_eqIntS.law (a b : List Int) (Q : Bool → Prop) (hq : Q (decide (a = b))) : laws_eqIntS.E a b Q := by
  unfold laws_eqIntS.E
  exact eqN_shape a b Q hq
theorem laws_eqIntS.is (a b : List Int) : laws_eqIntS.E a b (fun r => r = decide (a = b)) := laws_eqIntS.law a b _ rfl
end Go.Proofs.Ytndjggncgpjolaa

namespace Go.Proofs.Ytndjggncgpjolaa
open Go.RowKit
set_option linter.unusedVariables false
def laws_eqPt.E (a : Pt) (b : Pt) (Q : Bool → Prop) : Prop :=
  (if a.X != b.X then Q false else (if a.Y != b.Y then Q false else Q true))
set_option maxHeartbeats 8000000 in
set_option maxRecDepth 100000 in
theorem laws_eqPt.calls {O : Ob} (w0 : World) (hO : Ok w0 O) (a : Pt) (b : Pt) (Q : Bool → Prop) (h : laws_eqPt.E a b Q) :
    Ret Try.prog 171 [.agg #[vi a.X, vi a.Y], .agg #[vi b.X, vi b.Y]] w0 (fun v w' => ∃ (r0 : Bool), v = vb r0 ∧ Q r0 ∧ Gr w0 w' none) := by
  have H : (if a.X != b.X then Q false else (if a.Y != b.Y then Q false else Q true)) := h
  clear h
  have hc0 := Ct.init hO
  refine Ret_enter Try.func171 rfl 15 rfl [.tmp 4] rfl rfl ?_
  refine W_seq ?_
  refine W_reg ?_
  refine L_box [vi a.X, vi a.Y] rfl fun w1 b2 hl4 hu5 g3 hx6 => ?_
  have h8 := Fb.mk hc0.ok hl4 hx6
  have hc9 := hc0.k0 g3
  refine L_box [vi b.X, vi b.Y] rfl fun w10 b11 hl13 hu14 g12 hx15 => ?_
  have h17 := Fb.mk hc9.ok hl13 hx15
  have hc18 := hc9.k0 g12
  refine L_pu (P_assign (vb false) rfl) ?_
  refine L_nil ?_
  refine W_seq ?_
  refine W_seq ?_
  refine W_reg ?_
  refine L_pu (P_fa fa29_0 ⟨b2, 0, none⟩ ⟨b2, 0, none⟩ rfl rfl) ?_
  have h19 := (h8.st (.new _ g12))
  refine L_pu (P_ld ag3 cL ⟨b2, 0, none⟩ (vi a.X) rfl (h19.cell rfl)) ?_
  refine L_pu (P_fa fa29_0 ⟨b11, 0, none⟩ ⟨b11, 0, none⟩ rfl rfl) ?_
  refine L_pu (P_ld ag3 cL ⟨b11, 0, none⟩ (vi b.X) rfl (h17.cell rfl)) ?_
  refine L_pu (P_cmp a.X b.X (a.X != b.X) rfl rfl rfl) ?_
  refine L_nil ?_
  refine W_cond (a.X != b.X) rfl (fun hq20 => ?_) (fun hq20 => ?_)
  · have H := ite_t H hq20
    refine W_seq ?_
    refine W_reg ?_
    refine L_pu (P_assign (vb false) rfl) ?_
    refine L_nil ?_
    refine W_ret ?_
    exact ⟨[vb false], ⟨_, rfl, rfl⟩, false, rfl, H, hc18.gr.g0⟩
  · have H := ite_f H hq20
    refine W_skip ?_
    refine W_seq ?_
    refine W_seq ?_
    refine W_reg ?_
    refine L_pu (P_fa fa29_1 ⟨b2, 0, none⟩ ⟨b2, 1, none⟩ rfl rfl) ?_
    refine L_pu (P_ld ag3 cL ⟨b2, 1, none⟩ (vi a.Y) rfl (h19.cell rfl)) ?_
    refine L_pu (P_fa fa29_1 ⟨b11, 0, none⟩ ⟨b11, 1, none⟩ rfl rfl) ?_
    refine L_pu (P_ld ag3 cL ⟨b11, 1, none⟩ (vi b.Y) rfl (h17.cell rfl)) ?_
    refine L_pu (P_cmp a.Y b.Y (a.Y != b.Y) rfl rfl rfl) ?_
    refine L_nil ?_
    refine W_cond (a.Y != b.Y) rfl (fun hq21 => ?_) (fun hq21 => ?_)
    · have H := ite_t H hq21
      refine W_seq ?_
      refine W_reg ?_
      refine L_pu (P_assign (vb false) rfl) ?_
      refine L_nil ?_
      refine W_ret ?_
      exact ⟨[vb false], ⟨_, rfl, rfl⟩, false, rfl, H, hc18.gr.g0⟩
    · have H := ite_f H hq21
      refine W_skip ?_
      refine W_seq ?_
      refine W_reg ?_
      refine L_pu (P_assign (vb true) rfl) ?_
      refine L_nil ?_
      refine W_ret ?_
      exact ⟨[vb true], ⟨_, rfl, rfl⟩, true, rfl, H, hc18.gr.g0⟩
def laws_eqPt.m (a : Pt) (b : Pt) : Bool := (if a.X != b.X then false else (if a.Y != b.Y then false else true))
theorem laws_eqPt.fn (a : Pt) (b : Pt) : laws_eqPt.E a b (fun r => r = laws_eqPt.m a b) := by
  unfold laws_eqPt.E laws_eqPt.m
  (repeat' split) <;> simp_all
end Go.Proofs.Ytndjggncgpjolaa

namespace Go.Proofs.Ytndjggncgpjolaa
set_option linter.unusedVariables false
set_option linter.unusedSimpArgs false
set_option linter.unusedSectionVars false
theorem laws_eqPt.law (a b : Pt) (Q : Bool → Prop) (hq : Q (decide (a = b))) : laws_eqPt.E a b Q := by
  obtain ⟨x0, x1⟩ := a; obtain ⟨y0, y1⟩ := b
  rw [show (decide ((⟨x0, x1⟩ : Pt) = ⟨y0, y1⟩)) = ((decide (x0 = y0)) && (decide (x1 = y1))) by simp only [Pt.mk.injEq, Bool.decide_and]] at hq
  unfold laws_eqPt.E
  by_cases h0 : x0 = y0
  case neg => simpa [h0] using hq
  simp only [h0, decide_true, Bool.true_and, bne_self_eq_false, Bool.not_true, Bool.false_eq_true, if_false] at hq ⊢
  by_cases h1 : x1 = y1
  case neg => simpa [h1] using hq
  simp only [h1, decide_true, Bool.true_and, bne_self_eq_false, Bool.not_true, Bool.false_eq_true, if_false] at hq ⊢
  all_goals (try exact hq)
theorem laws_eqPt.is (a b : Pt) : laws_eqPt.E a b (fun r => r = decide (a = b)) := laws_eqPt.law a b _ rfl
end Go.Proofs.Ytndjggncgpjolaa

namespace Go.Proofs.Ytndjggncgpjolaa
open Go.RowKit
set_option linter.unusedVariables false
def laws_eqPtS.E (a : List Pt) (b : List Pt) (Q : Bool → Prop) : Prop :=
  (if (a.length : Int) != (b.length : Int) then Q false else (∃ (I32 : Int → Prop) (mu33 : Int → Nat), I32 0 ∧ ∀ (i2 : Int), I32 i2 → (if decide (i2 < (a.length : Int)) then ((0 : Int) ≤ i2 ∧ i2 < (a.length : Int)) ∧ ((0 : Int) ≤ i2 ∧ i2 < (b.length : Int)) ∧ (if !(decide ((nth a i2) = (nth b i2))) then Q false else (-9223372036854775808 ≤ i2) ∧ I32 (i2 + 1) ∧ mu33 (i2 + 1) < mu33 i2) else Q true)))
set_option maxHeartbeats 8000000 in
set_option maxRecDepth 100000 in
theorem laws_eqPtS.calls {O : Ob} (w0 : World) (hO : Ok w0 O) (a : List Pt) (A1 : Option Addr) (n2 c3 : Nat) (hp4 : Sl kPt w0 (Fr O) (.slice A1 n2 c3) a) (b : List Pt) (A6 : Option Addr) (n7 c8 : Nat) (hp9 : Sl kPt w0 (Fr O) (.slice A6 n7 c8) b) (Q : Bool → Prop) (h : laws_eqPtS.E a b Q) :
    Ret Try.prog 144 [.slice A1 n2 c3, .slice A6 n7 c8] w0 (fun v w' => ∃ (r0 : Bool), v = vb r0 ∧ Q r0 ∧ Gr w0 w' none) := by
  have H : (if (a.length : Int) != (b.length : Int) then Q false else (∃ (I32 : Int → Prop) (mu33 : Int → Nat), I32 0 ∧ ∀ (i2 : Int), I32 i2 → (if decide (i2 < (a.length : Int)) then ((0 : Int) ≤ i2 ∧ i2 < (a.length : Int)) ∧ ((0 : Int) ≤ i2 ∧ i2 < (b.length : Int)) ∧ (if !(decide ((nth a i2) = (nth b i2))) then Q false else (-9223372036854775808 ≤ i2) ∧ I32 (i2 + 1) ∧ mu33 (i2 + 1) < mu33 i2) else Q true))) := h
  clear h
  have hc0 := Ct.init hO
  refine Ret_enter Try.func144 rfl 27 rfl [.tmp 4] rfl rfl ?_
  refine W_seq ?_
  refine W_reg ?_
  refine L_pu (P_assign (vb false) rfl) ?_
  refine L_nil ?_
  refine W_seq ?_
  refine W_seq ?_
  refine W_reg ?_
  refine L_pu (P_move (.slice A1 n2 c3) rfl) ?_
  have hl11 := hp4.le
  refine L_pu (P_len Try.underlying23 A1 n2 c3 hp4.len rfl) ?_
  refine L_pu (P_move (.slice A6 n7 c8) rfl) ?_
  have hl12 := hp9.le
  refine L_pu (P_len Try.underlying23 A6 n7 c8 hp9.len rfl) ?_
  refine L_pu (P_cmp (a.length : Int) (b.length : Int) ((a.length : Int) != (b.length : Int)) rfl rfl rfl) ?_
  refine L_nil ?_
  refine W_cond ((a.length : Int) != (b.length : Int)) rfl (fun hq13 => ?_) (fun hq13 => ?_)
  · have H := ite_t H hq13
    refine W_seq ?_
    refine W_reg ?_
    refine L_pu (P_assign (vb false) rfl) ?_
    refine L_nil ?_
    refine W_ret ?_
    exact ⟨[vb false], ⟨_, rfl, rfl⟩, false, rfl, H, hc0.gr.g0⟩
  · have H := ite_f H hq13
    refine W_skip ?_
    refine W_seq ?_
    refine W_seq ?_
    refine W_reg ?_
    refine L_pu (P_assign (vi 0) rfl) ?_
    refine L_nil ?_
    refine W_block ?_
    obtain ⟨I32, mu33, hI34, H⟩ := H
    refine W_loop (α := Int) (fun (sv__ : Int) t w26 => match sv__ with | i2 => I32 i2 ∧ Has t [(0, .slice A1 n2 c3), (1, .slice A6 n7 c8), (5, vi i2)] ∧ Ct [] w0 w26 [] O ∧ Sl kPt w26 (Fr ([] ++ O)) (.slice A1 n2 c3) a ∧ Sl kPt w26 (Fr ([] ++ O)) (.slice A6 n7 c8) b) (fun (sv__ : Int) => match sv__ with | i2 => mu33 i2) 0 ⟨hI34, ⟨rfl, rfl, rfl, trivial⟩, hc0, hp4, hp9⟩ ?_
    rintro i2 _ w26 ⟨hI34, hh36, hc29, h30, h31⟩
    obtain ⟨u37, rfl⟩ := Has.ins hh36
    have H := H i2 hI34
    refine W_seq ?_
    refine W_seq ?_
    refine W_reg ?_
    refine L_pu (P_move (vi i2) rfl) ?_
    refine L_pu (P_move (.slice A1 n2 c3) rfl) ?_
    have hl38 := h30.le
    refine L_pu (P_len Try.underlying23 A1 n2 c3 h30.len rfl) ?_
    refine L_pu (P_cmp i2 (a.length : Int) (decide (i2 < (a.length : Int))) rfl rfl rfl) ?_
    refine L_nil ?_
    refine W_cond (decide (i2 < (a.length : Int))) rfl (fun hq39 => ?_) (fun hq39 => ?_)
    · have H := ite_t H hq39
      refine W_skip ?_
      refine W_seq ?_
      refine W_block ?_
      refine W_seq ?_
      refine W_draw (fun x => Gr w26 x none) (by kernel_rfl) (by kernel_rfl) (Gr.drew _) ?_
      refine Q_pu (P_move (.slice A1 n2 c3) rfl) ?_
      refine Q_pu (P_move (vi i2) rfl) ?_
      obtain ⟨hb40, H⟩ := H
      obtain ⟨ad41, cs42, hA43, hS46, hR44, hcl45⟩ := h30.get default (by decide) i2 hb40
      obtain rfl := kPt.op hR44
      refine Q_pu (P_ia Try.underlying23 se23 A1 ad41 n2 c3 h30.len i2 rfl hA43 rfl hb40) ?_
      refine Q_pu (P_lda ag29 sz29 cQ (ad41.add (i2.toNat * 2)) [vi ((nth a i2).X), vi ((nth a i2).Y)] rfl rfl hcl45) ?_
      refine Q_pu (P_move (.slice A6 n7 c8) rfl) ?_
      refine Q_pu (P_move (vi i2) rfl) ?_
      obtain ⟨hb47, H⟩ := H
      obtain ⟨ad48, cs49, hA50, hS53, hR51, hcl52⟩ := h31.get default (by decide) i2 hb47
      obtain rfl := kPt.op hR51
      refine Q_pu (P_ia Try.underlying23 se23 A6 ad48 n7 c8 h31.len i2 rfl hA50 rfl hb47) ?_
      refine Q_pu (P_lda ag29 sz29 cQ (ad48.add (i2.toNat * 2)) [vi ((nth b i2).X), vi ((nth b i2).Y)] rfl rfl hcl52) ?_
      refine Q_call go171 [.agg #[vi ((nth a i2).X), vi ((nth a i2).Y)], .agg #[vi ((nth b i2).X), vi ((nth b i2).Y)]] rfl (vb (decide ((nth a i2) = (nth b i2)))) (fun w g => (laws_eqPt.calls w (hc29.k0 g).ok (nth a i2) (nth b i2) _ (laws_eqPt.is (nth a i2) (nth b i2))).mono ?_) ?_
      · rintro _ w ⟨r, rfl, rfl, g2⟩
        exact ⟨rfl, Gr.t0 g g2⟩
      refine Q_pu (P_not (decide ((nth a i2) = (nth b i2))) rfl) ?_
      refine Q_nil fun w59 g60 => ?_
      have hc62 := hc29.k0 g60
      refine W_cond (!(decide ((nth a i2) = (nth b i2)))) rfl (fun hq63 => ?_) (fun hq63 => ?_)
      · have H := ite_t H hq63
        refine W_seq ?_
        refine W_reg ?_
        refine L_pu (P_assign (vb false) rfl) ?_
        refine L_nil ?_
        refine W_ret ?_
        exact ⟨[vb false], ⟨_, rfl, rfl⟩, false, rfl, H, hc62.gr.g0⟩
      · have H := ite_f H hq63
        refine W_skip ?_
        refine W_reg ?_
        refine L_pu (P_move (vi i2) rfl) ?_
        obtain ⟨hb65, H⟩ := H
        have hi64 : I64 (i2 + 1) := i64_succ (of_decide_eq_true hq39) hl38 hb65
        refine L_pu (P_add i2 1 rfl rfl hi64) ?_
        refine L_pu (P_assign (vi (i2 + 1)) rfl) ?_
        refine L_nil ?_
        obtain ⟨hI66, hm67⟩ := H
        exact ⟨i2 + 1, hm67, hI66, ⟨rfl, rfl, rfl, trivial⟩, hc62, (h30.st (.new _ g60)), (h31.st (.new _ g60))⟩
    · have H := ite_f H hq39
      refine W_exit (xin_hit ?_)
      refine W_seq ?_
      refine W_reg ?_
      refine L_pu (P_assign (vb true) rfl) ?_
      refine L_nil ?_
      refine W_ret ?_
      exact ⟨[vb true], ⟨_, rfl, rfl⟩, true, rfl, H, hc29.gr.g0⟩
end Go.Proofs.Ytndjggncgpjolaa

namespace Go.Proofs.Ytndjggncgpjolaa
set_option linter.unusedVariables false
set_option linter.unusedSimpArgs false
set_option linter.unusedSectionVars false
theorem laws_eqPtS.law (a b : List Pt) (Q : Bool → Prop) (hq : Q (decide (a = b))) : laws_eqPtS.E a b Q := by
  unfold laws_eqPtS.E
  exact eqS_shape (fun x y => decide (x = y)) (fun _ _ => rfl) a b Q hq
theorem laws_eqPtS.is (a b : List Pt) : laws_eqPtS.E a b (fun r => r = decide (a = b)) := laws_eqPtS.law a b _ rfl
end Go.Proofs.Ytndjggncgpjolaa

namespace Go.Proofs.Ytndjggncgpjolaa
open Go.RowKit
set_option linter.unusedVariables false
def laws_eqShape.E (a : Shape) (b : Shape) (Q : Bool → Prop) : Prop :=
  (if a.Kind != b.Kind then Q false else laws_eqPtS.E a.Pts b.Pts (fun r => (if !r then Q false else Q true)))
set_option maxHeartbeats 8000000 in
set_option maxRecDepth 100000 in
theorem laws_eqShape.calls {O : Ob} (w0 : World) (hO : Ok w0 O) (a : Shape) (A1 : Option Addr) (n2 c3 : Nat) (hp4 : Sl kPt w0 (Fr O) (.slice A1 n2 c3) a.Pts) (b : Shape) (A6 : Option Addr) (n7 c8 : Nat) (hp9 : Sl kPt w0 (Fr O) (.slice A6 n7 c8) b.Pts) (Q : Bool → Prop) (h : laws_eqShape.E a b Q) :
    Ret Try.prog 103 [.agg #[vi a.Kind, .slice A1 n2 c3], .agg #[vi b.Kind, .slice A6 n7 c8]] w0 (fun v w' => ∃ (r0 : Bool), v = vb r0 ∧ Q r0 ∧ Gr w0 w' none) := by
  have H : (if a.Kind != b.Kind then Q false else laws_eqPtS.E a.Pts b.Pts (fun r => (if !r then Q false else Q true))) := h
  clear h
  have hc0 := Ct.init hO
  refine Ret_enter Try.func103 rfl 16 rfl [.tmp 4] rfl rfl ?_
  refine W_seq ?_
  refine W_reg ?_
  refine L_box [vi a.Kind, .slice A1 n2 c3] rfl fun w11 b12 hl14 hu15 g13 hx16 => ?_
  have h18 := Fb.mk hc0.ok hl14 hx16
  have hc19 := hc0.k0 g13
  refine L_box [vi b.Kind, .slice A6 n7 c8] rfl fun w20 b21 hl23 hu24 g22 hx25 => ?_
  have h27 := Fb.mk hc19.ok hl23 hx25
  have hc28 := hc19.k0 g22
  refine L_pu (P_assign (vb false) rfl) ?_
  refine L_nil ?_
  refine W_seq ?_
  refine W_seq ?_
  refine W_reg ?_
  refine L_pu (P_fa fa68_0 ⟨b12, 0, none⟩ ⟨b12, 0, none⟩ rfl rfl) ?_
  have h29 := (h18.st (.new _ g22))
  refine L_pu (P_ld ag3 cL ⟨b12, 0, none⟩ (vi a.Kind) rfl (h29.cell rfl)) ?_
  refine L_pu (P_fa fa68_0 ⟨b21, 0, none⟩ ⟨b21, 0, none⟩ rfl rfl) ?_
  refine L_pu (P_ld ag3 cL ⟨b21, 0, none⟩ (vi b.Kind) rfl (h27.cell rfl)) ?_
  refine L_pu (P_cmp a.Kind b.Kind (a.Kind != b.Kind) rfl rfl rfl) ?_
  refine L_nil ?_
  refine W_cond (a.Kind != b.Kind) rfl (fun hq30 => ?_) (fun hq30 => ?_)
  · have H := ite_t H hq30
    refine W_seq ?_
    refine W_reg ?_
    refine L_pu (P_assign (vb false) rfl) ?_
    refine L_nil ?_
    refine W_ret ?_
    exact ⟨[vb false], ⟨_, rfl, rfl⟩, false, rfl, H, hc28.gr.g0⟩
  · have H := ite_f H hq30
    refine W_skip ?_
    refine W_seq ?_
    refine W_seq ?_
    refine W_reg ?_
    refine L_pu (P_fa fa68_1 ⟨b12, 0, none⟩ ⟨b12, 1, none⟩ rfl rfl) ?_
    refine L_pu (P_ld ag23 cL ⟨b12, 1, none⟩ (.slice A1 n2 c3) rfl (h29.cell rfl)) ?_
    refine L_pu (P_fa fa68_1 ⟨b21, 0, none⟩ ⟨b21, 1, none⟩ rfl rfl) ?_
    refine L_pu (P_ld ag23 cL ⟨b21, 1, none⟩ (.slice A6 n7 c8) rfl (h27.cell rfl)) ?_
    refine L_call go144 [.slice A1 n2 c3, .slice A6 n7 c8] rfl ((laws_eqPtS.calls w20 hc28.ok a.Pts A1 n2 c3 (hp4.st hc28.st) b.Pts A6 n7 c8 (hp9.st hc28.st) _ H).mono ?_)
    rintro _ w31 ⟨r, rfl, H, g32⟩
    have hc36 := hc28.k0 g32
    refine L_pu (P_not r rfl) ?_
    refine L_nil ?_
    refine W_cond (!r) rfl (fun hq37 => ?_) (fun hq37 => ?_)
    · have H := ite_t H hq37
      refine W_seq ?_
      refine W_reg ?_
      refine L_pu (P_assign (vb false) rfl) ?_
      refine L_nil ?_
      refine W_ret ?_
      exact ⟨[vb false], ⟨_, rfl, rfl⟩, false, rfl, H, hc36.gr.g0⟩
    · have H := ite_f H hq37
      refine W_skip ?_
      refine W_seq ?_
      refine W_reg ?_
      refine L_pu (P_assign (vb true) rfl) ?_
      refine L_nil ?_
      refine W_ret ?_
      exact ⟨[vb true], ⟨_, rfl, rfl⟩, true, rfl, H, hc36.gr.g0⟩
end Go.Proofs.Ytndjggncgpjolaa

namespace Go.Proofs.Ytndjggncgpjolaa
set_option linter.unusedVariables false
set_option linter.unusedSimpArgs false
set_option linter.unusedSectionVars false
theorem laws_eqShape.law (a b : Shape) (Q : Bool → Prop) (hq : Q (decide (a = b))) : laws_eqShape.E a b Q := by
  obtain ⟨x0, x1⟩ := a; obtain ⟨y0, y1⟩ := b
  rw [show (decide ((⟨x0, x1⟩ : Shape) = ⟨y0, y1⟩)) = ((decide (x0 = y0)) && (decide (x1 = y1))) by simp only [Shape.mk.injEq, Bool.decide_and]] at hq
  unfold laws_eqShape.E
  by_cases h0 : x0 = y0
  case neg => simpa [h0] using hq
  simp only [h0, decide_true, Bool.true_and, bne_self_eq_false, Bool.not_true, Bool.false_eq_true, if_false] at hq ⊢
  try refine laws_eqPtS.law _ _ _ ?_
  by_cases h1 : x1 = y1
  case neg => simpa [h1] using hq
  simp only [h1, decide_true, Bool.true_and, bne_self_eq_false, Bool.not_true, Bool.false_eq_true, if_false] at hq ⊢
  all_goals (try exact hq)
theorem laws_eqShape.is (a b : Shape) : laws_eqShape.E a b (fun r => r = decide (a = b)) := laws_eqShape.law a b _ rfl
end Go.Proofs.Ytndjggncgpjolaa

namespace Go.Proofs.Ytndjggncgpjolaa
open Go.RowKit
set_option linter.unusedVariables false
def laws_eqTag.E (a : Tag) (b : Tag) (Q : Bool → Prop) : Prop :=
  (if a.Key != b.Key then Q false else (if a.Val != b.Val then Q false else Q true))
set_option maxHeartbeats 8000000 in
set_option maxRecDepth 100000 in
theorem laws_eqTag.calls {O : Ob} (w0 : World) (hO : Ok w0 O) (a : Tag) (hs1 : Lim a.Key) (hs2 : Lim a.Val) (b : Tag) (hs3 : Lim b.Key) (hs4 : Lim b.Val) (Q : Bool → Prop) (h : laws_eqTag.E a b Q) :
    Ret Try.prog 145 [.agg #[vs a.Key, vs a.Val], .agg #[vs b.Key, vs b.Val]] w0 (fun v w' => ∃ (r0 : Bool), v = vb r0 ∧ Q r0 ∧ Gr w0 w' none) := by
  have H : (if a.Key != b.Key then Q false else (if a.Val != b.Val then Q false else Q true)) := h
  clear h
  have hc0 := Ct.init hO
  refine Ret_enter Try.func145 rfl 15 rfl [.tmp 4] rfl rfl ?_
  refine W_seq ?_
  refine W_reg ?_
  refine L_box [vs a.Key, vs a.Val] rfl fun w5 b6 hl8 hu9 g7 hx10 => ?_
  have h12 := Fb.mk hc0.ok hl8 hx10
  have hc13 := hc0.k0 g7
  refine L_box [vs b.Key, vs b.Val] rfl fun w14 b15 hl17 hu18 g16 hx19 => ?_
  have h21 := Fb.mk hc13.ok hl17 hx19
  have hc22 := hc13.k0 g16
  refine L_pu (P_assign (vb false) rfl) ?_
  refine L_nil ?_
  refine W_seq ?_
  refine W_seq ?_
  refine W_reg ?_
  refine L_pu (P_fa fa133_0 ⟨b6, 0, none⟩ ⟨b6, 0, none⟩ rfl rfl) ?_
  have h23 := (h12.st (.new _ g16))
  refine L_pu (P_ld ag9 cL ⟨b6, 0, none⟩ (vs a.Key) rfl (h23.cell rfl)) ?_
  refine L_pu (P_fa fa133_0 ⟨b15, 0, none⟩ ⟨b15, 0, none⟩ rfl rfl) ?_
  refine L_pu (P_ld ag9 cL ⟨b15, 0, none⟩ (vs b.Key) rfl (h21.cell rfl)) ?_
  refine L_pu (P_scmp a.Key b.Key (a.Key != b.Key) rfl rfl rfl) ?_
  refine L_nil ?_
  refine W_cond (a.Key != b.Key) rfl (fun hq24 => ?_) (fun hq24 => ?_)
  · have H := ite_t H hq24
    refine W_seq ?_
    refine W_reg ?_
    refine L_pu (P_assign (vb false) rfl) ?_
    refine L_nil ?_
    refine W_ret ?_
    exact ⟨[vb false], ⟨_, rfl, rfl⟩, false, rfl, H, hc22.gr.g0⟩
  · have H := ite_f H hq24
    refine W_skip ?_
    refine W_seq ?_
    refine W_seq ?_
    refine W_reg ?_
    refine L_pu (P_fa fa133_1 ⟨b6, 0, none⟩ ⟨b6, 1, none⟩ rfl rfl) ?_
    refine L_pu (P_ld ag9 cL ⟨b6, 1, none⟩ (vs a.Val) rfl (h23.cell rfl)) ?_
    refine L_pu (P_fa fa133_1 ⟨b15, 0, none⟩ ⟨b15, 1, none⟩ rfl rfl) ?_
    refine L_pu (P_ld ag9 cL ⟨b15, 1, none⟩ (vs b.Val) rfl (h21.cell rfl)) ?_
    refine L_pu (P_scmp a.Val b.Val (a.Val != b.Val) rfl rfl rfl) ?_
    refine L_nil ?_
    refine W_cond (a.Val != b.Val) rfl (fun hq25 => ?_) (fun hq25 => ?_)
    · have H := ite_t H hq25
      refine W_seq ?_
      refine W_reg ?_
      refine L_pu (P_assign (vb false) rfl) ?_
      refine L_nil ?_
      refine W_ret ?_
      exact ⟨[vb false], ⟨_, rfl, rfl⟩, false, rfl, H, hc22.gr.g0⟩
    · have H := ite_f H hq25
      refine W_skip ?_
      refine W_seq ?_
      refine W_reg ?_
      refine L_pu (P_assign (vb true) rfl) ?_
      refine L_nil ?_
      refine W_ret ?_
      exact ⟨[vb true], ⟨_, rfl, rfl⟩, true, rfl, H, hc22.gr.g0⟩
def laws_eqTag.m (a : Tag) (b : Tag) : Bool := (if a.Key != b.Key then false else (if a.Val != b.Val then false else true))
theorem laws_eqTag.fn (a : Tag) (b : Tag) : laws_eqTag.E a b (fun r => r = laws_eqTag.m a b) := by
  unfold laws_eqTag.E laws_eqTag.m
  (repeat' split) <;> simp_all
end Go.Proofs.Ytndjggncgpjolaa

namespace Go.Proofs.Ytndjggncgpjolaa
set_option linter.unusedVariables false
set_option linter.unusedSimpArgs false
set_option linter.unusedSectionVars false
theorem laws_eqTag.law (a b : Tag) (Q : Bool → Prop) (hq : Q (decide (a = b))) : laws_eqTag.E a b Q := by
  obtain ⟨x0, x1⟩ := a; obtain ⟨y0, y1⟩ := b
  rw [show (decide ((⟨x0, x1⟩ : Tag) = ⟨y0, y1⟩)) = ((decide (x0 = y0)) && (decide (x1 = y1))) by simp only [Tag.mk.injEq, Bool.decide_and]] at hq
  unfold laws_eqTag.E
  by_cases h0 : x0 = y0
  case neg => simpa [h0] using hq
  simp only [h0, decide_true, Bool.true_and, bne_self_eq_false, Bool.not_true, Bool.false_eq_true, if_false] at hq ⊢
  by_cases h1 : x1 = y1
  case neg => simpa [h1] using hq
  simp only [h1, decide_true, Bool.true_and, bne_self_eq_false, Bool.not_true, Bool.false_eq_true, if_false] at hq ⊢
  all_goals (try exact hq)
theorem laws_eqTag.is (a b : Tag) : laws_eqTag.E a b (fun r => r = decide (a = b)) := laws_eqTag.law a b _ rfl
end Go.Proofs.Ytndjggncgpjolaa

namespace Go.Proofs.Ytndjggncgpjolaa
open Go.RowKit
set_option linter.unusedVariables false
def laws_eqTagS.E (a : List Tag) (b : List Tag) (Q : Bool → Prop) : Prop :=
  (if (a.length : Int) != (b.length : Int) then Q false else (∃ (I32 : Int → Prop) (mu33 : Int → Nat), I32 0 ∧ ∀ (i2 : Int), I32 i2 → (if decide (i2 < (a.length : Int)) then ((0 : Int) ≤ i2 ∧ i2 < (a.length : Int)) ∧ ((0 : Int) ≤ i2 ∧ i2 < (b.length : Int)) ∧ (if !(decide ((nth a i2) = (nth b i2))) then Q false else (-9223372036854775808 ≤ i2) ∧ I32 (i2 + 1) ∧ mu33 (i2 + 1) < mu33 i2) else Q true)))
set_option maxHeartbeats 8000000 in
set_option maxRecDepth 100000 in
theorem laws_eqTagS.calls {O : Ob} (w0 : World) (hO : Ok w0 O) (a : List Tag) (A1 : Option Addr) (n2 c3 : Nat) (hp4 : Sl kTag w0 (Fr O) (.slice A1 n2 c3) a) (b : List Tag) (A6 : Option Addr) (n7 c8 : Nat) (hp9 : Sl kTag w0 (Fr O) (.slice A6 n7 c8) b) (Q : Bool → Prop) (h : laws_eqTagS.E a b Q) :
    Ret Try.prog 104 [.slice A1 n2 c3, .slice A6 n7 c8] w0 (fun v w' => ∃ (r0 : Bool), v = vb r0 ∧ Q r0 ∧ Gr w0 w' none) := by
  have H : (if (a.length : Int) != (b.length : Int) then Q false else (∃ (I32 : Int → Prop) (mu33 : Int → Nat), I32 0 ∧ ∀ (i2 : Int), I32 i2 → (if decide (i2 < (a.length : Int)) then ((0 : Int) ≤ i2 ∧ i2 < (a.length : Int)) ∧ ((0 : Int) ≤ i2 ∧ i2 < (b.length : Int)) ∧ (if !(decide ((nth a i2) = (nth b i2))) then Q false else (-9223372036854775808 ≤ i2) ∧ I32 (i2 + 1) ∧ mu33 (i2 + 1) < mu33 i2) else Q true))) := h
  clear h
  have hc0 := Ct.init hO
  refine Ret_enter Try.func104 rfl 27 rfl [.tmp 4] rfl rfl ?_
  refine W_seq ?_
  refine W_reg ?_
  refine L_pu (P_assign (vb false) rfl) ?_
  refine L_nil ?_
  refine W_seq ?_
  refine W_seq ?_
  refine W_reg ?_
  refine L_pu (P_move (.slice A1 n2 c3) rfl) ?_
  have hl11 := hp4.le
  refine L_pu (P_len Try.underlying69 A1 n2 c3 hp4.len rfl) ?_
  refine L_pu (P_move (.slice A6 n7 c8) rfl) ?_
  have hl12 := hp9.le
  refine L_pu (P_len Try.underlying69 A6 n7 c8 hp9.len rfl) ?_
  refine L_pu (P_cmp (a.length : Int) (b.length : Int) ((a.length : Int) != (b.length : Int)) rfl rfl rfl) ?_
  refine L_nil ?_
  refine W_cond ((a.length : Int) != (b.length : Int)) rfl (fun hq13 => ?_) (fun hq13 => ?_)
  · have H := ite_t H hq13
    refine W_seq ?_
    refine W_reg ?_
    refine L_pu (P_assign (vb false) rfl) ?_
    refine L_nil ?_
    refine W_ret ?_
    exact ⟨[vb false], ⟨_, rfl, rfl⟩, false, rfl, H, hc0.gr.g0⟩
  · have H := ite_f H hq13
    refine W_skip ?_
    refine W_seq ?_
    refine W_seq ?_
    refine W_reg ?_
    refine L_pu (P_assign (vi 0) rfl) ?_
    refine L_nil ?_
    refine W_block ?_
    obtain ⟨I32, mu33, hI34, H⟩ := H
    refine W_loop (α := Int) (fun (sv__ : Int) t w26 => match sv__ with | i2 => I32 i2 ∧ Has t [(0, .slice A1 n2 c3), (1, .slice A6 n7 c8), (5, vi i2)] ∧ Ct [] w0 w26 [] O ∧ Sl kTag w26 (Fr ([] ++ O)) (.slice A1 n2 c3) a ∧ Sl kTag w26 (Fr ([] ++ O)) (.slice A6 n7 c8) b) (fun (sv__ : Int) => match sv__ with | i2 => mu33 i2) 0 ⟨hI34, ⟨rfl, rfl, rfl, trivial⟩, hc0, hp4, hp9⟩ ?_
    rintro i2 _ w26 ⟨hI34, hh36, hc29, h30, h31⟩
    obtain ⟨u37, rfl⟩ := Has.ins hh36
    have H := H i2 hI34
    refine W_seq ?_
    refine W_seq ?_
    refine W_reg ?_
    refine L_pu (P_move (vi i2) rfl) ?_
    refine L_pu (P_move (.slice A1 n2 c3) rfl) ?_
    have hl38 := h30.le
    refine L_pu (P_len Try.underlying69 A1 n2 c3 h30.len rfl) ?_
    refine L_pu (P_cmp i2 (a.length : Int) (decide (i2 < (a.length : Int))) rfl rfl rfl) ?_
    refine L_nil ?_
    refine W_cond (decide (i2 < (a.length : Int))) rfl (fun hq39 => ?_) (fun hq39 => ?_)
    · have H := ite_t H hq39
      refine W_skip ?_
      refine W_seq ?_
      refine W_block ?_
      refine W_seq ?_
      refine W_draw (fun x => Gr w26 x none) (by kernel_rfl) (by kernel_rfl) (Gr.drew _) ?_
      refine Q_pu (P_move (.slice A1 n2 c3) rfl) ?_
      refine Q_pu (P_move (vi i2) rfl) ?_
      obtain ⟨hb40, H⟩ := H
      obtain ⟨ad41, cs42, hA43, hS46, hR44, hcl45⟩ := h30.get default (by decide) i2 hb40
      obtain ⟨rfl, hs47, hs48⟩ := kTag.op hR44
      refine Q_pu (P_ia Try.underlying69 se69 A1 ad41 n2 c3 h30.len i2 rfl hA43 rfl hb40) ?_
      refine Q_pu (P_lda ag133 sz133 cQ (ad41.add (i2.toNat * 2)) [vs ((nth a i2).Key), vs ((nth a i2).Val)] rfl rfl hcl45) ?_
      refine Q_pu (P_move (.slice A6 n7 c8) rfl) ?_
      refine Q_pu (P_move (vi i2) rfl) ?_
      obtain ⟨hb49, H⟩ := H
      obtain ⟨ad50, cs51, hA52, hS55, hR53, hcl54⟩ := h31.get default (by decide) i2 hb49
      obtain ⟨rfl, hs56, hs57⟩ := kTag.op hR53
      refine Q_pu (P_ia Try.underlying69 se69 A6 ad50 n7 c8 h31.len i2 rfl hA52 rfl hb49) ?_
      refine Q_pu (P_lda ag133 sz133 cQ (ad50.add (i2.toNat * 2)) [vs ((nth b i2).Key), vs ((nth b i2).Val)] rfl rfl hcl54) ?_
      refine Q_call go145 [.agg #[vs ((nth a i2).Key), vs ((nth a i2).Val)], .agg #[vs ((nth b i2).Key), vs ((nth b i2).Val)]] rfl (vb (decide ((nth a i2) = (nth b i2)))) (fun w g => (laws_eqTag.calls w (hc29.k0 g).ok (nth a i2) hs47 hs48 (nth b i2) hs56 hs57 _ (laws_eqTag.is (nth a i2) (nth b i2))).mono ?_) ?_
      · rintro _ w ⟨r, rfl, rfl, g2⟩
        exact ⟨rfl, Gr.t0 g g2⟩
      refine Q_pu (P_not (decide ((nth a i2) = (nth b i2))) rfl) ?_
      refine Q_nil fun w63 g64 => ?_
      have hc66 := hc29.k0 g64
      refine W_cond (!(decide ((nth a i2) = (nth b i2)))) rfl (fun hq67 => ?_) (fun hq67 => ?_)
      · have H := ite_t H hq67
        refine W_seq ?_
        refine W_reg ?_
        refine L_pu (P_assign (vb false) rfl) ?_
        refine L_nil ?_
        refine W_ret ?_
        exact ⟨[vb false], ⟨_, rfl, rfl⟩, false, rfl, H, hc66.gr.g0⟩
      · have H := ite_f H hq67
        refine W_skip ?_
        refine W_reg ?_
        refine L_pu (P_move (vi i2) rfl) ?_
        obtain ⟨hb69, H⟩ := H
        have hi68 : I64 (i2 + 1) := i64_succ (of_decide_eq_true hq39) hl38 hb69
        refine L_pu (P_add i2 1 rfl rfl hi68) ?_
        refine L_pu (P_assign (vi (i2 + 1)) rfl) ?_
        refine L_nil ?_
        obtain ⟨hI70, hm71⟩ := H
        exact ⟨i2 + 1, hm71, hI70, ⟨rfl, rfl, rfl, trivial⟩, hc66, (h30.st (.new _ g64)), (h31.st (.new _ g64))⟩
    · have H := ite_f H hq39
      refine W_exit (xin_hit ?_)
      refine W_seq ?_
      refine W_reg ?_
      refine L_pu (P_assign (vb true) rfl) ?_
      refine L_nil ?_
      refine W_ret ?_
      exact ⟨[vb true], ⟨_, rfl, rfl⟩, true, rfl, H, hc29.gr.g0⟩
end Go.Proofs.Ytndjggncgpjolaa

namespace Go.Proofs.Ytndjggncgpjolaa
set_option linter.unusedVariables false
set_option linter.unusedSimpArgs false
set_option linter.unusedSectionVars false
theorem laws_eqTagS.law (a b : List Tag) (Q : Bool → Prop) (hq : Q (decide (a = b))) : laws_eqTagS.E a b Q := by
  unfold laws_eqTagS.E
  exact eqS_shape (fun x y => decide (x = y)) (fun _ _ => rfl) a b Q hq
theorem laws_eqTagS.is (a b : List Tag) : laws_eqTagS.E a b (fun r => r = decide (a = b)) := laws_eqTagS.law a b _ rfl
end Go.Proofs.Ytndjggncgpjolaa

namespace Go.Proofs.Ytndjggncgpjolaa
open Go.RowKit
set_option linter.unusedVariables false
def laws_eqFeat.E (a : Feat) (b : Feat) (Q : Bool → Prop) : Prop :=
  (if a.Id != b.Id then Q false else laws_eqShape.E a.Shape b.Shape (fun r => (if !r then Q false else laws_eqTagS.E a.Tags b.Tags (fun r2 => (if !r2 then Q false else Q true)))))
set_option maxHeartbeats 8000000 in
set_option maxRecDepth 100000 in
theorem laws_eqFeat.calls {O : Ob} (w0 : World) (hO : Ok w0 O) (a : Feat) (A2 : Option Addr) (n3 c4 : Nat) (A7 : Option Addr) (n8 c9 : Nat) (hs1 : Lim a.Id) (hp5 : Sl kPt w0 (Fr O) (.slice A2 n3 c4) a.Shape.Pts) (hp10 : Sl kTag w0 (Fr O) (.slice A7 n8 c9) a.Tags) (b : Feat) (A13 : Option Addr) (n14 c15 : Nat) (A18 : Option Addr) (n19 c20 : Nat) (hs12 : Lim b.Id) (hp16 : Sl kPt w0 (Fr O) (.slice A13 n14 c15) b.Shape.Pts) (hp21 : Sl kTag w0 (Fr O) (.slice A18 n19 c20) b.Tags) (Q : Bool → Prop) (h : laws_eqFeat.E a b Q) :
    Ret Try.prog 37 [.agg #[vs a.Id, vi a.Shape.Kind, .slice A2 n3 c4, .slice A7 n8 c9], .agg #[vs b.Id, vi b.Shape.Kind, .slice A13 n14 c15, .slice A18 n19 c20]] w0 (fun v w' => ∃ (r0 : Bool), v = vb r0 ∧ Q r0 ∧ Gr w0 w' none) := by
  have H : (if a.Id != b.Id then Q false else laws_eqShape.E a.Shape b.Shape (fun r => (if !r then Q false else laws_eqTagS.E a.Tags b.Tags (fun r2 => (if !r2 then Q false else Q true))))) := h
  clear h
  have hc0 := Ct.init hO
  refine Ret_enter Try.func37 rfl 22 rfl [.tmp 4] rfl rfl ?_
  refine W_seq ?_
  refine W_reg ?_
  refine L_box [vs a.Id, vi a.Shape.Kind, .slice A2 n3 c4, .slice A7 n8 c9] rfl fun w23 b24 hl26 hu27 g25 hx28 => ?_
  have h30 := Fb.mk hc0.ok hl26 hx28
  have hc31 := hc0.k0 g25
  refine L_box [vs b.Id, vi b.Shape.Kind, .slice A13 n14 c15, .slice A18 n19 c20] rfl fun w32 b33 hl35 hu36 g34 hx37 => ?_
  have h39 := Fb.mk hc31.ok hl35 hx37
  have hc40 := hc31.k0 g34
  refine L_pu (P_assign (vb false) rfl) ?_
  refine L_nil ?_
  refine W_seq ?_
  refine W_seq ?_
  refine W_reg ?_
  refine L_pu (P_fa fa71_0 ⟨b24, 0, none⟩ ⟨b24, 0, none⟩ rfl rfl) ?_
  have h41 := (h30.st (.new _ g34))
  refine L_pu (P_ld ag9 cL ⟨b24, 0, none⟩ (vs a.Id) rfl (h41.cell rfl)) ?_
  refine L_pu (P_fa fa71_0 ⟨b33, 0, none⟩ ⟨b33, 0, none⟩ rfl rfl) ?_
  refine L_pu (P_ld ag9 cL ⟨b33, 0, none⟩ (vs b.Id) rfl (h39.cell rfl)) ?_
  refine L_pu (P_scmp a.Id b.Id (a.Id != b.Id) rfl rfl rfl) ?_
  refine L_nil ?_
  refine W_cond (a.Id != b.Id) rfl (fun hq42 => ?_) (fun hq42 => ?_)
  · have H := ite_t H hq42
    refine W_seq ?_
    refine W_reg ?_
    refine L_pu (P_assign (vb false) rfl) ?_
    refine L_nil ?_
    refine W_ret ?_
    exact ⟨[vb false], ⟨_, rfl, rfl⟩, false, rfl, H, hc40.gr.g0⟩
  · have H := ite_f H hq42
    refine W_skip ?_
    refine W_seq ?_
    refine W_seq ?_
    refine W_reg ?_
    refine L_pu (P_fa fa71_1 ⟨b24, 0, none⟩ ⟨b24, 1, none⟩ rfl rfl) ?_
    refine L_pu (P_lda ag68 sz68 cL ⟨b24, 1, none⟩ [vi a.Shape.Kind, .slice A2 n3 c4] rfl rfl (h41.cells (off := 1) rfl)) ?_
    refine L_pu (P_fa fa71_1 ⟨b33, 0, none⟩ ⟨b33, 1, none⟩ rfl rfl) ?_
    refine L_pu (P_lda ag68 sz68 cL ⟨b33, 1, none⟩ [vi b.Shape.Kind, .slice A13 n14 c15] rfl rfl (h39.cells (off := 1) rfl)) ?_
    refine L_call go103 [.agg #[vi a.Shape.Kind, .slice A2 n3 c4], .agg #[vi b.Shape.Kind, .slice A13 n14 c15]] rfl ((laws_eqShape.calls w32 hc40.ok a.Shape A2 n3 c4 (hp5.st hc40.st) b.Shape A13 n14 c15 (hp16.st hc40.st) _ H).mono ?_)
    rintro _ w43 ⟨r, rfl, H, g44⟩
    have hc48 := hc40.k0 g44
    refine L_pu (P_not r rfl) ?_
    refine L_nil ?_
    refine W_cond (!r) rfl (fun hq49 => ?_) (fun hq49 => ?_)
    · have H := ite_t H hq49
      refine W_seq ?_
      refine W_reg ?_
      refine L_pu (P_assign (vb false) rfl) ?_
      refine L_nil ?_
      refine W_ret ?_
      exact ⟨[vb false], ⟨_, rfl, rfl⟩, false, rfl, H, hc48.gr.g0⟩
    · have H := ite_f H hq49
      refine W_skip ?_
      refine W_seq ?_
      refine W_seq ?_
      refine W_reg ?_
      refine L_pu (P_fa fa71_2 ⟨b24, 0, none⟩ ⟨b24, 3, none⟩ rfl rfl) ?_
      have h50 := (h41.st (.new _ g44))
      refine L_pu (P_ld ag69 cL ⟨b24, 3, none⟩ (.slice A7 n8 c9) rfl (h50.cell rfl)) ?_
      refine L_pu (P_fa fa71_2 ⟨b33, 0, none⟩ ⟨b33, 3, none⟩ rfl rfl) ?_
      have h51 := (h39.st (.new _ g44))
      refine L_pu (P_ld ag69 cL ⟨b33, 3, none⟩ (.slice A18 n19 c20) rfl (h51.cell rfl)) ?_
      refine L_call go104 [.slice A7 n8 c9, .slice A18 n19 c20] rfl ((laws_eqTagS.calls w43 hc48.ok a.Tags A7 n8 c9 (hp10.st hc48.st) b.Tags A18 n19 c20 (hp21.st hc48.st) _ H).mono ?_)
      rintro _ w52 ⟨r2, rfl, H, g53⟩
      have hc57 := hc48.k0 g53
      refine L_pu (P_not r2 rfl) ?_
      refine L_nil ?_
      refine W_cond (!r2) rfl (fun hq58 => ?_) (fun hq58 => ?_)
      · have H := ite_t H hq58
        refine W_seq ?_
        refine W_reg ?_
        refine L_pu (P_assign (vb false) rfl) ?_
        refine L_nil ?_
        refine W_ret ?_
        exact ⟨[vb false], ⟨_, rfl, rfl⟩, false, rfl, H, hc57.gr.g0⟩
      · have H := ite_f H hq58
        refine W_skip ?_
        refine W_seq ?_
        refine W_reg ?_
        refine L_pu (P_assign (vb true) rfl) ?_
        refine L_nil ?_
        refine W_ret ?_
        exact ⟨[vb true], ⟨_, rfl, rfl⟩, true, rfl, H, hc57.gr.g0⟩
end Go.Proofs.Ytndjggncgpjolaa

namespace Go.Proofs.Ytndjggncgpjolaa
set_option linter.unusedVariables false
set_option linter.unusedSimpArgs false
set_option linter.unusedSectionVars false
theorem laws_eqFeat.law (a b : Feat) (Q : Bool → Prop) (hq : Q (decide (a = b))) : laws_eqFeat.E a b Q := by
  obtain ⟨x0, x1, x2⟩ := a; obtain ⟨y0, y1, y2⟩ := b
  rw [show (decide ((⟨x0, x1, x2⟩ : Feat) = ⟨y0, y1, y2⟩)) = ((decide (x0 = y0)) && ((decide (x1 = y1)) && (decide (x2 = y2)))) by simp only [Feat.mk.injEq, Bool.decide_and]] at hq
  unfold laws_eqFeat.E
  by_cases h0 : x0 = y0
  case neg => simpa [h0] using hq
  simp only [h0, decide_true, Bool.true_and, bne_self_eq_false, Bool.not_true, Bool.false_eq_true, if_false] at hq ⊢
  try refine laws_eqShape.law _ _ _ ?_
  by_cases h1 : x1 = y1
  case neg => simpa [h1] using hq
  simp only [h1, decide_true, Bool.true_and, bne_self_eq_false, Bool.not_true, Bool.false_eq_true, if_false] at hq ⊢
  try refine laws_eqTagS.law _ _ _ ?_
  by_cases h2 : x2 = y2
  case neg => simpa [h2] using hq
  simp only [h2, decide_true, Bool.true_and, bne_self_eq_false, Bool.not_true, Bool.false_eq_true, if_false] at hq ⊢
  all_goals (try exact hq)
theorem laws_eqFeat.is (a b : Feat) : laws_eqFeat.E a b (fun r => r = decide (a = b)) := laws_eqFeat.law a b _ rfl
end Go.Proofs.Ytndjggncgpjolaa

namespace Go.Proofs.Ytndjggncgpjolaa
open Go.RowKit
set_option linter.unusedVariables false
def laws_eqFeatS.E (a : List Feat) (b : List Feat) (Q : Bool → Prop) : Prop :=
  (if (a.length : Int) != (b.length : Int) then Q false else (∃ (I32 : Int → Prop) (mu33 : Int → Nat), I32 0 ∧ ∀ (i2 : Int), I32 i2 → (if decide (i2 < (a.length : Int)) then ((0 : Int) ≤ i2 ∧ i2 < (a.length : Int)) ∧ ((0 : Int) ≤ i2 ∧ i2 < (b.length : Int)) ∧ (if !(decide ((nth a i2) = (nth b i2))) then Q false else (-9223372036854775808 ≤ i2) ∧ I32 (i2 + 1) ∧ mu33 (i2 + 1) < mu33 i2) else Q true)))
set_option maxHeartbeats 8000000 in
set_option maxRecDepth 100000 in
theorem laws_eqFeatS.calls {O : Ob} (w0 : World) (hO : Ok w0 O) (a : List Feat) (A1 : Option Addr) (n2 c3 : Nat) (hp4 : Sl kFeat w0 (Fr O) (.slice A1 n2 c3) a) (b : List Feat) (A6 : Option Addr) (n7 c8 : Nat) (hp9 : Sl kFeat w0 (Fr O) (.slice A6 n7 c8) b) (Q : Bool → Prop) (h : laws_eqFeatS.E a b Q) :
    Ret Try.prog 29 [.slice A1 n2 c3, .slice A6 n7 c8] w0 (fun v w' => ∃ (r0 : Bool), v = vb r0 ∧ Q r0 ∧ Gr w0 w' none) := by
  have H : (if (a.length : Int) != (b.length : Int) then Q false else (∃ (I32 : Int → Prop) (mu33 : Int → Nat), I32 0 ∧ ∀ (i2 : Int), I32 i2 → (if decide (i2 < (a.length : Int)) then ((0 : Int) ≤ i2 ∧ i2 < (a.length : Int)) ∧ ((0 : Int) ≤ i2 ∧ i2 < (b.length : Int)) ∧ (if !(decide ((nth a i2) = (nth b i2))) then Q false else (-9223372036854775808 ≤ i2) ∧ I32 (i2 + 1) ∧ mu33 (i2 + 1) < mu33 i2) else Q true))) := h
  clear h
  have hc0 := Ct.init hO
  refine Ret_enter Try.func29 rfl 27 rfl [.tmp 4] rfl rfl ?_
  refine W_seq ?_
  refine W_reg ?_
  refine L_pu (P_assign (vb false) rfl) ?_
  refine L_nil ?_
  refine W_seq ?_
  refine W_seq ?_
  refine W_reg ?_
  refine L_pu (P_move (.slice A1 n2 c3) rfl) ?_
  have hl11 := hp4.le
  refine L_pu (P_len Try.underlying52 A1 n2 c3 hp4.len rfl) ?_
  refine L_pu (P_move (.slice A6 n7 c8) rfl) ?_
  have hl12 := hp9.le
  refine L_pu (P_len Try.underlying52 A6 n7 c8 hp9.len rfl) ?_
  refine L_pu (P_cmp (a.length : Int) (b.length : Int) ((a.length : Int) != (b.length : Int)) rfl rfl rfl) ?_
  refine L_nil ?_
  refine W_cond ((a.length : Int) != (b.length : Int)) rfl (fun hq13 => ?_) (fun hq13 => ?_)
  · have H := ite_t H hq13
    refine W_seq ?_
    refine W_reg ?_
    refine L_pu (P_assign (vb false) rfl) ?_
    refine L_nil ?_
    refine W_ret ?_
    exact ⟨[vb false], ⟨_, rfl, rfl⟩, false, rfl, H, hc0.gr.g0⟩
  · have H := ite_f H hq13
    refine W_skip ?_
    refine W_seq ?_
    refine W_seq ?_
    refine W_reg ?_
    refine L_pu (P_assign (vi 0) rfl) ?_
    refine L_nil ?_
    refine W_block ?_
    obtain ⟨I32, mu33, hI34, H⟩ := H
    refine W_loop (α := Int) (fun (sv__ : Int) t w26 => match sv__ with | i2 => I32 i2 ∧ Has t [(0, .slice A1 n2 c3), (1, .slice A6 n7 c8), (5, vi i2)] ∧ Ct [] w0 w26 [] O ∧ Sl kFeat w26 (Fr ([] ++ O)) (.slice A1 n2 c3) a ∧ Sl kFeat w26 (Fr ([] ++ O)) (.slice A6 n7 c8) b) (fun (sv__ : Int) => match sv__ with | i2 => mu33 i2) 0 ⟨hI34, ⟨rfl, rfl, rfl, trivial⟩, hc0, hp4, hp9⟩ ?_
    rintro i2 _ w26 ⟨hI34, hh36, hc29, h30, h31⟩
    obtain ⟨u37, rfl⟩ := Has.ins hh36
    have H := H i2 hI34
    refine W_seq ?_
    refine W_seq ?_
    refine W_reg ?_
    refine L_pu (P_move (vi i2) rfl) ?_
    refine L_pu (P_move (.slice A1 n2 c3) rfl) ?_
    have hl38 := h30.le
    refine L_pu (P_len Try.underlying52 A1 n2 c3 h30.len rfl) ?_
    refine L_pu (P_cmp i2 (a.length : Int) (decide (i2 < (a.length : Int))) rfl rfl rfl) ?_
    refine L_nil ?_
    refine W_cond (decide (i2 < (a.length : Int))) rfl (fun hq39 => ?_) (fun hq39 => ?_)
    · have H := ite_t H hq39
      refine W_skip ?_
      refine W_seq ?_
      refine W_block ?_
      refine W_seq ?_
      refine W_draw (fun x => Gr w26 x none) (by kernel_rfl) (by kernel_rfl) (Gr.drew _) ?_
      refine Q_pu (P_move (.slice A1 n2 c3) rfl) ?_
      refine Q_pu (P_move (vi i2) rfl) ?_
      obtain ⟨hb40, H⟩ := H
      obtain ⟨ad41, cs42, hA43, hS46, hR44, hcl45⟩ := h30.get default (by decide) i2 hb40
      obtain ⟨A48, n49, c50, A53, n54, c55, rfl, hs47, h51, h56⟩ := kFeat.op hR44
      refine Q_pu (P_ia Try.underlying52 se52 A1 ad41 n2 c3 h30.len i2 rfl hA43 rfl hb40) ?_
      refine Q_pu (P_lda ag71 sz71 cQ (ad41.add (i2.toNat * 4)) [vs ((nth a i2).Id), vi ((nth a i2).Shape.Kind), .slice A48 n49 c50, .slice A53 n54 c55] rfl rfl hcl45) ?_
      refine Q_pu (P_move (.slice A6 n7 c8) rfl) ?_
      refine Q_pu (P_move (vi i2) rfl) ?_
      obtain ⟨hb58, H⟩ := H
      obtain ⟨ad59, cs60, hA61, hS64, hR62, hcl63⟩ := h31.get default (by decide) i2 hb58
      obtain ⟨A66, n67, c68, A71, n72, c73, rfl, hs65, h69, h74⟩ := kFeat.op hR62
      refine Q_pu (P_ia Try.underlying52 se52 A6 ad59 n7 c8 h31.len i2 rfl hA61 rfl hb58) ?_
      refine Q_pu (P_lda ag71 sz71 cQ (ad59.add (i2.toNat * 4)) [vs ((nth b i2).Id), vi ((nth b i2).Shape.Kind), .slice A66 n67 c68, .slice A71 n72 c73] rfl rfl hcl63) ?_
      refine Q_call go37 [.agg #[vs ((nth a i2).Id), vi ((nth a i2).Shape.Kind), .slice A48 n49 c50, .slice A53 n54 c55], .agg #[vs ((nth b i2).Id), vi ((nth b i2).Shape.Kind), .slice A66 n67 c68, .slice A71 n72 c73]] rfl (vb (decide ((nth a i2) = (nth b i2)))) (fun w g => (laws_eqFeat.calls w (hc29.k0 g).ok (nth a i2) A48 n49 c50 A53 n54 c55 hs47 (h51.st (.new _ g)) (h56.st (.new _ g)) (nth b i2) A66 n67 c68 A71 n72 c73 hs65 (h69.st (.new _ g)) (h74.st (.new _ g)) _ (laws_eqFeat.is (nth a i2) (nth b i2))).mono ?_) ?_
      · rintro _ w ⟨r, rfl, rfl, g2⟩
        exact ⟨rfl, Gr.t0 g g2⟩
      refine Q_pu (P_not (decide ((nth a i2) = (nth b i2))) rfl) ?_
      refine Q_nil fun w81 g82 => ?_
      have hc84 := hc29.k0 g82
      refine W_cond (!(decide ((nth a i2) = (nth b i2)))) rfl (fun hq85 => ?_) (fun hq85 => ?_)
      · have H := ite_t H hq85
        refine W_seq ?_
        refine W_reg ?_
        refine L_pu (P_assign (vb false) rfl) ?_
        refine L_nil ?_
        refine W_ret ?_
        exact ⟨[vb false], ⟨_, rfl, rfl⟩, false, rfl, H, hc84.gr.g0⟩
      · have H := ite_f H hq85
        refine W_skip ?_
        refine W_reg ?_
        refine L_pu (P_move (vi i2) rfl) ?_
        obtain ⟨hb87, H⟩ := H
        have hi86 : I64 (i2 + 1) := i64_succ (of_decide_eq_true hq39) hl38 hb87
        refine L_pu (P_add i2 1 rfl rfl hi86) ?_
        refine L_pu (P_assign (vi (i2 + 1)) rfl) ?_
        refine L_nil ?_
        obtain ⟨hI88, hm89⟩ := H
        exact ⟨i2 + 1, hm89, hI88, ⟨rfl, rfl, rfl, trivial⟩, hc84, (h30.st (.new _ g82)), (h31.st (.new _ g82))⟩
    · have H := ite_f H hq39
      refine W_exit (xin_hit ?_)
      refine W_seq ?_
      refine W_reg ?_
      refine L_pu (P_assign (vb true) rfl) ?_
      refine L_nil ?_
      refine W_ret ?_
      exact ⟨[vb true], ⟨_, rfl, rfl⟩, true, rfl, H, hc29.gr.g0⟩
end Go.Proofs.Ytndjggncgpjolaa

namespace Go.Proofs.Ytndjggncgpjolaa
set_option linter.unusedVariables false
set_option linter.unusedSimpArgs false
set_option linter.unusedSectionVars false
theorem laws_eqFeatS.law (a b : List Feat) (Q : Bool → Prop) (hq : Q (decide (a = b))) : laws_eqFeatS.E a b Q := by
  unfold laws_eqFeatS.E
  exact eqS_shape (fun x y => decide (x = y)) (fun _ _ => rfl) a b Q hq
theorem laws_eqFeatS.is (a b : List Feat) : laws_eqFeatS.E a b (fun r => r = decide (a = b)) := laws_eqFeatS.law a b _ rfl
end Go.Proofs.Ytndjggncgpjolaa

namespace Go.Proofs.Ytndjggncgpjolaa
open Go.RowKit
set_option linter.unusedVariables false
def laws_eqCommit.E (a : Commit) (b : Commit) (Q : Bool → Prop) : Prop :=
  laws_eqIntS.E a.Up b.Up (fun r => (if !r then Q false else laws_eqFeatS.E a.Sheet b.Sheet (fun r2 => (if !r2 then Q false else (if a.Note != b.Note then Q false else Q true)))))
set_option maxHeartbeats 8000000 in
set_option maxRecDepth 100000 in
theorem laws_eqCommit.calls {O : Ob} (w0 : World) (hO : Ok w0 O) (a : Commit) (A1 : Option Addr) (n2 c3 : Nat) (A6 : Option Addr) (n7 c8 : Nat) (hp4 : Sl (Kd.int .i64) w0 (Fr O) (.slice A1 n2 c3) a.Up) (hp9 : Sl kFeat w0 (Fr O) (.slice A6 n7 c8) a.Sheet) (hs11 : Lim a.Note) (b : Commit) (A12 : Option Addr) (n13 c14 : Nat) (A17 : Option Addr) (n18 c19 : Nat) (hp15 : Sl (Kd.int .i64) w0 (Fr O) (.slice A12 n13 c14) b.Up) (hp20 : Sl kFeat w0 (Fr O) (.slice A17 n18 c19) b.Sheet) (hs22 : Lim b.Note) (Q : Bool → Prop) (h : laws_eqCommit.E a b Q) :
    Ret Try.prog 113 [.agg #[.slice A1 n2 c3, .slice A6 n7 c8, vs a.Note], .agg #[.slice A12 n13 c14, .slice A17 n18 c19, vs b.Note]] w0 (fun v w' => ∃ (r0 : Bool), v = vb r0 ∧ Q r0 ∧ Gr w0 w' none) := by
  have H : laws_eqIntS.E a.Up b.Up (fun r => (if !r then Q false else laws_eqFeatS.E a.Sheet b.Sheet (fun r2 => (if !r2 then Q false else (if a.Note != b.Note then Q false else Q true))))) := h
  clear h
  have hc0 := Ct.init hO
  refine Ret_enter Try.func113 rfl 22 rfl [.tmp 4] rfl rfl ?_
  refine W_seq ?_
  refine W_reg ?_
  refine L_box [.slice A1 n2 c3, .slice A6 n7 c8, vs a.Note] rfl fun w23 b24 hl26 hu27 g25 hx28 => ?_
  have h30 := Fb.mk hc0.ok hl26 hx28
  have hc31 := hc0.k0 g25
  refine L_box [.slice A12 n13 c14, .slice A17 n18 c19, vs b.Note] rfl fun w32 b33 hl35 hu36 g34 hx37 => ?_
  have h39 := Fb.mk hc31.ok hl35 hx37
  have hc40 := hc31.k0 g34
  refine L_pu (P_assign (vb false) rfl) ?_
  refine L_nil ?_
  refine W_seq ?_
  refine W_seq ?_
  refine W_reg ?_
  refine L_pu (P_fa fa91_0 ⟨b24, 0, none⟩ ⟨b24, 0, none⟩ rfl rfl) ?_
  have h41 := (h30.st (.new _ g34))
  refine L_pu (P_ld ag89 cL ⟨b24, 0, none⟩ (.slice A1 n2 c3) rfl (h41.cell rfl)) ?_
  refine L_pu (P_fa fa91_0 ⟨b33, 0, none⟩ ⟨b33, 0, none⟩ rfl rfl) ?_
  refine L_pu (P_ld ag89 cL ⟨b33, 0, none⟩ (.slice A12 n13 c14) rfl (h39.cell rfl)) ?_
  refine L_call go148 [.slice A1 n2 c3, .slice A12 n13 c14] rfl ((laws_eqIntS.calls w32 hc40.ok a.Up A1 n2 c3 (hp4.st hc40.st) b.Up A12 n13 c14 (hp15.st hc40.st) _ H).mono ?_)
  rintro _ w42 ⟨r, rfl, H, g43⟩
  have hc47 := hc40.k0 g43
  refine L_pu (P_not r rfl) ?_
  refine L_nil ?_
  refine W_cond (!r) rfl (fun hq48 => ?_) (fun hq48 => ?_)
  · have H := ite_t H hq48
    refine W_seq ?_
    refine W_reg ?_
    refine L_pu (P_assign (vb false) rfl) ?_
    refine L_nil ?_
    refine W_ret ?_
    exact ⟨[vb false], ⟨_, rfl, rfl⟩, false, rfl, H, hc47.gr.g0⟩
  · have H := ite_f H hq48
    refine W_skip ?_
    refine W_seq ?_
    refine W_seq ?_
    refine W_reg ?_
    refine L_pu (P_fa fa91_1 ⟨b24, 0, none⟩ ⟨b24, 1, none⟩ rfl rfl) ?_
    have h49 := (h41.st (.new _ g43))
    refine L_pu (P_ld ag52 cL ⟨b24, 1, none⟩ (.slice A6 n7 c8) rfl (h49.cell rfl)) ?_
    refine L_pu (P_fa fa91_1 ⟨b33, 0, none⟩ ⟨b33, 1, none⟩ rfl rfl) ?_
    have h50 := (h39.st (.new _ g43))
    refine L_pu (P_ld ag52 cL ⟨b33, 1, none⟩ (.slice A17 n18 c19) rfl (h50.cell rfl)) ?_
    refine L_call go29 [.slice A6 n7 c8, .slice A17 n18 c19] rfl ((laws_eqFeatS.calls w42 hc47.ok a.Sheet A6 n7 c8 (hp9.st hc47.st) b.Sheet A17 n18 c19 (hp20.st hc47.st) _ H).mono ?_)
    rintro _ w51 ⟨r2, rfl, H, g52⟩
    have hc56 := hc47.k0 g52
    refine L_pu (P_not r2 rfl) ?_
    refine L_nil ?_
    refine W_cond (!r2) rfl (fun hq57 => ?_) (fun hq57 => ?_)
    · have H := ite_t H hq57
      refine W_seq ?_
      refine W_reg ?_
      refine L_pu (P_assign (vb false) rfl) ?_
      refine L_nil ?_
      refine W_ret ?_
      exact ⟨[vb false], ⟨_, rfl, rfl⟩, false, rfl, H, hc56.gr.g0⟩
    · have H := ite_f H hq57
      refine W_skip ?_
      refine W_seq ?_
      refine W_seq ?_
      refine W_reg ?_
      refine L_pu (P_fa fa91_2 ⟨b24, 0, none⟩ ⟨b24, 2, none⟩ rfl rfl) ?_
      have h58 := (h49.st (.new _ g52))
      refine L_pu (P_ld ag9 cL ⟨b24, 2, none⟩ (vs a.Note) rfl (h58.cell rfl)) ?_
      refine L_pu (P_fa fa91_2 ⟨b33, 0, none⟩ ⟨b33, 2, none⟩ rfl rfl) ?_
      have h59 := (h50.st (.new _ g52))
      refine L_pu (P_ld ag9 cL ⟨b33, 2, none⟩ (vs b.Note) rfl (h59.cell rfl)) ?_
      refine L_pu (P_scmp a.Note b.Note (a.Note != b.Note) rfl rfl rfl) ?_
      refine L_nil ?_
      refine W_cond (a.Note != b.Note) rfl (fun hq60 => ?_) (fun hq60 => ?_)
      · have H := ite_t H hq60
        refine W_seq ?_
        refine W_reg ?_
        refine L_pu (P_assign (vb false) rfl) ?_
        refine L_nil ?_
        refine W_ret ?_
        exact ⟨[vb false], ⟨_, rfl, rfl⟩, false, rfl, H, hc56.gr.g0⟩
      · have H := ite_f H hq60
        refine W_skip ?_
        refine W_seq ?_
        refine W_reg ?_
        refine L_pu (P_assign (vb true) rfl) ?_
        refine L_nil ?_
        refine W_ret ?_
        exact ⟨[vb true], ⟨_, rfl, rfl⟩, true, rfl, H, hc56.gr.g0⟩
end Go.Proofs.Ytndjggncgpjolaa

namespace Go.Proofs.Ytndjggncgpjolaa
set_option linter.unusedVariables false
set_option linter.unusedSimpArgs false
set_option linter.unusedSectionVars false
theorem laws_eqCommit.law (a b : Commit) (Q : Bool → Prop) (hq : Q (decide (a = b))) : laws_eqCommit.E a b Q := by
  obtain ⟨x0, x1, x2⟩ := a; obtain ⟨y0, y1, y2⟩ := b
  rw [show (decide ((⟨x0, x1, x2⟩ : Commit) = ⟨y0, y1, y2⟩)) = ((decide (x0 = y0)) && ((decide (x1 = y1)) && (decide (x2 = y2)))) by simp only [Commit.mk.injEq, Bool.decide_and]] at hq
  unfold laws_eqCommit.E
  try refine laws_eqIntS.law _ _ _ ?_
  by_cases h0 : x0 = y0
  case neg => simpa [h0] using hq
  simp only [h0, decide_true, Bool.true_and, bne_self_eq_false, Bool.not_true, Bool.false_eq_true, if_false] at hq ⊢
  try refine laws_eqFeatS.law _ _ _ ?_
  by_cases h1 : x1 = y1
  case neg => simpa [h1] using hq
  simp only [h1, decide_true, Bool.true_and, bne_self_eq_false, Bool.not_true, Bool.false_eq_true, if_false] at hq ⊢
  by_cases h2 : x2 = y2
  case neg => simpa [h2] using hq
  simp only [h2, decide_true, Bool.true_and, bne_self_eq_false, Bool.not_true, Bool.false_eq_true, if_false] at hq ⊢
  all_goals (try exact hq)
theorem laws_eqCommit.is (a b : Commit) : laws_eqCommit.E a b (fun r => r = decide (a = b)) := laws_eqCommit.law a b _ rfl
end Go.Proofs.Ytndjggncgpjolaa

namespace Go.Proofs.Ytndjggncgpjolaa
open Go.RowKit
set_option linter.unusedVariables false
def laws_eqCommitS.E (a : List Commit) (b : List Commit) (Q : Bool → Prop) : Prop :=
  (if (a.length : Int) != (b.length : Int) then Q false else (∃ (I32 : Int → Prop) (mu33 : Int → Nat), I32 0 ∧ ∀ (i2 : Int), I32 i2 → (if decide (i2 < (a.length : Int)) then ((0 : Int) ≤ i2 ∧ i2 < (a.length : Int)) ∧ ((0 : Int) ≤ i2 ∧ i2 < (b.length : Int)) ∧ (if !(decide ((nth a i2) = (nth b i2))) then Q false else (-9223372036854775808 ≤ i2) ∧ I32 (i2 + 1) ∧ mu33 (i2 + 1) < mu33 i2) else Q true)))
set_option maxHeartbeats 8000000 in
set_option maxRecDepth 100000 in
theorem laws_eqCommitS.calls {O : Ob} (w0 : World) (hO : Ok w0 O) (a : List Commit) (A1 : Option Addr) (n2 c3 : Nat) (hp4 : Sl kCommit w0 (Fr O) (.slice A1 n2 c3) a) (b : List Commit) (A6 : Option Addr) (n7 c8 : Nat) (hp9 : Sl kCommit w0 (Fr O) (.slice A6 n7 c8) b) (Q : Bool → Prop) (h : laws_eqCommitS.E a b Q) :
    Ret Try.prog 54 [.slice A1 n2 c3, .slice A6 n7 c8] w0 (fun v w' => ∃ (r0 : Bool), v = vb r0 ∧ Q r0 ∧ Gr w0 w' none) := by
  have H : (if (a.length : Int) != (b.length : Int) then Q false else (∃ (I32 : Int → Prop) (mu33 : Int → Nat), I32 0 ∧ ∀ (i2 : Int), I32 i2 → (if decide (i2 < (a.length : Int)) then ((0 : Int) ≤ i2 ∧ i2 < (a.length : Int)) ∧ ((0 : Int) ≤ i2 ∧ i2 < (b.length : Int)) ∧ (if !(decide ((nth a i2) = (nth b i2))) then Q false else (-9223372036854775808 ≤ i2) ∧ I32 (i2 + 1) ∧ mu33 (i2 + 1) < mu33 i2) else Q true))) := h
  clear h
  have hc0 := Ct.init hO
  refine Ret_enter Try.func54 rfl 27 rfl [.tmp 4] rfl rfl ?_
  refine W_seq ?_
  refine W_reg ?_
  refine L_pu (P_assign (vb false) rfl) ?_
  refine L_nil ?_
  refine W_seq ?_
  refine W_seq ?_
  refine W_reg ?_
  refine L_pu (P_move (.slice A1 n2 c3) rfl) ?_
  have hl11 := hp4.le
  refine L_pu (P_len Try.underlying32 A1 n2 c3 hp4.len rfl) ?_
  refine L_pu (P_move (.slice A6 n7 c8) rfl) ?_
  have hl12 := hp9.le
  refine L_pu (P_len Try.underlying32 A6 n7 c8 hp9.len rfl) ?_
  refine L_pu (P_cmp (a.length : Int) (b.length : Int) ((a.length : Int) != (b.length : Int)) rfl rfl rfl) ?_
  refine L_nil ?_
  refine W_cond ((a.length : Int) != (b.length : Int)) rfl (fun hq13 => ?_) (fun hq13 => ?_)
  · have H := ite_t H hq13
    refine W_seq ?_
    refine W_reg ?_
    refine L_pu (P_assign (vb false) rfl) ?_
    refine L_nil ?_
    refine W_ret ?_
    exact ⟨[vb false], ⟨_, rfl, rfl⟩, false, rfl, H, hc0.gr.g0⟩
  · have H := ite_f H hq13
    refine W_skip ?_
    refine W_seq ?_
    refine W_seq ?_
    refine W_reg ?_
    refine L_pu (P_assign (vi 0) rfl) ?_
    refine L_nil ?_
    refine W_block ?_
    obtain ⟨I32, mu33, hI34, H⟩ := H
    refine W_loop (α := Int) (fun (sv__ : Int) t w26 => match sv__ with | i2 => I32 i2 ∧ Has t [(0, .slice A1 n2 c3), (1, .slice A6 n7 c8), (5, vi i2)] ∧ Ct [] w0 w26 [] O ∧ Sl kCommit w26 (Fr ([] ++ O)) (.slice A1 n2 c3) a ∧ Sl kCommit w26 (Fr ([] ++ O)) (.slice A6 n7 c8) b) (fun (sv__ : Int) => match sv__ with | i2 => mu33 i2) 0 ⟨hI34, ⟨rfl, rfl, rfl, trivial⟩, hc0, hp4, hp9⟩ ?_
    rintro i2 _ w26 ⟨hI34, hh36, hc29, h30, h31⟩
    obtain ⟨u37, rfl⟩ := Has.ins hh36
    have H := H i2 hI34
    refine W_seq ?_
    refine W_seq ?_
    refine W_reg ?_
    refine L_pu (P_move (vi i2) rfl) ?_
    refine L_pu (P_move (.slice A1 n2 c3) rfl) ?_
    have hl38 := h30.le
    refine L_pu (P_len Try.underlying32 A1 n2 c3 h30.len rfl) ?_
    refine L_pu (P_cmp i2 (a.length : Int) (decide (i2 < (a.length : Int))) rfl rfl rfl) ?_
    refine L_nil ?_
    refine W_cond (decide (i2 < (a.length : Int))) rfl (fun hq39 => ?_) (fun hq39 => ?_)
    · have H := ite_t H hq39
      refine W_skip ?_
      refine W_seq ?_
      refine W_block ?_
      refine W_seq ?_
      refine W_draw (fun x => Gr w26 x none) (by kernel_rfl) (by kernel_rfl) (Gr.drew _) ?_
      refine Q_pu (P_move (.slice A1 n2 c3) rfl) ?_
      refine Q_pu (P_move (vi i2) rfl) ?_
      obtain ⟨hb40, H⟩ := H
      obtain ⟨ad41, cs42, hA43, hS46, hR44, hcl45⟩ := h30.get default (by decide) i2 hb40
      obtain ⟨A47, n48, c49, A52, n53, c54, rfl, h50, h55, hs57⟩ := kCommit.op hR44
      refine Q_pu (P_ia Try.underlying32 se32 A1 ad41 n2 c3 h30.len i2 rfl hA43 rfl hb40) ?_
      refine Q_pu (P_lda ag91 sz91 cQ (ad41.add (i2.toNat * 3)) [.slice A47 n48 c49, .slice A52 n53 c54, vs ((nth a i2).Note)] rfl rfl hcl45) ?_
      refine Q_pu (P_move (.slice A6 n7 c8) rfl) ?_
      refine Q_pu (P_move (vi i2) rfl) ?_
      obtain ⟨hb58, H⟩ := H
      obtain ⟨ad59, cs60, hA61, hS64, hR62, hcl63⟩ := h31.get default (by decide) i2 hb58
      obtain ⟨A65, n66, c67, A70, n71, c72, rfl, h68, h73, hs75⟩ := kCommit.op hR62
      refine Q_pu (P_ia Try.underlying32 se32 A6 ad59 n7 c8 h31.len i2 rfl hA61 rfl hb58) ?_
      refine Q_pu (P_lda ag91 sz91 cQ (ad59.add (i2.toNat * 3)) [.slice A65 n66 c67, .slice A70 n71 c72, vs ((nth b i2).Note)] rfl rfl hcl63) ?_
      refine Q_call go113 [.agg #[.slice A47 n48 c49, .slice A52 n53 c54, vs ((nth a i2).Note)], .agg #[.slice A65 n66 c67, .slice A70 n71 c72, vs ((nth b i2).Note)]] rfl (vb (decide ((nth a i2) = (nth b i2)))) (fun w g => (laws_eqCommit.calls w (hc29.k0 g).ok (nth a i2) A47 n48 c49 A52 n53 c54 (h50.st (.new _ g)) (h55.st (.new _ g)) hs57 (nth b i2) A65 n66 c67 A70 n71 c72 (h68.st (.new _ g)) (h73.st (.new _ g)) hs75 _ (laws_eqCommit.is (nth a i2) (nth b i2))).mono ?_) ?_
      · rintro _ w ⟨r, rfl, rfl, g2⟩
        exact ⟨rfl, Gr.t0 g g2⟩
      refine Q_pu (P_not (decide ((nth a i2) = (nth b i2))) rfl) ?_
      refine Q_nil fun w81 g82 => ?_
      have hc84 := hc29.k0 g82
      refine W_cond (!(decide ((nth a i2) = (nth b i2)))) rfl (fun hq85 => ?_) (fun hq85 => ?_)
      · have H := ite_t H hq85
        refine W_seq ?_
        refine W_reg ?_
        refine L_pu (P_assign (vb false) rfl) ?_
        refine L_nil ?_
        refine W_ret ?_
        exact ⟨[vb false], ⟨_, rfl, rfl⟩, false, rfl, H, hc84.gr.g0⟩
      · have H := ite_f H hq85
        refine W_skip ?_
        refine W_reg ?_
        refine L_pu (P_move (vi i2) rfl) ?_
        obtain ⟨hb87, H⟩ := H
        have hi86 : I64 (i2 + 1) := i64_succ (of_decide_eq_true hq39) hl38 hb87
        refine L_pu (P_add i2 1 rfl rfl hi86) ?_
        refine L_pu (P_assign (vi (i2 + 1)) rfl) ?_
        refine L_nil ?_
        obtain ⟨hI88, hm89⟩ := H
        exact ⟨i2 + 1, hm89, hI88, ⟨rfl, rfl, rfl, trivial⟩, hc84, (h30.st (.new _ g82)), (h31.st (.new _ g82))⟩
    · have H := ite_f H hq39
      refine W_exit (xin_hit ?_)
      refine W_seq ?_
      refine W_reg ?_
      refine L_pu (P_assign (vb true) rfl) ?_
      refine L_nil ?_
      refine W_ret ?_
      exact ⟨[vb true], ⟨_, rfl, rfl⟩, true, rfl, H, hc29.gr.g0⟩
end Go.Proofs.Ytndjggncgpjolaa

namespace Go.Proofs.Ytndjggncgpjolaa
set_option linter.unusedVariables false
set_option linter.unusedSimpArgs false
set_option linter.unusedSectionVars false
theorem laws_eqCommitS.law (a b : List Commit) (Q : Bool → Prop) (hq : Q (decide (a = b))) : laws_eqCommitS.E a b Q := by
  unfold laws_eqCommitS.E
  exact eqS_shape (fun x y => decide (x = y)) (fun _ _ => rfl) a b Q hq
theorem laws_eqCommitS.is (a b : List Commit) : laws_eqCommitS.E a b (fun r => r = decide (a = b)) := laws_eqCommitS.law a b _ rfl
end Go.Proofs.Ytndjggncgpjolaa

namespace Go.Proofs.Ytndjggncgpjolaa
open Go.RowKit
set_option linter.unusedVariables false
def laws_eqHead.E (a : Head) (b : Head) (Q : Bool → Prop) : Prop :=
  (if a.Name != b.Name then Q false else (if a.At != b.At then Q false else Q true))
set_option maxHeartbeats 8000000 in
set_option maxRecDepth 100000 in
theorem laws_eqHead.calls {O : Ob} (w0 : World) (hO : Ok w0 O) (a : Head) (hs1 : Lim a.Name) (b : Head) (hs2 : Lim b.Name) (Q : Bool → Prop) (h : laws_eqHead.E a b Q) :
    Ret Try.prog 114 [.agg #[vs a.Name, vi a.At], .agg #[vs b.Name, vi b.At]] w0 (fun v w' => ∃ (r0 : Bool), v = vb r0 ∧ Q r0 ∧ Gr w0 w' none) := by
  have H : (if a.Name != b.Name then Q false else (if a.At != b.At then Q false else Q true)) := h
  clear h
  have hc0 := Ct.init hO
  refine Ret_enter Try.func114 rfl 15 rfl [.tmp 4] rfl rfl ?_
  refine W_seq ?_
  refine W_reg ?_
  refine L_box [vs a.Name, vi a.At] rfl fun w3 b4 hl6 hu7 g5 hx8 => ?_
  have h10 := Fb.mk hc0.ok hl6 hx8
  have hc11 := hc0.k0 g5
  refine L_box [vs b.Name, vi b.At] rfl fun w12 b13 hl15 hu16 g14 hx17 => ?_
  have h19 := Fb.mk hc11.ok hl15 hx17
  have hc20 := hc11.k0 g14
  refine L_pu (P_assign (vb false) rfl) ?_
  refine L_nil ?_
  refine W_seq ?_
  refine W_seq ?_
  refine W_reg ?_
  refine L_pu (P_fa fa93_0 ⟨b4, 0, none⟩ ⟨b4, 0, none⟩ rfl rfl) ?_
  have h21 := (h10.st (.new _ g14))
  refine L_pu (P_ld ag9 cL ⟨b4, 0, none⟩ (vs a.Name) rfl (h21.cell rfl)) ?_
  refine L_pu (P_fa fa93_0 ⟨b13, 0, none⟩ ⟨b13, 0, none⟩ rfl rfl) ?_
  refine L_pu (P_ld ag9 cL ⟨b13, 0, none⟩ (vs b.Name) rfl (h19.cell rfl)) ?_
  refine L_pu (P_scmp a.Name b.Name (a.Name != b.Name) rfl rfl rfl) ?_
  refine L_nil ?_
  refine W_cond (a.Name != b.Name) rfl (fun hq22 => ?_) (fun hq22 => ?_)
  · have H := ite_t H hq22
    refine W_seq ?_
    refine W_reg ?_
    refine L_pu (P_assign (vb false) rfl) ?_
    refine L_nil ?_
    refine W_ret ?_
    exact ⟨[vb false], ⟨_, rfl, rfl⟩, false, rfl, H, hc20.gr.g0⟩
  · have H := ite_f H hq22
    refine W_skip ?_
    refine W_seq ?_
    refine W_seq ?_
    refine W_reg ?_
    refine L_pu (P_fa fa93_1 ⟨b4, 0, none⟩ ⟨b4, 1, none⟩ rfl rfl) ?_
    refine L_pu (P_ld ag3 cL ⟨b4, 1, none⟩ (vi a.At) rfl (h21.cell rfl)) ?_
    refine L_pu (P_fa fa93_1 ⟨b13, 0, none⟩ ⟨b13, 1, none⟩ rfl rfl) ?_
    refine L_pu (P_ld ag3 cL ⟨b13, 1, none⟩ (vi b.At) rfl (h19.cell rfl)) ?_
    refine L_pu (P_cmp a.At b.At (a.At != b.At) rfl rfl rfl) ?_
    refine L_nil ?_
    refine W_cond (a.At != b.At) rfl (fun hq23 => ?_) (fun hq23 => ?_)
    · have H := ite_t H hq23
      refine W_seq ?_
      refine W_reg ?_
      refine L_pu (P_assign (vb false) rfl) ?_
      refine L_nil ?_
      refine W_ret ?_
      exact ⟨[vb false], ⟨_, rfl, rfl⟩, false, rfl, H, hc20.gr.g0⟩
    · have H := ite_f H hq23
      refine W_skip ?_
      refine W_seq ?_
      refine W_reg ?_
      refine L_pu (P_assign (vb true) rfl) ?_
      refine L_nil ?_
      refine W_ret ?_
      exact ⟨[vb true], ⟨_, rfl, rfl⟩, true, rfl, H, hc20.gr.g0⟩
def laws_eqHead.m (a : Head) (b : Head) : Bool := (if a.Name != b.Name then false else (if a.At != b.At then false else true))
theorem laws_eqHead.fn (a : Head) (b : Head) : laws_eqHead.E a b (fun r => r = laws_eqHead.m a b) := by
  unfold laws_eqHead.E laws_eqHead.m
  (repeat' split) <;> simp_all
end Go.Proofs.Ytndjggncgpjolaa

namespace Go.Proofs.Ytndjggncgpjolaa
set_option linter.unusedVariables false
set_option linter.unusedSimpArgs false
set_option linter.unusedSectionVars false
theorem laws_eqHead.law (a b : Head) (Q : Bool → Prop) (hq : Q (decide (a = b))) : laws_eqHead.E a b Q := by
  obtain ⟨x0, x1⟩ := a; obtain ⟨y0, y1⟩ := b
  rw [show (decide ((⟨x0, x1⟩ : Head) = ⟨y0, y1⟩)) = ((decide (x0 = y0)) && (decide (x1 = y1))) by simp only [Head.mk.injEq, Bool.decide_and]] at hq
  unfold laws_eqHead.E
  by_cases h0 : x0 = y0
  case neg => simpa [h0] using hq
  simp only [h0, decide_true, Bool.true_and, bne_self_eq_false, Bool.not_true, Bool.false_eq_true, if_false] at hq ⊢
  by_cases h1 : x1 = y1
  case neg => simpa [h1] using hq
  simp only [h1, decide_true, Bool.true_and, bne_self_eq_false, Bool.not_true, Bool.false_eq_true, if_false] at hq ⊢
  all_goals (try exact hq)
theorem laws_eqHead.is (a b : Head) : laws_eqHead.E a b (fun r => r = decide (a = b)) := laws_eqHead.law a b _ rfl
end Go.Proofs.Ytndjggncgpjolaa

namespace Go.Proofs.Ytndjggncgpjolaa
open Go.RowKit
set_option linter.unusedVariables false
def laws_eqHeadS.E (a : List Head) (b : List Head) (Q : Bool → Prop) : Prop :=
  (if (a.length : Int) != (b.length : Int) then Q false else (∃ (I32 : Int → Prop) (mu33 : Int → Nat), I32 0 ∧ ∀ (i2 : Int), I32 i2 → (if decide (i2 < (a.length : Int)) then ((0 : Int) ≤ i2 ∧ i2 < (a.length : Int)) ∧ ((0 : Int) ≤ i2 ∧ i2 < (b.length : Int)) ∧ (if !(decide ((nth a i2) = (nth b i2))) then Q false else (-9223372036854775808 ≤ i2) ∧ I32 (i2 + 1) ∧ mu33 (i2 + 1) < mu33 i2) else Q true)))
set_option maxHeartbeats 8000000 in
set_option maxRecDepth 100000 in
theorem laws_eqHeadS.calls {O : Ob} (w0 : World) (hO : Ok w0 O) (a : List Head) (A1 : Option Addr) (n2 c3 : Nat) (hp4 : Sl kHead w0 (Fr O) (.slice A1 n2 c3) a) (b : List Head) (A6 : Option Addr) (n7 c8 : Nat) (hp9 : Sl kHead w0 (Fr O) (.slice A6 n7 c8) b) (Q : Bool → Prop) (h : laws_eqHeadS.E a b Q) :
    Ret Try.prog 55 [.slice A1 n2 c3, .slice A6 n7 c8] w0 (fun v w' => ∃ (r0 : Bool), v = vb r0 ∧ Q r0 ∧ Gr w0 w' none) := by
  have H : (if (a.length : Int) != (b.length : Int) then Q false else (∃ (I32 : Int → Prop) (mu33 : Int → Nat), I32 0 ∧ ∀ (i2 : Int), I32 i2 → (if decide (i2 < (a.length : Int)) then ((0 : Int) ≤ i2 ∧ i2 < (a.length : Int)) ∧ ((0 : Int) ≤ i2 ∧ i2 < (b.length : Int)) ∧ (if !(decide ((nth a i2) = (nth b i2))) then Q false else (-9223372036854775808 ≤ i2) ∧ I32 (i2 + 1) ∧ mu33 (i2 + 1) < mu33 i2) else Q true))) := h
  clear h
  have hc0 := Ct.init hO
  refine Ret_enter Try.func55 rfl 27 rfl [.tmp 4] rfl rfl ?_
  refine W_seq ?_
  refine W_reg ?_
  refine L_pu (P_assign (vb false) rfl) ?_
  refine L_nil ?_
  refine W_seq ?_
  refine W_seq ?_
  refine W_reg ?_
  refine L_pu (P_move (.slice A1 n2 c3) rfl) ?_
  have hl11 := hp4.le
  refine L_pu (P_len Try.underlying33 A1 n2 c3 hp4.len rfl) ?_
  refine L_pu (P_move (.slice A6 n7 c8) rfl) ?_
  have hl12 := hp9.le
  refine L_pu (P_len Try.underlying33 A6 n7 c8 hp9.len rfl) ?_
  refine L_pu (P_cmp (a.length : Int) (b.length : Int) ((a.length : Int) != (b.length : Int)) rfl rfl rfl) ?_
  refine L_nil ?_
  refine W_cond ((a.length : Int) != (b.length : Int)) rfl (fun hq13 => ?_) (fun hq13 => ?_)
  · have H := ite_t H hq13
    refine W_seq ?_
    refine W_reg ?_
    refine L_pu (P_assign (vb false) rfl) ?_
    refine L_nil ?_
    refine W_ret ?_
    exact ⟨[vb false], ⟨_, rfl, rfl⟩, false, rfl, H, hc0.gr.g0⟩
  · have H := ite_f H hq13
    refine W_skip ?_
    refine W_seq ?_
    refine W_seq ?_
    refine W_reg ?_
    refine L_pu (P_assign (vi 0) rfl) ?_
    refine L_nil ?_
    refine W_block ?_
    obtain ⟨I32, mu33, hI34, H⟩ := H
    refine W_loop (α := Int) (fun (sv__ : Int) t w26 => match sv__ with | i2 => I32 i2 ∧ Has t [(0, .slice A1 n2 c3), (1, .slice A6 n7 c8), (5, vi i2)] ∧ Ct [] w0 w26 [] O ∧ Sl kHead w26 (Fr ([] ++ O)) (.slice A1 n2 c3) a ∧ Sl kHead w26 (Fr ([] ++ O)) (.slice A6 n7 c8) b) (fun (sv__ : Int) => match sv__ with | i2 => mu33 i2) 0 ⟨hI34, ⟨rfl, rfl, rfl, trivial⟩, hc0, hp4, hp9⟩ ?_
    rintro i2 _ w26 ⟨hI34, hh36, hc29, h30, h31⟩
    obtain ⟨u37, rfl⟩ := Has.ins hh36
    have H := H i2 hI34
    refine W_seq ?_
    refine W_seq ?_
    refine W_reg ?_
    refine L_pu (P_move (vi i2) rfl) ?_
    refine L_pu (P_move (.slice A1 n2 c3) rfl) ?_
    have hl38 := h30.le
    refine L_pu (P_len Try.underlying33 A1 n2 c3 h30.len rfl) ?_
    refine L_pu (P_cmp i2 (a.length : Int) (decide (i2 < (a.length : Int))) rfl rfl rfl) ?_
    refine L_nil ?_
    refine W_cond (decide (i2 < (a.length : Int))) rfl (fun hq39 => ?_) (fun hq39 => ?_)
    · have H := ite_t H hq39
      refine W_skip ?_
      refine W_seq ?_
      refine W_block ?_
      refine W_seq ?_
      refine W_draw (fun x => Gr w26 x none) (by kernel_rfl) (by kernel_rfl) (Gr.drew _) ?_
      refine Q_pu (P_move (.slice A1 n2 c3) rfl) ?_
      refine Q_pu (P_move (vi i2) rfl) ?_
      obtain ⟨hb40, H⟩ := H
      obtain ⟨ad41, cs42, hA43, hS46, hR44, hcl45⟩ := h30.get default (by decide) i2 hb40
      obtain ⟨rfl, hs47⟩ := kHead.op hR44
      refine Q_pu (P_ia Try.underlying33 se33 A1 ad41 n2 c3 h30.len i2 rfl hA43 rfl hb40) ?_
      refine Q_pu (P_lda ag93 sz93 cQ (ad41.add (i2.toNat * 2)) [vs ((nth a i2).Name), vi ((nth a i2).At)] rfl rfl hcl45) ?_
      refine Q_pu (P_move (.slice A6 n7 c8) rfl) ?_
      refine Q_pu (P_move (vi i2) rfl) ?_
      obtain ⟨hb48, H⟩ := H
      obtain ⟨ad49, cs50, hA51, hS54, hR52, hcl53⟩ := h31.get default (by decide) i2 hb48
      obtain ⟨rfl, hs55⟩ := kHead.op hR52
      refine Q_pu (P_ia Try.underlying33 se33 A6 ad49 n7 c8 h31.len i2 rfl hA51 rfl hb48) ?_
      refine Q_pu (P_lda ag93 sz93 cQ (ad49.add (i2.toNat * 2)) [vs ((nth b i2).Name), vi ((nth b i2).At)] rfl rfl hcl53) ?_
      refine Q_call go114 [.agg #[vs ((nth a i2).Name), vi ((nth a i2).At)], .agg #[vs ((nth b i2).Name), vi ((nth b i2).At)]] rfl (vb (decide ((nth a i2) = (nth b i2)))) (fun w g => (laws_eqHead.calls w (hc29.k0 g).ok (nth a i2) hs47 (nth b i2) hs55 _ (laws_eqHead.is (nth a i2) (nth b i2))).mono ?_) ?_
      · rintro _ w ⟨r, rfl, rfl, g2⟩
        exact ⟨rfl, Gr.t0 g g2⟩
      refine Q_pu (P_not (decide ((nth a i2) = (nth b i2))) rfl) ?_
      refine Q_nil fun w61 g62 => ?_
      have hc64 := hc29.k0 g62
      refine W_cond (!(decide ((nth a i2) = (nth b i2)))) rfl (fun hq65 => ?_) (fun hq65 => ?_)
      · have H := ite_t H hq65
        refine W_seq ?_
        refine W_reg ?_
        refine L_pu (P_assign (vb false) rfl) ?_
        refine L_nil ?_
        refine W_ret ?_
        exact ⟨[vb false], ⟨_, rfl, rfl⟩, false, rfl, H, hc64.gr.g0⟩
      · have H := ite_f H hq65
        refine W_skip ?_
        refine W_reg ?_
        refine L_pu (P_move (vi i2) rfl) ?_
        obtain ⟨hb67, H⟩ := H
        have hi66 : I64 (i2 + 1) := i64_succ (of_decide_eq_true hq39) hl38 hb67
        refine L_pu (P_add i2 1 rfl rfl hi66) ?_
        refine L_pu (P_assign (vi (i2 + 1)) rfl) ?_
        refine L_nil ?_
        obtain ⟨hI68, hm69⟩ := H
        exact ⟨i2 + 1, hm69, hI68, ⟨rfl, rfl, rfl, trivial⟩, hc64, (h30.st (.new _ g62)), (h31.st (.new _ g62))⟩
    · have H := ite_f H hq39
      refine W_exit (xin_hit ?_)
      refine W_seq ?_
      refine W_reg ?_
      refine L_pu (P_assign (vb true) rfl) ?_
      refine L_nil ?_
      refine W_ret ?_
      exact ⟨[vb true], ⟨_, rfl, rfl⟩, true, rfl, H, hc29.gr.g0⟩
end Go.Proofs.Ytndjggncgpjolaa

namespace Go.Proofs.Ytndjggncgpjolaa
set_option linter.unusedVariables false
set_option linter.unusedSimpArgs false
set_option linter.unusedSectionVars false
theorem laws_eqHeadS.law (a b : List Head) (Q : Bool → Prop) (hq : Q (decide (a = b))) : laws_eqHeadS.E a b Q := by
  unfold laws_eqHeadS.E
  exact eqS_shape (fun x y => decide (x = y)) (fun _ _ => rfl) a b Q hq
theorem laws_eqHeadS.is (a b : List Head) : laws_eqHeadS.E a b (fun r => r = decide (a = b)) := laws_eqHeadS.law a b _ rfl
end Go.Proofs.Ytndjggncgpjolaa

namespace Go.Proofs.Ytndjggncgpjolaa
open Go.RowKit
set_option linter.unusedVariables false
def laws_eqRepo.E (a : Repo) (b : Repo) (Q : Bool → Prop) : Prop :=
  laws_eqCommitS.E a.Commits b.Commits (fun r => (if !r then Q false else laws_eqHeadS.E a.Heads b.Heads (fun r2 => (if !r2 then Q false else Q true))))
set_option maxHeartbeats 8000000 in
set_option maxRecDepth 100000 in
theorem laws_eqRepo.calls {O : Ob} (w0 : World) (hO : Ok w0 O) (a : Repo) (A1 : Option Addr) (n2 c3 : Nat) (A6 : Option Addr) (n7 c8 : Nat) (hp4 : Sl kCommit w0 (Fr O) (.slice A1 n2 c3) a.Commits) (hp9 : Sl kHead w0 (Fr O) (.slice A6 n7 c8) a.Heads) (b : Repo) (A11 : Option Addr) (n12 c13 : Nat) (A16 : Option Addr) (n17 c18 : Nat) (hp14 : Sl kCommit w0 (Fr O) (.slice A11 n12 c13) b.Commits) (hp19 : Sl kHead w0 (Fr O) (.slice A16 n17 c18) b.Heads) (Q : Bool → Prop) (h : laws_eqRepo.E a b Q) :
    Ret Try.prog 15 [.agg #[.slice A1 n2 c3, .slice A6 n7 c8], .agg #[.slice A11 n12 c13, .slice A16 n17 c18]] w0 (fun v w' => ∃ (r0 : Bool), v = vb r0 ∧ Q r0 ∧ Gr w0 w' none) := by
  have H : laws_eqCommitS.E a.Commits b.Commits (fun r => (if !r then Q false else laws_eqHeadS.E a.Heads b.Heads (fun r2 => (if !r2 then Q false else Q true)))) := h
  clear h
  have hc0 := Ct.init hO
  refine Ret_enter Try.func15 rfl 17 rfl [.tmp 4] rfl rfl ?_
  refine W_seq ?_
  refine W_reg ?_
  refine L_box [.slice A1 n2 c3, .slice A6 n7 c8] rfl fun w21 b22 hl24 hu25 g23 hx26 => ?_
  have h28 := Fb.mk hc0.ok hl24 hx26
  have hc29 := hc0.k0 g23
  refine L_box [.slice A11 n12 c13, .slice A16 n17 c18] rfl fun w30 b31 hl33 hu34 g32 hx35 => ?_
  have h37 := Fb.mk hc29.ok hl33 hx35
  have hc38 := hc29.k0 g32
  refine L_pu (P_assign (vb false) rfl) ?_
  refine L_nil ?_
  refine W_seq ?_
  refine W_seq ?_
  refine W_reg ?_
  refine L_pu (P_fa fa35_0 ⟨b22, 0, none⟩ ⟨b22, 0, none⟩ rfl rfl) ?_
  have h39 := (h28.st (.new _ g32))
  refine L_pu (P_ld ag32 cL ⟨b22, 0, none⟩ (.slice A1 n2 c3) rfl (h39.cell rfl)) ?_
  refine L_pu (P_fa fa35_0 ⟨b31, 0, none⟩ ⟨b31, 0, none⟩ rfl rfl) ?_
  refine L_pu (P_ld ag32 cL ⟨b31, 0, none⟩ (.slice A11 n12 c13) rfl (h37.cell rfl)) ?_
  refine L_call go54 [.slice A1 n2 c3, .slice A11 n12 c13] rfl ((laws_eqCommitS.calls w30 hc38.ok a.Commits A1 n2 c3 (hp4.st hc38.st) b.Commits A11 n12 c13 (hp14.st hc38.st) _ H).mono ?_)
  rintro _ w40 ⟨r, rfl, H, g41⟩
  have hc45 := hc38.k0 g41
  refine L_pu (P_not r rfl) ?_
  refine L_nil ?_
  refine W_cond (!r) rfl (fun hq46 => ?_) (fun hq46 => ?_)
  · have H := ite_t H hq46
    refine W_seq ?_
    refine W_reg ?_
    refine L_pu (P_assign (vb false) rfl) ?_
    refine L_nil ?_
    refine W_ret ?_
    exact ⟨[vb false], ⟨_, rfl, rfl⟩, false, rfl, H, hc45.gr.g0⟩
  · have H := ite_f H hq46
    refine W_skip ?_
    refine W_seq ?_
    refine W_seq ?_
    refine W_reg ?_
    refine L_pu (P_fa fa35_1 ⟨b22, 0, none⟩ ⟨b22, 1, none⟩ rfl rfl) ?_
    have h47 := (h39.st (.new _ g41))
    refine L_pu (P_ld ag33 cL ⟨b22, 1, none⟩ (.slice A6 n7 c8) rfl (h47.cell rfl)) ?_
    refine L_pu (P_fa fa35_1 ⟨b31, 0, none⟩ ⟨b31, 1, none⟩ rfl rfl) ?_
    have h48 := (h37.st (.new _ g41))
    refine L_pu (P_ld ag33 cL ⟨b31, 1, none⟩ (.slice A16 n17 c18) rfl (h48.cell rfl)) ?_
    refine L_call go55 [.slice A6 n7 c8, .slice A16 n17 c18] rfl ((laws_eqHeadS.calls w40 hc45.ok a.Heads A6 n7 c8 (hp9.st hc45.st) b.Heads A16 n17 c18 (hp19.st hc45.st) _ H).mono ?_)
    rintro _ w49 ⟨r2, rfl, H, g50⟩
    have hc54 := hc45.k0 g50
    refine L_pu (P_not r2 rfl) ?_
    refine L_nil ?_
    refine W_cond (!r2) rfl (fun hq55 => ?_) (fun hq55 => ?_)
    · have H := ite_t H hq55
      refine W_seq ?_
      refine W_reg ?_
      refine L_pu (P_assign (vb false) rfl) ?_
      refine L_nil ?_
      refine W_ret ?_
      exact ⟨[vb false], ⟨_, rfl, rfl⟩, false, rfl, H, hc54.gr.g0⟩
    · have H := ite_f H hq55
      refine W_skip ?_
      refine W_seq ?_
      refine W_reg ?_
      refine L_pu (P_assign (vb true) rfl) ?_
      refine L_nil ?_
      refine W_ret ?_
      exact ⟨[vb true], ⟨_, rfl, rfl⟩, true, rfl, H, hc54.gr.g0⟩
end Go.Proofs.Ytndjggncgpjolaa

namespace Go.Proofs.Ytndjggncgpjolaa
set_option linter.unusedVariables false
set_option linter.unusedSimpArgs false
set_option linter.unusedSectionVars false
theorem laws_eqRepo.law (a b : Repo) (Q : Bool → Prop) (hq : Q (decide (a = b))) : laws_eqRepo.E a b Q := by
  obtain ⟨x0, x1⟩ := a; obtain ⟨y0, y1⟩ := b
  rw [show (decide ((⟨x0, x1⟩ : Repo) = ⟨y0, y1⟩)) = ((decide (x0 = y0)) && (decide (x1 = y1))) by simp only [Repo.mk.injEq, Bool.decide_and]] at hq
  unfold laws_eqRepo.E
  try refine laws_eqCommitS.law _ _ _ ?_
  by_cases h0 : x0 = y0
  case neg => simpa [h0] using hq
  simp only [h0, decide_true, Bool.true_and, bne_self_eq_false, Bool.not_true, Bool.false_eq_true, if_false] at hq ⊢
  try refine laws_eqHeadS.law _ _ _ ?_
  by_cases h1 : x1 = y1
  case neg => simpa [h1] using hq
  simp only [h1, decide_true, Bool.true_and, bne_self_eq_false, Bool.not_true, Bool.false_eq_true, if_false] at hq ⊢
  all_goals (try exact hq)
theorem laws_eqRepo.is (a b : Repo) : laws_eqRepo.E a b (fun r => r = decide (a = b)) := laws_eqRepo.law a b _ rfl
end Go.Proofs.Ytndjggncgpjolaa

namespace Go.Proofs.Ytndjggncgpjolaa
open Go.RowKit
set_option linter.unusedVariables false
def laws_markIntS.E (a : List Int) (k : Int) (Q : Int → List Int → Prop) : Prop :=
  (∃ (I23 : (List Int) → Int → Int → Prop) (mu24 : (List Int) → Int → Int → Nat), I23 a k 0 ∧ ∀ (xs2 : List Int) (k3 : Int) (i2 : Int), I23 xs2 k3 i2 → (if decide (i2 < (xs2.length : Int)) then ((0 : Int) ≤ i2 ∧ i2 < (xs2.length : Int)) ∧ ((xs2.length : Int) ≤ 9223372036854775807 → I64 (k3 + 1)) ∧ (-9223372036854775808 ≤ i2) ∧ I23 (xs2.set i2.toNat k3) (k3 + 1) (i2 + 1) ∧ mu24 (xs2.set i2.toNat k3) (k3 + 1) (i2 + 1) < mu24 xs2 k3 i2 else Q k3 xs2))
set_option maxHeartbeats 8000000 in
set_option maxRecDepth 100000 in
theorem laws_markIntS.calls {O : Ob} (w0 : World) (hO : Ok w0 O) (A1 : Option Addr) (n2 c3 : Nat) (a : List Int) (hp0 : Ow (Kd.int .i64) 3 w0 O (.slice A1 n2 c3) a) (k : Int) (Q : Int → List Int → Prop) (h : laws_markIntS.E a k Q) :
    Ret Try.prog 115 [.slice A1 n2 c3, vi k] w0 (fun v w' => ∃ (r0 : Int) (m0 : List Int), v = vi r0 ∧ Q r0 m0 ∧ Gr w0 w' (blk (.slice A1 n2 c3)) ∧ Ow (Kd.int .i64) 3 w' O (.slice A1 n2 c3) m0) := by
  have H : (∃ (I23 : (List Int) → Int → Int → Prop) (mu24 : (List Int) → Int → Int → Nat), I23 a k 0 ∧ ∀ (xs2 : List Int) (k3 : Int) (i2 : Int), I23 xs2 k3 i2 → (if decide (i2 < (xs2.length : Int)) then ((0 : Int) ≤ i2 ∧ i2 < (xs2.length : Int)) ∧ ((xs2.length : Int) ≤ 9223372036854775807 → I64 (k3 + 1)) ∧ (-9223372036854775808 ≤ i2) ∧ I23 (xs2.set i2.toNat k3) (k3 + 1) (i2 + 1) ∧ mu24 (xs2.set i2.toNat k3) (k3 + 1) (i2 + 1) < mu24 xs2 k3 i2 else Q k3 xs2)) := h
  clear h
  have hc0 := Ct.initm1 (r := blk (.slice A1 n2 c3)) hO (by intro b e; exact hp0.mem b e)
  refine Ret_enter Try.func115 rfl 19 rfl [.tmp 4] rfl rfl ?_
  refine W_seq ?_
  refine W_reg ?_
  refine L_pu (P_assign (vi 0) rfl) ?_
  refine L_nil ?_
  refine W_seq ?_
  refine W_seq ?_
  refine W_reg ?_
  refine L_pu (P_assign (vi 0) rfl) ?_
  refine L_nil ?_
  refine W_block ?_
  obtain ⟨I23, mu24, hI25, H⟩ := H
  refine W_loop (α := (List Int) × Int × Int) (fun (sv__ : (List Int) × Int × Int) t w16 => match sv__ with | (xs2, k3, i2) => I23 xs2 k3 i2 ∧ Has t [(0, .slice A1 n2 c3), (1, vi k3), (5, vi i2)] ∧ Ct [blk (.slice A1 n2 c3)] w0 w16 [] O ∧ Ow (Kd.int .i64) 3 w16 O (.slice A1 n2 c3) xs2) (fun (sv__ : (List Int) × Int × Int) => match sv__ with | (xs2, k3, i2) => mu24 xs2 k3 i2) (a, k, 0) ⟨hI25, ⟨rfl, rfl, rfl, trivial⟩, hc0, hp0⟩ ?_
  rintro ⟨xs2, k3, i2⟩ _ w16 ⟨hI25, hh27, hc21, h22⟩
  obtain ⟨u28, rfl⟩ := Has.ins hh27
  have H := H xs2 k3 i2 hI25
  refine W_seq ?_
  refine W_seq ?_
  refine W_reg ?_
  refine L_pu (P_move (vi i2) rfl) ?_
  refine L_pu (P_move (.slice A1 n2 c3) rfl) ?_
  have hl29 := h22.le
  refine L_pu (P_len Try.underlying89 A1 n2 c3 h22.len rfl) ?_
  refine L_pu (P_cmp i2 (xs2.length : Int) (decide (i2 < (xs2.length : Int))) rfl rfl rfl) ?_
  refine L_nil ?_
  refine W_cond (decide (i2 < (xs2.length : Int))) rfl (fun hq30 => ?_) (fun hq30 => ?_)
  · have H := ite_t H hq30
    refine W_skip ?_
    refine W_seq ?_
    refine W_block ?_
    refine W_seq ?_
    refine W_reg ?_
    refine L_pu (P_move (.slice A1 n2 c3) rfl) ?_
    refine L_pu (P_move (vi i2) rfl) ?_
    refine L_pu (P_move (vi k3) rfl) ?_
    obtain ⟨hb31, H⟩ := H
    obtain ⟨ad32, cs33, hA34, hR35, hcl36⟩ := h22.get default (by decide) i2 hb31
    obtain rfl := Kd.int.op hR35
    refine L_pu (P_ia Try.underlying89 se89 A1 ad32 n2 c3 h22.len i2 rfl hA34 rfl hb31) ?_
    refine L_ste0 A1 n2 c3 xs2 h22 i2 hb31 ad32 hA34 0 rfl [vi k3] rfl sz3 rfl k3 [vi (nth xs2 i2)] [vi k3] hcl36 rfl rfl rfl fun w38 g39 h40 => ?_
    have hc41 := hc21.wm g39
    refine L_nil ?_
    refine W_reg ?_
    refine L_pu (P_move (vi k3) rfl) ?_
    obtain ⟨hb42, H⟩ := H
    have hi43 := hb42 (len_le hl29)
    refine L_pu (P_add k3 1 rfl rfl hi43) ?_
    refine L_pu (P_assign (vi (k3 + 1)) rfl) ?_
    refine L_nil ?_
    refine W_reg ?_
    refine L_pu (P_move (vi i2) rfl) ?_
    obtain ⟨hb45, H⟩ := H
    have hi44 : I64 (i2 + 1) := i64_succ (of_decide_eq_true hq30) hl29 hb45
    refine L_pu (P_add i2 1 rfl rfl hi44) ?_
    refine L_pu (P_assign (vi (i2 + 1)) rfl) ?_
    refine L_nil ?_
    obtain ⟨hI46, hm47⟩ := H
    exact ⟨((xs2.set i2.toNat k3), k3 + 1, i2 + 1), hm47, hI46, ⟨rfl, rfl, rfl, trivial⟩, hc41, h40⟩
  · have H := ite_f H hq30
    refine W_exit (xin_hit ?_)
    refine W_seq ?_
    refine W_reg ?_
    refine L_pu (P_move (vi k3) rfl) ?_
    refine L_pu (P_assign (vi k3) rfl) ?_
    refine L_nil ?_
    refine W_ret ?_
    exact ⟨[vi k3], ⟨_, rfl, rfl⟩, k3, xs2, rfl, H, hc21.gr.g1, h22⟩
end Go.Proofs.Ytndjggncgpjolaa

namespace Go.Proofs.Ytndjggncgpjolaa
set_option linter.unusedVariables false
set_option linter.unusedSimpArgs false
set_option linter.unusedSectionVars false
/-! what marks are put, and where -/
def decA : Nat → Int → Str → Str
  | 0, _, out => out
  | f + 1, k, out => if 0 < k then decA f (k / 10) (UInt8.ofNat (48 + k % 10).toNat :: out) else out
theorem decA_stop (f : Nat) {k : Int} (h : ¬ 0 < k) (out : Str) : decA f k out = out := by
  cases f with
  | zero => rfl
  | succ f => unfold decA; rw [if_neg h]
/-- the text of a mark -/
def tx (k : Int) : Str := if k ≤ 0 then [109, 48] else [109] ++ decA k.toNat k []
def mkL {α : Type} (g : α → Int → α × Int) : List α → Int → List α × Int
  | [], k => ([], k)
  | x :: l, k => ((g x k).1 :: (mkL g l (g x k).2).1, (mkL g l (g x k).2).2)
section
variable {α : Type} {g : α → Int → α × Int}
theorem mkL_snoc (x : α) : ∀ (l : List α) (k : Int), mkL g (l ++ [x]) k = ((mkL g l k).1 ++ [(g x (mkL g l k).2).1], (g x (mkL g l k).2).2)
  | [], k => rfl
  | y :: l, k => by
    rw [List.cons_append, mkL, mkL_snoc x l]; rfl
theorem mkL_len : ∀ (l : List α) (k : Int), (mkL g l k).1.length = l.length
  | [], k => rfl
  | y :: l, k => by rw [mkL, List.length_cons, List.length_cons, mkL_len l]
theorem mkL_bd [Bulk α] (hb : ∀ x k, k ≤ (g x k).2 ∧ (g x k).2 ≤ k + 8 * (1 + (bulk x : Nat))) : ∀ (l : List α) (k : Int), k ≤ (mkL g l k).2 ∧ (mkL g l k).2 ≤ k + 8 * (bulk l : Nat)
  | [], k => ⟨Int.le_refl _, by simp [mkL, bulk_nil]⟩
  | y :: l, k => by
    have h1 := hb y k
    have h2 := mkL_bd hb l (g y k).2
    rw [bulk_cons, mkL]
    exact ⟨by dsimp only; omega, by dsimp only; omega⟩
theorem mkL_app : ∀ (l m : List α) (k : Int), mkL g (l ++ m) k = ((mkL g l k).1 ++ (mkL g m (mkL g l k).2).1, (mkL g m (mkL g l k).2).2)
  | [], m, k => rfl
  | y :: l, m, k => by rw [List.cons_append, mkL, mkL_app l]; rfl
variable [Inhabited α]
def Mk (g : α → Int → α × Int) (a : List α) (k : Int) (u : Nat) (xs : List α) (k' : Int) : Prop := u ≤ a.length ∧ xs = (mkL g (a.take u) k).1 ++ a.drop u ∧ k' = (mkL g (a.take u) k).2
variable {a xs : List α} {k k' : Int} {u : Nat}
theorem Mk.zero (a : List α) (k : Int) : Mk g a k 0 a k := ⟨Nat.zero_le _, by simp [mkL], by simp [mkL]⟩
theorem Mk.len (h : Mk g a k u xs k') : xs.length = a.length := by
  rw [h.2.1, List.length_append, mkL_len, List.length_take, List.length_drop]; have := h.1; omega
theorem Mk.nth (h : Mk g a k u xs k') (hu : u < a.length) : nth xs (u : Int) = Go.Proofs.Ytndjggncgpjolaa.nth a (u : Int) := by
  rw [nth_nat xs (by rw [h.len]; exact hu), nth_nat a hu]
  have hl : (mkL g (a.take u) k).1.length = u := by rw [mkL_len, List.length_take]; omega
  have := h.2.1
  subst this
  rw [List.getElem_append_right (by omega)]
  simp [hl]
theorem Mk.next (h : Mk g a k u xs k') (hu : u < a.length) {y : α} {k'' : Int} (e : g (Go.Proofs.Ytndjggncgpjolaa.nth a (u : Int)) k' = (y, k'')) : Mk g a k (u + 1) (xs.set u y) k'' := by
  have hl : (mkL g (a.take u) k).1.length = u := by rw [mkL_len, List.length_take]; omega
  have h1 : mkL g (a.take (u + 1)) k = ((mkL g (a.take u) k).1 ++ [y], k'') := by
    rw [take_nth a hu, mkL_snoc, ← h.2.2, e]
  refine ⟨hu, ?_, by rw [h1]⟩
  rw [h1, h.2.1, List.set_append_right _ _ (by omega), hl, Nat.sub_self, List.drop_eq_getElem_cons hu, List.set_cons_zero]
  dsimp only
  rw [List.append_assoc]; rfl
theorem Mk.bd [Bulk α] (h : Mk g a k u xs k') (hb : ∀ x k, k ≤ (g x k).2 ∧ (g x k).2 ≤ k + 8 * (1 + (bulk x : Nat))) : k ≤ k' ∧ k' ≤ k + 8 * (bulk a : Nat) := by
  have h1 := mkL_bd hb (a.take u) k
  have h2 := bulk_take a u
  rw [h.2.2]
  exact ⟨h1.1, by omega⟩
theorem Mk.full (h : Mk g a k u xs k') (hu : ¬ u < a.length) : xs = (mkL g a k).1 ∧ k' = (mkL g a k).2 := by
  have : u = a.length := by have := h.1; omega
  subst this
  obtain ⟨_, h1, h2⟩ := h
  simpa using And.intro h1 h2
/-- the marks found again -/
def Hd (g : α → Int → α × Int) (a : List α) (k : Int) (u : Nat) (k' : Int) : Prop := u ≤ a.length ∧ k' = (mkL g (a.take u) k).2
theorem Hd.zero (a : List α) (k : Int) : Hd g a k 0 k := ⟨Nat.zero_le _, by simp [mkL]⟩
theorem Hd.nth (h : Hd g a k u k') (hu : u < a.length) : nth (mkL g a k).1 (u : Int) = (g (Go.Proofs.Ytndjggncgpjolaa.nth a (u : Int)) k').1 := by
  have e : a = (a.take u ++ [Go.Proofs.Ytndjggncgpjolaa.nth a (u : Int)]) ++ a.drop (u + 1) := by rw [← take_nth a hu, List.take_append_drop]
  have hl : (mkL g (a.take u) k).1.length = u := by rw [mkL_len, List.length_take]; omega
  rw [nth_nat _ (by rw [mkL_len]; exact hu)]
  have h1 : (mkL g a k).1[u]? = some (g (Go.Proofs.Ytndjggncgpjolaa.nth a (u : Int)) k').1 := by
    conv => lhs; rw [e]
    rw [mkL_app, mkL_snoc]
    dsimp only
    rw [List.append_assoc, List.getElem?_append_right (by omega), hl, Nat.sub_self, h.2]; rfl
  rw [List.getElem?_eq_getElem (by rw [mkL_len]; exact hu)] at h1
  exact Option.some.inj h1
theorem Hd.next (h : Hd g a k u k') (hu : u < a.length) : Hd g a k (u + 1) (g (Go.Proofs.Ytndjggncgpjolaa.nth a (u : Int)) k').2 := ⟨hu, by rw [take_nth a hu, mkL_snoc, h.2]⟩
theorem Hd.bd [Bulk α] (h : Hd g a k u k') (hb : ∀ x k, k ≤ (g x k).2 ∧ (g x k).2 ≤ k + 8 * (1 + (bulk x : Nat))) : k ≤ k' ∧ k' ≤ k + 8 * (bulk a : Nat) := by
  have h1 := mkL_bd hb (a.take u) k
  have h2 := bulk_take a u
  rw [h.2]
  exact ⟨h1.1, by omega⟩
theorem Hd.full (h : Hd g a k u k') (hu : ¬ u < a.length) : k' = (mkL g a k).2 := by
  have : u = a.length := by have := h.1; omega
  subst this
  simpa using h.2
end
theorem set_facts {α : Type} [Inhabited α] {xs ys : List α} {u : Nat} {y : α} (hu : u < xs.length) (e : ys = xs.set (Int.toNat (u : Int)) y) : nth ys (u : Int) = y ∧ ys.length = xs.length ∧ (∀ z, ys.set (Int.toNat (u : Int)) z = xs.set (Int.toNat (u : Int)) z) := by
  subst e
  rw [Int.toNat_natCast]
  exact ⟨by rw [nth_set _ hu, if_pos rfl], List.length_set, fun z => List.set_set ..⟩
def gInt (_ : Int) (k : Int) : Int × Int := (k, k + 1)
def gPt (_ : Pt) (k : Int) : Pt × Int := (⟨k, k + 1⟩, k + 2)
def gTag (_ : Tag) (k : Int) : Tag × Int := (⟨tx k, tx (k + 1)⟩, k + 2)
theorem gInt_bd (x : Int) (k : Int) : k ≤ (gInt x k).2 ∧ (gInt x k).2 ≤ k + 8 * (1 + (bulk x : Nat)) := by unfold gInt; exact ⟨by dsimp only; omega, by dsimp only; omega⟩
theorem gPt_bd (x : Pt) (k : Int) : k ≤ (gPt x k).2 ∧ (gPt x k).2 ≤ k + 8 * (1 + (bulk x : Nat)) := by unfold gPt; exact ⟨by dsimp only; omega, by dsimp only; omega⟩
theorem gTag_bd (x : Tag) (k : Int) : k ≤ (gTag x k).2 ∧ (gTag x k).2 ≤ k + 8 * (1 + (bulk x : Nat)) := by unfold gTag; exact ⟨by dsimp only; omega, by dsimp only; omega⟩
def gFeat (x : Feat) (k : Int) : Feat × Int :=
  (⟨tx k, ⟨k + 1, (mkL gPt x.Shape.Pts (k + 2)).1⟩, (mkL gTag x.Tags (mkL gPt x.Shape.Pts (k + 2)).2).1⟩, (mkL gTag x.Tags (mkL gPt x.Shape.Pts (k + 2)).2).2)
theorem gFeat_bd (x : Feat) (k : Int) : k ≤ (gFeat x k).2 ∧ (gFeat x k).2 ≤ k + 8 * (1 + (bulk x : Nat)) := by
  have hb : bulk x = bulk x.Id + bulk x.Shape + bulk x.Tags := rfl
  have hs : bulk x.Shape = bulk x.Shape.Kind + bulk x.Shape.Pts := rfl
  have h1 := mkL_bd gPt_bd x.Shape.Pts (k + 2)
  have h2 := mkL_bd gTag_bd x.Tags (mkL gPt x.Shape.Pts (k + 2)).2
  unfold gFeat
  exact ⟨by dsimp only; omega, by dsimp only; omega⟩
def gHead (_ : Head) (k : Int) : Head × Int := (⟨tx k, k + 1⟩, k + 2)
theorem gHead_bd (x : Head) (k : Int) : k ≤ (gHead x k).2 ∧ (gHead x k).2 ≤ k + 8 * (1 + (bulk x : Nat)) := by unfold gHead; exact ⟨by dsimp only; omega, by dsimp only; omega⟩
def gCommit (x : Commit) (k : Int) : Commit × Int :=
  (⟨(mkL gInt x.Up k).1, (mkL gFeat x.Sheet (mkL gInt x.Up k).2).1, tx (mkL gFeat x.Sheet (mkL gInt x.Up k).2).2⟩, (mkL gFeat x.Sheet (mkL gInt x.Up k).2).2 + 1)
theorem gCommit_bd (x : Commit) (k : Int) : k ≤ (gCommit x k).2 ∧ (gCommit x k).2 ≤ k + 8 * (1 + (bulk x : Nat)) := by
  have hb : bulk x = bulk x.Up + bulk x.Sheet + bulk x.Note := rfl
  have h1 := mkL_bd gInt_bd x.Up k
  have h2 := mkL_bd gFeat_bd x.Sheet (mkL gInt x.Up k).2
  unfold gCommit
  exact ⟨by dsimp only; omega, by dsimp only; omega⟩
def gChange (x : Change) (k : Int) : Change × Int :=
  (⟨tx k, (k + 1) % 3 == 0, ⟨tx (k + 2), ⟨k + 3, (mkL gPt x.Was.Shape.Pts (k + 4)).1⟩, (mkL gTag x.Was.Tags (mkL gPt x.Was.Shape.Pts (k + 4)).2).1⟩,
    (mkL gTag x.Was.Tags (mkL gPt x.Was.Shape.Pts (k + 4)).2).2 % 3 == 0,
    ⟨tx ((mkL gTag x.Was.Tags (mkL gPt x.Was.Shape.Pts (k + 4)).2).2 + 1), ⟨(mkL gTag x.Was.Tags (mkL gPt x.Was.Shape.Pts (k + 4)).2).2 + 2, (mkL gPt x.Now.Shape.Pts ((mkL gTag x.Was.Tags (mkL gPt x.Was.Shape.Pts (k + 4)).2).2 + 3)).1⟩,
      (mkL gTag x.Now.Tags (mkL gPt x.Now.Shape.Pts ((mkL gTag x.Was.Tags (mkL gPt x.Was.Shape.Pts (k + 4)).2).2 + 3)).2).1⟩⟩,
    (mkL gTag x.Now.Tags (mkL gPt x.Now.Shape.Pts ((mkL gTag x.Was.Tags (mkL gPt x.Was.Shape.Pts (k + 4)).2).2 + 3)).2).2)
theorem bulk_feat (x : Feat) : bulk x = bulk x.Id + (bulk x.Shape.Kind + bulk x.Shape.Pts) + bulk x.Tags := rfl
theorem bulk_change (x : Change) : bulk x = bulk x.Id + bulk x.Had + bulk x.Was + bulk x.Has + bulk x.Now := rfl
theorem gChange_bd (x : Change) (k : Int) : k ≤ (gChange x k).2 ∧ (gChange x k).2 ≤ k + 8 * (1 + (bulk x : Nat)) := by
  have hb := bulk_change x
  have hb1 := bulk_feat x.Was
  have hb2 := bulk_feat x.Now
  have h1 := mkL_bd gPt_bd x.Was.Shape.Pts (k + 4)
  have h2 := mkL_bd gTag_bd x.Was.Tags (mkL gPt x.Was.Shape.Pts (k + 4)).2
  have h3 := mkL_bd gPt_bd x.Now.Shape.Pts ((mkL gTag x.Was.Tags (mkL gPt x.Was.Shape.Pts (k + 4)).2).2 + 3)
  have h4 := mkL_bd gTag_bd x.Now.Tags (mkL gPt x.Now.Shape.Pts ((mkL gTag x.Was.Tags (mkL gPt x.Was.Shape.Pts (k + 4)).2).2 + 3)).2
  unfold gChange
  exact ⟨by dsimp only; omega, by dsimp only; omega⟩
end Go.Proofs.Ytndjggncgpjolaa

namespace Go.Proofs.Ytndjggncgpjolaa
set_option linter.unusedVariables false
set_option linter.unusedSimpArgs false
set_option linter.unusedSectionVars false
theorem laws_markIntS.lawk (a : List Int) (k : Int) (Q : Int → List Int → Prop) (ha : bulk a ≤ 1048576) (h0 : 0 ≤ k) (h1 : k ≤ 1000000000) (hq : Q (mkL gInt a k).2 (mkL gInt a k).1) : laws_markIntS.E a k Q := by
  unfold laws_markIntS.E
  have hbl := bulk_len a
  refine ⟨fun xs k' i => ∃ u : Nat, i = u ∧ Mk gInt a k u xs k', fun _ _ i => (a.length - i).toNat, ⟨0, rfl, .zero a k⟩, ?_⟩
  rintro xs k' _ ⟨u, rfl, M⟩
  have hl := M.len
  have hb := M.bd gInt_bd
  by_cases h : u < a.length
  · rw [if_pos (by rw [hl]; simpa using h)]
    have hu' : u < xs.length := by omega
    have hx := M.nth h
    have hm := bulk_mem (nth_mem a h)
    rw [Int.toNat_natCast, hl]
    exact ⟨by omega, fun _ => by unfold I64; omega, by omega, ⟨u + 1, by omega, M.next h rfl⟩, by dsimp only; omega⟩
  · rw [if_neg (by rw [hl]; simpa using h)]
    obtain ⟨rfl, rfl⟩ := M.full h
    exact hq
end Go.Proofs.Ytndjggncgpjolaa
