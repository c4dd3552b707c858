/-
  No cell of these rows narrows 'for every input' (looked for: loops, veiled, ifaces, maps, wideKeys, modest, calm, conditions, laid).
  DERIVED. THE GIVEN ROWS OF THIS SEAT. 6 by the template 'for every input the law returns true; each argument reads behind the call as it read before'; 0 by the template 'total and deterministic' (their statements: YthkeboifjlnjjaaTotals.lean).
  GIVEN WITH THE SEED: the statements are not yours to turn. If you find one false, say at which input.
  Laid BY PROGRAM, IN A SANDBOX (cutbox-rows.mjs): the forced cells as the released guide's own fill.sh prints them over the translation c8df6244b6fda2a0… (all of the seat's roots in one cut). By AI agents, Wed Nov 11 2026. No macro, syntax, notation, axiom, sorry.
-/
import Derived.Test.YthkeboifjlnjjaaChecked
import GoSem.Claim
import GoSem.ClaimJoined
import GoSem.ClaimMapViews
import Derived.JoinedTies
import Derived.KernelRfl
namespace Go.Proofs.Ythkeboifjlnjjaa
/- THE CELL 'sum', in the pinned program and in every row, IS THE sha256 OF THE DUMP (.gsa) THAT YthkeboifjlnjjaaProg.lean LOADS. Nothing in Lean hashes anything: it is a label: what it is worth is what the hold of that sum in a sandbox is worth. -/
noncomputable def Try.pinned : Pinned := { name := "ythkeboifjlnjjaa", sum := "c8df6244b6fda2a0aa8f14253b6a337307948a6642125d83e4d766a71259979a", checked := Try.checked }
namespace Rows
def none {H : Type} : Left H := { results := [], args := [] }

/-- 'laws.FnSeqNone': WHATEVER THE INPUT: true; the input reads as it did. -/
def fnSeqNoneSpec : ChangeSpec := { name := "fnSeqNone", fn := fun _ => fun
  | [d] => { results := [.lit (.bool true)], args := [d] }
  | _ => none }
def fnSeqNoneRow : OpenClaim := { program := "ythkeboifjlnjjaa", sum := "c8df6244b6fda2a0aa8f14253b6a337307948a6642125d83e4d766a71259979a", func := "loop.example/townland/laws.FnSeqNone", spec := "fnSeqNone", apart := false }
def FnSeqNoneSaid : Prop := fnSeqNoneRow.holds Try.pinned (OpenSpec.ofChange fnSeqNoneSpec)

/-- ITS FALSE NEIGHBOUR: 'it returns false'. Refute it at one input. -/
def fnSeqNoneWrong : ChangeSpec := { name := "fnSeqNone", fn := fun _ => fun
  | [d] => { results := [.lit (.bool false)], args := [d] }
  | _ => none }
def FnSeqNoneWrongFalsely : Prop := fnSeqNoneRow.holds Try.pinned (OpenSpec.ofChange fnSeqNoneWrong)

/-- 'laws.FnExactDiffOk': WHATEVER THE INPUT: true; the input reads as it did. -/
def fnExactDiffOkSpec : ChangeSpec := { name := "fnExactDiffOk", fn := fun _ => fun
  | [d] => { results := [.lit (.bool true)], args := [d] }
  | _ => none }
def fnExactDiffOkRow : OpenClaim := { program := "ythkeboifjlnjjaa", sum := "c8df6244b6fda2a0aa8f14253b6a337307948a6642125d83e4d766a71259979a", func := "loop.example/townland/laws.FnExactDiffOk", spec := "fnExactDiffOk", apart := false }
def FnExactDiffOkSaid : Prop := fnExactDiffOkRow.holds Try.pinned (OpenSpec.ofChange fnExactDiffOkSpec)

/-- ITS FALSE NEIGHBOUR: 'it returns false'. Refute it at one input. -/
def fnExactDiffOkWrong : ChangeSpec := { name := "fnExactDiffOk", fn := fun _ => fun
  | [d] => { results := [.lit (.bool false)], args := [d] }
  | _ => none }
def FnExactDiffOkWrongFalsely : Prop := fnExactDiffOkRow.holds Try.pinned (OpenSpec.ofChange fnExactDiffOkWrong)

/-- 'laws.FnExactRepoSame': WHATEVER THE INPUT: true; the input reads as it did. -/
def fnExactRepoSameSpec : ChangeSpec := { name := "fnExactRepoSame", fn := fun _ => fun
  | [d1, d2] => { results := [.lit (.bool true)], args := [d1, d2] }
  | _ => none }
def fnExactRepoSameRow : OpenClaim := { program := "ythkeboifjlnjjaa", sum := "c8df6244b6fda2a0aa8f14253b6a337307948a6642125d83e4d766a71259979a", func := "loop.example/townland/laws.FnExactRepoSame", spec := "fnExactRepoSame", unfollowed := true, recurses := true, apart := false }
def FnExactRepoSameSaid : Prop := fnExactRepoSameRow.holds Try.pinned (OpenSpec.ofChange fnExactRepoSameSpec)

/-- ITS FALSE NEIGHBOUR: 'it returns false'. Refute it at one input. -/
def fnExactRepoSameWrong : ChangeSpec := { name := "fnExactRepoSame", fn := fun _ => fun
  | [d1, d2] => { results := [.lit (.bool false)], args := [d1, d2] }
  | _ => none }
def FnExactRepoSameWrongFalsely : Prop := fnExactRepoSameRow.holds Try.pinned (OpenSpec.ofChange fnExactRepoSameWrong)

/-- 'laws.FnExactRepoOk': WHATEVER THE INPUT: true; the input reads as it did. -/
def fnExactRepoOkSpec : ChangeSpec := { name := "fnExactRepoOk", fn := fun _ => fun
  | [d] => { results := [.lit (.bool true)], args := [d] }
  | _ => none }
def fnExactRepoOkRow : OpenClaim := { program := "ythkeboifjlnjjaa", sum := "c8df6244b6fda2a0aa8f14253b6a337307948a6642125d83e4d766a71259979a", func := "loop.example/townland/laws.FnExactRepoOk", spec := "fnExactRepoOk", unfollowed := true, recurses := true, apart := false }
def FnExactRepoOkSaid : Prop := fnExactRepoOkRow.holds Try.pinned (OpenSpec.ofChange fnExactRepoOkSpec)

/-- ITS FALSE NEIGHBOUR: 'it returns false'. Refute it at one input. -/
def fnExactRepoOkWrong : ChangeSpec := { name := "fnExactRepoOk", fn := fun _ => fun
  | [d] => { results := [.lit (.bool false)], args := [d] }
  | _ => none }
def FnExactRepoOkWrongFalsely : Prop := fnExactRepoOkRow.holds Try.pinned (OpenSpec.ofChange fnExactRepoOkWrong)

/-- 'laws.FnExactRepoAt': WHATEVER THE INPUT: true; the input reads as it did. -/
def fnExactRepoAtSpec : ChangeSpec := { name := "fnExactRepoAt", fn := fun _ => fun
  | [d1, d2] => { results := [.lit (.bool true)], args := [d1, d2] }
  | _ => none }
def fnExactRepoAtRow : OpenClaim := { program := "ythkeboifjlnjjaa", sum := "c8df6244b6fda2a0aa8f14253b6a337307948a6642125d83e4d766a71259979a", func := "loop.example/townland/laws.FnExactRepoAt", spec := "fnExactRepoAt", unfollowed := true, recurses := true, apart := false }
def FnExactRepoAtSaid : Prop := fnExactRepoAtRow.holds Try.pinned (OpenSpec.ofChange fnExactRepoAtSpec)

/-- ITS FALSE NEIGHBOUR: 'it returns false'. Refute it at one input. -/
def fnExactRepoAtWrong : ChangeSpec := { name := "fnExactRepoAt", fn := fun _ => fun
  | [d1, d2] => { results := [.lit (.bool false)], args := [d1, d2] }
  | _ => none }
def FnExactRepoAtWrongFalsely : Prop := fnExactRepoAtRow.holds Try.pinned (OpenSpec.ofChange fnExactRepoAtWrong)

/-- 'laws.FnExactRepoAhead': WHATEVER THE INPUT: true; the input reads as it did. -/
def fnExactRepoAheadSpec : ChangeSpec := { name := "fnExactRepoAhead", fn := fun _ => fun
  | [d1, d2, d3] => { results := [.lit (.bool true)], args := [d1, d2, d3] }
  | _ => none }
def fnExactRepoAheadRow : OpenClaim := { program := "ythkeboifjlnjjaa", sum := "c8df6244b6fda2a0aa8f14253b6a337307948a6642125d83e4d766a71259979a", func := "loop.example/townland/laws.FnExactRepoAhead", spec := "fnExactRepoAhead", unfollowed := true, recurses := true, apart := false }
def FnExactRepoAheadSaid : Prop := fnExactRepoAheadRow.holds Try.pinned (OpenSpec.ofChange fnExactRepoAheadSpec)

/-- ITS FALSE NEIGHBOUR: 'it returns false'. Refute it at one input. -/
def fnExactRepoAheadWrong : ChangeSpec := { name := "fnExactRepoAhead", fn := fun _ => fun
  | [d1, d2, d3] => { results := [.lit (.bool false)], args := [d1, d2, d3] }
  | _ => none }
def FnExactRepoAheadWrongFalsely : Prop := fnExactRepoAheadRow.holds Try.pinned (OpenSpec.ofChange fnExactRepoAheadWrong)

/- THE SECOND FORM. 'bulk': how many values and letters a reading holds, each counted each time it is reached (what is shared counts as often as it is met; a slice's spare places count too). A statement '..UptoSaid' is the law's where the arguments, and the package variables that the reading takes, are together of bulk at most 1048576: NARROWER than '..Said'. Prove '..Said' where nothing that the law and all that it calls make is longer than what came in: it says more and counts as full. Else prove '..UptoSaid'. A law counts once. -/
mutual
def uptoBulk {H : Type} : DataW H → Nat
  | .lit (.string bytes) => bytes.length + 1
  | .lit _ => 1
  | .nil => 1
  | .ptr d => uptoBulk d + 1
  | .slice elems spare => uptoBulkAll elems + uptoBulkAll spare + 1
  | .agg parts => uptoBulkAll parts + 1
  | .iface _ d => uptoBulk d + 1
  | .map entries => uptoBulkEntries entries + 1
  | .held _ => 1
def uptoBulkAll {H : Type} : List (DataW H) → Nat
  | [] => 0
  | d :: r => uptoBulk d + uptoBulkAll r
def uptoBulkEntries {H : Type} : List (Lit × DataW H) → Nat
  | [] => 0
  | x :: r => uptoBulkEntry x + uptoBulkEntries r
def uptoBulkEntry {H : Type} : Lit × DataW H → Nat
  | (.string bytes, d) => bytes.length + uptoBulk d + 1
  | (_, d) => uptoBulk d + 1
 end
def uptoSmall : (H : Type) → List (DataW H) → Bool := fun _ ds => decide (uptoBulkAll ds ≤ 1048576)
def OpenSpec.upto (s : _root_.Go.ChangeSpec) : _root_.Go.OpenSpec := { _root_.Go.OpenSpec.ofChange s with cond := some uptoSmall }

/-- 'laws.FnSeqNone', WHERE WHAT IT READS IS OF BULK AT MOST 1048576: true; the input reads as it did. -/
def fnSeqNoneUptoRow : OpenClaim := { program := "ythkeboifjlnjjaa", sum := "c8df6244b6fda2a0aa8f14253b6a337307948a6642125d83e4d766a71259979a", func := "loop.example/townland/laws.FnSeqNone", spec := "fnSeqNone", apart := false, narrowed := true }
def FnSeqNoneUptoSaid : Prop := fnSeqNoneUptoRow.holds Try.pinned (OpenSpec.upto fnSeqNoneSpec)

/-- 'laws.FnExactDiffOk', WHERE WHAT IT READS IS OF BULK AT MOST 1048576: true; the input reads as it did. -/
def fnExactDiffOkUptoRow : OpenClaim := { program := "ythkeboifjlnjjaa", sum := "c8df6244b6fda2a0aa8f14253b6a337307948a6642125d83e4d766a71259979a", func := "loop.example/townland/laws.FnExactDiffOk", spec := "fnExactDiffOk", apart := false, narrowed := true }
def FnExactDiffOkUptoSaid : Prop := fnExactDiffOkUptoRow.holds Try.pinned (OpenSpec.upto fnExactDiffOkSpec)

/-- 'laws.FnExactRepoSame', WHERE WHAT IT READS IS OF BULK AT MOST 1048576: true; the input reads as it did. -/
def fnExactRepoSameUptoRow : OpenClaim := { program := "ythkeboifjlnjjaa", sum := "c8df6244b6fda2a0aa8f14253b6a337307948a6642125d83e4d766a71259979a", func := "loop.example/townland/laws.FnExactRepoSame", spec := "fnExactRepoSame", unfollowed := true, recurses := true, apart := false, narrowed := true }
def FnExactRepoSameUptoSaid : Prop := fnExactRepoSameUptoRow.holds Try.pinned (OpenSpec.upto fnExactRepoSameSpec)

/-- 'laws.FnExactRepoOk', WHERE WHAT IT READS IS OF BULK AT MOST 1048576: true; the input reads as it did. -/
def fnExactRepoOkUptoRow : OpenClaim := { program := "ythkeboifjlnjjaa", sum := "c8df6244b6fda2a0aa8f14253b6a337307948a6642125d83e4d766a71259979a", func := "loop.example/townland/laws.FnExactRepoOk", spec := "fnExactRepoOk", unfollowed := true, recurses := true, apart := false, narrowed := true }
def FnExactRepoOkUptoSaid : Prop := fnExactRepoOkUptoRow.holds Try.pinned (OpenSpec.upto fnExactRepoOkSpec)

/-- 'laws.FnExactRepoAt', WHERE WHAT IT READS IS OF BULK AT MOST 1048576: true; the input reads as it did. -/
def fnExactRepoAtUptoRow : OpenClaim := { program := "ythkeboifjlnjjaa", sum := "c8df6244b6fda2a0aa8f14253b6a337307948a6642125d83e4d766a71259979a", func := "loop.example/townland/laws.FnExactRepoAt", spec := "fnExactRepoAt", unfollowed := true, recurses := true, apart := false, narrowed := true }
def FnExactRepoAtUptoSaid : Prop := fnExactRepoAtUptoRow.holds Try.pinned (OpenSpec.upto fnExactRepoAtSpec)

/-- 'laws.FnExactRepoAhead', WHERE WHAT IT READS IS OF BULK AT MOST 1048576: true; the input reads as it did. -/
def fnExactRepoAheadUptoRow : OpenClaim := { program := "ythkeboifjlnjjaa", sum := "c8df6244b6fda2a0aa8f14253b6a337307948a6642125d83e4d766a71259979a", func := "loop.example/townland/laws.FnExactRepoAhead", spec := "fnExactRepoAhead", unfollowed := true, recurses := true, apart := false, narrowed := true }
def FnExactRepoAheadUptoSaid : Prop := fnExactRepoAheadUptoRow.holds Try.pinned (OpenSpec.upto fnExactRepoAheadSpec)

end Rows
end Go.Proofs.Ythkeboifjlnjjaa
