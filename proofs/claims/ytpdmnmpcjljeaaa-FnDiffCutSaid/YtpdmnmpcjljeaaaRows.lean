/-
  No cell of these rows narrows 'for every input' (looked for: loops, veiled, ifaces, maps, wideKeys, modest, calm, conditions, laid).
  DERIVED. THE GIVEN ROWS OF THIS SEAT. 3 by the template 'for every input the law returns true; each argument reads behind the call as it read before'; 0 by the template 'total and deterministic' (their statements: YtpdmnmpcjljeaaaTotals.lean).
  GIVEN WITH THE SEED: the statements are not yours to turn. If you find one false, say at which input.
  Laid BY PROGRAM, IN A SANDBOX (cutbox-rows.mjs): the forced cells as the released guide's own fill.sh prints them over the translation 06910e1d67bc7a40… (all of the seat's roots in one cut). By AI agents, Wed Nov 11 2026. No macro, syntax, notation, axiom, sorry.
-/
import Derived.Test.YtpdmnmpcjljeaaaChecked
import GoSem.Claim
import GoSem.ClaimJoined
import GoSem.ClaimMapViews
import Derived.JoinedTies
import Derived.KernelRfl
namespace Go.Proofs.Ytpdmnmpcjljeaaa
/- THE CELL 'sum', in the pinned program and in every row, IS THE sha256 OF THE DUMP (.gsa) THAT YtpdmnmpcjljeaaaProg.lean LOADS. Nothing in Lean hashes anything: it is a label: what it is worth is what the hold of that sum in a sandbox is worth. -/
noncomputable def Try.pinned : Pinned := { name := "ytpdmnmpcjljeaaa", sum := "06910e1d67bc7a4062258fe8909195ab7ba7fe5f9f2b20c2decc53539c45b89e", checked := Try.checked }
namespace Rows
def none {H : Type} : Left H := { results := [], args := [] }

/-- 'laws.FnFeatJoin': WHATEVER THE INPUT: true; the input reads as it did. -/
def fnFeatJoinSpec : ChangeSpec := { name := "fnFeatJoin", fn := fun _ => fun
  | [d] => { results := [.lit (.bool true)], args := [d] }
  | _ => none }
def fnFeatJoinRow : OpenClaim := { program := "ytpdmnmpcjljeaaa", sum := "06910e1d67bc7a4062258fe8909195ab7ba7fe5f9f2b20c2decc53539c45b89e", func := "loop.example/townland/laws.FnFeatJoin", spec := "fnFeatJoin", unfollowed := true, recurses := true, apart := false }
def FnFeatJoinSaid : Prop := fnFeatJoinRow.holds Try.pinned (OpenSpec.ofChange fnFeatJoinSpec)

/-- ITS FALSE NEIGHBOUR: 'it returns false'. Refute it at one input. -/
def fnFeatJoinWrong : ChangeSpec := { name := "fnFeatJoin", fn := fun _ => fun
  | [d] => { results := [.lit (.bool false)], args := [d] }
  | _ => none }
def FnFeatJoinWrongFalsely : Prop := fnFeatJoinRow.holds Try.pinned (OpenSpec.ofChange fnFeatJoinWrong)

/-- 'laws.FnFeatMove': WHATEVER THE INPUT: true; the input reads as it did. -/
def fnFeatMoveSpec : ChangeSpec := { name := "fnFeatMove", fn := fun _ => fun
  | [d] => { results := [.lit (.bool true)], args := [d] }
  | _ => none }
def fnFeatMoveRow : OpenClaim := { program := "ytpdmnmpcjljeaaa", sum := "06910e1d67bc7a4062258fe8909195ab7ba7fe5f9f2b20c2decc53539c45b89e", func := "loop.example/townland/laws.FnFeatMove", spec := "fnFeatMove", unfollowed := true, recurses := true, apart := false }
def FnFeatMoveSaid : Prop := fnFeatMoveRow.holds Try.pinned (OpenSpec.ofChange fnFeatMoveSpec)

/-- ITS FALSE NEIGHBOUR: 'it returns false'. Refute it at one input. -/
def fnFeatMoveWrong : ChangeSpec := { name := "fnFeatMove", fn := fun _ => fun
  | [d] => { results := [.lit (.bool false)], args := [d] }
  | _ => none }
def FnFeatMoveWrongFalsely : Prop := fnFeatMoveRow.holds Try.pinned (OpenSpec.ofChange fnFeatMoveWrong)

/-- 'laws.FnDiffCut': WHATEVER THE INPUT: true; the input reads as it did. -/
def fnDiffCutSpec : ChangeSpec := { name := "fnDiffCut", fn := fun _ => fun
  | [d1, d2] => { results := [.lit (.bool true)], args := [d1, d2] }
  | _ => none }
def fnDiffCutRow : OpenClaim := { program := "ytpdmnmpcjljeaaa", sum := "06910e1d67bc7a4062258fe8909195ab7ba7fe5f9f2b20c2decc53539c45b89e", func := "loop.example/townland/laws.FnDiffCut", spec := "fnDiffCut", unfollowed := true, recurses := true, apart := false }
def FnDiffCutSaid : Prop := fnDiffCutRow.holds Try.pinned (OpenSpec.ofChange fnDiffCutSpec)

/-- ITS FALSE NEIGHBOUR: 'it returns false'. Refute it at one input. -/
def fnDiffCutWrong : ChangeSpec := { name := "fnDiffCut", fn := fun _ => fun
  | [d1, d2] => { results := [.lit (.bool false)], args := [d1, d2] }
  | _ => none }
def FnDiffCutWrongFalsely : Prop := fnDiffCutRow.holds Try.pinned (OpenSpec.ofChange fnDiffCutWrong)

/- THE SECOND FORM. 'bulk': how many values and letters a reading holds, each counted each time it is reached (what is shared counts as often as it is met; a slice's spare places count too). A statement '..UptoSaid' is the law's where the arguments, and the package variables that the reading takes, are together of bulk at most 1048576: NARROWER than '..Said'. Prove '..Said' where nothing that the law and all that it calls make is longer than what came in: it says more and counts as full. Else prove '..UptoSaid'. A law counts once. -/
mutual
def uptoBulk {H : Type} : DataW H → Nat
  | .lit (.string bytes) => bytes.length + 1
  | .lit _ => 1
  | .nil => 1
  | .ptr d => uptoBulk d + 1
  | .slice elems spare => uptoBulkAll elems + uptoBulkAll spare + 1
  | .agg parts => uptoBulkAll parts + 1
  | .iface _ d => uptoBulk d + 1
  | .map entries => uptoBulkEntries entries + 1
  | .held _ => 1
def uptoBulkAll {H : Type} : List (DataW H) → Nat
  | [] => 0
  | d :: r => uptoBulk d + uptoBulkAll r
def uptoBulkEntries {H : Type} : List (Lit × DataW H) → Nat
  | [] => 0
  | x :: r => uptoBulkEntry x + uptoBulkEntries r
def uptoBulkEntry {H : Type} : Lit × DataW H → Nat
  | (.string bytes, d) => bytes.length + uptoBulk d + 1
  | (_, d) => uptoBulk d + 1
 end
def uptoSmall : (H : Type) → List (DataW H) → Bool := fun _ ds => decide (uptoBulkAll ds ≤ 1048576)
def OpenSpec.upto (s : _root_.Go.ChangeSpec) : _root_.Go.OpenSpec := { _root_.Go.OpenSpec.ofChange s with cond := some uptoSmall }

/-- 'laws.FnFeatJoin', WHERE WHAT IT READS IS OF BULK AT MOST 1048576: true; the input reads as it did. -/
def fnFeatJoinUptoRow : OpenClaim := { program := "ytpdmnmpcjljeaaa", sum := "06910e1d67bc7a4062258fe8909195ab7ba7fe5f9f2b20c2decc53539c45b89e", func := "loop.example/townland/laws.FnFeatJoin", spec := "fnFeatJoin", unfollowed := true, recurses := true, apart := false, narrowed := true }
def FnFeatJoinUptoSaid : Prop := fnFeatJoinUptoRow.holds Try.pinned (OpenSpec.upto fnFeatJoinSpec)

/-- 'laws.FnFeatMove', WHERE WHAT IT READS IS OF BULK AT MOST 1048576: true; the input reads as it did. -/
def fnFeatMoveUptoRow : OpenClaim := { program := "ytpdmnmpcjljeaaa", sum := "06910e1d67bc7a4062258fe8909195ab7ba7fe5f9f2b20c2decc53539c45b89e", func := "loop.example/townland/laws.FnFeatMove", spec := "fnFeatMove", unfollowed := true, recurses := true, apart := false, narrowed := true }
def FnFeatMoveUptoSaid : Prop := fnFeatMoveUptoRow.holds Try.pinned (OpenSpec.upto fnFeatMoveSpec)

/-- 'laws.FnDiffCut', WHERE WHAT IT READS IS OF BULK AT MOST 1048576: true; the input reads as it did. -/
def fnDiffCutUptoRow : OpenClaim := { program := "ytpdmnmpcjljeaaa", sum := "06910e1d67bc7a4062258fe8909195ab7ba7fe5f9f2b20c2decc53539c45b89e", func := "loop.example/townland/laws.FnDiffCut", spec := "fnDiffCut", unfollowed := true, recurses := true, apart := false, narrowed := true }
def FnDiffCutUptoSaid : Prop := fnDiffCutUptoRow.holds Try.pinned (OpenSpec.upto fnDiffCutSpec)

end Rows
end Go.Proofs.Ytpdmnmpcjljeaaa
