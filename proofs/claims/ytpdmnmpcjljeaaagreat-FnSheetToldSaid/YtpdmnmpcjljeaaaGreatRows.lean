/-
  No cell of these rows narrows 'for every input' (looked for: loops, veiled, ifaces, maps, wideKeys, modest, calm, conditions, laid).
  DERIVED. THE GIVEN ROWS OF THIS SEAT. 8 by the template 'for every input the law returns true; each argument reads behind the call as it read before'; 0 by the template 'total and deterministic' (their statements: YtpdmnmpcjljeaaaGreatTotals.lean).
  GIVEN WITH THE SEED: the statements are not yours to turn. If you find one false, say at which input.
  Laid BY PROGRAM, IN A SANDBOX (cutbox-rows.mjs): the forced cells as the released guide's own fill.sh prints them over the translation 5d27e927ec6bf661… (all of the seat's roots in one cut). By AI agents, Wed Nov 11 2026. No macro, syntax, notation, axiom, sorry.
-/
import Derived.Test.YtpdmnmpcjljeaaaGreatChecked
import GoSem.Claim
import GoSem.ClaimJoined
import GoSem.ClaimMapViews
import Derived.JoinedTies
import Derived.KernelRfl
namespace Go.Proofs.YtpdmnmpcjljeaaaGreat
/- THE CELL 'sum', in the pinned program and in every row, IS THE sha256 OF THE DUMP (.gsa) THAT YtpdmnmpcjljeaaaGreatProg.lean LOADS. Nothing in Lean hashes anything: it is a label: what it is worth is what the hold of that sum in a sandbox is worth. -/
noncomputable def Tryz.pinned : Pinned := { name := "ytpdmnmpcjljeaaagreat", sum := "5d27e927ec6bf66145e443a4c153204531b9dd5d305107c0674582b93053477d", checked := Tryz.checked }
namespace Rows
def none {H : Type} : Left H := { results := [], args := [] }

/-- 'laws.FnFeatTags': WHATEVER THE INPUT: true; the input reads as it did. -/
def fnFeatTagsSpec : ChangeSpec := { name := "fnFeatTags", fn := fun _ => fun
  | [d] => { results := [.lit (.bool true)], args := [d] }
  | _ => none }
def fnFeatTagsRow : OpenClaim := { program := "ytpdmnmpcjljeaaagreat", sum := "5d27e927ec6bf66145e443a4c153204531b9dd5d305107c0674582b93053477d", func := "loop.example/townland/laws.FnFeatTags", spec := "fnFeatTags", unfollowed := true, recurses := true, apart := false }
def FnFeatTagsSaid : Prop := fnFeatTagsRow.holds Tryz.pinned (OpenSpec.ofChange fnFeatTagsSpec)

/-- ITS FALSE NEIGHBOUR: 'it returns false'. Refute it at one input. -/
def fnFeatTagsWrong : ChangeSpec := { name := "fnFeatTags", fn := fun _ => fun
  | [d] => { results := [.lit (.bool false)], args := [d] }
  | _ => none }
def FnFeatTagsWrongFalsely : Prop := fnFeatTagsRow.holds Tryz.pinned (OpenSpec.ofChange fnFeatTagsWrong)

/-- 'laws.FnSheetUnion': WHATEVER THE INPUT: true; the input reads as it did. -/
def fnSheetUnionSpec : ChangeSpec := { name := "fnSheetUnion", fn := fun _ => fun
  | [d1, d2] => { results := [.lit (.bool true)], args := [d1, d2] }
  | _ => none }
def fnSheetUnionRow : OpenClaim := { program := "ytpdmnmpcjljeaaagreat", sum := "5d27e927ec6bf66145e443a4c153204531b9dd5d305107c0674582b93053477d", func := "loop.example/townland/laws.FnSheetUnion", spec := "fnSheetUnion", unfollowed := true, recurses := true, apart := false }
def FnSheetUnionSaid : Prop := fnSheetUnionRow.holds Tryz.pinned (OpenSpec.ofChange fnSheetUnionSpec)

/-- ITS FALSE NEIGHBOUR: 'it returns false'. Refute it at one input. -/
def fnSheetUnionWrong : ChangeSpec := { name := "fnSheetUnion", fn := fun _ => fun
  | [d1, d2] => { results := [.lit (.bool false)], args := [d1, d2] }
  | _ => none }
def FnSheetUnionWrongFalsely : Prop := fnSheetUnionRow.holds Tryz.pinned (OpenSpec.ofChange fnSheetUnionWrong)

/-- 'laws.FnSheetWho': WHATEVER THE INPUT: true; the input reads as it did. -/
def fnSheetWhoSpec : ChangeSpec := { name := "fnSheetWho", fn := fun _ => fun
  | [d] => { results := [.lit (.bool true)], args := [d] }
  | _ => none }
def fnSheetWhoRow : OpenClaim := { program := "ytpdmnmpcjljeaaagreat", sum := "5d27e927ec6bf66145e443a4c153204531b9dd5d305107c0674582b93053477d", func := "loop.example/townland/laws.FnSheetWho", spec := "fnSheetWho", unfollowed := true, recurses := true, apart := false }
def FnSheetWhoSaid : Prop := fnSheetWhoRow.holds Tryz.pinned (OpenSpec.ofChange fnSheetWhoSpec)

/-- ITS FALSE NEIGHBOUR: 'it returns false'. Refute it at one input. -/
def fnSheetWhoWrong : ChangeSpec := { name := "fnSheetWho", fn := fun _ => fun
  | [d] => { results := [.lit (.bool false)], args := [d] }
  | _ => none }
def FnSheetWhoWrongFalsely : Prop := fnSheetWhoRow.holds Tryz.pinned (OpenSpec.ofChange fnSheetWhoWrong)

/-- 'laws.FnSheetJoin': WHATEVER THE INPUT: true; the input reads as it did. -/
def fnSheetJoinSpec : ChangeSpec := { name := "fnSheetJoin", fn := fun _ => fun
  | [d] => { results := [.lit (.bool true)], args := [d] }
  | _ => none }
def fnSheetJoinRow : OpenClaim := { program := "ytpdmnmpcjljeaaagreat", sum := "5d27e927ec6bf66145e443a4c153204531b9dd5d305107c0674582b93053477d", func := "loop.example/townland/laws.FnSheetJoin", spec := "fnSheetJoin", unfollowed := true, recurses := true, apart := false }
def FnSheetJoinSaid : Prop := fnSheetJoinRow.holds Tryz.pinned (OpenSpec.ofChange fnSheetJoinSpec)

/-- ITS FALSE NEIGHBOUR: 'it returns false'. Refute it at one input. -/
def fnSheetJoinWrong : ChangeSpec := { name := "fnSheetJoin", fn := fun _ => fun
  | [d] => { results := [.lit (.bool false)], args := [d] }
  | _ => none }
def FnSheetJoinWrongFalsely : Prop := fnSheetJoinRow.holds Tryz.pinned (OpenSpec.ofChange fnSheetJoinWrong)

/-- 'laws.FnSheetTold': WHATEVER THE INPUT: true; the input reads as it did. -/
def fnSheetToldSpec : ChangeSpec := { name := "fnSheetTold", fn := fun _ => fun
  | [d] => { results := [.lit (.bool true)], args := [d] }
  | _ => none }
def fnSheetToldRow : OpenClaim := { program := "ytpdmnmpcjljeaaagreat", sum := "5d27e927ec6bf66145e443a4c153204531b9dd5d305107c0674582b93053477d", func := "loop.example/townland/laws.FnSheetTold", spec := "fnSheetTold", unfollowed := true, recurses := true, apart := false }
def FnSheetToldSaid : Prop := fnSheetToldRow.holds Tryz.pinned (OpenSpec.ofChange fnSheetToldSpec)

/-- ITS FALSE NEIGHBOUR: 'it returns false'. Refute it at one input. -/
def fnSheetToldWrong : ChangeSpec := { name := "fnSheetTold", fn := fun _ => fun
  | [d] => { results := [.lit (.bool false)], args := [d] }
  | _ => none }
def FnSheetToldWrongFalsely : Prop := fnSheetToldRow.holds Tryz.pinned (OpenSpec.ofChange fnSheetToldWrong)

/-- 'laws.FnSheetClash': WHATEVER THE INPUT: true; the input reads as it did. -/
def fnSheetClashSpec : ChangeSpec := { name := "fnSheetClash", fn := fun _ => fun
  | [d] => { results := [.lit (.bool true)], args := [d] }
  | _ => none }
def fnSheetClashRow : OpenClaim := { program := "ytpdmnmpcjljeaaagreat", sum := "5d27e927ec6bf66145e443a4c153204531b9dd5d305107c0674582b93053477d", func := "loop.example/townland/laws.FnSheetClash", spec := "fnSheetClash", unfollowed := true, recurses := true, apart := false }
def FnSheetClashSaid : Prop := fnSheetClashRow.holds Tryz.pinned (OpenSpec.ofChange fnSheetClashSpec)

/-- ITS FALSE NEIGHBOUR: 'it returns false'. Refute it at one input. -/
def fnSheetClashWrong : ChangeSpec := { name := "fnSheetClash", fn := fun _ => fun
  | [d] => { results := [.lit (.bool false)], args := [d] }
  | _ => none }
def FnSheetClashWrongFalsely : Prop := fnSheetClashRow.holds Tryz.pinned (OpenSpec.ofChange fnSheetClashWrong)

/-- 'laws.FnSheetSide': WHATEVER THE INPUT: true; the input reads as it did. -/
def fnSheetSideSpec : ChangeSpec := { name := "fnSheetSide", fn := fun _ => fun
  | [d] => { results := [.lit (.bool true)], args := [d] }
  | _ => none }
def fnSheetSideRow : OpenClaim := { program := "ytpdmnmpcjljeaaagreat", sum := "5d27e927ec6bf66145e443a4c153204531b9dd5d305107c0674582b93053477d", func := "loop.example/townland/laws.FnSheetSide", spec := "fnSheetSide", unfollowed := true, recurses := true, apart := false }
def FnSheetSideSaid : Prop := fnSheetSideRow.holds Tryz.pinned (OpenSpec.ofChange fnSheetSideSpec)

/-- ITS FALSE NEIGHBOUR: 'it returns false'. Refute it at one input. -/
def fnSheetSideWrong : ChangeSpec := { name := "fnSheetSide", fn := fun _ => fun
  | [d] => { results := [.lit (.bool false)], args := [d] }
  | _ => none }
def FnSheetSideWrongFalsely : Prop := fnSheetSideRow.holds Tryz.pinned (OpenSpec.ofChange fnSheetSideWrong)

/-- 'laws.FnSheetDiff': WHATEVER THE INPUT: true; the input reads as it did. -/
def fnSheetDiffSpec : ChangeSpec := { name := "fnSheetDiff", fn := fun _ => fun
  | [d] => { results := [.lit (.bool true)], args := [d] }
  | _ => none }
def fnSheetDiffRow : OpenClaim := { program := "ytpdmnmpcjljeaaagreat", sum := "5d27e927ec6bf66145e443a4c153204531b9dd5d305107c0674582b93053477d", func := "loop.example/townland/laws.FnSheetDiff", spec := "fnSheetDiff", unfollowed := true, recurses := true, apart := false }
def FnSheetDiffSaid : Prop := fnSheetDiffRow.holds Tryz.pinned (OpenSpec.ofChange fnSheetDiffSpec)

/-- ITS FALSE NEIGHBOUR: 'it returns false'. Refute it at one input. -/
def fnSheetDiffWrong : ChangeSpec := { name := "fnSheetDiff", fn := fun _ => fun
  | [d] => { results := [.lit (.bool false)], args := [d] }
  | _ => none }
def FnSheetDiffWrongFalsely : Prop := fnSheetDiffRow.holds Tryz.pinned (OpenSpec.ofChange fnSheetDiffWrong)

/- THE SECOND FORM. 'bulk': how many values and letters a reading holds, each counted each time it is reached (what is shared counts as often as it is met; a slice's spare places count too). A statement '..UptoSaid' is the law's where the arguments, and the package variables that the reading takes, are together of bulk at most 1048576: NARROWER than '..Said'. Prove '..Said' where nothing that the law and all that it calls make is longer than what came in: it says more and counts as full. Else prove '..UptoSaid'. A law counts once. -/
mutual
def uptoBulk {H : Type} : DataW H → Nat
  | .lit (.string bytes) => bytes.length + 1
  | .lit _ => 1
  | .nil => 1
  | .ptr d => uptoBulk d + 1
  | .slice elems spare => uptoBulkAll elems + uptoBulkAll spare + 1
  | .agg parts => uptoBulkAll parts + 1
  | .iface _ d => uptoBulk d + 1
  | .map entries => uptoBulkEntries entries + 1
  | .held _ => 1
def uptoBulkAll {H : Type} : List (DataW H) → Nat
  | [] => 0
  | d :: r => uptoBulk d + uptoBulkAll r
def uptoBulkEntries {H : Type} : List (Lit × DataW H) → Nat
  | [] => 0
  | x :: r => uptoBulkEntry x + uptoBulkEntries r
def uptoBulkEntry {H : Type} : Lit × DataW H → Nat
  | (.string bytes, d) => bytes.length + uptoBulk d + 1
  | (_, d) => uptoBulk d + 1
 end
def uptoSmall : (H : Type) → List (DataW H) → Bool := fun _ ds => decide (uptoBulkAll ds ≤ 1048576)
def OpenSpec.upto (s : _root_.Go.ChangeSpec) : _root_.Go.OpenSpec := { _root_.Go.OpenSpec.ofChange s with cond := some uptoSmall }

/-- 'laws.FnFeatTags', WHERE WHAT IT READS IS OF BULK AT MOST 1048576: true; the input reads as it did. -/
def fnFeatTagsUptoRow : OpenClaim := { program := "ytpdmnmpcjljeaaagreat", sum := "5d27e927ec6bf66145e443a4c153204531b9dd5d305107c0674582b93053477d", func := "loop.example/townland/laws.FnFeatTags", spec := "fnFeatTags", unfollowed := true, recurses := true, apart := false, narrowed := true }
def FnFeatTagsUptoSaid : Prop := fnFeatTagsUptoRow.holds Tryz.pinned (OpenSpec.upto fnFeatTagsSpec)

/-- 'laws.FnSheetUnion', WHERE WHAT IT READS IS OF BULK AT MOST 1048576: true; the input reads as it did. -/
def fnSheetUnionUptoRow : OpenClaim := { program := "ytpdmnmpcjljeaaagreat", sum := "5d27e927ec6bf66145e443a4c153204531b9dd5d305107c0674582b93053477d", func := "loop.example/townland/laws.FnSheetUnion", spec := "fnSheetUnion", unfollowed := true, recurses := true, apart := false, narrowed := true }
def FnSheetUnionUptoSaid : Prop := fnSheetUnionUptoRow.holds Tryz.pinned (OpenSpec.upto fnSheetUnionSpec)

/-- 'laws.FnSheetWho', WHERE WHAT IT READS IS OF BULK AT MOST 1048576: true; the input reads as it did. -/
def fnSheetWhoUptoRow : OpenClaim := { program := "ytpdmnmpcjljeaaagreat", sum := "5d27e927ec6bf66145e443a4c153204531b9dd5d305107c0674582b93053477d", func := "loop.example/townland/laws.FnSheetWho", spec := "fnSheetWho", unfollowed := true, recurses := true, apart := false, narrowed := true }
def FnSheetWhoUptoSaid : Prop := fnSheetWhoUptoRow.holds Tryz.pinned (OpenSpec.upto fnSheetWhoSpec)

/-- 'laws.FnSheetJoin', WHERE WHAT IT READS IS OF BULK AT MOST 1048576: true; the input reads as it did. -/
def fnSheetJoinUptoRow : OpenClaim := { program := "ytpdmnmpcjljeaaagreat", sum := "5d27e927ec6bf66145e443a4c153204531b9dd5d305107c0674582b93053477d", func := "loop.example/townland/laws.FnSheetJoin", spec := "fnSheetJoin", unfollowed := true, recurses := true, apart := false, narrowed := true }
def FnSheetJoinUptoSaid : Prop := fnSheetJoinUptoRow.holds Tryz.pinned (OpenSpec.upto fnSheetJoinSpec)

/-- 'laws.FnSheetTold', WHERE WHAT IT READS IS OF BULK AT MOST 1048576: true; the input reads as it did. -/
def fnSheetToldUptoRow : OpenClaim := { program := "ytpdmnmpcjljeaaagreat", sum := "5d27e927ec6bf66145e443a4c153204531b9dd5d305107c0674582b93053477d", func := "loop.example/townland/laws.FnSheetTold", spec := "fnSheetTold", unfollowed := true, recurses := true, apart := false, narrowed := true }
def FnSheetToldUptoSaid : Prop := fnSheetToldUptoRow.holds Tryz.pinned (OpenSpec.upto fnSheetToldSpec)

/-- 'laws.FnSheetClash', WHERE WHAT IT READS IS OF BULK AT MOST 1048576: true; the input reads as it did. -/
def fnSheetClashUptoRow : OpenClaim := { program := "ytpdmnmpcjljeaaagreat", sum := "5d27e927ec6bf66145e443a4c153204531b9dd5d305107c0674582b93053477d", func := "loop.example/townland/laws.FnSheetClash", spec := "fnSheetClash", unfollowed := true, recurses := true, apart := false, narrowed := true }
def FnSheetClashUptoSaid : Prop := fnSheetClashUptoRow.holds Tryz.pinned (OpenSpec.upto fnSheetClashSpec)

/-- 'laws.FnSheetSide', WHERE WHAT IT READS IS OF BULK AT MOST 1048576: true; the input reads as it did. -/
def fnSheetSideUptoRow : OpenClaim := { program := "ytpdmnmpcjljeaaagreat", sum := "5d27e927ec6bf66145e443a4c153204531b9dd5d305107c0674582b93053477d", func := "loop.example/townland/laws.FnSheetSide", spec := "fnSheetSide", unfollowed := true, recurses := true, apart := false, narrowed := true }
def FnSheetSideUptoSaid : Prop := fnSheetSideUptoRow.holds Tryz.pinned (OpenSpec.upto fnSheetSideSpec)

/-- 'laws.FnSheetDiff', WHERE WHAT IT READS IS OF BULK AT MOST 1048576: true; the input reads as it did. -/
def fnSheetDiffUptoRow : OpenClaim := { program := "ytpdmnmpcjljeaaagreat", sum := "5d27e927ec6bf66145e443a4c153204531b9dd5d305107c0674582b93053477d", func := "loop.example/townland/laws.FnSheetDiff", spec := "fnSheetDiff", unfollowed := true, recurses := true, apart := false, narrowed := true }
def FnSheetDiffUptoSaid : Prop := fnSheetDiffUptoRow.holds Tryz.pinned (OpenSpec.upto fnSheetDiffSpec)

end Rows
end Go.Proofs.YtpdmnmpcjljeaaaGreat
