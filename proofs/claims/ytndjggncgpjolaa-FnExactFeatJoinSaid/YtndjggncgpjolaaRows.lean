/-
  No cell of these rows narrows 'for every input' (looked for: loops, veiled, ifaces, maps, wideKeys, modest, calm, conditions, laid).
  DERIVED. THE GIVEN ROWS OF THIS SEAT. 6 by the template 'for every input the law returns true; each argument reads behind the call as it read before'; 0 by the template 'total and deterministic' (their statements: YtndjggncgpjolaaTotals.lean).
  GIVEN WITH THE SEED: the statements are not yours to turn. If you find one false, say at which input.
  Laid BY PROGRAM, IN A SANDBOX (cutbox-rows.mjs): the forced cells as the released guide's own fill.sh prints them over the translation 348e0c2805df089e… (all of the seat's roots in one cut). By AI agents, Wed Nov 11 2026. No macro, syntax, notation, axiom, sorry.
-/
import Derived.Test.YtndjggncgpjolaaChecked
import GoSem.Claim
import GoSem.ClaimJoined
import GoSem.ClaimMapViews
import Derived.JoinedTies
import Derived.KernelRfl
namespace Go.Proofs.Ytndjggncgpjolaa
/- THE CELL 'sum', in the pinned program and in every row, IS THE sha256 OF THE DUMP (.gsa) THAT YtndjggncgpjolaaProg.lean LOADS. Nothing in Lean hashes anything: it is a label: what it is worth is what the hold of that sum in a sandbox is worth. -/
noncomputable def Try.pinned : Pinned := { name := "ytndjggncgpjolaa", sum := "348e0c2805df089e2f168ceacca46c7eb22eb7f1f63c513d1b94d77594a1d6a8", checked := Try.checked }
namespace Rows
def none {H : Type} : Left H := { results := [], args := [] }

/-- 'laws.FnSeqCut': WHATEVER THE INPUT: true; the input reads as it did. -/
def fnSeqCutSpec : ChangeSpec := { name := "fnSeqCut", fn := fun _ => fun
  | [d] => { results := [.lit (.bool true)], args := [d] }
  | _ => none }
def fnSeqCutRow : OpenClaim := { program := "ytndjggncgpjolaa", sum := "348e0c2805df089e2f168ceacca46c7eb22eb7f1f63c513d1b94d77594a1d6a8", func := "loop.example/townland/laws.FnSeqCut", spec := "fnSeqCut", apart := false }
def FnSeqCutSaid : Prop := fnSeqCutRow.holds Try.pinned (OpenSpec.ofChange fnSeqCutSpec)

/-- ITS FALSE NEIGHBOUR: 'it returns false'. Refute it at one input. -/
def fnSeqCutWrong : ChangeSpec := { name := "fnSeqCut", fn := fun _ => fun
  | [d] => { results := [.lit (.bool false)], args := [d] }
  | _ => none }
def FnSeqCutWrongFalsely : Prop := fnSeqCutRow.holds Try.pinned (OpenSpec.ofChange fnSeqCutWrong)

/-- 'laws.FnExactRepoNew': WHATEVER THE INPUT: true; the input reads as it did. -/
def fnExactRepoNewSpec : ChangeSpec := { name := "fnExactRepoNew", fn := fun _ => fun
  | [d] => { results := [.lit (.bool true)], args := [d] }
  | _ => none }
def fnExactRepoNewRow : OpenClaim := { program := "ytndjggncgpjolaa", sum := "348e0c2805df089e2f168ceacca46c7eb22eb7f1f63c513d1b94d77594a1d6a8", func := "loop.example/townland/laws.FnExactRepoNew", spec := "fnExactRepoNew", apart := false }
def FnExactRepoNewSaid : Prop := fnExactRepoNewRow.holds Try.pinned (OpenSpec.ofChange fnExactRepoNewSpec)

/-- ITS FALSE NEIGHBOUR: 'it returns false'. Refute it at one input. -/
def fnExactRepoNewWrong : ChangeSpec := { name := "fnExactRepoNew", fn := fun _ => fun
  | [d] => { results := [.lit (.bool false)], args := [d] }
  | _ => none }
def FnExactRepoNewWrongFalsely : Prop := fnExactRepoNewRow.holds Try.pinned (OpenSpec.ofChange fnExactRepoNewWrong)

/-- 'laws.FnExactDiffBack': WHATEVER THE INPUT: true; the input reads as it did. -/
def fnExactDiffBackSpec : ChangeSpec := { name := "fnExactDiffBack", fn := fun _ => fun
  | [d] => { results := [.lit (.bool true)], args := [d] }
  | _ => none }
def fnExactDiffBackRow : OpenClaim := { program := "ytndjggncgpjolaa", sum := "348e0c2805df089e2f168ceacca46c7eb22eb7f1f63c513d1b94d77594a1d6a8", func := "loop.example/townland/laws.FnExactDiffBack", spec := "fnExactDiffBack", apart := false }
def FnExactDiffBackSaid : Prop := fnExactDiffBackRow.holds Try.pinned (OpenSpec.ofChange fnExactDiffBackSpec)

/-- ITS FALSE NEIGHBOUR: 'it returns false'. Refute it at one input. -/
def fnExactDiffBackWrong : ChangeSpec := { name := "fnExactDiffBack", fn := fun _ => fun
  | [d] => { results := [.lit (.bool false)], args := [d] }
  | _ => none }
def FnExactDiffBackWrongFalsely : Prop := fnExactDiffBackRow.holds Try.pinned (OpenSpec.ofChange fnExactDiffBackWrong)

/-- 'laws.FnExactDiffOf': WHATEVER THE INPUT: true; the input reads as it did. -/
def fnExactDiffOfSpec : ChangeSpec := { name := "fnExactDiffOf", fn := fun _ => fun
  | [d1, d2] => { results := [.lit (.bool true)], args := [d1, d2] }
  | _ => none }
def fnExactDiffOfRow : OpenClaim := { program := "ytndjggncgpjolaa", sum := "348e0c2805df089e2f168ceacca46c7eb22eb7f1f63c513d1b94d77594a1d6a8", func := "loop.example/townland/laws.FnExactDiffOf", spec := "fnExactDiffOf", unfollowed := true, recurses := true, apart := false }
def FnExactDiffOfSaid : Prop := fnExactDiffOfRow.holds Try.pinned (OpenSpec.ofChange fnExactDiffOfSpec)

/-- ITS FALSE NEIGHBOUR: 'it returns false'. Refute it at one input. -/
def fnExactDiffOfWrong : ChangeSpec := { name := "fnExactDiffOf", fn := fun _ => fun
  | [d1, d2] => { results := [.lit (.bool false)], args := [d1, d2] }
  | _ => none }
def FnExactDiffOfWrongFalsely : Prop := fnExactDiffOfRow.holds Try.pinned (OpenSpec.ofChange fnExactDiffOfWrong)

/-- 'laws.FnExactDiffThen': WHATEVER THE INPUT: true; the input reads as it did. -/
def fnExactDiffThenSpec : ChangeSpec := { name := "fnExactDiffThen", fn := fun _ => fun
  | [d1, d2] => { results := [.lit (.bool true)], args := [d1, d2] }
  | _ => none }
def fnExactDiffThenRow : OpenClaim := { program := "ytndjggncgpjolaa", sum := "348e0c2805df089e2f168ceacca46c7eb22eb7f1f63c513d1b94d77594a1d6a8", func := "loop.example/townland/laws.FnExactDiffThen", spec := "fnExactDiffThen", unfollowed := true, recurses := true, apart := false }
def FnExactDiffThenSaid : Prop := fnExactDiffThenRow.holds Try.pinned (OpenSpec.ofChange fnExactDiffThenSpec)

/-- ITS FALSE NEIGHBOUR: 'it returns false'. Refute it at one input. -/
def fnExactDiffThenWrong : ChangeSpec := { name := "fnExactDiffThen", fn := fun _ => fun
  | [d1, d2] => { results := [.lit (.bool false)], args := [d1, d2] }
  | _ => none }
def FnExactDiffThenWrongFalsely : Prop := fnExactDiffThenRow.holds Try.pinned (OpenSpec.ofChange fnExactDiffThenWrong)

/-- 'laws.FnExactFeatJoin': WHATEVER THE INPUT: true; the input reads as it did. -/
def fnExactFeatJoinSpec : ChangeSpec := { name := "fnExactFeatJoin", fn := fun _ => fun
  | [d1, d2, d3] => { results := [.lit (.bool true)], args := [d1, d2, d3] }
  | _ => none }
def fnExactFeatJoinRow : OpenClaim := { program := "ytndjggncgpjolaa", sum := "348e0c2805df089e2f168ceacca46c7eb22eb7f1f63c513d1b94d77594a1d6a8", func := "loop.example/townland/laws.FnExactFeatJoin", spec := "fnExactFeatJoin", unfollowed := true, recurses := true, apart := false }
def FnExactFeatJoinSaid : Prop := fnExactFeatJoinRow.holds Try.pinned (OpenSpec.ofChange fnExactFeatJoinSpec)

/-- ITS FALSE NEIGHBOUR: 'it returns false'. Refute it at one input. -/
def fnExactFeatJoinWrong : ChangeSpec := { name := "fnExactFeatJoin", fn := fun _ => fun
  | [d1, d2, d3] => { results := [.lit (.bool false)], args := [d1, d2, d3] }
  | _ => none }
def FnExactFeatJoinWrongFalsely : Prop := fnExactFeatJoinRow.holds Try.pinned (OpenSpec.ofChange fnExactFeatJoinWrong)

/- THE SECOND FORM. 'bulk': how many values and letters a reading holds, each counted each time it is reached (what is shared counts as often as it is met; a slice's spare places count too). A statement '..UptoSaid' is the law's where the arguments, and the package variables that the reading takes, are together of bulk at most 1048576: NARROWER than '..Said'. Prove '..Said' where nothing that the law and all that it calls make is longer than what came in: it says more and counts as full. Else prove '..UptoSaid'. A law counts once. -/
mutual
def uptoBulk {H : Type} : DataW H → Nat
  | .lit (.string bytes) => bytes.length + 1
  | .lit _ => 1
  | .nil => 1
  | .ptr d => uptoBulk d + 1
  | .slice elems spare => uptoBulkAll elems + uptoBulkAll spare + 1
  | .agg parts => uptoBulkAll parts + 1
  | .iface _ d => uptoBulk d + 1
  | .map entries => uptoBulkEntries entries + 1
  | .held _ => 1
def uptoBulkAll {H : Type} : List (DataW H) → Nat
  | [] => 0
  | d :: r => uptoBulk d + uptoBulkAll r
def uptoBulkEntries {H : Type} : List (Lit × DataW H) → Nat
  | [] => 0
  | x :: r => uptoBulkEntry x + uptoBulkEntries r
def uptoBulkEntry {H : Type} : Lit × DataW H → Nat
  | (.string bytes, d) => bytes.length + uptoBulk d + 1
  | (_, d) => uptoBulk d + 1
 end
def uptoSmall : (H : Type) → List (DataW H) → Bool := fun _ ds => decide (uptoBulkAll ds ≤ 1048576)
def OpenSpec.upto (s : _root_.Go.ChangeSpec) : _root_.Go.OpenSpec := { _root_.Go.OpenSpec.ofChange s with cond := some uptoSmall }

/-- 'laws.FnSeqCut', WHERE WHAT IT READS IS OF BULK AT MOST 1048576: true; the input reads as it did. -/
def fnSeqCutUptoRow : OpenClaim := { program := "ytndjggncgpjolaa", sum := "348e0c2805df089e2f168ceacca46c7eb22eb7f1f63c513d1b94d77594a1d6a8", func := "loop.example/townland/laws.FnSeqCut", spec := "fnSeqCut", apart := false, narrowed := true }
def FnSeqCutUptoSaid : Prop := fnSeqCutUptoRow.holds Try.pinned (OpenSpec.upto fnSeqCutSpec)

/-- 'laws.FnExactRepoNew', WHERE WHAT IT READS IS OF BULK AT MOST 1048576: true; the input reads as it did. -/
def fnExactRepoNewUptoRow : OpenClaim := { program := "ytndjggncgpjolaa", sum := "348e0c2805df089e2f168ceacca46c7eb22eb7f1f63c513d1b94d77594a1d6a8", func := "loop.example/townland/laws.FnExactRepoNew", spec := "fnExactRepoNew", apart := false, narrowed := true }
def FnExactRepoNewUptoSaid : Prop := fnExactRepoNewUptoRow.holds Try.pinned (OpenSpec.upto fnExactRepoNewSpec)

/-- 'laws.FnExactDiffBack', WHERE WHAT IT READS IS OF BULK AT MOST 1048576: true; the input reads as it did. -/
def fnExactDiffBackUptoRow : OpenClaim := { program := "ytndjggncgpjolaa", sum := "348e0c2805df089e2f168ceacca46c7eb22eb7f1f63c513d1b94d77594a1d6a8", func := "loop.example/townland/laws.FnExactDiffBack", spec := "fnExactDiffBack", apart := false, narrowed := true }
def FnExactDiffBackUptoSaid : Prop := fnExactDiffBackUptoRow.holds Try.pinned (OpenSpec.upto fnExactDiffBackSpec)

/-- 'laws.FnExactDiffOf', WHERE WHAT IT READS IS OF BULK AT MOST 1048576: true; the input reads as it did. -/
def fnExactDiffOfUptoRow : OpenClaim := { program := "ytndjggncgpjolaa", sum := "348e0c2805df089e2f168ceacca46c7eb22eb7f1f63c513d1b94d77594a1d6a8", func := "loop.example/townland/laws.FnExactDiffOf", spec := "fnExactDiffOf", unfollowed := true, recurses := true, apart := false, narrowed := true }
def FnExactDiffOfUptoSaid : Prop := fnExactDiffOfUptoRow.holds Try.pinned (OpenSpec.upto fnExactDiffOfSpec)

/-- 'laws.FnExactDiffThen', WHERE WHAT IT READS IS OF BULK AT MOST 1048576: true; the input reads as it did. -/
def fnExactDiffThenUptoRow : OpenClaim := { program := "ytndjggncgpjolaa", sum := "348e0c2805df089e2f168ceacca46c7eb22eb7f1f63c513d1b94d77594a1d6a8", func := "loop.example/townland/laws.FnExactDiffThen", spec := "fnExactDiffThen", unfollowed := true, recurses := true, apart := false, narrowed := true }
def FnExactDiffThenUptoSaid : Prop := fnExactDiffThenUptoRow.holds Try.pinned (OpenSpec.upto fnExactDiffThenSpec)

/-- 'laws.FnExactFeatJoin', WHERE WHAT IT READS IS OF BULK AT MOST 1048576: true; the input reads as it did. -/
def fnExactFeatJoinUptoRow : OpenClaim := { program := "ytndjggncgpjolaa", sum := "348e0c2805df089e2f168ceacca46c7eb22eb7f1f63c513d1b94d77594a1d6a8", func := "loop.example/townland/laws.FnExactFeatJoin", spec := "fnExactFeatJoin", unfollowed := true, recurses := true, apart := false, narrowed := true }
def FnExactFeatJoinUptoSaid : Prop := fnExactFeatJoinUptoRow.holds Try.pinned (OpenSpec.upto fnExactFeatJoinSpec)

end Rows
end Go.Proofs.Ytndjggncgpjolaa
