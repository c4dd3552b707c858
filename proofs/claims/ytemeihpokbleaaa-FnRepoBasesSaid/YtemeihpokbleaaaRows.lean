/-
  No cell of these rows narrows 'for every input' (looked for: loops, veiled, ifaces, maps, wideKeys, modest, calm, conditions, laid).
  DERIVED. THE GIVEN ROWS OF THIS SEAT. 4 by the template 'for every input the law returns true; each argument reads behind the call as it read before'; 0 by the template 'total and deterministic' (their statements: YtemeihpokbleaaaTotals.lean).
  GIVEN WITH THE SEED: the statements are not yours to turn. If you find one false, say at which input.
  Laid BY PROGRAM, IN A SANDBOX (cutbox-rows.mjs): the forced cells as the released guide's own fill.sh prints them over the translation e6864e553f993a90… (all of the seat's roots in one cut). By AI agents, Wed Nov 11 2026. No macro, syntax, notation, axiom, sorry.
-/
import Derived.Test.YtemeihpokbleaaaChecked
import GoSem.Claim
import GoSem.ClaimJoined
import GoSem.ClaimMapViews
import Derived.JoinedTies
import Derived.KernelRfl
namespace Go.Proofs.Ytemeihpokbleaaa
/- THE CELL 'sum', in the pinned program and in every row, IS THE sha256 OF THE DUMP (.gsa) THAT YtemeihpokbleaaaProg.lean LOADS. Nothing in Lean hashes anything: it is a label: what it is worth is what the hold of that sum in a sandbox is worth. -/
noncomputable def Try.pinned : Pinned := { name := "ytemeihpokbleaaa", sum := "e6864e553f993a90a5d31e4fde88e3ffffe4c52b0b9bef1c2565ff4f80afa648", checked := Try.checked }
namespace Rows
def none {H : Type} : Left H := { results := [], args := [] }

/-- 'laws.FnRepoSame': WHATEVER THE INPUT: true; the input reads as it did. -/
def fnRepoSameSpec : ChangeSpec := { name := "fnRepoSame", fn := fun _ => fun
  | [d] => { results := [.lit (.bool true)], args := [d] }
  | _ => none }
def fnRepoSameRow : OpenClaim := { program := "ytemeihpokbleaaa", sum := "e6864e553f993a90a5d31e4fde88e3ffffe4c52b0b9bef1c2565ff4f80afa648", func := "loop.example/townland/laws.FnRepoSame", spec := "fnRepoSame", unfollowed := true, recurses := true, apart := false }
def FnRepoSameSaid : Prop := fnRepoSameRow.holds Try.pinned (OpenSpec.ofChange fnRepoSameSpec)

/-- ITS FALSE NEIGHBOUR: 'it returns false'. Refute it at one input. -/
def fnRepoSameWrong : ChangeSpec := { name := "fnRepoSame", fn := fun _ => fun
  | [d] => { results := [.lit (.bool false)], args := [d] }
  | _ => none }
def FnRepoSameWrongFalsely : Prop := fnRepoSameRow.holds Try.pinned (OpenSpec.ofChange fnRepoSameWrong)

/-- 'laws.FnRepoAhead': WHATEVER THE INPUT: true; the input reads as it did. -/
def fnRepoAheadSpec : ChangeSpec := { name := "fnRepoAhead", fn := fun _ => fun
  | [d1, d2] => { results := [.lit (.bool true)], args := [d1, d2] }
  | _ => none }
def fnRepoAheadRow : OpenClaim := { program := "ytemeihpokbleaaa", sum := "e6864e553f993a90a5d31e4fde88e3ffffe4c52b0b9bef1c2565ff4f80afa648", func := "loop.example/townland/laws.FnRepoAhead", spec := "fnRepoAhead", unfollowed := true, recurses := true, apart := false }
def FnRepoAheadSaid : Prop := fnRepoAheadRow.holds Try.pinned (OpenSpec.ofChange fnRepoAheadSpec)

/-- ITS FALSE NEIGHBOUR: 'it returns false'. Refute it at one input. -/
def fnRepoAheadWrong : ChangeSpec := { name := "fnRepoAhead", fn := fun _ => fun
  | [d1, d2] => { results := [.lit (.bool false)], args := [d1, d2] }
  | _ => none }
def FnRepoAheadWrongFalsely : Prop := fnRepoAheadRow.holds Try.pinned (OpenSpec.ofChange fnRepoAheadWrong)

/-- 'laws.FnRepoPast': WHATEVER THE INPUT: true; the input reads as it did. -/
def fnRepoPastSpec : ChangeSpec := { name := "fnRepoPast", fn := fun _ => fun
  | [d] => { results := [.lit (.bool true)], args := [d] }
  | _ => none }
def fnRepoPastRow : OpenClaim := { program := "ytemeihpokbleaaa", sum := "e6864e553f993a90a5d31e4fde88e3ffffe4c52b0b9bef1c2565ff4f80afa648", func := "loop.example/townland/laws.FnRepoPast", spec := "fnRepoPast", unfollowed := true, recurses := true, apart := false }
def FnRepoPastSaid : Prop := fnRepoPastRow.holds Try.pinned (OpenSpec.ofChange fnRepoPastSpec)

/-- ITS FALSE NEIGHBOUR: 'it returns false'. Refute it at one input. -/
def fnRepoPastWrong : ChangeSpec := { name := "fnRepoPast", fn := fun _ => fun
  | [d] => { results := [.lit (.bool false)], args := [d] }
  | _ => none }
def FnRepoPastWrongFalsely : Prop := fnRepoPastRow.holds Try.pinned (OpenSpec.ofChange fnRepoPastWrong)

/-- 'laws.FnRepoBases': WHATEVER THE INPUT: true; the input reads as it did. -/
def fnRepoBasesSpec : ChangeSpec := { name := "fnRepoBases", fn := fun _ => fun
  | [d] => { results := [.lit (.bool true)], args := [d] }
  | _ => none }
def fnRepoBasesRow : OpenClaim := { program := "ytemeihpokbleaaa", sum := "e6864e553f993a90a5d31e4fde88e3ffffe4c52b0b9bef1c2565ff4f80afa648", func := "loop.example/townland/laws.FnRepoBases", spec := "fnRepoBases", unfollowed := true, recurses := true, apart := false }
def FnRepoBasesSaid : Prop := fnRepoBasesRow.holds Try.pinned (OpenSpec.ofChange fnRepoBasesSpec)

/-- ITS FALSE NEIGHBOUR: 'it returns false'. Refute it at one input. -/
def fnRepoBasesWrong : ChangeSpec := { name := "fnRepoBases", fn := fun _ => fun
  | [d] => { results := [.lit (.bool false)], args := [d] }
  | _ => none }
def FnRepoBasesWrongFalsely : Prop := fnRepoBasesRow.holds Try.pinned (OpenSpec.ofChange fnRepoBasesWrong)

/- THE SECOND FORM. 'bulk': how many values and letters a reading holds, each counted each time it is reached (what is shared counts as often as it is met; a slice's spare places count too). A statement '..UptoSaid' is the law's where the arguments, and the package variables that the reading takes, are together of bulk at most 1048576: NARROWER than '..Said'. Prove '..Said' where nothing that the law and all that it calls make is longer than what came in: it says more and counts as full. Else prove '..UptoSaid'. A law counts once. -/
mutual
def uptoBulk {H : Type} : DataW H → Nat
  | .lit (.string bytes) => bytes.length + 1
  | .lit _ => 1
  | .nil => 1
  | .ptr d => uptoBulk d + 1
  | .slice elems spare => uptoBulkAll elems + uptoBulkAll spare + 1
  | .agg parts => uptoBulkAll parts + 1
  | .iface _ d => uptoBulk d + 1
  | .map entries => uptoBulkEntries entries + 1
  | .held _ => 1
def uptoBulkAll {H : Type} : List (DataW H) → Nat
  | [] => 0
  | d :: r => uptoBulk d + uptoBulkAll r
def uptoBulkEntries {H : Type} : List (Lit × DataW H) → Nat
  | [] => 0
  | x :: r => uptoBulkEntry x + uptoBulkEntries r
def uptoBulkEntry {H : Type} : Lit × DataW H → Nat
  | (.string bytes, d) => bytes.length + uptoBulk d + 1
  | (_, d) => uptoBulk d + 1
 end
def uptoSmall : (H : Type) → List (DataW H) → Bool := fun _ ds => decide (uptoBulkAll ds ≤ 1048576)
def OpenSpec.upto (s : _root_.Go.ChangeSpec) : _root_.Go.OpenSpec := { _root_.Go.OpenSpec.ofChange s with cond := some uptoSmall }

/-- 'laws.FnRepoSame', WHERE WHAT IT READS IS OF BULK AT MOST 1048576: true; the input reads as it did. -/
def fnRepoSameUptoRow : OpenClaim := { program := "ytemeihpokbleaaa", sum := "e6864e553f993a90a5d31e4fde88e3ffffe4c52b0b9bef1c2565ff4f80afa648", func := "loop.example/townland/laws.FnRepoSame", spec := "fnRepoSame", unfollowed := true, recurses := true, apart := false, narrowed := true }
def FnRepoSameUptoSaid : Prop := fnRepoSameUptoRow.holds Try.pinned (OpenSpec.upto fnRepoSameSpec)

/-- 'laws.FnRepoAhead', WHERE WHAT IT READS IS OF BULK AT MOST 1048576: true; the input reads as it did. -/
def fnRepoAheadUptoRow : OpenClaim := { program := "ytemeihpokbleaaa", sum := "e6864e553f993a90a5d31e4fde88e3ffffe4c52b0b9bef1c2565ff4f80afa648", func := "loop.example/townland/laws.FnRepoAhead", spec := "fnRepoAhead", unfollowed := true, recurses := true, apart := false, narrowed := true }
def FnRepoAheadUptoSaid : Prop := fnRepoAheadUptoRow.holds Try.pinned (OpenSpec.upto fnRepoAheadSpec)

/-- 'laws.FnRepoPast', WHERE WHAT IT READS IS OF BULK AT MOST 1048576: true; the input reads as it did. -/
def fnRepoPastUptoRow : OpenClaim := { program := "ytemeihpokbleaaa", sum := "e6864e553f993a90a5d31e4fde88e3ffffe4c52b0b9bef1c2565ff4f80afa648", func := "loop.example/townland/laws.FnRepoPast", spec := "fnRepoPast", unfollowed := true, recurses := true, apart := false, narrowed := true }
def FnRepoPastUptoSaid : Prop := fnRepoPastUptoRow.holds Try.pinned (OpenSpec.upto fnRepoPastSpec)

/-- 'laws.FnRepoBases', WHERE WHAT IT READS IS OF BULK AT MOST 1048576: true; the input reads as it did. -/
def fnRepoBasesUptoRow : OpenClaim := { program := "ytemeihpokbleaaa", sum := "e6864e553f993a90a5d31e4fde88e3ffffe4c52b0b9bef1c2565ff4f80afa648", func := "loop.example/townland/laws.FnRepoBases", spec := "fnRepoBases", unfollowed := true, recurses := true, apart := false, narrowed := true }
def FnRepoBasesUptoSaid : Prop := fnRepoBasesUptoRow.holds Try.pinned (OpenSpec.upto fnRepoBasesSpec)

end Rows
end Go.Proofs.Ytemeihpokbleaaa
