/-
  No cell of these rows narrows 'for every input' (looked for: loops, veiled, ifaces, maps, wideKeys, modest, calm, conditions, laid).
  DERIVED. THE GIVEN ROWS OF THIS SEAT. 12 by the template 'for every input the law returns true; each argument reads behind the call as it read before'; 0 by the template 'total and deterministic' (their statements: YtnliofcjplnboaaTotals.lean).
  GIVEN WITH THE SEED: the statements are not yours to turn. If you find one false, say at which input.
  Laid BY PROGRAM, IN A SANDBOX (cutbox-rows.mjs): the forced cells as the released guide's own fill.sh prints them over the translation 58986cf0ad9fe7b9… (all of the seat's roots in one cut). By AI agents, Wed Nov 11 2026. No macro, syntax, notation, axiom, sorry.
-/
import Derived.Test.YtnliofcjplnboaaChecked
import GoSem.Claim
import GoSem.ClaimJoined
import GoSem.ClaimMapViews
import Derived.JoinedTies
import Derived.KernelRfl
namespace Go.Proofs.Ytnliofcjplnboaa
/- THE CELL 'sum', in the pinned program and in every row, IS THE sha256 OF THE DUMP (.gsa) THAT YtnliofcjplnboaaProg.lean LOADS. Nothing in Lean hashes anything: it is a label: what it is worth is what the hold of that sum in a sandbox is worth. -/
noncomputable def Try.pinned : Pinned := { name := "ytnliofcjplnboaa", sum := "58986cf0ad9fe7b9d188e583c3cd2ceae5f387e3c71ccf2d22eac45b91e2e6be", checked := Try.checked }
namespace Rows
def none {H : Type} : Left H := { results := [], args := [] }

/-- 'laws.FnExactClashText': WHATEVER THE INPUT: true; the input reads as it did. -/
def fnExactClashTextSpec : ChangeSpec := { name := "fnExactClashText", fn := fun _ => fun
  | [d] => { results := [.lit (.bool true)], args := [d] }
  | _ => none }
def fnExactClashTextRow : OpenClaim := { program := "ytnliofcjplnboaa", sum := "58986cf0ad9fe7b9d188e583c3cd2ceae5f387e3c71ccf2d22eac45b91e2e6be", func := "loop.example/townland/laws.FnExactClashText", spec := "fnExactClashText", apart := false }
def FnExactClashTextSaid : Prop := fnExactClashTextRow.holds Try.pinned (OpenSpec.ofChange fnExactClashTextSpec)

/-- ITS FALSE NEIGHBOUR: 'it returns false'. Refute it at one input. -/
def fnExactClashTextWrong : ChangeSpec := { name := "fnExactClashText", fn := fun _ => fun
  | [d] => { results := [.lit (.bool false)], args := [d] }
  | _ => none }
def FnExactClashTextWrongFalsely : Prop := fnExactClashTextRow.holds Try.pinned (OpenSpec.ofChange fnExactClashTextWrong)

/-- 'laws.FnExactClashSame': WHATEVER THE INPUT: true; the input reads as it did. -/
def fnExactClashSameSpec : ChangeSpec := { name := "fnExactClashSame", fn := fun _ => fun
  | [d1, d2] => { results := [.lit (.bool true)], args := [d1, d2] }
  | _ => none }
def fnExactClashSameRow : OpenClaim := { program := "ytnliofcjplnboaa", sum := "58986cf0ad9fe7b9d188e583c3cd2ceae5f387e3c71ccf2d22eac45b91e2e6be", func := "loop.example/townland/laws.FnExactClashSame", spec := "fnExactClashSame", apart := false }
def FnExactClashSameSaid : Prop := fnExactClashSameRow.holds Try.pinned (OpenSpec.ofChange fnExactClashSameSpec)

/-- ITS FALSE NEIGHBOUR: 'it returns false'. Refute it at one input. -/
def fnExactClashSameWrong : ChangeSpec := { name := "fnExactClashSame", fn := fun _ => fun
  | [d1, d2] => { results := [.lit (.bool false)], args := [d1, d2] }
  | _ => none }
def FnExactClashSameWrongFalsely : Prop := fnExactClashSameRow.holds Try.pinned (OpenSpec.ofChange fnExactClashSameWrong)

/-- 'laws.FnExactSeqLong': WHATEVER THE INPUT: true; the input reads as it did. -/
def fnExactSeqLongSpec : ChangeSpec := { name := "fnExactSeqLong", fn := fun _ => fun
  | [d1, d2] => { results := [.lit (.bool true)], args := [d1, d2] }
  | _ => none }
def fnExactSeqLongRow : OpenClaim := { program := "ytnliofcjplnboaa", sum := "58986cf0ad9fe7b9d188e583c3cd2ceae5f387e3c71ccf2d22eac45b91e2e6be", func := "loop.example/townland/laws.FnExactSeqLong", spec := "fnExactSeqLong", apart := false }
def FnExactSeqLongSaid : Prop := fnExactSeqLongRow.holds Try.pinned (OpenSpec.ofChange fnExactSeqLongSpec)

/-- ITS FALSE NEIGHBOUR: 'it returns false'. Refute it at one input. -/
def fnExactSeqLongWrong : ChangeSpec := { name := "fnExactSeqLong", fn := fun _ => fun
  | [d1, d2] => { results := [.lit (.bool false)], args := [d1, d2] }
  | _ => none }
def FnExactSeqLongWrongFalsely : Prop := fnExactSeqLongRow.holds Try.pinned (OpenSpec.ofChange fnExactSeqLongWrong)

/-- 'laws.FnSeqLong': WHATEVER THE INPUT: true; the input reads as it did. -/
def fnSeqLongSpec : ChangeSpec := { name := "fnSeqLong", fn := fun _ => fun
  | [d1, d2] => { results := [.lit (.bool true)], args := [d1, d2] }
  | _ => none }
def fnSeqLongRow : OpenClaim := { program := "ytnliofcjplnboaa", sum := "58986cf0ad9fe7b9d188e583c3cd2ceae5f387e3c71ccf2d22eac45b91e2e6be", func := "loop.example/townland/laws.FnSeqLong", spec := "fnSeqLong", apart := false }
def FnSeqLongSaid : Prop := fnSeqLongRow.holds Try.pinned (OpenSpec.ofChange fnSeqLongSpec)

/-- ITS FALSE NEIGHBOUR: 'it returns false'. Refute it at one input. -/
def fnSeqLongWrong : ChangeSpec := { name := "fnSeqLong", fn := fun _ => fun
  | [d1, d2] => { results := [.lit (.bool false)], args := [d1, d2] }
  | _ => none }
def FnSeqLongWrongFalsely : Prop := fnSeqLongRow.holds Try.pinned (OpenSpec.ofChange fnSeqLongWrong)

/-- 'laws.FnSeqTail': WHATEVER THE INPUT: true; the input reads as it did. -/
def fnSeqTailSpec : ChangeSpec := { name := "fnSeqTail", fn := fun _ => fun
  | [d1, d2] => { results := [.lit (.bool true)], args := [d1, d2] }
  | _ => none }
def fnSeqTailRow : OpenClaim := { program := "ytnliofcjplnboaa", sum := "58986cf0ad9fe7b9d188e583c3cd2ceae5f387e3c71ccf2d22eac45b91e2e6be", func := "loop.example/townland/laws.FnSeqTail", spec := "fnSeqTail", apart := false }
def FnSeqTailSaid : Prop := fnSeqTailRow.holds Try.pinned (OpenSpec.ofChange fnSeqTailSpec)

/-- ITS FALSE NEIGHBOUR: 'it returns false'. Refute it at one input. -/
def fnSeqTailWrong : ChangeSpec := { name := "fnSeqTail", fn := fun _ => fun
  | [d1, d2] => { results := [.lit (.bool false)], args := [d1, d2] }
  | _ => none }
def FnSeqTailWrongFalsely : Prop := fnSeqTailRow.holds Try.pinned (OpenSpec.ofChange fnSeqTailWrong)

/-- 'laws.FnSeqPairs': WHATEVER THE INPUT: true; the input reads as it did. -/
def fnSeqPairsSpec : ChangeSpec := { name := "fnSeqPairs", fn := fun _ => fun
  | [d] => { results := [.lit (.bool true)], args := [d] }
  | _ => none }
def fnSeqPairsRow : OpenClaim := { program := "ytnliofcjplnboaa", sum := "58986cf0ad9fe7b9d188e583c3cd2ceae5f387e3c71ccf2d22eac45b91e2e6be", func := "loop.example/townland/laws.FnSeqPairs", spec := "fnSeqPairs", apart := false }
def FnSeqPairsSaid : Prop := fnSeqPairsRow.holds Try.pinned (OpenSpec.ofChange fnSeqPairsSpec)

/-- ITS FALSE NEIGHBOUR: 'it returns false'. Refute it at one input. -/
def fnSeqPairsWrong : ChangeSpec := { name := "fnSeqPairs", fn := fun _ => fun
  | [d] => { results := [.lit (.bool false)], args := [d] }
  | _ => none }
def FnSeqPairsWrongFalsely : Prop := fnSeqPairsRow.holds Try.pinned (OpenSpec.ofChange fnSeqPairsWrong)

/-- 'laws.FnExactSeqPairs': WHATEVER THE INPUT: true; the input reads as it did. -/
def fnExactSeqPairsSpec : ChangeSpec := { name := "fnExactSeqPairs", fn := fun _ => fun
  | [d1, d2] => { results := [.lit (.bool true)], args := [d1, d2] }
  | _ => none }
def fnExactSeqPairsRow : OpenClaim := { program := "ytnliofcjplnboaa", sum := "58986cf0ad9fe7b9d188e583c3cd2ceae5f387e3c71ccf2d22eac45b91e2e6be", func := "loop.example/townland/laws.FnExactSeqPairs", spec := "fnExactSeqPairs", apart := false }
def FnExactSeqPairsSaid : Prop := fnExactSeqPairsRow.holds Try.pinned (OpenSpec.ofChange fnExactSeqPairsSpec)

/-- ITS FALSE NEIGHBOUR: 'it returns false'. Refute it at one input. -/
def fnExactSeqPairsWrong : ChangeSpec := { name := "fnExactSeqPairs", fn := fun _ => fun
  | [d1, d2] => { results := [.lit (.bool false)], args := [d1, d2] }
  | _ => none }
def FnExactSeqPairsWrongFalsely : Prop := fnExactSeqPairsRow.holds Try.pinned (OpenSpec.ofChange fnExactSeqPairsWrong)

/-- 'laws.FnExactSeqMerge': WHATEVER THE INPUT: true; the input reads as it did. -/
def fnExactSeqMergeSpec : ChangeSpec := { name := "fnExactSeqMerge", fn := fun _ => fun
  | [d1, d2, d3] => { results := [.lit (.bool true)], args := [d1, d2, d3] }
  | _ => none }
def fnExactSeqMergeRow : OpenClaim := { program := "ytnliofcjplnboaa", sum := "58986cf0ad9fe7b9d188e583c3cd2ceae5f387e3c71ccf2d22eac45b91e2e6be", func := "loop.example/townland/laws.FnExactSeqMerge", spec := "fnExactSeqMerge", apart := false }
def FnExactSeqMergeSaid : Prop := fnExactSeqMergeRow.holds Try.pinned (OpenSpec.ofChange fnExactSeqMergeSpec)

/-- ITS FALSE NEIGHBOUR: 'it returns false'. Refute it at one input. -/
def fnExactSeqMergeWrong : ChangeSpec := { name := "fnExactSeqMerge", fn := fun _ => fun
  | [d1, d2, d3] => { results := [.lit (.bool false)], args := [d1, d2, d3] }
  | _ => none }
def FnExactSeqMergeWrongFalsely : Prop := fnExactSeqMergeRow.holds Try.pinned (OpenSpec.ofChange fnExactSeqMergeWrong)

/-- 'laws.FnSeqKeep': WHATEVER THE INPUT: true; the input reads as it did. -/
def fnSeqKeepSpec : ChangeSpec := { name := "fnSeqKeep", fn := fun _ => fun
  | [d] => { results := [.lit (.bool true)], args := [d] }
  | _ => none }
def fnSeqKeepRow : OpenClaim := { program := "ytnliofcjplnboaa", sum := "58986cf0ad9fe7b9d188e583c3cd2ceae5f387e3c71ccf2d22eac45b91e2e6be", func := "loop.example/townland/laws.FnSeqKeep", spec := "fnSeqKeep", apart := false }
def FnSeqKeepSaid : Prop := fnSeqKeepRow.holds Try.pinned (OpenSpec.ofChange fnSeqKeepSpec)

/-- ITS FALSE NEIGHBOUR: 'it returns false'. Refute it at one input. -/
def fnSeqKeepWrong : ChangeSpec := { name := "fnSeqKeep", fn := fun _ => fun
  | [d] => { results := [.lit (.bool false)], args := [d] }
  | _ => none }
def FnSeqKeepWrongFalsely : Prop := fnSeqKeepRow.holds Try.pinned (OpenSpec.ofChange fnSeqKeepWrong)

/-- 'laws.FnSeqApart': WHATEVER THE INPUT: true; the input reads as it did. -/
def fnSeqApartSpec : ChangeSpec := { name := "fnSeqApart", fn := fun _ => fun
  | [d] => { results := [.lit (.bool true)], args := [d] }
  | _ => none }
def fnSeqApartRow : OpenClaim := { program := "ytnliofcjplnboaa", sum := "58986cf0ad9fe7b9d188e583c3cd2ceae5f387e3c71ccf2d22eac45b91e2e6be", func := "loop.example/townland/laws.FnSeqApart", spec := "fnSeqApart", apart := false }
def FnSeqApartSaid : Prop := fnSeqApartRow.holds Try.pinned (OpenSpec.ofChange fnSeqApartSpec)

/-- ITS FALSE NEIGHBOUR: 'it returns false'. Refute it at one input. -/
def fnSeqApartWrong : ChangeSpec := { name := "fnSeqApart", fn := fun _ => fun
  | [d] => { results := [.lit (.bool false)], args := [d] }
  | _ => none }
def FnSeqApartWrongFalsely : Prop := fnSeqApartRow.holds Try.pinned (OpenSpec.ofChange fnSeqApartWrong)

/-- 'laws.FnSeqCut': WHATEVER THE INPUT: true; the input reads as it did. -/
def fnSeqCutSpec : ChangeSpec := { name := "fnSeqCut", fn := fun _ => fun
  | [d] => { results := [.lit (.bool true)], args := [d] }
  | _ => none }
def fnSeqCutRow : OpenClaim := { program := "ytnliofcjplnboaa", sum := "58986cf0ad9fe7b9d188e583c3cd2ceae5f387e3c71ccf2d22eac45b91e2e6be", func := "loop.example/townland/laws.FnSeqCut", spec := "fnSeqCut", apart := false }
def FnSeqCutSaid : Prop := fnSeqCutRow.holds Try.pinned (OpenSpec.ofChange fnSeqCutSpec)

/-- ITS FALSE NEIGHBOUR: 'it returns false'. Refute it at one input. -/
def fnSeqCutWrong : ChangeSpec := { name := "fnSeqCut", fn := fun _ => fun
  | [d] => { results := [.lit (.bool false)], args := [d] }
  | _ => none }
def FnSeqCutWrongFalsely : Prop := fnSeqCutRow.holds Try.pinned (OpenSpec.ofChange fnSeqCutWrong)

/-- 'laws.FnSeqMerge': WHATEVER THE INPUT: true; the input reads as it did. -/
def fnSeqMergeSpec : ChangeSpec := { name := "fnSeqMerge", fn := fun _ => fun
  | [d] => { results := [.lit (.bool true)], args := [d] }
  | _ => none }
def fnSeqMergeRow : OpenClaim := { program := "ytnliofcjplnboaa", sum := "58986cf0ad9fe7b9d188e583c3cd2ceae5f387e3c71ccf2d22eac45b91e2e6be", func := "loop.example/townland/laws.FnSeqMerge", spec := "fnSeqMerge", apart := false }
def FnSeqMergeSaid : Prop := fnSeqMergeRow.holds Try.pinned (OpenSpec.ofChange fnSeqMergeSpec)

/-- ITS FALSE NEIGHBOUR: 'it returns false'. Refute it at one input. -/
def fnSeqMergeWrong : ChangeSpec := { name := "fnSeqMerge", fn := fun _ => fun
  | [d] => { results := [.lit (.bool false)], args := [d] }
  | _ => none }
def FnSeqMergeWrongFalsely : Prop := fnSeqMergeRow.holds Try.pinned (OpenSpec.ofChange fnSeqMergeWrong)

/- THE SECOND FORM. 'bulk': how many values and letters a reading holds, each counted each time it is reached (what is shared counts as often as it is met; a slice's spare places count too). A statement '..UptoSaid' is the law's where the arguments, and the package variables that the reading takes, are together of bulk at most 1048576: NARROWER than '..Said'. Prove '..Said' where nothing that the law and all that it calls make is longer than what came in: it says more and counts as full. Else prove '..UptoSaid'. A law counts once. -/
mutual
def uptoBulk {H : Type} : DataW H → Nat
  | .lit (.string bytes) => bytes.length + 1
  | .lit _ => 1
  | .nil => 1
  | .ptr d => uptoBulk d + 1
  | .slice elems spare => uptoBulkAll elems + uptoBulkAll spare + 1
  | .agg parts => uptoBulkAll parts + 1
  | .iface _ d => uptoBulk d + 1
  | .map entries => uptoBulkEntries entries + 1
  | .held _ => 1
def uptoBulkAll {H : Type} : List (DataW H) → Nat
  | [] => 0
  | d :: r => uptoBulk d + uptoBulkAll r
def uptoBulkEntries {H : Type} : List (Lit × DataW H) → Nat
  | [] => 0
  | x :: r => uptoBulkEntry x + uptoBulkEntries r
def uptoBulkEntry {H : Type} : Lit × DataW H → Nat
  | (.string bytes, d) => bytes.length + uptoBulk d + 1
  | (_, d) => uptoBulk d + 1
 end
def uptoSmall : (H : Type) → List (DataW H) → Bool := fun _ ds => decide (uptoBulkAll ds ≤ 1048576)
def OpenSpec.upto (s : _root_.Go.ChangeSpec) : _root_.Go.OpenSpec := { _root_.Go.OpenSpec.ofChange s with cond := some uptoSmall }

/-- 'laws.FnExactClashText', WHERE WHAT IT READS IS OF BULK AT MOST 1048576: true; the input reads as it did. -/
def fnExactClashTextUptoRow : OpenClaim := { program := "ytnliofcjplnboaa", sum := "58986cf0ad9fe7b9d188e583c3cd2ceae5f387e3c71ccf2d22eac45b91e2e6be", func := "loop.example/townland/laws.FnExactClashText", spec := "fnExactClashText", apart := false, narrowed := true }
def FnExactClashTextUptoSaid : Prop := fnExactClashTextUptoRow.holds Try.pinned (OpenSpec.upto fnExactClashTextSpec)

/-- 'laws.FnExactClashSame', WHERE WHAT IT READS IS OF BULK AT MOST 1048576: true; the input reads as it did. -/
def fnExactClashSameUptoRow : OpenClaim := { program := "ytnliofcjplnboaa", sum := "58986cf0ad9fe7b9d188e583c3cd2ceae5f387e3c71ccf2d22eac45b91e2e6be", func := "loop.example/townland/laws.FnExactClashSame", spec := "fnExactClashSame", apart := false, narrowed := true }
def FnExactClashSameUptoSaid : Prop := fnExactClashSameUptoRow.holds Try.pinned (OpenSpec.upto fnExactClashSameSpec)

/-- 'laws.FnExactSeqLong', WHERE WHAT IT READS IS OF BULK AT MOST 1048576: true; the input reads as it did. -/
def fnExactSeqLongUptoRow : OpenClaim := { program := "ytnliofcjplnboaa", sum := "58986cf0ad9fe7b9d188e583c3cd2ceae5f387e3c71ccf2d22eac45b91e2e6be", func := "loop.example/townland/laws.FnExactSeqLong", spec := "fnExactSeqLong", apart := false, narrowed := true }
def FnExactSeqLongUptoSaid : Prop := fnExactSeqLongUptoRow.holds Try.pinned (OpenSpec.upto fnExactSeqLongSpec)

/-- 'laws.FnSeqLong', WHERE WHAT IT READS IS OF BULK AT MOST 1048576: true; the input reads as it did. -/
def fnSeqLongUptoRow : OpenClaim := { program := "ytnliofcjplnboaa", sum := "58986cf0ad9fe7b9d188e583c3cd2ceae5f387e3c71ccf2d22eac45b91e2e6be", func := "loop.example/townland/laws.FnSeqLong", spec := "fnSeqLong", apart := false, narrowed := true }
def FnSeqLongUptoSaid : Prop := fnSeqLongUptoRow.holds Try.pinned (OpenSpec.upto fnSeqLongSpec)

/-- 'laws.FnSeqTail', WHERE WHAT IT READS IS OF BULK AT MOST 1048576: true; the input reads as it did. -/
def fnSeqTailUptoRow : OpenClaim := { program := "ytnliofcjplnboaa", sum := "58986cf0ad9fe7b9d188e583c3cd2ceae5f387e3c71ccf2d22eac45b91e2e6be", func := "loop.example/townland/laws.FnSeqTail", spec := "fnSeqTail", apart := false, narrowed := true }
def FnSeqTailUptoSaid : Prop := fnSeqTailUptoRow.holds Try.pinned (OpenSpec.upto fnSeqTailSpec)

/-- 'laws.FnSeqPairs', WHERE WHAT IT READS IS OF BULK AT MOST 1048576: true; the input reads as it did. -/
def fnSeqPairsUptoRow : OpenClaim := { program := "ytnliofcjplnboaa", sum := "58986cf0ad9fe7b9d188e583c3cd2ceae5f387e3c71ccf2d22eac45b91e2e6be", func := "loop.example/townland/laws.FnSeqPairs", spec := "fnSeqPairs", apart := false, narrowed := true }
def FnSeqPairsUptoSaid : Prop := fnSeqPairsUptoRow.holds Try.pinned (OpenSpec.upto fnSeqPairsSpec)

/-- 'laws.FnExactSeqPairs', WHERE WHAT IT READS IS OF BULK AT MOST 1048576: true; the input reads as it did. -/
def fnExactSeqPairsUptoRow : OpenClaim := { program := "ytnliofcjplnboaa", sum := "58986cf0ad9fe7b9d188e583c3cd2ceae5f387e3c71ccf2d22eac45b91e2e6be", func := "loop.example/townland/laws.FnExactSeqPairs", spec := "fnExactSeqPairs", apart := false, narrowed := true }
def FnExactSeqPairsUptoSaid : Prop := fnExactSeqPairsUptoRow.holds Try.pinned (OpenSpec.upto fnExactSeqPairsSpec)

/-- 'laws.FnExactSeqMerge', WHERE WHAT IT READS IS OF BULK AT MOST 1048576: true; the input reads as it did. -/
def fnExactSeqMergeUptoRow : OpenClaim := { program := "ytnliofcjplnboaa", sum := "58986cf0ad9fe7b9d188e583c3cd2ceae5f387e3c71ccf2d22eac45b91e2e6be", func := "loop.example/townland/laws.FnExactSeqMerge", spec := "fnExactSeqMerge", apart := false, narrowed := true }
def FnExactSeqMergeUptoSaid : Prop := fnExactSeqMergeUptoRow.holds Try.pinned (OpenSpec.upto fnExactSeqMergeSpec)

/-- 'laws.FnSeqKeep', WHERE WHAT IT READS IS OF BULK AT MOST 1048576: true; the input reads as it did. -/
def fnSeqKeepUptoRow : OpenClaim := { program := "ytnliofcjplnboaa", sum := "58986cf0ad9fe7b9d188e583c3cd2ceae5f387e3c71ccf2d22eac45b91e2e6be", func := "loop.example/townland/laws.FnSeqKeep", spec := "fnSeqKeep", apart := false, narrowed := true }
def FnSeqKeepUptoSaid : Prop := fnSeqKeepUptoRow.holds Try.pinned (OpenSpec.upto fnSeqKeepSpec)

/-- 'laws.FnSeqApart', WHERE WHAT IT READS IS OF BULK AT MOST 1048576: true; the input reads as it did. -/
def fnSeqApartUptoRow : OpenClaim := { program := "ytnliofcjplnboaa", sum := "58986cf0ad9fe7b9d188e583c3cd2ceae5f387e3c71ccf2d22eac45b91e2e6be", func := "loop.example/townland/laws.FnSeqApart", spec := "fnSeqApart", apart := false, narrowed := true }
def FnSeqApartUptoSaid : Prop := fnSeqApartUptoRow.holds Try.pinned (OpenSpec.upto fnSeqApartSpec)

/-- 'laws.FnSeqCut', WHERE WHAT IT READS IS OF BULK AT MOST 1048576: true; the input reads as it did. -/
def fnSeqCutUptoRow : OpenClaim := { program := "ytnliofcjplnboaa", sum := "58986cf0ad9fe7b9d188e583c3cd2ceae5f387e3c71ccf2d22eac45b91e2e6be", func := "loop.example/townland/laws.FnSeqCut", spec := "fnSeqCut", apart := false, narrowed := true }
def FnSeqCutUptoSaid : Prop := fnSeqCutUptoRow.holds Try.pinned (OpenSpec.upto fnSeqCutSpec)

/-- 'laws.FnSeqMerge', WHERE WHAT IT READS IS OF BULK AT MOST 1048576: true; the input reads as it did. -/
def fnSeqMergeUptoRow : OpenClaim := { program := "ytnliofcjplnboaa", sum := "58986cf0ad9fe7b9d188e583c3cd2ceae5f387e3c71ccf2d22eac45b91e2e6be", func := "loop.example/townland/laws.FnSeqMerge", spec := "fnSeqMerge", apart := false, narrowed := true }
def FnSeqMergeUptoSaid : Prop := fnSeqMergeUptoRow.holds Try.pinned (OpenSpec.upto fnSeqMergeSpec)

end Rows
end Go.Proofs.Ytnliofcjplnboaa
