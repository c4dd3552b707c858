/-
  DERIVED. GIVEN WITH THE SEED: THE CARDS: each row of YtlaaehjcooonfaaDoorRows.lean that lists a variable, with what it lists TIED to the program's text (the seventh form; the later family's looks); each row that meets fmt, with fmt's text TOLD by the authors' own Lean function (tested against real Go, not proved from fmt's source: count such statements apart). THE CARD IS WHAT COUNTS. Prove the row's statement (the work); the ties are given (YtlaaehjcooonfaaDoorTie.lean); close each card by the builder's one call (the guide's Derived/Test/ToyasCard.lean, 'card_holds'). Laid BY PROGRAM, IN A SANDBOX (cutbox-door.mjs). By AI agents, Wed Nov 11 2026. No macro, syntax, notation, axiom, sorry.
-/
import Derived.Test.YtlaaehjcooonfaaDoorRows
import GoSem.ClaimSeven
namespace Go.Proofs.YtlaaehjcooonfaaDoor
namespace Rows

/-- THE TIED CARD OF 'laws.FnExactDiffText'. -/
def fnExactDiffTextCard : Claim7 := { stood := { row := fnExactDiffTextRow, standIns := [], harness := (true, "92d3501775cb17553dbd58c2eea8a13f06d60c790c8c1caa2b6ea7dd922fd709"), looks := false }, kinds := [], alts := [], laidByText := true, laidKinds := [.data, .data, .data, .widerDeep], laidTests := true, laidLooks := .later }
def FnExactDiffTextCardSaid : Prop := Claim7.holds Tryd.pinned (.plain (OpenSpec.ofChange fnExactDiffTextSpec)) fnExactDiffTextCard

/-- THE TIED CARD OF 'laws.FnDiffLines'. -/
def fnDiffLinesCard : Claim7 := { stood := { row := fnDiffLinesRow, standIns := [], harness := (true, "92d3501775cb17553dbd58c2eea8a13f06d60c790c8c1caa2b6ea7dd922fd709"), looks := false }, kinds := [], alts := [], laidByText := true, laidKinds := [.data, .data, .data, .widerDeep], laidTests := true, laidLooks := .later }
def FnDiffLinesCardSaid : Prop := Claim7.holds Tryd.pinned (.plain (OpenSpec.ofChange fnDiffLinesSpec)) fnDiffLinesCard

/-- THE TIED CARD OF 'laws.FnDiffBent'. -/
def fnDiffBentCard : Claim7 := { stood := { row := fnDiffBentRow, standIns := [], harness := (true, "92d3501775cb17553dbd58c2eea8a13f06d60c790c8c1caa2b6ea7dd922fd709"), looks := false }, kinds := [], alts := [], laidByText := true, laidKinds := [.data, .data, .data, .widerDeep], laidTests := true, laidLooks := .later }
def FnDiffBentCardSaid : Prop := Claim7.holds Tryd.pinned (.plain (OpenSpec.ofChange fnDiffBentSpec)) fnDiffBentCard

/-- THE SECOND FORM's CARD OF 'laws.FnExactDiffText'. -/
def fnExactDiffTextUptoCard : Claim7 := { stood := { row := fnExactDiffTextUptoRow, standIns := [], harness := (true, "92d3501775cb17553dbd58c2eea8a13f06d60c790c8c1caa2b6ea7dd922fd709"), looks := false }, kinds := [], alts := [], laidByText := true, laidKinds := [.data, .data, .data, .widerDeep], laidTests := true, laidLooks := .later }
def FnExactDiffTextUptoCardSaid : Prop := Claim7.holds Tryd.pinned (.plain (OpenSpec.upto fnExactDiffTextSpec)) fnExactDiffTextUptoCard

/-- THE SECOND FORM's CARD OF 'laws.FnDiffLines'. -/
def fnDiffLinesUptoCard : Claim7 := { stood := { row := fnDiffLinesUptoRow, standIns := [], harness := (true, "92d3501775cb17553dbd58c2eea8a13f06d60c790c8c1caa2b6ea7dd922fd709"), looks := false }, kinds := [], alts := [], laidByText := true, laidKinds := [.data, .data, .data, .widerDeep], laidTests := true, laidLooks := .later }
def FnDiffLinesUptoCardSaid : Prop := Claim7.holds Tryd.pinned (.plain (OpenSpec.upto fnDiffLinesSpec)) fnDiffLinesUptoCard

/-- THE SECOND FORM's CARD OF 'laws.FnDiffBent'. -/
def fnDiffBentUptoCard : Claim7 := { stood := { row := fnDiffBentUptoRow, standIns := [], harness := (true, "92d3501775cb17553dbd58c2eea8a13f06d60c790c8c1caa2b6ea7dd922fd709"), looks := false }, kinds := [], alts := [], laidByText := true, laidKinds := [.data, .data, .data, .widerDeep], laidTests := true, laidLooks := .later }
def FnDiffBentUptoCardSaid : Prop := Claim7.holds Tryd.pinned (.plain (OpenSpec.upto fnDiffBentSpec)) fnDiffBentUptoCard
end Rows
end Go.Proofs.YtlaaehjcooonfaaDoor
