/-
  DERIVED. GIVEN WITH THE SEED: THE CARDS: each row of YtlaaehjcooonfaaGreatDoorRows.lean that lists a variable, with what it lists TIED to the program's text (the seventh form; the later family's looks); each row that meets fmt, with fmt's text TOLD by the authors' own Lean function (tested against real Go, not proved from fmt's source: count such statements apart). THE CARD IS WHAT COUNTS. Prove the row's statement (the work); the ties are given (YtlaaehjcooonfaaGreatDoorTie.lean); close each card by the builder's one call (the guide's Derived/Test/ToyasCard.lean, 'card_holds'). Laid BY PROGRAM, IN A SANDBOX (cutbox-door.mjs). By AI agents, Wed Nov 11 2026. No macro, syntax, notation, axiom, sorry.
-/
import Derived.Test.YtlaaehjcooonfaaGreatDoorRows
import GoSem.ClaimSeven
namespace Go.Proofs.YtlaaehjcooonfaaGreatDoor
namespace Rows

/-- THE TIED CARD OF 'laws.FnDiffBack'. -/
def fnDiffBackCard : Claim7 := { stood := { row := fnDiffBackRow, standIns := [], harness := (true, "e415afabf9b868df025d23cfa6c51a343106c6c6c244cd0de1bc1fd0934c8ded"), looks := false }, kinds := [], alts := [], laidByText := true, laidKinds := [.data, .data, .data, .widerDeep], laidTests := true, laidLooks := .later }
def FnDiffBackCardSaid : Prop := Claim7.holds Tryz.pinned (.plain (OpenSpec.ofChange fnDiffBackSpec)) fnDiffBackCard

/-- THE TIED CARD OF 'laws.FnDiffThree'. -/
def fnDiffThreeCard : Claim7 := { stood := { row := fnDiffThreeRow, standIns := [], harness := (true, "e415afabf9b868df025d23cfa6c51a343106c6c6c244cd0de1bc1fd0934c8ded"), looks := false }, kinds := [], alts := [], laidByText := true, laidKinds := [.data, .data, .data, .widerDeep], laidTests := true, laidLooks := .later }
def FnDiffThreeCardSaid : Prop := Claim7.holds Tryz.pinned (.plain (OpenSpec.ofChange fnDiffThreeSpec)) fnDiffThreeCard

/-- THE TIED CARD OF 'laws.FnFeatPoints'. -/
def fnFeatPointsCard : Claim7 := { stood := { row := fnFeatPointsRow, standIns := [], harness := (true, "e415afabf9b868df025d23cfa6c51a343106c6c6c244cd0de1bc1fd0934c8ded"), looks := false }, kinds := [], alts := [], laidByText := true, laidKinds := [.data, .data, .data, .widerDeep], laidTests := true, laidLooks := .later }
def FnFeatPointsCardSaid : Prop := Claim7.holds Tryz.pinned (.plain (OpenSpec.ofChange fnFeatPointsSpec)) fnFeatPointsCard

/-- THE TIED CARD OF 'laws.FnDiffOne'. -/
def fnDiffOneCard : Claim7 := { stood := { row := fnDiffOneRow, standIns := [], harness := (true, "e415afabf9b868df025d23cfa6c51a343106c6c6c244cd0de1bc1fd0934c8ded"), looks := false }, kinds := [], alts := [], laidByText := true, laidKinds := [.data, .data, .data, .widerDeep], laidTests := true, laidLooks := .later }
def FnDiffOneCardSaid : Prop := Claim7.holds Tryz.pinned (.plain (OpenSpec.ofChange fnDiffOneSpec)) fnDiffOneCard

/-- THE TIED CARD OF 'laws.FnDiffDo'. -/
def fnDiffDoCard : Claim7 := { stood := { row := fnDiffDoRow, standIns := [], harness := (true, "e415afabf9b868df025d23cfa6c51a343106c6c6c244cd0de1bc1fd0934c8ded"), looks := false }, kinds := [], alts := [], laidByText := true, laidKinds := [.data, .data, .data, .widerDeep], laidTests := true, laidLooks := .later }
def FnDiffDoCardSaid : Prop := Claim7.holds Tryz.pinned (.plain (OpenSpec.ofChange fnDiffDoSpec)) fnDiffDoCard

/-- THE TIED CARD OF 'laws.FnDiff'. -/
def fnDiffCard : Claim7 := { stood := { row := fnDiffRow, standIns := [], harness := (true, "e415afabf9b868df025d23cfa6c51a343106c6c6c244cd0de1bc1fd0934c8ded"), looks := false }, kinds := [], alts := [], laidByText := true, laidKinds := [.data, .data, .data, .widerDeep], laidTests := true, laidLooks := .later }
def FnDiffCardSaid : Prop := Claim7.holds Tryz.pinned (.plain (OpenSpec.ofChange fnDiffSpec)) fnDiffCard

/-- THE TIED CARD OF 'laws.FnDiffThen'. -/
def fnDiffThenCard : Claim7 := { stood := { row := fnDiffThenRow, standIns := [], harness := (true, "e415afabf9b868df025d23cfa6c51a343106c6c6c244cd0de1bc1fd0934c8ded"), looks := false }, kinds := [], alts := [], laidByText := true, laidKinds := [.data, .data, .data, .widerDeep], laidTests := true, laidLooks := .later }
def FnDiffThenCardSaid : Prop := Claim7.holds Tryz.pinned (.plain (OpenSpec.ofChange fnDiffThenSpec)) fnDiffThenCard

/-- THE SECOND FORM's CARD OF 'laws.FnDiffBack'. -/
def fnDiffBackUptoCard : Claim7 := { stood := { row := fnDiffBackUptoRow, standIns := [], harness := (true, "e415afabf9b868df025d23cfa6c51a343106c6c6c244cd0de1bc1fd0934c8ded"), looks := false }, kinds := [], alts := [], laidByText := true, laidKinds := [.data, .data, .data, .widerDeep], laidTests := true, laidLooks := .later }
def FnDiffBackUptoCardSaid : Prop := Claim7.holds Tryz.pinned (.plain (OpenSpec.upto fnDiffBackSpec)) fnDiffBackUptoCard

/-- THE SECOND FORM's CARD OF 'laws.FnDiffThree'. -/
def fnDiffThreeUptoCard : Claim7 := { stood := { row := fnDiffThreeUptoRow, standIns := [], harness := (true, "e415afabf9b868df025d23cfa6c51a343106c6c6c244cd0de1bc1fd0934c8ded"), looks := false }, kinds := [], alts := [], laidByText := true, laidKinds := [.data, .data, .data, .widerDeep], laidTests := true, laidLooks := .later }
def FnDiffThreeUptoCardSaid : Prop := Claim7.holds Tryz.pinned (.plain (OpenSpec.upto fnDiffThreeSpec)) fnDiffThreeUptoCard

/-- THE SECOND FORM's CARD OF 'laws.FnFeatPoints'. -/
def fnFeatPointsUptoCard : Claim7 := { stood := { row := fnFeatPointsUptoRow, standIns := [], harness := (true, "e415afabf9b868df025d23cfa6c51a343106c6c6c244cd0de1bc1fd0934c8ded"), looks := false }, kinds := [], alts := [], laidByText := true, laidKinds := [.data, .data, .data, .widerDeep], laidTests := true, laidLooks := .later }
def FnFeatPointsUptoCardSaid : Prop := Claim7.holds Tryz.pinned (.plain (OpenSpec.upto fnFeatPointsSpec)) fnFeatPointsUptoCard

/-- THE SECOND FORM's CARD OF 'laws.FnDiffOne'. -/
def fnDiffOneUptoCard : Claim7 := { stood := { row := fnDiffOneUptoRow, standIns := [], harness := (true, "e415afabf9b868df025d23cfa6c51a343106c6c6c244cd0de1bc1fd0934c8ded"), looks := false }, kinds := [], alts := [], laidByText := true, laidKinds := [.data, .data, .data, .widerDeep], laidTests := true, laidLooks := .later }
def FnDiffOneUptoCardSaid : Prop := Claim7.holds Tryz.pinned (.plain (OpenSpec.upto fnDiffOneSpec)) fnDiffOneUptoCard

/-- THE SECOND FORM's CARD OF 'laws.FnDiffDo'. -/
def fnDiffDoUptoCard : Claim7 := { stood := { row := fnDiffDoUptoRow, standIns := [], harness := (true, "e415afabf9b868df025d23cfa6c51a343106c6c6c244cd0de1bc1fd0934c8ded"), looks := false }, kinds := [], alts := [], laidByText := true, laidKinds := [.data, .data, .data, .widerDeep], laidTests := true, laidLooks := .later }
def FnDiffDoUptoCardSaid : Prop := Claim7.holds Tryz.pinned (.plain (OpenSpec.upto fnDiffDoSpec)) fnDiffDoUptoCard

/-- THE SECOND FORM's CARD OF 'laws.FnDiff'. -/
def fnDiffUptoCard : Claim7 := { stood := { row := fnDiffUptoRow, standIns := [], harness := (true, "e415afabf9b868df025d23cfa6c51a343106c6c6c244cd0de1bc1fd0934c8ded"), looks := false }, kinds := [], alts := [], laidByText := true, laidKinds := [.data, .data, .data, .widerDeep], laidTests := true, laidLooks := .later }
def FnDiffUptoCardSaid : Prop := Claim7.holds Tryz.pinned (.plain (OpenSpec.upto fnDiffSpec)) fnDiffUptoCard

/-- THE SECOND FORM's CARD OF 'laws.FnDiffThen'. -/
def fnDiffThenUptoCard : Claim7 := { stood := { row := fnDiffThenUptoRow, standIns := [], harness := (true, "e415afabf9b868df025d23cfa6c51a343106c6c6c244cd0de1bc1fd0934c8ded"), looks := false }, kinds := [], alts := [], laidByText := true, laidKinds := [.data, .data, .data, .widerDeep], laidTests := true, laidLooks := .later }
def FnDiffThenUptoCardSaid : Prop := Claim7.holds Tryz.pinned (.plain (OpenSpec.upto fnDiffThenSpec)) fnDiffThenUptoCard
end Rows
end Go.Proofs.YtlaaehjcooonfaaGreatDoor
