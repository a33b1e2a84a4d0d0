/-
  DERIVED. GIVEN WITH THE SEED: THE CARDS: each row of YtooepfkfickciaaDoorRows.lean that lists a variable, with what it lists TIED to the program's text (the seventh form; the later family's looks); each row that meets fmt, with fmt's text TOLD by the authors' own Lean function (tested against real Go, not proved from fmt's source: count such statements apart). THE CARD IS WHAT COUNTS. Prove the row's statement (the work); the ties are given (YtooepfkfickciaaDoorTie.lean); close each card by the builder's one call (the guide's Derived/Test/ToyasCard.lean, 'card_holds'). Laid BY PROGRAM, IN A SANDBOX (cutbox-door.mjs). By AI agents, Wed Nov 11 2026. No macro, syntax, notation, axiom, sorry.
-/
import Derived.Test.YtooepfkfickciaaDoorRows
import GoSem.ClaimSeven
namespace Go.Proofs.YtooepfkfickciaaDoor
namespace Rows

/-- THE TIED CARD OF 'laws.FnExactTurnPuzzle'. -/
def fnExactTurnPuzzleCard : Claim7 := { stood := { row := fnExactTurnPuzzleRow, standIns := [], harness := (true, "3fb4169fbd948f3e7b39591982978f0953418898af1d01dbf979d7c15dda6fbe"), looks := false }, kinds := [], alts := [], laidByText := true, laidKinds := [.data, .pinned], laidTests := true, laidLooks := .later }
def FnExactTurnPuzzleCardSaid : Prop := Claim7.holds Tryd.pinned (.plain (OpenSpec.ofChange fnExactTurnPuzzleSpec)) fnExactTurnPuzzleCard

/-- THE TIED CARD OF 'laws.FnExactReplayOf'. -/
def fnExactReplayOfCard : Claim7 := { stood := { row := fnExactReplayOfRow, standIns := [], harness := (true, "3fb4169fbd948f3e7b39591982978f0953418898af1d01dbf979d7c15dda6fbe"), looks := false }, kinds := [], alts := [], laidByText := true, laidKinds := [.data, .pinned], laidTests := true, laidLooks := .later }
def FnExactReplayOfCardSaid : Prop := Claim7.holds Tryd.pinned (.plain (OpenSpec.ofChange fnExactReplayOfSpec)) fnExactReplayOfCard

/-- THE TIED CARD OF 'laws.FnExactPrintsAlong'. -/
def fnExactPrintsAlongCard : Claim7 := { stood := { row := fnExactPrintsAlongRow, standIns := [], harness := (true, "3fb4169fbd948f3e7b39591982978f0953418898af1d01dbf979d7c15dda6fbe"), looks := false }, kinds := [], alts := [], laidByText := true, laidKinds := [.data, .pinned], laidTests := true, laidLooks := .later }
def FnExactPrintsAlongCardSaid : Prop := Claim7.holds Tryd.pinned (.plain (OpenSpec.ofChange fnExactPrintsAlongSpec)) fnExactPrintsAlongCard

/-- THE TIED CARD OF 'laws.FnExactLabelsOfWord'. -/
def fnExactLabelsOfWordCard : Claim7 := { stood := { row := fnExactLabelsOfWordRow, standIns := [], harness := (true, "3fb4169fbd948f3e7b39591982978f0953418898af1d01dbf979d7c15dda6fbe"), looks := false }, kinds := [], alts := [], laidByText := true, laidKinds := [.data, .pinned], laidTests := true, laidLooks := .later }
def FnExactLabelsOfWordCardSaid : Prop := Claim7.holds Tryd.pinned (.plain (OpenSpec.ofChange fnExactLabelsOfWordSpec)) fnExactLabelsOfWordCard

/-- THE TIED CARD OF 'laws.FnExactHardestGoal'. -/
def fnExactHardestGoalCard : Claim7 := { stood := { row := fnExactHardestGoalRow, standIns := [], harness := (true, "3fb4169fbd948f3e7b39591982978f0953418898af1d01dbf979d7c15dda6fbe"), looks := false }, kinds := [], alts := [], laidByText := true, laidKinds := [.data, .pinned], laidTests := true, laidLooks := .later }
def FnExactHardestGoalCardSaid : Prop := Claim7.holds Tryd.pinned (.plain (OpenSpec.ofChange fnExactHardestGoalSpec)) fnExactHardestGoalCard

/-- THE TIED CARD OF 'laws.FnExactNeedlessWalls'. -/
def fnExactNeedlessWallsCard : Claim7 := { stood := { row := fnExactNeedlessWallsRow, standIns := [], harness := (true, "3fb4169fbd948f3e7b39591982978f0953418898af1d01dbf979d7c15dda6fbe"), looks := false }, kinds := [], alts := [], laidByText := true, laidKinds := [.data, .pinned], laidTests := true, laidLooks := .later }
def FnExactNeedlessWallsCardSaid : Prop := Claim7.holds Tryd.pinned (.plain (OpenSpec.ofChange fnExactNeedlessWallsSpec)) fnExactNeedlessWallsCard

/-- THE TIED CARD OF 'laws.FnExactCountSolutions'. -/
def fnExactCountSolutionsCard : Claim7 := { stood := { row := fnExactCountSolutionsRow, standIns := [], harness := (true, "3fb4169fbd948f3e7b39591982978f0953418898af1d01dbf979d7c15dda6fbe"), looks := false }, kinds := [], alts := [], laidByText := true, laidKinds := [.data, .pinned], laidTests := true, laidLooks := .later }
def FnExactCountSolutionsCardSaid : Prop := Claim7.holds Tryd.pinned (.plain (OpenSpec.ofChange fnExactCountSolutionsSpec)) fnExactCountSolutionsCard

/-- THE TIED CARD OF 'laws.FnExactPuzzleText'. -/
def fnExactPuzzleTextCard : Claim7 := { stood := { row := fnExactPuzzleTextRow, standIns := [], harness := (true, "3fb4169fbd948f3e7b39591982978f0953418898af1d01dbf979d7c15dda6fbe"), looks := false }, kinds := [], alts := [], laidByText := true, laidKinds := [.data, .data, .data, .data, .pinned], laidTests := true, laidLooks := .later }
def FnExactPuzzleTextCardSaid : Prop := Claim7.holds Tryd.pinned (.plain (OpenSpec.ofChange fnExactPuzzleTextSpec)) fnExactPuzzleTextCard

/-- THE TIED CARD OF 'laws.FnExactAllSolutions'. -/
def fnExactAllSolutionsCard : Claim7 := { stood := { row := fnExactAllSolutionsRow, standIns := [], harness := (true, "3fb4169fbd948f3e7b39591982978f0953418898af1d01dbf979d7c15dda6fbe"), looks := false }, kinds := [], alts := [], laidByText := true, laidKinds := [.data, .pinned], laidTests := true, laidLooks := .later }
def FnExactAllSolutionsCardSaid : Prop := Claim7.holds Tryd.pinned (.plain (OpenSpec.ofChange fnExactAllSolutionsSpec)) fnExactAllSolutionsCard

/-- THE TIED CARD OF 'laws.FnExactMakePuzzle'. -/
def fnExactMakePuzzleCard : Claim7 := { stood := { row := fnExactMakePuzzleRow, standIns := [], harness := (true, "3fb4169fbd948f3e7b39591982978f0953418898af1d01dbf979d7c15dda6fbe"), looks := false }, kinds := [], alts := [], laidByText := true, laidKinds := [.data, .pinned], laidTests := true, laidLooks := .later }
def FnExactMakePuzzleCardSaid : Prop := Claim7.holds Tryd.pinned (.plain (OpenSpec.ofChange fnExactMakePuzzleSpec)) fnExactMakePuzzleCard

/-- THE SECOND FORM's CARD OF 'laws.FnExactTurnPuzzle'. -/
def fnExactTurnPuzzleUptoCard : Claim7 := { stood := { row := fnExactTurnPuzzleUptoRow, standIns := [], harness := (true, "3fb4169fbd948f3e7b39591982978f0953418898af1d01dbf979d7c15dda6fbe"), looks := false }, kinds := [], alts := [], laidByText := true, laidKinds := [.data, .pinned], laidTests := true, laidLooks := .later }
def FnExactTurnPuzzleUptoCardSaid : Prop := Claim7.holds Tryd.pinned (.plain (OpenSpec.upto fnExactTurnPuzzleSpec)) fnExactTurnPuzzleUptoCard

/-- THE SECOND FORM's CARD OF 'laws.FnExactReplayOf'. -/
def fnExactReplayOfUptoCard : Claim7 := { stood := { row := fnExactReplayOfUptoRow, standIns := [], harness := (true, "3fb4169fbd948f3e7b39591982978f0953418898af1d01dbf979d7c15dda6fbe"), looks := false }, kinds := [], alts := [], laidByText := true, laidKinds := [.data, .pinned], laidTests := true, laidLooks := .later }
def FnExactReplayOfUptoCardSaid : Prop := Claim7.holds Tryd.pinned (.plain (OpenSpec.upto fnExactReplayOfSpec)) fnExactReplayOfUptoCard

/-- THE SECOND FORM's CARD OF 'laws.FnExactPrintsAlong'. -/
def fnExactPrintsAlongUptoCard : Claim7 := { stood := { row := fnExactPrintsAlongUptoRow, standIns := [], harness := (true, "3fb4169fbd948f3e7b39591982978f0953418898af1d01dbf979d7c15dda6fbe"), looks := false }, kinds := [], alts := [], laidByText := true, laidKinds := [.data, .pinned], laidTests := true, laidLooks := .later }
def FnExactPrintsAlongUptoCardSaid : Prop := Claim7.holds Tryd.pinned (.plain (OpenSpec.upto fnExactPrintsAlongSpec)) fnExactPrintsAlongUptoCard

/-- THE SECOND FORM's CARD OF 'laws.FnExactLabelsOfWord'. -/
def fnExactLabelsOfWordUptoCard : Claim7 := { stood := { row := fnExactLabelsOfWordUptoRow, standIns := [], harness := (true, "3fb4169fbd948f3e7b39591982978f0953418898af1d01dbf979d7c15dda6fbe"), looks := false }, kinds := [], alts := [], laidByText := true, laidKinds := [.data, .pinned], laidTests := true, laidLooks := .later }
def FnExactLabelsOfWordUptoCardSaid : Prop := Claim7.holds Tryd.pinned (.plain (OpenSpec.upto fnExactLabelsOfWordSpec)) fnExactLabelsOfWordUptoCard

/-- THE SECOND FORM's CARD OF 'laws.FnExactHardestGoal'. -/
def fnExactHardestGoalUptoCard : Claim7 := { stood := { row := fnExactHardestGoalUptoRow, standIns := [], harness := (true, "3fb4169fbd948f3e7b39591982978f0953418898af1d01dbf979d7c15dda6fbe"), looks := false }, kinds := [], alts := [], laidByText := true, laidKinds := [.data, .pinned], laidTests := true, laidLooks := .later }
def FnExactHardestGoalUptoCardSaid : Prop := Claim7.holds Tryd.pinned (.plain (OpenSpec.upto fnExactHardestGoalSpec)) fnExactHardestGoalUptoCard

/-- THE SECOND FORM's CARD OF 'laws.FnExactNeedlessWalls'. -/
def fnExactNeedlessWallsUptoCard : Claim7 := { stood := { row := fnExactNeedlessWallsUptoRow, standIns := [], harness := (true, "3fb4169fbd948f3e7b39591982978f0953418898af1d01dbf979d7c15dda6fbe"), looks := false }, kinds := [], alts := [], laidByText := true, laidKinds := [.data, .pinned], laidTests := true, laidLooks := .later }
def FnExactNeedlessWallsUptoCardSaid : Prop := Claim7.holds Tryd.pinned (.plain (OpenSpec.upto fnExactNeedlessWallsSpec)) fnExactNeedlessWallsUptoCard

/-- THE SECOND FORM's CARD OF 'laws.FnExactCountSolutions'. -/
def fnExactCountSolutionsUptoCard : Claim7 := { stood := { row := fnExactCountSolutionsUptoRow, standIns := [], harness := (true, "3fb4169fbd948f3e7b39591982978f0953418898af1d01dbf979d7c15dda6fbe"), looks := false }, kinds := [], alts := [], laidByText := true, laidKinds := [.data, .pinned], laidTests := true, laidLooks := .later }
def FnExactCountSolutionsUptoCardSaid : Prop := Claim7.holds Tryd.pinned (.plain (OpenSpec.upto fnExactCountSolutionsSpec)) fnExactCountSolutionsUptoCard

/-- THE SECOND FORM's CARD OF 'laws.FnExactPuzzleText'. -/
def fnExactPuzzleTextUptoCard : Claim7 := { stood := { row := fnExactPuzzleTextUptoRow, standIns := [], harness := (true, "3fb4169fbd948f3e7b39591982978f0953418898af1d01dbf979d7c15dda6fbe"), looks := false }, kinds := [], alts := [], laidByText := true, laidKinds := [.data, .data, .data, .data, .pinned], laidTests := true, laidLooks := .later }
def FnExactPuzzleTextUptoCardSaid : Prop := Claim7.holds Tryd.pinned (.plain (OpenSpec.upto fnExactPuzzleTextSpec)) fnExactPuzzleTextUptoCard

/-- THE SECOND FORM's CARD OF 'laws.FnExactAllSolutions'. -/
def fnExactAllSolutionsUptoCard : Claim7 := { stood := { row := fnExactAllSolutionsUptoRow, standIns := [], harness := (true, "3fb4169fbd948f3e7b39591982978f0953418898af1d01dbf979d7c15dda6fbe"), looks := false }, kinds := [], alts := [], laidByText := true, laidKinds := [.data, .pinned], laidTests := true, laidLooks := .later }
def FnExactAllSolutionsUptoCardSaid : Prop := Claim7.holds Tryd.pinned (.plain (OpenSpec.upto fnExactAllSolutionsSpec)) fnExactAllSolutionsUptoCard

/-- THE SECOND FORM's CARD OF 'laws.FnExactMakePuzzle'. -/
def fnExactMakePuzzleUptoCard : Claim7 := { stood := { row := fnExactMakePuzzleUptoRow, standIns := [], harness := (true, "3fb4169fbd948f3e7b39591982978f0953418898af1d01dbf979d7c15dda6fbe"), looks := false }, kinds := [], alts := [], laidByText := true, laidKinds := [.data, .pinned], laidTests := true, laidLooks := .later }
def FnExactMakePuzzleUptoCardSaid : Prop := Claim7.holds Tryd.pinned (.plain (OpenSpec.upto fnExactMakePuzzleSpec)) fnExactMakePuzzleUptoCard
end Rows
end Go.Proofs.YtooepfkfickciaaDoor
