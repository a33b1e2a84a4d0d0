/-
  DERIVED. GIVEN WITH THE SEED: THE CARDS: each row of YtabochgibgolgaaDoorRows.lean that lists a variable, with what it lists TIED to the program's text (the seventh form; the later family's looks); each row that meets fmt, with fmt's text TOLD by the authors' own Lean function (tested against real Go, not proved from fmt's source: count such statements apart). THE CARD IS WHAT COUNTS. Prove the row's statement (the work); the ties are given (YtabochgibgolgaaDoorTie.lean); close each card by the builder's one call (the guide's Derived/Test/ToyasCard.lean, 'card_holds'). Laid BY PROGRAM, IN A SANDBOX (cutbox-door.mjs). By AI agents, Wed Nov 11 2026. No macro, syntax, notation, axiom, sorry.
-/
import Derived.Test.YtabochgibgolgaaDoorRows
import GoSem.ClaimSeven
namespace Go.Proofs.YtabochgibgolgaaDoor
namespace Rows

/-- THE TIED CARD OF 'laws.FnExactIsDesk'. -/
def fnExactIsDeskCard : Claim7 := { stood := { row := fnExactIsDeskRow, standIns := [], harness := (true, "34ccf4448afbe3f282e4844d47803679ffed61f251d36fc1446e5bc9941442e8"), looks := false }, kinds := [], alts := [], laidByText := true, laidKinds := [.data, .pinned], laidTests := true, laidLooks := .later }
def FnExactIsDeskCardSaid : Prop := Claim7.holds Tryd.pinned (.plain (OpenSpec.ofChange fnExactIsDeskSpec)) fnExactIsDeskCard

/-- THE TIED CARD OF 'laws.FnExactIsPuzzle'. -/
def fnExactIsPuzzleCard : Claim7 := { stood := { row := fnExactIsPuzzleRow, standIns := [], harness := (true, "34ccf4448afbe3f282e4844d47803679ffed61f251d36fc1446e5bc9941442e8"), looks := false }, kinds := [], alts := [], laidByText := true, laidKinds := [.data, .pinned], laidTests := true, laidLooks := .later }
def FnExactIsPuzzleCardSaid : Prop := Claim7.holds Tryd.pinned (.plain (OpenSpec.ofChange fnExactIsPuzzleSpec)) fnExactIsPuzzleCard

/-- THE TIED CARD OF 'laws.FnExactTurnBoard'. -/
def fnExactTurnBoardCard : Claim7 := { stood := { row := fnExactTurnBoardRow, standIns := [], harness := (true, "34ccf4448afbe3f282e4844d47803679ffed61f251d36fc1446e5bc9941442e8"), looks := false }, kinds := [], alts := [], laidByText := true, laidKinds := [.data, .pinned], laidTests := true, laidLooks := .later }
def FnExactTurnBoardCardSaid : Prop := Claim7.holds Tryd.pinned (.plain (OpenSpec.ofChange fnExactTurnBoardSpec)) fnExactTurnBoardCard

/-- THE TIED CARD OF 'laws.FnExactTurnGround'. -/
def fnExactTurnGroundCard : Claim7 := { stood := { row := fnExactTurnGroundRow, standIns := [], harness := (true, "34ccf4448afbe3f282e4844d47803679ffed61f251d36fc1446e5bc9941442e8"), looks := false }, kinds := [], alts := [], laidByText := true, laidKinds := [.data, .pinned], laidTests := true, laidLooks := .later }
def FnExactTurnGroundCardSaid : Prop := Claim7.holds Tryd.pinned (.plain (OpenSpec.ofChange fnExactTurnGroundSpec)) fnExactTurnGroundCard

/-- THE TIED CARD OF 'laws.FnExactFloorOfLabels'. -/
def fnExactFloorOfLabelsCard : Claim7 := { stood := { row := fnExactFloorOfLabelsRow, standIns := [], harness := (true, "34ccf4448afbe3f282e4844d47803679ffed61f251d36fc1446e5bc9941442e8"), looks := false }, kinds := [], alts := [], laidByText := true, laidKinds := [.data, .pinned], laidTests := true, laidLooks := .later }
def FnExactFloorOfLabelsCardSaid : Prop := Claim7.holds Tryd.pinned (.plain (OpenSpec.ofChange fnExactFloorOfLabelsSpec)) fnExactFloorOfLabelsCard

/-- THE TIED CARD OF 'laws.FnExactTurnLabelled'. -/
def fnExactTurnLabelledCard : Claim7 := { stood := { row := fnExactTurnLabelledRow, standIns := [], harness := (true, "34ccf4448afbe3f282e4844d47803679ffed61f251d36fc1446e5bc9941442e8"), looks := false }, kinds := [], alts := [], laidByText := true, laidKinds := [.data, .pinned], laidTests := true, laidLooks := .later }
def FnExactTurnLabelledCardSaid : Prop := Claim7.holds Tryd.pinned (.plain (OpenSpec.ofChange fnExactTurnLabelledSpec)) fnExactTurnLabelledCard

/-- THE TIED CARD OF 'laws.FnExactIsSolvedBy'. -/
def fnExactIsSolvedByCard : Claim7 := { stood := { row := fnExactIsSolvedByRow, standIns := [], harness := (true, "34ccf4448afbe3f282e4844d47803679ffed61f251d36fc1446e5bc9941442e8"), looks := false }, kinds := [], alts := [], laidByText := true, laidKinds := [.data, .pinned], laidTests := true, laidLooks := .later }
def FnExactIsSolvedByCardSaid : Prop := Claim7.holds Tryd.pinned (.plain (OpenSpec.ofChange fnExactIsSolvedBySpec)) fnExactIsSolvedByCard

/-- THE TIED CARD OF 'laws.FnExactFirstSolved'. -/
def fnExactFirstSolvedCard : Claim7 := { stood := { row := fnExactFirstSolvedRow, standIns := [], harness := (true, "34ccf4448afbe3f282e4844d47803679ffed61f251d36fc1446e5bc9941442e8"), looks := false }, kinds := [], alts := [], laidByText := true, laidKinds := [.data, .pinned], laidTests := true, laidLooks := .later }
def FnExactFirstSolvedCardSaid : Prop := Claim7.holds Tryd.pinned (.plain (OpenSpec.ofChange fnExactFirstSolvedSpec)) fnExactFirstSolvedCard

/-- THE TIED CARD OF 'laws.FnExactLengthOf'. -/
def fnExactLengthOfCard : Claim7 := { stood := { row := fnExactLengthOfRow, standIns := [], harness := (true, "34ccf4448afbe3f282e4844d47803679ffed61f251d36fc1446e5bc9941442e8"), looks := false }, kinds := [], alts := [], laidByText := true, laidKinds := [.data, .pinned], laidTests := true, laidLooks := .later }
def FnExactLengthOfCardSaid : Prop := Claim7.holds Tryd.pinned (.plain (OpenSpec.ofChange fnExactLengthOfSpec)) fnExactLengthOfCard

/-- THE TIED CARD OF 'laws.FnExactSolutionOf'. -/
def fnExactSolutionOfCard : Claim7 := { stood := { row := fnExactSolutionOfRow, standIns := [], harness := (true, "34ccf4448afbe3f282e4844d47803679ffed61f251d36fc1446e5bc9941442e8"), looks := false }, kinds := [], alts := [], laidByText := true, laidKinds := [.data, .pinned], laidTests := true, laidLooks := .later }
def FnExactSolutionOfCardSaid : Prop := Claim7.holds Tryd.pinned (.plain (OpenSpec.ofChange fnExactSolutionOfSpec)) fnExactSolutionOfCard

/-- THE SECOND FORM's CARD OF 'laws.FnExactIsDesk'. -/
def fnExactIsDeskUptoCard : Claim7 := { stood := { row := fnExactIsDeskUptoRow, standIns := [], harness := (true, "34ccf4448afbe3f282e4844d47803679ffed61f251d36fc1446e5bc9941442e8"), looks := false }, kinds := [], alts := [], laidByText := true, laidKinds := [.data, .pinned], laidTests := true, laidLooks := .later }
def FnExactIsDeskUptoCardSaid : Prop := Claim7.holds Tryd.pinned (.plain (OpenSpec.upto fnExactIsDeskSpec)) fnExactIsDeskUptoCard

/-- THE SECOND FORM's CARD OF 'laws.FnExactIsPuzzle'. -/
def fnExactIsPuzzleUptoCard : Claim7 := { stood := { row := fnExactIsPuzzleUptoRow, standIns := [], harness := (true, "34ccf4448afbe3f282e4844d47803679ffed61f251d36fc1446e5bc9941442e8"), looks := false }, kinds := [], alts := [], laidByText := true, laidKinds := [.data, .pinned], laidTests := true, laidLooks := .later }
def FnExactIsPuzzleUptoCardSaid : Prop := Claim7.holds Tryd.pinned (.plain (OpenSpec.upto fnExactIsPuzzleSpec)) fnExactIsPuzzleUptoCard

/-- THE SECOND FORM's CARD OF 'laws.FnExactTurnBoard'. -/
def fnExactTurnBoardUptoCard : Claim7 := { stood := { row := fnExactTurnBoardUptoRow, standIns := [], harness := (true, "34ccf4448afbe3f282e4844d47803679ffed61f251d36fc1446e5bc9941442e8"), looks := false }, kinds := [], alts := [], laidByText := true, laidKinds := [.data, .pinned], laidTests := true, laidLooks := .later }
def FnExactTurnBoardUptoCardSaid : Prop := Claim7.holds Tryd.pinned (.plain (OpenSpec.upto fnExactTurnBoardSpec)) fnExactTurnBoardUptoCard

/-- THE SECOND FORM's CARD OF 'laws.FnExactTurnGround'. -/
def fnExactTurnGroundUptoCard : Claim7 := { stood := { row := fnExactTurnGroundUptoRow, standIns := [], harness := (true, "34ccf4448afbe3f282e4844d47803679ffed61f251d36fc1446e5bc9941442e8"), looks := false }, kinds := [], alts := [], laidByText := true, laidKinds := [.data, .pinned], laidTests := true, laidLooks := .later }
def FnExactTurnGroundUptoCardSaid : Prop := Claim7.holds Tryd.pinned (.plain (OpenSpec.upto fnExactTurnGroundSpec)) fnExactTurnGroundUptoCard

/-- THE SECOND FORM's CARD OF 'laws.FnExactFloorOfLabels'. -/
def fnExactFloorOfLabelsUptoCard : Claim7 := { stood := { row := fnExactFloorOfLabelsUptoRow, standIns := [], harness := (true, "34ccf4448afbe3f282e4844d47803679ffed61f251d36fc1446e5bc9941442e8"), looks := false }, kinds := [], alts := [], laidByText := true, laidKinds := [.data, .pinned], laidTests := true, laidLooks := .later }
def FnExactFloorOfLabelsUptoCardSaid : Prop := Claim7.holds Tryd.pinned (.plain (OpenSpec.upto fnExactFloorOfLabelsSpec)) fnExactFloorOfLabelsUptoCard

/-- THE SECOND FORM's CARD OF 'laws.FnExactTurnLabelled'. -/
def fnExactTurnLabelledUptoCard : Claim7 := { stood := { row := fnExactTurnLabelledUptoRow, standIns := [], harness := (true, "34ccf4448afbe3f282e4844d47803679ffed61f251d36fc1446e5bc9941442e8"), looks := false }, kinds := [], alts := [], laidByText := true, laidKinds := [.data, .pinned], laidTests := true, laidLooks := .later }
def FnExactTurnLabelledUptoCardSaid : Prop := Claim7.holds Tryd.pinned (.plain (OpenSpec.upto fnExactTurnLabelledSpec)) fnExactTurnLabelledUptoCard

/-- THE SECOND FORM's CARD OF 'laws.FnExactIsSolvedBy'. -/
def fnExactIsSolvedByUptoCard : Claim7 := { stood := { row := fnExactIsSolvedByUptoRow, standIns := [], harness := (true, "34ccf4448afbe3f282e4844d47803679ffed61f251d36fc1446e5bc9941442e8"), looks := false }, kinds := [], alts := [], laidByText := true, laidKinds := [.data, .pinned], laidTests := true, laidLooks := .later }
def FnExactIsSolvedByUptoCardSaid : Prop := Claim7.holds Tryd.pinned (.plain (OpenSpec.upto fnExactIsSolvedBySpec)) fnExactIsSolvedByUptoCard

/-- THE SECOND FORM's CARD OF 'laws.FnExactFirstSolved'. -/
def fnExactFirstSolvedUptoCard : Claim7 := { stood := { row := fnExactFirstSolvedUptoRow, standIns := [], harness := (true, "34ccf4448afbe3f282e4844d47803679ffed61f251d36fc1446e5bc9941442e8"), looks := false }, kinds := [], alts := [], laidByText := true, laidKinds := [.data, .pinned], laidTests := true, laidLooks := .later }
def FnExactFirstSolvedUptoCardSaid : Prop := Claim7.holds Tryd.pinned (.plain (OpenSpec.upto fnExactFirstSolvedSpec)) fnExactFirstSolvedUptoCard

/-- THE SECOND FORM's CARD OF 'laws.FnExactLengthOf'. -/
def fnExactLengthOfUptoCard : Claim7 := { stood := { row := fnExactLengthOfUptoRow, standIns := [], harness := (true, "34ccf4448afbe3f282e4844d47803679ffed61f251d36fc1446e5bc9941442e8"), looks := false }, kinds := [], alts := [], laidByText := true, laidKinds := [.data, .pinned], laidTests := true, laidLooks := .later }
def FnExactLengthOfUptoCardSaid : Prop := Claim7.holds Tryd.pinned (.plain (OpenSpec.upto fnExactLengthOfSpec)) fnExactLengthOfUptoCard

/-- THE SECOND FORM's CARD OF 'laws.FnExactSolutionOf'. -/
def fnExactSolutionOfUptoCard : Claim7 := { stood := { row := fnExactSolutionOfUptoRow, standIns := [], harness := (true, "34ccf4448afbe3f282e4844d47803679ffed61f251d36fc1446e5bc9941442e8"), looks := false }, kinds := [], alts := [], laidByText := true, laidKinds := [.data, .pinned], laidTests := true, laidLooks := .later }
def FnExactSolutionOfUptoCardSaid : Prop := Claim7.holds Tryd.pinned (.plain (OpenSpec.upto fnExactSolutionOfSpec)) fnExactSolutionOfUptoCard
end Rows
end Go.Proofs.YtabochgibgolgaaDoor
