/-
  DERIVED. GIVEN WITH THE SEED: THE CARDS: each row of YtgnepgenefcnpaaGreatDoorRows.lean that lists a variable, with what it lists TIED to the program's text (the seventh form; the later family's looks); each row that meets fmt, with fmt's text TOLD by the authors' own Lean function (tested against real Go, not proved from fmt's source: count such statements apart). THE CARD IS WHAT COUNTS. Prove the row's statement (the work); the ties are given (YtgnepgenefcnpaaGreatDoorTie.lean); close each card by the builder's one call (the guide's Derived/Test/ToyasCard.lean, 'card_holds'). Laid BY PROGRAM, IN A SANDBOX (cutbox-door.mjs). By AI agents, Wed Nov 11 2026. No macro, syntax, notation, axiom, sorry.
-/
import Derived.Test.YtgnepgenefcnpaaGreatDoorRows
import GoSem.ClaimSeven
namespace Go.Proofs.YtgnepgenefcnpaaGreatDoor
namespace Rows

/-- THE TIED CARD OF 'amblelaw01.ExactReads'. -/
def exactReadsCard : Claim7 := { stood := { row := exactReadsRow, standIns := [], harness := (true, "8bda451d2dc9f473a89e44847a5b0bd84339d99a2acb6b2f94f1282031d25d93"), looks := false }, kinds := [], alts := [], laidByText := true, laidKinds := [.data, .pinned], laidTests := true, laidLooks := .later }
def ExactReadsCardSaid : Prop := Claim7.holds Tryz.pinned (.plain (OpenSpec.ofChange exactReadsSpec)) exactReadsCard

/-- THE TIED CARD OF 'amblelaw01.ExactNears'. -/
def exactNearsCard : Claim7 := { stood := { row := exactNearsRow, standIns := [], harness := (true, "8bda451d2dc9f473a89e44847a5b0bd84339d99a2acb6b2f94f1282031d25d93"), looks := false }, kinds := [], alts := [], laidByText := true, laidKinds := [.data, .pinned], laidTests := true, laidLooks := .later }
def ExactNearsCardSaid : Prop := Claim7.holds Tryz.pinned (.plain (OpenSpec.ofChange exactNearsSpec)) exactNearsCard

/-- THE TIED CARD OF 'amblelaw01.ExactTexts'. -/
def exactTextsCard : Claim7 := { stood := { row := exactTextsRow, standIns := [], harness := (true, "8bda451d2dc9f473a89e44847a5b0bd84339d99a2acb6b2f94f1282031d25d93"), looks := false }, kinds := [], alts := [], laidByText := true, laidKinds := [.data, .pinned], laidTests := true, laidLooks := .later }
def ExactTextsCardSaid : Prop := Claim7.holds Tryz.pinned (.plain (OpenSpec.ofChange exactTextsSpec)) exactTextsCard

/-- THE TIED CARD OF 'amblelaw01.ExactOps'. -/
def exactOpsCard : Claim7 := { stood := { row := exactOpsRow, standIns := [], harness := (true, "8bda451d2dc9f473a89e44847a5b0bd84339d99a2acb6b2f94f1282031d25d93"), looks := false }, kinds := [], alts := [], laidByText := true, laidKinds := [.data, .pinned], laidTests := true, laidLooks := .later }
def ExactOpsCardSaid : Prop := Claim7.holds Tryz.pinned (.plain (OpenSpec.ofChange exactOpsSpec)) exactOpsCard

/-- THE TIED CARD OF 'amblelaw01.ExactField'. -/
def exactFieldCard : Claim7 := { stood := { row := exactFieldRow, standIns := [], harness := (true, "8bda451d2dc9f473a89e44847a5b0bd84339d99a2acb6b2f94f1282031d25d93"), looks := false }, kinds := [], alts := [], laidByText := true, laidKinds := [.data, .pinned], laidTests := true, laidLooks := .later }
def ExactFieldCardSaid : Prop := Claim7.holds Tryz.pinned (.plain (OpenSpec.ofChange exactFieldSpec)) exactFieldCard

/-- THE TIED CARD OF 'amblelaw01.ExactFolds'. -/
def exactFoldsCard : Claim7 := { stood := { row := exactFoldsRow, standIns := [], harness := (true, "8bda451d2dc9f473a89e44847a5b0bd84339d99a2acb6b2f94f1282031d25d93"), looks := false }, kinds := [], alts := [], laidByText := true, laidKinds := [.data, .pinned], laidTests := true, laidLooks := .later }
def ExactFoldsCardSaid : Prop := Claim7.holds Tryz.pinned (.plain (OpenSpec.ofChange exactFoldsSpec)) exactFoldsCard

/-- THE TIED CARD OF 'amblelaw01.ExactTurns'. -/
def exactTurnsCard : Claim7 := { stood := { row := exactTurnsRow, standIns := [], harness := (true, "8bda451d2dc9f473a89e44847a5b0bd84339d99a2acb6b2f94f1282031d25d93"), looks := false }, kinds := [], alts := [], laidByText := true, laidKinds := [.data, .pinned], laidTests := true, laidLooks := .later }
def ExactTurnsCardSaid : Prop := Claim7.holds Tryz.pinned (.plain (OpenSpec.ofChange exactTurnsSpec)) exactTurnsCard

/-- THE TIED CARD OF 'amblelaw01.ExactParts'. -/
def exactPartsCard : Claim7 := { stood := { row := exactPartsRow, standIns := [], harness := (true, "8bda451d2dc9f473a89e44847a5b0bd84339d99a2acb6b2f94f1282031d25d93"), looks := false }, kinds := [], alts := [], laidByText := true, laidKinds := [.data, .pinned], laidTests := true, laidLooks := .later }
def ExactPartsCardSaid : Prop := Claim7.holds Tryz.pinned (.plain (OpenSpec.ofChange exactPartsSpec)) exactPartsCard

/-- THE TIED CARD OF 'amblelaw01.ExactPoints'. -/
def exactPointsCard : Claim7 := { stood := { row := exactPointsRow, standIns := [], harness := (true, "8bda451d2dc9f473a89e44847a5b0bd84339d99a2acb6b2f94f1282031d25d93"), looks := false }, kinds := [], alts := [], laidByText := true, laidKinds := [.data, .pinned], laidTests := true, laidLooks := .later }
def ExactPointsCardSaid : Prop := Claim7.holds Tryz.pinned (.plain (OpenSpec.ofChange exactPointsSpec)) exactPointsCard

/-- THE TIED CARD OF 'amblelaw01.ExactRounds'. -/
def exactRoundsCard : Claim7 := { stood := { row := exactRoundsRow, standIns := [], harness := (true, "8bda451d2dc9f473a89e44847a5b0bd84339d99a2acb6b2f94f1282031d25d93"), looks := false }, kinds := [], alts := [], laidByText := true, laidKinds := [.data, .pinned], laidTests := true, laidLooks := .later }
def ExactRoundsCardSaid : Prop := Claim7.holds Tryz.pinned (.plain (OpenSpec.ofChange exactRoundsSpec)) exactRoundsCard

/-- THE TIED CARD OF 'amblelaw01.ExactQuadratics'. -/
def exactQuadraticsCard : Claim7 := { stood := { row := exactQuadraticsRow, standIns := [], harness := (true, "8bda451d2dc9f473a89e44847a5b0bd84339d99a2acb6b2f94f1282031d25d93"), looks := false }, kinds := [], alts := [], laidByText := true, laidKinds := [.data, .pinned], laidTests := true, laidLooks := .later }
def ExactQuadraticsCardSaid : Prop := Claim7.holds Tryz.pinned (.plain (OpenSpec.ofChange exactQuadraticsSpec)) exactQuadraticsCard

/-- THE TIED CARD OF 'amblelaw01.ExactMats'. -/
def exactMatsCard : Claim7 := { stood := { row := exactMatsRow, standIns := [], harness := (true, "8bda451d2dc9f473a89e44847a5b0bd84339d99a2acb6b2f94f1282031d25d93"), looks := false }, kinds := [], alts := [], laidByText := true, laidKinds := [.data, .pinned], laidTests := true, laidLooks := .later }
def ExactMatsCardSaid : Prop := Claim7.holds Tryz.pinned (.plain (OpenSpec.ofChange exactMatsSpec)) exactMatsCard

/-- THE TIED CARD OF 'amblelaw01.ExactZeros'. -/
def exactZerosCard : Claim7 := { stood := { row := exactZerosRow, standIns := [], harness := (true, "8bda451d2dc9f473a89e44847a5b0bd84339d99a2acb6b2f94f1282031d25d93"), looks := false }, kinds := [], alts := [], laidByText := true, laidKinds := [.data, .pinned], laidTests := true, laidLooks := .later }
def ExactZerosCardSaid : Prop := Claim7.holds Tryz.pinned (.plain (OpenSpec.ofChange exactZerosSpec)) exactZerosCard

/-- THE TIED CARD OF 'amblelaw01.ExactSurds'. -/
def exactSurdsCard : Claim7 := { stood := { row := exactSurdsRow, standIns := [], harness := (true, "8bda451d2dc9f473a89e44847a5b0bd84339d99a2acb6b2f94f1282031d25d93"), looks := false }, kinds := [], alts := [], laidByText := true, laidKinds := [.data, .pinned], laidTests := true, laidLooks := .later }
def ExactSurdsCardSaid : Prop := Claim7.holds Tryz.pinned (.plain (OpenSpec.ofChange exactSurdsSpec)) exactSurdsCard

/-- THE TIED CARD OF 'amblelaw01.ExactSolves'. -/
def exactSolvesCard : Claim7 := { stood := { row := exactSolvesRow, standIns := [], harness := (true, "8bda451d2dc9f473a89e44847a5b0bd84339d99a2acb6b2f94f1282031d25d93"), looks := false }, kinds := [], alts := [], laidByText := true, laidKinds := [.data, .pinned], laidTests := true, laidLooks := .later }
def ExactSolvesCardSaid : Prop := Claim7.holds Tryz.pinned (.plain (OpenSpec.ofChange exactSolvesSpec)) exactSolvesCard

/-- THE TIED CARD OF 'amblelaw01.ExactForms'. -/
def exactFormsCard : Claim7 := { stood := { row := exactFormsRow, standIns := [], harness := (true, "8bda451d2dc9f473a89e44847a5b0bd84339d99a2acb6b2f94f1282031d25d93"), looks := false }, kinds := [], alts := [], laidByText := true, laidKinds := [.data, .pinned], laidTests := true, laidLooks := .later }
def ExactFormsCardSaid : Prop := Claim7.holds Tryz.pinned (.plain (OpenSpec.ofChange exactFormsSpec)) exactFormsCard

/-- THE TIED CARD OF 'amblelaw01.ExactDets'. -/
def exactDetsCard : Claim7 := { stood := { row := exactDetsRow, standIns := [], harness := (true, "8bda451d2dc9f473a89e44847a5b0bd84339d99a2acb6b2f94f1282031d25d93"), looks := false }, kinds := [], alts := [], laidByText := true, laidKinds := [.data, .pinned], laidTests := true, laidLooks := .later }
def ExactDetsCardSaid : Prop := Claim7.holds Tryz.pinned (.plain (OpenSpec.ofChange exactDetsSpec)) exactDetsCard

/-- THE TIED CARD OF 'amblelaw01.ExactSolutions'. -/
def exactSolutionsCard : Claim7 := { stood := { row := exactSolutionsRow, standIns := [], harness := (true, "8bda451d2dc9f473a89e44847a5b0bd84339d99a2acb6b2f94f1282031d25d93"), looks := false }, kinds := [], alts := [], laidByText := true, laidKinds := [.data, .pinned], laidTests := true, laidLooks := .later }
def ExactSolutionsCardSaid : Prop := Claim7.holds Tryz.pinned (.plain (OpenSpec.ofChange exactSolutionsSpec)) exactSolutionsCard

/-- THE TIED CARD OF 'amblelaw01.ExactNames'. -/
def exactNamesCard : Claim7 := { stood := { row := exactNamesRow, standIns := [], harness := (true, "8bda451d2dc9f473a89e44847a5b0bd84339d99a2acb6b2f94f1282031d25d93"), looks := false }, kinds := [], alts := [], laidByText := true, laidKinds := [.data, .pinned], laidTests := true, laidLooks := .later }
def ExactNamesCardSaid : Prop := Claim7.holds Tryz.pinned (.plain (OpenSpec.ofChange exactNamesSpec)) exactNamesCard

/-- THE SECOND FORM's CARD OF 'amblelaw01.ExactReads'. -/
def exactReadsUptoCard : Claim7 := { stood := { row := exactReadsUptoRow, standIns := [], harness := (true, "8bda451d2dc9f473a89e44847a5b0bd84339d99a2acb6b2f94f1282031d25d93"), looks := false }, kinds := [], alts := [], laidByText := true, laidKinds := [.data, .pinned], laidTests := true, laidLooks := .later }
def ExactReadsUptoCardSaid : Prop := Claim7.holds Tryz.pinned (.plain (OpenSpec.upto exactReadsSpec)) exactReadsUptoCard

/-- THE SECOND FORM's CARD OF 'amblelaw01.ExactNears'. -/
def exactNearsUptoCard : Claim7 := { stood := { row := exactNearsUptoRow, standIns := [], harness := (true, "8bda451d2dc9f473a89e44847a5b0bd84339d99a2acb6b2f94f1282031d25d93"), looks := false }, kinds := [], alts := [], laidByText := true, laidKinds := [.data, .pinned], laidTests := true, laidLooks := .later }
def ExactNearsUptoCardSaid : Prop := Claim7.holds Tryz.pinned (.plain (OpenSpec.upto exactNearsSpec)) exactNearsUptoCard

/-- THE SECOND FORM's CARD OF 'amblelaw01.ExactTexts'. -/
def exactTextsUptoCard : Claim7 := { stood := { row := exactTextsUptoRow, standIns := [], harness := (true, "8bda451d2dc9f473a89e44847a5b0bd84339d99a2acb6b2f94f1282031d25d93"), looks := false }, kinds := [], alts := [], laidByText := true, laidKinds := [.data, .pinned], laidTests := true, laidLooks := .later }
def ExactTextsUptoCardSaid : Prop := Claim7.holds Tryz.pinned (.plain (OpenSpec.upto exactTextsSpec)) exactTextsUptoCard

/-- THE SECOND FORM's CARD OF 'amblelaw01.ExactOps'. -/
def exactOpsUptoCard : Claim7 := { stood := { row := exactOpsUptoRow, standIns := [], harness := (true, "8bda451d2dc9f473a89e44847a5b0bd84339d99a2acb6b2f94f1282031d25d93"), looks := false }, kinds := [], alts := [], laidByText := true, laidKinds := [.data, .pinned], laidTests := true, laidLooks := .later }
def ExactOpsUptoCardSaid : Prop := Claim7.holds Tryz.pinned (.plain (OpenSpec.upto exactOpsSpec)) exactOpsUptoCard

/-- THE SECOND FORM's CARD OF 'amblelaw01.ExactField'. -/
def exactFieldUptoCard : Claim7 := { stood := { row := exactFieldUptoRow, standIns := [], harness := (true, "8bda451d2dc9f473a89e44847a5b0bd84339d99a2acb6b2f94f1282031d25d93"), looks := false }, kinds := [], alts := [], laidByText := true, laidKinds := [.data, .pinned], laidTests := true, laidLooks := .later }
def ExactFieldUptoCardSaid : Prop := Claim7.holds Tryz.pinned (.plain (OpenSpec.upto exactFieldSpec)) exactFieldUptoCard

/-- THE SECOND FORM's CARD OF 'amblelaw01.ExactFolds'. -/
def exactFoldsUptoCard : Claim7 := { stood := { row := exactFoldsUptoRow, standIns := [], harness := (true, "8bda451d2dc9f473a89e44847a5b0bd84339d99a2acb6b2f94f1282031d25d93"), looks := false }, kinds := [], alts := [], laidByText := true, laidKinds := [.data, .pinned], laidTests := true, laidLooks := .later }
def ExactFoldsUptoCardSaid : Prop := Claim7.holds Tryz.pinned (.plain (OpenSpec.upto exactFoldsSpec)) exactFoldsUptoCard

/-- THE SECOND FORM's CARD OF 'amblelaw01.ExactTurns'. -/
def exactTurnsUptoCard : Claim7 := { stood := { row := exactTurnsUptoRow, standIns := [], harness := (true, "8bda451d2dc9f473a89e44847a5b0bd84339d99a2acb6b2f94f1282031d25d93"), looks := false }, kinds := [], alts := [], laidByText := true, laidKinds := [.data, .pinned], laidTests := true, laidLooks := .later }
def ExactTurnsUptoCardSaid : Prop := Claim7.holds Tryz.pinned (.plain (OpenSpec.upto exactTurnsSpec)) exactTurnsUptoCard

/-- THE SECOND FORM's CARD OF 'amblelaw01.ExactParts'. -/
def exactPartsUptoCard : Claim7 := { stood := { row := exactPartsUptoRow, standIns := [], harness := (true, "8bda451d2dc9f473a89e44847a5b0bd84339d99a2acb6b2f94f1282031d25d93"), looks := false }, kinds := [], alts := [], laidByText := true, laidKinds := [.data, .pinned], laidTests := true, laidLooks := .later }
def ExactPartsUptoCardSaid : Prop := Claim7.holds Tryz.pinned (.plain (OpenSpec.upto exactPartsSpec)) exactPartsUptoCard

/-- THE SECOND FORM's CARD OF 'amblelaw01.ExactPoints'. -/
def exactPointsUptoCard : Claim7 := { stood := { row := exactPointsUptoRow, standIns := [], harness := (true, "8bda451d2dc9f473a89e44847a5b0bd84339d99a2acb6b2f94f1282031d25d93"), looks := false }, kinds := [], alts := [], laidByText := true, laidKinds := [.data, .pinned], laidTests := true, laidLooks := .later }
def ExactPointsUptoCardSaid : Prop := Claim7.holds Tryz.pinned (.plain (OpenSpec.upto exactPointsSpec)) exactPointsUptoCard

/-- THE SECOND FORM's CARD OF 'amblelaw01.ExactRounds'. -/
def exactRoundsUptoCard : Claim7 := { stood := { row := exactRoundsUptoRow, standIns := [], harness := (true, "8bda451d2dc9f473a89e44847a5b0bd84339d99a2acb6b2f94f1282031d25d93"), looks := false }, kinds := [], alts := [], laidByText := true, laidKinds := [.data, .pinned], laidTests := true, laidLooks := .later }
def ExactRoundsUptoCardSaid : Prop := Claim7.holds Tryz.pinned (.plain (OpenSpec.upto exactRoundsSpec)) exactRoundsUptoCard

/-- THE SECOND FORM's CARD OF 'amblelaw01.ExactQuadratics'. -/
def exactQuadraticsUptoCard : Claim7 := { stood := { row := exactQuadraticsUptoRow, standIns := [], harness := (true, "8bda451d2dc9f473a89e44847a5b0bd84339d99a2acb6b2f94f1282031d25d93"), looks := false }, kinds := [], alts := [], laidByText := true, laidKinds := [.data, .pinned], laidTests := true, laidLooks := .later }
def ExactQuadraticsUptoCardSaid : Prop := Claim7.holds Tryz.pinned (.plain (OpenSpec.upto exactQuadraticsSpec)) exactQuadraticsUptoCard

/-- THE SECOND FORM's CARD OF 'amblelaw01.ExactMats'. -/
def exactMatsUptoCard : Claim7 := { stood := { row := exactMatsUptoRow, standIns := [], harness := (true, "8bda451d2dc9f473a89e44847a5b0bd84339d99a2acb6b2f94f1282031d25d93"), looks := false }, kinds := [], alts := [], laidByText := true, laidKinds := [.data, .pinned], laidTests := true, laidLooks := .later }
def ExactMatsUptoCardSaid : Prop := Claim7.holds Tryz.pinned (.plain (OpenSpec.upto exactMatsSpec)) exactMatsUptoCard

/-- THE SECOND FORM's CARD OF 'amblelaw01.ExactZeros'. -/
def exactZerosUptoCard : Claim7 := { stood := { row := exactZerosUptoRow, standIns := [], harness := (true, "8bda451d2dc9f473a89e44847a5b0bd84339d99a2acb6b2f94f1282031d25d93"), looks := false }, kinds := [], alts := [], laidByText := true, laidKinds := [.data, .pinned], laidTests := true, laidLooks := .later }
def ExactZerosUptoCardSaid : Prop := Claim7.holds Tryz.pinned (.plain (OpenSpec.upto exactZerosSpec)) exactZerosUptoCard

/-- THE SECOND FORM's CARD OF 'amblelaw01.ExactSurds'. -/
def exactSurdsUptoCard : Claim7 := { stood := { row := exactSurdsUptoRow, standIns := [], harness := (true, "8bda451d2dc9f473a89e44847a5b0bd84339d99a2acb6b2f94f1282031d25d93"), looks := false }, kinds := [], alts := [], laidByText := true, laidKinds := [.data, .pinned], laidTests := true, laidLooks := .later }
def ExactSurdsUptoCardSaid : Prop := Claim7.holds Tryz.pinned (.plain (OpenSpec.upto exactSurdsSpec)) exactSurdsUptoCard

/-- THE SECOND FORM's CARD OF 'amblelaw01.ExactSolves'. -/
def exactSolvesUptoCard : Claim7 := { stood := { row := exactSolvesUptoRow, standIns := [], harness := (true, "8bda451d2dc9f473a89e44847a5b0bd84339d99a2acb6b2f94f1282031d25d93"), looks := false }, kinds := [], alts := [], laidByText := true, laidKinds := [.data, .pinned], laidTests := true, laidLooks := .later }
def ExactSolvesUptoCardSaid : Prop := Claim7.holds Tryz.pinned (.plain (OpenSpec.upto exactSolvesSpec)) exactSolvesUptoCard

/-- THE SECOND FORM's CARD OF 'amblelaw01.ExactForms'. -/
def exactFormsUptoCard : Claim7 := { stood := { row := exactFormsUptoRow, standIns := [], harness := (true, "8bda451d2dc9f473a89e44847a5b0bd84339d99a2acb6b2f94f1282031d25d93"), looks := false }, kinds := [], alts := [], laidByText := true, laidKinds := [.data, .pinned], laidTests := true, laidLooks := .later }
def ExactFormsUptoCardSaid : Prop := Claim7.holds Tryz.pinned (.plain (OpenSpec.upto exactFormsSpec)) exactFormsUptoCard

/-- THE SECOND FORM's CARD OF 'amblelaw01.ExactDets'. -/
def exactDetsUptoCard : Claim7 := { stood := { row := exactDetsUptoRow, standIns := [], harness := (true, "8bda451d2dc9f473a89e44847a5b0bd84339d99a2acb6b2f94f1282031d25d93"), looks := false }, kinds := [], alts := [], laidByText := true, laidKinds := [.data, .pinned], laidTests := true, laidLooks := .later }
def ExactDetsUptoCardSaid : Prop := Claim7.holds Tryz.pinned (.plain (OpenSpec.upto exactDetsSpec)) exactDetsUptoCard

/-- THE SECOND FORM's CARD OF 'amblelaw01.ExactSolutions'. -/
def exactSolutionsUptoCard : Claim7 := { stood := { row := exactSolutionsUptoRow, standIns := [], harness := (true, "8bda451d2dc9f473a89e44847a5b0bd84339d99a2acb6b2f94f1282031d25d93"), looks := false }, kinds := [], alts := [], laidByText := true, laidKinds := [.data, .pinned], laidTests := true, laidLooks := .later }
def ExactSolutionsUptoCardSaid : Prop := Claim7.holds Tryz.pinned (.plain (OpenSpec.upto exactSolutionsSpec)) exactSolutionsUptoCard

/-- THE SECOND FORM's CARD OF 'amblelaw01.ExactNames'. -/
def exactNamesUptoCard : Claim7 := { stood := { row := exactNamesUptoRow, standIns := [], harness := (true, "8bda451d2dc9f473a89e44847a5b0bd84339d99a2acb6b2f94f1282031d25d93"), looks := false }, kinds := [], alts := [], laidByText := true, laidKinds := [.data, .pinned], laidTests := true, laidLooks := .later }
def ExactNamesUptoCardSaid : Prop := Claim7.holds Tryz.pinned (.plain (OpenSpec.upto exactNamesSpec)) exactNamesUptoCard
end Rows
end Go.Proofs.YtgnepgenefcnpaaGreatDoor
