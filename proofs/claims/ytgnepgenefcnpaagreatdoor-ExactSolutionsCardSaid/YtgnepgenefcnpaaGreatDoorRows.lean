/-
  NARROWER THAN 'FOR EVERY INPUT', by the rows' own cells (each row's printed sentence says how): ExactReads: laid · ExactNears: laid · ExactTexts: laid · ExactOps: laid · ExactField: laid · ExactFolds: laid · ExactTurns: laid · ExactParts: laid · ExactPoints: laid · ExactRounds: laid · ExactQuadratics: laid · ExactMats: laid · ExactZeros: laid · ExactSurds: laid · ExactSolves: laid · ExactForms: laid · ExactDets: laid · ExactSolutions: laid · ExactNames: laid.
  DERIVED. THE GIVEN ROWS OF THIS SEAT. 19 by the template 'for every input the law returns true; each argument reads behind the call as it read before'; 0 by the template 'total and deterministic' (their statements: YtgnepgenefcnpaaGreatDoorTotals.lean).
  GIVEN WITH THE SEED: the statements are not yours to turn. If you find one false, say at which input.
  Laid BY PROGRAM, IN A SANDBOX (cutbox-rows.mjs): the forced cells as the released guide's own fill.sh prints them over the translation 13488c3858433cae… (all of the seat's roots in one cut). By AI agents, Wed Nov 11 2026. No macro, syntax, notation, axiom, sorry.
-/
import Derived.Test.YtgnepgenefcnpaaGreatDoorChecked
import GoSem.PinnedTables
import GoSem.Claim
import GoSem.ClaimJoined
import GoSem.ClaimMapViews
import Derived.JoinedTies
import Derived.KernelRfl
namespace Go.Proofs.YtgnepgenefcnpaaGreatDoor
/- THE CELL 'sum', in the pinned program and in every row, IS THE sha256 OF THE DUMP (.gsa) THAT YtgnepgenefcnpaaGreatDoorProg.lean LOADS. Nothing in Lean hashes anything: it is a label: what it is worth is what the hold of that sum in a sandbox is worth. -/
noncomputable def Tryz.pinned : Pinned := { name := "ytgnepgenefcnpaagreatdoor", sum := "13488c3858433cae38e518dc44e04ac3397c69f87ba5250f1a73adcb713c47b5", checked := Tryz.checked }
namespace Rows
def none {H : Type} : Left H := { results := [], args := [] }

/- WHAT THE LISTED PACKAGE-LEVEL VARIABLES READ AS WHEN THE CALL BEGINS. Each datum BY PROGRAM (the guide's laid-datum.mjs) off the statement by which the dump's own 'gosem.cut.vars' lays the variable. In a bare row this is a premise. The card (YtgnepgenefcnpaaGreatDoorCards.lean) ties it to the program's text. -/
def laid_unicode_utf8_acceptRanges {H : Type} : DataW H := .agg [.agg [.lit (.int .u8 128), .lit (.int .u8 191)], .agg [.lit (.int .u8 160), .lit (.int .u8 191)], .agg [.lit (.int .u8 128), .lit (.int .u8 159)], .agg [.lit (.int .u8 144), .lit (.int .u8 191)], .agg [.lit (.int .u8 128), .lit (.int .u8 143)], .agg [.lit (.int .u8 0), .lit (.int .u8 0)], .agg [.lit (.int .u8 0), .lit (.int .u8 0)], .agg [.lit (.int .u8 0), .lit (.int .u8 0)], .agg [.lit (.int .u8 0), .lit (.int .u8 0)], .agg [.lit (.int .u8 0), .lit (.int .u8 0)], .agg [.lit (.int .u8 0), .lit (.int .u8 0)], .agg [.lit (.int .u8 0), .lit (.int .u8 0)], .agg [.lit (.int .u8 0), .lit (.int .u8 0)], .agg [.lit (.int .u8 0), .lit (.int .u8 0)], .agg [.lit (.int .u8 0), .lit (.int .u8 0)], .agg [.lit (.int .u8 0), .lit (.int .u8 0)]]
/-- One of Go's own tables, pinned by name: the form's constant. -/
def laid_unicode_utf8_first : DataW Unit := Go.Pinned.utf8First

/-- 'amblelaw01.ExactReads': WHATEVER THE INPUT: true; the input reads as it did. -/
def exactReadsSpec : ChangeSpec := { name := "exactReads", fn := fun _ => fun
  | [d] => { results := [.lit (.bool true)], args := [d] }
  | _ => none }
def exactReadsRow : OpenClaim := { program := "ytgnepgenefcnpaagreatdoor", sum := "13488c3858433cae38e518dc44e04ac3397c69f87ba5250f1a73adcb713c47b5", func := "amble/amblelaw01.ExactReads", spec := "exactReads", inPlace := ["internal/bytealg.IndexByteString", "internal/bytealg.IndexString"], unfollowed := true, recurses := true, named := ["internal/bytealg.MaxLen", "unicode/utf8.first", "unicode/utf8.acceptRanges"], apart := false, laid := [("unicode/utf8.acceptRanges", laid_unicode_utf8_acceptRanges), ("unicode/utf8.first", laid_unicode_utf8_first)] }
def ExactReadsSaid : Prop := exactReadsRow.holds Tryz.pinned (OpenSpec.ofChange exactReadsSpec)

/-- ITS FALSE NEIGHBOUR: 'it returns false'. Refute it at one input. -/
def exactReadsWrong : ChangeSpec := { name := "exactReads", fn := fun _ => fun
  | [d] => { results := [.lit (.bool false)], args := [d] }
  | _ => none }
def ExactReadsWrongFalsely : Prop := exactReadsRow.holds Tryz.pinned (OpenSpec.ofChange exactReadsWrong)

/-- 'amblelaw01.ExactNears': WHATEVER THE INPUT: true; the input reads as it did. -/
def exactNearsSpec : ChangeSpec := { name := "exactNears", fn := fun _ => fun
  | [d1, d2, d3] => { results := [.lit (.bool true)], args := [d1, d2, d3] }
  | _ => none }
def exactNearsRow : OpenClaim := { program := "ytgnepgenefcnpaagreatdoor", sum := "13488c3858433cae38e518dc44e04ac3397c69f87ba5250f1a73adcb713c47b5", func := "amble/amblelaw01.ExactNears", spec := "exactNears", inPlace := ["internal/bytealg.IndexByteString", "internal/bytealg.IndexString"], unfollowed := true, recurses := true, named := ["internal/bytealg.MaxLen", "unicode/utf8.first", "unicode/utf8.acceptRanges"], apart := false, laid := [("unicode/utf8.acceptRanges", laid_unicode_utf8_acceptRanges), ("unicode/utf8.first", laid_unicode_utf8_first)] }
def ExactNearsSaid : Prop := exactNearsRow.holds Tryz.pinned (OpenSpec.ofChange exactNearsSpec)

/-- ITS FALSE NEIGHBOUR: 'it returns false'. Refute it at one input. -/
def exactNearsWrong : ChangeSpec := { name := "exactNears", fn := fun _ => fun
  | [d1, d2, d3] => { results := [.lit (.bool false)], args := [d1, d2, d3] }
  | _ => none }
def ExactNearsWrongFalsely : Prop := exactNearsRow.holds Tryz.pinned (OpenSpec.ofChange exactNearsWrong)

/-- 'amblelaw01.ExactTexts': WHATEVER THE INPUT: true; the input reads as it did. -/
def exactTextsSpec : ChangeSpec := { name := "exactTexts", fn := fun _ => fun
  | [d1, d2] => { results := [.lit (.bool true)], args := [d1, d2] }
  | _ => none }
def exactTextsRow : OpenClaim := { program := "ytgnepgenefcnpaagreatdoor", sum := "13488c3858433cae38e518dc44e04ac3397c69f87ba5250f1a73adcb713c47b5", func := "amble/amblelaw01.ExactTexts", spec := "exactTexts", inPlace := ["internal/bytealg.IndexByteString", "internal/bytealg.IndexString"], unfollowed := true, recurses := true, named := ["internal/bytealg.MaxLen", "unicode/utf8.first", "unicode/utf8.acceptRanges"], apart := false, laid := [("unicode/utf8.acceptRanges", laid_unicode_utf8_acceptRanges), ("unicode/utf8.first", laid_unicode_utf8_first)] }
def ExactTextsSaid : Prop := exactTextsRow.holds Tryz.pinned (OpenSpec.ofChange exactTextsSpec)

/-- ITS FALSE NEIGHBOUR: 'it returns false'. Refute it at one input. -/
def exactTextsWrong : ChangeSpec := { name := "exactTexts", fn := fun _ => fun
  | [d1, d2] => { results := [.lit (.bool false)], args := [d1, d2] }
  | _ => none }
def ExactTextsWrongFalsely : Prop := exactTextsRow.holds Tryz.pinned (OpenSpec.ofChange exactTextsWrong)

/-- 'amblelaw01.ExactOps': WHATEVER THE INPUT: true; the input reads as it did. -/
def exactOpsSpec : ChangeSpec := { name := "exactOps", fn := fun _ => fun
  | [d1, d2, d3, d4] => { results := [.lit (.bool true)], args := [d1, d2, d3, d4] }
  | _ => none }
def exactOpsRow : OpenClaim := { program := "ytgnepgenefcnpaagreatdoor", sum := "13488c3858433cae38e518dc44e04ac3397c69f87ba5250f1a73adcb713c47b5", func := "amble/amblelaw01.ExactOps", spec := "exactOps", inPlace := ["internal/bytealg.IndexByteString", "internal/bytealg.IndexString"], unfollowed := true, recurses := true, named := ["internal/bytealg.MaxLen", "unicode/utf8.first", "unicode/utf8.acceptRanges"], apart := false, laid := [("unicode/utf8.acceptRanges", laid_unicode_utf8_acceptRanges), ("unicode/utf8.first", laid_unicode_utf8_first)] }
def ExactOpsSaid : Prop := exactOpsRow.holds Tryz.pinned (OpenSpec.ofChange exactOpsSpec)

/-- ITS FALSE NEIGHBOUR: 'it returns false'. Refute it at one input. -/
def exactOpsWrong : ChangeSpec := { name := "exactOps", fn := fun _ => fun
  | [d1, d2, d3, d4] => { results := [.lit (.bool false)], args := [d1, d2, d3, d4] }
  | _ => none }
def ExactOpsWrongFalsely : Prop := exactOpsRow.holds Tryz.pinned (OpenSpec.ofChange exactOpsWrong)

/-- 'amblelaw01.ExactField': WHATEVER THE INPUT: true; the input reads as it did. -/
def exactFieldSpec : ChangeSpec := { name := "exactField", fn := fun _ => fun
  | [d1, d2, d3] => { results := [.lit (.bool true)], args := [d1, d2, d3] }
  | _ => none }
def exactFieldRow : OpenClaim := { program := "ytgnepgenefcnpaagreatdoor", sum := "13488c3858433cae38e518dc44e04ac3397c69f87ba5250f1a73adcb713c47b5", func := "amble/amblelaw01.ExactField", spec := "exactField", inPlace := ["internal/bytealg.IndexByteString", "internal/bytealg.IndexString"], unfollowed := true, recurses := true, named := ["internal/bytealg.MaxLen", "unicode/utf8.first", "unicode/utf8.acceptRanges"], apart := false, laid := [("unicode/utf8.acceptRanges", laid_unicode_utf8_acceptRanges), ("unicode/utf8.first", laid_unicode_utf8_first)] }
def ExactFieldSaid : Prop := exactFieldRow.holds Tryz.pinned (OpenSpec.ofChange exactFieldSpec)

/-- ITS FALSE NEIGHBOUR: 'it returns false'. Refute it at one input. -/
def exactFieldWrong : ChangeSpec := { name := "exactField", fn := fun _ => fun
  | [d1, d2, d3] => { results := [.lit (.bool false)], args := [d1, d2, d3] }
  | _ => none }
def ExactFieldWrongFalsely : Prop := exactFieldRow.holds Tryz.pinned (OpenSpec.ofChange exactFieldWrong)

/-- 'amblelaw01.ExactFolds': WHATEVER THE INPUT: true; the input reads as it did. -/
def exactFoldsSpec : ChangeSpec := { name := "exactFolds", fn := fun _ => fun
  | [d] => { results := [.lit (.bool true)], args := [d] }
  | _ => none }
def exactFoldsRow : OpenClaim := { program := "ytgnepgenefcnpaagreatdoor", sum := "13488c3858433cae38e518dc44e04ac3397c69f87ba5250f1a73adcb713c47b5", func := "amble/amblelaw01.ExactFolds", spec := "exactFolds", inPlace := ["internal/bytealg.IndexByteString", "internal/bytealg.IndexString"], unfollowed := true, recurses := true, named := ["internal/bytealg.MaxLen", "unicode/utf8.first", "unicode/utf8.acceptRanges"], apart := false, laid := [("unicode/utf8.acceptRanges", laid_unicode_utf8_acceptRanges), ("unicode/utf8.first", laid_unicode_utf8_first)] }
def ExactFoldsSaid : Prop := exactFoldsRow.holds Tryz.pinned (OpenSpec.ofChange exactFoldsSpec)

/-- ITS FALSE NEIGHBOUR: 'it returns false'. Refute it at one input. -/
def exactFoldsWrong : ChangeSpec := { name := "exactFolds", fn := fun _ => fun
  | [d] => { results := [.lit (.bool false)], args := [d] }
  | _ => none }
def ExactFoldsWrongFalsely : Prop := exactFoldsRow.holds Tryz.pinned (OpenSpec.ofChange exactFoldsWrong)

/-- 'amblelaw01.ExactTurns': WHATEVER THE INPUT: true; the input reads as it did. -/
def exactTurnsSpec : ChangeSpec := { name := "exactTurns", fn := fun _ => fun
  | [d1, d2, d3, d4] => { results := [.lit (.bool true)], args := [d1, d2, d3, d4] }
  | _ => none }
def exactTurnsRow : OpenClaim := { program := "ytgnepgenefcnpaagreatdoor", sum := "13488c3858433cae38e518dc44e04ac3397c69f87ba5250f1a73adcb713c47b5", func := "amble/amblelaw01.ExactTurns", spec := "exactTurns", inPlace := ["internal/bytealg.IndexByteString", "internal/bytealg.IndexString"], unfollowed := true, recurses := true, named := ["internal/bytealg.MaxLen", "unicode/utf8.first", "unicode/utf8.acceptRanges"], apart := false, laid := [("unicode/utf8.acceptRanges", laid_unicode_utf8_acceptRanges), ("unicode/utf8.first", laid_unicode_utf8_first)] }
def ExactTurnsSaid : Prop := exactTurnsRow.holds Tryz.pinned (OpenSpec.ofChange exactTurnsSpec)

/-- ITS FALSE NEIGHBOUR: 'it returns false'. Refute it at one input. -/
def exactTurnsWrong : ChangeSpec := { name := "exactTurns", fn := fun _ => fun
  | [d1, d2, d3, d4] => { results := [.lit (.bool false)], args := [d1, d2, d3, d4] }
  | _ => none }
def ExactTurnsWrongFalsely : Prop := exactTurnsRow.holds Tryz.pinned (OpenSpec.ofChange exactTurnsWrong)

/-- 'amblelaw01.ExactParts': WHATEVER THE INPUT: true; the input reads as it did. -/
def exactPartsSpec : ChangeSpec := { name := "exactParts", fn := fun _ => fun
  | [d] => { results := [.lit (.bool true)], args := [d] }
  | _ => none }
def exactPartsRow : OpenClaim := { program := "ytgnepgenefcnpaagreatdoor", sum := "13488c3858433cae38e518dc44e04ac3397c69f87ba5250f1a73adcb713c47b5", func := "amble/amblelaw01.ExactParts", spec := "exactParts", inPlace := ["internal/bytealg.IndexByteString", "internal/bytealg.IndexString"], unfollowed := true, recurses := true, named := ["internal/bytealg.MaxLen", "unicode/utf8.first", "unicode/utf8.acceptRanges"], apart := false, laid := [("unicode/utf8.acceptRanges", laid_unicode_utf8_acceptRanges), ("unicode/utf8.first", laid_unicode_utf8_first)] }
def ExactPartsSaid : Prop := exactPartsRow.holds Tryz.pinned (OpenSpec.ofChange exactPartsSpec)

/-- ITS FALSE NEIGHBOUR: 'it returns false'. Refute it at one input. -/
def exactPartsWrong : ChangeSpec := { name := "exactParts", fn := fun _ => fun
  | [d] => { results := [.lit (.bool false)], args := [d] }
  | _ => none }
def ExactPartsWrongFalsely : Prop := exactPartsRow.holds Tryz.pinned (OpenSpec.ofChange exactPartsWrong)

/-- 'amblelaw01.ExactPoints': WHATEVER THE INPUT: true; the input reads as it did. -/
def exactPointsSpec : ChangeSpec := { name := "exactPoints", fn := fun _ => fun
  | [d1, d2, d3, d4, d5] => { results := [.lit (.bool true)], args := [d1, d2, d3, d4, d5] }
  | _ => none }
def exactPointsRow : OpenClaim := { program := "ytgnepgenefcnpaagreatdoor", sum := "13488c3858433cae38e518dc44e04ac3397c69f87ba5250f1a73adcb713c47b5", func := "amble/amblelaw01.ExactPoints", spec := "exactPoints", inPlace := ["internal/bytealg.IndexByteString", "internal/bytealg.IndexString"], unfollowed := true, recurses := true, named := ["internal/bytealg.MaxLen", "unicode/utf8.first", "unicode/utf8.acceptRanges"], apart := false, laid := [("unicode/utf8.acceptRanges", laid_unicode_utf8_acceptRanges), ("unicode/utf8.first", laid_unicode_utf8_first)] }
def ExactPointsSaid : Prop := exactPointsRow.holds Tryz.pinned (OpenSpec.ofChange exactPointsSpec)

/-- ITS FALSE NEIGHBOUR: 'it returns false'. Refute it at one input. -/
def exactPointsWrong : ChangeSpec := { name := "exactPoints", fn := fun _ => fun
  | [d1, d2, d3, d4, d5] => { results := [.lit (.bool false)], args := [d1, d2, d3, d4, d5] }
  | _ => none }
def ExactPointsWrongFalsely : Prop := exactPointsRow.holds Tryz.pinned (OpenSpec.ofChange exactPointsWrong)

/-- 'amblelaw01.ExactRounds': WHATEVER THE INPUT: true; the input reads as it did. -/
def exactRoundsSpec : ChangeSpec := { name := "exactRounds", fn := fun _ => fun
  | [d1, d2, d3, d4] => { results := [.lit (.bool true)], args := [d1, d2, d3, d4] }
  | _ => none }
def exactRoundsRow : OpenClaim := { program := "ytgnepgenefcnpaagreatdoor", sum := "13488c3858433cae38e518dc44e04ac3397c69f87ba5250f1a73adcb713c47b5", func := "amble/amblelaw01.ExactRounds", spec := "exactRounds", inPlace := ["internal/bytealg.IndexByteString", "internal/bytealg.IndexString"], unfollowed := true, recurses := true, named := ["internal/bytealg.MaxLen", "unicode/utf8.first", "unicode/utf8.acceptRanges"], apart := false, laid := [("unicode/utf8.acceptRanges", laid_unicode_utf8_acceptRanges), ("unicode/utf8.first", laid_unicode_utf8_first)] }
def ExactRoundsSaid : Prop := exactRoundsRow.holds Tryz.pinned (OpenSpec.ofChange exactRoundsSpec)

/-- ITS FALSE NEIGHBOUR: 'it returns false'. Refute it at one input. -/
def exactRoundsWrong : ChangeSpec := { name := "exactRounds", fn := fun _ => fun
  | [d1, d2, d3, d4] => { results := [.lit (.bool false)], args := [d1, d2, d3, d4] }
  | _ => none }
def ExactRoundsWrongFalsely : Prop := exactRoundsRow.holds Tryz.pinned (OpenSpec.ofChange exactRoundsWrong)

/-- 'amblelaw01.ExactQuadratics': WHATEVER THE INPUT: true; the input reads as it did. -/
def exactQuadraticsSpec : ChangeSpec := { name := "exactQuadratics", fn := fun _ => fun
  | [d1, d2, d3] => { results := [.lit (.bool true)], args := [d1, d2, d3] }
  | _ => none }
def exactQuadraticsRow : OpenClaim := { program := "ytgnepgenefcnpaagreatdoor", sum := "13488c3858433cae38e518dc44e04ac3397c69f87ba5250f1a73adcb713c47b5", func := "amble/amblelaw01.ExactQuadratics", spec := "exactQuadratics", inPlace := ["internal/bytealg.IndexByteString", "internal/bytealg.IndexString"], unfollowed := true, recurses := true, named := ["internal/bytealg.MaxLen", "unicode/utf8.first", "unicode/utf8.acceptRanges"], apart := false, laid := [("unicode/utf8.acceptRanges", laid_unicode_utf8_acceptRanges), ("unicode/utf8.first", laid_unicode_utf8_first)] }
def ExactQuadraticsSaid : Prop := exactQuadraticsRow.holds Tryz.pinned (OpenSpec.ofChange exactQuadraticsSpec)

/-- ITS FALSE NEIGHBOUR: 'it returns false'. Refute it at one input. -/
def exactQuadraticsWrong : ChangeSpec := { name := "exactQuadratics", fn := fun _ => fun
  | [d1, d2, d3] => { results := [.lit (.bool false)], args := [d1, d2, d3] }
  | _ => none }
def ExactQuadraticsWrongFalsely : Prop := exactQuadraticsRow.holds Tryz.pinned (OpenSpec.ofChange exactQuadraticsWrong)

/-- 'amblelaw01.ExactMats': WHATEVER THE INPUT: true; the input reads as it did. -/
def exactMatsSpec : ChangeSpec := { name := "exactMats", fn := fun _ => fun
  | [d1, d2, d3] => { results := [.lit (.bool true)], args := [d1, d2, d3] }
  | _ => none }
def exactMatsRow : OpenClaim := { program := "ytgnepgenefcnpaagreatdoor", sum := "13488c3858433cae38e518dc44e04ac3397c69f87ba5250f1a73adcb713c47b5", func := "amble/amblelaw01.ExactMats", spec := "exactMats", inPlace := ["internal/bytealg.IndexByteString", "internal/bytealg.IndexString"], unfollowed := true, recurses := true, named := ["internal/bytealg.MaxLen", "unicode/utf8.first", "unicode/utf8.acceptRanges"], apart := false, laid := [("unicode/utf8.acceptRanges", laid_unicode_utf8_acceptRanges), ("unicode/utf8.first", laid_unicode_utf8_first)] }
def ExactMatsSaid : Prop := exactMatsRow.holds Tryz.pinned (OpenSpec.ofChange exactMatsSpec)

/-- ITS FALSE NEIGHBOUR: 'it returns false'. Refute it at one input. -/
def exactMatsWrong : ChangeSpec := { name := "exactMats", fn := fun _ => fun
  | [d1, d2, d3] => { results := [.lit (.bool false)], args := [d1, d2, d3] }
  | _ => none }
def ExactMatsWrongFalsely : Prop := exactMatsRow.holds Tryz.pinned (OpenSpec.ofChange exactMatsWrong)

/-- 'amblelaw01.ExactZeros': WHATEVER THE INPUT: true; the input reads as it did. -/
def exactZerosSpec : ChangeSpec := { name := "exactZeros", fn := fun _ => fun
  | [d1, d2, d3, d4] => { results := [.lit (.bool true)], args := [d1, d2, d3, d4] }
  | _ => none }
def exactZerosRow : OpenClaim := { program := "ytgnepgenefcnpaagreatdoor", sum := "13488c3858433cae38e518dc44e04ac3397c69f87ba5250f1a73adcb713c47b5", func := "amble/amblelaw01.ExactZeros", spec := "exactZeros", inPlace := ["internal/bytealg.IndexByteString", "internal/bytealg.IndexString"], unfollowed := true, recurses := true, named := ["internal/bytealg.MaxLen", "unicode/utf8.first", "unicode/utf8.acceptRanges"], apart := false, laid := [("unicode/utf8.acceptRanges", laid_unicode_utf8_acceptRanges), ("unicode/utf8.first", laid_unicode_utf8_first)] }
def ExactZerosSaid : Prop := exactZerosRow.holds Tryz.pinned (OpenSpec.ofChange exactZerosSpec)

/-- ITS FALSE NEIGHBOUR: 'it returns false'. Refute it at one input. -/
def exactZerosWrong : ChangeSpec := { name := "exactZeros", fn := fun _ => fun
  | [d1, d2, d3, d4] => { results := [.lit (.bool false)], args := [d1, d2, d3, d4] }
  | _ => none }
def ExactZerosWrongFalsely : Prop := exactZerosRow.holds Tryz.pinned (OpenSpec.ofChange exactZerosWrong)

/-- 'amblelaw01.ExactSurds': WHATEVER THE INPUT: true; the input reads as it did. -/
def exactSurdsSpec : ChangeSpec := { name := "exactSurds", fn := fun _ => fun
  | [d1, d2, d3] => { results := [.lit (.bool true)], args := [d1, d2, d3] }
  | _ => none }
def exactSurdsRow : OpenClaim := { program := "ytgnepgenefcnpaagreatdoor", sum := "13488c3858433cae38e518dc44e04ac3397c69f87ba5250f1a73adcb713c47b5", func := "amble/amblelaw01.ExactSurds", spec := "exactSurds", inPlace := ["internal/bytealg.IndexByteString", "internal/bytealg.IndexString"], unfollowed := true, recurses := true, named := ["internal/bytealg.MaxLen", "unicode/utf8.first", "unicode/utf8.acceptRanges"], apart := false, laid := [("unicode/utf8.acceptRanges", laid_unicode_utf8_acceptRanges), ("unicode/utf8.first", laid_unicode_utf8_first)] }
def ExactSurdsSaid : Prop := exactSurdsRow.holds Tryz.pinned (OpenSpec.ofChange exactSurdsSpec)

/-- ITS FALSE NEIGHBOUR: 'it returns false'. Refute it at one input. -/
def exactSurdsWrong : ChangeSpec := { name := "exactSurds", fn := fun _ => fun
  | [d1, d2, d3] => { results := [.lit (.bool false)], args := [d1, d2, d3] }
  | _ => none }
def ExactSurdsWrongFalsely : Prop := exactSurdsRow.holds Tryz.pinned (OpenSpec.ofChange exactSurdsWrong)

/-- 'amblelaw01.ExactSolves': WHATEVER THE INPUT: true; the input reads as it did. -/
def exactSolvesSpec : ChangeSpec := { name := "exactSolves", fn := fun _ => fun
  | [d1, d2] => { results := [.lit (.bool true)], args := [d1, d2] }
  | _ => none }
def exactSolvesRow : OpenClaim := { program := "ytgnepgenefcnpaagreatdoor", sum := "13488c3858433cae38e518dc44e04ac3397c69f87ba5250f1a73adcb713c47b5", func := "amble/amblelaw01.ExactSolves", spec := "exactSolves", inPlace := ["internal/bytealg.IndexByteString", "internal/bytealg.IndexString"], unfollowed := true, recurses := true, named := ["internal/bytealg.MaxLen", "unicode/utf8.first", "unicode/utf8.acceptRanges"], apart := false, laid := [("unicode/utf8.acceptRanges", laid_unicode_utf8_acceptRanges), ("unicode/utf8.first", laid_unicode_utf8_first)] }
def ExactSolvesSaid : Prop := exactSolvesRow.holds Tryz.pinned (OpenSpec.ofChange exactSolvesSpec)

/-- ITS FALSE NEIGHBOUR: 'it returns false'. Refute it at one input. -/
def exactSolvesWrong : ChangeSpec := { name := "exactSolves", fn := fun _ => fun
  | [d1, d2] => { results := [.lit (.bool false)], args := [d1, d2] }
  | _ => none }
def ExactSolvesWrongFalsely : Prop := exactSolvesRow.holds Tryz.pinned (OpenSpec.ofChange exactSolvesWrong)

/-- 'amblelaw01.ExactForms': WHATEVER THE INPUT: true; the input reads as it did. -/
def exactFormsSpec : ChangeSpec := { name := "exactForms", fn := fun _ => fun
  | [d] => { results := [.lit (.bool true)], args := [d] }
  | _ => none }
def exactFormsRow : OpenClaim := { program := "ytgnepgenefcnpaagreatdoor", sum := "13488c3858433cae38e518dc44e04ac3397c69f87ba5250f1a73adcb713c47b5", func := "amble/amblelaw01.ExactForms", spec := "exactForms", inPlace := ["internal/bytealg.IndexByteString", "internal/bytealg.IndexString"], unfollowed := true, recurses := true, named := ["internal/bytealg.MaxLen", "unicode/utf8.first", "unicode/utf8.acceptRanges"], apart := false, laid := [("unicode/utf8.acceptRanges", laid_unicode_utf8_acceptRanges), ("unicode/utf8.first", laid_unicode_utf8_first)] }
def ExactFormsSaid : Prop := exactFormsRow.holds Tryz.pinned (OpenSpec.ofChange exactFormsSpec)

/-- ITS FALSE NEIGHBOUR: 'it returns false'. Refute it at one input. -/
def exactFormsWrong : ChangeSpec := { name := "exactForms", fn := fun _ => fun
  | [d] => { results := [.lit (.bool false)], args := [d] }
  | _ => none }
def ExactFormsWrongFalsely : Prop := exactFormsRow.holds Tryz.pinned (OpenSpec.ofChange exactFormsWrong)

/-- 'amblelaw01.ExactDets': WHATEVER THE INPUT: true; the input reads as it did. -/
def exactDetsSpec : ChangeSpec := { name := "exactDets", fn := fun _ => fun
  | [d] => { results := [.lit (.bool true)], args := [d] }
  | _ => none }
def exactDetsRow : OpenClaim := { program := "ytgnepgenefcnpaagreatdoor", sum := "13488c3858433cae38e518dc44e04ac3397c69f87ba5250f1a73adcb713c47b5", func := "amble/amblelaw01.ExactDets", spec := "exactDets", inPlace := ["internal/bytealg.IndexByteString", "internal/bytealg.IndexString"], unfollowed := true, recurses := true, named := ["internal/bytealg.MaxLen", "unicode/utf8.first", "unicode/utf8.acceptRanges"], apart := false, laid := [("unicode/utf8.acceptRanges", laid_unicode_utf8_acceptRanges), ("unicode/utf8.first", laid_unicode_utf8_first)] }
def ExactDetsSaid : Prop := exactDetsRow.holds Tryz.pinned (OpenSpec.ofChange exactDetsSpec)

/-- ITS FALSE NEIGHBOUR: 'it returns false'. Refute it at one input. -/
def exactDetsWrong : ChangeSpec := { name := "exactDets", fn := fun _ => fun
  | [d] => { results := [.lit (.bool false)], args := [d] }
  | _ => none }
def ExactDetsWrongFalsely : Prop := exactDetsRow.holds Tryz.pinned (OpenSpec.ofChange exactDetsWrong)

/-- 'amblelaw01.ExactSolutions': WHATEVER THE INPUT: true; the input reads as it did. -/
def exactSolutionsSpec : ChangeSpec := { name := "exactSolutions", fn := fun _ => fun
  | [d1, d2, d3, d4] => { results := [.lit (.bool true)], args := [d1, d2, d3, d4] }
  | _ => none }
def exactSolutionsRow : OpenClaim := { program := "ytgnepgenefcnpaagreatdoor", sum := "13488c3858433cae38e518dc44e04ac3397c69f87ba5250f1a73adcb713c47b5", func := "amble/amblelaw01.ExactSolutions", spec := "exactSolutions", inPlace := ["internal/bytealg.IndexByteString", "internal/bytealg.IndexString"], unfollowed := true, recurses := true, named := ["internal/bytealg.MaxLen", "unicode/utf8.first", "unicode/utf8.acceptRanges"], apart := false, laid := [("unicode/utf8.acceptRanges", laid_unicode_utf8_acceptRanges), ("unicode/utf8.first", laid_unicode_utf8_first)] }
def ExactSolutionsSaid : Prop := exactSolutionsRow.holds Tryz.pinned (OpenSpec.ofChange exactSolutionsSpec)

/-- ITS FALSE NEIGHBOUR: 'it returns false'. Refute it at one input. -/
def exactSolutionsWrong : ChangeSpec := { name := "exactSolutions", fn := fun _ => fun
  | [d1, d2, d3, d4] => { results := [.lit (.bool false)], args := [d1, d2, d3, d4] }
  | _ => none }
def ExactSolutionsWrongFalsely : Prop := exactSolutionsRow.holds Tryz.pinned (OpenSpec.ofChange exactSolutionsWrong)

/-- 'amblelaw01.ExactNames': WHATEVER THE INPUT: true; the input reads as it did. -/
def exactNamesSpec : ChangeSpec := { name := "exactNames", fn := fun _ => fun
  | [] => { results := [.lit (.bool true)], args := [] }
  | _ => none }
def exactNamesRow : OpenClaim := { program := "ytgnepgenefcnpaagreatdoor", sum := "13488c3858433cae38e518dc44e04ac3397c69f87ba5250f1a73adcb713c47b5", func := "amble/amblelaw01.ExactNames", spec := "exactNames", inPlace := ["internal/bytealg.IndexByteString", "internal/bytealg.IndexString"], unfollowed := true, recurses := true, named := ["internal/bytealg.MaxLen", "unicode/utf8.first", "unicode/utf8.acceptRanges"], apart := false, laid := [("unicode/utf8.acceptRanges", laid_unicode_utf8_acceptRanges), ("unicode/utf8.first", laid_unicode_utf8_first)] }
def ExactNamesSaid : Prop := exactNamesRow.holds Tryz.pinned (OpenSpec.ofChange exactNamesSpec)

/-- ITS FALSE NEIGHBOUR: 'it returns false'. Refute it at one input. -/
def exactNamesWrong : ChangeSpec := { name := "exactNames", fn := fun _ => fun
  | [] => { results := [.lit (.bool false)], args := [] }
  | _ => none }
def ExactNamesWrongFalsely : Prop := exactNamesRow.holds Tryz.pinned (OpenSpec.ofChange exactNamesWrong)

/- THE SECOND FORM. 'bulk': how many values and letters a reading holds, each counted each time it is reached (what is shared counts as often as it is met; a slice's spare places count too). A statement '..UptoSaid' is the law's where the arguments, and the package variables that the reading takes, are together of bulk at most 1048576: NARROWER than '..Said'. Prove '..Said' where nothing that the law and all that it calls make is longer than what came in: it says more and counts as full. Else prove '..UptoSaid'. A law counts once. -/
mutual
def uptoBulk {H : Type} : DataW H → Nat
  | .lit (.string bytes) => bytes.length + 1
  | .lit _ => 1
  | .nil => 1
  | .ptr d => uptoBulk d + 1
  | .slice elems spare => uptoBulkAll elems + uptoBulkAll spare + 1
  | .agg parts => uptoBulkAll parts + 1
  | .iface _ d => uptoBulk d + 1
  | .map entries => uptoBulkEntries entries + 1
  | .held _ => 1
def uptoBulkAll {H : Type} : List (DataW H) → Nat
  | [] => 0
  | d :: r => uptoBulk d + uptoBulkAll r
def uptoBulkEntries {H : Type} : List (Lit × DataW H) → Nat
  | [] => 0
  | x :: r => uptoBulkEntry x + uptoBulkEntries r
def uptoBulkEntry {H : Type} : Lit × DataW H → Nat
  | (.string bytes, d) => bytes.length + uptoBulk d + 1
  | (_, d) => uptoBulk d + 1
 end
def uptoSmall : (H : Type) → List (DataW H) → Bool := fun _ ds => decide (uptoBulkAll ds ≤ 1048576)
def OpenSpec.upto (s : _root_.Go.ChangeSpec) : _root_.Go.OpenSpec := { _root_.Go.OpenSpec.ofChange s with cond := some uptoSmall }

/-- 'amblelaw01.ExactReads', WHERE WHAT IT READS IS OF BULK AT MOST 1048576: true; the input reads as it did. -/
def exactReadsUptoRow : OpenClaim := { program := "ytgnepgenefcnpaagreatdoor", sum := "13488c3858433cae38e518dc44e04ac3397c69f87ba5250f1a73adcb713c47b5", func := "amble/amblelaw01.ExactReads", spec := "exactReads", inPlace := ["internal/bytealg.IndexByteString", "internal/bytealg.IndexString"], unfollowed := true, recurses := true, named := ["internal/bytealg.MaxLen", "unicode/utf8.first", "unicode/utf8.acceptRanges"], apart := false, laid := [("unicode/utf8.acceptRanges", laid_unicode_utf8_acceptRanges), ("unicode/utf8.first", laid_unicode_utf8_first)], narrowed := true }
def ExactReadsUptoSaid : Prop := exactReadsUptoRow.holds Tryz.pinned (OpenSpec.upto exactReadsSpec)

/-- 'amblelaw01.ExactNears', WHERE WHAT IT READS IS OF BULK AT MOST 1048576: true; the input reads as it did. -/
def exactNearsUptoRow : OpenClaim := { program := "ytgnepgenefcnpaagreatdoor", sum := "13488c3858433cae38e518dc44e04ac3397c69f87ba5250f1a73adcb713c47b5", func := "amble/amblelaw01.ExactNears", spec := "exactNears", inPlace := ["internal/bytealg.IndexByteString", "internal/bytealg.IndexString"], unfollowed := true, recurses := true, named := ["internal/bytealg.MaxLen", "unicode/utf8.first", "unicode/utf8.acceptRanges"], apart := false, laid := [("unicode/utf8.acceptRanges", laid_unicode_utf8_acceptRanges), ("unicode/utf8.first", laid_unicode_utf8_first)], narrowed := true }
def ExactNearsUptoSaid : Prop := exactNearsUptoRow.holds Tryz.pinned (OpenSpec.upto exactNearsSpec)

/-- 'amblelaw01.ExactTexts', WHERE WHAT IT READS IS OF BULK AT MOST 1048576: true; the input reads as it did. -/
def exactTextsUptoRow : OpenClaim := { program := "ytgnepgenefcnpaagreatdoor", sum := "13488c3858433cae38e518dc44e04ac3397c69f87ba5250f1a73adcb713c47b5", func := "amble/amblelaw01.ExactTexts", spec := "exactTexts", inPlace := ["internal/bytealg.IndexByteString", "internal/bytealg.IndexString"], unfollowed := true, recurses := true, named := ["internal/bytealg.MaxLen", "unicode/utf8.first", "unicode/utf8.acceptRanges"], apart := false, laid := [("unicode/utf8.acceptRanges", laid_unicode_utf8_acceptRanges), ("unicode/utf8.first", laid_unicode_utf8_first)], narrowed := true }
def ExactTextsUptoSaid : Prop := exactTextsUptoRow.holds Tryz.pinned (OpenSpec.upto exactTextsSpec)

/-- 'amblelaw01.ExactOps', WHERE WHAT IT READS IS OF BULK AT MOST 1048576: true; the input reads as it did. -/
def exactOpsUptoRow : OpenClaim := { program := "ytgnepgenefcnpaagreatdoor", sum := "13488c3858433cae38e518dc44e04ac3397c69f87ba5250f1a73adcb713c47b5", func := "amble/amblelaw01.ExactOps", spec := "exactOps", inPlace := ["internal/bytealg.IndexByteString", "internal/bytealg.IndexString"], unfollowed := true, recurses := true, named := ["internal/bytealg.MaxLen", "unicode/utf8.first", "unicode/utf8.acceptRanges"], apart := false, laid := [("unicode/utf8.acceptRanges", laid_unicode_utf8_acceptRanges), ("unicode/utf8.first", laid_unicode_utf8_first)], narrowed := true }
def ExactOpsUptoSaid : Prop := exactOpsUptoRow.holds Tryz.pinned (OpenSpec.upto exactOpsSpec)

/-- 'amblelaw01.ExactField', WHERE WHAT IT READS IS OF BULK AT MOST 1048576: true; the input reads as it did. -/
def exactFieldUptoRow : OpenClaim := { program := "ytgnepgenefcnpaagreatdoor", sum := "13488c3858433cae38e518dc44e04ac3397c69f87ba5250f1a73adcb713c47b5", func := "amble/amblelaw01.ExactField", spec := "exactField", inPlace := ["internal/bytealg.IndexByteString", "internal/bytealg.IndexString"], unfollowed := true, recurses := true, named := ["internal/bytealg.MaxLen", "unicode/utf8.first", "unicode/utf8.acceptRanges"], apart := false, laid := [("unicode/utf8.acceptRanges", laid_unicode_utf8_acceptRanges), ("unicode/utf8.first", laid_unicode_utf8_first)], narrowed := true }
def ExactFieldUptoSaid : Prop := exactFieldUptoRow.holds Tryz.pinned (OpenSpec.upto exactFieldSpec)

/-- 'amblelaw01.ExactFolds', WHERE WHAT IT READS IS OF BULK AT MOST 1048576: true; the input reads as it did. -/
def exactFoldsUptoRow : OpenClaim := { program := "ytgnepgenefcnpaagreatdoor", sum := "13488c3858433cae38e518dc44e04ac3397c69f87ba5250f1a73adcb713c47b5", func := "amble/amblelaw01.ExactFolds", spec := "exactFolds", inPlace := ["internal/bytealg.IndexByteString", "internal/bytealg.IndexString"], unfollowed := true, recurses := true, named := ["internal/bytealg.MaxLen", "unicode/utf8.first", "unicode/utf8.acceptRanges"], apart := false, laid := [("unicode/utf8.acceptRanges", laid_unicode_utf8_acceptRanges), ("unicode/utf8.first", laid_unicode_utf8_first)], narrowed := true }
def ExactFoldsUptoSaid : Prop := exactFoldsUptoRow.holds Tryz.pinned (OpenSpec.upto exactFoldsSpec)

/-- 'amblelaw01.ExactTurns', WHERE WHAT IT READS IS OF BULK AT MOST 1048576: true; the input reads as it did. -/
def exactTurnsUptoRow : OpenClaim := { program := "ytgnepgenefcnpaagreatdoor", sum := "13488c3858433cae38e518dc44e04ac3397c69f87ba5250f1a73adcb713c47b5", func := "amble/amblelaw01.ExactTurns", spec := "exactTurns", inPlace := ["internal/bytealg.IndexByteString", "internal/bytealg.IndexString"], unfollowed := true, recurses := true, named := ["internal/bytealg.MaxLen", "unicode/utf8.first", "unicode/utf8.acceptRanges"], apart := false, laid := [("unicode/utf8.acceptRanges", laid_unicode_utf8_acceptRanges), ("unicode/utf8.first", laid_unicode_utf8_first)], narrowed := true }
def ExactTurnsUptoSaid : Prop := exactTurnsUptoRow.holds Tryz.pinned (OpenSpec.upto exactTurnsSpec)

/-- 'amblelaw01.ExactParts', WHERE WHAT IT READS IS OF BULK AT MOST 1048576: true; the input reads as it did. -/
def exactPartsUptoRow : OpenClaim := { program := "ytgnepgenefcnpaagreatdoor", sum := "13488c3858433cae38e518dc44e04ac3397c69f87ba5250f1a73adcb713c47b5", func := "amble/amblelaw01.ExactParts", spec := "exactParts", inPlace := ["internal/bytealg.IndexByteString", "internal/bytealg.IndexString"], unfollowed := true, recurses := true, named := ["internal/bytealg.MaxLen", "unicode/utf8.first", "unicode/utf8.acceptRanges"], apart := false, laid := [("unicode/utf8.acceptRanges", laid_unicode_utf8_acceptRanges), ("unicode/utf8.first", laid_unicode_utf8_first)], narrowed := true }
def ExactPartsUptoSaid : Prop := exactPartsUptoRow.holds Tryz.pinned (OpenSpec.upto exactPartsSpec)

/-- 'amblelaw01.ExactPoints', WHERE WHAT IT READS IS OF BULK AT MOST 1048576: true; the input reads as it did. -/
def exactPointsUptoRow : OpenClaim := { program := "ytgnepgenefcnpaagreatdoor", sum := "13488c3858433cae38e518dc44e04ac3397c69f87ba5250f1a73adcb713c47b5", func := "amble/amblelaw01.ExactPoints", spec := "exactPoints", inPlace := ["internal/bytealg.IndexByteString", "internal/bytealg.IndexString"], unfollowed := true, recurses := true, named := ["internal/bytealg.MaxLen", "unicode/utf8.first", "unicode/utf8.acceptRanges"], apart := false, laid := [("unicode/utf8.acceptRanges", laid_unicode_utf8_acceptRanges), ("unicode/utf8.first", laid_unicode_utf8_first)], narrowed := true }
def ExactPointsUptoSaid : Prop := exactPointsUptoRow.holds Tryz.pinned (OpenSpec.upto exactPointsSpec)

/-- 'amblelaw01.ExactRounds', WHERE WHAT IT READS IS OF BULK AT MOST 1048576: true; the input reads as it did. -/
def exactRoundsUptoRow : OpenClaim := { program := "ytgnepgenefcnpaagreatdoor", sum := "13488c3858433cae38e518dc44e04ac3397c69f87ba5250f1a73adcb713c47b5", func := "amble/amblelaw01.ExactRounds", spec := "exactRounds", inPlace := ["internal/bytealg.IndexByteString", "internal/bytealg.IndexString"], unfollowed := true, recurses := true, named := ["internal/bytealg.MaxLen", "unicode/utf8.first", "unicode/utf8.acceptRanges"], apart := false, laid := [("unicode/utf8.acceptRanges", laid_unicode_utf8_acceptRanges), ("unicode/utf8.first", laid_unicode_utf8_first)], narrowed := true }
def ExactRoundsUptoSaid : Prop := exactRoundsUptoRow.holds Tryz.pinned (OpenSpec.upto exactRoundsSpec)

/-- 'amblelaw01.ExactQuadratics', WHERE WHAT IT READS IS OF BULK AT MOST 1048576: true; the input reads as it did. -/
def exactQuadraticsUptoRow : OpenClaim := { program := "ytgnepgenefcnpaagreatdoor", sum := "13488c3858433cae38e518dc44e04ac3397c69f87ba5250f1a73adcb713c47b5", func := "amble/amblelaw01.ExactQuadratics", spec := "exactQuadratics", inPlace := ["internal/bytealg.IndexByteString", "internal/bytealg.IndexString"], unfollowed := true, recurses := true, named := ["internal/bytealg.MaxLen", "unicode/utf8.first", "unicode/utf8.acceptRanges"], apart := false, laid := [("unicode/utf8.acceptRanges", laid_unicode_utf8_acceptRanges), ("unicode/utf8.first", laid_unicode_utf8_first)], narrowed := true }
def ExactQuadraticsUptoSaid : Prop := exactQuadraticsUptoRow.holds Tryz.pinned (OpenSpec.upto exactQuadraticsSpec)

/-- 'amblelaw01.ExactMats', WHERE WHAT IT READS IS OF BULK AT MOST 1048576: true; the input reads as it did. -/
def exactMatsUptoRow : OpenClaim := { program := "ytgnepgenefcnpaagreatdoor", sum := "13488c3858433cae38e518dc44e04ac3397c69f87ba5250f1a73adcb713c47b5", func := "amble/amblelaw01.ExactMats", spec := "exactMats", inPlace := ["internal/bytealg.IndexByteString", "internal/bytealg.IndexString"], unfollowed := true, recurses := true, named := ["internal/bytealg.MaxLen", "unicode/utf8.first", "unicode/utf8.acceptRanges"], apart := false, laid := [("unicode/utf8.acceptRanges", laid_unicode_utf8_acceptRanges), ("unicode/utf8.first", laid_unicode_utf8_first)], narrowed := true }
def ExactMatsUptoSaid : Prop := exactMatsUptoRow.holds Tryz.pinned (OpenSpec.upto exactMatsSpec)

/-- 'amblelaw01.ExactZeros', WHERE WHAT IT READS IS OF BULK AT MOST 1048576: true; the input reads as it did. -/
def exactZerosUptoRow : OpenClaim := { program := "ytgnepgenefcnpaagreatdoor", sum := "13488c3858433cae38e518dc44e04ac3397c69f87ba5250f1a73adcb713c47b5", func := "amble/amblelaw01.ExactZeros", spec := "exactZeros", inPlace := ["internal/bytealg.IndexByteString", "internal/bytealg.IndexString"], unfollowed := true, recurses := true, named := ["internal/bytealg.MaxLen", "unicode/utf8.first", "unicode/utf8.acceptRanges"], apart := false, laid := [("unicode/utf8.acceptRanges", laid_unicode_utf8_acceptRanges), ("unicode/utf8.first", laid_unicode_utf8_first)], narrowed := true }
def ExactZerosUptoSaid : Prop := exactZerosUptoRow.holds Tryz.pinned (OpenSpec.upto exactZerosSpec)

/-- 'amblelaw01.ExactSurds', WHERE WHAT IT READS IS OF BULK AT MOST 1048576: true; the input reads as it did. -/
def exactSurdsUptoRow : OpenClaim := { program := "ytgnepgenefcnpaagreatdoor", sum := "13488c3858433cae38e518dc44e04ac3397c69f87ba5250f1a73adcb713c47b5", func := "amble/amblelaw01.ExactSurds", spec := "exactSurds", inPlace := ["internal/bytealg.IndexByteString", "internal/bytealg.IndexString"], unfollowed := true, recurses := true, named := ["internal/bytealg.MaxLen", "unicode/utf8.first", "unicode/utf8.acceptRanges"], apart := false, laid := [("unicode/utf8.acceptRanges", laid_unicode_utf8_acceptRanges), ("unicode/utf8.first", laid_unicode_utf8_first)], narrowed := true }
def ExactSurdsUptoSaid : Prop := exactSurdsUptoRow.holds Tryz.pinned (OpenSpec.upto exactSurdsSpec)

/-- 'amblelaw01.ExactSolves', WHERE WHAT IT READS IS OF BULK AT MOST 1048576: true; the input reads as it did. -/
def exactSolvesUptoRow : OpenClaim := { program := "ytgnepgenefcnpaagreatdoor", sum := "13488c3858433cae38e518dc44e04ac3397c69f87ba5250f1a73adcb713c47b5", func := "amble/amblelaw01.ExactSolves", spec := "exactSolves", inPlace := ["internal/bytealg.IndexByteString", "internal/bytealg.IndexString"], unfollowed := true, recurses := true, named := ["internal/bytealg.MaxLen", "unicode/utf8.first", "unicode/utf8.acceptRanges"], apart := false, laid := [("unicode/utf8.acceptRanges", laid_unicode_utf8_acceptRanges), ("unicode/utf8.first", laid_unicode_utf8_first)], narrowed := true }
def ExactSolvesUptoSaid : Prop := exactSolvesUptoRow.holds Tryz.pinned (OpenSpec.upto exactSolvesSpec)

/-- 'amblelaw01.ExactForms', WHERE WHAT IT READS IS OF BULK AT MOST 1048576: true; the input reads as it did. -/
def exactFormsUptoRow : OpenClaim := { program := "ytgnepgenefcnpaagreatdoor", sum := "13488c3858433cae38e518dc44e04ac3397c69f87ba5250f1a73adcb713c47b5", func := "amble/amblelaw01.ExactForms", spec := "exactForms", inPlace := ["internal/bytealg.IndexByteString", "internal/bytealg.IndexString"], unfollowed := true, recurses := true, named := ["internal/bytealg.MaxLen", "unicode/utf8.first", "unicode/utf8.acceptRanges"], apart := false, laid := [("unicode/utf8.acceptRanges", laid_unicode_utf8_acceptRanges), ("unicode/utf8.first", laid_unicode_utf8_first)], narrowed := true }
def ExactFormsUptoSaid : Prop := exactFormsUptoRow.holds Tryz.pinned (OpenSpec.upto exactFormsSpec)

/-- 'amblelaw01.ExactDets', WHERE WHAT IT READS IS OF BULK AT MOST 1048576: true; the input reads as it did. -/
def exactDetsUptoRow : OpenClaim := { program := "ytgnepgenefcnpaagreatdoor", sum := "13488c3858433cae38e518dc44e04ac3397c69f87ba5250f1a73adcb713c47b5", func := "amble/amblelaw01.ExactDets", spec := "exactDets", inPlace := ["internal/bytealg.IndexByteString", "internal/bytealg.IndexString"], unfollowed := true, recurses := true, named := ["internal/bytealg.MaxLen", "unicode/utf8.first", "unicode/utf8.acceptRanges"], apart := false, laid := [("unicode/utf8.acceptRanges", laid_unicode_utf8_acceptRanges), ("unicode/utf8.first", laid_unicode_utf8_first)], narrowed := true }
def ExactDetsUptoSaid : Prop := exactDetsUptoRow.holds Tryz.pinned (OpenSpec.upto exactDetsSpec)

/-- 'amblelaw01.ExactSolutions', WHERE WHAT IT READS IS OF BULK AT MOST 1048576: true; the input reads as it did. -/
def exactSolutionsUptoRow : OpenClaim := { program := "ytgnepgenefcnpaagreatdoor", sum := "13488c3858433cae38e518dc44e04ac3397c69f87ba5250f1a73adcb713c47b5", func := "amble/amblelaw01.ExactSolutions", spec := "exactSolutions", inPlace := ["internal/bytealg.IndexByteString", "internal/bytealg.IndexString"], unfollowed := true, recurses := true, named := ["internal/bytealg.MaxLen", "unicode/utf8.first", "unicode/utf8.acceptRanges"], apart := false, laid := [("unicode/utf8.acceptRanges", laid_unicode_utf8_acceptRanges), ("unicode/utf8.first", laid_unicode_utf8_first)], narrowed := true }
def ExactSolutionsUptoSaid : Prop := exactSolutionsUptoRow.holds Tryz.pinned (OpenSpec.upto exactSolutionsSpec)

/-- 'amblelaw01.ExactNames', WHERE WHAT IT READS IS OF BULK AT MOST 1048576: true; the input reads as it did. -/
def exactNamesUptoRow : OpenClaim := { program := "ytgnepgenefcnpaagreatdoor", sum := "13488c3858433cae38e518dc44e04ac3397c69f87ba5250f1a73adcb713c47b5", func := "amble/amblelaw01.ExactNames", spec := "exactNames", inPlace := ["internal/bytealg.IndexByteString", "internal/bytealg.IndexString"], unfollowed := true, recurses := true, named := ["internal/bytealg.MaxLen", "unicode/utf8.first", "unicode/utf8.acceptRanges"], apart := false, laid := [("unicode/utf8.acceptRanges", laid_unicode_utf8_acceptRanges), ("unicode/utf8.first", laid_unicode_utf8_first)], narrowed := true }
def ExactNamesUptoSaid : Prop := exactNamesUptoRow.holds Tryz.pinned (OpenSpec.upto exactNamesSpec)

end Rows
end Go.Proofs.YtgnepgenefcnpaaGreatDoor
