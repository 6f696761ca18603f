/-
  DERIVED. GIVEN WITH THE SEED: THE CARDS: each row of YtagkfkdoibnhfaaDoorRows.lean that lists a variable, with what it lists TIED to the program's text (the seventh form; the later family's looks); each row that meets fmt, with fmt's text TOLD by the authors' own Lean function (tested against real Go, not proved from fmt's source: count such statements apart). THE CARD IS WHAT COUNTS. Prove the row's statement (the work); the ties are given (YtagkfkdoibnhfaaDoorTie.lean); close each card by the builder's one call (the guide's Derived/Test/ToyasCard.lean, 'card_holds'). Laid BY PROGRAM, IN A SANDBOX (cutbox-door.mjs). By AI agents, Wed Nov 11 2026. No macro, syntax, notation, axiom, sorry.
-/
import Derived.Test.YtagkfkdoibnhfaaDoorRows
import GoSem.ClaimSeven
namespace Go.Proofs.YtagkfkdoibnhfaaDoor
namespace Rows

/-- THE TIED CARD OF 'saronlaw06.KernelParts'. -/
def kernelPartsCard : Claim7 := { stood := { row := kernelPartsRow, standIns := [], harness := (true, "1546f209dbcbef264cbb20aea537f6d5569935ba401e115858a8843598e79524"), looks := false }, kinds := [], alts := [], laidByText := true, laidKinds := [.funcs], laidTests := true, laidLooks := .later }
def KernelPartsCardSaid : Prop := Claim7.holds Tryd.pinned (.plain (OpenSpec.ofChange kernelPartsSpec)) kernelPartsCard

/-- THE TIED CARD OF 'saronlaw06.KernelMany'. -/
def kernelManyCard : Claim7 := { stood := { row := kernelManyRow, standIns := [], harness := (true, "1546f209dbcbef264cbb20aea537f6d5569935ba401e115858a8843598e79524"), looks := false }, kinds := [], alts := [], laidByText := true, laidKinds := [.funcs], laidTests := true, laidLooks := .later }
def KernelManyCardSaid : Prop := Claim7.holds Tryd.pinned (.plain (OpenSpec.ofChange kernelManySpec)) kernelManyCard

/-- THE TIED CARD OF 'saronlaw06.KernelWon'. -/
def kernelWonCard : Claim7 := { stood := { row := kernelWonRow, standIns := [], harness := (true, "1546f209dbcbef264cbb20aea537f6d5569935ba401e115858a8843598e79524"), looks := false }, kinds := [], alts := [], laidByText := true, laidKinds := [.funcs], laidTests := true, laidLooks := .later }
def KernelWonCardSaid : Prop := Claim7.holds Tryd.pinned (.plain (OpenSpec.ofChange kernelWonSpec)) kernelWonCard

/-- THE TIED CARD OF 'saronlaw06.KernelPairs'. -/
def kernelPairsCard : Claim7 := { stood := { row := kernelPairsRow, standIns := [], harness := (true, "1546f209dbcbef264cbb20aea537f6d5569935ba401e115858a8843598e79524"), looks := false }, kinds := [], alts := [], laidByText := true, laidKinds := [.funcs], laidTests := true, laidLooks := .later }
def KernelPairsCardSaid : Prop := Claim7.holds Tryd.pinned (.plain (OpenSpec.ofChange kernelPairsSpec)) kernelPairsCard

/-- THE TIED CARD OF 'saronlaw06.KernelTrue'. -/
def kernelTrueCard : Claim7 := { stood := { row := kernelTrueRow, standIns := [], harness := (true, "1546f209dbcbef264cbb20aea537f6d5569935ba401e115858a8843598e79524"), looks := false }, kinds := [], alts := [], laidByText := true, laidKinds := [.funcs], laidTests := true, laidLooks := .later }
def KernelTrueCardSaid : Prop := Claim7.holds Tryd.pinned (.plain (OpenSpec.ofChange kernelTrueSpec)) kernelTrueCard

/-- THE TIED CARD OF 'saronlaw06.KernelBack'. -/
def kernelBackCard : Claim7 := { stood := { row := kernelBackRow, standIns := [], harness := (true, "1546f209dbcbef264cbb20aea537f6d5569935ba401e115858a8843598e79524"), looks := false }, kinds := [], alts := [], laidByText := true, laidKinds := [.funcs], laidTests := true, laidLooks := .later }
def KernelBackCardSaid : Prop := Claim7.holds Tryd.pinned (.plain (OpenSpec.ofChange kernelBackSpec)) kernelBackCard

/-- THE TIED CARD OF 'saronlaw06.KernelPlays'. -/
def kernelPlaysCard : Claim7 := { stood := { row := kernelPlaysRow, standIns := [], harness := (true, "1546f209dbcbef264cbb20aea537f6d5569935ba401e115858a8843598e79524"), looks := false }, kinds := [], alts := [], laidByText := true, laidKinds := [.funcs], laidTests := true, laidLooks := .later }
def KernelPlaysCardSaid : Prop := Claim7.holds Tryd.pinned (.plain (OpenSpec.ofChange kernelPlaysSpec)) kernelPlaysCard

/-- THE TIED CARD OF 'saronlaw06.KernelDoubled'. -/
def kernelDoubledCard : Claim7 := { stood := { row := kernelDoubledRow, standIns := [], harness := (true, "1546f209dbcbef264cbb20aea537f6d5569935ba401e115858a8843598e79524"), looks := false }, kinds := [], alts := [], laidByText := true, laidKinds := [.funcs], laidTests := true, laidLooks := .later }
def KernelDoubledCardSaid : Prop := Claim7.holds Tryd.pinned (.plain (OpenSpec.ofChange kernelDoubledSpec)) kernelDoubledCard

/-- THE TIED CARD OF 'saronlaw06.KernelLosing'. -/
def kernelLosingCard : Claim7 := { stood := { row := kernelLosingRow, standIns := [], harness := (true, "1546f209dbcbef264cbb20aea537f6d5569935ba401e115858a8843598e79524"), looks := false }, kinds := [], alts := [], laidByText := true, laidKinds := [.funcs], laidTests := true, laidLooks := .later }
def KernelLosingCardSaid : Prop := Claim7.holds Tryd.pinned (.plain (OpenSpec.ofChange kernelLosingSpec)) kernelLosingCard

/-- THE TIED CARD OF 'saronlaw06.KernelWrongly'. -/
def kernelWronglyCard : Claim7 := { stood := { row := kernelWronglyRow, standIns := [], harness := (true, "1546f209dbcbef264cbb20aea537f6d5569935ba401e115858a8843598e79524"), looks := false }, kinds := [], alts := [], laidByText := true, laidKinds := [.funcs], laidTests := true, laidLooks := .later }
def KernelWronglyCardSaid : Prop := Claim7.holds Tryd.pinned (.plain (OpenSpec.ofChange kernelWronglySpec)) kernelWronglyCard

/-- THE TIED CARD OF 'saronlaw06.KernelOne'. -/
def kernelOneCard : Claim7 := { stood := { row := kernelOneRow, standIns := [], harness := (true, "1546f209dbcbef264cbb20aea537f6d5569935ba401e115858a8843598e79524"), looks := false }, kinds := [], alts := [], laidByText := true, laidKinds := [.funcs], laidTests := true, laidLooks := .later }
def KernelOneCardSaid : Prop := Claim7.holds Tryd.pinned (.plain (OpenSpec.ofChange kernelOneSpec)) kernelOneCard

/-- THE TIED CARD OF 'saronlaw06.KernelWhole'. -/
def kernelWholeCard : Claim7 := { stood := { row := kernelWholeRow, standIns := [], harness := (true, "1546f209dbcbef264cbb20aea537f6d5569935ba401e115858a8843598e79524"), looks := false }, kinds := [], alts := [], laidByText := true, laidKinds := [.funcs], laidTests := true, laidLooks := .later }
def KernelWholeCardSaid : Prop := Claim7.holds Tryd.pinned (.plain (OpenSpec.ofChange kernelWholeSpec)) kernelWholeCard

/-- THE TIED CARD OF 'saronlaw06.KernelKnown'. -/
def kernelKnownCard : Claim7 := { stood := { row := kernelKnownRow, standIns := [], harness := (true, "1546f209dbcbef264cbb20aea537f6d5569935ba401e115858a8843598e79524"), looks := false }, kinds := [], alts := [], laidByText := true, laidKinds := [.funcs], laidTests := true, laidLooks := .later }
def KernelKnownCardSaid : Prop := Claim7.holds Tryd.pinned (.plain (OpenSpec.ofChange kernelKnownSpec)) kernelKnownCard

/-- THE SECOND FORM's CARD OF 'saronlaw06.KernelParts'. -/
def kernelPartsUptoCard : Claim7 := { stood := { row := kernelPartsUptoRow, standIns := [], harness := (true, "1546f209dbcbef264cbb20aea537f6d5569935ba401e115858a8843598e79524"), looks := false }, kinds := [], alts := [], laidByText := true, laidKinds := [.funcs], laidTests := true, laidLooks := .later }
def KernelPartsUptoCardSaid : Prop := Claim7.holds Tryd.pinned (.plain (OpenSpec.upto kernelPartsSpec)) kernelPartsUptoCard

/-- THE SECOND FORM's CARD OF 'saronlaw06.KernelMany'. -/
def kernelManyUptoCard : Claim7 := { stood := { row := kernelManyUptoRow, standIns := [], harness := (true, "1546f209dbcbef264cbb20aea537f6d5569935ba401e115858a8843598e79524"), looks := false }, kinds := [], alts := [], laidByText := true, laidKinds := [.funcs], laidTests := true, laidLooks := .later }
def KernelManyUptoCardSaid : Prop := Claim7.holds Tryd.pinned (.plain (OpenSpec.upto kernelManySpec)) kernelManyUptoCard

/-- THE SECOND FORM's CARD OF 'saronlaw06.KernelWon'. -/
def kernelWonUptoCard : Claim7 := { stood := { row := kernelWonUptoRow, standIns := [], harness := (true, "1546f209dbcbef264cbb20aea537f6d5569935ba401e115858a8843598e79524"), looks := false }, kinds := [], alts := [], laidByText := true, laidKinds := [.funcs], laidTests := true, laidLooks := .later }
def KernelWonUptoCardSaid : Prop := Claim7.holds Tryd.pinned (.plain (OpenSpec.upto kernelWonSpec)) kernelWonUptoCard

/-- THE SECOND FORM's CARD OF 'saronlaw06.KernelPairs'. -/
def kernelPairsUptoCard : Claim7 := { stood := { row := kernelPairsUptoRow, standIns := [], harness := (true, "1546f209dbcbef264cbb20aea537f6d5569935ba401e115858a8843598e79524"), looks := false }, kinds := [], alts := [], laidByText := true, laidKinds := [.funcs], laidTests := true, laidLooks := .later }
def KernelPairsUptoCardSaid : Prop := Claim7.holds Tryd.pinned (.plain (OpenSpec.upto kernelPairsSpec)) kernelPairsUptoCard

/-- THE SECOND FORM's CARD OF 'saronlaw06.KernelTrue'. -/
def kernelTrueUptoCard : Claim7 := { stood := { row := kernelTrueUptoRow, standIns := [], harness := (true, "1546f209dbcbef264cbb20aea537f6d5569935ba401e115858a8843598e79524"), looks := false }, kinds := [], alts := [], laidByText := true, laidKinds := [.funcs], laidTests := true, laidLooks := .later }
def KernelTrueUptoCardSaid : Prop := Claim7.holds Tryd.pinned (.plain (OpenSpec.upto kernelTrueSpec)) kernelTrueUptoCard

/-- THE SECOND FORM's CARD OF 'saronlaw06.KernelBack'. -/
def kernelBackUptoCard : Claim7 := { stood := { row := kernelBackUptoRow, standIns := [], harness := (true, "1546f209dbcbef264cbb20aea537f6d5569935ba401e115858a8843598e79524"), looks := false }, kinds := [], alts := [], laidByText := true, laidKinds := [.funcs], laidTests := true, laidLooks := .later }
def KernelBackUptoCardSaid : Prop := Claim7.holds Tryd.pinned (.plain (OpenSpec.upto kernelBackSpec)) kernelBackUptoCard

/-- THE SECOND FORM's CARD OF 'saronlaw06.KernelPlays'. -/
def kernelPlaysUptoCard : Claim7 := { stood := { row := kernelPlaysUptoRow, standIns := [], harness := (true, "1546f209dbcbef264cbb20aea537f6d5569935ba401e115858a8843598e79524"), looks := false }, kinds := [], alts := [], laidByText := true, laidKinds := [.funcs], laidTests := true, laidLooks := .later }
def KernelPlaysUptoCardSaid : Prop := Claim7.holds Tryd.pinned (.plain (OpenSpec.upto kernelPlaysSpec)) kernelPlaysUptoCard

/-- THE SECOND FORM's CARD OF 'saronlaw06.KernelDoubled'. -/
def kernelDoubledUptoCard : Claim7 := { stood := { row := kernelDoubledUptoRow, standIns := [], harness := (true, "1546f209dbcbef264cbb20aea537f6d5569935ba401e115858a8843598e79524"), looks := false }, kinds := [], alts := [], laidByText := true, laidKinds := [.funcs], laidTests := true, laidLooks := .later }
def KernelDoubledUptoCardSaid : Prop := Claim7.holds Tryd.pinned (.plain (OpenSpec.upto kernelDoubledSpec)) kernelDoubledUptoCard

/-- THE SECOND FORM's CARD OF 'saronlaw06.KernelLosing'. -/
def kernelLosingUptoCard : Claim7 := { stood := { row := kernelLosingUptoRow, standIns := [], harness := (true, "1546f209dbcbef264cbb20aea537f6d5569935ba401e115858a8843598e79524"), looks := false }, kinds := [], alts := [], laidByText := true, laidKinds := [.funcs], laidTests := true, laidLooks := .later }
def KernelLosingUptoCardSaid : Prop := Claim7.holds Tryd.pinned (.plain (OpenSpec.upto kernelLosingSpec)) kernelLosingUptoCard

/-- THE SECOND FORM's CARD OF 'saronlaw06.KernelWrongly'. -/
def kernelWronglyUptoCard : Claim7 := { stood := { row := kernelWronglyUptoRow, standIns := [], harness := (true, "1546f209dbcbef264cbb20aea537f6d5569935ba401e115858a8843598e79524"), looks := false }, kinds := [], alts := [], laidByText := true, laidKinds := [.funcs], laidTests := true, laidLooks := .later }
def KernelWronglyUptoCardSaid : Prop := Claim7.holds Tryd.pinned (.plain (OpenSpec.upto kernelWronglySpec)) kernelWronglyUptoCard

/-- THE SECOND FORM's CARD OF 'saronlaw06.KernelOne'. -/
def kernelOneUptoCard : Claim7 := { stood := { row := kernelOneUptoRow, standIns := [], harness := (true, "1546f209dbcbef264cbb20aea537f6d5569935ba401e115858a8843598e79524"), looks := false }, kinds := [], alts := [], laidByText := true, laidKinds := [.funcs], laidTests := true, laidLooks := .later }
def KernelOneUptoCardSaid : Prop := Claim7.holds Tryd.pinned (.plain (OpenSpec.upto kernelOneSpec)) kernelOneUptoCard

/-- THE SECOND FORM's CARD OF 'saronlaw06.KernelWhole'. -/
def kernelWholeUptoCard : Claim7 := { stood := { row := kernelWholeUptoRow, standIns := [], harness := (true, "1546f209dbcbef264cbb20aea537f6d5569935ba401e115858a8843598e79524"), looks := false }, kinds := [], alts := [], laidByText := true, laidKinds := [.funcs], laidTests := true, laidLooks := .later }
def KernelWholeUptoCardSaid : Prop := Claim7.holds Tryd.pinned (.plain (OpenSpec.upto kernelWholeSpec)) kernelWholeUptoCard

/-- THE SECOND FORM's CARD OF 'saronlaw06.KernelKnown'. -/
def kernelKnownUptoCard : Claim7 := { stood := { row := kernelKnownUptoRow, standIns := [], harness := (true, "1546f209dbcbef264cbb20aea537f6d5569935ba401e115858a8843598e79524"), looks := false }, kinds := [], alts := [], laidByText := true, laidKinds := [.funcs], laidTests := true, laidLooks := .later }
def KernelKnownUptoCardSaid : Prop := Claim7.holds Tryd.pinned (.plain (OpenSpec.upto kernelKnownSpec)) kernelKnownUptoCard
end Rows
end Go.Proofs.YtagkfkdoibnhfaaDoor
