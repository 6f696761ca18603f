/-
  DERIVED. GIVEN WITH THE SEED: THE CARDS: each row of YtgehkojccmkggaaDoorRows.lean that lists a variable, with what it lists TIED to the program's text (the seventh form; the later family's looks); each row that meets fmt, with fmt's text TOLD by the authors' own Lean function (tested against real Go, not proved from fmt's source: count such statements apart). THE CARD IS WHAT COUNTS. Prove the row's statement (the work); the ties are given (YtgehkojccmkggaaDoorTie.lean); close each card by the builder's one call (the guide's Derived/Test/ToyasCard.lean, 'card_holds'). Laid BY PROGRAM, IN A SANDBOX (cutbox-door.mjs). By AI agents, Wed Nov 11 2026. No macro, syntax, notation, axiom, sorry.
-/
import Derived.Test.YtgehkojccmkggaaDoorRows
import GoSem.ClaimSeven
namespace Go.Proofs.YtgehkojccmkggaaDoor
namespace Rows

/-- THE TIED CARD OF 'saronlaw01.TuneTunings'. -/
def tuneTuningsCard : Claim7 := { stood := { row := tuneTuningsRow, standIns := [], harness := (true, "85693091866c29bf906bac72371cb9887587e8fcd17bbf5c9fc996e91d6339ab"), looks := false }, kinds := [], alts := [], laidByText := true, laidKinds := [.funcs], laidTests := true, laidLooks := .later }
def TuneTuningsCardSaid : Prop := Claim7.holds Tryd.pinned (.plain (OpenSpec.ofChange tuneTuningsSpec)) tuneTuningsCard

/-- THE TIED CARD OF 'saronlaw01.TunePitches'. -/
def tunePitchesCard : Claim7 := { stood := { row := tunePitchesRow, standIns := [], harness := (true, "85693091866c29bf906bac72371cb9887587e8fcd17bbf5c9fc996e91d6339ab"), looks := false }, kinds := [], alts := [], laidByText := true, laidKinds := [.funcs], laidTests := true, laidLooks := .later }
def TunePitchesCardSaid : Prop := Claim7.holds Tryd.pinned (.plain (OpenSpec.ofChange tunePitchesSpec)) tunePitchesCard

/-- THE TIED CARD OF 'saronlaw01.TuneEvens'. -/
def tuneEvensCard : Claim7 := { stood := { row := tuneEvensRow, standIns := [], harness := (true, "85693091866c29bf906bac72371cb9887587e8fcd17bbf5c9fc996e91d6339ab"), looks := false }, kinds := [], alts := [], laidByText := true, laidKinds := [.funcs], laidTests := true, laidLooks := .later }
def TuneEvensCardSaid : Prop := Claim7.holds Tryd.pinned (.plain (OpenSpec.ofChange tuneEvensSpec)) tuneEvensCard

/-- THE TIED CARD OF 'saronlaw01.TuneWrongs'. -/
def tuneWrongsCard : Claim7 := { stood := { row := tuneWrongsRow, standIns := [], harness := (true, "85693091866c29bf906bac72371cb9887587e8fcd17bbf5c9fc996e91d6339ab"), looks := false }, kinds := [], alts := [], laidByText := true, laidKinds := [.funcs], laidTests := true, laidLooks := .later }
def TuneWrongsCardSaid : Prop := Claim7.holds Tryd.pinned (.plain (OpenSpec.ofChange tuneWrongsSpec)) tuneWrongsCard

/-- THE TIED CARD OF 'saronlaw01.TuneTrue'. -/
def tuneTrueCard : Claim7 := { stood := { row := tuneTrueRow, standIns := [], harness := (true, "85693091866c29bf906bac72371cb9887587e8fcd17bbf5c9fc996e91d6339ab"), looks := false }, kinds := [], alts := [], laidByText := true, laidKinds := [.funcs], laidTests := true, laidLooks := .later }
def TuneTrueCardSaid : Prop := Claim7.holds Tryd.pinned (.plain (OpenSpec.ofChange tuneTrueSpec)) tuneTrueCard

/-- THE TIED CARD OF 'saronlaw01.TuneEnds'. -/
def tuneEndsCard : Claim7 := { stood := { row := tuneEndsRow, standIns := [], harness := (true, "85693091866c29bf906bac72371cb9887587e8fcd17bbf5c9fc996e91d6339ab"), looks := false }, kinds := [], alts := [], laidByText := true, laidKinds := [.funcs], laidTests := true, laidLooks := .later }
def TuneEndsCardSaid : Prop := Claim7.holds Tryd.pinned (.plain (OpenSpec.ofChange tuneEndsSpec)) tuneEndsCard

/-- THE TIED CARD OF 'saronlaw01.TuneNarrower'. -/
def tuneNarrowerCard : Claim7 := { stood := { row := tuneNarrowerRow, standIns := [], harness := (true, "85693091866c29bf906bac72371cb9887587e8fcd17bbf5c9fc996e91d6339ab"), looks := false }, kinds := [], alts := [], laidByText := true, laidKinds := [.funcs], laidTests := true, laidLooks := .later }
def TuneNarrowerCardSaid : Prop := Claim7.holds Tryd.pinned (.plain (OpenSpec.ofChange tuneNarrowerSpec)) tuneNarrowerCard

/-- THE TIED CARD OF 'saronlaw01.TuneWider'. -/
def tuneWiderCard : Claim7 := { stood := { row := tuneWiderRow, standIns := [], harness := (true, "85693091866c29bf906bac72371cb9887587e8fcd17bbf5c9fc996e91d6339ab"), looks := false }, kinds := [], alts := [], laidByText := true, laidKinds := [.funcs], laidTests := true, laidLooks := .later }
def TuneWiderCardSaid : Prop := Claim7.holds Tryd.pinned (.plain (OpenSpec.ofChange tuneWiderSpec)) tuneWiderCard

/-- THE TIED CARD OF 'saronlaw01.TuneEven'. -/
def tuneEvenCard : Claim7 := { stood := { row := tuneEvenRow, standIns := [], harness := (true, "85693091866c29bf906bac72371cb9887587e8fcd17bbf5c9fc996e91d6339ab"), looks := false }, kinds := [], alts := [], laidByText := true, laidKinds := [.funcs], laidTests := true, laidLooks := .later }
def TuneEvenCardSaid : Prop := Claim7.holds Tryd.pinned (.plain (OpenSpec.ofChange tuneEvenSpec)) tuneEvenCard

/-- THE TIED CARD OF 'saronlaw01.TuneApart'. -/
def tuneApartCard : Claim7 := { stood := { row := tuneApartRow, standIns := [], harness := (true, "85693091866c29bf906bac72371cb9887587e8fcd17bbf5c9fc996e91d6339ab"), looks := false }, kinds := [], alts := [], laidByText := true, laidKinds := [.funcs], laidTests := true, laidLooks := .later }
def TuneApartCardSaid : Prop := Claim7.holds Tryd.pinned (.plain (OpenSpec.ofChange tuneApartSpec)) tuneApartCard

/-- THE TIED CARD OF 'saronlaw01.TuneSure'. -/
def tuneSureCard : Claim7 := { stood := { row := tuneSureRow, standIns := [], harness := (true, "85693091866c29bf906bac72371cb9887587e8fcd17bbf5c9fc996e91d6339ab"), looks := false }, kinds := [], alts := [], laidByText := true, laidKinds := [.funcs], laidTests := true, laidLooks := .later }
def TuneSureCardSaid : Prop := Claim7.holds Tryd.pinned (.plain (OpenSpec.ofChange tuneSureSpec)) tuneSureCard

/-- THE TIED CARD OF 'saronlaw01.TuneLeft'. -/
def tuneLeftCard : Claim7 := { stood := { row := tuneLeftRow, standIns := [], harness := (true, "85693091866c29bf906bac72371cb9887587e8fcd17bbf5c9fc996e91d6339ab"), looks := false }, kinds := [], alts := [], laidByText := true, laidKinds := [.funcs], laidTests := true, laidLooks := .later }
def TuneLeftCardSaid : Prop := Claim7.holds Tryd.pinned (.plain (OpenSpec.ofChange tuneLeftSpec)) tuneLeftCard

/-- THE TIED CARD OF 'saronlaw01.TuneKnown'. -/
def tuneKnownCard : Claim7 := { stood := { row := tuneKnownRow, standIns := [], harness := (true, "85693091866c29bf906bac72371cb9887587e8fcd17bbf5c9fc996e91d6339ab"), looks := false }, kinds := [], alts := [], laidByText := true, laidKinds := [.funcs], laidTests := true, laidLooks := .later }
def TuneKnownCardSaid : Prop := Claim7.holds Tryd.pinned (.plain (OpenSpec.ofChange tuneKnownSpec)) tuneKnownCard

/-- THE SECOND FORM's CARD OF 'saronlaw01.TuneTunings'. -/
def tuneTuningsUptoCard : Claim7 := { stood := { row := tuneTuningsUptoRow, standIns := [], harness := (true, "85693091866c29bf906bac72371cb9887587e8fcd17bbf5c9fc996e91d6339ab"), looks := false }, kinds := [], alts := [], laidByText := true, laidKinds := [.funcs], laidTests := true, laidLooks := .later }
def TuneTuningsUptoCardSaid : Prop := Claim7.holds Tryd.pinned (.plain (OpenSpec.upto tuneTuningsSpec)) tuneTuningsUptoCard

/-- THE SECOND FORM's CARD OF 'saronlaw01.TunePitches'. -/
def tunePitchesUptoCard : Claim7 := { stood := { row := tunePitchesUptoRow, standIns := [], harness := (true, "85693091866c29bf906bac72371cb9887587e8fcd17bbf5c9fc996e91d6339ab"), looks := false }, kinds := [], alts := [], laidByText := true, laidKinds := [.funcs], laidTests := true, laidLooks := .later }
def TunePitchesUptoCardSaid : Prop := Claim7.holds Tryd.pinned (.plain (OpenSpec.upto tunePitchesSpec)) tunePitchesUptoCard

/-- THE SECOND FORM's CARD OF 'saronlaw01.TuneEvens'. -/
def tuneEvensUptoCard : Claim7 := { stood := { row := tuneEvensUptoRow, standIns := [], harness := (true, "85693091866c29bf906bac72371cb9887587e8fcd17bbf5c9fc996e91d6339ab"), looks := false }, kinds := [], alts := [], laidByText := true, laidKinds := [.funcs], laidTests := true, laidLooks := .later }
def TuneEvensUptoCardSaid : Prop := Claim7.holds Tryd.pinned (.plain (OpenSpec.upto tuneEvensSpec)) tuneEvensUptoCard

/-- THE SECOND FORM's CARD OF 'saronlaw01.TuneWrongs'. -/
def tuneWrongsUptoCard : Claim7 := { stood := { row := tuneWrongsUptoRow, standIns := [], harness := (true, "85693091866c29bf906bac72371cb9887587e8fcd17bbf5c9fc996e91d6339ab"), looks := false }, kinds := [], alts := [], laidByText := true, laidKinds := [.funcs], laidTests := true, laidLooks := .later }
def TuneWrongsUptoCardSaid : Prop := Claim7.holds Tryd.pinned (.plain (OpenSpec.upto tuneWrongsSpec)) tuneWrongsUptoCard

/-- THE SECOND FORM's CARD OF 'saronlaw01.TuneTrue'. -/
def tuneTrueUptoCard : Claim7 := { stood := { row := tuneTrueUptoRow, standIns := [], harness := (true, "85693091866c29bf906bac72371cb9887587e8fcd17bbf5c9fc996e91d6339ab"), looks := false }, kinds := [], alts := [], laidByText := true, laidKinds := [.funcs], laidTests := true, laidLooks := .later }
def TuneTrueUptoCardSaid : Prop := Claim7.holds Tryd.pinned (.plain (OpenSpec.upto tuneTrueSpec)) tuneTrueUptoCard

/-- THE SECOND FORM's CARD OF 'saronlaw01.TuneEnds'. -/
def tuneEndsUptoCard : Claim7 := { stood := { row := tuneEndsUptoRow, standIns := [], harness := (true, "85693091866c29bf906bac72371cb9887587e8fcd17bbf5c9fc996e91d6339ab"), looks := false }, kinds := [], alts := [], laidByText := true, laidKinds := [.funcs], laidTests := true, laidLooks := .later }
def TuneEndsUptoCardSaid : Prop := Claim7.holds Tryd.pinned (.plain (OpenSpec.upto tuneEndsSpec)) tuneEndsUptoCard

/-- THE SECOND FORM's CARD OF 'saronlaw01.TuneNarrower'. -/
def tuneNarrowerUptoCard : Claim7 := { stood := { row := tuneNarrowerUptoRow, standIns := [], harness := (true, "85693091866c29bf906bac72371cb9887587e8fcd17bbf5c9fc996e91d6339ab"), looks := false }, kinds := [], alts := [], laidByText := true, laidKinds := [.funcs], laidTests := true, laidLooks := .later }
def TuneNarrowerUptoCardSaid : Prop := Claim7.holds Tryd.pinned (.plain (OpenSpec.upto tuneNarrowerSpec)) tuneNarrowerUptoCard

/-- THE SECOND FORM's CARD OF 'saronlaw01.TuneWider'. -/
def tuneWiderUptoCard : Claim7 := { stood := { row := tuneWiderUptoRow, standIns := [], harness := (true, "85693091866c29bf906bac72371cb9887587e8fcd17bbf5c9fc996e91d6339ab"), looks := false }, kinds := [], alts := [], laidByText := true, laidKinds := [.funcs], laidTests := true, laidLooks := .later }
def TuneWiderUptoCardSaid : Prop := Claim7.holds Tryd.pinned (.plain (OpenSpec.upto tuneWiderSpec)) tuneWiderUptoCard

/-- THE SECOND FORM's CARD OF 'saronlaw01.TuneEven'. -/
def tuneEvenUptoCard : Claim7 := { stood := { row := tuneEvenUptoRow, standIns := [], harness := (true, "85693091866c29bf906bac72371cb9887587e8fcd17bbf5c9fc996e91d6339ab"), looks := false }, kinds := [], alts := [], laidByText := true, laidKinds := [.funcs], laidTests := true, laidLooks := .later }
def TuneEvenUptoCardSaid : Prop := Claim7.holds Tryd.pinned (.plain (OpenSpec.upto tuneEvenSpec)) tuneEvenUptoCard

/-- THE SECOND FORM's CARD OF 'saronlaw01.TuneApart'. -/
def tuneApartUptoCard : Claim7 := { stood := { row := tuneApartUptoRow, standIns := [], harness := (true, "85693091866c29bf906bac72371cb9887587e8fcd17bbf5c9fc996e91d6339ab"), looks := false }, kinds := [], alts := [], laidByText := true, laidKinds := [.funcs], laidTests := true, laidLooks := .later }
def TuneApartUptoCardSaid : Prop := Claim7.holds Tryd.pinned (.plain (OpenSpec.upto tuneApartSpec)) tuneApartUptoCard

/-- THE SECOND FORM's CARD OF 'saronlaw01.TuneSure'. -/
def tuneSureUptoCard : Claim7 := { stood := { row := tuneSureUptoRow, standIns := [], harness := (true, "85693091866c29bf906bac72371cb9887587e8fcd17bbf5c9fc996e91d6339ab"), looks := false }, kinds := [], alts := [], laidByText := true, laidKinds := [.funcs], laidTests := true, laidLooks := .later }
def TuneSureUptoCardSaid : Prop := Claim7.holds Tryd.pinned (.plain (OpenSpec.upto tuneSureSpec)) tuneSureUptoCard

/-- THE SECOND FORM's CARD OF 'saronlaw01.TuneLeft'. -/
def tuneLeftUptoCard : Claim7 := { stood := { row := tuneLeftUptoRow, standIns := [], harness := (true, "85693091866c29bf906bac72371cb9887587e8fcd17bbf5c9fc996e91d6339ab"), looks := false }, kinds := [], alts := [], laidByText := true, laidKinds := [.funcs], laidTests := true, laidLooks := .later }
def TuneLeftUptoCardSaid : Prop := Claim7.holds Tryd.pinned (.plain (OpenSpec.upto tuneLeftSpec)) tuneLeftUptoCard

/-- THE SECOND FORM's CARD OF 'saronlaw01.TuneKnown'. -/
def tuneKnownUptoCard : Claim7 := { stood := { row := tuneKnownUptoRow, standIns := [], harness := (true, "85693091866c29bf906bac72371cb9887587e8fcd17bbf5c9fc996e91d6339ab"), looks := false }, kinds := [], alts := [], laidByText := true, laidKinds := [.funcs], laidTests := true, laidLooks := .later }
def TuneKnownUptoCardSaid : Prop := Claim7.holds Tryd.pinned (.plain (OpenSpec.upto tuneKnownSpec)) tuneKnownUptoCard
end Rows
end Go.Proofs.YtgehkojccmkggaaDoor
