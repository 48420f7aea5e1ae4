/-
  DERIVED. GIVEN WITH THE SEED: THE CARDS: each row of YtogdmcebojiojaaGreatDoorRows.lean that lists a variable, with what it lists TIED to the program's text (the seventh form; the later family's looks); each row that meets fmt, with fmt's text TOLD by the authors' own Lean function (tested against real Go, not proved from fmt's source: count such statements apart). THE CARD IS WHAT COUNTS. Prove the row's statement (the work); the ties are given (YtogdmcebojiojaaGreatDoorTie.lean); close each card by the builder's one call (the guide's Derived/Test/ToyasCard.lean, 'card_holds'). Laid BY PROGRAM, IN A SANDBOX (cutbox-door.mjs). By AI agents, Wed Nov 11 2026. No macro, syntax, notation, axiom, sorry.
-/
import Derived.Test.YtogdmcebojiojaaGreatDoorRows
import GoSem.ClaimSeven
namespace Go.Proofs.YtogdmcebojiojaaGreatDoor
namespace Rows

/-- THE TIED CARD OF 'cordonlaw.TextParses'. -/
def textParsesCard : Claim7 := { stood := { row := textParsesRow, standIns := [], harness := (true, "71b267f0d22864643fff2e80e01a46fb1b49e49d7215b6a929fa4b3e8b96c126"), looks := true }, kinds := [], alts := [], laidByText := true, laidKinds := [.data, .data, .data, .sentinel, .sentinel], laidTests := true, laidLooks := .later }
def TextParsesCardSaid : Prop := Claim7.holds Tryz.pinned (.plain (OpenSpec.ofChange textParsesSpec)) textParsesCard

/-- THE TIED CARD OF 'cordonlaw.TextPrints'. -/
def textPrintsCard : Claim7 := { stood := { row := textPrintsRow, standIns := [], harness := (true, "71b267f0d22864643fff2e80e01a46fb1b49e49d7215b6a929fa4b3e8b96c126"), looks := true }, kinds := [], alts := [], laidByText := true, laidKinds := [.data, .data, .data, .sentinel, .sentinel], laidTests := true, laidLooks := .later }
def TextPrintsCardSaid : Prop := Claim7.holds Tryz.pinned (.plain (OpenSpec.ofChange textPrintsSpec)) textPrintsCard

/-- THE TIED CARD OF 'cordonlaw.TextBack'. -/
def textBackCard : Claim7 := { stood := { row := textBackRow, standIns := [], harness := (true, "71b267f0d22864643fff2e80e01a46fb1b49e49d7215b6a929fa4b3e8b96c126"), looks := true }, kinds := [], alts := [], laidByText := true, laidKinds := [.data, .data, .data, .sentinel, .sentinel], laidTests := true, laidLooks := .later }
def TextBackCardSaid : Prop := Claim7.holds Tryz.pinned (.plain (OpenSpec.ofChange textBackSpec)) textBackCard

/-- THE TIED CARD OF 'cordonlaw.ReportAnswers'. -/
def reportAnswersCard : Claim7 := { stood := { row := reportAnswersRow, standIns := [], harness := (true, "71b267f0d22864643fff2e80e01a46fb1b49e49d7215b6a929fa4b3e8b96c126"), looks := true }, kinds := [], alts := [], laidByText := true, laidKinds := [.data, .data, .data, .sentinel, .sentinel], laidTests := true, laidLooks := .later }
def ReportAnswersCardSaid : Prop := Claim7.holds Tryz.pinned (.plain (OpenSpec.ofChange reportAnswersSpec)) reportAnswersCard

/-- THE TIED CARD OF 'cordonlaw.ReportVerifies'. -/
def reportVerifiesCard : Claim7 := { stood := { row := reportVerifiesRow, standIns := [], harness := (true, "71b267f0d22864643fff2e80e01a46fb1b49e49d7215b6a929fa4b3e8b96c126"), looks := true }, kinds := [], alts := [], laidByText := true, laidKinds := [.data, .data, .data, .sentinel, .sentinel], laidTests := true, laidLooks := .later }
def ReportVerifiesCardSaid : Prop := Claim7.holds Tryz.pinned (.plain (OpenSpec.ofChange reportVerifiesSpec)) reportVerifiesCard

/-- THE TIED CARD OF 'cordonlaw.ReportWhole'. -/
def reportWholeCard : Claim7 := { stood := { row := reportWholeRow, standIns := [], harness := (true, "71b267f0d22864643fff2e80e01a46fb1b49e49d7215b6a929fa4b3e8b96c126"), looks := true }, kinds := [], alts := [], laidByText := true, laidKinds := [.data, .data, .data, .sentinel, .sentinel], laidTests := true, laidLooks := .later }
def ReportWholeCardSaid : Prop := Claim7.holds Tryz.pinned (.plain (OpenSpec.ofChange reportWholeSpec)) reportWholeCard

/-- THE TIED CARD OF 'cordonlaw.RestModels'. -/
def restModelsCard : Claim7 := { stood := { row := restModelsRow, standIns := [], harness := (true, "71b267f0d22864643fff2e80e01a46fb1b49e49d7215b6a929fa4b3e8b96c126"), looks := true }, kinds := [], alts := [], laidByText := true, laidKinds := [.data, .data, .data, .sentinel, .sentinel], laidTests := true, laidLooks := .later }
def RestModelsCardSaid : Prop := Claim7.holds Tryz.pinned (.plain (OpenSpec.ofChange restModelsSpec)) restModelsCard

/-- THE SECOND FORM's CARD OF 'cordonlaw.TextParses'. -/
def textParsesUptoCard : Claim7 := { stood := { row := textParsesUptoRow, standIns := [], harness := (true, "71b267f0d22864643fff2e80e01a46fb1b49e49d7215b6a929fa4b3e8b96c126"), looks := true }, kinds := [], alts := [], laidByText := true, laidKinds := [.data, .data, .data, .sentinel, .sentinel], laidTests := true, laidLooks := .later }
def TextParsesUptoCardSaid : Prop := Claim7.holds Tryz.pinned (.plain (OpenSpec.upto textParsesSpec)) textParsesUptoCard

/-- THE SECOND FORM's CARD OF 'cordonlaw.TextPrints'. -/
def textPrintsUptoCard : Claim7 := { stood := { row := textPrintsUptoRow, standIns := [], harness := (true, "71b267f0d22864643fff2e80e01a46fb1b49e49d7215b6a929fa4b3e8b96c126"), looks := true }, kinds := [], alts := [], laidByText := true, laidKinds := [.data, .data, .data, .sentinel, .sentinel], laidTests := true, laidLooks := .later }
def TextPrintsUptoCardSaid : Prop := Claim7.holds Tryz.pinned (.plain (OpenSpec.upto textPrintsSpec)) textPrintsUptoCard

/-- THE SECOND FORM's CARD OF 'cordonlaw.TextBack'. -/
def textBackUptoCard : Claim7 := { stood := { row := textBackUptoRow, standIns := [], harness := (true, "71b267f0d22864643fff2e80e01a46fb1b49e49d7215b6a929fa4b3e8b96c126"), looks := true }, kinds := [], alts := [], laidByText := true, laidKinds := [.data, .data, .data, .sentinel, .sentinel], laidTests := true, laidLooks := .later }
def TextBackUptoCardSaid : Prop := Claim7.holds Tryz.pinned (.plain (OpenSpec.upto textBackSpec)) textBackUptoCard

/-- THE SECOND FORM's CARD OF 'cordonlaw.ReportAnswers'. -/
def reportAnswersUptoCard : Claim7 := { stood := { row := reportAnswersUptoRow, standIns := [], harness := (true, "71b267f0d22864643fff2e80e01a46fb1b49e49d7215b6a929fa4b3e8b96c126"), looks := true }, kinds := [], alts := [], laidByText := true, laidKinds := [.data, .data, .data, .sentinel, .sentinel], laidTests := true, laidLooks := .later }
def ReportAnswersUptoCardSaid : Prop := Claim7.holds Tryz.pinned (.plain (OpenSpec.upto reportAnswersSpec)) reportAnswersUptoCard

/-- THE SECOND FORM's CARD OF 'cordonlaw.ReportVerifies'. -/
def reportVerifiesUptoCard : Claim7 := { stood := { row := reportVerifiesUptoRow, standIns := [], harness := (true, "71b267f0d22864643fff2e80e01a46fb1b49e49d7215b6a929fa4b3e8b96c126"), looks := true }, kinds := [], alts := [], laidByText := true, laidKinds := [.data, .data, .data, .sentinel, .sentinel], laidTests := true, laidLooks := .later }
def ReportVerifiesUptoCardSaid : Prop := Claim7.holds Tryz.pinned (.plain (OpenSpec.upto reportVerifiesSpec)) reportVerifiesUptoCard

/-- THE SECOND FORM's CARD OF 'cordonlaw.ReportWhole'. -/
def reportWholeUptoCard : Claim7 := { stood := { row := reportWholeUptoRow, standIns := [], harness := (true, "71b267f0d22864643fff2e80e01a46fb1b49e49d7215b6a929fa4b3e8b96c126"), looks := true }, kinds := [], alts := [], laidByText := true, laidKinds := [.data, .data, .data, .sentinel, .sentinel], laidTests := true, laidLooks := .later }
def ReportWholeUptoCardSaid : Prop := Claim7.holds Tryz.pinned (.plain (OpenSpec.upto reportWholeSpec)) reportWholeUptoCard

/-- THE SECOND FORM's CARD OF 'cordonlaw.RestModels'. -/
def restModelsUptoCard : Claim7 := { stood := { row := restModelsUptoRow, standIns := [], harness := (true, "71b267f0d22864643fff2e80e01a46fb1b49e49d7215b6a929fa4b3e8b96c126"), looks := true }, kinds := [], alts := [], laidByText := true, laidKinds := [.data, .data, .data, .sentinel, .sentinel], laidTests := true, laidLooks := .later }
def RestModelsUptoCardSaid : Prop := Claim7.holds Tryz.pinned (.plain (OpenSpec.upto restModelsSpec)) restModelsUptoCard
end Rows
end Go.Proofs.YtogdmcebojiojaaGreatDoor
