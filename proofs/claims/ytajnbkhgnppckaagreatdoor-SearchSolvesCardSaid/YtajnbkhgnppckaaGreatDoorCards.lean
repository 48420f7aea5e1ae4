/-
  DERIVED. GIVEN WITH THE SEED: THE CARDS: each row of YtajnbkhgnppckaaGreatDoorRows.lean that lists a variable, with what it lists TIED to the program's text (the seventh form; the later family's looks); each row that meets fmt, with fmt's text TOLD by the authors' own Lean function (tested against real Go, not proved from fmt's source: count such statements apart). THE CARD IS WHAT COUNTS. Prove the row's statement (the work); the ties are given (YtajnbkhgnppckaaGreatDoorTie.lean); close each card by the builder's one call (the guide's Derived/Test/ToyasCard.lean, 'card_holds'). Laid BY PROGRAM, IN A SANDBOX (cutbox-door.mjs). By AI agents, Wed Nov 11 2026. No macro, syntax, notation, axiom, sorry.
-/
import Derived.Test.YtajnbkhgnppckaaGreatDoorRows
import GoSem.ClaimSeven
namespace Go.Proofs.YtajnbkhgnppckaaGreatDoor
namespace Rows

/-- THE TIED CARD OF 'cordonlaw.SearchMore'. -/
def searchMoreCard : Claim7 := { stood := { row := searchMoreRow, standIns := [], harness := (true, "c857859665fb6858e414370fddee62487fc79fb8db49648b7091d9f7a0ad1203"), looks := false }, kinds := [], alts := [], laidByText := true, laidKinds := [.data, .data, .data], laidTests := true, laidLooks := .later }
def SearchMoreCardSaid : Prop := Claim7.holds Tryz.pinned (.plain (OpenSpec.ofChange searchMoreSpec)) searchMoreCard

/-- THE TIED CARD OF 'cordonlaw.SearchLists'. -/
def searchListsCard : Claim7 := { stood := { row := searchListsRow, standIns := [], harness := (true, "c857859665fb6858e414370fddee62487fc79fb8db49648b7091d9f7a0ad1203"), looks := false }, kinds := [], alts := [], laidByText := true, laidKinds := [.data, .data, .data], laidTests := true, laidLooks := .later }
def SearchListsCardSaid : Prop := Claim7.holds Tryz.pinned (.plain (OpenSpec.ofChange searchListsSpec)) searchListsCard

/-- THE TIED CARD OF 'cordonlaw.SearchAgrees'. -/
def searchAgreesCard : Claim7 := { stood := { row := searchAgreesRow, standIns := [], harness := (true, "c857859665fb6858e414370fddee62487fc79fb8db49648b7091d9f7a0ad1203"), looks := false }, kinds := [], alts := [], laidByText := true, laidKinds := [.data, .data, .data], laidTests := true, laidLooks := .later }
def SearchAgreesCardSaid : Prop := Claim7.holds Tryz.pinned (.plain (OpenSpec.ofChange searchAgreesSpec)) searchAgreesCard

/-- THE TIED CARD OF 'cordonlaw.BestBetter'. -/
def bestBetterCard : Claim7 := { stood := { row := bestBetterRow, standIns := [], harness := (true, "c857859665fb6858e414370fddee62487fc79fb8db49648b7091d9f7a0ad1203"), looks := false }, kinds := [], alts := [], laidByText := true, laidKinds := [.data, .data, .data], laidTests := true, laidLooks := .later }
def BestBetterCardSaid : Prop := Claim7.holds Tryz.pinned (.plain (OpenSpec.ofChange bestBetterSpec)) bestBetterCard

/-- THE TIED CARD OF 'cordonlaw.BestTells'. -/
def bestTellsCard : Claim7 := { stood := { row := bestTellsRow, standIns := [], harness := (true, "c857859665fb6858e414370fddee62487fc79fb8db49648b7091d9f7a0ad1203"), looks := false }, kinds := [], alts := [], laidByText := true, laidKinds := [.data, .data, .data], laidTests := true, laidLooks := .later }
def BestTellsCardSaid : Prop := Claim7.holds Tryz.pinned (.plain (OpenSpec.ofChange bestTellsSpec)) bestTellsCard

/-- THE TIED CARD OF 'cordonlaw.SearchSolves'. -/
def searchSolvesCard : Claim7 := { stood := { row := searchSolvesRow, standIns := [], harness := (true, "c857859665fb6858e414370fddee62487fc79fb8db49648b7091d9f7a0ad1203"), looks := false }, kinds := [], alts := [], laidByText := true, laidKinds := [.data, .data, .data], laidTests := true, laidLooks := .later }
def SearchSolvesCardSaid : Prop := Claim7.holds Tryz.pinned (.plain (OpenSpec.ofChange searchSolvesSpec)) searchSolvesCard

/-- THE TIED CARD OF 'cordonlaw.BestLeast'. -/
def bestLeastCard : Claim7 := { stood := { row := bestLeastRow, standIns := [], harness := (true, "c857859665fb6858e414370fddee62487fc79fb8db49648b7091d9f7a0ad1203"), looks := false }, kinds := [], alts := [], laidByText := true, laidKinds := [.data, .data, .data], laidTests := true, laidLooks := .later }
def BestLeastCardSaid : Prop := Claim7.holds Tryz.pinned (.plain (OpenSpec.ofChange bestLeastSpec)) bestLeastCard

/-- THE SECOND FORM's CARD OF 'cordonlaw.SearchMore'. -/
def searchMoreUptoCard : Claim7 := { stood := { row := searchMoreUptoRow, standIns := [], harness := (true, "c857859665fb6858e414370fddee62487fc79fb8db49648b7091d9f7a0ad1203"), looks := false }, kinds := [], alts := [], laidByText := true, laidKinds := [.data, .data, .data], laidTests := true, laidLooks := .later }
def SearchMoreUptoCardSaid : Prop := Claim7.holds Tryz.pinned (.plain (OpenSpec.upto searchMoreSpec)) searchMoreUptoCard

/-- THE SECOND FORM's CARD OF 'cordonlaw.SearchLists'. -/
def searchListsUptoCard : Claim7 := { stood := { row := searchListsUptoRow, standIns := [], harness := (true, "c857859665fb6858e414370fddee62487fc79fb8db49648b7091d9f7a0ad1203"), looks := false }, kinds := [], alts := [], laidByText := true, laidKinds := [.data, .data, .data], laidTests := true, laidLooks := .later }
def SearchListsUptoCardSaid : Prop := Claim7.holds Tryz.pinned (.plain (OpenSpec.upto searchListsSpec)) searchListsUptoCard

/-- THE SECOND FORM's CARD OF 'cordonlaw.SearchAgrees'. -/
def searchAgreesUptoCard : Claim7 := { stood := { row := searchAgreesUptoRow, standIns := [], harness := (true, "c857859665fb6858e414370fddee62487fc79fb8db49648b7091d9f7a0ad1203"), looks := false }, kinds := [], alts := [], laidByText := true, laidKinds := [.data, .data, .data], laidTests := true, laidLooks := .later }
def SearchAgreesUptoCardSaid : Prop := Claim7.holds Tryz.pinned (.plain (OpenSpec.upto searchAgreesSpec)) searchAgreesUptoCard

/-- THE SECOND FORM's CARD OF 'cordonlaw.BestBetter'. -/
def bestBetterUptoCard : Claim7 := { stood := { row := bestBetterUptoRow, standIns := [], harness := (true, "c857859665fb6858e414370fddee62487fc79fb8db49648b7091d9f7a0ad1203"), looks := false }, kinds := [], alts := [], laidByText := true, laidKinds := [.data, .data, .data], laidTests := true, laidLooks := .later }
def BestBetterUptoCardSaid : Prop := Claim7.holds Tryz.pinned (.plain (OpenSpec.upto bestBetterSpec)) bestBetterUptoCard

/-- THE SECOND FORM's CARD OF 'cordonlaw.BestTells'. -/
def bestTellsUptoCard : Claim7 := { stood := { row := bestTellsUptoRow, standIns := [], harness := (true, "c857859665fb6858e414370fddee62487fc79fb8db49648b7091d9f7a0ad1203"), looks := false }, kinds := [], alts := [], laidByText := true, laidKinds := [.data, .data, .data], laidTests := true, laidLooks := .later }
def BestTellsUptoCardSaid : Prop := Claim7.holds Tryz.pinned (.plain (OpenSpec.upto bestTellsSpec)) bestTellsUptoCard

/-- THE SECOND FORM's CARD OF 'cordonlaw.SearchSolves'. -/
def searchSolvesUptoCard : Claim7 := { stood := { row := searchSolvesUptoRow, standIns := [], harness := (true, "c857859665fb6858e414370fddee62487fc79fb8db49648b7091d9f7a0ad1203"), looks := false }, kinds := [], alts := [], laidByText := true, laidKinds := [.data, .data, .data], laidTests := true, laidLooks := .later }
def SearchSolvesUptoCardSaid : Prop := Claim7.holds Tryz.pinned (.plain (OpenSpec.upto searchSolvesSpec)) searchSolvesUptoCard

/-- THE SECOND FORM's CARD OF 'cordonlaw.BestLeast'. -/
def bestLeastUptoCard : Claim7 := { stood := { row := bestLeastUptoRow, standIns := [], harness := (true, "c857859665fb6858e414370fddee62487fc79fb8db49648b7091d9f7a0ad1203"), looks := false }, kinds := [], alts := [], laidByText := true, laidKinds := [.data, .data, .data], laidTests := true, laidLooks := .later }
def BestLeastUptoCardSaid : Prop := Claim7.holds Tryz.pinned (.plain (OpenSpec.upto bestLeastSpec)) bestLeastUptoCard
end Rows
end Go.Proofs.YtajnbkhgnppckaaGreatDoor
