/-
  DERIVED. GIVEN WITH THE SEED: THE CARDS: each row of YtdnmkinmcdihnaaGreatDoorRows.lean that lists a variable, with what it lists TIED to the program's text (the seventh form; the later family's looks); each row that meets fmt, with fmt's text TOLD by the authors' own Lean function (tested against real Go, not proved from fmt's source: count such statements apart). THE CARD IS WHAT COUNTS. Prove the row's statement (the work); the ties are given (YtdnmkinmcdihnaaGreatDoorTie.lean); close each card by the builder's one call (the guide's Derived/Test/ToyasCard.lean, 'card_holds'). Laid BY PROGRAM, IN A SANDBOX (cutbox-door.mjs). By AI agents, Wed Nov 11 2026. No macro, syntax, notation, axiom, sorry.
-/
import Derived.Test.YtdnmkinmcdihnaaGreatDoorRows
import GoSem.ClaimSeven
namespace Go.Proofs.YtdnmkinmcdihnaaGreatDoor
namespace Rows

/-- THE TIED CARD OF 'cordonlaw.RestModels'. -/
def restModelsCard : Claim7 := { stood := { row := restModelsRow, standIns := [], harness := (true, "4ac28ef53b7d6f9549072e27aeb2a642546617873e9f880d866da66111ebdd32"), looks := true }, kinds := [], alts := [], laidByText := true, laidKinds := [.data, .data, .data, .sentinel, .sentinel], laidTests := true, laidLooks := .later }
def RestModelsCardSaid : Prop := Claim7.holds Tryz.pinned (.plain (OpenSpec.ofChange restModelsSpec)) restModelsCard

/-- THE SECOND FORM's CARD OF 'cordonlaw.RestModels'. -/
def restModelsUptoCard : Claim7 := { stood := { row := restModelsUptoRow, standIns := [], harness := (true, "4ac28ef53b7d6f9549072e27aeb2a642546617873e9f880d866da66111ebdd32"), looks := true }, kinds := [], alts := [], laidByText := true, laidKinds := [.data, .data, .data, .sentinel, .sentinel], laidTests := true, laidLooks := .later }
def RestModelsUptoCardSaid : Prop := Claim7.holds Tryz.pinned (.plain (OpenSpec.upto restModelsSpec)) restModelsUptoCard
end Rows
end Go.Proofs.YtdnmkinmcdihnaaGreatDoor
