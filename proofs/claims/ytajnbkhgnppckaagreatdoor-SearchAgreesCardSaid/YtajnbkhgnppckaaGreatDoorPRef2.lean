/- What the document says of constraints that hold: the same as it means. -/
import Derived.Test.YtajnbkhgnppckaaGreatDoorPModel3
namespace Go.Proofs.YtajnbkhgnppckaaGreatDoor
open Go.RowKit
set_option linter.unusedVariables false
set_option linter.unusedSimpArgs false
theorem zny {l : List Int} : (∀ i (hi : i < l.length) j (hj : j < i), l[i] ≠ l[j]'(by omega)) ↔ l.Nodup := by
 rw [List.Nodup, List.pairwise_iff_getElem]
 exact ⟨fun h i j hi hj hij e => h j hj i hij e.symm, fun h i hi j hj e => h j i (by omega) hi hj e.symm⟩
end Go.Proofs.YtajnbkhgnppckaaGreatDoor
