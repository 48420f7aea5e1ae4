/- What the program's and the document's calls of literals answer, of stores. -/
import Derived.Test.YtgnjdgafkjohaaaGreatPLit1
namespace Go.Proofs.YtgnjdgafkjohaaaGreat
open Go.RowKit
set_option linter.unusedVariables false
set_option linter.unusedSimpArgs false

theorem any_take {α : Type} (p : α → Bool) {xs : List α} {k : Nat} (h : k < xs.length) : (xs.take (k + 1)).any p = ((xs.take k).any p || p xs[k]) := by
  rw [← List.take_append_getElem h, List.any_append]; simp
end Go.Proofs.YtgnjdgafkjohaaaGreat
