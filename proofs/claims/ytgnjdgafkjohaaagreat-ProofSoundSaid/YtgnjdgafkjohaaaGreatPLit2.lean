/- What the program's and the document's calls of literals answer, of stores. -/
import Derived.Test.YtgnjdgafkjohaaaGreatPLit1
namespace Go.Proofs.YtgnjdgafkjohaaaGreat
open Go.RowKit
set_option linter.unusedVariables false
set_option linter.unusedSimpArgs false

end Go.Proofs.YtgnjdgafkjohaaaGreat
