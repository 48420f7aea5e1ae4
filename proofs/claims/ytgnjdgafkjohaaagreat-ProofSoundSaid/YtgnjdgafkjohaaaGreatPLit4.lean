/- The law that a literal and its opposite part the values. -/
import Derived.Test.YtgnjdgafkjohaaaGreatPLit3
namespace Go.Proofs.YtgnjdgafkjohaaaGreat
open Go.RowKit
set_option linter.unusedVariables false
set_option linter.unusedSimpArgs false

end Go.Proofs.YtgnjdgafkjohaaaGreat
