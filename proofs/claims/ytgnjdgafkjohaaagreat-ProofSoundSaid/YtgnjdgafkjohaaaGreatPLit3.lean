/- The law that all calls of literals answer as the document says. -/
import Derived.Test.YtgnjdgafkjohaaaGreatPLit2
namespace Go.Proofs.YtgnjdgafkjohaaaGreat
open Go.RowKit
set_option linter.unusedVariables false
set_option linter.unusedSimpArgs false

end Go.Proofs.YtgnjdgafkjohaaaGreat
