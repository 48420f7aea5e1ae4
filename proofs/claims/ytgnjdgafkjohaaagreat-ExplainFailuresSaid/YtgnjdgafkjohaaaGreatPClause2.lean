/- The law of what clauses keep. -/
import Derived.Test.YtgnjdgafkjohaaaGreatPClause1
namespace Go.Proofs.YtgnjdgafkjohaaaGreat
open Go.RowKit
set_option linter.unusedVariables false
set_option linter.unusedSimpArgs false

end Go.Proofs.YtgnjdgafkjohaaaGreat
