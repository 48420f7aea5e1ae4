/- What the document says of clauses: the same as the program does. -/
import Derived.Test.YtgnjdgafkjohaaaGreatPClause2
import Derived.Test.YtgnjdgafkjohaaaGreatPModel1
namespace Go.Proofs.YtgnjdgafkjohaaaGreat
open Go.RowKit
set_option linter.unusedVariables false
set_option linter.unusedSimpArgs false

end Go.Proofs.YtgnjdgafkjohaaaGreat
