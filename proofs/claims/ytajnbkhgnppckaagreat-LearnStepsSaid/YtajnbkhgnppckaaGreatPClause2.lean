/- The law of what clauses keep. -/
import Derived.Test.YtajnbkhgnppckaaGreatPClause1
namespace Go.Proofs.YtajnbkhgnppckaaGreat
open Go.RowKit
set_option linter.unusedVariables false
set_option linter.unusedSimpArgs false

end Go.Proofs.YtajnbkhgnppckaaGreat
