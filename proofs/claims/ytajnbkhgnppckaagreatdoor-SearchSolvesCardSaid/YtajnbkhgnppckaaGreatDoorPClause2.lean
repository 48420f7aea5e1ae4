/- The law of what clauses keep. -/
import Derived.Test.YtajnbkhgnppckaaGreatDoorPClause1
namespace Go.Proofs.YtajnbkhgnppckaaGreatDoor
open Go.RowKit
set_option linter.unusedVariables false
set_option linter.unusedSimpArgs false
end Go.Proofs.YtajnbkhgnppckaaGreatDoor
