/- The law that all calls of literals answer as the document says. -/
import Derived.Test.YtajnbkhgnppckaaGreatDoorPLit2
namespace Go.Proofs.YtajnbkhgnppckaaGreatDoor
open Go.RowKit
set_option linter.unusedVariables false
set_option linter.unusedSimpArgs false
end Go.Proofs.YtajnbkhgnppckaaGreatDoor
