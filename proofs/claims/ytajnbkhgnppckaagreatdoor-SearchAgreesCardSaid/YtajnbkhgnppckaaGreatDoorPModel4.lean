/- The law that tests of a model and scopes are as the document says. -/
import Derived.Test.YtajnbkhgnppckaaGreatDoorPModel3
namespace Go.Proofs.YtajnbkhgnppckaaGreatDoor
open Go.RowKit
set_option linter.unusedVariables false
set_option linter.unusedSimpArgs false
end Go.Proofs.YtajnbkhgnppckaaGreatDoor
