/- The law that tests of a model and scopes are as the document says. -/
import Derived.Test.YtajnbkhgnppckaaGreatPModel3
namespace Go.Proofs.YtajnbkhgnppckaaGreat
open Go.RowKit
set_option linter.unusedVariables false
set_option linter.unusedSimpArgs false

end Go.Proofs.YtajnbkhgnppckaaGreat
