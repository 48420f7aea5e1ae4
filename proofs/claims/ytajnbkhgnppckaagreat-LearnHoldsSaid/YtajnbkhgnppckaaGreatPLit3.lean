/- The law that all calls of literals answer as the document says. -/
import Derived.Test.YtajnbkhgnppckaaGreatPLit2
namespace Go.Proofs.YtajnbkhgnppckaaGreat
open Go.RowKit
set_option linter.unusedVariables false
set_option linter.unusedSimpArgs false

end Go.Proofs.YtajnbkhgnppckaaGreat
