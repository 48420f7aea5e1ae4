/- What the program's and the document's calls of literals answer, of stores. -/
import Derived.Test.YtonkbljpcgadlaaGreatPLit1
namespace Go.Proofs.YtonkbljpcgadlaaGreat
open Go.RowKit
set_option linter.unusedVariables false
set_option linter.unusedSimpArgs false

end Go.Proofs.YtonkbljpcgadlaaGreat
