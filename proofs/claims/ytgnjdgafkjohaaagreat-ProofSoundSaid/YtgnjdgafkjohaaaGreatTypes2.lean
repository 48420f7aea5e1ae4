/- The program's types, opened: steps. -/
import Derived.Test.YtgnjdgafkjohaaaGreatProg
import Derived.Test.YtgnjdgafkjohaaaGreatTypes
import Derived.Test.YtgnjdgafkjohaaaGreatOpen2
namespace Go.Proofs.YtgnjdgafkjohaaaGreat
open Go.RowKit Go.ChangeShapes Go.WideShapes Go.Deep
set_option linter.unusedVariables false
theorem oStep : OpenAt StepD Tryz.prog 76 := openAt_step Tryz.underlying76 (by kernel_rfl) (by kernel_rfl) oInt oInt oClause
theorem oSteps : OpenAt (List StepD) Tryz.prog 62 := openAt_list Tryz.underlying62 (by kernel_rfl) (by kernel_rfl) oStep
end Go.Proofs.YtgnjdgafkjohaaaGreat
