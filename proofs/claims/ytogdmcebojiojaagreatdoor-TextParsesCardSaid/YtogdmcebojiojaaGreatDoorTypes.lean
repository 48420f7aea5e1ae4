/- The program's types, opened. -/
import Derived.Test.YtogdmcebojiojaaGreatDoorProg
import Derived.Test.YtogdmcebojiojaaGreatDoorOpen
namespace Go.Proofs.YtogdmcebojiojaaGreatDoor
open Go.RowKit Go.ChangeShapes Go.WideShapes Go.Deep
set_option linter.unusedVariables false
end Go.Proofs.YtogdmcebojiojaaGreatDoor
