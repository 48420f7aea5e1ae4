/- Arguments as the form reads them, opened to this proof's readings: one law a type. -/
import Derived.Test.YtogdmcebojiojaaGreatDoorMA
import Derived.ProofKit
import Derived.OpenShut
import Derived.SizedLaws
import Derived.Deep.Slices
import Derived.Deep.Fields
namespace Go.Proofs.YtogdmcebojiojaaGreatDoor
open Go.RowKit Go.ChangeShapes Go.WideShapes Go.Deep
set_option linter.unusedVariables false

end Go.Proofs.YtogdmcebojiojaaGreatDoor
