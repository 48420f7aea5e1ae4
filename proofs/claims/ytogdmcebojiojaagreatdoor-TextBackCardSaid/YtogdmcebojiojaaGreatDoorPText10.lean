/- The law TextPrints: both printers answer alike; what must be in any case. -/
import Derived.Test.YtogdmcebojiojaaGreatDoorMR
import Derived.Test.YtogdmcebojiojaaGreatDoorPText9
namespace Go.Proofs.YtogdmcebojiojaaGreatDoor
open Go.RowKit
set_option linter.unusedVariables false
set_option linter.unusedSimpArgs false

end Go.Proofs.YtogdmcebojiojaaGreatDoor
