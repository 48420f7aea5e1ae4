/- The law that all calls of literals answer as the document says. -/
import Derived.Test.YtajnbkhgnppckaaGreatDoorPLit2
namespace Go.Proofs.YtajnbkhgnppckaaGreatDoor
open Go.RowKit
set_option linter.unusedVariables false
set_option linter.unusedSimpArgs false
theorem zgx {m : MdlD} {l : LitD} (h : checkM m = 0) : Sat Tryz.prog zZc [dM m, dL l] (dI (litE m.vars.length l)) := z7m m l (by have := (zY h).vars; omega)
end Go.Proofs.YtajnbkhgnppckaaGreatDoor
