/- The law that all calls of literals answer as the document says. -/
import Derived.Test.YtajnbkhgnppckaaGreatDoorPLit2
namespace Go.Proofs.YtajnbkhgnppckaaGreatDoor
open Go.RowKit
set_option linter.unusedVariables false
set_option linter.unusedSimpArgs false
theorem zDw {m : MdlD} {l : LitD} (h : checkM m = 0) : Sat Tryz.prog zVc [dM m, dL l] (dI (litE m.vars.length l)) := zQm m l (by have := (zbb h).vars; omega)
end Go.Proofs.YtajnbkhgnppckaaGreatDoor
