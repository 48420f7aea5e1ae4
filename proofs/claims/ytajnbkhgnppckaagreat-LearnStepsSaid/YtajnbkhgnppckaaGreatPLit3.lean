/- The law that all calls of literals answer as the document says. -/
import Derived.Test.YtajnbkhgnppckaaGreatPLit2
namespace Go.Proofs.YtajnbkhgnppckaaGreat
open Go.RowKit
set_option linter.unusedVariables false
set_option linter.unusedSimpArgs false

theorem checkL_ok {m : MdlD} {l : LitD} (h : checkM m = 0) : Sat Tryz.prog f_cordonref_CheckLit [dM m, dL l] (dI (litE m.vars.length l)) := cordonref_CheckLit_ok m l (by have := (right_of h).vars; omega)
end Go.Proofs.YtajnbkhgnppckaaGreat
