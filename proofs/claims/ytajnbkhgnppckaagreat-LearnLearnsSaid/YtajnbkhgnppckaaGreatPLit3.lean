/- The law that all calls of literals answer as the document says. -/
import Derived.Test.YtajnbkhgnppckaaGreatPLit2
namespace Go.Proofs.YtajnbkhgnppckaaGreat
open Go.RowKit
set_option linter.unusedVariables false
set_option linter.unusedSimpArgs false

theorem checkL_ok {m : MdlD} {l : LitD} (h : checkM m = 0) : Sat Tryz.prog f_cordonref_CheckLit [dM m, dL l] (dI (litE m.vars.length l)) := cordonref_CheckLit_ok m l (by have := (right_of h).vars; omega)
theorem litE_op' {nv : Nat} {l : LitD} (h : litE nv l = 0) : inR l.op 1 4 = true := inR_true.2 (litE_zero.1 h).2.1
end Go.Proofs.YtajnbkhgnppckaaGreat
