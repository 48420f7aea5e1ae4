/- The law that tests of a model and scopes are as the document says. -/
import Derived.Test.YtajnbkhgnppckaaGreatPModel3
namespace Go.Proofs.YtajnbkhgnppckaaGreat
open Go.RowKit
set_option linter.unusedVariables false
set_option linter.unusedSimpArgs false

theorem two_mholds : Sat Tryz.prog f_model_Holds [dM twoM, dI 0, .sl .int [0, 1]] (.tup [dB true, dI 0]) := by
  have h := model_Holds_ok twoM 0 [0, 1]
  rwa [show holdsE twoM 0 [0, 1] = 0 by kernel_rfl, show orB 0 (trueC (conAt twoM 0) [0, 1]) = true by kernel_rfl] at h
theorem two_all : Sat Tryz.prog f_model_All [dM twoM, .sl .int [2, 1]] (.tup [dB false, dI 0]) := by
  have h := model_All_ok twoM [2, 1]
  rwa [show allE twoM [2, 1] = 0 by kernel_rfl, show orB 0 (wholeM twoM [2, 1]) = false by kernel_rfl] at h
theorem two_scope : Sat Tryz.prog f_model_Scope [dM twoM, dI 0] (.tup [.sl .int [0, 1], dI 0]) := by
  have h := model_Scope_ok twoM 0
  rwa [show atE twoM 0 = 0 by kernel_rfl, show orIs 0 (scopeC (conAt twoM 0) twoM.vars.length) = [0, 1] by kernel_rfl] at h
theorem two_mcheck : Sat Tryz.prog f_model_Check [dM twoM] (dI 0) := by
  have h := model_Check_ok twoM
  rwa [show checkM twoM = 0 by kernel_rfl] at h
theorem cordonlaw_modelBegun_ok : Sat Tryz.prog f_cordonlaw_modelBegun [] (dB true) :=
  cordonlaw_modelBegun_sat fun ok => by
    rw [cordonlaw_modelBegun_eq]
    exact call1 cordonlaw_two_ok (call2 (t := .bool) (u := .int) two_mholds (call1 cordonlaw_two_ok (call2 (t := .bool) (u := .int) two_all (call1 cordonlaw_two_ok (call2 (t := .list .int) (u := .int) two_scope (call1 cordonlaw_two_ok (call1 two_mcheck (call1 (cordonref_SameInts_ok _ _) rfl))))))))
end Go.Proofs.YtajnbkhgnppckaaGreat
