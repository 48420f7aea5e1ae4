/- The law that tests of a model and scopes are as the document says. -/
import Derived.Test.YtajnbkhgnppckaaGreatDoorPModel3
namespace Go.Proofs.YtajnbkhgnppckaaGreatDoor
open Go.RowKit
set_option linter.unusedVariables false
set_option linter.unusedSimpArgs false
theorem zRy : Sat Tryz.prog zRd [dM twoM, dI 0, .sl .int [0, 1]] (.tup [dB true, dI 0]) := by
 have h := zMx twoM 0 [0, 1]
 rwa [show holdsE twoM 0 [0, 1] = 0 by kernel_rfl, show orB 0 (trueC (conAt twoM 0) [0, 1]) = true by kernel_rfl] at h
theorem two_all : Sat Tryz.prog zOd [dM twoM, .sl .int [2, 1]] (.tup [dB false, dI 0]) := by
 have h := zPx twoM [2, 1]
 rwa [show allE twoM [2, 1] = 0 by kernel_rfl, show orB 0 (wholeM twoM [2, 1]) = false by kernel_rfl] at h
theorem zSy : Sat Tryz.prog zSd [dM twoM, dI 0] (.tup [.sl .int [0, 1], dI 0]) := by
 have h := zKx twoM 0
 rwa [show atE twoM 0 = 0 by kernel_rfl, show orIs 0 (scopeC (conAt twoM 0) twoM.vars.length) = [0, 1] by kernel_rfl] at h
theorem zTy : Sat Tryz.prog zAb [dM twoM] (dI 0) := by
 have h := zpe twoM
 rwa [show checkM twoM = 0 by kernel_rfl] at h
theorem zUy : Sat Tryz.prog zYb [] (dB true) :=
 zXw fun ok => by
  rw [zWw]
  exact call1 zjd (call2 (t := .bool) (u := .int) zRy (call1 zjd (call2 (t := .bool) (u := .int) two_all (call1 zjd (call2 (t := .list .int) (u := .int) zSy (call1 zjd (call1 zTy (call1 (zSh _ _) rfl))))))))
end Go.Proofs.YtajnbkhgnppckaaGreatDoor
