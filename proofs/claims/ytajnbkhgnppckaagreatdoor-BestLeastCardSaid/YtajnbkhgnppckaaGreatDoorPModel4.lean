/- The law that tests of a model and scopes are as the document says. -/
import Derived.Test.YtajnbkhgnppckaaGreatDoorPModel3
namespace Go.Proofs.YtajnbkhgnppckaaGreatDoor
open Go.RowKit
set_option linter.unusedVariables false
set_option linter.unusedSimpArgs false
theorem zFu : Sat Tryz.prog zTc [dM twoM, dI 0, .sl .int [0, 1]] (.tup [dB true, dI 0]) := by
 have h := zBt twoM 0 [0, 1]
 rwa [show holdsE twoM 0 [0, 1] = 0 by kernel_rfl, show orB 0 (trueC (conAt twoM 0) [0, 1]) = true by kernel_rfl] at h
theorem two_all : Sat Tryz.prog zec [dM twoM, .sl .int [2, 1]] (.tup [dB false, dI 0]) := by
 have h := z1k twoM [2, 1]
 rwa [show allE twoM [2, 1] = 0 by kernel_rfl, show orB 0 (wholeM twoM [2, 1]) = false by kernel_rfl] at h
theorem zGu : Sat Tryz.prog zUc [dM twoM, dI 0] (.tup [.sl .int [0, 1], dI 0]) := by
 have h := zzt twoM 0
 rwa [show atE twoM 0 = 0 by kernel_rfl, show orIs 0 (scopeC (conAt twoM 0) twoM.vars.length) = [0, 1] by kernel_rfl] at h
theorem zHu : Sat Tryz.prog zdb [dM twoM] (dI 0) := by
 have h := zbd twoM
 rwa [show checkM twoM = 0 by kernel_rfl] at h
theorem zIu : Sat Tryz.prog z9d [] (dB true) :=
 zNs fun ok => by
  rw [zMs]
  exact call1 zsc (call2 (t := .bool) (u := .int) zFu (call1 zsc (call2 (t := .bool) (u := .int) two_all (call1 zsc (call2 (t := .list .int) (u := .int) zGu (call1 zsc (call1 zHu (call1 (ztk _ _) rfl))))))))
end Go.Proofs.YtajnbkhgnppckaaGreatDoor
