/- The program's types, opened. -/
import Derived.Test.YtogdmcebojiojaaGreatDoorProg
import Derived.Test.YtogdmcebojiojaaGreatDoorOpen
namespace Go.Proofs.YtogdmcebojiojaaGreatDoor
open Go.RowKit Go.ChangeShapes Go.WideShapes Go.Deep
set_option linter.unusedVariables false
theorem oInt : OpenAt Int Tryz.prog 3 := openAt_int Tryz.underlying3 (by kernel_rfl)
theorem oStr : OpenAt ByteArray Tryz.prog 9 := openAt_str Tryz.underlying9 (by kernel_rfl)
theorem oInts : OpenAt (List Int) Tryz.prog 40 := openAt_list Tryz.underlying40 (by kernel_rfl) (by kernel_rfl) oInt
theorem oRows : OpenAt (List (List Int)) Tryz.prog 62 := openAt_list Tryz.underlying62 (by kernel_rfl) (by kernel_rfl) oInts
theorem oLit : OpenAt LitD Tryz.prog 114 := openAt_lit Tryz.underlying114 (by kernel_rfl) (by kernel_rfl) oInt oInt oInt
theorem oLits : OpenAt (List LitD) Tryz.prog 52 := openAt_list Tryz.underlying52 (by kernel_rfl) (by kernel_rfl) oLit
theorem oVar : OpenAt VarD Tryz.prog 72 := openAt_var Tryz.underlying72 (by kernel_rfl) (by kernel_rfl) oStr oInt oInt
theorem oVars : OpenAt (List VarD) Tryz.prog 22 := openAt_list Tryz.underlying22 (by kernel_rfl) (by kernel_rfl) oVar
theorem oCon : OpenAt ConD Tryz.prog 74 := openAt_con Tryz.underlying74 (by kernel_rfl) (by kernel_rfl) oInt oInts oInts oInt oRows oLits
theorem oCons : OpenAt (List ConD) Tryz.prog 23 := openAt_list Tryz.underlying23 (by kernel_rfl) (by kernel_rfl) oCon
theorem oMdl : OpenAt MdlD Tryz.prog 25 := openAt_mdl Tryz.underlying25 (by kernel_rfl) (by kernel_rfl) oVars oCons oInt oInt
end Go.Proofs.YtogdmcebojiojaaGreatDoor
