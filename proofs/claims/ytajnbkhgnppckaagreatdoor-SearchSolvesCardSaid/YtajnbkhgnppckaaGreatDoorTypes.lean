/- The program's types, opened. -/
import Derived.Test.YtajnbkhgnppckaaGreatDoorProg
import Derived.Test.YtajnbkhgnppckaaGreatDoorOpen
namespace Go.Proofs.YtajnbkhgnppckaaGreatDoor
open Go.RowKit Go.ChangeShapes Go.WideShapes Go.Deep
set_option linter.unusedVariables false
theorem oInt : OpenAt Int Tryz.prog 3 := zyC Tryz.underlying3 (by kernel_rfl)
theorem oStr : OpenAt ByteArray Tryz.prog 9 := zzC Tryz.underlying9 (by kernel_rfl)
theorem oInts : OpenAt (List Int) Tryz.prog 26 := zXe Tryz.underlying26 (by kernel_rfl) (by kernel_rfl) oInt
theorem oRows : OpenAt (List (List Int)) Tryz.prog 37 := zXe Tryz.underlying37 (by kernel_rfl) (by kernel_rfl) oInts
theorem oLit : OpenAt LitD Tryz.prog 86 := zCC Tryz.underlying86 (by kernel_rfl) (by kernel_rfl) oInt oInt oInt
theorem oLits : OpenAt (List LitD) Tryz.prog 46 := zXe Tryz.underlying46 (by kernel_rfl) (by kernel_rfl) oLit
theorem oVar : OpenAt VarD Tryz.prog 79 := zDC Tryz.underlying79 (by kernel_rfl) (by kernel_rfl) oStr oInt oInt
theorem oVars : OpenAt (List VarD) Tryz.prog 22 := zXe Tryz.underlying22 (by kernel_rfl) (by kernel_rfl) oVar
theorem oCon : OpenAt ConD Tryz.prog 84 := zEC Tryz.underlying84 (by kernel_rfl) (by kernel_rfl) oInt oInts oInts oInt oRows oLits
theorem oCons : OpenAt (List ConD) Tryz.prog 23 := zXe Tryz.underlying23 (by kernel_rfl) (by kernel_rfl) oCon
theorem oMdl : OpenAt MdlD Tryz.prog 25 := zFC Tryz.underlying25 (by kernel_rfl) (by kernel_rfl) oVars oCons oInt oInt
end Go.Proofs.YtajnbkhgnppckaaGreatDoor
