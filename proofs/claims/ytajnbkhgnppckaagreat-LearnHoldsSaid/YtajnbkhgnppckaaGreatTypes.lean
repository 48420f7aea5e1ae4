/- The program's types, opened. -/
import Derived.Test.YtajnbkhgnppckaaGreatProg
import Derived.Test.YtajnbkhgnppckaaGreatOpen
namespace Go.Proofs.YtajnbkhgnppckaaGreat
open Go.RowKit Go.ChangeShapes Go.WideShapes Go.Deep
set_option linter.unusedVariables false
theorem oInt : OpenAt Int Tryz.prog 3 := openAt_int Tryz.underlying3 (by kernel_rfl)
theorem oStr : OpenAt ByteArray Tryz.prog 9 := openAt_str Tryz.underlying9 (by kernel_rfl)
theorem oInts : OpenAt (List Int) Tryz.prog 46 := openAt_list Tryz.underlying46 (by kernel_rfl) (by kernel_rfl) oInt
theorem oRows : OpenAt (List (List Int)) Tryz.prog 52 := openAt_list Tryz.underlying52 (by kernel_rfl) (by kernel_rfl) oInts
theorem oLit : OpenAt LitD Tryz.prog 82 := openAt_lit Tryz.underlying82 (by kernel_rfl) (by kernel_rfl) oInt oInt oInt
theorem oLits : OpenAt (List LitD) Tryz.prog 27 := openAt_list Tryz.underlying27 (by kernel_rfl) (by kernel_rfl) oLit
theorem oClause : OpenAt (List LitD) Tryz.prog 28 := openAt_list Tryz.underlying28 (by kernel_rfl) (by kernel_rfl) oLit
theorem oClauses : OpenAt (List (List LitD)) Tryz.prog 26 := openAt_list Tryz.underlying26 (by kernel_rfl) (by kernel_rfl) oClause
theorem oVar : OpenAt VarD Tryz.prog 119 := openAt_var Tryz.underlying119 (by kernel_rfl) (by kernel_rfl) oStr oInt oInt
theorem oVars : OpenAt (List VarD) Tryz.prog 22 := openAt_list Tryz.underlying22 (by kernel_rfl) (by kernel_rfl) oVar
theorem oCon : OpenAt ConD Tryz.prog 103 := openAt_con Tryz.underlying103 (by kernel_rfl) (by kernel_rfl) oInt oInts oInts oInt oRows oLits
theorem oCons : OpenAt (List ConD) Tryz.prog 23 := openAt_list Tryz.underlying23 (by kernel_rfl) (by kernel_rfl) oCon
theorem oMdl : OpenAt MdlD Tryz.prog 25 := openAt_mdl Tryz.underlying25 (by kernel_rfl) (by kernel_rfl) oVars oCons oInt oInt
end Go.Proofs.YtajnbkhgnppckaaGreat
