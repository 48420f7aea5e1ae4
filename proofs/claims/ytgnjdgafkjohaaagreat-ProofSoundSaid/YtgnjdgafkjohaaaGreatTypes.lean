/- The program's types, opened. -/
import Derived.Test.YtgnjdgafkjohaaaGreatProg
import Derived.Test.YtgnjdgafkjohaaaGreatOpen
namespace Go.Proofs.YtgnjdgafkjohaaaGreat
open Go.RowKit Go.ChangeShapes Go.WideShapes Go.Deep
set_option linter.unusedVariables false
theorem oInt : OpenAt Int Tryz.prog 3 := openAt_int Tryz.underlying3 (by kernel_rfl)
theorem oStr : OpenAt ByteArray Tryz.prog 9 := openAt_str Tryz.underlying9 (by kernel_rfl)
theorem oInts : OpenAt (List Int) Tryz.prog 42 := openAt_list Tryz.underlying42 (by kernel_rfl) (by kernel_rfl) oInt
theorem oRows : OpenAt (List (List Int)) Tryz.prog 26 := openAt_list Tryz.underlying26 (by kernel_rfl) (by kernel_rfl) oInts
theorem oLit : OpenAt LitD Tryz.prog 81 := openAt_lit Tryz.underlying81 (by kernel_rfl) (by kernel_rfl) oInt oInt oInt
theorem oLits : OpenAt (List LitD) Tryz.prog 53 := openAt_list Tryz.underlying53 (by kernel_rfl) (by kernel_rfl) oLit
theorem oClause : OpenAt (List LitD) Tryz.prog 54 := openAt_list Tryz.underlying54 (by kernel_rfl) (by kernel_rfl) oLit
theorem oClauses : OpenAt (List (List LitD)) Tryz.prog 46 := openAt_list Tryz.underlying46 (by kernel_rfl) (by kernel_rfl) oClause
theorem oVar : OpenAt VarD Tryz.prog 107 := openAt_var Tryz.underlying107 (by kernel_rfl) (by kernel_rfl) oStr oInt oInt
theorem oVars : OpenAt (List VarD) Tryz.prog 22 := openAt_list Tryz.underlying22 (by kernel_rfl) (by kernel_rfl) oVar
theorem oCon : OpenAt ConD Tryz.prog 85 := openAt_con Tryz.underlying85 (by kernel_rfl) (by kernel_rfl) oInt oInts oInts oInt oRows oLits
theorem oCons : OpenAt (List ConD) Tryz.prog 23 := openAt_list Tryz.underlying23 (by kernel_rfl) (by kernel_rfl) oCon
theorem oMdl : OpenAt MdlD Tryz.prog 25 := openAt_mdl Tryz.underlying25 (by kernel_rfl) (by kernel_rfl) oVars oCons oInt oInt
end Go.Proofs.YtgnjdgafkjohaaaGreat
