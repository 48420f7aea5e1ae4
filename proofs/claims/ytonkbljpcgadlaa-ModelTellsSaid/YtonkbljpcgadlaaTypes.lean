/- The program's types, opened. -/
import Derived.Test.YtonkbljpcgadlaaProg
import Derived.Test.YtonkbljpcgadlaaOpen
namespace Go.Proofs.Ytonkbljpcgadlaa
open Go.RowKit Go.ChangeShapes Go.WideShapes Go.Deep
set_option linter.unusedVariables false
theorem oInt : OpenAt Int Try.prog 3 := openAt_int Try.underlying3 (by kernel_rfl)
theorem oStr : OpenAt ByteArray Try.prog 9 := openAt_str Try.underlying9 (by kernel_rfl)
theorem oTok : OpenAt Tok Try.prog 34 := openAt_tok Try.underlying34 (by kernel_rfl) (by kernel_rfl) oInt oInt oStr
theorem oToks : OpenAt (List Tok) Try.prog 22 := openAt_list Try.underlying22 (by kernel_rfl) (by kernel_rfl) oTok
theorem oInts : OpenAt (List Int) Try.prog 72 := openAt_list Try.underlying72 (by kernel_rfl) (by kernel_rfl) oInt
theorem oRows : OpenAt (List (List Int)) Try.prog 39 := openAt_list Try.underlying39 (by kernel_rfl) (by kernel_rfl) oInts
theorem oStore : OpenAt (List (List Int)) Try.prog 40 := openAt_list Try.underlying40 (by kernel_rfl) (by kernel_rfl) oInts
theorem oLit : OpenAt LitD Try.prog 57 := openAt_lit Try.underlying57 (by kernel_rfl) (by kernel_rfl) oInt oInt oInt
theorem oLits : OpenAt (List LitD) Try.prog 70 := openAt_list Try.underlying70 (by kernel_rfl) (by kernel_rfl) oLit
theorem oClause : OpenAt (List LitD) Try.prog 71 := openAt_list Try.underlying71 (by kernel_rfl) (by kernel_rfl) oLit
theorem oVar : OpenAt VarD Try.prog 101 := openAt_var Try.underlying101 (by kernel_rfl) (by kernel_rfl) oStr oInt oInt
theorem oVars : OpenAt (List VarD) Try.prog 35 := openAt_list Try.underlying35 (by kernel_rfl) (by kernel_rfl) oVar
theorem oCon : OpenAt ConD Try.prog 81 := openAt_con Try.underlying81 (by kernel_rfl) (by kernel_rfl) oInt oInts oInts oInt oRows oLits
theorem oCons : OpenAt (List ConD) Try.prog 36 := openAt_list Try.underlying36 (by kernel_rfl) (by kernel_rfl) oCon
theorem oMdl : OpenAt MdlD Try.prog 38 := openAt_mdl Try.underlying38 (by kernel_rfl) (by kernel_rfl) oVars oCons oInt oInt
end Go.Proofs.Ytonkbljpcgadlaa
