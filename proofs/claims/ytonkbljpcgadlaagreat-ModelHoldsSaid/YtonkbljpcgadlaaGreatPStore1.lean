/- What the program's stores and the document's answer: both are told by the same plain functions. -/
import Derived.Test.YtonkbljpcgadlaaGreatWStore
import Derived.Test.YtonkbljpcgadlaaGreatME
namespace Go.Proofs.YtonkbljpcgadlaaGreat
open Go.RowKit
set_option linter.unusedVariables false

/-! ### What a store is -/
def upL (lo : Int) : Nat → List Int
  | 0 => []
  | n + 1 => upL lo n ++ [lo + n]
end Go.Proofs.YtonkbljpcgadlaaGreat
