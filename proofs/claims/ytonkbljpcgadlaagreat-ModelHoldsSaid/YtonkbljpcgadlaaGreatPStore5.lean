/- The law of what meets. -/
import Derived.Test.YtonkbljpcgadlaaGreatPStore4
namespace Go.Proofs.YtonkbljpcgadlaaGreat
open Go.RowKit
set_option linter.unusedVariables false
set_option linter.unusedSimpArgs false

theorem bt {b : Bool} {X Y : Prop} (h : b = true) (hx : X) : sel b X Y := by rw [h]; exact hx
theorem bnf {b : Bool} {X Y : Prop} (h : b = true) (hy : Y) : sel (!b) X Y := by rw [h]; exact hy
theorem bf {b : Bool} {X Y : Prop} (h : b = false) (hy : Y) : sel b X Y := by rw [h]; exact hy
theorem bnt {b : Bool} {X Y : Prop} (h : b = false) (hx : X) : sel (!b) X Y := by rw [h]; exact hx
end Go.Proofs.YtonkbljpcgadlaaGreat
