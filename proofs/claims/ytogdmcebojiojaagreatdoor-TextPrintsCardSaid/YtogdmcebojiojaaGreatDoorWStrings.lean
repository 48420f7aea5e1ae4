/- What the functions of a package do, as equations of plain propositions: printed by a program that carries the code out on symbols. -/
import Derived.Test.YtogdmcebojiojaaGreatDoorWEv
namespace Go.Proofs.YtogdmcebojiojaaGreatDoor
open Go.RowKit
set_option linter.unusedVariables false
set_option maxRecDepth 100000
/-! ### (*strings.Builder).WriteString -/
def strings_Builder_WriteString_p_A : Ann := { own := [14], live := [], n := 19, nils := [], pubs := [] }
theorem strings_Builder_WriteString_p_eq (mvs0 : List VarD) (mcs0 : List ConD) (goal0 : Int) (mvar0 : Int) (buf0 : List UInt8) (s0 : ByteArray) (R : D → List (Nat × HObj) → Prop) : FH strings_Builder_WriteString_p_A Tryz.f56 [.ptr 1000 0, .str s0] [(1000, .cells [.slf 1000, .own 2000, .sl .var mvs0, .sl .con mcs0, dI goal0, dI mvar0]), (2000, .row 5 .byte buf0)] [.ptr 1000 0] false R =
 (SatH Tryz.prog f_strings_Builder_copyCheck [.ptr 1000 0] [(1000, .cells [.slf 1000, .own 2000, .sl .var mvs0, .sl .con mcs0, dI goal0, dI mvar0]), (2000, .row 5 .byte buf0)] (.tup []) [(1000, .cells [.slf 1000, .own 2000, .sl .var mvs0, .sl .con mcs0, dI goal0, dI mvar0]), (2000, .row 5 .byte buf0)] ∧
 room .byte (buf0.length + s0.size) = true ∧
 R (.tup [dI (s0.size : Int), .undef]) [(1000, .cells [.slf 1000, .own 2000, .sl .var mvs0, .sl .con mcs0, dI goal0, dI mvar0]), (2000, .row 5 .byte (buf0 ++ s0.data.toList))]) := by kernel_rfl
theorem strings_Builder_WriteString_p_sat (mvs0 : List VarD) (mcs0 : List ConD) (goal0 : Int) (mvar0 : Int) (buf0 : List UInt8) (s0 : ByteArray) : SatHI strings_Builder_WriteString_p_A Tryz.f56 f_strings_Builder_WriteString [.ptr 1000 0, .str s0] [(1000, .cells [.slf 1000, .own 2000, .sl .var mvs0, .sl .con mcs0, dI goal0, dI mvar0]), (2000, .row 5 .byte buf0)] [.ptr 1000 0] false := satHD Tryz.func56 (by kernel_rfl) Tryz.ntmps56 rfl
end Go.Proofs.YtogdmcebojiojaaGreatDoor
