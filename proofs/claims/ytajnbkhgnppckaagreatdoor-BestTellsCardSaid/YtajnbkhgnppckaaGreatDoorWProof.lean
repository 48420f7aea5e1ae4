/- What the functions of a package do, as equations of plain propositions: printed by a program that carries the code out on symbols. -/
import Derived.Test.YtajnbkhgnppckaaGreatDoorWEv
namespace Go.Proofs.YtajnbkhgnppckaaGreatDoor
open Go.RowKit
set_option linter.unusedVariables false
set_option maxRecDepth 100000
def zKo : Ann := { own := [], live := [], n := 20, nils := [], pubs := [] }
theorem zUy (a0 : MdlD) (a1 : Int) (a2 : List LitD) (R : D → Prop) : FD zKo Tryz.f207 [dM a0, dI a1, .sl .lit a2] R =
 (Call1 Tryz.prog zoc [dM a0] (.list (.list .int)) fun s1 =>
 Call1 Tryz.prog z7f [dS s1, .sl .lit a2] (.list (.list .int)) fun c2 =>
 inb a1 a0.cons.length = true ∧
 Call1 Tryz.prog zYb [dC (at' .con a0.cons a1.toNat), dS c2] (.list (.list .int)) fun f3 =>
 Call1 Tryz.prog zg [dS f3] .bool fun s4 =>
 R (dB s4)) := by kernel_rfl
theorem zVy (a0 : MdlD) (a1 : Int) (a2 : List LitD) : SatI zKo Tryz.f207 z6f [dM a0, dI a1, .sl .lit a2] := satD Tryz.func207 (by kernel_rfl) Tryz.ntmps207 rfl
end Go.Proofs.YtajnbkhgnppckaaGreatDoor
