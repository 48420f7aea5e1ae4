/- What the functions of a package do, as equations of plain propositions: printed by a program that carries the code out on symbols. -/
import Derived.Test.YtajnbkhgnppckaaGreatDoorWEv
namespace Go.Proofs.YtajnbkhgnppckaaGreatDoor
open Go.RowKit
set_option linter.unusedVariables false
set_option maxRecDepth 100000
def z6l : Ann := { own := [], live := [], n := 20, nils := [], pubs := [] }
theorem zvv (a0 : MdlD) (a1 : Int) (a2 : List LitD) (R : D → Prop) : FD z6l Tryz.f207 [dM a0, dI a1, .sl .lit a2] R =
 (Call1 Tryz.prog zRb [dM a0] (.list (.list .int)) fun s1 =>
 Call1 Tryz.prog z4e [dS s1, .sl .lit a2] (.list (.list .int)) fun c2 =>
 inb a1 a0.cons.length = true ∧
 Call1 Tryz.prog zwb [dC (at' .con a0.cons a1.toNat), dS c2] (.list (.list .int)) fun f3 =>
 Call1 Tryz.prog zf [dS f3] .bool fun s4 =>
 R (dB s4)) := by kernel_rfl
theorem zwv (a0 : MdlD) (a1 : Int) (a2 : List LitD) : SatI z6l Tryz.f207 z3e [dM a0, dI a1, .sl .lit a2] := satD Tryz.func207 (by kernel_rfl) Tryz.ntmps207 rfl
end Go.Proofs.YtajnbkhgnppckaaGreatDoor
