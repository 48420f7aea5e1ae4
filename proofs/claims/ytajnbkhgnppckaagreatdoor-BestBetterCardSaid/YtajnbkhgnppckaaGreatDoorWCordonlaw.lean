/- What the functions of a package do, as equations of plain propositions: printed by a program that carries the code out on symbols. -/
import Derived.Test.YtajnbkhgnppckaaGreatDoorWEv
namespace Go.Proofs.YtajnbkhgnppckaaGreatDoor
open Go.RowKit
set_option linter.unusedVariables false
set_option maxRecDepth 100000
def zSk : Ann := { own := [], live := [], n := 34, nils := [], pubs := [] }
theorem z0s (a0 : MdlD) (a1 : List Int) (R : D → Prop) : FD zSk Tryz.f6 [dM a0, .sl .int a1] R =
 (Call2 Tryz.prog zic [dM a0, .sl .int a1] (.list .lit) .int fun b1 b2 =>
 Call1 Tryz.prog z6d [dM a0, .sl .int a1] .int fun c3 =>
 sel (decide (c3 = 0))
 (Call1 Tryz.prog z7d [dM a0, .sl .int a1] (.list .lit) fun c4 =>
 Call1 Tryz.prog zSc [] .bool fun c5 =>
 sel c5
 (sel (decide (b2 = c3))
 (Call1 Tryz.prog zjc [.sl .lit b1, .sl .lit c4] .bool fun c6 =>
 R (dB c6))
 (R (dB false)))
 (R (dB false)))
 (Call1 Tryz.prog zSc [] .bool fun c7 =>
 sel c7
 (sel (decide (b2 = c3))
 (Call1 Tryz.prog zjc [.sl .lit b1, .sl .lit ([] : List LitD)] .bool fun c8 =>
 R (dB c8))
 (R (dB false)))
 (R (dB false)))) := by kernel_rfl
theorem z1s (a0 : MdlD) (a1 : List Int) : SatI zSk Tryz.f6 zEj [dM a0, .sl .int a1] := satD Tryz.func6 (by kernel_rfl) Tryz.ntmps6 rfl
def zTk : Ann := { own := [], live := [], n := 56, nils := [], pubs := [] }
theorem z2s (a0 : MdlD) (a1 : List Int) (R : D → Prop) : FD zTk Tryz.f19 [dM a0, .sl .int a1] R =
 (Call1 Tryz.prog z5d [dM a0] .int fun c1 =>
 sel (decide (c1 = 0))
 (sel (!decide ((a1.length : Int) = (a0.vars.length : Int)))
 (sel (decide ((1 : Int) = 0))
 (sel (!decide (a0.goal = 0))
 (inb a0.var a1.length = true ∧
 inb a0.var a0.vars.length = true ∧
 sel (decide ((at' .int a1 a0.var.toNat) < ((at' .var a0.vars a0.var.toNat).lo)))
 (R (dI 3))
 (inb a0.var a1.length = true ∧
 inb a0.var a0.vars.length = true ∧
 sel (decide (((at' .var a0.vars a0.var.toNat).hi) < (at' .int a1 a0.var.toNat)))
 (R (dI 3))
 (R (dI 1))))
 (R (dI 1)))
 (R (dI 1)))
 (sel (decide (c1 = 0))
 (sel (!decide (a0.goal = 0))
 (inb a0.var a1.length = true ∧
 inb a0.var a0.vars.length = true ∧
 sel (decide ((at' .int a1 a0.var.toNat) < ((at' .var a0.vars a0.var.toNat).lo)))
 (R (dI 3))
 (inb a0.var a1.length = true ∧
 inb a0.var a0.vars.length = true ∧
 sel (decide (((at' .var a0.vars a0.var.toNat).hi) < (at' .int a1 a0.var.toNat)))
 (R (dI 3))
 (R (dI c1))))
 (R (dI c1)))
 (R (dI c1))))
 (sel (decide (c1 = 0))
 (sel (!decide (a0.goal = 0))
 (inb a0.var a1.length = true ∧
 inb a0.var a0.vars.length = true ∧
 sel (decide ((at' .int a1 a0.var.toNat) < ((at' .var a0.vars a0.var.toNat).lo)))
 (R (dI 3))
 (inb a0.var a1.length = true ∧
 inb a0.var a0.vars.length = true ∧
 sel (decide (((at' .var a0.vars a0.var.toNat).hi) < (at' .int a1 a0.var.toNat)))
 (R (dI 3))
 (R (dI c1))))
 (R (dI c1)))
 (R (dI c1)))) := by kernel_rfl
theorem z3s (a0 : MdlD) (a1 : List Int) : SatI zTk Tryz.f19 z6d [dM a0, .sl .int a1] := satD Tryz.func19 (by kernel_rfl) Tryz.ntmps19 rfl
def zUk : Ann := { own := [3], live := [], n := 45, nils := [], pubs := [] }
theorem z4s  (R : D → Prop) : FD zUk Tryz.f21 [] R =
 (Call1 Tryz.prog zTc [] .mdl fun c1 =>
 Call2 Tryz.prog zic [dM c1, .sl .int ([0, 2])] (.list .lit) .int fun b2 b3 =>
 Call1 Tryz.prog zTc [] .mdl fun c4 =>
 Call2 Tryz.prog z8d [dM c4, dI 20] .ans .int fun b5 b6 =>
 sel (decide (b3 = 0))
 (sel (decide (b6 = 0))
 (Call1 Tryz.prog zjc [.sl .lit b2, .sl .lit ([(⟨1, 1, 1⟩ : LitD)])] .bool fun c7 =>
 sel c7
 (sel (decide (b5.verdict = 1))
 (Call1 Tryz.prog z4d [.sl .int b5.values, .sl .int ([0, 1])] .bool fun c8 =>
 sel c8
 (R (dB (decide (0 < (b5.proof.length : Int)))))
 (R (dB false)))
 (R (dB false)))
 (R (dB false)))
 (R (dB false)))
 (R (dB false))) := by kernel_rfl
theorem z5s  : SatI zUk Tryz.f21 zSc [] := satD Tryz.func21 (by kernel_rfl) Tryz.ntmps21 rfl
def zVk : Ann := { own := [0], live := [], n := 9, nils := [], pubs := [] }
theorem z6s  (R : D → Prop) : FD zVk Tryz.f35 [] R =
 (R (.agg [.sl .var ([(⟨(⟨#[120]⟩ : ByteArray), 0, 2⟩ : VarD), (⟨(⟨#[121]⟩ : ByteArray), 0, 2⟩ : VarD)]), .sl .con ([(⟨1, [0, 1], [1, -1], -1, ([] : List (List Int)), ([] : List LitD)⟩ : ConD)]), dI 1, dI 1])) := by kernel_rfl
theorem z7s  : SatI zVk Tryz.f35 zTc [] := satD Tryz.func35 (by kernel_rfl) Tryz.ntmps35 rfl
end Go.Proofs.YtajnbkhgnppckaaGreatDoor
