/- What the functions of a package do, as equations of plain propositions: printed by a program that carries the code out on symbols. -/
import Derived.Test.YtajnbkhgnppckaaGreatDoorWEv
namespace Go.Proofs.YtajnbkhgnppckaaGreatDoor
open Go.RowKit
set_option linter.unusedVariables false
set_option maxRecDepth 100000
def zuk : Ann := { own := [7], live := [], n := 85, nils := [], pubs := [] }
theorem zIs (a0 : MdlD) (a1 : Int) (a2 : List Int) (R : D → Prop) : FD zuk Tryz.f9 [dM a0, dI a1, .sl .int a2] R =
 (Call1 Tryz.prog z7d [] .bool fun c1 =>
 sel (!c1)
 (R (dB false))
 (Call1 Tryz.prog z9d [] .bool fun c2 =>
 sel (!c2)
 (R (dB false))
 (Call2 Tryz.prog zSc [dM a0, dI a1] .ans .int fun b3 b4 =>
 Call2 Tryz.prog zec [dM a0, .sl .int a2] .bool .int fun m5 m6 =>
 sel (!decide (b4 = 0))
 (R (dB true))
 (sel (!decide (m6 = 0))
 (R (dB true))
 (sel (!m5)
 (R (dB true))
 (sel (decide (b3.verdict = 3))
 (R (dB true))
 (sel (decide (b3.verdict = 2))
 (R (dB false))
 (sel (!decide ((b3.values.length : Int) = (a2.length : Int)))
 (R (dB false))
 (sel (decide (a0.goal = 1))
 (inb a0.var b3.values.length = true ∧
 inb a0.var a2.length = true ∧
 R (dB (decide ((at' .int b3.values a0.var.toNat) ≤ (at' .int a2 a0.var.toNat)))))
 (sel (decide (a0.goal = 2))
 (inb a0.var b3.values.length = true ∧
 inb a0.var a2.length = true ∧
 R (dB (decide ((at' .int a2 a0.var.toNat) ≤ (at' .int b3.values a0.var.toNat)))))
 (R (dB true)))))))))))) := by kernel_rfl
theorem zJs (a0 : MdlD) (a1 : Int) (a2 : List Int) : SatI zuk Tryz.f9 zpj [dM a0, dI a1, .sl .int a2] := satD Tryz.func9 (by kernel_rfl) Tryz.ntmps9 rfl
def zvk : Ann := { own := [3], live := [], n := 45, nils := [], pubs := [] }
theorem zKs  (R : D → Prop) : FD zvk Tryz.f21 [] R =
 (Call1 Tryz.prog zcb [] .mdl fun c1 =>
 Call2 Tryz.prog zRc [dM c1, .sl .int ([0, 2])] (.list .lit) .int fun b2 b3 =>
 Call1 Tryz.prog zcb [] .mdl fun c4 =>
 Call2 Tryz.prog zSc [dM c4, dI 20] .ans .int fun b5 b6 =>
 sel (decide (b3 = 0))
 (sel (decide (b6 = 0))
 (Call1 Tryz.prog z8d [.sl .lit b2, .sl .lit ([(⟨1, 1, 1⟩ : LitD)])] .bool fun c7 =>
 sel c7
 (sel (decide (b5.verdict = 1))
 (Call1 Tryz.prog zQc [.sl .int b5.values, .sl .int ([0, 1])] .bool fun c8 =>
 sel c8
 (R (dB (decide (0 < (b5.proof.length : Int)))))
 (R (dB false)))
 (R (dB false)))
 (R (dB false)))
 (R (dB false)))
 (R (dB false))) := by kernel_rfl
theorem zLs  : SatI zvk Tryz.f21 z7d [] := satD Tryz.func21 (by kernel_rfl) Tryz.ntmps21 rfl
def zwk : Ann := { own := [], live := [], n := 51, nils := [], pubs := [] }
theorem zMs  (R : D → Prop) : FD zwk Tryz.f29 [] R =
 (Call1 Tryz.prog zcb [] .mdl fun c1 =>
 Call2 Tryz.prog zTc [dM c1, dI 0, .sl .int ([0, 1])] .bool .int fun m2 m3 =>
 Call1 Tryz.prog zcb [] .mdl fun c4 =>
 Call2 Tryz.prog zec [dM c4, .sl .int ([2, 1])] .bool .int fun m5 m6 =>
 Call1 Tryz.prog zcb [] .mdl fun c7 =>
 Call2 Tryz.prog zUc [dM c7, dI 0] (.list .int) .int fun m8 m9 =>
 Call1 Tryz.prog zcb [] .mdl fun c10 =>
 Call1 Tryz.prog zdb [dM c10] .int fun m11 =>
 sel (decide (m11 = 0))
 (sel (decide (m3 = 0))
 (sel (decide (m6 = 0))
 (sel (decide (m9 = 0))
 (sel m2
 (sel (!m5)
 (Call1 Tryz.prog zQc [.sl .int m8, .sl .int ([0, 1])] .bool fun c12 =>
 R (dB c12))
 (R (dB false)))
 (R (dB false)))
 (R (dB false)))
 (R (dB false)))
 (R (dB false)))
 (R (dB false))) := by kernel_rfl
theorem zNs  : SatI zwk Tryz.f29 z9d [] := satD Tryz.func29 (by kernel_rfl) Tryz.ntmps29 rfl
def zxk : Ann := { own := [0], live := [], n := 9, nils := [], pubs := [] }
theorem zOs  (R : D → Prop) : FD zxk Tryz.f35 [] R =
 (R (.agg [.sl .var ([(⟨(⟨#[120]⟩ : ByteArray), 0, 2⟩ : VarD), (⟨(⟨#[121]⟩ : ByteArray), 0, 2⟩ : VarD)]), .sl .con ([(⟨1, [0, 1], [1, -1], -1, ([] : List (List Int)), ([] : List LitD)⟩ : ConD)]), dI 1, dI 1])) := by kernel_rfl
theorem zPs  : SatI zxk Tryz.f35 zcb [] := satD Tryz.func35 (by kernel_rfl) Tryz.ntmps35 rfl
end Go.Proofs.YtajnbkhgnppckaaGreatDoor
