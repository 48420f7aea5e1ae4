/- What the functions of a package do, as equations of plain propositions: printed by a program that carries the code out on symbols. -/
import Derived.Test.YtajnbkhgnppckaaGreatDoorWEv
namespace Go.Proofs.YtajnbkhgnppckaaGreatDoor
open Go.RowKit
set_option linter.unusedVariables false
set_option maxRecDepth 100000
def zml : Ann := { own := [], live := [], n := 40, nils := [], pubs := [] }
theorem zTt (a0 : MdlD) (R : D → Prop) : FD zml Tryz.f4 [dM a0] R =
 (Call3 Tryz.prog zqc [dM a0] (.list (.list .int)) .bool .int fun s1 s2 s3 =>
 Call1 Tryz.prog zie [dM a0] .int fun c4 =>
 sel (decide (c4 = 0))
 (Call2 Tryz.prog zje [dM a0, dI 200] (.list (.list .int)) .bool fun c5 c6 =>
 Call1 Tryz.prog z3c [] .bool fun c7 =>
 sel c7
 (sel (decide (s3 = c4))
 (Call1 Tryz.prog z1b [dS s1, dS c5] .bool fun c8 =>
 sel c8
 (R (dB (s2 == c6)))
 (R (dB false)))
 (R (dB false)))
 (R (dB false)))
 (Call1 Tryz.prog z3c [] .bool fun c9 =>
 sel c9
 (sel (decide (s3 = c4))
 (Call1 Tryz.prog z1b [dS s1, dS ([] : List (List Int))] .bool fun c10 =>
 sel c10
 (R (dB (s2 == false)))
 (R (dB false)))
 (R (dB false)))
 (R (dB false)))) := by kernel_rfl
theorem zUt (a0 : MdlD) : SatI zml Tryz.f4 z2j [dM a0] := satD Tryz.func4 (by kernel_rfl) Tryz.ntmps4 rfl
def znl : Ann := { own := [1], live := [], n := 45, nils := [], pubs := [] }
theorem zVt  (R : D → Prop) : FD znl Tryz.f11 [] R =
 (Call1 Tryz.prog z5c [] .mdl fun c1 =>
 Call2 Tryz.prog z2c [dM c1, dI 9] .ans .int fun s2 s3 =>
 Call1 Tryz.prog z5c [] .mdl fun c4 =>
 Call3 Tryz.prog zqc [dM c4] (.list (.list .int)) .bool .int fun s5 s6 s7 =>
 sel (decide (s3 = 0))
 (sel (decide (s7 = 0))
 (sel (decide (s2.verdict = 1))
 (sel (decide ((s2.values.length : Int) = 2))
 (sel s6
 (Call1 Tryz.prog z1b [dS s5, dS ([[0, 1], [0, 2], [1, 2]])] .bool fun c8 =>
 R (dB c8))
 (R (dB false)))
 (R (dB false)))
 (R (dB false)))
 (R (dB false)))
 (R (dB false))) := by kernel_rfl
theorem zWt  : SatI znl Tryz.f11 z3c [] := satD Tryz.func11 (by kernel_rfl) Tryz.ntmps11 rfl
def zol : Ann := { own := [0], live := [], n := 9, nils := [], pubs := [] }
theorem zXt  (R : D → Prop) : FD zol Tryz.f35 [] R =
 (R (.agg [.sl .var ([(⟨(⟨#[120]⟩ : ByteArray), 0, 2⟩ : VarD), (⟨(⟨#[121]⟩ : ByteArray), 0, 2⟩ : VarD)]), .sl .con ([(⟨1, [0, 1], [1, -1], -1, ([] : List (List Int)), ([] : List LitD)⟩ : ConD)]), dI 1, dI 1])) := by kernel_rfl
theorem zYt  : SatI zol Tryz.f35 z5c [] := satD Tryz.func35 (by kernel_rfl) Tryz.ntmps35 rfl
end Go.Proofs.YtajnbkhgnppckaaGreatDoor
