/- What the functions of a package do, as equations of plain propositions: printed by a program that carries the code out on symbols. -/
import Derived.Test.YtajnbkhgnppckaaGreatDoorWEv
namespace Go.Proofs.YtajnbkhgnppckaaGreatDoor
open Go.RowKit
set_option linter.unusedVariables false
set_option maxRecDepth 100000
def z6j : Ann := { own := [7, 9], live := [], n := 60, nils := [], pubs := [] }
theorem zas (a0 : MdlD) (a1 : Int) (a2 : Int) (R : D → Prop) : FD z6j Tryz.f3 [dM a0, dI a1, dI a2] R =
 (Call2 Tryz.prog zJb [dM a0, dI a1] .ans .int fun s1 s2 =>
 Call2 Tryz.prog zJb [dM a0, dI a2] .ans .int fun s3 s4 =>
 Call1 Tryz.prog z0d [] .bool fun c5 =>
 sel (!c5)
 (R (dB false))
 (sel (!decide (s2 = 0))
 (R (dB true))
 (sel (!decide (s4 = 0))
 (R (dB true))
 (sel (decide (a2 < a1))
 (R (dB true))
 (sel (decide (s1.verdict = 3))
 (R (dB true))
 (sel (decide (s1.verdict = s3.verdict))
 (Call1 Tryz.prog zLc [.sl .int s1.values, .sl .int s3.values] .bool fun c6 =>
 sel c6
 (Call1 Tryz.prog z1d [.sl .step s1.proof, .sl .step s3.proof] .bool fun c7 =>
 R (dB c7))
 (R (dB false)))
 (R (dB false)))))))) := by kernel_rfl
theorem zbs (a0 : MdlD) (a1 : Int) (a2 : Int) : SatI z6j Tryz.f3 z7i [dM a0, dI a1, dI a2] := satD Tryz.func3 (by kernel_rfl) Tryz.ntmps3 rfl
def z7j : Ann := { own := [1], live := [], n := 45, nils := [], pubs := [] }
theorem zcs  (R : D → Prop) : FD z7j Tryz.f11 [] R =
 (Call1 Tryz.prog zOc [] .mdl fun c1 =>
 Call2 Tryz.prog zJb [dM c1, dI 9] .ans .int fun s2 s3 =>
 Call1 Tryz.prog zOc [] .mdl fun c4 =>
 Call3 Tryz.prog zMc [dM c4] (.list (.list .int)) .bool .int fun s5 s6 s7 =>
 sel (decide (s3 = 0))
 (sel (decide (s7 = 0))
 (sel (decide (s2.verdict = 1))
 (sel (decide ((s2.values.length : Int) = 2))
 (sel s6
 (Call1 Tryz.prog zNc [dS s5, dS ([[0, 1], [0, 2], [1, 2]])] .bool fun c8 =>
 R (dB c8))
 (R (dB false)))
 (R (dB false)))
 (R (dB false)))
 (R (dB false)))
 (R (dB false))) := by kernel_rfl
theorem zds  : SatI z7j Tryz.f11 z0d [] := satD Tryz.func11 (by kernel_rfl) Tryz.ntmps11 rfl
def z8j : Ann := { own := [0], live := [], n := 9, nils := [], pubs := [] }
theorem zes  (R : D → Prop) : FD z8j Tryz.f35 [] R =
 (R (.agg [.sl .var ([(⟨(⟨#[120]⟩ : ByteArray), 0, 2⟩ : VarD), (⟨(⟨#[121]⟩ : ByteArray), 0, 2⟩ : VarD)]), .sl .con ([(⟨1, [0, 1], [1, -1], -1, ([] : List (List Int)), ([] : List LitD)⟩ : ConD)]), dI 1, dI 1])) := by kernel_rfl
theorem zfs  : SatI z8j Tryz.f35 zOc [] := satD Tryz.func35 (by kernel_rfl) Tryz.ntmps35 rfl
end Go.Proofs.YtajnbkhgnppckaaGreatDoor
