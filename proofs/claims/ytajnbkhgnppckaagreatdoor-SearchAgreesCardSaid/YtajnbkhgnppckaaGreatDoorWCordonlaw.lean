/- What the functions of a package do, as equations of plain propositions: printed by a program that carries the code out on symbols. -/
import Derived.Test.YtajnbkhgnppckaaGreatDoorWEv
namespace Go.Proofs.YtajnbkhgnppckaaGreatDoor
open Go.RowKit
set_option linter.unusedVariables false
set_option maxRecDepth 100000
def zcd : Ann := { own := [5], live := [(1, ([5, 7, 8, 10], [5]))], n := 58, nils := [], pubs := [] }
def zDf (R : D → Prop) (s1 : AnsD) (s3 : List (List Int)) (s4 : Bool) (n1 : Nat) (i7 : Int) : Prop := LP zcd Tryz.f5 [1, 1, 1, 1, 1, 0, 1, 0, 1, 1, 1, 0, 0, 1, 0, 0] 1 n1 ⟨[(5, .ptr 5 0), (7, dS s3), (8, dB s4), (10, dI i7)], [(5, .cells [dI s1.verdict, .sl .int s1.values, .sl .step s1.proof])]⟩ (blockK 1 (sK zcd Tryz.f5 [1, 1, 1, 1, 1, 0, 1, 0, 1, 1, 1, 0, 1] 0 (blockK 0 (sK zcd Tryz.f5 [1, 1, 1, 1, 1, 1] 0 (eK Tryz.f5 R)))))
theorem z7r (R : D → Prop) (s1 : AnsD) (s3 : List (List Int)) (s4 : Bool) (n1 : Nat) (i7 : Int) : zDf R s1 s3 s4 (n1 + 1) i7 =
 (sel (decide (i7 < (s3.length : Int)))
 (inb i7 s3.length = true ∧
 Call1 Tryz.prog zPc [.sl .int (at' (.list .int) s3 i7.toNat), .sl .int s1.values] .bool fun c8 =>
 sel c8
 (R (dB true))
 (zDf R s1 s3 s4 n1 (w64 (i7 + 1))))
 (R (dB (!s4)))) := by kernel_rfl
theorem z8r (a0 : MdlD) (a1 : Int) (R : D → Prop) : FD zcd Tryz.f5 [dM a0, dI a1] R =
 (Call2 Tryz.prog zcc [dM a0, dI a1] .ans .int fun s1 s2 =>
 Call3 Tryz.prog zdc [dM a0] (.list (.list .int)) .bool .int fun s3 s4 s5 =>
 Call1 Tryz.prog z4d [] .bool fun c6 =>
 sel (!c6)
 (R (dB false))
 (sel (!decide (s2 = 0))
 (R (dB true))
 (sel (!decide (s5 = 0))
 (R (dB true))
 (sel (decide (s1.verdict = 2))
 (sel (decide ((s3.length : Int) = 0))
 (R (dB s4))
 (R (dB false)))
 (sel (decide (s1.verdict = 1))
 (∃ n1, zDf R s1 s3 s4 n1 0)
 (R (dB true))))))) := by kernel_rfl
theorem z9r (a0 : MdlD) (a1 : Int) : SatI zcd Tryz.f5 z6i [dM a0, dI a1] := satD Tryz.func5 (by kernel_rfl) Tryz.ntmps5 rfl
def z3j : Ann := { own := [1], live := [], n := 45, nils := [], pubs := [] }
theorem zas  (R : D → Prop) : FD z3j Tryz.f11 [] R =
 (Call1 Tryz.prog zRc [] .mdl fun c1 =>
 Call2 Tryz.prog zcc [dM c1, dI 9] .ans .int fun s2 s3 =>
 Call1 Tryz.prog zRc [] .mdl fun c4 =>
 Call3 Tryz.prog zdc [dM c4] (.list (.list .int)) .bool .int fun s5 s6 s7 =>
 sel (decide (s3 = 0))
 (sel (decide (s7 = 0))
 (sel (decide (s2.verdict = 1))
 (sel (decide ((s2.values.length : Int) = 2))
 (sel s6
 (Call1 Tryz.prog zQc [dS s5, dS ([[0, 1], [0, 2], [1, 2]])] .bool fun c8 =>
 R (dB c8))
 (R (dB false)))
 (R (dB false)))
 (R (dB false)))
 (R (dB false)))
 (R (dB false))) := by kernel_rfl
theorem zbs  : SatI z3j Tryz.f11 z4d [] := satD Tryz.func11 (by kernel_rfl) Tryz.ntmps11 rfl
def z4j : Ann := { own := [0], live := [], n := 9, nils := [], pubs := [] }
theorem zcs  (R : D → Prop) : FD z4j Tryz.f35 [] R =
 (R (.agg [.sl .var ([(⟨(⟨#[120]⟩ : ByteArray), 0, 2⟩ : VarD), (⟨(⟨#[121]⟩ : ByteArray), 0, 2⟩ : VarD)]), .sl .con ([(⟨1, [0, 1], [1, -1], -1, ([] : List (List Int)), ([] : List LitD)⟩ : ConD)]), dI 1, dI 1])) := by kernel_rfl
theorem zds  : SatI z4j Tryz.f35 zRc [] := satD Tryz.func35 (by kernel_rfl) Tryz.ntmps35 rfl
end Go.Proofs.YtajnbkhgnppckaaGreatDoor
