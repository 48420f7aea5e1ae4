/- What the functions of a package do, as equations of plain propositions: printed by a program that carries the code out on symbols. -/
import Derived.Test.YtajnbkhgnppckaaGreatDoorWEv
namespace Go.Proofs.YtajnbkhgnppckaaGreatDoor
open Go.RowKit
set_option linter.unusedVariables false
set_option maxRecDepth 100000
def zuf : Ann := { own := [], live := [(0, ([0, 1, 5], []))], n := 26, nils := [], pubs := [] }
def zvf (a0 : List Int) (a1 : List Int) (R : D → Prop) (n0 : Nat) (i1 : Int) : Prop := LP zuf Tryz.f12 [1, 1, 0, 1, 0, 0] 0 n0 ⟨[(0, .sl .int a0), (1, .sl .int a1), (5, dI i1)], []⟩ (blockK 0 (sK zuf Tryz.f12 [1, 1, 1] 0 (eK Tryz.f12 R)))
theorem zOj (a0 : List Int) (a1 : List Int) (R : D → Prop) (n0 : Nat) (i1 : Int) : zvf a0 a1 R (n0 + 1) i1 =
 (sel (decide (i1 < (a0.length : Int)))
 (inb i1 a0.length = true ∧
 inb i1 a1.length = true ∧
 sel (!decide ((at' .int a0 i1.toNat) = (at' .int a1 i1.toNat)))
 (R (dB false))
 (zvf a0 a1 R n0 (w64 (i1 + 1))))
 (R (dB true))) := by kernel_rfl
theorem zdr (a0 : List Int) (a1 : List Int) (R : D → Prop) : FD zuf Tryz.f12 [.sl .int a0, .sl .int a1] R =
 (sel (!decide ((a0.length : Int) = (a1.length : Int)))
 (R (dB false))
 (∃ n0, zvf a0 a1 R n0 0)) := by kernel_rfl
theorem zer (a0 : List Int) (a1 : List Int) : SatI zuf Tryz.f12 zLc [.sl .int a0, .sl .int a1] := satD Tryz.func12 (by kernel_rfl) Tryz.ntmps12 rfl
def zwf : Ann := { own := [], live := [(0, ([0, 1, 5], []))], n := 55, nils := [], pubs := [] }
def zxf (a0 : List StepD) (a1 : List StepD) (R : D → Prop) (n0 : Nat) (i1 : Int) : Prop := LP zwf Tryz.f13 [1, 1, 0, 1, 0, 0] 0 n0 ⟨[(0, .sl .step a0), (1, .sl .step a1), (5, dI i1)], []⟩ (blockK 0 (sK zwf Tryz.f13 [1, 1, 1] 0 (eK Tryz.f13 R)))
theorem zPj (a0 : List StepD) (a1 : List StepD) (R : D → Prop) (n0 : Nat) (i1 : Int) : zxf a0 a1 R (n0 + 1) i1 =
 (sel (decide (i1 < (a0.length : Int)))
 (inb i1 a0.length = true ∧
 inb i1 a1.length = true ∧
 sel (!decide (((at' .step a0 i1.toNat).kind) = ((at' .step a1 i1.toNat).kind)))
 (R (dB false))
 (inb i1 a0.length = true ∧
 inb i1 a1.length = true ∧
 sel (!decide (((at' .step a0 i1.toNat).con) = ((at' .step a1 i1.toNat).con)))
 (R (dB false))
 (inb i1 a0.length = true ∧
 inb i1 a1.length = true ∧
 Call1 Tryz.prog z2d [.sl .lit ((at' .step a0 i1.toNat).clause), .sl .lit ((at' .step a1 i1.toNat).clause)] .bool fun c2 =>
 sel (!c2)
 (R (dB false))
 (zxf a0 a1 R n0 (w64 (i1 + 1))))))
 (R (dB true))) := by kernel_rfl
theorem zfr (a0 : List StepD) (a1 : List StepD) (R : D → Prop) : FD zwf Tryz.f13 [.sl .step a0, .sl .step a1] R =
 (sel (!decide ((a0.length : Int) = (a1.length : Int)))
 (R (dB false))
 (∃ n0, zxf a0 a1 R n0 0)) := by kernel_rfl
theorem zgr (a0 : List StepD) (a1 : List StepD) : SatI zwf Tryz.f13 z1d [.sl .step a0, .sl .step a1] := satD Tryz.func13 (by kernel_rfl) Tryz.ntmps13 rfl
def zyf : Ann := { own := [], live := [(0, ([0, 1, 5], []))], n := 27, nils := [], pubs := [] }
def zzf (a0 : List (List Int)) (a1 : List (List Int)) (R : D → Prop) (n0 : Nat) (i1 : Int) : Prop := LP zyf Tryz.f17 [1, 1, 0, 1, 0, 0] 0 n0 ⟨[(0, dS a0), (1, dS a1), (5, dI i1)], []⟩ (blockK 0 (sK zyf Tryz.f17 [1, 1, 1] 0 (eK Tryz.f17 R)))
theorem zQj (a0 : List (List Int)) (a1 : List (List Int)) (R : D → Prop) (n0 : Nat) (i1 : Int) : zzf a0 a1 R (n0 + 1) i1 =
 (sel (decide (i1 < (a0.length : Int)))
 (inb i1 a0.length = true ∧
 inb i1 a1.length = true ∧
 Call1 Tryz.prog zLc [.sl .int (at' (.list .int) a0 i1.toNat), .sl .int (at' (.list .int) a1 i1.toNat)] .bool fun c2 =>
 sel (!c2)
 (R (dB false))
 (zzf a0 a1 R n0 (w64 (i1 + 1))))
 (R (dB true))) := by kernel_rfl
theorem zhr (a0 : List (List Int)) (a1 : List (List Int)) (R : D → Prop) : FD zyf Tryz.f17 [dS a0, dS a1] R =
 (sel (!decide ((a0.length : Int) = (a1.length : Int)))
 (R (dB false))
 (∃ n0, zzf a0 a1 R n0 0)) := by kernel_rfl
theorem zir (a0 : List (List Int)) (a1 : List (List Int)) : SatI zyf Tryz.f17 zNc [dS a0, dS a1] := satD Tryz.func17 (by kernel_rfl) Tryz.ntmps17 rfl
def zAf : Ann := { own := [], live := [(0, ([0, 1, 5], []))], n := 26, nils := [], pubs := [] }
def zBf (a0 : List LitD) (a1 : List LitD) (R : D → Prop) (n0 : Nat) (i1 : Int) : Prop := LP zAf Tryz.f22 [1, 1, 0, 1, 0, 0] 0 n0 ⟨[(0, .sl .lit a0), (1, .sl .lit a1), (5, dI i1)], []⟩ (blockK 0 (sK zAf Tryz.f22 [1, 1, 1] 0 (eK Tryz.f22 R)))
theorem zRj (a0 : List LitD) (a1 : List LitD) (R : D → Prop) (n0 : Nat) (i1 : Int) : zBf a0 a1 R (n0 + 1) i1 =
 (sel (decide (i1 < (a0.length : Int)))
 (inb i1 a0.length = true ∧
 inb i1 a1.length = true ∧
 sel (!decide ((at' .lit a0 i1.toNat) = (at' .lit a1 i1.toNat)))
 (R (dB false))
 (zBf a0 a1 R n0 (w64 (i1 + 1))))
 (R (dB true))) := by kernel_rfl
theorem zjr (a0 : List LitD) (a1 : List LitD) (R : D → Prop) : FD zAf Tryz.f22 [.sl .lit a0, .sl .lit a1] R =
 (sel (!decide ((a0.length : Int) = (a1.length : Int)))
 (R (dB false))
 (∃ n0, zBf a0 a1 R n0 0)) := by kernel_rfl
theorem zkr (a0 : List LitD) (a1 : List LitD) : SatI zAf Tryz.f22 z2d [.sl .lit a0, .sl .lit a1] := satD Tryz.func22 (by kernel_rfl) Tryz.ntmps22 rfl
end Go.Proofs.YtajnbkhgnppckaaGreatDoor
