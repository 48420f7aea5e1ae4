/- What the functions of a package do, as equations of plain propositions: printed by a program that carries the code out on symbols. -/
import Derived.Test.YtajnbkhgnppckaaGreatDoorWEv
namespace Go.Proofs.YtajnbkhgnppckaaGreatDoor
open Go.RowKit
set_option linter.unusedVariables false
set_option maxRecDepth 100000
def zJf : Ann := { own := [], live := [(0, ([0, 1, 5], []))], n := 26, nils := [], pubs := [] }
def zKf (a0 : List Int) (a1 : List Int) (R : D → Prop) (n0 : Nat) (i1 : Int) : Prop := LP zJf Tryz.f12 [1, 1, 0, 1, 0, 0] 0 n0 ⟨[(0, .sl .int a0), (1, .sl .int a1), (5, dI i1)], []⟩ (blockK 0 (sK zJf Tryz.f12 [1, 1, 1] 0 (eK Tryz.f12 R)))
theorem zfk (a0 : List Int) (a1 : List Int) (R : D → Prop) (n0 : Nat) (i1 : Int) : zKf a0 a1 R (n0 + 1) i1 =
 (sel (decide (i1 < (a0.length : Int)))
 (inb i1 a0.length = true ∧
 inb i1 a1.length = true ∧
 sel (!decide ((at' .int a0 i1.toNat) = (at' .int a1 i1.toNat)))
 (R (dB false))
 (zKf a0 a1 R n0 (w64 (i1 + 1))))
 (R (dB true))) := by kernel_rfl
theorem zJr (a0 : List Int) (a1 : List Int) (R : D → Prop) : FD zJf Tryz.f12 [.sl .int a0, .sl .int a1] R =
 (sel (!decide ((a0.length : Int) = (a1.length : Int)))
 (R (dB false))
 (∃ n0, zKf a0 a1 R n0 0)) := by kernel_rfl
theorem zKr (a0 : List Int) (a1 : List Int) : SatI zJf Tryz.f12 zQc [.sl .int a0, .sl .int a1] := satD Tryz.func12 (by kernel_rfl) Tryz.ntmps12 rfl
def zLf : Ann := { own := [], live := [(0, ([0, 1, 5], []))], n := 26, nils := [], pubs := [] }
def zMf (a0 : List LitD) (a1 : List LitD) (R : D → Prop) (n0 : Nat) (i1 : Int) : Prop := LP zLf Tryz.f22 [1, 1, 0, 1, 0, 0] 0 n0 ⟨[(0, .sl .lit a0), (1, .sl .lit a1), (5, dI i1)], []⟩ (blockK 0 (sK zLf Tryz.f22 [1, 1, 1] 0 (eK Tryz.f22 R)))
theorem zgk (a0 : List LitD) (a1 : List LitD) (R : D → Prop) (n0 : Nat) (i1 : Int) : zMf a0 a1 R (n0 + 1) i1 =
 (sel (decide (i1 < (a0.length : Int)))
 (inb i1 a0.length = true ∧
 inb i1 a1.length = true ∧
 sel (!decide ((at' .lit a0 i1.toNat) = (at' .lit a1 i1.toNat)))
 (R (dB false))
 (zMf a0 a1 R n0 (w64 (i1 + 1))))
 (R (dB true))) := by kernel_rfl
theorem zLr (a0 : List LitD) (a1 : List LitD) (R : D → Prop) : FD zLf Tryz.f22 [.sl .lit a0, .sl .lit a1] R =
 (sel (!decide ((a0.length : Int) = (a1.length : Int)))
 (R (dB false))
 (∃ n0, zMf a0 a1 R n0 0)) := by kernel_rfl
theorem zMr (a0 : List LitD) (a1 : List LitD) : SatI zLf Tryz.f22 z8d [.sl .lit a0, .sl .lit a1] := satD Tryz.func22 (by kernel_rfl) Tryz.ntmps22 rfl
end Go.Proofs.YtajnbkhgnppckaaGreatDoor
