/- What the functions of a package do, as equations of plain propositions: printed by a program that carries the code out on symbols. -/
import Derived.Test.YtajnbkhgnppckaaGreatDoorWEv
namespace Go.Proofs.YtajnbkhgnppckaaGreatDoor
open Go.RowKit
set_option linter.unusedVariables false
set_option maxRecDepth 100000
def zRf : Ann := { own := [5, 7, 8], live := [(0, ([0, 3, 5, 13, 14, 15], [5]))], n := 44, nils := [], pubs := [] }
def ztc (a0 : List (List Int)) (a1 : List LitD) (R : D → Prop) (n0 : Nat) (v3 : Int) (one4 : Int) : Prop := LP zRf Tryz.f100 [1, 1, 1, 0, 1, 0, 0] 0 n0 ⟨[(0, dS a0), (3, .iptr [.sl .lit a1] 0), (5, .ptr 5 0), (13, .sl .lit a1), (14, dI (a1.length : Int)), (15, dI v3)], [(5, .cells [dI one4])]⟩ (blockK 0 (sK zRf Tryz.f100 [1, 1, 1, 1] 0 (eK Tryz.f100 R)))
theorem z5s (a0 : List (List Int)) (a1 : List LitD) (R : D → Prop) (n0 : Nat) (v3 : Int) (one4 : Int) : ztc a0 a1 R (n0 + 1) v3 one4 =
 (sel (decide (v3 < (a1.length : Int)))
 (inb v3 a1.length = true ∧
 Call1 Tryz.prog zOe [dS a0, dL (at' .lit a1 v3.toNat)] .int fun l5 =>
 sel (decide (l5 < 0))
 (ztc a0 a1 R n0 (w64 (v3 + 1)) one4)
 (sel (decide (0 ≤ one4))
 (sel (!decide (one4 = ((at' .lit a1 v3.toNat).var)))
 (Call1 Tryz.prog zvb [dS a0] (.list (.list .int)) fun s6 =>
 R (dS s6))
 (ztc a0 a1 R n0 (w64 (v3 + 1)) ((at' .lit a1 v3.toNat).var)))
 (ztc a0 a1 R n0 (w64 (v3 + 1)) ((at' .lit a1 v3.toNat).var))))
 (sel (decide (one4 < 0))
 (Call1 Tryz.prog zG [dS a0] (.list (.list .int)) fun s7 =>
 R (dS s7))
 (Call1 Tryz.prog zC [dS a0, .clo zQe none [.iptr [dI one4] 0, .iptr [.clo zmc none [.iptr [.sl .lit a1] 0, .iptr [dI one4] 0]] 0]] (.list (.list .int)) fun s8 =>
 R (dS s8)))) := by kernel_rfl
theorem z6s (a0 : List (List Int)) (a1 : List LitD) (R : D → Prop) : FD zRf Tryz.f100 [dS a0, .sl .lit a1] R =
 (Call1 Tryz.prog zf [dS a0] .bool fun s1 =>
 sel s1
 (Call1 Tryz.prog zvb [dS a0] (.list (.list .int)) fun s2 =>
 R (dS s2))
 (∃ n0, ztc a0 a1 R n0 0 (-1))) := by kernel_rfl
theorem z7s (a0 : List (List Int)) (a1 : List LitD) : SatI zRf Tryz.f100 zTb [dS a0, .sl .lit a1] := satD Tryz.func100 (by kernel_rfl) Tryz.ntmps100 rfl
def zEk : Ann := { own := [], live := [], n := 8, nils := [], pubs := [] }
theorem z8s (a0 : Int) (c0 : List LitD) (c1 : Int) (R : D → Prop) : FD zEk Tryz.f143 [dI a0, .iptr [.sl .lit c0] 0, .iptr [dI c1] 0] R =
 (Call1 Tryz.prog z3c [.sl .lit c0, .clo zPe none [.iptr [dI c1] 0, .iptr [dI a0] 0]] .bool fun s1 =>
 R (dB s1)) := by kernel_rfl
theorem z9s (a0 : Int) (c0 : List LitD) (c1 : Int) : SatI zEk Tryz.f143 zmc [dI a0, .iptr [.sl .lit c0] 0, .iptr [dI c1] 0] := satD Tryz.func143 (by kernel_rfl) Tryz.ntmps143 rfl
def zFk : Ann := { own := [], live := [], n := 14, nils := [], pubs := [] }
theorem zat (a0 : LitD) (c0 : Int) (c1 : Int) (R : D → Prop) : FD zFk Tryz.f145 [dL a0, .iptr [dI c0] 0, .iptr [dI c1] 0] R =
 (sel (decide (a0.var = c0))
 (Call1 Tryz.prog zxb [dL a0, dI c1] .bool fun m1 =>
 R (dB m1))
 (R (dB false))) := by kernel_rfl
theorem zbt (a0 : LitD) (c0 : Int) (c1 : Int) : SatI zFk Tryz.f145 zPe [dL a0, .iptr [dI c0] 0, .iptr [dI c1] 0] := satD Tryz.func145 (by kernel_rfl) Tryz.ntmps145 rfl
def zGk : Ann := { own := [], live := [], n := 15, nils := [], pubs := [] }
theorem zct (a0 : Int) (a1 : Int) (c0 : Int) (h1 : FuncId) (hap1 : List D) (R : D → Prop) : FD zGk Tryz.f146 [dI a0, dI a1, .iptr [dI c0] 0, .iptr [.clo h1 (some [.bool]) hap1] 0] R =
 (sel (!decide (a0 = c0))
 (R (dB true))
 (Ent Tryz.prog h1 ∧
 Call1 Tryz.prog h1 ([dI a1] ++ hap1) .bool fun r1 =>
 R (dB r1))) := by kernel_rfl
theorem zdt (a0 : Int) (a1 : Int) (c0 : Int) (h1 : FuncId) (hap1 : List D) : SatI zGk Tryz.f146 zQe [dI a0, dI a1, .iptr [dI c0] 0, .iptr [.clo h1 (some [.bool]) hap1] 0] := satD Tryz.func146 (by kernel_rfl) Tryz.ntmps146 rfl
def zHk : Ann := { own := [], live := [], n := 8, nils := [], pubs := [] }
theorem zet (a0 : List (List Int)) (a1 : List LitD) (R : D → Prop) : FD zHk Tryz.f216 [dS a0, .sl .lit a1] R =
 (Call1 Tryz.prog zC [dS a0, .clo z5e none [.iptr [.sl .lit a1] 0]] (.list (.list .int)) fun s1 =>
 R (dS s1)) := by kernel_rfl
theorem zft (a0 : List (List Int)) (a1 : List LitD) : SatI zHk Tryz.f216 z4e [dS a0, .sl .lit a1] := satD Tryz.func216 (by kernel_rfl) Tryz.ntmps216 rfl
def zIk : Ann := { own := [], live := [], n := 10, nils := [], pubs := [] }
theorem zgt (a0 : Int) (a1 : Int) (c0 : List LitD) (R : D → Prop) : FD zIk Tryz.f229 [dI a0, dI a1, .iptr [.sl .lit c0] 0] R =
 (Call1 Tryz.prog z3c [.sl .lit c0, .clo z6e none [.iptr [dI a0] 0, .iptr [dI a1] 0]] .bool fun s1 =>
 R (dB (!s1))) := by kernel_rfl
theorem zht (a0 : Int) (a1 : Int) (c0 : List LitD) : SatI zIk Tryz.f229 z5e [dI a0, dI a1, .iptr [.sl .lit c0] 0] := satD Tryz.func229 (by kernel_rfl) Tryz.ntmps229 rfl
def zJk : Ann := { own := [], live := [], n := 14, nils := [], pubs := [] }
theorem zit (a0 : LitD) (c0 : Int) (c1 : Int) (R : D → Prop) : FD zJk Tryz.f230 [dL a0, .iptr [dI c0] 0, .iptr [dI c1] 0] R =
 (sel (decide (a0.var = c0))
 (Call1 Tryz.prog zxb [dL a0, dI c1] .bool fun m1 =>
 R (dB m1))
 (R (dB false))) := by kernel_rfl
theorem zjt (a0 : LitD) (c0 : Int) (c1 : Int) : SatI zJk Tryz.f230 z6e [dL a0, .iptr [dI c0] 0, .iptr [dI c1] 0] := satD Tryz.func230 (by kernel_rfl) Tryz.ntmps230 rfl
end Go.Proofs.YtajnbkhgnppckaaGreatDoor
