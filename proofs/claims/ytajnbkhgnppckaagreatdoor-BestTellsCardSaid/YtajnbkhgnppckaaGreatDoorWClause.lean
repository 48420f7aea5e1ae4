/- What the functions of a package do, as equations of plain propositions: printed by a program that carries the code out on symbols. -/
import Derived.Test.YtajnbkhgnppckaaGreatDoorWEv
namespace Go.Proofs.YtajnbkhgnppckaaGreatDoor
open Go.RowKit
set_option linter.unusedVariables false
set_option maxRecDepth 100000
def zCh : Ann := { own := [5, 7, 8], live := [(0, ([0, 3, 5, 13, 14, 15], [5]))], n := 44, nils := [], pubs := [] }
def zed (a0 : List (List Int)) (a1 : List LitD) (R : D → Prop) (n0 : Nat) (v3 : Int) (one4 : Int) : Prop := LP zCh Tryz.f100 [1, 1, 1, 0, 1, 0, 0] 0 n0 ⟨[(0, dS a0), (3, .iptr [.sl .lit a1] 0), (5, .ptr 5 0), (13, .sl .lit a1), (14, dI (a1.length : Int)), (15, dI v3)], [(5, .cells [dI one4])]⟩ (blockK 0 (sK zCh Tryz.f100 [1, 1, 1, 1] 0 (eK Tryz.f100 R)))
theorem zEw (a0 : List (List Int)) (a1 : List LitD) (R : D → Prop) (n0 : Nat) (v3 : Int) (one4 : Int) : zed a0 a1 R (n0 + 1) v3 one4 =
 (sel (decide (v3 < (a1.length : Int)))
 (inb v3 a1.length = true ∧
 Call1 Tryz.prog zOf [dS a0, dL (at' .lit a1 v3.toNat)] .int fun l5 =>
 sel (decide (l5 < 0))
 (zed a0 a1 R n0 (w64 (v3 + 1)) one4)
 (sel (decide (0 ≤ one4))
 (sel (!decide (one4 = ((at' .lit a1 v3.toNat).var)))
 (Call1 Tryz.prog zXb [dS a0] (.list (.list .int)) fun s6 =>
 R (dS s6))
 (zed a0 a1 R n0 (w64 (v3 + 1)) ((at' .lit a1 v3.toNat).var)))
 (zed a0 a1 R n0 (w64 (v3 + 1)) ((at' .lit a1 v3.toNat).var))))
 (sel (decide (one4 < 0))
 (Call1 Tryz.prog zV [dS a0] (.list (.list .int)) fun s7 =>
 R (dS s7))
 (Call1 Tryz.prog zO [dS a0, .clo zQf none [.iptr [dI one4] 0, .iptr [.clo z0c none [.iptr [.sl .lit a1] 0, .iptr [dI one4] 0]] 0]] (.list (.list .int)) fun s8 =>
 R (dS s8)))) := by kernel_rfl
theorem zFw (a0 : List (List Int)) (a1 : List LitD) (R : D → Prop) : FD zCh Tryz.f100 [dS a0, .sl .lit a1] R =
 (Call1 Tryz.prog zg [dS a0] .bool fun s1 =>
 sel s1
 (Call1 Tryz.prog zXb [dS a0] (.list (.list .int)) fun s2 =>
 R (dS s2))
 (∃ n0, zed a0 a1 R n0 0 (-1))) := by kernel_rfl
theorem zGw (a0 : List (List Int)) (a1 : List LitD) : SatI zCh Tryz.f100 zsc [dS a0, .sl .lit a1] := satD Tryz.func100 (by kernel_rfl) Tryz.ntmps100 rfl
def z9m : Ann := { own := [], live := [], n := 8, nils := [], pubs := [] }
theorem zHw (a0 : Int) (c0 : List LitD) (c1 : Int) (R : D → Prop) : FD z9m Tryz.f143 [dI a0, .iptr [.sl .lit c0] 0, .iptr [dI c1] 0] R =
 (Call1 Tryz.prog zTd [.sl .lit c0, .clo zPf none [.iptr [dI c1] 0, .iptr [dI a0] 0]] .bool fun s1 =>
 R (dB s1)) := by kernel_rfl
theorem zIw (a0 : Int) (c0 : List LitD) (c1 : Int) : SatI z9m Tryz.f143 z0c [dI a0, .iptr [.sl .lit c0] 0, .iptr [dI c1] 0] := satD Tryz.func143 (by kernel_rfl) Tryz.ntmps143 rfl
def zan : Ann := { own := [], live := [], n := 14, nils := [], pubs := [] }
theorem zJw (a0 : LitD) (c0 : Int) (c1 : Int) (R : D → Prop) : FD zan Tryz.f145 [dL a0, .iptr [dI c0] 0, .iptr [dI c1] 0] R =
 (sel (decide (a0.var = c0))
 (Call1 Tryz.prog zZb [dL a0, dI c1] .bool fun m1 =>
 R (dB m1))
 (R (dB false))) := by kernel_rfl
theorem zKw (a0 : LitD) (c0 : Int) (c1 : Int) : SatI zan Tryz.f145 zPf [dL a0, .iptr [dI c0] 0, .iptr [dI c1] 0] := satD Tryz.func145 (by kernel_rfl) Tryz.ntmps145 rfl
def zbn : Ann := { own := [], live := [], n := 15, nils := [], pubs := [] }
theorem zLw (a0 : Int) (a1 : Int) (c0 : Int) (h1 : FuncId) (hap1 : List D) (R : D → Prop) : FD zbn Tryz.f146 [dI a0, dI a1, .iptr [dI c0] 0, .iptr [.clo h1 (some [.bool]) hap1] 0] R =
 (sel (!decide (a0 = c0))
 (R (dB true))
 (Ent Tryz.prog h1 ∧
 Call1 Tryz.prog h1 ([dI a1] ++ hap1) .bool fun r1 =>
 R (dB r1))) := by kernel_rfl
theorem zMw (a0 : Int) (a1 : Int) (c0 : Int) (h1 : FuncId) (hap1 : List D) : SatI zbn Tryz.f146 zQf [dI a0, dI a1, .iptr [dI c0] 0, .iptr [.clo h1 (some [.bool]) hap1] 0] := satD Tryz.func146 (by kernel_rfl) Tryz.ntmps146 rfl
def zcn : Ann := { own := [], live := [], n := 8, nils := [], pubs := [] }
theorem zNw (a0 : List (List Int)) (a1 : List LitD) (R : D → Prop) : FD zcn Tryz.f216 [dS a0, .sl .lit a1] R =
 (Call1 Tryz.prog zO [dS a0, .clo z8f none [.iptr [.sl .lit a1] 0]] (.list (.list .int)) fun s1 =>
 R (dS s1)) := by kernel_rfl
theorem zOw (a0 : List (List Int)) (a1 : List LitD) : SatI zcn Tryz.f216 z7f [dS a0, .sl .lit a1] := satD Tryz.func216 (by kernel_rfl) Tryz.ntmps216 rfl
def zdn : Ann := { own := [], live := [], n := 10, nils := [], pubs := [] }
theorem zPw (a0 : Int) (a1 : Int) (c0 : List LitD) (R : D → Prop) : FD zdn Tryz.f229 [dI a0, dI a1, .iptr [.sl .lit c0] 0] R =
 (Call1 Tryz.prog zTd [.sl .lit c0, .clo z9f none [.iptr [dI a0] 0, .iptr [dI a1] 0]] .bool fun s1 =>
 R (dB (!s1))) := by kernel_rfl
theorem zQw (a0 : Int) (a1 : Int) (c0 : List LitD) : SatI zdn Tryz.f229 z8f [dI a0, dI a1, .iptr [.sl .lit c0] 0] := satD Tryz.func229 (by kernel_rfl) Tryz.ntmps229 rfl
def zen : Ann := { own := [], live := [], n := 14, nils := [], pubs := [] }
theorem zRw (a0 : LitD) (c0 : Int) (c1 : Int) (R : D → Prop) : FD zen Tryz.f230 [dL a0, .iptr [dI c0] 0, .iptr [dI c1] 0] R =
 (sel (decide (a0.var = c0))
 (Call1 Tryz.prog zZb [dL a0, dI c1] .bool fun m1 =>
 R (dB m1))
 (R (dB false))) := by kernel_rfl
theorem zSw (a0 : LitD) (c0 : Int) (c1 : Int) : SatI zen Tryz.f230 z9f [dL a0, .iptr [dI c0] 0, .iptr [dI c1] 0] := satD Tryz.func230 (by kernel_rfl) Tryz.ntmps230 rfl
end Go.Proofs.YtajnbkhgnppckaaGreatDoor
