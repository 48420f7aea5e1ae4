/- What the functions of a package do, as equations of plain propositions: printed by a program that carries the code out on symbols. -/
import Derived.Test.YtajnbkhgnppckaaGreatDoorWEv
namespace Go.Proofs.YtajnbkhgnppckaaGreatDoor
open Go.RowKit
set_option linter.unusedVariables false
set_option maxRecDepth 100000
def zZf : Ann := { own := [5, 7, 8], live := [(0, ([0, 3, 5, 13, 14, 15], [5]))], n := 44, nils := [], pubs := [] }
def zxc (a0 : List (List Int)) (a1 : List LitD) (R : D → Prop) (n0 : Nat) (v3 : Int) (one4 : Int) : Prop := LP zZf Tryz.f100 [1, 1, 1, 0, 1, 0, 0] 0 n0 ⟨[(0, dS a0), (3, .iptr [.sl .lit a1] 0), (5, .ptr 5 0), (13, .sl .lit a1), (14, dI (a1.length : Int)), (15, dI v3)], [(5, .cells [dI one4])]⟩ (blockK 0 (sK zZf Tryz.f100 [1, 1, 1, 1] 0 (eK Tryz.f100 R)))
theorem znt (a0 : List (List Int)) (a1 : List LitD) (R : D → Prop) (n0 : Nat) (v3 : Int) (one4 : Int) : zxc a0 a1 R (n0 + 1) v3 one4 =
 (sel (decide (v3 < (a1.length : Int)))
 (inb v3 a1.length = true ∧
 Call1 Tryz.prog zLe [dS a0, dL (at' .lit a1 v3.toNat)] .int fun l5 =>
 sel (decide (l5 < 0))
 (zxc a0 a1 R n0 (w64 (v3 + 1)) one4)
 (sel (decide (0 ≤ one4))
 (sel (!decide (one4 = ((at' .lit a1 v3.toNat).var)))
 (Call1 Tryz.prog zvb [dS a0] (.list (.list .int)) fun s6 =>
 R (dS s6))
 (zxc a0 a1 R n0 (w64 (v3 + 1)) ((at' .lit a1 v3.toNat).var)))
 (zxc a0 a1 R n0 (w64 (v3 + 1)) ((at' .lit a1 v3.toNat).var))))
 (sel (decide (one4 < 0))
 (Call1 Tryz.prog zG [dS a0] (.list (.list .int)) fun s7 =>
 R (dS s7))
 (Call1 Tryz.prog zC [dS a0, .clo zNe none [.iptr [dI one4] 0, .iptr [.clo zrc none [.iptr [.sl .lit a1] 0, .iptr [dI one4] 0]] 0]] (.list (.list .int)) fun s8 =>
 R (dS s8)))) := by kernel_rfl
theorem zot (a0 : List (List Int)) (a1 : List LitD) (R : D → Prop) : FD zZf Tryz.f100 [dS a0, .sl .lit a1] R =
 (Call1 Tryz.prog zf [dS a0] .bool fun s1 =>
 sel s1
 (Call1 Tryz.prog zvb [dS a0] (.list (.list .int)) fun s2 =>
 R (dS s2))
 (∃ n0, zxc a0 a1 R n0 0 (-1))) := by kernel_rfl
theorem zpt (a0 : List (List Int)) (a1 : List LitD) : SatI zZf Tryz.f100 zZb [dS a0, .sl .lit a1] := satD Tryz.func100 (by kernel_rfl) Tryz.ntmps100 rfl
def z3k : Ann := { own := [], live := [], n := 8, nils := [], pubs := [] }
theorem zqt (a0 : Int) (c0 : List LitD) (c1 : Int) (R : D → Prop) : FD z3k Tryz.f143 [dI a0, .iptr [.sl .lit c0] 0, .iptr [dI c1] 0] R =
 (Call1 Tryz.prog z3c [.sl .lit c0, .clo zMe none [.iptr [dI c1] 0, .iptr [dI a0] 0]] .bool fun s1 =>
 R (dB s1)) := by kernel_rfl
theorem zrt (a0 : Int) (c0 : List LitD) (c1 : Int) : SatI z3k Tryz.f143 zrc [dI a0, .iptr [.sl .lit c0] 0, .iptr [dI c1] 0] := satD Tryz.func143 (by kernel_rfl) Tryz.ntmps143 rfl
def z4k : Ann := { own := [], live := [], n := 14, nils := [], pubs := [] }
theorem zst (a0 : LitD) (c0 : Int) (c1 : Int) (R : D → Prop) : FD z4k Tryz.f145 [dL a0, .iptr [dI c0] 0, .iptr [dI c1] 0] R =
 (sel (decide (a0.var = c0))
 (Call1 Tryz.prog zxb [dL a0, dI c1] .bool fun m1 =>
 R (dB m1))
 (R (dB false))) := by kernel_rfl
theorem ztt (a0 : LitD) (c0 : Int) (c1 : Int) : SatI z4k Tryz.f145 zMe [dL a0, .iptr [dI c0] 0, .iptr [dI c1] 0] := satD Tryz.func145 (by kernel_rfl) Tryz.ntmps145 rfl
def z5k : Ann := { own := [], live := [], n := 15, nils := [], pubs := [] }
theorem zut (a0 : Int) (a1 : Int) (c0 : Int) (h1 : FuncId) (hap1 : List D) (R : D → Prop) : FD z5k Tryz.f146 [dI a0, dI a1, .iptr [dI c0] 0, .iptr [.clo h1 (some [.bool]) hap1] 0] R =
 (sel (!decide (a0 = c0))
 (R (dB true))
 (Ent Tryz.prog h1 ∧
 Call1 Tryz.prog h1 ([dI a1] ++ hap1) .bool fun r1 =>
 R (dB r1))) := by kernel_rfl
theorem zvt (a0 : Int) (a1 : Int) (c0 : Int) (h1 : FuncId) (hap1 : List D) : SatI z5k Tryz.f146 zNe [dI a0, dI a1, .iptr [dI c0] 0, .iptr [.clo h1 (some [.bool]) hap1] 0] := satD Tryz.func146 (by kernel_rfl) Tryz.ntmps146 rfl
def z6k : Ann := { own := [], live := [], n := 8, nils := [], pubs := [] }
theorem zwt (a0 : List (List Int)) (a1 : List LitD) (R : D → Prop) : FD z6k Tryz.f216 [dS a0, .sl .lit a1] R =
 (Call1 Tryz.prog zC [dS a0, .clo z2e none [.iptr [.sl .lit a1] 0]] (.list (.list .int)) fun s1 =>
 R (dS s1)) := by kernel_rfl
theorem zxt (a0 : List (List Int)) (a1 : List LitD) : SatI z6k Tryz.f216 z1e [dS a0, .sl .lit a1] := satD Tryz.func216 (by kernel_rfl) Tryz.ntmps216 rfl
def z7k : Ann := { own := [], live := [], n := 10, nils := [], pubs := [] }
theorem zyt (a0 : Int) (a1 : Int) (c0 : List LitD) (R : D → Prop) : FD z7k Tryz.f229 [dI a0, dI a1, .iptr [.sl .lit c0] 0] R =
 (Call1 Tryz.prog z3c [.sl .lit c0, .clo z3e none [.iptr [dI a0] 0, .iptr [dI a1] 0]] .bool fun s1 =>
 R (dB (!s1))) := by kernel_rfl
theorem zzt (a0 : Int) (a1 : Int) (c0 : List LitD) : SatI z7k Tryz.f229 z2e [dI a0, dI a1, .iptr [.sl .lit c0] 0] := satD Tryz.func229 (by kernel_rfl) Tryz.ntmps229 rfl
def z8k : Ann := { own := [], live := [], n := 14, nils := [], pubs := [] }
theorem zAt (a0 : LitD) (c0 : Int) (c1 : Int) (R : D → Prop) : FD z8k Tryz.f230 [dL a0, .iptr [dI c0] 0, .iptr [dI c1] 0] R =
 (sel (decide (a0.var = c0))
 (Call1 Tryz.prog zxb [dL a0, dI c1] .bool fun m1 =>
 R (dB m1))
 (R (dB false))) := by kernel_rfl
theorem zBt (a0 : LitD) (c0 : Int) (c1 : Int) : SatI z8k Tryz.f230 z3e [dL a0, .iptr [dI c0] 0, .iptr [dI c1] 0] := satD Tryz.func230 (by kernel_rfl) Tryz.ntmps230 rfl
end Go.Proofs.YtajnbkhgnppckaaGreatDoor
