/- What the functions of a package do, as equations of plain propositions: printed by a program that carries the code out on symbols. -/
import Derived.Test.YtajnbkhgnppckaaGreatDoorWEv
namespace Go.Proofs.YtajnbkhgnppckaaGreatDoor
open Go.RowKit
set_option linter.unusedVariables false
set_option maxRecDepth 100000
def zog : Ann := { own := [5, 7, 8], live := [(0, ([0, 3, 5, 13, 14, 15], [5]))], n := 44, nils := [], pubs := [] }
def zFc (a0 : List (List Int)) (a1 : List LitD) (R : D → Prop) (n0 : Nat) (v3 : Int) (one4 : Int) : Prop := LP zog Tryz.f100 [1, 1, 1, 0, 1, 0, 0] 0 n0 ⟨[(0, dS a0), (3, .iptr [.sl .lit a1] 0), (5, .ptr 5 0), (13, .sl .lit a1), (14, dI (a1.length : Int)), (15, dI v3)], [(5, .cells [dI one4])]⟩ (blockK 0 (sK zog Tryz.f100 [1, 1, 1, 1] 0 (eK Tryz.f100 R)))
theorem zeu (a0 : List (List Int)) (a1 : List LitD) (R : D → Prop) (n0 : Nat) (v3 : Int) (one4 : Int) : zFc a0 a1 R (n0 + 1) v3 one4 =
 (sel (decide (v3 < (a1.length : Int)))
 (inb v3 a1.length = true ∧
 Call1 Tryz.prog zYe [dS a0, dL (at' .lit a1 v3.toNat)] .int fun l5 =>
 sel (decide (l5 < 0))
 (zFc a0 a1 R n0 (w64 (v3 + 1)) one4)
 (sel (decide (0 ≤ one4))
 (sel (!decide (one4 = ((at' .lit a1 v3.toNat).var)))
 (Call1 Tryz.prog zzb [dS a0] (.list (.list .int)) fun s6 =>
 R (dS s6))
 (zFc a0 a1 R n0 (w64 (v3 + 1)) ((at' .lit a1 v3.toNat).var)))
 (zFc a0 a1 R n0 (w64 (v3 + 1)) ((at' .lit a1 v3.toNat).var))))
 (sel (decide (one4 < 0))
 (Call1 Tryz.prog zI [dS a0] (.list (.list .int)) fun s7 =>
 R (dS s7))
 (Call1 Tryz.prog zu [dS a0, .clo z0e none [.iptr [dI one4] 0, .iptr [.clo zxc none [.iptr [.sl .lit a1] 0, .iptr [dI one4] 0]] 0]] (.list (.list .int)) fun s8 =>
 R (dS s8)))) := by kernel_rfl
theorem zfu (a0 : List (List Int)) (a1 : List LitD) (R : D → Prop) : FD zog Tryz.f100 [dS a0, .sl .lit a1] R =
 (Call1 Tryz.prog zf [dS a0] .bool fun s1 =>
 sel s1
 (Call1 Tryz.prog zzb [dS a0] (.list (.list .int)) fun s2 =>
 R (dS s2))
 (∃ n0, zFc a0 a1 R n0 0 (-1))) := by kernel_rfl
theorem zgu (a0 : List (List Int)) (a1 : List LitD) : SatI zog Tryz.f100 z5b [dS a0, .sl .lit a1] := satD Tryz.func100 (by kernel_rfl) Tryz.ntmps100 rfl
def zxl : Ann := { own := [], live := [], n := 8, nils := [], pubs := [] }
theorem zhu (a0 : Int) (c0 : List LitD) (c1 : Int) (R : D → Prop) : FD zxl Tryz.f143 [dI a0, .iptr [.sl .lit c0] 0, .iptr [dI c1] 0] R =
 (Call1 Tryz.prog zhd [.sl .lit c0, .clo zZe none [.iptr [dI c1] 0, .iptr [dI a0] 0]] .bool fun s1 =>
 R (dB s1)) := by kernel_rfl
theorem ziu (a0 : Int) (c0 : List LitD) (c1 : Int) : SatI zxl Tryz.f143 zxc [dI a0, .iptr [.sl .lit c0] 0, .iptr [dI c1] 0] := satD Tryz.func143 (by kernel_rfl) Tryz.ntmps143 rfl
def zyl : Ann := { own := [], live := [], n := 14, nils := [], pubs := [] }
theorem zju (a0 : LitD) (c0 : Int) (c1 : Int) (R : D → Prop) : FD zyl Tryz.f145 [dL a0, .iptr [dI c0] 0, .iptr [dI c1] 0] R =
 (sel (decide (a0.var = c0))
 (Call1 Tryz.prog zBb [dL a0, dI c1] .bool fun m1 =>
 R (dB m1))
 (R (dB false))) := by kernel_rfl
theorem zku (a0 : LitD) (c0 : Int) (c1 : Int) : SatI zyl Tryz.f145 zZe [dL a0, .iptr [dI c0] 0, .iptr [dI c1] 0] := satD Tryz.func145 (by kernel_rfl) Tryz.ntmps145 rfl
def zzl : Ann := { own := [], live := [], n := 15, nils := [], pubs := [] }
theorem zlu (a0 : Int) (a1 : Int) (c0 : Int) (h1 : FuncId) (hap1 : List D) (R : D → Prop) : FD zzl Tryz.f146 [dI a0, dI a1, .iptr [dI c0] 0, .iptr [.clo h1 (some [.bool]) hap1] 0] R =
 (sel (!decide (a0 = c0))
 (R (dB true))
 (Ent Tryz.prog h1 ∧
 Call1 Tryz.prog h1 ([dI a1] ++ hap1) .bool fun r1 =>
 R (dB r1))) := by kernel_rfl
theorem zmu (a0 : Int) (a1 : Int) (c0 : Int) (h1 : FuncId) (hap1 : List D) : SatI zzl Tryz.f146 z0e [dI a0, dI a1, .iptr [dI c0] 0, .iptr [.clo h1 (some [.bool]) hap1] 0] := satD Tryz.func146 (by kernel_rfl) Tryz.ntmps146 rfl
def zAl : Ann := { own := [], live := [], n := 8, nils := [], pubs := [] }
theorem znu (a0 : List (List Int)) (a1 : List LitD) (R : D → Prop) : FD zAl Tryz.f216 [dS a0, .sl .lit a1] R =
 (Call1 Tryz.prog zu [dS a0, .clo zff none [.iptr [.sl .lit a1] 0]] (.list (.list .int)) fun s1 =>
 R (dS s1)) := by kernel_rfl
theorem zou (a0 : List (List Int)) (a1 : List LitD) : SatI zAl Tryz.f216 zef [dS a0, .sl .lit a1] := satD Tryz.func216 (by kernel_rfl) Tryz.ntmps216 rfl
def zBl : Ann := { own := [], live := [], n := 10, nils := [], pubs := [] }
theorem zpu (a0 : Int) (a1 : Int) (c0 : List LitD) (R : D → Prop) : FD zBl Tryz.f229 [dI a0, dI a1, .iptr [.sl .lit c0] 0] R =
 (Call1 Tryz.prog zhd [.sl .lit c0, .clo zgf none [.iptr [dI a0] 0, .iptr [dI a1] 0]] .bool fun s1 =>
 R (dB (!s1))) := by kernel_rfl
theorem zqu (a0 : Int) (a1 : Int) (c0 : List LitD) : SatI zBl Tryz.f229 zff [dI a0, dI a1, .iptr [.sl .lit c0] 0] := satD Tryz.func229 (by kernel_rfl) Tryz.ntmps229 rfl
def zCl : Ann := { own := [], live := [], n := 14, nils := [], pubs := [] }
theorem zru (a0 : LitD) (c0 : Int) (c1 : Int) (R : D → Prop) : FD zCl Tryz.f230 [dL a0, .iptr [dI c0] 0, .iptr [dI c1] 0] R =
 (sel (decide (a0.var = c0))
 (Call1 Tryz.prog zBb [dL a0, dI c1] .bool fun m1 =>
 R (dB m1))
 (R (dB false))) := by kernel_rfl
theorem zsu (a0 : LitD) (c0 : Int) (c1 : Int) : SatI zCl Tryz.f230 zgf [dL a0, .iptr [dI c0] 0, .iptr [dI c1] 0] := satD Tryz.func230 (by kernel_rfl) Tryz.ntmps230 rfl
end Go.Proofs.YtajnbkhgnppckaaGreatDoor
