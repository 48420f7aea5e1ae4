/- What the functions of a package do, as equations of plain propositions: printed by a program that carries the code out on symbols. -/
import Derived.Test.YtajnbkhgnppckaaGreatDoorWEv
namespace Go.Proofs.YtajnbkhgnppckaaGreatDoor
open Go.RowKit
set_option linter.unusedVariables false
set_option maxRecDepth 100000
def zyk : Ann := { own := [2], live := [], n := 33, nils := [], pubs := [] }
theorem zSs (a0 : LitD) (R : D → Prop) : FD zyk Tryz.f87 [dL a0] R =
 (sel (decide (a0.op = 1))
 (R (.agg [dI a0.var, dI 2, dI (w64 (a0.n + 1))]))
 (sel (decide (a0.op = 2))
 (R (.agg [dI a0.var, dI 1, dI (w64 (a0.n - 1))]))
 (sel (decide (a0.op = 3))
 (R (.agg [dI a0.var, dI 4, dI a0.n]))
 (R (.agg [dI a0.var, dI 3, dI a0.n]))))) := by kernel_rfl
theorem zTs (a0 : LitD) : SatI zyk Tryz.f87 zue [dL a0] := satD Tryz.func87 (by kernel_rfl) Tryz.ntmps87 rfl
def zzk : Ann := { own := [], live := [], n := 8, nils := [], pubs := [] }
theorem zUs (a0 : List (List Int)) (a1 : LitD) (R : D → Prop) : FD zzk Tryz.f124 [dS a0, dL a1] R =
 (Call1 Tryz.prog zC [dS a0, .clo zSe none [.iptr [dI a1.var, dI a1.op, dI a1.n] 0]] (.list (.list .int)) fun s1 =>
 R (dS s1)) := by kernel_rfl
theorem zVs (a0 : List (List Int)) (a1 : LitD) : SatI zzk Tryz.f124 zFe [dS a0, dL a1] := satD Tryz.func124 (by kernel_rfl) Tryz.ntmps124 rfl
def zQf : Ann := { own := [], live := [(0, ([0, 3, 5, 12, 13, 14], []))], n := 35, nils := [], pubs := [] }
def zfd (a0 : List (List Int)) (a1 : LitD) (R : D → Prop) (n0 : Nat) (yes1 : Int) (v2 : Int) : Prop := LP zQf Tryz.f142 [1, 1, 0, 1, 0, 0] 0 n0 ⟨[(0, dS a0), (3, .iptr [dI a1.var, dI a1.op, dI a1.n] 0), (5, dI yes1), (12, .sl .int (at' (.list .int) a0 a1.var.toNat)), (13, dI ((at' (.list .int) a0 a1.var.toNat).length : Int)), (14, dI v2)], []⟩ (blockK 0 (sK zQf Tryz.f142 [1, 1, 1] 0 (eK Tryz.f142 R)))
theorem zWs (a0 : List (List Int)) (a1 : LitD) (R : D → Prop) (n0 : Nat) (yes1 : Int) (v2 : Int) : zfd a0 a1 R (n0 + 1) yes1 v2 =
 (sel (decide (v2 < ((at' (.list .int) a0 a1.var.toNat).length : Int)))
 (inb v2 (at' (.list .int) a0 a1.var.toNat).length = true ∧
 Call1 Tryz.prog zxb [dL a1, dI (at' .int (at' (.list .int) a0 a1.var.toNat) v2.toNat)] .bool fun m3 =>
 sel m3
 (zfd a0 a1 R n0 (w64 (yes1 + 1)) (w64 (v2 + 1)))
 (zfd a0 a1 R n0 yes1 (w64 (v2 + 1))))
 (sel (decide (yes1 = 0))
 (R (dI (-1)))
 (inb a1.var a0.length = true ∧
 sel (decide (yes1 = ((at' (.list .int) a0 a1.var.toNat).length : Int)))
 (R (dI 1))
 (R (dI 0))))) := by kernel_rfl
theorem zXs (a0 : List (List Int)) (a1 : LitD) (R : D → Prop) : FD zQf Tryz.f142 [dS a0, dL a1] R =
 (inb a1.var a0.length = true ∧
 ∃ n0, zfd a0 a1 R n0 0 0) := by kernel_rfl
theorem zYs (a0 : List (List Int)) (a1 : LitD) : SatI zQf Tryz.f142 zOe [dS a0, dL a1] := satD Tryz.func142 (by kernel_rfl) Tryz.ntmps142 rfl
def zAk : Ann := { own := [], live := [], n := 15, nils := [], pubs := [] }
theorem zZs (a0 : Int) (a1 : Int) (c0 : LitD) (R : D → Prop) : FD zAk Tryz.f161 [dI a0, dI a1, .iptr [dI c0.var, dI c0.op, dI c0.n] 0] R =
 (sel (!decide (a0 = c0.var))
 (R (dB true))
 (Call1 Tryz.prog zxb [dL c0, dI a1] .bool fun m1 =>
 R (dB m1))) := by kernel_rfl
theorem z0s (a0 : Int) (a1 : Int) (c0 : LitD) : SatI zAk Tryz.f161 zSe [dI a0, dI a1, .iptr [dI c0.var, dI c0.op, dI c0.n] 0] := satD Tryz.func161 (by kernel_rfl) Tryz.ntmps161 rfl
end Go.Proofs.YtajnbkhgnppckaaGreatDoor
