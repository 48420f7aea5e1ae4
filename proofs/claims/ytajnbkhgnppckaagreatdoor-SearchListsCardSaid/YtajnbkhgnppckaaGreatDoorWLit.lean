/- What the functions of a package do, as equations of plain propositions: printed by a program that carries the code out on symbols. -/
import Derived.Test.YtajnbkhgnppckaaGreatDoorWEv
namespace Go.Proofs.YtajnbkhgnppckaaGreatDoor
open Go.RowKit
set_option linter.unusedVariables false
set_option maxRecDepth 100000
def zql : Ann := { own := [2], live := [], n := 33, nils := [], pubs := [] }
theorem z1t (a0 : LitD) (R : D → Prop) : FD zql Tryz.f87 [dL a0] R =
 (sel (decide (a0.op = 1))
 (R (.agg [dI a0.var, dI 2, dI (w64 (a0.n + 1))]))
 (sel (decide (a0.op = 2))
 (R (.agg [dI a0.var, dI 1, dI (w64 (a0.n - 1))]))
 (sel (decide (a0.op = 3))
 (R (.agg [dI a0.var, dI 4, dI a0.n]))
 (R (.agg [dI a0.var, dI 3, dI a0.n]))))) := by kernel_rfl
theorem z2t (a0 : LitD) : SatI zql Tryz.f87 zFe [dL a0] := satD Tryz.func87 (by kernel_rfl) Tryz.ntmps87 rfl
def zrl : Ann := { own := [], live := [], n := 8, nils := [], pubs := [] }
theorem z3t (a0 : List (List Int)) (a1 : LitD) (R : D → Prop) : FD zrl Tryz.f124 [dS a0, dL a1] R =
 (Call1 Tryz.prog zu [dS a0, .clo z2e none [.iptr [dI a1.var, dI a1.op, dI a1.n] 0]] (.list (.list .int)) fun s1 =>
 R (dS s1)) := by kernel_rfl
theorem z4t (a0 : List (List Int)) (a1 : LitD) : SatI zrl Tryz.f124 zPe [dS a0, dL a1] := satD Tryz.func124 (by kernel_rfl) Tryz.ntmps124 rfl
def zng : Ann := { own := [], live := [(0, ([0, 3, 5, 12, 13, 14], []))], n := 35, nils := [], pubs := [] }
def zrd (a0 : List (List Int)) (a1 : LitD) (R : D → Prop) (n0 : Nat) (yes1 : Int) (v2 : Int) : Prop := LP zng Tryz.f142 [1, 1, 0, 1, 0, 0] 0 n0 ⟨[(0, dS a0), (3, .iptr [dI a1.var, dI a1.op, dI a1.n] 0), (5, dI yes1), (12, .sl .int (at' (.list .int) a0 a1.var.toNat)), (13, dI ((at' (.list .int) a0 a1.var.toNat).length : Int)), (14, dI v2)], []⟩ (blockK 0 (sK zng Tryz.f142 [1, 1, 1] 0 (eK Tryz.f142 R)))
theorem z5t (a0 : List (List Int)) (a1 : LitD) (R : D → Prop) (n0 : Nat) (yes1 : Int) (v2 : Int) : zrd a0 a1 R (n0 + 1) yes1 v2 =
 (sel (decide (v2 < ((at' (.list .int) a0 a1.var.toNat).length : Int)))
 (inb v2 (at' (.list .int) a0 a1.var.toNat).length = true ∧
 Call1 Tryz.prog zBb [dL a1, dI (at' .int (at' (.list .int) a0 a1.var.toNat) v2.toNat)] .bool fun m3 =>
 sel m3
 (zrd a0 a1 R n0 (w64 (yes1 + 1)) (w64 (v2 + 1)))
 (zrd a0 a1 R n0 yes1 (w64 (v2 + 1))))
 (sel (decide (yes1 = 0))
 (R (dI (-1)))
 (inb a1.var a0.length = true ∧
 sel (decide (yes1 = ((at' (.list .int) a0 a1.var.toNat).length : Int)))
 (R (dI 1))
 (R (dI 0))))) := by kernel_rfl
theorem z6t (a0 : List (List Int)) (a1 : LitD) (R : D → Prop) : FD zng Tryz.f142 [dS a0, dL a1] R =
 (inb a1.var a0.length = true ∧
 ∃ n0, zrd a0 a1 R n0 0 0) := by kernel_rfl
theorem z7t (a0 : List (List Int)) (a1 : LitD) : SatI zng Tryz.f142 zYe [dS a0, dL a1] := satD Tryz.func142 (by kernel_rfl) Tryz.ntmps142 rfl
def zsl : Ann := { own := [], live := [], n := 15, nils := [], pubs := [] }
theorem z8t (a0 : Int) (a1 : Int) (c0 : LitD) (R : D → Prop) : FD zsl Tryz.f161 [dI a0, dI a1, .iptr [dI c0.var, dI c0.op, dI c0.n] 0] R =
 (sel (!decide (a0 = c0.var))
 (R (dB true))
 (Call1 Tryz.prog zBb [dL c0, dI a1] .bool fun m1 =>
 R (dB m1))) := by kernel_rfl
theorem z9t (a0 : Int) (a1 : Int) (c0 : LitD) : SatI zsl Tryz.f161 z2e [dI a0, dI a1, .iptr [dI c0.var, dI c0.op, dI c0.n] 0] := satD Tryz.func161 (by kernel_rfl) Tryz.ntmps161 rfl
end Go.Proofs.YtajnbkhgnppckaaGreatDoor
