/- What the functions of a package do, as equations of plain propositions: printed by a program that carries the code out on symbols. -/
import Derived.Test.YtogdmcebojiojaaGreatDoorWEv
import Derived.Test.YtogdmcebojiojaaGreatDoorWCordonref2
namespace Go.Proofs.YtogdmcebojiojaaGreatDoor
open Go.RowKit
set_option linter.unusedVariables false
set_option maxRecDepth 100000
/-! ### cordon/cordonref.SameModel -/
def cordonref_SameModel_A : Ann := { own := [], live := [(0, ([2, 3, 5], [])), (2, ([2, 3, 6], []))], n := 74, nils := [], pubs := [] }
def cordonref_SameModel_I2 (a0 : MdlD) (a1 : MdlD) (R : D → Prop) (n2 : Nat) (v2 : Int) : Prop := LP cordonref_SameModel_A Tryz.f13 [1, 1, 1, 0, 1, 0, 0] 2 n2 ⟨[(2, .iptr [.sl .var a0.vars, .sl .con a0.cons, dI a0.goal, dI a0.var] 0), (3, .iptr [.sl .var a1.vars, .sl .con a1.cons, dI a1.goal, dI a1.var] 0), (6, dI v2)], []⟩ (blockK 2 (sK cordonref_SameModel_A Tryz.f13 [1, 1, 1, 1] 0 (eK Tryz.f13 R)))
def cordonref_SameModel_I0 (a0 : MdlD) (a1 : MdlD) (R : D → Prop) (n0 : Nat) (v1 : Int) : Prop := LP cordonref_SameModel_A Tryz.f13 [1, 1, 0, 1, 0, 0] 0 n0 ⟨[(2, .iptr [.sl .var a0.vars, .sl .con a0.cons, dI a0.goal, dI a0.var] 0), (3, .iptr [.sl .var a1.vars, .sl .con a1.cons, dI a1.goal, dI a1.var] 0), (5, dI v1)], []⟩ (blockK 0 (sK cordonref_SameModel_A Tryz.f13 [1, 1, 1] 0 (eK Tryz.f13 R)))
theorem cordonref_SameModel_I2_eq (a0 : MdlD) (a1 : MdlD) (R : D → Prop) (n2 : Nat) (v2 : Int) : cordonref_SameModel_I2 a0 a1 R (n2 + 1) v2 =
 (sel (decide (v2 < (a0.cons.length : Int)))
 (inb v2 a0.cons.length = true ∧
 inb v2 a1.cons.length = true ∧
 Call1 Tryz.prog f_cordonref_sameCon [dC (at' .con a0.cons v2.toNat), dC (at' .con a1.cons v2.toNat)] .bool fun c3 =>
 sel (!c3)
 (R (dB false))
 (cordonref_SameModel_I2 a0 a1 R n2 (w64 (v2 + 1))))
 (R (dB true))) := by kernel_rfl
theorem cordonref_SameModel_I0_eq (a0 : MdlD) (a1 : MdlD) (R : D → Prop) (n0 : Nat) (v1 : Int) : cordonref_SameModel_I0 a0 a1 R (n0 + 1) v1 =
 (sel (decide (v1 < (a0.vars.length : Int)))
 (inb v1 a0.vars.length = true ∧
 inb v1 a1.vars.length = true ∧
 sel (!decide ((at' .var a0.vars v1.toNat) = (at' .var a1.vars v1.toNat)))
 (R (dB false))
 (cordonref_SameModel_I0 a0 a1 R n0 (w64 (v1 + 1))))
 (∃ n2, cordonref_SameModel_I2 a0 a1 R n2 0)) := by kernel_rfl
theorem cordonref_SameModel_eq (a0 : MdlD) (a1 : MdlD) (R : D → Prop) : FD cordonref_SameModel_A Tryz.f13 [dM a0, dM a1] R =
 (sel (!decide ((a0.vars.length : Int) = (a1.vars.length : Int)))
 (R (dB false))
 (sel (!decide ((a0.cons.length : Int) = (a1.cons.length : Int)))
 (R (dB false))
 (sel (!decide (a0.goal = a1.goal))
 (R (dB false))
 (sel (!decide (a0.var = a1.var))
 (R (dB false))
 (∃ n0, cordonref_SameModel_I0 a0 a1 R n0 0))))) := by kernel_rfl
theorem cordonref_SameModel_sat (a0 : MdlD) (a1 : MdlD) : SatI cordonref_SameModel_A Tryz.f13 f_cordonref_SameModel [dM a0, dM a1] := satD Tryz.func13 (by kernel_rfl) Tryz.ntmps13 rfl
/-! ### cordon/cordonref.CheckModel -/
def cordonref_CheckModel_A : Ann := { own := [5], live := [(0, ([1, 3, 4], [])), (2, ([1, 3, 4, 5, 6], [5])), (4, ([1, 3, 7], []))], n := 114, nils := [], pubs := [] }
def cordonref_CheckModel_I2 (a0 : MdlD) (R : D → Prop) (n0 : Nat) (v1 : Int) (n2 : Nat) (v3 : Int) : Prop := LP cordonref_CheckModel_A Tryz.f15 [1, 1, 1, 1, 0, 1, 0, 0, 1, 0, 0, 1, 1, 0, 1, 0, 0] 2 n2 ⟨[(1, .iptr [.sl .var a0.vars, .sl .con a0.cons, dI a0.goal, dI a0.var] 0), (3, dI (a0.vars.length : Int)), (4, dI v1), (5, .ptr 5 0), (6, dI v3)], [(5, .cells [.str ((at' .var a0.vars v1.toNat).name), dI ((at' .var a0.vars v1.toNat).lo), dI ((at' .var a0.vars v1.toNat).hi)])]⟩ (blockK 2 (sK cordonref_CheckModel_A Tryz.f15 [1, 1, 1, 1, 0, 1, 0, 0, 1, 0, 0, 1, 1, 1] 1 (blockK 1 (sK cordonref_CheckModel_A Tryz.f15 [1, 1, 1, 1, 0, 1, 0, 0, 1, 1] 0 (iK cordonref_CheckModel_A Tryz.f15 [1, 1, 1, 1, 0, 1, 0, 0] 0 n0 (blockK 0 (sK cordonref_CheckModel_A Tryz.f15 [1, 1, 1, 1, 1] 0 (eK Tryz.f15 R))))))))
def cordonref_CheckModel_I4 (a0 : MdlD) (R : D → Prop) (n4 : Nat) (v6 : Int) : Prop := LP cordonref_CheckModel_A Tryz.f15 [1, 1, 1, 1, 1, 0, 1, 0, 0] 4 n4 ⟨[(1, .iptr [.sl .var a0.vars, .sl .con a0.cons, dI a0.goal, dI a0.var] 0), (3, dI (a0.vars.length : Int)), (7, dI v6)], []⟩ (blockK 4 (sK cordonref_CheckModel_A Tryz.f15 [1, 1, 1, 1, 1, 1] 0 (eK Tryz.f15 R)))
def cordonref_CheckModel_I0 (a0 : MdlD) (R : D → Prop) (n0 : Nat) (v1 : Int) : Prop := LP cordonref_CheckModel_A Tryz.f15 [1, 1, 1, 1, 0, 1, 0, 0] 0 n0 ⟨[(1, .iptr [.sl .var a0.vars, .sl .con a0.cons, dI a0.goal, dI a0.var] 0), (3, dI (a0.vars.length : Int)), (4, dI v1)], []⟩ (blockK 0 (sK cordonref_CheckModel_A Tryz.f15 [1, 1, 1, 1, 1] 0 (eK Tryz.f15 R)))
theorem cordonref_CheckModel_I2_eq (a0 : MdlD) (R : D → Prop) (n0 : Nat) (v1 : Int) (n2 : Nat) (v3 : Int) : cordonref_CheckModel_I2 a0 R n0 v1 (n2 + 1) v3 =
 (sel (decide (v3 < v1))
 (inb v3 a0.vars.length = true ∧
 sel (decide (((at' .var a0.vars v3.toNat).name) = ((at' .var a0.vars v1.toNat).name)))
 (R (dI 6))
 (cordonref_CheckModel_I2 a0 R n0 v1 n2 (w64 (v3 + 1))))
 (Call1 Tryz.prog f_cordonref_between [dI ((at' .var a0.vars v1.toNat).lo), dI (-50), dI 50] .bool fun c4 =>
 sel (!c4)
 (R (dI 3))
 (Call1 Tryz.prog f_cordonref_between [dI ((at' .var a0.vars v1.toNat).hi), dI (-50), dI 50] .bool fun c5 =>
 sel (!c5)
 (R (dI 3))
 (sel (decide (((at' .var a0.vars v1.toNat).hi) < ((at' .var a0.vars v1.toNat).lo)))
 (R (dI 3))
 (sel (decide (6 < (w64 ((w64 (((at' .var a0.vars v1.toNat).hi) - ((at' .var a0.vars v1.toNat).lo))) + 1))))
 (R (dI 2))
 (cordonref_CheckModel_I0 a0 R n0 (w64 (v1 + 1)))))))) := by kernel_rfl
theorem cordonref_CheckModel_I4_eq (a0 : MdlD) (R : D → Prop) (n4 : Nat) (v6 : Int) : cordonref_CheckModel_I4 a0 R (n4 + 1) v6 =
 (sel (decide (v6 < (a0.cons.length : Int)))
 (inb v6 a0.cons.length = true ∧
 Call1 Tryz.prog f_cordonref_checkCon [dM a0, dC (at' .con a0.cons v6.toNat)] .int fun c7 =>
 sel (!decide (c7 = 0))
 (R (dI c7))
 (cordonref_CheckModel_I4 a0 R n4 (w64 (v6 + 1))))
 (Call1 Tryz.prog f_cordonref_between [dI a0.goal, dI 0, dI 2] .bool fun c8 =>
 sel (!c8)
 (R (dI 7))
 (sel (decide (a0.goal = 0))
 (sel (!decide (a0.var = 0))
 (R (dI 1))
 (sel (!decide (a0.goal = 0))
 (Call1 Tryz.prog f_cordonref_between [dI a0.var, dI 0, dI (w64 ((a0.vars.length : Int) - 1))] .bool fun c9 =>
 sel (!c9)
 (R (dI 5))
 (R (dI 0)))
 (R (dI 0))))
 (sel (!decide (a0.goal = 0))
 (Call1 Tryz.prog f_cordonref_between [dI a0.var, dI 0, dI (w64 ((a0.vars.length : Int) - 1))] .bool fun c10 =>
 sel (!c10)
 (R (dI 5))
 (R (dI 0)))
 (R (dI 0)))))) := by kernel_rfl
theorem cordonref_CheckModel_I0_eq (a0 : MdlD) (R : D → Prop) (n0 : Nat) (v1 : Int) : cordonref_CheckModel_I0 a0 R (n0 + 1) v1 =
 (sel (decide (v1 < (a0.vars.length : Int)))
 (inb v1 a0.vars.length = true ∧
 Call1 Tryz.prog f_cordonref_IsName [.str ((at' .var a0.vars v1.toNat).name)] .bool fun c2 =>
 sel (!c2)
 (R (dI 1))
 (∃ n2, cordonref_CheckModel_I2 a0 R n0 v1 n2 0))
 (∃ n4, cordonref_CheckModel_I4 a0 R n4 0)) := by kernel_rfl
theorem cordonref_CheckModel_eq (a0 : MdlD) (R : D → Prop) : FD cordonref_CheckModel_A Tryz.f15 [dM a0] R =
 (sel (decide ((a0.vars.length : Int) = 0))
 (R (dI 1))
 (sel (decide (6 < (a0.vars.length : Int)))
 (R (dI 2))
 (sel (decide (8 < (a0.cons.length : Int)))
 (R (dI 2))
 (∃ n0, cordonref_CheckModel_I0 a0 R n0 0)))) := by kernel_rfl
theorem cordonref_CheckModel_sat (a0 : MdlD) : SatI cordonref_CheckModel_A Tryz.f15 f_cordonref_CheckModel [dM a0] := satD Tryz.func15 (by kernel_rfl) Tryz.ntmps15 rfl
/-! ### cordon/cordonref.PrintOf -/
def cordonref_PrintOf_A : Ann := { own := [6, 7, 9, 124, 154], live := [(0, ([1, 3, 4], [])), (2, ([1, 3, 5], [])), (9, ([1, 3, 5, 6, 11], [6])), (5, ([1, 3, 5, 6, 7, 8], [6, 7])), (7, ([1, 3, 5, 6, 9, 10], [6, 9]))], n := 254, nils := [], pubs := [] }
def cordonref_PrintOf_I9 (a0 : MdlD) (R : D → Prop) (n2 : Nat) (v6 : Int) (n9 : Nat) (v10 : ByteArray) (v11 : Int) : Prop := LP cordonref_PrintOf_A Tryz.f16 [1, 1, 1, 0, 1, 0, 0, 1, 0, 0, 1, 1, 1, 0, 1, 0, 0] 9 n9 ⟨[(1, .iptr [.sl .var a0.vars, .sl .con a0.cons, dI a0.goal, dI a0.var] 0), (3, .str v10), (5, dI v6), (6, .ptr 6 0), (11, dI v11)], [(6, .cells [dI ((at' .con a0.cons v6.toNat).kind), .sl .int ((at' .con a0.cons v6.toNat).vars), .sl .int ((at' .con a0.cons v6.toNat).consts), dI ((at' .con a0.cons v6.toNat).n), dS ((at' .con a0.cons v6.toNat).rows), .sl .lit ((at' .con a0.cons v6.toNat).lits)])]⟩ (blockK 9 (sK cordonref_PrintOf_A Tryz.f16 [1, 1, 1, 0, 1, 0, 0, 1, 0, 0, 1, 1, 1, 1] 3 (blockK 3 (sK cordonref_PrintOf_A Tryz.f16 [1, 1, 1, 0, 1, 0, 0, 1, 1] 2 (iK cordonref_PrintOf_A Tryz.f16 [1, 1, 1, 0, 1, 0, 0] 2 n2 (blockK 2 (sK cordonref_PrintOf_A Tryz.f16 [1, 1, 1, 1] 0 (eK Tryz.f16 R))))))))
def cordonref_PrintOf_I9_2 (a0 : MdlD) (R : D → Prop) (n2 : Nat) (v6 : Int) (n9_2 : Nat) (v21 : ByteArray) (v22 : Int) : Prop := LP cordonref_PrintOf_A Tryz.f16 [1, 1, 1, 0, 1, 0, 0, 1, 0, 0, 1, 1, 1, 0, 1, 0, 0] 9 n9_2 ⟨[(1, .iptr [.sl .var a0.vars, .sl .con a0.cons, dI a0.goal, dI a0.var] 0), (3, .str v21), (5, dI v6), (6, .ptr 6 0), (11, dI v22)], [(6, .cells [dI ((at' .con a0.cons v6.toNat).kind), .sl .int ((at' .con a0.cons v6.toNat).vars), .sl .int ((at' .con a0.cons v6.toNat).consts), dI ((at' .con a0.cons v6.toNat).n), dS ((at' .con a0.cons v6.toNat).rows), .sl .lit ((at' .con a0.cons v6.toNat).lits)])]⟩ (blockK 9 (sK cordonref_PrintOf_A Tryz.f16 [1, 1, 1, 0, 1, 0, 0, 1, 0, 0, 1, 1, 1, 1] 3 (blockK 3 (sK cordonref_PrintOf_A Tryz.f16 [1, 1, 1, 0, 1, 0, 0, 1, 1] 2 (iK cordonref_PrintOf_A Tryz.f16 [1, 1, 1, 0, 1, 0, 0] 2 n2 (blockK 2 (sK cordonref_PrintOf_A Tryz.f16 [1, 1, 1, 1] 0 (eK Tryz.f16 R))))))))
def cordonref_PrintOf_I9_3 (a0 : MdlD) (R : D → Prop) (n2 : Nat) (v6 : Int) (n9_3 : Nat) (v32 : ByteArray) (v33 : Int) : Prop := LP cordonref_PrintOf_A Tryz.f16 [1, 1, 1, 0, 1, 0, 0, 1, 0, 0, 1, 1, 1, 0, 1, 0, 0] 9 n9_3 ⟨[(1, .iptr [.sl .var a0.vars, .sl .con a0.cons, dI a0.goal, dI a0.var] 0), (3, .str v32), (5, dI v6), (6, .ptr 6 0), (11, dI v33)], [(6, .cells [dI ((at' .con a0.cons v6.toNat).kind), .sl .int ((at' .con a0.cons v6.toNat).vars), .sl .int ((at' .con a0.cons v6.toNat).consts), dI ((at' .con a0.cons v6.toNat).n), dS ((at' .con a0.cons v6.toNat).rows), .sl .lit ((at' .con a0.cons v6.toNat).lits)])]⟩ (blockK 9 (sK cordonref_PrintOf_A Tryz.f16 [1, 1, 1, 0, 1, 0, 0, 1, 0, 0, 1, 1, 1, 1] 3 (blockK 3 (sK cordonref_PrintOf_A Tryz.f16 [1, 1, 1, 0, 1, 0, 0, 1, 1] 2 (iK cordonref_PrintOf_A Tryz.f16 [1, 1, 1, 0, 1, 0, 0] 2 n2 (blockK 2 (sK cordonref_PrintOf_A Tryz.f16 [1, 1, 1, 1] 0 (eK Tryz.f16 R))))))))
def cordonref_PrintOf_I9_4 (a0 : MdlD) (R : D → Prop) (n2 : Nat) (v6 : Int) (n9_4 : Nat) (v41 : ByteArray) (v42 : Int) : Prop := LP cordonref_PrintOf_A Tryz.f16 [1, 1, 1, 0, 1, 0, 0, 1, 0, 0, 1, 1, 1, 0, 1, 0, 0] 9 n9_4 ⟨[(1, .iptr [.sl .var a0.vars, .sl .con a0.cons, dI a0.goal, dI a0.var] 0), (3, .str v41), (5, dI v6), (6, .ptr 6 0), (11, dI v42)], [(6, .cells [dI ((at' .con a0.cons v6.toNat).kind), .sl .int ((at' .con a0.cons v6.toNat).vars), .sl .int ((at' .con a0.cons v6.toNat).consts), dI ((at' .con a0.cons v6.toNat).n), dS ((at' .con a0.cons v6.toNat).rows), .sl .lit ((at' .con a0.cons v6.toNat).lits)])]⟩ (blockK 9 (sK cordonref_PrintOf_A Tryz.f16 [1, 1, 1, 0, 1, 0, 0, 1, 0, 0, 1, 1, 1, 1] 3 (blockK 3 (sK cordonref_PrintOf_A Tryz.f16 [1, 1, 1, 0, 1, 0, 0, 1, 1] 2 (iK cordonref_PrintOf_A Tryz.f16 [1, 1, 1, 0, 1, 0, 0] 2 n2 (blockK 2 (sK cordonref_PrintOf_A Tryz.f16 [1, 1, 1, 1] 0 (eK Tryz.f16 R))))))))
def cordonref_PrintOf_I9_5 (a0 : MdlD) (R : D → Prop) (n2 : Nat) (v6 : Int) (n9_5 : Nat) (v50 : ByteArray) (v51 : Int) : Prop := LP cordonref_PrintOf_A Tryz.f16 [1, 1, 1, 0, 1, 0, 0, 1, 0, 0, 1, 1, 1, 0, 1, 0, 0] 9 n9_5 ⟨[(1, .iptr [.sl .var a0.vars, .sl .con a0.cons, dI a0.goal, dI a0.var] 0), (3, .str v50), (5, dI v6), (6, .ptr 6 0), (11, dI v51)], [(6, .cells [dI ((at' .con a0.cons v6.toNat).kind), .sl .int ((at' .con a0.cons v6.toNat).vars), .sl .int ((at' .con a0.cons v6.toNat).consts), dI ((at' .con a0.cons v6.toNat).n), dS ((at' .con a0.cons v6.toNat).rows), .sl .lit ((at' .con a0.cons v6.toNat).lits)])]⟩ (blockK 9 (sK cordonref_PrintOf_A Tryz.f16 [1, 1, 1, 0, 1, 0, 0, 1, 0, 0, 1, 1, 1, 1] 3 (blockK 3 (sK cordonref_PrintOf_A Tryz.f16 [1, 1, 1, 0, 1, 0, 0, 1, 1] 2 (iK cordonref_PrintOf_A Tryz.f16 [1, 1, 1, 0, 1, 0, 0] 2 n2 (blockK 2 (sK cordonref_PrintOf_A Tryz.f16 [1, 1, 1, 1] 0 (eK Tryz.f16 R))))))))
def cordonref_PrintOf_I9_6 (a0 : MdlD) (R : D → Prop) (n2 : Nat) (v6 : Int) (n9_6 : Nat) (v63 : ByteArray) (v64 : Int) : Prop := LP cordonref_PrintOf_A Tryz.f16 [1, 1, 1, 0, 1, 0, 0, 1, 0, 0, 1, 1, 1, 0, 1, 0, 0] 9 n9_6 ⟨[(1, .iptr [.sl .var a0.vars, .sl .con a0.cons, dI a0.goal, dI a0.var] 0), (3, .str v63), (5, dI v6), (6, .ptr 6 0), (11, dI v64)], [(6, .cells [dI ((at' .con a0.cons v6.toNat).kind), .sl .int ((at' .con a0.cons v6.toNat).vars), .sl .int ((at' .con a0.cons v6.toNat).consts), dI ((at' .con a0.cons v6.toNat).n), dS ((at' .con a0.cons v6.toNat).rows), .sl .lit ((at' .con a0.cons v6.toNat).lits)])]⟩ (blockK 9 (sK cordonref_PrintOf_A Tryz.f16 [1, 1, 1, 0, 1, 0, 0, 1, 0, 0, 1, 1, 1, 1] 3 (blockK 3 (sK cordonref_PrintOf_A Tryz.f16 [1, 1, 1, 0, 1, 0, 0, 1, 1] 2 (iK cordonref_PrintOf_A Tryz.f16 [1, 1, 1, 0, 1, 0, 0] 2 n2 (blockK 2 (sK cordonref_PrintOf_A Tryz.f16 [1, 1, 1, 1] 0 (eK Tryz.f16 R))))))))
def cordonref_PrintOf_I5 (a0 : MdlD) (R : D → Prop) (n2 : Nat) (v5 : ByteArray) (v6 : Int) (n5 : Nat) (v58 : Int) (l59 : List ByteArray) : Prop := LP cordonref_PrintOf_A Tryz.f16 [1, 1, 1, 0, 1, 0, 0, 1, 0, 0, 1, 1, 0, 1, 0, 1, 1, 1, 1, 1, 1, 1, 0, 1, 0, 1, 0, 0] 5 n5 ⟨[(1, .iptr [.sl .var a0.vars, .sl .con a0.cons, dI a0.goal, dI a0.var] 0), (3, .str (v5 ++ ((⟨#[99, 111, 110, 32]⟩ : ByteArray) ++ (at' .str ([(⟨#[]⟩ : ByteArray), (⟨#[108, 101]⟩ : ByteArray), (⟨#[101, 113]⟩ : ByteArray), (⟨#[110, 101]⟩ : ByteArray), (⟨#[100, 105, 102, 102, 101, 114]⟩ : ByteArray), (⟨#[101, 108, 101, 109, 101, 110, 116]⟩ : ByteArray), (⟨#[116, 97, 98, 108, 101]⟩ : ByteArray), (⟨#[116, 105, 109, 101, 115]⟩ : ByteArray), (⟨#[109, 97, 120]⟩ : ByteArray), (⟨#[99, 108, 97, 117, 115, 101]⟩ : ByteArray), (⟨#[105, 102, 102]⟩ : ByteArray)]) (((at' .con a0.cons v6.toNat).kind).toNat))))), (5, dI v6), (6, .ptr 6 0), (7, .own 7), (8, dI v58)], [(6, .cells [dI ((at' .con a0.cons v6.toNat).kind), .sl .int ((at' .con a0.cons v6.toNat).vars), .sl .int ((at' .con a0.cons v6.toNat).consts), dI ((at' .con a0.cons v6.toNat).n), dS ((at' .con a0.cons v6.toNat).rows), .sl .lit ((at' .con a0.cons v6.toNat).lits)]), (7, .row 9 .str l59)]⟩ (blockK 5 (sK cordonref_PrintOf_A Tryz.f16 [1, 1, 1, 0, 1, 0, 0, 1, 0, 0, 1, 1, 0, 1, 0, 1, 1, 1, 1, 1, 1, 1, 0, 1, 1] 4 (blockK 4 (sK cordonref_PrintOf_A Tryz.f16 [1, 1, 1, 0, 1, 0, 0, 1, 0, 0, 1, 1, 1] 3 (blockK 3 (sK cordonref_PrintOf_A Tryz.f16 [1, 1, 1, 0, 1, 0, 0, 1, 1] 2 (iK cordonref_PrintOf_A Tryz.f16 [1, 1, 1, 0, 1, 0, 0] 2 n2 (blockK 2 (sK cordonref_PrintOf_A Tryz.f16 [1, 1, 1, 1] 0 (eK Tryz.f16 R))))))))))
def cordonref_PrintOf_I9_7 (a0 : MdlD) (R : D → Prop) (n2 : Nat) (v6 : Int) (n9_7 : Nat) (v75 : ByteArray) (v76 : Int) : Prop := LP cordonref_PrintOf_A Tryz.f16 [1, 1, 1, 0, 1, 0, 0, 1, 0, 0, 1, 1, 1, 0, 1, 0, 0] 9 n9_7 ⟨[(1, .iptr [.sl .var a0.vars, .sl .con a0.cons, dI a0.goal, dI a0.var] 0), (3, .str v75), (5, dI v6), (6, .ptr 6 0), (11, dI v76)], [(6, .cells [dI ((at' .con a0.cons v6.toNat).kind), .sl .int ((at' .con a0.cons v6.toNat).vars), .sl .int ((at' .con a0.cons v6.toNat).consts), dI ((at' .con a0.cons v6.toNat).n), dS ((at' .con a0.cons v6.toNat).rows), .sl .lit ((at' .con a0.cons v6.toNat).lits)])]⟩ (blockK 9 (sK cordonref_PrintOf_A Tryz.f16 [1, 1, 1, 0, 1, 0, 0, 1, 0, 0, 1, 1, 1, 1] 3 (blockK 3 (sK cordonref_PrintOf_A Tryz.f16 [1, 1, 1, 0, 1, 0, 0, 1, 1] 2 (iK cordonref_PrintOf_A Tryz.f16 [1, 1, 1, 0, 1, 0, 0] 2 n2 (blockK 2 (sK cordonref_PrintOf_A Tryz.f16 [1, 1, 1, 1] 0 (eK Tryz.f16 R))))))))
def cordonref_PrintOf_I7 (a0 : MdlD) (R : D → Prop) (n2 : Nat) (v5 : ByteArray) (v6 : Int) (n7 : Nat) (v71 : Int) (l72 : List ByteArray) : Prop := LP cordonref_PrintOf_A Tryz.f16 [1, 1, 1, 0, 1, 0, 0, 1, 0, 0, 1, 1, 0, 1, 0, 1, 1, 1, 1, 1, 1, 1, 1, 1, 0, 1, 0, 1, 0, 0] 7 n7 ⟨[(1, .iptr [.sl .var a0.vars, .sl .con a0.cons, dI a0.goal, dI a0.var] 0), (3, .str (v5 ++ ((⟨#[99, 111, 110, 32]⟩ : ByteArray) ++ (at' .str ([(⟨#[]⟩ : ByteArray), (⟨#[108, 101]⟩ : ByteArray), (⟨#[101, 113]⟩ : ByteArray), (⟨#[110, 101]⟩ : ByteArray), (⟨#[100, 105, 102, 102, 101, 114]⟩ : ByteArray), (⟨#[101, 108, 101, 109, 101, 110, 116]⟩ : ByteArray), (⟨#[116, 97, 98, 108, 101]⟩ : ByteArray), (⟨#[116, 105, 109, 101, 115]⟩ : ByteArray), (⟨#[109, 97, 120]⟩ : ByteArray), (⟨#[99, 108, 97, 117, 115, 101]⟩ : ByteArray), (⟨#[105, 102, 102]⟩ : ByteArray)]) (((at' .con a0.cons v6.toNat).kind).toNat))))), (5, dI v6), (6, .ptr 6 0), (9, .own 9), (10, dI v71)], [(6, .cells [dI ((at' .con a0.cons v6.toNat).kind), .sl .int ((at' .con a0.cons v6.toNat).vars), .sl .int ((at' .con a0.cons v6.toNat).consts), dI ((at' .con a0.cons v6.toNat).n), dS ((at' .con a0.cons v6.toNat).rows), .sl .lit ((at' .con a0.cons v6.toNat).lits)]), (9, .row 9 .str l72)]⟩ (blockK 7 (sK cordonref_PrintOf_A Tryz.f16 [1, 1, 1, 0, 1, 0, 0, 1, 0, 0, 1, 1, 0, 1, 0, 1, 1, 1, 1, 1, 1, 1, 1, 1, 0, 1, 1] 4 (blockK 4 (sK cordonref_PrintOf_A Tryz.f16 [1, 1, 1, 0, 1, 0, 0, 1, 0, 0, 1, 1, 1] 3 (blockK 3 (sK cordonref_PrintOf_A Tryz.f16 [1, 1, 1, 0, 1, 0, 0, 1, 1] 2 (iK cordonref_PrintOf_A Tryz.f16 [1, 1, 1, 0, 1, 0, 0] 2 n2 (blockK 2 (sK cordonref_PrintOf_A Tryz.f16 [1, 1, 1, 1] 0 (eK Tryz.f16 R))))))))))
def cordonref_PrintOf_I9_8 (a0 : MdlD) (R : D → Prop) (n2 : Nat) (v6 : Int) (n9_8 : Nat) (v83 : ByteArray) (v84 : Int) : Prop := LP cordonref_PrintOf_A Tryz.f16 [1, 1, 1, 0, 1, 0, 0, 1, 0, 0, 1, 1, 1, 0, 1, 0, 0] 9 n9_8 ⟨[(1, .iptr [.sl .var a0.vars, .sl .con a0.cons, dI a0.goal, dI a0.var] 0), (3, .str v83), (5, dI v6), (6, .ptr 6 0), (11, dI v84)], [(6, .cells [dI ((at' .con a0.cons v6.toNat).kind), .sl .int ((at' .con a0.cons v6.toNat).vars), .sl .int ((at' .con a0.cons v6.toNat).consts), dI ((at' .con a0.cons v6.toNat).n), dS ((at' .con a0.cons v6.toNat).rows), .sl .lit ((at' .con a0.cons v6.toNat).lits)])]⟩ (blockK 9 (sK cordonref_PrintOf_A Tryz.f16 [1, 1, 1, 0, 1, 0, 0, 1, 0, 0, 1, 1, 1, 1] 3 (blockK 3 (sK cordonref_PrintOf_A Tryz.f16 [1, 1, 1, 0, 1, 0, 0, 1, 1] 2 (iK cordonref_PrintOf_A Tryz.f16 [1, 1, 1, 0, 1, 0, 0] 2 n2 (blockK 2 (sK cordonref_PrintOf_A Tryz.f16 [1, 1, 1, 1] 0 (eK Tryz.f16 R))))))))
def cordonref_PrintOf_I2 (a0 : MdlD) (R : D → Prop) (n2 : Nat) (v5 : ByteArray) (v6 : Int) : Prop := LP cordonref_PrintOf_A Tryz.f16 [1, 1, 1, 0, 1, 0, 0] 2 n2 ⟨[(1, .iptr [.sl .var a0.vars, .sl .con a0.cons, dI a0.goal, dI a0.var] 0), (3, .str v5), (5, dI v6)], []⟩ (blockK 2 (sK cordonref_PrintOf_A Tryz.f16 [1, 1, 1, 1] 0 (eK Tryz.f16 R)))
def cordonref_PrintOf_I0 (a0 : MdlD) (R : D → Prop) (n0 : Nat) (v1 : ByteArray) (v2 : Int) : Prop := LP cordonref_PrintOf_A Tryz.f16 [1, 1, 0, 1, 0, 0] 0 n0 ⟨[(1, .iptr [.sl .var a0.vars, .sl .con a0.cons, dI a0.goal, dI a0.var] 0), (3, .str v1), (4, dI v2)], []⟩ (blockK 0 (sK cordonref_PrintOf_A Tryz.f16 [1, 1, 1] 0 (eK Tryz.f16 R)))
theorem cordonref_PrintOf_I9_eq (a0 : MdlD) (R : D → Prop) (n2 : Nat) (v6 : Int) (n9 : Nat) (v10 : ByteArray) (v11 : Int) : cordonref_PrintOf_I9 a0 R n2 v6 (n9 + 1) v10 v11 =
 (sel (decide (v11 < (((at' .con a0.cons v6.toNat).vars).length : Int)))
 (sel (decide (((at' .con a0.cons v6.toNat).kind) = 5))
 (inb v11 ((at' .con a0.cons v6.toNat).vars).length = true ∧
 inb (at' .int ((at' .con a0.cons v6.toNat).vars) v11.toNat) a0.vars.length = true ∧
 (⟨#[32]⟩ : ByteArray).size + ((at' .var a0.vars ((at' .int ((at' .con a0.cons v6.toNat).vars) v11.toNat).toNat)).name).size ≤ 140737488355328 ∧
 v10.size + ((⟨#[32]⟩ : ByteArray) ++ ((at' .var a0.vars ((at' .int ((at' .con a0.cons v6.toNat).vars) v11.toNat).toNat)).name)).size ≤ 140737488355328 ∧
 cordonref_PrintOf_I9 a0 R n2 v6 n9 (v10 ++ ((⟨#[32]⟩ : ByteArray) ++ ((at' .var a0.vars ((at' .int ((at' .con a0.cons v6.toNat).vars) v11.toNat).toNat)).name))) (w64 (v11 + 1)))
 (sel (decide (((at' .con a0.cons v6.toNat).kind) = 7))
 (inb v11 ((at' .con a0.cons v6.toNat).vars).length = true ∧
 inb (at' .int ((at' .con a0.cons v6.toNat).vars) v11.toNat) a0.vars.length = true ∧
 (⟨#[32]⟩ : ByteArray).size + ((at' .var a0.vars ((at' .int ((at' .con a0.cons v6.toNat).vars) v11.toNat).toNat)).name).size ≤ 140737488355328 ∧
 v10.size + ((⟨#[32]⟩ : ByteArray) ++ ((at' .var a0.vars ((at' .int ((at' .con a0.cons v6.toNat).vars) v11.toNat).toNat)).name)).size ≤ 140737488355328 ∧
 cordonref_PrintOf_I9 a0 R n2 v6 n9 (v10 ++ ((⟨#[32]⟩ : ByteArray) ++ ((at' .var a0.vars ((at' .int ((at' .con a0.cons v6.toNat).vars) v11.toNat).toNat)).name))) (w64 (v11 + 1)))
 (sel (decide (((at' .con a0.cons v6.toNat).kind) = 10))
 (inb v11 ((at' .con a0.cons v6.toNat).vars).length = true ∧
 inb (at' .int ((at' .con a0.cons v6.toNat).vars) v11.toNat) a0.vars.length = true ∧
 (⟨#[32]⟩ : ByteArray).size + ((at' .var a0.vars ((at' .int ((at' .con a0.cons v6.toNat).vars) v11.toNat).toNat)).name).size ≤ 140737488355328 ∧
 v10.size + ((⟨#[32]⟩ : ByteArray) ++ ((at' .var a0.vars ((at' .int ((at' .con a0.cons v6.toNat).vars) v11.toNat).toNat)).name)).size ≤ 140737488355328 ∧
 cordonref_PrintOf_I9 a0 R n2 v6 n9 (v10 ++ ((⟨#[32]⟩ : ByteArray) ++ ((at' .var a0.vars ((at' .int ((at' .con a0.cons v6.toNat).vars) v11.toNat).toNat)).name))) (w64 (v11 + 1)))
 (sel (decide (((at' .con a0.cons v6.toNat).kind) = 8))
 (inb 0 ((at' .con a0.cons v6.toNat).vars).length = true ∧
 inb (at' .int ((at' .con a0.cons v6.toNat).vars) 0) a0.vars.length = true ∧
 (⟨#[32]⟩ : ByteArray).size + ((at' .var a0.vars ((at' .int ((at' .con a0.cons v6.toNat).vars) 0).toNat)).name).size ≤ 140737488355328 ∧
 ((⟨#[32]⟩ : ByteArray) ++ ((at' .var a0.vars ((at' .int ((at' .con a0.cons v6.toNat).vars) 0).toNat)).name)).size + (⟨#[32]⟩ : ByteArray).size ≤ 140737488355328 ∧
 inSl 1 (((at' .con a0.cons v6.toNat).vars).length : Int) ((at' .con a0.cons v6.toNat).vars).length = true ∧
 Call1 Tryz.prog f_cordonref_namesText [dM a0, .sl .int ((((at' .con a0.cons v6.toNat).vars).take (((at' .con a0.cons v6.toNat).vars).length : Int).toNat).drop 1)] .str fun c12 =>
 (((⟨#[32]⟩ : ByteArray) ++ ((at' .var a0.vars ((at' .int ((at' .con a0.cons v6.toNat).vars) 0).toNat)).name)) ++ (⟨#[32]⟩ : ByteArray)).size + c12.size ≤ 140737488355328 ∧
 v10.size + ((((⟨#[32]⟩ : ByteArray) ++ ((at' .var a0.vars ((at' .int ((at' .con a0.cons v6.toNat).vars) 0).toNat)).name)) ++ (⟨#[32]⟩ : ByteArray)) ++ c12).size ≤ 140737488355328 ∧
 sel (decide (((at' .con a0.cons v6.toNat).kind) = 10))
 (inb 0 ((at' .con a0.cons v6.toNat).lits).length = true ∧
 Call1 Tryz.prog f_cordonref_litText [dM a0, dL (at' .lit ((at' .con a0.cons v6.toNat).lits) 0)] .str fun c13 =>
 (⟨#[32]⟩ : ByteArray).size + c13.size ≤ 140737488355328 ∧
 (v10 ++ ((((⟨#[32]⟩ : ByteArray) ++ ((at' .var a0.vars ((at' .int ((at' .con a0.cons v6.toNat).vars) 0).toNat)).name)) ++ (⟨#[32]⟩ : ByteArray)) ++ c12)).size + ((⟨#[32]⟩ : ByteArray) ++ c13).size ≤ 140737488355328 ∧
 ((v10 ++ ((((⟨#[32]⟩ : ByteArray) ++ ((at' .var a0.vars ((at' .int ((at' .con a0.cons v6.toNat).vars) 0).toNat)).name)) ++ (⟨#[32]⟩ : ByteArray)) ++ c12)) ++ ((⟨#[32]⟩ : ByteArray) ++ c13)).size + (⟨#[59, 10]⟩ : ByteArray).size ≤ 140737488355328 ∧
 cordonref_PrintOf_I2 a0 R n2 (((v10 ++ ((((⟨#[32]⟩ : ByteArray) ++ ((at' .var a0.vars ((at' .int ((at' .con a0.cons v6.toNat).vars) 0).toNat)).name)) ++ (⟨#[32]⟩ : ByteArray)) ++ c12)) ++ ((⟨#[32]⟩ : ByteArray) ++ c13)) ++ (⟨#[59, 10]⟩ : ByteArray)) (w64 (v6 + 1)))
 ((v10 ++ ((((⟨#[32]⟩ : ByteArray) ++ ((at' .var a0.vars ((at' .int ((at' .con a0.cons v6.toNat).vars) 0).toNat)).name)) ++ (⟨#[32]⟩ : ByteArray)) ++ c12)).size + (⟨#[59, 10]⟩ : ByteArray).size ≤ 140737488355328 ∧
 cordonref_PrintOf_I2 a0 R n2 ((v10 ++ ((((⟨#[32]⟩ : ByteArray) ++ ((at' .var a0.vars ((at' .int ((at' .con a0.cons v6.toNat).vars) 0).toNat)).name)) ++ (⟨#[32]⟩ : ByteArray)) ++ c12)) ++ (⟨#[59, 10]⟩ : ByteArray)) (w64 (v6 + 1))))
 (sel (decide (((at' .con a0.cons v6.toNat).kind) = 10))
 (inb 0 ((at' .con a0.cons v6.toNat).lits).length = true ∧
 Call1 Tryz.prog f_cordonref_litText [dM a0, dL (at' .lit ((at' .con a0.cons v6.toNat).lits) 0)] .str fun c14 =>
 (⟨#[32]⟩ : ByteArray).size + c14.size ≤ 140737488355328 ∧
 v10.size + ((⟨#[32]⟩ : ByteArray) ++ c14).size ≤ 140737488355328 ∧
 (v10 ++ ((⟨#[32]⟩ : ByteArray) ++ c14)).size + (⟨#[59, 10]⟩ : ByteArray).size ≤ 140737488355328 ∧
 cordonref_PrintOf_I2 a0 R n2 ((v10 ++ ((⟨#[32]⟩ : ByteArray) ++ c14)) ++ (⟨#[59, 10]⟩ : ByteArray)) (w64 (v6 + 1)))
 (v10.size + (⟨#[59, 10]⟩ : ByteArray).size ≤ 140737488355328 ∧
 cordonref_PrintOf_I2 a0 R n2 (v10 ++ (⟨#[59, 10]⟩ : ByteArray)) (w64 (v6 + 1))))))))
 (sel (decide (((at' .con a0.cons v6.toNat).kind) = 8))
 (inb 0 ((at' .con a0.cons v6.toNat).vars).length = true ∧
 inb (at' .int ((at' .con a0.cons v6.toNat).vars) 0) a0.vars.length = true ∧
 (⟨#[32]⟩ : ByteArray).size + ((at' .var a0.vars ((at' .int ((at' .con a0.cons v6.toNat).vars) 0).toNat)).name).size ≤ 140737488355328 ∧
 ((⟨#[32]⟩ : ByteArray) ++ ((at' .var a0.vars ((at' .int ((at' .con a0.cons v6.toNat).vars) 0).toNat)).name)).size + (⟨#[32]⟩ : ByteArray).size ≤ 140737488355328 ∧
 inSl 1 (((at' .con a0.cons v6.toNat).vars).length : Int) ((at' .con a0.cons v6.toNat).vars).length = true ∧
 Call1 Tryz.prog f_cordonref_namesText [dM a0, .sl .int ((((at' .con a0.cons v6.toNat).vars).take (((at' .con a0.cons v6.toNat).vars).length : Int).toNat).drop 1)] .str fun c15 =>
 (((⟨#[32]⟩ : ByteArray) ++ ((at' .var a0.vars ((at' .int ((at' .con a0.cons v6.toNat).vars) 0).toNat)).name)) ++ (⟨#[32]⟩ : ByteArray)).size + c15.size ≤ 140737488355328 ∧
 v10.size + ((((⟨#[32]⟩ : ByteArray) ++ ((at' .var a0.vars ((at' .int ((at' .con a0.cons v6.toNat).vars) 0).toNat)).name)) ++ (⟨#[32]⟩ : ByteArray)) ++ c15).size ≤ 140737488355328 ∧
 sel (decide (((at' .con a0.cons v6.toNat).kind) = 10))
 (inb 0 ((at' .con a0.cons v6.toNat).lits).length = true ∧
 Call1 Tryz.prog f_cordonref_litText [dM a0, dL (at' .lit ((at' .con a0.cons v6.toNat).lits) 0)] .str fun c16 =>
 (⟨#[32]⟩ : ByteArray).size + c16.size ≤ 140737488355328 ∧
 (v10 ++ ((((⟨#[32]⟩ : ByteArray) ++ ((at' .var a0.vars ((at' .int ((at' .con a0.cons v6.toNat).vars) 0).toNat)).name)) ++ (⟨#[32]⟩ : ByteArray)) ++ c15)).size + ((⟨#[32]⟩ : ByteArray) ++ c16).size ≤ 140737488355328 ∧
 ((v10 ++ ((((⟨#[32]⟩ : ByteArray) ++ ((at' .var a0.vars ((at' .int ((at' .con a0.cons v6.toNat).vars) 0).toNat)).name)) ++ (⟨#[32]⟩ : ByteArray)) ++ c15)) ++ ((⟨#[32]⟩ : ByteArray) ++ c16)).size + (⟨#[59, 10]⟩ : ByteArray).size ≤ 140737488355328 ∧
 cordonref_PrintOf_I2 a0 R n2 (((v10 ++ ((((⟨#[32]⟩ : ByteArray) ++ ((at' .var a0.vars ((at' .int ((at' .con a0.cons v6.toNat).vars) 0).toNat)).name)) ++ (⟨#[32]⟩ : ByteArray)) ++ c15)) ++ ((⟨#[32]⟩ : ByteArray) ++ c16)) ++ (⟨#[59, 10]⟩ : ByteArray)) (w64 (v6 + 1)))
 ((v10 ++ ((((⟨#[32]⟩ : ByteArray) ++ ((at' .var a0.vars ((at' .int ((at' .con a0.cons v6.toNat).vars) 0).toNat)).name)) ++ (⟨#[32]⟩ : ByteArray)) ++ c15)).size + (⟨#[59, 10]⟩ : ByteArray).size ≤ 140737488355328 ∧
 cordonref_PrintOf_I2 a0 R n2 ((v10 ++ ((((⟨#[32]⟩ : ByteArray) ++ ((at' .var a0.vars ((at' .int ((at' .con a0.cons v6.toNat).vars) 0).toNat)).name)) ++ (⟨#[32]⟩ : ByteArray)) ++ c15)) ++ (⟨#[59, 10]⟩ : ByteArray)) (w64 (v6 + 1))))
 (sel (decide (((at' .con a0.cons v6.toNat).kind) = 10))
 (inb 0 ((at' .con a0.cons v6.toNat).lits).length = true ∧
 Call1 Tryz.prog f_cordonref_litText [dM a0, dL (at' .lit ((at' .con a0.cons v6.toNat).lits) 0)] .str fun c17 =>
 (⟨#[32]⟩ : ByteArray).size + c17.size ≤ 140737488355328 ∧
 v10.size + ((⟨#[32]⟩ : ByteArray) ++ c17).size ≤ 140737488355328 ∧
 (v10 ++ ((⟨#[32]⟩ : ByteArray) ++ c17)).size + (⟨#[59, 10]⟩ : ByteArray).size ≤ 140737488355328 ∧
 cordonref_PrintOf_I2 a0 R n2 ((v10 ++ ((⟨#[32]⟩ : ByteArray) ++ c17)) ++ (⟨#[59, 10]⟩ : ByteArray)) (w64 (v6 + 1)))
 (v10.size + (⟨#[59, 10]⟩ : ByteArray).size ≤ 140737488355328 ∧
 cordonref_PrintOf_I2 a0 R n2 (v10 ++ (⟨#[59, 10]⟩ : ByteArray)) (w64 (v6 + 1)))))) := by kernel_rfl
theorem cordonref_PrintOf_I9_2_eq (a0 : MdlD) (R : D → Prop) (n2 : Nat) (v6 : Int) (n9_2 : Nat) (v21 : ByteArray) (v22 : Int) : cordonref_PrintOf_I9_2 a0 R n2 v6 (n9_2 + 1) v21 v22 =
 (sel (decide (v22 < (((at' .con a0.cons v6.toNat).vars).length : Int)))
 (sel (decide (((at' .con a0.cons v6.toNat).kind) = 5))
 (inb v22 ((at' .con a0.cons v6.toNat).vars).length = true ∧
 inb (at' .int ((at' .con a0.cons v6.toNat).vars) v22.toNat) a0.vars.length = true ∧
 (⟨#[32]⟩ : ByteArray).size + ((at' .var a0.vars ((at' .int ((at' .con a0.cons v6.toNat).vars) v22.toNat).toNat)).name).size ≤ 140737488355328 ∧
 v21.size + ((⟨#[32]⟩ : ByteArray) ++ ((at' .var a0.vars ((at' .int ((at' .con a0.cons v6.toNat).vars) v22.toNat).toNat)).name)).size ≤ 140737488355328 ∧
 cordonref_PrintOf_I9_2 a0 R n2 v6 n9_2 (v21 ++ ((⟨#[32]⟩ : ByteArray) ++ ((at' .var a0.vars ((at' .int ((at' .con a0.cons v6.toNat).vars) v22.toNat).toNat)).name))) (w64 (v22 + 1)))
 (sel (decide (((at' .con a0.cons v6.toNat).kind) = 7))
 (inb v22 ((at' .con a0.cons v6.toNat).vars).length = true ∧
 inb (at' .int ((at' .con a0.cons v6.toNat).vars) v22.toNat) a0.vars.length = true ∧
 (⟨#[32]⟩ : ByteArray).size + ((at' .var a0.vars ((at' .int ((at' .con a0.cons v6.toNat).vars) v22.toNat).toNat)).name).size ≤ 140737488355328 ∧
 v21.size + ((⟨#[32]⟩ : ByteArray) ++ ((at' .var a0.vars ((at' .int ((at' .con a0.cons v6.toNat).vars) v22.toNat).toNat)).name)).size ≤ 140737488355328 ∧
 cordonref_PrintOf_I9_2 a0 R n2 v6 n9_2 (v21 ++ ((⟨#[32]⟩ : ByteArray) ++ ((at' .var a0.vars ((at' .int ((at' .con a0.cons v6.toNat).vars) v22.toNat).toNat)).name))) (w64 (v22 + 1)))
 (sel (decide (((at' .con a0.cons v6.toNat).kind) = 10))
 (inb v22 ((at' .con a0.cons v6.toNat).vars).length = true ∧
 inb (at' .int ((at' .con a0.cons v6.toNat).vars) v22.toNat) a0.vars.length = true ∧
 (⟨#[32]⟩ : ByteArray).size + ((at' .var a0.vars ((at' .int ((at' .con a0.cons v6.toNat).vars) v22.toNat).toNat)).name).size ≤ 140737488355328 ∧
 v21.size + ((⟨#[32]⟩ : ByteArray) ++ ((at' .var a0.vars ((at' .int ((at' .con a0.cons v6.toNat).vars) v22.toNat).toNat)).name)).size ≤ 140737488355328 ∧
 cordonref_PrintOf_I9_2 a0 R n2 v6 n9_2 (v21 ++ ((⟨#[32]⟩ : ByteArray) ++ ((at' .var a0.vars ((at' .int ((at' .con a0.cons v6.toNat).vars) v22.toNat).toNat)).name))) (w64 (v22 + 1)))
 (sel (decide (((at' .con a0.cons v6.toNat).kind) = 8))
 (inb 0 ((at' .con a0.cons v6.toNat).vars).length = true ∧
 inb (at' .int ((at' .con a0.cons v6.toNat).vars) 0) a0.vars.length = true ∧
 (⟨#[32]⟩ : ByteArray).size + ((at' .var a0.vars ((at' .int ((at' .con a0.cons v6.toNat).vars) 0).toNat)).name).size ≤ 140737488355328 ∧
 ((⟨#[32]⟩ : ByteArray) ++ ((at' .var a0.vars ((at' .int ((at' .con a0.cons v6.toNat).vars) 0).toNat)).name)).size + (⟨#[32]⟩ : ByteArray).size ≤ 140737488355328 ∧
 inSl 1 (((at' .con a0.cons v6.toNat).vars).length : Int) ((at' .con a0.cons v6.toNat).vars).length = true ∧
 Call1 Tryz.prog f_cordonref_namesText [dM a0, .sl .int ((((at' .con a0.cons v6.toNat).vars).take (((at' .con a0.cons v6.toNat).vars).length : Int).toNat).drop 1)] .str fun c23 =>
 (((⟨#[32]⟩ : ByteArray) ++ ((at' .var a0.vars ((at' .int ((at' .con a0.cons v6.toNat).vars) 0).toNat)).name)) ++ (⟨#[32]⟩ : ByteArray)).size + c23.size ≤ 140737488355328 ∧
 v21.size + ((((⟨#[32]⟩ : ByteArray) ++ ((at' .var a0.vars ((at' .int ((at' .con a0.cons v6.toNat).vars) 0).toNat)).name)) ++ (⟨#[32]⟩ : ByteArray)) ++ c23).size ≤ 140737488355328 ∧
 sel (decide (((at' .con a0.cons v6.toNat).kind) = 10))
 (inb 0 ((at' .con a0.cons v6.toNat).lits).length = true ∧
 Call1 Tryz.prog f_cordonref_litText [dM a0, dL (at' .lit ((at' .con a0.cons v6.toNat).lits) 0)] .str fun c24 =>
 (⟨#[32]⟩ : ByteArray).size + c24.size ≤ 140737488355328 ∧
 (v21 ++ ((((⟨#[32]⟩ : ByteArray) ++ ((at' .var a0.vars ((at' .int ((at' .con a0.cons v6.toNat).vars) 0).toNat)).name)) ++ (⟨#[32]⟩ : ByteArray)) ++ c23)).size + ((⟨#[32]⟩ : ByteArray) ++ c24).size ≤ 140737488355328 ∧
 ((v21 ++ ((((⟨#[32]⟩ : ByteArray) ++ ((at' .var a0.vars ((at' .int ((at' .con a0.cons v6.toNat).vars) 0).toNat)).name)) ++ (⟨#[32]⟩ : ByteArray)) ++ c23)) ++ ((⟨#[32]⟩ : ByteArray) ++ c24)).size + (⟨#[59, 10]⟩ : ByteArray).size ≤ 140737488355328 ∧
 cordonref_PrintOf_I2 a0 R n2 (((v21 ++ ((((⟨#[32]⟩ : ByteArray) ++ ((at' .var a0.vars ((at' .int ((at' .con a0.cons v6.toNat).vars) 0).toNat)).name)) ++ (⟨#[32]⟩ : ByteArray)) ++ c23)) ++ ((⟨#[32]⟩ : ByteArray) ++ c24)) ++ (⟨#[59, 10]⟩ : ByteArray)) (w64 (v6 + 1)))
 ((v21 ++ ((((⟨#[32]⟩ : ByteArray) ++ ((at' .var a0.vars ((at' .int ((at' .con a0.cons v6.toNat).vars) 0).toNat)).name)) ++ (⟨#[32]⟩ : ByteArray)) ++ c23)).size + (⟨#[59, 10]⟩ : ByteArray).size ≤ 140737488355328 ∧
 cordonref_PrintOf_I2 a0 R n2 ((v21 ++ ((((⟨#[32]⟩ : ByteArray) ++ ((at' .var a0.vars ((at' .int ((at' .con a0.cons v6.toNat).vars) 0).toNat)).name)) ++ (⟨#[32]⟩ : ByteArray)) ++ c23)) ++ (⟨#[59, 10]⟩ : ByteArray)) (w64 (v6 + 1))))
 (sel (decide (((at' .con a0.cons v6.toNat).kind) = 10))
 (inb 0 ((at' .con a0.cons v6.toNat).lits).length = true ∧
 Call1 Tryz.prog f_cordonref_litText [dM a0, dL (at' .lit ((at' .con a0.cons v6.toNat).lits) 0)] .str fun c25 =>
 (⟨#[32]⟩ : ByteArray).size + c25.size ≤ 140737488355328 ∧
 v21.size + ((⟨#[32]⟩ : ByteArray) ++ c25).size ≤ 140737488355328 ∧
 (v21 ++ ((⟨#[32]⟩ : ByteArray) ++ c25)).size + (⟨#[59, 10]⟩ : ByteArray).size ≤ 140737488355328 ∧
 cordonref_PrintOf_I2 a0 R n2 ((v21 ++ ((⟨#[32]⟩ : ByteArray) ++ c25)) ++ (⟨#[59, 10]⟩ : ByteArray)) (w64 (v6 + 1)))
 (v21.size + (⟨#[59, 10]⟩ : ByteArray).size ≤ 140737488355328 ∧
 cordonref_PrintOf_I2 a0 R n2 (v21 ++ (⟨#[59, 10]⟩ : ByteArray)) (w64 (v6 + 1))))))))
 (sel (decide (((at' .con a0.cons v6.toNat).kind) = 8))
 (inb 0 ((at' .con a0.cons v6.toNat).vars).length = true ∧
 inb (at' .int ((at' .con a0.cons v6.toNat).vars) 0) a0.vars.length = true ∧
 (⟨#[32]⟩ : ByteArray).size + ((at' .var a0.vars ((at' .int ((at' .con a0.cons v6.toNat).vars) 0).toNat)).name).size ≤ 140737488355328 ∧
 ((⟨#[32]⟩ : ByteArray) ++ ((at' .var a0.vars ((at' .int ((at' .con a0.cons v6.toNat).vars) 0).toNat)).name)).size + (⟨#[32]⟩ : ByteArray).size ≤ 140737488355328 ∧
 inSl 1 (((at' .con a0.cons v6.toNat).vars).length : Int) ((at' .con a0.cons v6.toNat).vars).length = true ∧
 Call1 Tryz.prog f_cordonref_namesText [dM a0, .sl .int ((((at' .con a0.cons v6.toNat).vars).take (((at' .con a0.cons v6.toNat).vars).length : Int).toNat).drop 1)] .str fun c26 =>
 (((⟨#[32]⟩ : ByteArray) ++ ((at' .var a0.vars ((at' .int ((at' .con a0.cons v6.toNat).vars) 0).toNat)).name)) ++ (⟨#[32]⟩ : ByteArray)).size + c26.size ≤ 140737488355328 ∧
 v21.size + ((((⟨#[32]⟩ : ByteArray) ++ ((at' .var a0.vars ((at' .int ((at' .con a0.cons v6.toNat).vars) 0).toNat)).name)) ++ (⟨#[32]⟩ : ByteArray)) ++ c26).size ≤ 140737488355328 ∧
 sel (decide (((at' .con a0.cons v6.toNat).kind) = 10))
 (inb 0 ((at' .con a0.cons v6.toNat).lits).length = true ∧
 Call1 Tryz.prog f_cordonref_litText [dM a0, dL (at' .lit ((at' .con a0.cons v6.toNat).lits) 0)] .str fun c27 =>
 (⟨#[32]⟩ : ByteArray).size + c27.size ≤ 140737488355328 ∧
 (v21 ++ ((((⟨#[32]⟩ : ByteArray) ++ ((at' .var a0.vars ((at' .int ((at' .con a0.cons v6.toNat).vars) 0).toNat)).name)) ++ (⟨#[32]⟩ : ByteArray)) ++ c26)).size + ((⟨#[32]⟩ : ByteArray) ++ c27).size ≤ 140737488355328 ∧
 ((v21 ++ ((((⟨#[32]⟩ : ByteArray) ++ ((at' .var a0.vars ((at' .int ((at' .con a0.cons v6.toNat).vars) 0).toNat)).name)) ++ (⟨#[32]⟩ : ByteArray)) ++ c26)) ++ ((⟨#[32]⟩ : ByteArray) ++ c27)).size + (⟨#[59, 10]⟩ : ByteArray).size ≤ 140737488355328 ∧
 cordonref_PrintOf_I2 a0 R n2 (((v21 ++ ((((⟨#[32]⟩ : ByteArray) ++ ((at' .var a0.vars ((at' .int ((at' .con a0.cons v6.toNat).vars) 0).toNat)).name)) ++ (⟨#[32]⟩ : ByteArray)) ++ c26)) ++ ((⟨#[32]⟩ : ByteArray) ++ c27)) ++ (⟨#[59, 10]⟩ : ByteArray)) (w64 (v6 + 1)))
 ((v21 ++ ((((⟨#[32]⟩ : ByteArray) ++ ((at' .var a0.vars ((at' .int ((at' .con a0.cons v6.toNat).vars) 0).toNat)).name)) ++ (⟨#[32]⟩ : ByteArray)) ++ c26)).size + (⟨#[59, 10]⟩ : ByteArray).size ≤ 140737488355328 ∧
 cordonref_PrintOf_I2 a0 R n2 ((v21 ++ ((((⟨#[32]⟩ : ByteArray) ++ ((at' .var a0.vars ((at' .int ((at' .con a0.cons v6.toNat).vars) 0).toNat)).name)) ++ (⟨#[32]⟩ : ByteArray)) ++ c26)) ++ (⟨#[59, 10]⟩ : ByteArray)) (w64 (v6 + 1))))
 (sel (decide (((at' .con a0.cons v6.toNat).kind) = 10))
 (inb 0 ((at' .con a0.cons v6.toNat).lits).length = true ∧
 Call1 Tryz.prog f_cordonref_litText [dM a0, dL (at' .lit ((at' .con a0.cons v6.toNat).lits) 0)] .str fun c28 =>
 (⟨#[32]⟩ : ByteArray).size + c28.size ≤ 140737488355328 ∧
 v21.size + ((⟨#[32]⟩ : ByteArray) ++ c28).size ≤ 140737488355328 ∧
 (v21 ++ ((⟨#[32]⟩ : ByteArray) ++ c28)).size + (⟨#[59, 10]⟩ : ByteArray).size ≤ 140737488355328 ∧
 cordonref_PrintOf_I2 a0 R n2 ((v21 ++ ((⟨#[32]⟩ : ByteArray) ++ c28)) ++ (⟨#[59, 10]⟩ : ByteArray)) (w64 (v6 + 1)))
 (v21.size + (⟨#[59, 10]⟩ : ByteArray).size ≤ 140737488355328 ∧
 cordonref_PrintOf_I2 a0 R n2 (v21 ++ (⟨#[59, 10]⟩ : ByteArray)) (w64 (v6 + 1)))))) := by kernel_rfl
theorem cordonref_PrintOf_I9_3_eq (a0 : MdlD) (R : D → Prop) (n2 : Nat) (v6 : Int) (n9_3 : Nat) (v32 : ByteArray) (v33 : Int) : cordonref_PrintOf_I9_3 a0 R n2 v6 (n9_3 + 1) v32 v33 =
 (sel (decide (v33 < (((at' .con a0.cons v6.toNat).vars).length : Int)))
 (sel (decide (((at' .con a0.cons v6.toNat).kind) = 5))
 (inb v33 ((at' .con a0.cons v6.toNat).vars).length = true ∧
 inb (at' .int ((at' .con a0.cons v6.toNat).vars) v33.toNat) a0.vars.length = true ∧
 (⟨#[32]⟩ : ByteArray).size + ((at' .var a0.vars ((at' .int ((at' .con a0.cons v6.toNat).vars) v33.toNat).toNat)).name).size ≤ 140737488355328 ∧
 v32.size + ((⟨#[32]⟩ : ByteArray) ++ ((at' .var a0.vars ((at' .int ((at' .con a0.cons v6.toNat).vars) v33.toNat).toNat)).name)).size ≤ 140737488355328 ∧
 cordonref_PrintOf_I9_3 a0 R n2 v6 n9_3 (v32 ++ ((⟨#[32]⟩ : ByteArray) ++ ((at' .var a0.vars ((at' .int ((at' .con a0.cons v6.toNat).vars) v33.toNat).toNat)).name))) (w64 (v33 + 1)))
 (sel (decide (((at' .con a0.cons v6.toNat).kind) = 7))
 (inb v33 ((at' .con a0.cons v6.toNat).vars).length = true ∧
 inb (at' .int ((at' .con a0.cons v6.toNat).vars) v33.toNat) a0.vars.length = true ∧
 (⟨#[32]⟩ : ByteArray).size + ((at' .var a0.vars ((at' .int ((at' .con a0.cons v6.toNat).vars) v33.toNat).toNat)).name).size ≤ 140737488355328 ∧
 v32.size + ((⟨#[32]⟩ : ByteArray) ++ ((at' .var a0.vars ((at' .int ((at' .con a0.cons v6.toNat).vars) v33.toNat).toNat)).name)).size ≤ 140737488355328 ∧
 cordonref_PrintOf_I9_3 a0 R n2 v6 n9_3 (v32 ++ ((⟨#[32]⟩ : ByteArray) ++ ((at' .var a0.vars ((at' .int ((at' .con a0.cons v6.toNat).vars) v33.toNat).toNat)).name))) (w64 (v33 + 1)))
 (sel (decide (((at' .con a0.cons v6.toNat).kind) = 10))
 (inb v33 ((at' .con a0.cons v6.toNat).vars).length = true ∧
 inb (at' .int ((at' .con a0.cons v6.toNat).vars) v33.toNat) a0.vars.length = true ∧
 (⟨#[32]⟩ : ByteArray).size + ((at' .var a0.vars ((at' .int ((at' .con a0.cons v6.toNat).vars) v33.toNat).toNat)).name).size ≤ 140737488355328 ∧
 v32.size + ((⟨#[32]⟩ : ByteArray) ++ ((at' .var a0.vars ((at' .int ((at' .con a0.cons v6.toNat).vars) v33.toNat).toNat)).name)).size ≤ 140737488355328 ∧
 cordonref_PrintOf_I9_3 a0 R n2 v6 n9_3 (v32 ++ ((⟨#[32]⟩ : ByteArray) ++ ((at' .var a0.vars ((at' .int ((at' .con a0.cons v6.toNat).vars) v33.toNat).toNat)).name))) (w64 (v33 + 1)))
 (sel (decide (((at' .con a0.cons v6.toNat).kind) = 8))
 (inb 0 ((at' .con a0.cons v6.toNat).vars).length = true ∧
 inb (at' .int ((at' .con a0.cons v6.toNat).vars) 0) a0.vars.length = true ∧
 (⟨#[32]⟩ : ByteArray).size + ((at' .var a0.vars ((at' .int ((at' .con a0.cons v6.toNat).vars) 0).toNat)).name).size ≤ 140737488355328 ∧
 ((⟨#[32]⟩ : ByteArray) ++ ((at' .var a0.vars ((at' .int ((at' .con a0.cons v6.toNat).vars) 0).toNat)).name)).size + (⟨#[32]⟩ : ByteArray).size ≤ 140737488355328 ∧
 inSl 1 (((at' .con a0.cons v6.toNat).vars).length : Int) ((at' .con a0.cons v6.toNat).vars).length = true ∧
 Call1 Tryz.prog f_cordonref_namesText [dM a0, .sl .int ((((at' .con a0.cons v6.toNat).vars).take (((at' .con a0.cons v6.toNat).vars).length : Int).toNat).drop 1)] .str fun c34 =>
 (((⟨#[32]⟩ : ByteArray) ++ ((at' .var a0.vars ((at' .int ((at' .con a0.cons v6.toNat).vars) 0).toNat)).name)) ++ (⟨#[32]⟩ : ByteArray)).size + c34.size ≤ 140737488355328 ∧
 v32.size + ((((⟨#[32]⟩ : ByteArray) ++ ((at' .var a0.vars ((at' .int ((at' .con a0.cons v6.toNat).vars) 0).toNat)).name)) ++ (⟨#[32]⟩ : ByteArray)) ++ c34).size ≤ 140737488355328 ∧
 sel (decide (((at' .con a0.cons v6.toNat).kind) = 10))
 (inb 0 ((at' .con a0.cons v6.toNat).lits).length = true ∧
 Call1 Tryz.prog f_cordonref_litText [dM a0, dL (at' .lit ((at' .con a0.cons v6.toNat).lits) 0)] .str fun c35 =>
 (⟨#[32]⟩ : ByteArray).size + c35.size ≤ 140737488355328 ∧
 (v32 ++ ((((⟨#[32]⟩ : ByteArray) ++ ((at' .var a0.vars ((at' .int ((at' .con a0.cons v6.toNat).vars) 0).toNat)).name)) ++ (⟨#[32]⟩ : ByteArray)) ++ c34)).size + ((⟨#[32]⟩ : ByteArray) ++ c35).size ≤ 140737488355328 ∧
 ((v32 ++ ((((⟨#[32]⟩ : ByteArray) ++ ((at' .var a0.vars ((at' .int ((at' .con a0.cons v6.toNat).vars) 0).toNat)).name)) ++ (⟨#[32]⟩ : ByteArray)) ++ c34)) ++ ((⟨#[32]⟩ : ByteArray) ++ c35)).size + (⟨#[59, 10]⟩ : ByteArray).size ≤ 140737488355328 ∧
 cordonref_PrintOf_I2 a0 R n2 (((v32 ++ ((((⟨#[32]⟩ : ByteArray) ++ ((at' .var a0.vars ((at' .int ((at' .con a0.cons v6.toNat).vars) 0).toNat)).name)) ++ (⟨#[32]⟩ : ByteArray)) ++ c34)) ++ ((⟨#[32]⟩ : ByteArray) ++ c35)) ++ (⟨#[59, 10]⟩ : ByteArray)) (w64 (v6 + 1)))
 ((v32 ++ ((((⟨#[32]⟩ : ByteArray) ++ ((at' .var a0.vars ((at' .int ((at' .con a0.cons v6.toNat).vars) 0).toNat)).name)) ++ (⟨#[32]⟩ : ByteArray)) ++ c34)).size + (⟨#[59, 10]⟩ : ByteArray).size ≤ 140737488355328 ∧
 cordonref_PrintOf_I2 a0 R n2 ((v32 ++ ((((⟨#[32]⟩ : ByteArray) ++ ((at' .var a0.vars ((at' .int ((at' .con a0.cons v6.toNat).vars) 0).toNat)).name)) ++ (⟨#[32]⟩ : ByteArray)) ++ c34)) ++ (⟨#[59, 10]⟩ : ByteArray)) (w64 (v6 + 1))))
 (sel (decide (((at' .con a0.cons v6.toNat).kind) = 10))
 (inb 0 ((at' .con a0.cons v6.toNat).lits).length = true ∧
 Call1 Tryz.prog f_cordonref_litText [dM a0, dL (at' .lit ((at' .con a0.cons v6.toNat).lits) 0)] .str fun c36 =>
 (⟨#[32]⟩ : ByteArray).size + c36.size ≤ 140737488355328 ∧
 v32.size + ((⟨#[32]⟩ : ByteArray) ++ c36).size ≤ 140737488355328 ∧
 (v32 ++ ((⟨#[32]⟩ : ByteArray) ++ c36)).size + (⟨#[59, 10]⟩ : ByteArray).size ≤ 140737488355328 ∧
 cordonref_PrintOf_I2 a0 R n2 ((v32 ++ ((⟨#[32]⟩ : ByteArray) ++ c36)) ++ (⟨#[59, 10]⟩ : ByteArray)) (w64 (v6 + 1)))
 (v32.size + (⟨#[59, 10]⟩ : ByteArray).size ≤ 140737488355328 ∧
 cordonref_PrintOf_I2 a0 R n2 (v32 ++ (⟨#[59, 10]⟩ : ByteArray)) (w64 (v6 + 1))))))))
 (sel (decide (((at' .con a0.cons v6.toNat).kind) = 8))
 (inb 0 ((at' .con a0.cons v6.toNat).vars).length = true ∧
 inb (at' .int ((at' .con a0.cons v6.toNat).vars) 0) a0.vars.length = true ∧
 (⟨#[32]⟩ : ByteArray).size + ((at' .var a0.vars ((at' .int ((at' .con a0.cons v6.toNat).vars) 0).toNat)).name).size ≤ 140737488355328 ∧
 ((⟨#[32]⟩ : ByteArray) ++ ((at' .var a0.vars ((at' .int ((at' .con a0.cons v6.toNat).vars) 0).toNat)).name)).size + (⟨#[32]⟩ : ByteArray).size ≤ 140737488355328 ∧
 inSl 1 (((at' .con a0.cons v6.toNat).vars).length : Int) ((at' .con a0.cons v6.toNat).vars).length = true ∧
 Call1 Tryz.prog f_cordonref_namesText [dM a0, .sl .int ((((at' .con a0.cons v6.toNat).vars).take (((at' .con a0.cons v6.toNat).vars).length : Int).toNat).drop 1)] .str fun c37 =>
 (((⟨#[32]⟩ : ByteArray) ++ ((at' .var a0.vars ((at' .int ((at' .con a0.cons v6.toNat).vars) 0).toNat)).name)) ++ (⟨#[32]⟩ : ByteArray)).size + c37.size ≤ 140737488355328 ∧
 v32.size + ((((⟨#[32]⟩ : ByteArray) ++ ((at' .var a0.vars ((at' .int ((at' .con a0.cons v6.toNat).vars) 0).toNat)).name)) ++ (⟨#[32]⟩ : ByteArray)) ++ c37).size ≤ 140737488355328 ∧
 sel (decide (((at' .con a0.cons v6.toNat).kind) = 10))
 (inb 0 ((at' .con a0.cons v6.toNat).lits).length = true ∧
 Call1 Tryz.prog f_cordonref_litText [dM a0, dL (at' .lit ((at' .con a0.cons v6.toNat).lits) 0)] .str fun c38 =>
 (⟨#[32]⟩ : ByteArray).size + c38.size ≤ 140737488355328 ∧
 (v32 ++ ((((⟨#[32]⟩ : ByteArray) ++ ((at' .var a0.vars ((at' .int ((at' .con a0.cons v6.toNat).vars) 0).toNat)).name)) ++ (⟨#[32]⟩ : ByteArray)) ++ c37)).size + ((⟨#[32]⟩ : ByteArray) ++ c38).size ≤ 140737488355328 ∧
 ((v32 ++ ((((⟨#[32]⟩ : ByteArray) ++ ((at' .var a0.vars ((at' .int ((at' .con a0.cons v6.toNat).vars) 0).toNat)).name)) ++ (⟨#[32]⟩ : ByteArray)) ++ c37)) ++ ((⟨#[32]⟩ : ByteArray) ++ c38)).size + (⟨#[59, 10]⟩ : ByteArray).size ≤ 140737488355328 ∧
 cordonref_PrintOf_I2 a0 R n2 (((v32 ++ ((((⟨#[32]⟩ : ByteArray) ++ ((at' .var a0.vars ((at' .int ((at' .con a0.cons v6.toNat).vars) 0).toNat)).name)) ++ (⟨#[32]⟩ : ByteArray)) ++ c37)) ++ ((⟨#[32]⟩ : ByteArray) ++ c38)) ++ (⟨#[59, 10]⟩ : ByteArray)) (w64 (v6 + 1)))
 ((v32 ++ ((((⟨#[32]⟩ : ByteArray) ++ ((at' .var a0.vars ((at' .int ((at' .con a0.cons v6.toNat).vars) 0).toNat)).name)) ++ (⟨#[32]⟩ : ByteArray)) ++ c37)).size + (⟨#[59, 10]⟩ : ByteArray).size ≤ 140737488355328 ∧
 cordonref_PrintOf_I2 a0 R n2 ((v32 ++ ((((⟨#[32]⟩ : ByteArray) ++ ((at' .var a0.vars ((at' .int ((at' .con a0.cons v6.toNat).vars) 0).toNat)).name)) ++ (⟨#[32]⟩ : ByteArray)) ++ c37)) ++ (⟨#[59, 10]⟩ : ByteArray)) (w64 (v6 + 1))))
 (sel (decide (((at' .con a0.cons v6.toNat).kind) = 10))
 (inb 0 ((at' .con a0.cons v6.toNat).lits).length = true ∧
 Call1 Tryz.prog f_cordonref_litText [dM a0, dL (at' .lit ((at' .con a0.cons v6.toNat).lits) 0)] .str fun c39 =>
 (⟨#[32]⟩ : ByteArray).size + c39.size ≤ 140737488355328 ∧
 v32.size + ((⟨#[32]⟩ : ByteArray) ++ c39).size ≤ 140737488355328 ∧
 (v32 ++ ((⟨#[32]⟩ : ByteArray) ++ c39)).size + (⟨#[59, 10]⟩ : ByteArray).size ≤ 140737488355328 ∧
 cordonref_PrintOf_I2 a0 R n2 ((v32 ++ ((⟨#[32]⟩ : ByteArray) ++ c39)) ++ (⟨#[59, 10]⟩ : ByteArray)) (w64 (v6 + 1)))
 (v32.size + (⟨#[59, 10]⟩ : ByteArray).size ≤ 140737488355328 ∧
 cordonref_PrintOf_I2 a0 R n2 (v32 ++ (⟨#[59, 10]⟩ : ByteArray)) (w64 (v6 + 1)))))) := by kernel_rfl
theorem cordonref_PrintOf_I9_4_eq (a0 : MdlD) (R : D → Prop) (n2 : Nat) (v6 : Int) (n9_4 : Nat) (v41 : ByteArray) (v42 : Int) : cordonref_PrintOf_I9_4 a0 R n2 v6 (n9_4 + 1) v41 v42 =
 (sel (decide (v42 < (((at' .con a0.cons v6.toNat).vars).length : Int)))
 (sel (decide (((at' .con a0.cons v6.toNat).kind) = 5))
 (inb v42 ((at' .con a0.cons v6.toNat).vars).length = true ∧
 inb (at' .int ((at' .con a0.cons v6.toNat).vars) v42.toNat) a0.vars.length = true ∧
 (⟨#[32]⟩ : ByteArray).size + ((at' .var a0.vars ((at' .int ((at' .con a0.cons v6.toNat).vars) v42.toNat).toNat)).name).size ≤ 140737488355328 ∧
 v41.size + ((⟨#[32]⟩ : ByteArray) ++ ((at' .var a0.vars ((at' .int ((at' .con a0.cons v6.toNat).vars) v42.toNat).toNat)).name)).size ≤ 140737488355328 ∧
 cordonref_PrintOf_I9_4 a0 R n2 v6 n9_4 (v41 ++ ((⟨#[32]⟩ : ByteArray) ++ ((at' .var a0.vars ((at' .int ((at' .con a0.cons v6.toNat).vars) v42.toNat).toNat)).name))) (w64 (v42 + 1)))
 (sel (decide (((at' .con a0.cons v6.toNat).kind) = 7))
 (inb v42 ((at' .con a0.cons v6.toNat).vars).length = true ∧
 inb (at' .int ((at' .con a0.cons v6.toNat).vars) v42.toNat) a0.vars.length = true ∧
 (⟨#[32]⟩ : ByteArray).size + ((at' .var a0.vars ((at' .int ((at' .con a0.cons v6.toNat).vars) v42.toNat).toNat)).name).size ≤ 140737488355328 ∧
 v41.size + ((⟨#[32]⟩ : ByteArray) ++ ((at' .var a0.vars ((at' .int ((at' .con a0.cons v6.toNat).vars) v42.toNat).toNat)).name)).size ≤ 140737488355328 ∧
 cordonref_PrintOf_I9_4 a0 R n2 v6 n9_4 (v41 ++ ((⟨#[32]⟩ : ByteArray) ++ ((at' .var a0.vars ((at' .int ((at' .con a0.cons v6.toNat).vars) v42.toNat).toNat)).name))) (w64 (v42 + 1)))
 (sel (decide (((at' .con a0.cons v6.toNat).kind) = 10))
 (inb v42 ((at' .con a0.cons v6.toNat).vars).length = true ∧
 inb (at' .int ((at' .con a0.cons v6.toNat).vars) v42.toNat) a0.vars.length = true ∧
 (⟨#[32]⟩ : ByteArray).size + ((at' .var a0.vars ((at' .int ((at' .con a0.cons v6.toNat).vars) v42.toNat).toNat)).name).size ≤ 140737488355328 ∧
 v41.size + ((⟨#[32]⟩ : ByteArray) ++ ((at' .var a0.vars ((at' .int ((at' .con a0.cons v6.toNat).vars) v42.toNat).toNat)).name)).size ≤ 140737488355328 ∧
 cordonref_PrintOf_I9_4 a0 R n2 v6 n9_4 (v41 ++ ((⟨#[32]⟩ : ByteArray) ++ ((at' .var a0.vars ((at' .int ((at' .con a0.cons v6.toNat).vars) v42.toNat).toNat)).name))) (w64 (v42 + 1)))
 (sel (decide (((at' .con a0.cons v6.toNat).kind) = 8))
 (inb 0 ((at' .con a0.cons v6.toNat).vars).length = true ∧
 inb (at' .int ((at' .con a0.cons v6.toNat).vars) 0) a0.vars.length = true ∧
 (⟨#[32]⟩ : ByteArray).size + ((at' .var a0.vars ((at' .int ((at' .con a0.cons v6.toNat).vars) 0).toNat)).name).size ≤ 140737488355328 ∧
 ((⟨#[32]⟩ : ByteArray) ++ ((at' .var a0.vars ((at' .int ((at' .con a0.cons v6.toNat).vars) 0).toNat)).name)).size + (⟨#[32]⟩ : ByteArray).size ≤ 140737488355328 ∧
 inSl 1 (((at' .con a0.cons v6.toNat).vars).length : Int) ((at' .con a0.cons v6.toNat).vars).length = true ∧
 Call1 Tryz.prog f_cordonref_namesText [dM a0, .sl .int ((((at' .con a0.cons v6.toNat).vars).take (((at' .con a0.cons v6.toNat).vars).length : Int).toNat).drop 1)] .str fun c43 =>
 (((⟨#[32]⟩ : ByteArray) ++ ((at' .var a0.vars ((at' .int ((at' .con a0.cons v6.toNat).vars) 0).toNat)).name)) ++ (⟨#[32]⟩ : ByteArray)).size + c43.size ≤ 140737488355328 ∧
 v41.size + ((((⟨#[32]⟩ : ByteArray) ++ ((at' .var a0.vars ((at' .int ((at' .con a0.cons v6.toNat).vars) 0).toNat)).name)) ++ (⟨#[32]⟩ : ByteArray)) ++ c43).size ≤ 140737488355328 ∧
 sel (decide (((at' .con a0.cons v6.toNat).kind) = 10))
 (inb 0 ((at' .con a0.cons v6.toNat).lits).length = true ∧
 Call1 Tryz.prog f_cordonref_litText [dM a0, dL (at' .lit ((at' .con a0.cons v6.toNat).lits) 0)] .str fun c44 =>
 (⟨#[32]⟩ : ByteArray).size + c44.size ≤ 140737488355328 ∧
 (v41 ++ ((((⟨#[32]⟩ : ByteArray) ++ ((at' .var a0.vars ((at' .int ((at' .con a0.cons v6.toNat).vars) 0).toNat)).name)) ++ (⟨#[32]⟩ : ByteArray)) ++ c43)).size + ((⟨#[32]⟩ : ByteArray) ++ c44).size ≤ 140737488355328 ∧
 ((v41 ++ ((((⟨#[32]⟩ : ByteArray) ++ ((at' .var a0.vars ((at' .int ((at' .con a0.cons v6.toNat).vars) 0).toNat)).name)) ++ (⟨#[32]⟩ : ByteArray)) ++ c43)) ++ ((⟨#[32]⟩ : ByteArray) ++ c44)).size + (⟨#[59, 10]⟩ : ByteArray).size ≤ 140737488355328 ∧
 cordonref_PrintOf_I2 a0 R n2 (((v41 ++ ((((⟨#[32]⟩ : ByteArray) ++ ((at' .var a0.vars ((at' .int ((at' .con a0.cons v6.toNat).vars) 0).toNat)).name)) ++ (⟨#[32]⟩ : ByteArray)) ++ c43)) ++ ((⟨#[32]⟩ : ByteArray) ++ c44)) ++ (⟨#[59, 10]⟩ : ByteArray)) (w64 (v6 + 1)))
 ((v41 ++ ((((⟨#[32]⟩ : ByteArray) ++ ((at' .var a0.vars ((at' .int ((at' .con a0.cons v6.toNat).vars) 0).toNat)).name)) ++ (⟨#[32]⟩ : ByteArray)) ++ c43)).size + (⟨#[59, 10]⟩ : ByteArray).size ≤ 140737488355328 ∧
 cordonref_PrintOf_I2 a0 R n2 ((v41 ++ ((((⟨#[32]⟩ : ByteArray) ++ ((at' .var a0.vars ((at' .int ((at' .con a0.cons v6.toNat).vars) 0).toNat)).name)) ++ (⟨#[32]⟩ : ByteArray)) ++ c43)) ++ (⟨#[59, 10]⟩ : ByteArray)) (w64 (v6 + 1))))
 (sel (decide (((at' .con a0.cons v6.toNat).kind) = 10))
 (inb 0 ((at' .con a0.cons v6.toNat).lits).length = true ∧
 Call1 Tryz.prog f_cordonref_litText [dM a0, dL (at' .lit ((at' .con a0.cons v6.toNat).lits) 0)] .str fun c45 =>
 (⟨#[32]⟩ : ByteArray).size + c45.size ≤ 140737488355328 ∧
 v41.size + ((⟨#[32]⟩ : ByteArray) ++ c45).size ≤ 140737488355328 ∧
 (v41 ++ ((⟨#[32]⟩ : ByteArray) ++ c45)).size + (⟨#[59, 10]⟩ : ByteArray).size ≤ 140737488355328 ∧
 cordonref_PrintOf_I2 a0 R n2 ((v41 ++ ((⟨#[32]⟩ : ByteArray) ++ c45)) ++ (⟨#[59, 10]⟩ : ByteArray)) (w64 (v6 + 1)))
 (v41.size + (⟨#[59, 10]⟩ : ByteArray).size ≤ 140737488355328 ∧
 cordonref_PrintOf_I2 a0 R n2 (v41 ++ (⟨#[59, 10]⟩ : ByteArray)) (w64 (v6 + 1))))))))
 (sel (decide (((at' .con a0.cons v6.toNat).kind) = 8))
 (inb 0 ((at' .con a0.cons v6.toNat).vars).length = true ∧
 inb (at' .int ((at' .con a0.cons v6.toNat).vars) 0) a0.vars.length = true ∧
 (⟨#[32]⟩ : ByteArray).size + ((at' .var a0.vars ((at' .int ((at' .con a0.cons v6.toNat).vars) 0).toNat)).name).size ≤ 140737488355328 ∧
 ((⟨#[32]⟩ : ByteArray) ++ ((at' .var a0.vars ((at' .int ((at' .con a0.cons v6.toNat).vars) 0).toNat)).name)).size + (⟨#[32]⟩ : ByteArray).size ≤ 140737488355328 ∧
 inSl 1 (((at' .con a0.cons v6.toNat).vars).length : Int) ((at' .con a0.cons v6.toNat).vars).length = true ∧
 Call1 Tryz.prog f_cordonref_namesText [dM a0, .sl .int ((((at' .con a0.cons v6.toNat).vars).take (((at' .con a0.cons v6.toNat).vars).length : Int).toNat).drop 1)] .str fun c46 =>
 (((⟨#[32]⟩ : ByteArray) ++ ((at' .var a0.vars ((at' .int ((at' .con a0.cons v6.toNat).vars) 0).toNat)).name)) ++ (⟨#[32]⟩ : ByteArray)).size + c46.size ≤ 140737488355328 ∧
 v41.size + ((((⟨#[32]⟩ : ByteArray) ++ ((at' .var a0.vars ((at' .int ((at' .con a0.cons v6.toNat).vars) 0).toNat)).name)) ++ (⟨#[32]⟩ : ByteArray)) ++ c46).size ≤ 140737488355328 ∧
 sel (decide (((at' .con a0.cons v6.toNat).kind) = 10))
 (inb 0 ((at' .con a0.cons v6.toNat).lits).length = true ∧
 Call1 Tryz.prog f_cordonref_litText [dM a0, dL (at' .lit ((at' .con a0.cons v6.toNat).lits) 0)] .str fun c47 =>
 (⟨#[32]⟩ : ByteArray).size + c47.size ≤ 140737488355328 ∧
 (v41 ++ ((((⟨#[32]⟩ : ByteArray) ++ ((at' .var a0.vars ((at' .int ((at' .con a0.cons v6.toNat).vars) 0).toNat)).name)) ++ (⟨#[32]⟩ : ByteArray)) ++ c46)).size + ((⟨#[32]⟩ : ByteArray) ++ c47).size ≤ 140737488355328 ∧
 ((v41 ++ ((((⟨#[32]⟩ : ByteArray) ++ ((at' .var a0.vars ((at' .int ((at' .con a0.cons v6.toNat).vars) 0).toNat)).name)) ++ (⟨#[32]⟩ : ByteArray)) ++ c46)) ++ ((⟨#[32]⟩ : ByteArray) ++ c47)).size + (⟨#[59, 10]⟩ : ByteArray).size ≤ 140737488355328 ∧
 cordonref_PrintOf_I2 a0 R n2 (((v41 ++ ((((⟨#[32]⟩ : ByteArray) ++ ((at' .var a0.vars ((at' .int ((at' .con a0.cons v6.toNat).vars) 0).toNat)).name)) ++ (⟨#[32]⟩ : ByteArray)) ++ c46)) ++ ((⟨#[32]⟩ : ByteArray) ++ c47)) ++ (⟨#[59, 10]⟩ : ByteArray)) (w64 (v6 + 1)))
 ((v41 ++ ((((⟨#[32]⟩ : ByteArray) ++ ((at' .var a0.vars ((at' .int ((at' .con a0.cons v6.toNat).vars) 0).toNat)).name)) ++ (⟨#[32]⟩ : ByteArray)) ++ c46)).size + (⟨#[59, 10]⟩ : ByteArray).size ≤ 140737488355328 ∧
 cordonref_PrintOf_I2 a0 R n2 ((v41 ++ ((((⟨#[32]⟩ : ByteArray) ++ ((at' .var a0.vars ((at' .int ((at' .con a0.cons v6.toNat).vars) 0).toNat)).name)) ++ (⟨#[32]⟩ : ByteArray)) ++ c46)) ++ (⟨#[59, 10]⟩ : ByteArray)) (w64 (v6 + 1))))
 (sel (decide (((at' .con a0.cons v6.toNat).kind) = 10))
 (inb 0 ((at' .con a0.cons v6.toNat).lits).length = true ∧
 Call1 Tryz.prog f_cordonref_litText [dM a0, dL (at' .lit ((at' .con a0.cons v6.toNat).lits) 0)] .str fun c48 =>
 (⟨#[32]⟩ : ByteArray).size + c48.size ≤ 140737488355328 ∧
 v41.size + ((⟨#[32]⟩ : ByteArray) ++ c48).size ≤ 140737488355328 ∧
 (v41 ++ ((⟨#[32]⟩ : ByteArray) ++ c48)).size + (⟨#[59, 10]⟩ : ByteArray).size ≤ 140737488355328 ∧
 cordonref_PrintOf_I2 a0 R n2 ((v41 ++ ((⟨#[32]⟩ : ByteArray) ++ c48)) ++ (⟨#[59, 10]⟩ : ByteArray)) (w64 (v6 + 1)))
 (v41.size + (⟨#[59, 10]⟩ : ByteArray).size ≤ 140737488355328 ∧
 cordonref_PrintOf_I2 a0 R n2 (v41 ++ (⟨#[59, 10]⟩ : ByteArray)) (w64 (v6 + 1)))))) := by kernel_rfl
theorem cordonref_PrintOf_I9_5_eq (a0 : MdlD) (R : D → Prop) (n2 : Nat) (v6 : Int) (n9_5 : Nat) (v50 : ByteArray) (v51 : Int) : cordonref_PrintOf_I9_5 a0 R n2 v6 (n9_5 + 1) v50 v51 =
 (sel (decide (v51 < (((at' .con a0.cons v6.toNat).vars).length : Int)))
 (sel (decide (((at' .con a0.cons v6.toNat).kind) = 5))
 (inb v51 ((at' .con a0.cons v6.toNat).vars).length = true ∧
 inb (at' .int ((at' .con a0.cons v6.toNat).vars) v51.toNat) a0.vars.length = true ∧
 (⟨#[32]⟩ : ByteArray).size + ((at' .var a0.vars ((at' .int ((at' .con a0.cons v6.toNat).vars) v51.toNat).toNat)).name).size ≤ 140737488355328 ∧
 v50.size + ((⟨#[32]⟩ : ByteArray) ++ ((at' .var a0.vars ((at' .int ((at' .con a0.cons v6.toNat).vars) v51.toNat).toNat)).name)).size ≤ 140737488355328 ∧
 cordonref_PrintOf_I9_5 a0 R n2 v6 n9_5 (v50 ++ ((⟨#[32]⟩ : ByteArray) ++ ((at' .var a0.vars ((at' .int ((at' .con a0.cons v6.toNat).vars) v51.toNat).toNat)).name))) (w64 (v51 + 1)))
 (sel (decide (((at' .con a0.cons v6.toNat).kind) = 7))
 (inb v51 ((at' .con a0.cons v6.toNat).vars).length = true ∧
 inb (at' .int ((at' .con a0.cons v6.toNat).vars) v51.toNat) a0.vars.length = true ∧
 (⟨#[32]⟩ : ByteArray).size + ((at' .var a0.vars ((at' .int ((at' .con a0.cons v6.toNat).vars) v51.toNat).toNat)).name).size ≤ 140737488355328 ∧
 v50.size + ((⟨#[32]⟩ : ByteArray) ++ ((at' .var a0.vars ((at' .int ((at' .con a0.cons v6.toNat).vars) v51.toNat).toNat)).name)).size ≤ 140737488355328 ∧
 cordonref_PrintOf_I9_5 a0 R n2 v6 n9_5 (v50 ++ ((⟨#[32]⟩ : ByteArray) ++ ((at' .var a0.vars ((at' .int ((at' .con a0.cons v6.toNat).vars) v51.toNat).toNat)).name))) (w64 (v51 + 1)))
 (sel (decide (((at' .con a0.cons v6.toNat).kind) = 10))
 (inb v51 ((at' .con a0.cons v6.toNat).vars).length = true ∧
 inb (at' .int ((at' .con a0.cons v6.toNat).vars) v51.toNat) a0.vars.length = true ∧
 (⟨#[32]⟩ : ByteArray).size + ((at' .var a0.vars ((at' .int ((at' .con a0.cons v6.toNat).vars) v51.toNat).toNat)).name).size ≤ 140737488355328 ∧
 v50.size + ((⟨#[32]⟩ : ByteArray) ++ ((at' .var a0.vars ((at' .int ((at' .con a0.cons v6.toNat).vars) v51.toNat).toNat)).name)).size ≤ 140737488355328 ∧
 cordonref_PrintOf_I9_5 a0 R n2 v6 n9_5 (v50 ++ ((⟨#[32]⟩ : ByteArray) ++ ((at' .var a0.vars ((at' .int ((at' .con a0.cons v6.toNat).vars) v51.toNat).toNat)).name))) (w64 (v51 + 1)))
 (sel (decide (((at' .con a0.cons v6.toNat).kind) = 8))
 (inb 0 ((at' .con a0.cons v6.toNat).vars).length = true ∧
 inb (at' .int ((at' .con a0.cons v6.toNat).vars) 0) a0.vars.length = true ∧
 (⟨#[32]⟩ : ByteArray).size + ((at' .var a0.vars ((at' .int ((at' .con a0.cons v6.toNat).vars) 0).toNat)).name).size ≤ 140737488355328 ∧
 ((⟨#[32]⟩ : ByteArray) ++ ((at' .var a0.vars ((at' .int ((at' .con a0.cons v6.toNat).vars) 0).toNat)).name)).size + (⟨#[32]⟩ : ByteArray).size ≤ 140737488355328 ∧
 inSl 1 (((at' .con a0.cons v6.toNat).vars).length : Int) ((at' .con a0.cons v6.toNat).vars).length = true ∧
 Call1 Tryz.prog f_cordonref_namesText [dM a0, .sl .int ((((at' .con a0.cons v6.toNat).vars).take (((at' .con a0.cons v6.toNat).vars).length : Int).toNat).drop 1)] .str fun c52 =>
 (((⟨#[32]⟩ : ByteArray) ++ ((at' .var a0.vars ((at' .int ((at' .con a0.cons v6.toNat).vars) 0).toNat)).name)) ++ (⟨#[32]⟩ : ByteArray)).size + c52.size ≤ 140737488355328 ∧
 v50.size + ((((⟨#[32]⟩ : ByteArray) ++ ((at' .var a0.vars ((at' .int ((at' .con a0.cons v6.toNat).vars) 0).toNat)).name)) ++ (⟨#[32]⟩ : ByteArray)) ++ c52).size ≤ 140737488355328 ∧
 sel (decide (((at' .con a0.cons v6.toNat).kind) = 10))
 (inb 0 ((at' .con a0.cons v6.toNat).lits).length = true ∧
 Call1 Tryz.prog f_cordonref_litText [dM a0, dL (at' .lit ((at' .con a0.cons v6.toNat).lits) 0)] .str fun c53 =>
 (⟨#[32]⟩ : ByteArray).size + c53.size ≤ 140737488355328 ∧
 (v50 ++ ((((⟨#[32]⟩ : ByteArray) ++ ((at' .var a0.vars ((at' .int ((at' .con a0.cons v6.toNat).vars) 0).toNat)).name)) ++ (⟨#[32]⟩ : ByteArray)) ++ c52)).size + ((⟨#[32]⟩ : ByteArray) ++ c53).size ≤ 140737488355328 ∧
 ((v50 ++ ((((⟨#[32]⟩ : ByteArray) ++ ((at' .var a0.vars ((at' .int ((at' .con a0.cons v6.toNat).vars) 0).toNat)).name)) ++ (⟨#[32]⟩ : ByteArray)) ++ c52)) ++ ((⟨#[32]⟩ : ByteArray) ++ c53)).size + (⟨#[59, 10]⟩ : ByteArray).size ≤ 140737488355328 ∧
 cordonref_PrintOf_I2 a0 R n2 (((v50 ++ ((((⟨#[32]⟩ : ByteArray) ++ ((at' .var a0.vars ((at' .int ((at' .con a0.cons v6.toNat).vars) 0).toNat)).name)) ++ (⟨#[32]⟩ : ByteArray)) ++ c52)) ++ ((⟨#[32]⟩ : ByteArray) ++ c53)) ++ (⟨#[59, 10]⟩ : ByteArray)) (w64 (v6 + 1)))
 ((v50 ++ ((((⟨#[32]⟩ : ByteArray) ++ ((at' .var a0.vars ((at' .int ((at' .con a0.cons v6.toNat).vars) 0).toNat)).name)) ++ (⟨#[32]⟩ : ByteArray)) ++ c52)).size + (⟨#[59, 10]⟩ : ByteArray).size ≤ 140737488355328 ∧
 cordonref_PrintOf_I2 a0 R n2 ((v50 ++ ((((⟨#[32]⟩ : ByteArray) ++ ((at' .var a0.vars ((at' .int ((at' .con a0.cons v6.toNat).vars) 0).toNat)).name)) ++ (⟨#[32]⟩ : ByteArray)) ++ c52)) ++ (⟨#[59, 10]⟩ : ByteArray)) (w64 (v6 + 1))))
 (sel (decide (((at' .con a0.cons v6.toNat).kind) = 10))
 (inb 0 ((at' .con a0.cons v6.toNat).lits).length = true ∧
 Call1 Tryz.prog f_cordonref_litText [dM a0, dL (at' .lit ((at' .con a0.cons v6.toNat).lits) 0)] .str fun c54 =>
 (⟨#[32]⟩ : ByteArray).size + c54.size ≤ 140737488355328 ∧
 v50.size + ((⟨#[32]⟩ : ByteArray) ++ c54).size ≤ 140737488355328 ∧
 (v50 ++ ((⟨#[32]⟩ : ByteArray) ++ c54)).size + (⟨#[59, 10]⟩ : ByteArray).size ≤ 140737488355328 ∧
 cordonref_PrintOf_I2 a0 R n2 ((v50 ++ ((⟨#[32]⟩ : ByteArray) ++ c54)) ++ (⟨#[59, 10]⟩ : ByteArray)) (w64 (v6 + 1)))
 (v50.size + (⟨#[59, 10]⟩ : ByteArray).size ≤ 140737488355328 ∧
 cordonref_PrintOf_I2 a0 R n2 (v50 ++ (⟨#[59, 10]⟩ : ByteArray)) (w64 (v6 + 1))))))))
 (sel (decide (((at' .con a0.cons v6.toNat).kind) = 8))
 (inb 0 ((at' .con a0.cons v6.toNat).vars).length = true ∧
 inb (at' .int ((at' .con a0.cons v6.toNat).vars) 0) a0.vars.length = true ∧
 (⟨#[32]⟩ : ByteArray).size + ((at' .var a0.vars ((at' .int ((at' .con a0.cons v6.toNat).vars) 0).toNat)).name).size ≤ 140737488355328 ∧
 ((⟨#[32]⟩ : ByteArray) ++ ((at' .var a0.vars ((at' .int ((at' .con a0.cons v6.toNat).vars) 0).toNat)).name)).size + (⟨#[32]⟩ : ByteArray).size ≤ 140737488355328 ∧
 inSl 1 (((at' .con a0.cons v6.toNat).vars).length : Int) ((at' .con a0.cons v6.toNat).vars).length = true ∧
 Call1 Tryz.prog f_cordonref_namesText [dM a0, .sl .int ((((at' .con a0.cons v6.toNat).vars).take (((at' .con a0.cons v6.toNat).vars).length : Int).toNat).drop 1)] .str fun c55 =>
 (((⟨#[32]⟩ : ByteArray) ++ ((at' .var a0.vars ((at' .int ((at' .con a0.cons v6.toNat).vars) 0).toNat)).name)) ++ (⟨#[32]⟩ : ByteArray)).size + c55.size ≤ 140737488355328 ∧
 v50.size + ((((⟨#[32]⟩ : ByteArray) ++ ((at' .var a0.vars ((at' .int ((at' .con a0.cons v6.toNat).vars) 0).toNat)).name)) ++ (⟨#[32]⟩ : ByteArray)) ++ c55).size ≤ 140737488355328 ∧
 sel (decide (((at' .con a0.cons v6.toNat).kind) = 10))
 (inb 0 ((at' .con a0.cons v6.toNat).lits).length = true ∧
 Call1 Tryz.prog f_cordonref_litText [dM a0, dL (at' .lit ((at' .con a0.cons v6.toNat).lits) 0)] .str fun c56 =>
 (⟨#[32]⟩ : ByteArray).size + c56.size ≤ 140737488355328 ∧
 (v50 ++ ((((⟨#[32]⟩ : ByteArray) ++ ((at' .var a0.vars ((at' .int ((at' .con a0.cons v6.toNat).vars) 0).toNat)).name)) ++ (⟨#[32]⟩ : ByteArray)) ++ c55)).size + ((⟨#[32]⟩ : ByteArray) ++ c56).size ≤ 140737488355328 ∧
 ((v50 ++ ((((⟨#[32]⟩ : ByteArray) ++ ((at' .var a0.vars ((at' .int ((at' .con a0.cons v6.toNat).vars) 0).toNat)).name)) ++ (⟨#[32]⟩ : ByteArray)) ++ c55)) ++ ((⟨#[32]⟩ : ByteArray) ++ c56)).size + (⟨#[59, 10]⟩ : ByteArray).size ≤ 140737488355328 ∧
 cordonref_PrintOf_I2 a0 R n2 (((v50 ++ ((((⟨#[32]⟩ : ByteArray) ++ ((at' .var a0.vars ((at' .int ((at' .con a0.cons v6.toNat).vars) 0).toNat)).name)) ++ (⟨#[32]⟩ : ByteArray)) ++ c55)) ++ ((⟨#[32]⟩ : ByteArray) ++ c56)) ++ (⟨#[59, 10]⟩ : ByteArray)) (w64 (v6 + 1)))
 ((v50 ++ ((((⟨#[32]⟩ : ByteArray) ++ ((at' .var a0.vars ((at' .int ((at' .con a0.cons v6.toNat).vars) 0).toNat)).name)) ++ (⟨#[32]⟩ : ByteArray)) ++ c55)).size + (⟨#[59, 10]⟩ : ByteArray).size ≤ 140737488355328 ∧
 cordonref_PrintOf_I2 a0 R n2 ((v50 ++ ((((⟨#[32]⟩ : ByteArray) ++ ((at' .var a0.vars ((at' .int ((at' .con a0.cons v6.toNat).vars) 0).toNat)).name)) ++ (⟨#[32]⟩ : ByteArray)) ++ c55)) ++ (⟨#[59, 10]⟩ : ByteArray)) (w64 (v6 + 1))))
 (sel (decide (((at' .con a0.cons v6.toNat).kind) = 10))
 (inb 0 ((at' .con a0.cons v6.toNat).lits).length = true ∧
 Call1 Tryz.prog f_cordonref_litText [dM a0, dL (at' .lit ((at' .con a0.cons v6.toNat).lits) 0)] .str fun c57 =>
 (⟨#[32]⟩ : ByteArray).size + c57.size ≤ 140737488355328 ∧
 v50.size + ((⟨#[32]⟩ : ByteArray) ++ c57).size ≤ 140737488355328 ∧
 (v50 ++ ((⟨#[32]⟩ : ByteArray) ++ c57)).size + (⟨#[59, 10]⟩ : ByteArray).size ≤ 140737488355328 ∧
 cordonref_PrintOf_I2 a0 R n2 ((v50 ++ ((⟨#[32]⟩ : ByteArray) ++ c57)) ++ (⟨#[59, 10]⟩ : ByteArray)) (w64 (v6 + 1)))
 (v50.size + (⟨#[59, 10]⟩ : ByteArray).size ≤ 140737488355328 ∧
 cordonref_PrintOf_I2 a0 R n2 (v50 ++ (⟨#[59, 10]⟩ : ByteArray)) (w64 (v6 + 1)))))) := by kernel_rfl
theorem cordonref_PrintOf_I9_6_eq (a0 : MdlD) (R : D → Prop) (n2 : Nat) (v6 : Int) (n9_6 : Nat) (v63 : ByteArray) (v64 : Int) : cordonref_PrintOf_I9_6 a0 R n2 v6 (n9_6 + 1) v63 v64 =
 (sel (decide (v64 < (((at' .con a0.cons v6.toNat).vars).length : Int)))
 (sel (decide (((at' .con a0.cons v6.toNat).kind) = 5))
 (inb v64 ((at' .con a0.cons v6.toNat).vars).length = true ∧
 inb (at' .int ((at' .con a0.cons v6.toNat).vars) v64.toNat) a0.vars.length = true ∧
 (⟨#[32]⟩ : ByteArray).size + ((at' .var a0.vars ((at' .int ((at' .con a0.cons v6.toNat).vars) v64.toNat).toNat)).name).size ≤ 140737488355328 ∧
 v63.size + ((⟨#[32]⟩ : ByteArray) ++ ((at' .var a0.vars ((at' .int ((at' .con a0.cons v6.toNat).vars) v64.toNat).toNat)).name)).size ≤ 140737488355328 ∧
 cordonref_PrintOf_I9_6 a0 R n2 v6 n9_6 (v63 ++ ((⟨#[32]⟩ : ByteArray) ++ ((at' .var a0.vars ((at' .int ((at' .con a0.cons v6.toNat).vars) v64.toNat).toNat)).name))) (w64 (v64 + 1)))
 (sel (decide (((at' .con a0.cons v6.toNat).kind) = 7))
 (inb v64 ((at' .con a0.cons v6.toNat).vars).length = true ∧
 inb (at' .int ((at' .con a0.cons v6.toNat).vars) v64.toNat) a0.vars.length = true ∧
 (⟨#[32]⟩ : ByteArray).size + ((at' .var a0.vars ((at' .int ((at' .con a0.cons v6.toNat).vars) v64.toNat).toNat)).name).size ≤ 140737488355328 ∧
 v63.size + ((⟨#[32]⟩ : ByteArray) ++ ((at' .var a0.vars ((at' .int ((at' .con a0.cons v6.toNat).vars) v64.toNat).toNat)).name)).size ≤ 140737488355328 ∧
 cordonref_PrintOf_I9_6 a0 R n2 v6 n9_6 (v63 ++ ((⟨#[32]⟩ : ByteArray) ++ ((at' .var a0.vars ((at' .int ((at' .con a0.cons v6.toNat).vars) v64.toNat).toNat)).name))) (w64 (v64 + 1)))
 (sel (decide (((at' .con a0.cons v6.toNat).kind) = 10))
 (inb v64 ((at' .con a0.cons v6.toNat).vars).length = true ∧
 inb (at' .int ((at' .con a0.cons v6.toNat).vars) v64.toNat) a0.vars.length = true ∧
 (⟨#[32]⟩ : ByteArray).size + ((at' .var a0.vars ((at' .int ((at' .con a0.cons v6.toNat).vars) v64.toNat).toNat)).name).size ≤ 140737488355328 ∧
 v63.size + ((⟨#[32]⟩ : ByteArray) ++ ((at' .var a0.vars ((at' .int ((at' .con a0.cons v6.toNat).vars) v64.toNat).toNat)).name)).size ≤ 140737488355328 ∧
 cordonref_PrintOf_I9_6 a0 R n2 v6 n9_6 (v63 ++ ((⟨#[32]⟩ : ByteArray) ++ ((at' .var a0.vars ((at' .int ((at' .con a0.cons v6.toNat).vars) v64.toNat).toNat)).name))) (w64 (v64 + 1)))
 (sel (decide (((at' .con a0.cons v6.toNat).kind) = 8))
 (inb 0 ((at' .con a0.cons v6.toNat).vars).length = true ∧
 inb (at' .int ((at' .con a0.cons v6.toNat).vars) 0) a0.vars.length = true ∧
 (⟨#[32]⟩ : ByteArray).size + ((at' .var a0.vars ((at' .int ((at' .con a0.cons v6.toNat).vars) 0).toNat)).name).size ≤ 140737488355328 ∧
 ((⟨#[32]⟩ : ByteArray) ++ ((at' .var a0.vars ((at' .int ((at' .con a0.cons v6.toNat).vars) 0).toNat)).name)).size + (⟨#[32]⟩ : ByteArray).size ≤ 140737488355328 ∧
 inSl 1 (((at' .con a0.cons v6.toNat).vars).length : Int) ((at' .con a0.cons v6.toNat).vars).length = true ∧
 Call1 Tryz.prog f_cordonref_namesText [dM a0, .sl .int ((((at' .con a0.cons v6.toNat).vars).take (((at' .con a0.cons v6.toNat).vars).length : Int).toNat).drop 1)] .str fun c65 =>
 (((⟨#[32]⟩ : ByteArray) ++ ((at' .var a0.vars ((at' .int ((at' .con a0.cons v6.toNat).vars) 0).toNat)).name)) ++ (⟨#[32]⟩ : ByteArray)).size + c65.size ≤ 140737488355328 ∧
 v63.size + ((((⟨#[32]⟩ : ByteArray) ++ ((at' .var a0.vars ((at' .int ((at' .con a0.cons v6.toNat).vars) 0).toNat)).name)) ++ (⟨#[32]⟩ : ByteArray)) ++ c65).size ≤ 140737488355328 ∧
 sel (decide (((at' .con a0.cons v6.toNat).kind) = 10))
 (inb 0 ((at' .con a0.cons v6.toNat).lits).length = true ∧
 Call1 Tryz.prog f_cordonref_litText [dM a0, dL (at' .lit ((at' .con a0.cons v6.toNat).lits) 0)] .str fun c66 =>
 (⟨#[32]⟩ : ByteArray).size + c66.size ≤ 140737488355328 ∧
 (v63 ++ ((((⟨#[32]⟩ : ByteArray) ++ ((at' .var a0.vars ((at' .int ((at' .con a0.cons v6.toNat).vars) 0).toNat)).name)) ++ (⟨#[32]⟩ : ByteArray)) ++ c65)).size + ((⟨#[32]⟩ : ByteArray) ++ c66).size ≤ 140737488355328 ∧
 ((v63 ++ ((((⟨#[32]⟩ : ByteArray) ++ ((at' .var a0.vars ((at' .int ((at' .con a0.cons v6.toNat).vars) 0).toNat)).name)) ++ (⟨#[32]⟩ : ByteArray)) ++ c65)) ++ ((⟨#[32]⟩ : ByteArray) ++ c66)).size + (⟨#[59, 10]⟩ : ByteArray).size ≤ 140737488355328 ∧
 cordonref_PrintOf_I2 a0 R n2 (((v63 ++ ((((⟨#[32]⟩ : ByteArray) ++ ((at' .var a0.vars ((at' .int ((at' .con a0.cons v6.toNat).vars) 0).toNat)).name)) ++ (⟨#[32]⟩ : ByteArray)) ++ c65)) ++ ((⟨#[32]⟩ : ByteArray) ++ c66)) ++ (⟨#[59, 10]⟩ : ByteArray)) (w64 (v6 + 1)))
 ((v63 ++ ((((⟨#[32]⟩ : ByteArray) ++ ((at' .var a0.vars ((at' .int ((at' .con a0.cons v6.toNat).vars) 0).toNat)).name)) ++ (⟨#[32]⟩ : ByteArray)) ++ c65)).size + (⟨#[59, 10]⟩ : ByteArray).size ≤ 140737488355328 ∧
 cordonref_PrintOf_I2 a0 R n2 ((v63 ++ ((((⟨#[32]⟩ : ByteArray) ++ ((at' .var a0.vars ((at' .int ((at' .con a0.cons v6.toNat).vars) 0).toNat)).name)) ++ (⟨#[32]⟩ : ByteArray)) ++ c65)) ++ (⟨#[59, 10]⟩ : ByteArray)) (w64 (v6 + 1))))
 (sel (decide (((at' .con a0.cons v6.toNat).kind) = 10))
 (inb 0 ((at' .con a0.cons v6.toNat).lits).length = true ∧
 Call1 Tryz.prog f_cordonref_litText [dM a0, dL (at' .lit ((at' .con a0.cons v6.toNat).lits) 0)] .str fun c67 =>
 (⟨#[32]⟩ : ByteArray).size + c67.size ≤ 140737488355328 ∧
 v63.size + ((⟨#[32]⟩ : ByteArray) ++ c67).size ≤ 140737488355328 ∧
 (v63 ++ ((⟨#[32]⟩ : ByteArray) ++ c67)).size + (⟨#[59, 10]⟩ : ByteArray).size ≤ 140737488355328 ∧
 cordonref_PrintOf_I2 a0 R n2 ((v63 ++ ((⟨#[32]⟩ : ByteArray) ++ c67)) ++ (⟨#[59, 10]⟩ : ByteArray)) (w64 (v6 + 1)))
 (v63.size + (⟨#[59, 10]⟩ : ByteArray).size ≤ 140737488355328 ∧
 cordonref_PrintOf_I2 a0 R n2 (v63 ++ (⟨#[59, 10]⟩ : ByteArray)) (w64 (v6 + 1))))))))
 (sel (decide (((at' .con a0.cons v6.toNat).kind) = 8))
 (inb 0 ((at' .con a0.cons v6.toNat).vars).length = true ∧
 inb (at' .int ((at' .con a0.cons v6.toNat).vars) 0) a0.vars.length = true ∧
 (⟨#[32]⟩ : ByteArray).size + ((at' .var a0.vars ((at' .int ((at' .con a0.cons v6.toNat).vars) 0).toNat)).name).size ≤ 140737488355328 ∧
 ((⟨#[32]⟩ : ByteArray) ++ ((at' .var a0.vars ((at' .int ((at' .con a0.cons v6.toNat).vars) 0).toNat)).name)).size + (⟨#[32]⟩ : ByteArray).size ≤ 140737488355328 ∧
 inSl 1 (((at' .con a0.cons v6.toNat).vars).length : Int) ((at' .con a0.cons v6.toNat).vars).length = true ∧
 Call1 Tryz.prog f_cordonref_namesText [dM a0, .sl .int ((((at' .con a0.cons v6.toNat).vars).take (((at' .con a0.cons v6.toNat).vars).length : Int).toNat).drop 1)] .str fun c68 =>
 (((⟨#[32]⟩ : ByteArray) ++ ((at' .var a0.vars ((at' .int ((at' .con a0.cons v6.toNat).vars) 0).toNat)).name)) ++ (⟨#[32]⟩ : ByteArray)).size + c68.size ≤ 140737488355328 ∧
 v63.size + ((((⟨#[32]⟩ : ByteArray) ++ ((at' .var a0.vars ((at' .int ((at' .con a0.cons v6.toNat).vars) 0).toNat)).name)) ++ (⟨#[32]⟩ : ByteArray)) ++ c68).size ≤ 140737488355328 ∧
 sel (decide (((at' .con a0.cons v6.toNat).kind) = 10))
 (inb 0 ((at' .con a0.cons v6.toNat).lits).length = true ∧
 Call1 Tryz.prog f_cordonref_litText [dM a0, dL (at' .lit ((at' .con a0.cons v6.toNat).lits) 0)] .str fun c69 =>
 (⟨#[32]⟩ : ByteArray).size + c69.size ≤ 140737488355328 ∧
 (v63 ++ ((((⟨#[32]⟩ : ByteArray) ++ ((at' .var a0.vars ((at' .int ((at' .con a0.cons v6.toNat).vars) 0).toNat)).name)) ++ (⟨#[32]⟩ : ByteArray)) ++ c68)).size + ((⟨#[32]⟩ : ByteArray) ++ c69).size ≤ 140737488355328 ∧
 ((v63 ++ ((((⟨#[32]⟩ : ByteArray) ++ ((at' .var a0.vars ((at' .int ((at' .con a0.cons v6.toNat).vars) 0).toNat)).name)) ++ (⟨#[32]⟩ : ByteArray)) ++ c68)) ++ ((⟨#[32]⟩ : ByteArray) ++ c69)).size + (⟨#[59, 10]⟩ : ByteArray).size ≤ 140737488355328 ∧
 cordonref_PrintOf_I2 a0 R n2 (((v63 ++ ((((⟨#[32]⟩ : ByteArray) ++ ((at' .var a0.vars ((at' .int ((at' .con a0.cons v6.toNat).vars) 0).toNat)).name)) ++ (⟨#[32]⟩ : ByteArray)) ++ c68)) ++ ((⟨#[32]⟩ : ByteArray) ++ c69)) ++ (⟨#[59, 10]⟩ : ByteArray)) (w64 (v6 + 1)))
 ((v63 ++ ((((⟨#[32]⟩ : ByteArray) ++ ((at' .var a0.vars ((at' .int ((at' .con a0.cons v6.toNat).vars) 0).toNat)).name)) ++ (⟨#[32]⟩ : ByteArray)) ++ c68)).size + (⟨#[59, 10]⟩ : ByteArray).size ≤ 140737488355328 ∧
 cordonref_PrintOf_I2 a0 R n2 ((v63 ++ ((((⟨#[32]⟩ : ByteArray) ++ ((at' .var a0.vars ((at' .int ((at' .con a0.cons v6.toNat).vars) 0).toNat)).name)) ++ (⟨#[32]⟩ : ByteArray)) ++ c68)) ++ (⟨#[59, 10]⟩ : ByteArray)) (w64 (v6 + 1))))
 (sel (decide (((at' .con a0.cons v6.toNat).kind) = 10))
 (inb 0 ((at' .con a0.cons v6.toNat).lits).length = true ∧
 Call1 Tryz.prog f_cordonref_litText [dM a0, dL (at' .lit ((at' .con a0.cons v6.toNat).lits) 0)] .str fun c70 =>
 (⟨#[32]⟩ : ByteArray).size + c70.size ≤ 140737488355328 ∧
 v63.size + ((⟨#[32]⟩ : ByteArray) ++ c70).size ≤ 140737488355328 ∧
 (v63 ++ ((⟨#[32]⟩ : ByteArray) ++ c70)).size + (⟨#[59, 10]⟩ : ByteArray).size ≤ 140737488355328 ∧
 cordonref_PrintOf_I2 a0 R n2 ((v63 ++ ((⟨#[32]⟩ : ByteArray) ++ c70)) ++ (⟨#[59, 10]⟩ : ByteArray)) (w64 (v6 + 1)))
 (v63.size + (⟨#[59, 10]⟩ : ByteArray).size ≤ 140737488355328 ∧
 cordonref_PrintOf_I2 a0 R n2 (v63 ++ (⟨#[59, 10]⟩ : ByteArray)) (w64 (v6 + 1)))))) := by kernel_rfl
theorem cordonref_PrintOf_I5_eq (a0 : MdlD) (R : D → Prop) (n2 : Nat) (v5 : ByteArray) (v6 : Int) (n5 : Nat) (v58 : Int) (l59 : List ByteArray) : cordonref_PrintOf_I5 a0 R n2 v5 v6 (n5 + 1) v58 l59 =
 (sel (decide (v58 < (((at' .con a0.cons v6.toNat).rows).length : Int)))
 (inb v58 ((at' .con a0.cons v6.toNat).rows).length = true ∧
 Call1 Tryz.prog f_cordonref_numbersText [.sl .int (at' (.list .int) ((at' .con a0.cons v6.toNat).rows) v58.toNat)] .str fun c60 =>
 room .str (l59.length + ([c60]).length) = true ∧
 cordonref_PrintOf_I5 a0 R n2 v5 v6 n5 (w64 (v58 + 1)) (l59 ++ ([c60])))
 (Call1 Tryz.prog f_cordonref_namesText [dM a0, .sl .int ((at' .con a0.cons v6.toNat).vars)] .str fun c61 =>
 (⟨#[32]⟩ : ByteArray).size + c61.size ≤ 140737488355328 ∧
 ((⟨#[32]⟩ : ByteArray) ++ c61).size + (⟨#[32]⟩ : ByteArray).size ≤ 140737488355328 ∧
 Call1 Tryz.prog f_cordonref_Brackets [.sl .str l59] .str fun c62 =>
 (((⟨#[32]⟩ : ByteArray) ++ c61) ++ (⟨#[32]⟩ : ByteArray)).size + c62.size ≤ 140737488355328 ∧
 (v5 ++ ((⟨#[99, 111, 110, 32]⟩ : ByteArray) ++ (at' .str ([(⟨#[]⟩ : ByteArray), (⟨#[108, 101]⟩ : ByteArray), (⟨#[101, 113]⟩ : ByteArray), (⟨#[110, 101]⟩ : ByteArray), (⟨#[100, 105, 102, 102, 101, 114]⟩ : ByteArray), (⟨#[101, 108, 101, 109, 101, 110, 116]⟩ : ByteArray), (⟨#[116, 97, 98, 108, 101]⟩ : ByteArray), (⟨#[116, 105, 109, 101, 115]⟩ : ByteArray), (⟨#[109, 97, 120]⟩ : ByteArray), (⟨#[99, 108, 97, 117, 115, 101]⟩ : ByteArray), (⟨#[105, 102, 102]⟩ : ByteArray)]) (((at' .con a0.cons v6.toNat).kind).toNat)))).size + ((((⟨#[32]⟩ : ByteArray) ++ c61) ++ (⟨#[32]⟩ : ByteArray)) ++ c62).size ≤ 140737488355328 ∧
 ∃ n9_6, cordonref_PrintOf_I9_6 a0 R n2 v6 n9_6 ((v5 ++ ((⟨#[99, 111, 110, 32]⟩ : ByteArray) ++ (at' .str ([(⟨#[]⟩ : ByteArray), (⟨#[108, 101]⟩ : ByteArray), (⟨#[101, 113]⟩ : ByteArray), (⟨#[110, 101]⟩ : ByteArray), (⟨#[100, 105, 102, 102, 101, 114]⟩ : ByteArray), (⟨#[101, 108, 101, 109, 101, 110, 116]⟩ : ByteArray), (⟨#[116, 97, 98, 108, 101]⟩ : ByteArray), (⟨#[116, 105, 109, 101, 115]⟩ : ByteArray), (⟨#[109, 97, 120]⟩ : ByteArray), (⟨#[99, 108, 97, 117, 115, 101]⟩ : ByteArray), (⟨#[105, 102, 102]⟩ : ByteArray)]) (((at' .con a0.cons v6.toNat).kind).toNat)))) ++ ((((⟨#[32]⟩ : ByteArray) ++ c61) ++ (⟨#[32]⟩ : ByteArray)) ++ c62)) 0)) := by kernel_rfl
theorem cordonref_PrintOf_I9_7_eq (a0 : MdlD) (R : D → Prop) (n2 : Nat) (v6 : Int) (n9_7 : Nat) (v75 : ByteArray) (v76 : Int) : cordonref_PrintOf_I9_7 a0 R n2 v6 (n9_7 + 1) v75 v76 =
 (sel (decide (v76 < (((at' .con a0.cons v6.toNat).vars).length : Int)))
 (sel (decide (((at' .con a0.cons v6.toNat).kind) = 5))
 (inb v76 ((at' .con a0.cons v6.toNat).vars).length = true ∧
 inb (at' .int ((at' .con a0.cons v6.toNat).vars) v76.toNat) a0.vars.length = true ∧
 (⟨#[32]⟩ : ByteArray).size + ((at' .var a0.vars ((at' .int ((at' .con a0.cons v6.toNat).vars) v76.toNat).toNat)).name).size ≤ 140737488355328 ∧
 v75.size + ((⟨#[32]⟩ : ByteArray) ++ ((at' .var a0.vars ((at' .int ((at' .con a0.cons v6.toNat).vars) v76.toNat).toNat)).name)).size ≤ 140737488355328 ∧
 cordonref_PrintOf_I9_7 a0 R n2 v6 n9_7 (v75 ++ ((⟨#[32]⟩ : ByteArray) ++ ((at' .var a0.vars ((at' .int ((at' .con a0.cons v6.toNat).vars) v76.toNat).toNat)).name))) (w64 (v76 + 1)))
 (sel (decide (((at' .con a0.cons v6.toNat).kind) = 7))
 (inb v76 ((at' .con a0.cons v6.toNat).vars).length = true ∧
 inb (at' .int ((at' .con a0.cons v6.toNat).vars) v76.toNat) a0.vars.length = true ∧
 (⟨#[32]⟩ : ByteArray).size + ((at' .var a0.vars ((at' .int ((at' .con a0.cons v6.toNat).vars) v76.toNat).toNat)).name).size ≤ 140737488355328 ∧
 v75.size + ((⟨#[32]⟩ : ByteArray) ++ ((at' .var a0.vars ((at' .int ((at' .con a0.cons v6.toNat).vars) v76.toNat).toNat)).name)).size ≤ 140737488355328 ∧
 cordonref_PrintOf_I9_7 a0 R n2 v6 n9_7 (v75 ++ ((⟨#[32]⟩ : ByteArray) ++ ((at' .var a0.vars ((at' .int ((at' .con a0.cons v6.toNat).vars) v76.toNat).toNat)).name))) (w64 (v76 + 1)))
 (sel (decide (((at' .con a0.cons v6.toNat).kind) = 10))
 (inb v76 ((at' .con a0.cons v6.toNat).vars).length = true ∧
 inb (at' .int ((at' .con a0.cons v6.toNat).vars) v76.toNat) a0.vars.length = true ∧
 (⟨#[32]⟩ : ByteArray).size + ((at' .var a0.vars ((at' .int ((at' .con a0.cons v6.toNat).vars) v76.toNat).toNat)).name).size ≤ 140737488355328 ∧
 v75.size + ((⟨#[32]⟩ : ByteArray) ++ ((at' .var a0.vars ((at' .int ((at' .con a0.cons v6.toNat).vars) v76.toNat).toNat)).name)).size ≤ 140737488355328 ∧
 cordonref_PrintOf_I9_7 a0 R n2 v6 n9_7 (v75 ++ ((⟨#[32]⟩ : ByteArray) ++ ((at' .var a0.vars ((at' .int ((at' .con a0.cons v6.toNat).vars) v76.toNat).toNat)).name))) (w64 (v76 + 1)))
 (sel (decide (((at' .con a0.cons v6.toNat).kind) = 8))
 (inb 0 ((at' .con a0.cons v6.toNat).vars).length = true ∧
 inb (at' .int ((at' .con a0.cons v6.toNat).vars) 0) a0.vars.length = true ∧
 (⟨#[32]⟩ : ByteArray).size + ((at' .var a0.vars ((at' .int ((at' .con a0.cons v6.toNat).vars) 0).toNat)).name).size ≤ 140737488355328 ∧
 ((⟨#[32]⟩ : ByteArray) ++ ((at' .var a0.vars ((at' .int ((at' .con a0.cons v6.toNat).vars) 0).toNat)).name)).size + (⟨#[32]⟩ : ByteArray).size ≤ 140737488355328 ∧
 inSl 1 (((at' .con a0.cons v6.toNat).vars).length : Int) ((at' .con a0.cons v6.toNat).vars).length = true ∧
 Call1 Tryz.prog f_cordonref_namesText [dM a0, .sl .int ((((at' .con a0.cons v6.toNat).vars).take (((at' .con a0.cons v6.toNat).vars).length : Int).toNat).drop 1)] .str fun c77 =>
 (((⟨#[32]⟩ : ByteArray) ++ ((at' .var a0.vars ((at' .int ((at' .con a0.cons v6.toNat).vars) 0).toNat)).name)) ++ (⟨#[32]⟩ : ByteArray)).size + c77.size ≤ 140737488355328 ∧
 v75.size + ((((⟨#[32]⟩ : ByteArray) ++ ((at' .var a0.vars ((at' .int ((at' .con a0.cons v6.toNat).vars) 0).toNat)).name)) ++ (⟨#[32]⟩ : ByteArray)) ++ c77).size ≤ 140737488355328 ∧
 sel (decide (((at' .con a0.cons v6.toNat).kind) = 10))
 (inb 0 ((at' .con a0.cons v6.toNat).lits).length = true ∧
 Call1 Tryz.prog f_cordonref_litText [dM a0, dL (at' .lit ((at' .con a0.cons v6.toNat).lits) 0)] .str fun c78 =>
 (⟨#[32]⟩ : ByteArray).size + c78.size ≤ 140737488355328 ∧
 (v75 ++ ((((⟨#[32]⟩ : ByteArray) ++ ((at' .var a0.vars ((at' .int ((at' .con a0.cons v6.toNat).vars) 0).toNat)).name)) ++ (⟨#[32]⟩ : ByteArray)) ++ c77)).size + ((⟨#[32]⟩ : ByteArray) ++ c78).size ≤ 140737488355328 ∧
 ((v75 ++ ((((⟨#[32]⟩ : ByteArray) ++ ((at' .var a0.vars ((at' .int ((at' .con a0.cons v6.toNat).vars) 0).toNat)).name)) ++ (⟨#[32]⟩ : ByteArray)) ++ c77)) ++ ((⟨#[32]⟩ : ByteArray) ++ c78)).size + (⟨#[59, 10]⟩ : ByteArray).size ≤ 140737488355328 ∧
 cordonref_PrintOf_I2 a0 R n2 (((v75 ++ ((((⟨#[32]⟩ : ByteArray) ++ ((at' .var a0.vars ((at' .int ((at' .con a0.cons v6.toNat).vars) 0).toNat)).name)) ++ (⟨#[32]⟩ : ByteArray)) ++ c77)) ++ ((⟨#[32]⟩ : ByteArray) ++ c78)) ++ (⟨#[59, 10]⟩ : ByteArray)) (w64 (v6 + 1)))
 ((v75 ++ ((((⟨#[32]⟩ : ByteArray) ++ ((at' .var a0.vars ((at' .int ((at' .con a0.cons v6.toNat).vars) 0).toNat)).name)) ++ (⟨#[32]⟩ : ByteArray)) ++ c77)).size + (⟨#[59, 10]⟩ : ByteArray).size ≤ 140737488355328 ∧
 cordonref_PrintOf_I2 a0 R n2 ((v75 ++ ((((⟨#[32]⟩ : ByteArray) ++ ((at' .var a0.vars ((at' .int ((at' .con a0.cons v6.toNat).vars) 0).toNat)).name)) ++ (⟨#[32]⟩ : ByteArray)) ++ c77)) ++ (⟨#[59, 10]⟩ : ByteArray)) (w64 (v6 + 1))))
 (sel (decide (((at' .con a0.cons v6.toNat).kind) = 10))
 (inb 0 ((at' .con a0.cons v6.toNat).lits).length = true ∧
 Call1 Tryz.prog f_cordonref_litText [dM a0, dL (at' .lit ((at' .con a0.cons v6.toNat).lits) 0)] .str fun c79 =>
 (⟨#[32]⟩ : ByteArray).size + c79.size ≤ 140737488355328 ∧
 v75.size + ((⟨#[32]⟩ : ByteArray) ++ c79).size ≤ 140737488355328 ∧
 (v75 ++ ((⟨#[32]⟩ : ByteArray) ++ c79)).size + (⟨#[59, 10]⟩ : ByteArray).size ≤ 140737488355328 ∧
 cordonref_PrintOf_I2 a0 R n2 ((v75 ++ ((⟨#[32]⟩ : ByteArray) ++ c79)) ++ (⟨#[59, 10]⟩ : ByteArray)) (w64 (v6 + 1)))
 (v75.size + (⟨#[59, 10]⟩ : ByteArray).size ≤ 140737488355328 ∧
 cordonref_PrintOf_I2 a0 R n2 (v75 ++ (⟨#[59, 10]⟩ : ByteArray)) (w64 (v6 + 1))))))))
 (sel (decide (((at' .con a0.cons v6.toNat).kind) = 8))
 (inb 0 ((at' .con a0.cons v6.toNat).vars).length = true ∧
 inb (at' .int ((at' .con a0.cons v6.toNat).vars) 0) a0.vars.length = true ∧
 (⟨#[32]⟩ : ByteArray).size + ((at' .var a0.vars ((at' .int ((at' .con a0.cons v6.toNat).vars) 0).toNat)).name).size ≤ 140737488355328 ∧
 ((⟨#[32]⟩ : ByteArray) ++ ((at' .var a0.vars ((at' .int ((at' .con a0.cons v6.toNat).vars) 0).toNat)).name)).size + (⟨#[32]⟩ : ByteArray).size ≤ 140737488355328 ∧
 inSl 1 (((at' .con a0.cons v6.toNat).vars).length : Int) ((at' .con a0.cons v6.toNat).vars).length = true ∧
 Call1 Tryz.prog f_cordonref_namesText [dM a0, .sl .int ((((at' .con a0.cons v6.toNat).vars).take (((at' .con a0.cons v6.toNat).vars).length : Int).toNat).drop 1)] .str fun c80 =>
 (((⟨#[32]⟩ : ByteArray) ++ ((at' .var a0.vars ((at' .int ((at' .con a0.cons v6.toNat).vars) 0).toNat)).name)) ++ (⟨#[32]⟩ : ByteArray)).size + c80.size ≤ 140737488355328 ∧
 v75.size + ((((⟨#[32]⟩ : ByteArray) ++ ((at' .var a0.vars ((at' .int ((at' .con a0.cons v6.toNat).vars) 0).toNat)).name)) ++ (⟨#[32]⟩ : ByteArray)) ++ c80).size ≤ 140737488355328 ∧
 sel (decide (((at' .con a0.cons v6.toNat).kind) = 10))
 (inb 0 ((at' .con a0.cons v6.toNat).lits).length = true ∧
 Call1 Tryz.prog f_cordonref_litText [dM a0, dL (at' .lit ((at' .con a0.cons v6.toNat).lits) 0)] .str fun c81 =>
 (⟨#[32]⟩ : ByteArray).size + c81.size ≤ 140737488355328 ∧
 (v75 ++ ((((⟨#[32]⟩ : ByteArray) ++ ((at' .var a0.vars ((at' .int ((at' .con a0.cons v6.toNat).vars) 0).toNat)).name)) ++ (⟨#[32]⟩ : ByteArray)) ++ c80)).size + ((⟨#[32]⟩ : ByteArray) ++ c81).size ≤ 140737488355328 ∧
 ((v75 ++ ((((⟨#[32]⟩ : ByteArray) ++ ((at' .var a0.vars ((at' .int ((at' .con a0.cons v6.toNat).vars) 0).toNat)).name)) ++ (⟨#[32]⟩ : ByteArray)) ++ c80)) ++ ((⟨#[32]⟩ : ByteArray) ++ c81)).size + (⟨#[59, 10]⟩ : ByteArray).size ≤ 140737488355328 ∧
 cordonref_PrintOf_I2 a0 R n2 (((v75 ++ ((((⟨#[32]⟩ : ByteArray) ++ ((at' .var a0.vars ((at' .int ((at' .con a0.cons v6.toNat).vars) 0).toNat)).name)) ++ (⟨#[32]⟩ : ByteArray)) ++ c80)) ++ ((⟨#[32]⟩ : ByteArray) ++ c81)) ++ (⟨#[59, 10]⟩ : ByteArray)) (w64 (v6 + 1)))
 ((v75 ++ ((((⟨#[32]⟩ : ByteArray) ++ ((at' .var a0.vars ((at' .int ((at' .con a0.cons v6.toNat).vars) 0).toNat)).name)) ++ (⟨#[32]⟩ : ByteArray)) ++ c80)).size + (⟨#[59, 10]⟩ : ByteArray).size ≤ 140737488355328 ∧
 cordonref_PrintOf_I2 a0 R n2 ((v75 ++ ((((⟨#[32]⟩ : ByteArray) ++ ((at' .var a0.vars ((at' .int ((at' .con a0.cons v6.toNat).vars) 0).toNat)).name)) ++ (⟨#[32]⟩ : ByteArray)) ++ c80)) ++ (⟨#[59, 10]⟩ : ByteArray)) (w64 (v6 + 1))))
 (sel (decide (((at' .con a0.cons v6.toNat).kind) = 10))
 (inb 0 ((at' .con a0.cons v6.toNat).lits).length = true ∧
 Call1 Tryz.prog f_cordonref_litText [dM a0, dL (at' .lit ((at' .con a0.cons v6.toNat).lits) 0)] .str fun c82 =>
 (⟨#[32]⟩ : ByteArray).size + c82.size ≤ 140737488355328 ∧
 v75.size + ((⟨#[32]⟩ : ByteArray) ++ c82).size ≤ 140737488355328 ∧
 (v75 ++ ((⟨#[32]⟩ : ByteArray) ++ c82)).size + (⟨#[59, 10]⟩ : ByteArray).size ≤ 140737488355328 ∧
 cordonref_PrintOf_I2 a0 R n2 ((v75 ++ ((⟨#[32]⟩ : ByteArray) ++ c82)) ++ (⟨#[59, 10]⟩ : ByteArray)) (w64 (v6 + 1)))
 (v75.size + (⟨#[59, 10]⟩ : ByteArray).size ≤ 140737488355328 ∧
 cordonref_PrintOf_I2 a0 R n2 (v75 ++ (⟨#[59, 10]⟩ : ByteArray)) (w64 (v6 + 1)))))) := by kernel_rfl
theorem cordonref_PrintOf_I7_eq (a0 : MdlD) (R : D → Prop) (n2 : Nat) (v5 : ByteArray) (v6 : Int) (n7 : Nat) (v71 : Int) (l72 : List ByteArray) : cordonref_PrintOf_I7 a0 R n2 v5 v6 (n7 + 1) v71 l72 =
 (sel (decide (v71 < (((at' .con a0.cons v6.toNat).lits).length : Int)))
 (inb v71 ((at' .con a0.cons v6.toNat).lits).length = true ∧
 Call1 Tryz.prog f_cordonref_litText [dM a0, dL (at' .lit ((at' .con a0.cons v6.toNat).lits) v71.toNat)] .str fun c73 =>
 room .str (l72.length + ([c73]).length) = true ∧
 cordonref_PrintOf_I7 a0 R n2 v5 v6 n7 (w64 (v71 + 1)) (l72 ++ ([c73])))
 (Call1 Tryz.prog f_cordonref_Brackets [.sl .str l72] .str fun c74 =>
 (⟨#[32]⟩ : ByteArray).size + c74.size ≤ 140737488355328 ∧
 (v5 ++ ((⟨#[99, 111, 110, 32]⟩ : ByteArray) ++ (at' .str ([(⟨#[]⟩ : ByteArray), (⟨#[108, 101]⟩ : ByteArray), (⟨#[101, 113]⟩ : ByteArray), (⟨#[110, 101]⟩ : ByteArray), (⟨#[100, 105, 102, 102, 101, 114]⟩ : ByteArray), (⟨#[101, 108, 101, 109, 101, 110, 116]⟩ : ByteArray), (⟨#[116, 97, 98, 108, 101]⟩ : ByteArray), (⟨#[116, 105, 109, 101, 115]⟩ : ByteArray), (⟨#[109, 97, 120]⟩ : ByteArray), (⟨#[99, 108, 97, 117, 115, 101]⟩ : ByteArray), (⟨#[105, 102, 102]⟩ : ByteArray)]) (((at' .con a0.cons v6.toNat).kind).toNat)))).size + ((⟨#[32]⟩ : ByteArray) ++ c74).size ≤ 140737488355328 ∧
 ∃ n9_7, cordonref_PrintOf_I9_7 a0 R n2 v6 n9_7 ((v5 ++ ((⟨#[99, 111, 110, 32]⟩ : ByteArray) ++ (at' .str ([(⟨#[]⟩ : ByteArray), (⟨#[108, 101]⟩ : ByteArray), (⟨#[101, 113]⟩ : ByteArray), (⟨#[110, 101]⟩ : ByteArray), (⟨#[100, 105, 102, 102, 101, 114]⟩ : ByteArray), (⟨#[101, 108, 101, 109, 101, 110, 116]⟩ : ByteArray), (⟨#[116, 97, 98, 108, 101]⟩ : ByteArray), (⟨#[116, 105, 109, 101, 115]⟩ : ByteArray), (⟨#[109, 97, 120]⟩ : ByteArray), (⟨#[99, 108, 97, 117, 115, 101]⟩ : ByteArray), (⟨#[105, 102, 102]⟩ : ByteArray)]) (((at' .con a0.cons v6.toNat).kind).toNat)))) ++ ((⟨#[32]⟩ : ByteArray) ++ c74)) 0)) := by kernel_rfl
theorem cordonref_PrintOf_I9_8_eq (a0 : MdlD) (R : D → Prop) (n2 : Nat) (v6 : Int) (n9_8 : Nat) (v83 : ByteArray) (v84 : Int) : cordonref_PrintOf_I9_8 a0 R n2 v6 (n9_8 + 1) v83 v84 =
 (sel (decide (v84 < (((at' .con a0.cons v6.toNat).vars).length : Int)))
 (sel (decide (((at' .con a0.cons v6.toNat).kind) = 5))
 (inb v84 ((at' .con a0.cons v6.toNat).vars).length = true ∧
 inb (at' .int ((at' .con a0.cons v6.toNat).vars) v84.toNat) a0.vars.length = true ∧
 (⟨#[32]⟩ : ByteArray).size + ((at' .var a0.vars ((at' .int ((at' .con a0.cons v6.toNat).vars) v84.toNat).toNat)).name).size ≤ 140737488355328 ∧
 v83.size + ((⟨#[32]⟩ : ByteArray) ++ ((at' .var a0.vars ((at' .int ((at' .con a0.cons v6.toNat).vars) v84.toNat).toNat)).name)).size ≤ 140737488355328 ∧
 cordonref_PrintOf_I9_8 a0 R n2 v6 n9_8 (v83 ++ ((⟨#[32]⟩ : ByteArray) ++ ((at' .var a0.vars ((at' .int ((at' .con a0.cons v6.toNat).vars) v84.toNat).toNat)).name))) (w64 (v84 + 1)))
 (sel (decide (((at' .con a0.cons v6.toNat).kind) = 7))
 (inb v84 ((at' .con a0.cons v6.toNat).vars).length = true ∧
 inb (at' .int ((at' .con a0.cons v6.toNat).vars) v84.toNat) a0.vars.length = true ∧
 (⟨#[32]⟩ : ByteArray).size + ((at' .var a0.vars ((at' .int ((at' .con a0.cons v6.toNat).vars) v84.toNat).toNat)).name).size ≤ 140737488355328 ∧
 v83.size + ((⟨#[32]⟩ : ByteArray) ++ ((at' .var a0.vars ((at' .int ((at' .con a0.cons v6.toNat).vars) v84.toNat).toNat)).name)).size ≤ 140737488355328 ∧
 cordonref_PrintOf_I9_8 a0 R n2 v6 n9_8 (v83 ++ ((⟨#[32]⟩ : ByteArray) ++ ((at' .var a0.vars ((at' .int ((at' .con a0.cons v6.toNat).vars) v84.toNat).toNat)).name))) (w64 (v84 + 1)))
 (sel (decide (((at' .con a0.cons v6.toNat).kind) = 10))
 (inb v84 ((at' .con a0.cons v6.toNat).vars).length = true ∧
 inb (at' .int ((at' .con a0.cons v6.toNat).vars) v84.toNat) a0.vars.length = true ∧
 (⟨#[32]⟩ : ByteArray).size + ((at' .var a0.vars ((at' .int ((at' .con a0.cons v6.toNat).vars) v84.toNat).toNat)).name).size ≤ 140737488355328 ∧
 v83.size + ((⟨#[32]⟩ : ByteArray) ++ ((at' .var a0.vars ((at' .int ((at' .con a0.cons v6.toNat).vars) v84.toNat).toNat)).name)).size ≤ 140737488355328 ∧
 cordonref_PrintOf_I9_8 a0 R n2 v6 n9_8 (v83 ++ ((⟨#[32]⟩ : ByteArray) ++ ((at' .var a0.vars ((at' .int ((at' .con a0.cons v6.toNat).vars) v84.toNat).toNat)).name))) (w64 (v84 + 1)))
 (sel (decide (((at' .con a0.cons v6.toNat).kind) = 8))
 (inb 0 ((at' .con a0.cons v6.toNat).vars).length = true ∧
 inb (at' .int ((at' .con a0.cons v6.toNat).vars) 0) a0.vars.length = true ∧
 (⟨#[32]⟩ : ByteArray).size + ((at' .var a0.vars ((at' .int ((at' .con a0.cons v6.toNat).vars) 0).toNat)).name).size ≤ 140737488355328 ∧
 ((⟨#[32]⟩ : ByteArray) ++ ((at' .var a0.vars ((at' .int ((at' .con a0.cons v6.toNat).vars) 0).toNat)).name)).size + (⟨#[32]⟩ : ByteArray).size ≤ 140737488355328 ∧
 inSl 1 (((at' .con a0.cons v6.toNat).vars).length : Int) ((at' .con a0.cons v6.toNat).vars).length = true ∧
 Call1 Tryz.prog f_cordonref_namesText [dM a0, .sl .int ((((at' .con a0.cons v6.toNat).vars).take (((at' .con a0.cons v6.toNat).vars).length : Int).toNat).drop 1)] .str fun c85 =>
 (((⟨#[32]⟩ : ByteArray) ++ ((at' .var a0.vars ((at' .int ((at' .con a0.cons v6.toNat).vars) 0).toNat)).name)) ++ (⟨#[32]⟩ : ByteArray)).size + c85.size ≤ 140737488355328 ∧
 v83.size + ((((⟨#[32]⟩ : ByteArray) ++ ((at' .var a0.vars ((at' .int ((at' .con a0.cons v6.toNat).vars) 0).toNat)).name)) ++ (⟨#[32]⟩ : ByteArray)) ++ c85).size ≤ 140737488355328 ∧
 sel (decide (((at' .con a0.cons v6.toNat).kind) = 10))
 (inb 0 ((at' .con a0.cons v6.toNat).lits).length = true ∧
 Call1 Tryz.prog f_cordonref_litText [dM a0, dL (at' .lit ((at' .con a0.cons v6.toNat).lits) 0)] .str fun c86 =>
 (⟨#[32]⟩ : ByteArray).size + c86.size ≤ 140737488355328 ∧
 (v83 ++ ((((⟨#[32]⟩ : ByteArray) ++ ((at' .var a0.vars ((at' .int ((at' .con a0.cons v6.toNat).vars) 0).toNat)).name)) ++ (⟨#[32]⟩ : ByteArray)) ++ c85)).size + ((⟨#[32]⟩ : ByteArray) ++ c86).size ≤ 140737488355328 ∧
 ((v83 ++ ((((⟨#[32]⟩ : ByteArray) ++ ((at' .var a0.vars ((at' .int ((at' .con a0.cons v6.toNat).vars) 0).toNat)).name)) ++ (⟨#[32]⟩ : ByteArray)) ++ c85)) ++ ((⟨#[32]⟩ : ByteArray) ++ c86)).size + (⟨#[59, 10]⟩ : ByteArray).size ≤ 140737488355328 ∧
 cordonref_PrintOf_I2 a0 R n2 (((v83 ++ ((((⟨#[32]⟩ : ByteArray) ++ ((at' .var a0.vars ((at' .int ((at' .con a0.cons v6.toNat).vars) 0).toNat)).name)) ++ (⟨#[32]⟩ : ByteArray)) ++ c85)) ++ ((⟨#[32]⟩ : ByteArray) ++ c86)) ++ (⟨#[59, 10]⟩ : ByteArray)) (w64 (v6 + 1)))
 ((v83 ++ ((((⟨#[32]⟩ : ByteArray) ++ ((at' .var a0.vars ((at' .int ((at' .con a0.cons v6.toNat).vars) 0).toNat)).name)) ++ (⟨#[32]⟩ : ByteArray)) ++ c85)).size + (⟨#[59, 10]⟩ : ByteArray).size ≤ 140737488355328 ∧
 cordonref_PrintOf_I2 a0 R n2 ((v83 ++ ((((⟨#[32]⟩ : ByteArray) ++ ((at' .var a0.vars ((at' .int ((at' .con a0.cons v6.toNat).vars) 0).toNat)).name)) ++ (⟨#[32]⟩ : ByteArray)) ++ c85)) ++ (⟨#[59, 10]⟩ : ByteArray)) (w64 (v6 + 1))))
 (sel (decide (((at' .con a0.cons v6.toNat).kind) = 10))
 (inb 0 ((at' .con a0.cons v6.toNat).lits).length = true ∧
 Call1 Tryz.prog f_cordonref_litText [dM a0, dL (at' .lit ((at' .con a0.cons v6.toNat).lits) 0)] .str fun c87 =>
 (⟨#[32]⟩ : ByteArray).size + c87.size ≤ 140737488355328 ∧
 v83.size + ((⟨#[32]⟩ : ByteArray) ++ c87).size ≤ 140737488355328 ∧
 (v83 ++ ((⟨#[32]⟩ : ByteArray) ++ c87)).size + (⟨#[59, 10]⟩ : ByteArray).size ≤ 140737488355328 ∧
 cordonref_PrintOf_I2 a0 R n2 ((v83 ++ ((⟨#[32]⟩ : ByteArray) ++ c87)) ++ (⟨#[59, 10]⟩ : ByteArray)) (w64 (v6 + 1)))
 (v83.size + (⟨#[59, 10]⟩ : ByteArray).size ≤ 140737488355328 ∧
 cordonref_PrintOf_I2 a0 R n2 (v83 ++ (⟨#[59, 10]⟩ : ByteArray)) (w64 (v6 + 1))))))))
 (sel (decide (((at' .con a0.cons v6.toNat).kind) = 8))
 (inb 0 ((at' .con a0.cons v6.toNat).vars).length = true ∧
 inb (at' .int ((at' .con a0.cons v6.toNat).vars) 0) a0.vars.length = true ∧
 (⟨#[32]⟩ : ByteArray).size + ((at' .var a0.vars ((at' .int ((at' .con a0.cons v6.toNat).vars) 0).toNat)).name).size ≤ 140737488355328 ∧
 ((⟨#[32]⟩ : ByteArray) ++ ((at' .var a0.vars ((at' .int ((at' .con a0.cons v6.toNat).vars) 0).toNat)).name)).size + (⟨#[32]⟩ : ByteArray).size ≤ 140737488355328 ∧
 inSl 1 (((at' .con a0.cons v6.toNat).vars).length : Int) ((at' .con a0.cons v6.toNat).vars).length = true ∧
 Call1 Tryz.prog f_cordonref_namesText [dM a0, .sl .int ((((at' .con a0.cons v6.toNat).vars).take (((at' .con a0.cons v6.toNat).vars).length : Int).toNat).drop 1)] .str fun c88 =>
 (((⟨#[32]⟩ : ByteArray) ++ ((at' .var a0.vars ((at' .int ((at' .con a0.cons v6.toNat).vars) 0).toNat)).name)) ++ (⟨#[32]⟩ : ByteArray)).size + c88.size ≤ 140737488355328 ∧
 v83.size + ((((⟨#[32]⟩ : ByteArray) ++ ((at' .var a0.vars ((at' .int ((at' .con a0.cons v6.toNat).vars) 0).toNat)).name)) ++ (⟨#[32]⟩ : ByteArray)) ++ c88).size ≤ 140737488355328 ∧
 sel (decide (((at' .con a0.cons v6.toNat).kind) = 10))
 (inb 0 ((at' .con a0.cons v6.toNat).lits).length = true ∧
 Call1 Tryz.prog f_cordonref_litText [dM a0, dL (at' .lit ((at' .con a0.cons v6.toNat).lits) 0)] .str fun c89 =>
 (⟨#[32]⟩ : ByteArray).size + c89.size ≤ 140737488355328 ∧
 (v83 ++ ((((⟨#[32]⟩ : ByteArray) ++ ((at' .var a0.vars ((at' .int ((at' .con a0.cons v6.toNat).vars) 0).toNat)).name)) ++ (⟨#[32]⟩ : ByteArray)) ++ c88)).size + ((⟨#[32]⟩ : ByteArray) ++ c89).size ≤ 140737488355328 ∧
 ((v83 ++ ((((⟨#[32]⟩ : ByteArray) ++ ((at' .var a0.vars ((at' .int ((at' .con a0.cons v6.toNat).vars) 0).toNat)).name)) ++ (⟨#[32]⟩ : ByteArray)) ++ c88)) ++ ((⟨#[32]⟩ : ByteArray) ++ c89)).size + (⟨#[59, 10]⟩ : ByteArray).size ≤ 140737488355328 ∧
 cordonref_PrintOf_I2 a0 R n2 (((v83 ++ ((((⟨#[32]⟩ : ByteArray) ++ ((at' .var a0.vars ((at' .int ((at' .con a0.cons v6.toNat).vars) 0).toNat)).name)) ++ (⟨#[32]⟩ : ByteArray)) ++ c88)) ++ ((⟨#[32]⟩ : ByteArray) ++ c89)) ++ (⟨#[59, 10]⟩ : ByteArray)) (w64 (v6 + 1)))
 ((v83 ++ ((((⟨#[32]⟩ : ByteArray) ++ ((at' .var a0.vars ((at' .int ((at' .con a0.cons v6.toNat).vars) 0).toNat)).name)) ++ (⟨#[32]⟩ : ByteArray)) ++ c88)).size + (⟨#[59, 10]⟩ : ByteArray).size ≤ 140737488355328 ∧
 cordonref_PrintOf_I2 a0 R n2 ((v83 ++ ((((⟨#[32]⟩ : ByteArray) ++ ((at' .var a0.vars ((at' .int ((at' .con a0.cons v6.toNat).vars) 0).toNat)).name)) ++ (⟨#[32]⟩ : ByteArray)) ++ c88)) ++ (⟨#[59, 10]⟩ : ByteArray)) (w64 (v6 + 1))))
 (sel (decide (((at' .con a0.cons v6.toNat).kind) = 10))
 (inb 0 ((at' .con a0.cons v6.toNat).lits).length = true ∧
 Call1 Tryz.prog f_cordonref_litText [dM a0, dL (at' .lit ((at' .con a0.cons v6.toNat).lits) 0)] .str fun c90 =>
 (⟨#[32]⟩ : ByteArray).size + c90.size ≤ 140737488355328 ∧
 v83.size + ((⟨#[32]⟩ : ByteArray) ++ c90).size ≤ 140737488355328 ∧
 (v83 ++ ((⟨#[32]⟩ : ByteArray) ++ c90)).size + (⟨#[59, 10]⟩ : ByteArray).size ≤ 140737488355328 ∧
 cordonref_PrintOf_I2 a0 R n2 ((v83 ++ ((⟨#[32]⟩ : ByteArray) ++ c90)) ++ (⟨#[59, 10]⟩ : ByteArray)) (w64 (v6 + 1)))
 (v83.size + (⟨#[59, 10]⟩ : ByteArray).size ≤ 140737488355328 ∧
 cordonref_PrintOf_I2 a0 R n2 (v83 ++ (⟨#[59, 10]⟩ : ByteArray)) (w64 (v6 + 1)))))) := by kernel_rfl
theorem cordonref_PrintOf_I2_eq (a0 : MdlD) (R : D → Prop) (n2 : Nat) (v5 : ByteArray) (v6 : Int) : cordonref_PrintOf_I2 a0 R (n2 + 1) v5 v6 =
 (sel (decide (v6 < (a0.cons.length : Int)))
 (inb v6 a0.cons.length = true ∧
 inb ((at' .con a0.cons v6.toNat).kind) ([(⟨#[]⟩ : ByteArray), (⟨#[108, 101]⟩ : ByteArray), (⟨#[101, 113]⟩ : ByteArray), (⟨#[110, 101]⟩ : ByteArray), (⟨#[100, 105, 102, 102, 101, 114]⟩ : ByteArray), (⟨#[101, 108, 101, 109, 101, 110, 116]⟩ : ByteArray), (⟨#[116, 97, 98, 108, 101]⟩ : ByteArray), (⟨#[116, 105, 109, 101, 115]⟩ : ByteArray), (⟨#[109, 97, 120]⟩ : ByteArray), (⟨#[99, 108, 97, 117, 115, 101]⟩ : ByteArray), (⟨#[105, 102, 102]⟩ : ByteArray)]).length = true ∧
 (⟨#[99, 111, 110, 32]⟩ : ByteArray).size + (at' .str ([(⟨#[]⟩ : ByteArray), (⟨#[108, 101]⟩ : ByteArray), (⟨#[101, 113]⟩ : ByteArray), (⟨#[110, 101]⟩ : ByteArray), (⟨#[100, 105, 102, 102, 101, 114]⟩ : ByteArray), (⟨#[101, 108, 101, 109, 101, 110, 116]⟩ : ByteArray), (⟨#[116, 97, 98, 108, 101]⟩ : ByteArray), (⟨#[116, 105, 109, 101, 115]⟩ : ByteArray), (⟨#[109, 97, 120]⟩ : ByteArray), (⟨#[99, 108, 97, 117, 115, 101]⟩ : ByteArray), (⟨#[105, 102, 102]⟩ : ByteArray)]) (((at' .con a0.cons v6.toNat).kind).toNat)).size ≤ 140737488355328 ∧
 v5.size + ((⟨#[99, 111, 110, 32]⟩ : ByteArray) ++ (at' .str ([(⟨#[]⟩ : ByteArray), (⟨#[108, 101]⟩ : ByteArray), (⟨#[101, 113]⟩ : ByteArray), (⟨#[110, 101]⟩ : ByteArray), (⟨#[100, 105, 102, 102, 101, 114]⟩ : ByteArray), (⟨#[101, 108, 101, 109, 101, 110, 116]⟩ : ByteArray), (⟨#[116, 97, 98, 108, 101]⟩ : ByteArray), (⟨#[116, 105, 109, 101, 115]⟩ : ByteArray), (⟨#[109, 97, 120]⟩ : ByteArray), (⟨#[99, 108, 97, 117, 115, 101]⟩ : ByteArray), (⟨#[105, 102, 102]⟩ : ByteArray)]) (((at' .con a0.cons v6.toNat).kind).toNat))).size ≤ 140737488355328 ∧
 sel (decide (((at' .con a0.cons v6.toNat).kind) = 1))
 (Call1 Tryz.prog f_cordonref_numbersText [.sl .int ((at' .con a0.cons v6.toNat).consts)] .str fun c7 =>
 (⟨#[32]⟩ : ByteArray).size + c7.size ≤ 140737488355328 ∧
 ((⟨#[32]⟩ : ByteArray) ++ c7).size + (⟨#[32]⟩ : ByteArray).size ≤ 140737488355328 ∧
 Call1 Tryz.prog f_cordonref_namesText [dM a0, .sl .int ((at' .con a0.cons v6.toNat).vars)] .str fun c8 =>
 (((⟨#[32]⟩ : ByteArray) ++ c7) ++ (⟨#[32]⟩ : ByteArray)).size + c8.size ≤ 140737488355328 ∧
 ((((⟨#[32]⟩ : ByteArray) ++ c7) ++ (⟨#[32]⟩ : ByteArray)) ++ c8).size + (⟨#[32]⟩ : ByteArray).size ≤ 140737488355328 ∧
 Call1 Tryz.prog f_cordonref_Digits [dI ((at' .con a0.cons v6.toNat).n)] .str fun c9 =>
 (((((⟨#[32]⟩ : ByteArray) ++ c7) ++ (⟨#[32]⟩ : ByteArray)) ++ c8) ++ (⟨#[32]⟩ : ByteArray)).size + c9.size ≤ 140737488355328 ∧
 (v5 ++ ((⟨#[99, 111, 110, 32]⟩ : ByteArray) ++ (at' .str ([(⟨#[]⟩ : ByteArray), (⟨#[108, 101]⟩ : ByteArray), (⟨#[101, 113]⟩ : ByteArray), (⟨#[110, 101]⟩ : ByteArray), (⟨#[100, 105, 102, 102, 101, 114]⟩ : ByteArray), (⟨#[101, 108, 101, 109, 101, 110, 116]⟩ : ByteArray), (⟨#[116, 97, 98, 108, 101]⟩ : ByteArray), (⟨#[116, 105, 109, 101, 115]⟩ : ByteArray), (⟨#[109, 97, 120]⟩ : ByteArray), (⟨#[99, 108, 97, 117, 115, 101]⟩ : ByteArray), (⟨#[105, 102, 102]⟩ : ByteArray)]) (((at' .con a0.cons v6.toNat).kind).toNat)))).size + ((((((⟨#[32]⟩ : ByteArray) ++ c7) ++ (⟨#[32]⟩ : ByteArray)) ++ c8) ++ (⟨#[32]⟩ : ByteArray)) ++ c9).size ≤ 140737488355328 ∧
 ∃ n9, cordonref_PrintOf_I9 a0 R n2 v6 n9 ((v5 ++ ((⟨#[99, 111, 110, 32]⟩ : ByteArray) ++ (at' .str ([(⟨#[]⟩ : ByteArray), (⟨#[108, 101]⟩ : ByteArray), (⟨#[101, 113]⟩ : ByteArray), (⟨#[110, 101]⟩ : ByteArray), (⟨#[100, 105, 102, 102, 101, 114]⟩ : ByteArray), (⟨#[101, 108, 101, 109, 101, 110, 116]⟩ : ByteArray), (⟨#[116, 97, 98, 108, 101]⟩ : ByteArray), (⟨#[116, 105, 109, 101, 115]⟩ : ByteArray), (⟨#[109, 97, 120]⟩ : ByteArray), (⟨#[99, 108, 97, 117, 115, 101]⟩ : ByteArray), (⟨#[105, 102, 102]⟩ : ByteArray)]) (((at' .con a0.cons v6.toNat).kind).toNat)))) ++ ((((((⟨#[32]⟩ : ByteArray) ++ c7) ++ (⟨#[32]⟩ : ByteArray)) ++ c8) ++ (⟨#[32]⟩ : ByteArray)) ++ c9)) 0)
 (sel (decide (((at' .con a0.cons v6.toNat).kind) = 2))
 (Call1 Tryz.prog f_cordonref_numbersText [.sl .int ((at' .con a0.cons v6.toNat).consts)] .str fun c18 =>
 (⟨#[32]⟩ : ByteArray).size + c18.size ≤ 140737488355328 ∧
 ((⟨#[32]⟩ : ByteArray) ++ c18).size + (⟨#[32]⟩ : ByteArray).size ≤ 140737488355328 ∧
 Call1 Tryz.prog f_cordonref_namesText [dM a0, .sl .int ((at' .con a0.cons v6.toNat).vars)] .str fun c19 =>
 (((⟨#[32]⟩ : ByteArray) ++ c18) ++ (⟨#[32]⟩ : ByteArray)).size + c19.size ≤ 140737488355328 ∧
 ((((⟨#[32]⟩ : ByteArray) ++ c18) ++ (⟨#[32]⟩ : ByteArray)) ++ c19).size + (⟨#[32]⟩ : ByteArray).size ≤ 140737488355328 ∧
 Call1 Tryz.prog f_cordonref_Digits [dI ((at' .con a0.cons v6.toNat).n)] .str fun c20 =>
 (((((⟨#[32]⟩ : ByteArray) ++ c18) ++ (⟨#[32]⟩ : ByteArray)) ++ c19) ++ (⟨#[32]⟩ : ByteArray)).size + c20.size ≤ 140737488355328 ∧
 (v5 ++ ((⟨#[99, 111, 110, 32]⟩ : ByteArray) ++ (at' .str ([(⟨#[]⟩ : ByteArray), (⟨#[108, 101]⟩ : ByteArray), (⟨#[101, 113]⟩ : ByteArray), (⟨#[110, 101]⟩ : ByteArray), (⟨#[100, 105, 102, 102, 101, 114]⟩ : ByteArray), (⟨#[101, 108, 101, 109, 101, 110, 116]⟩ : ByteArray), (⟨#[116, 97, 98, 108, 101]⟩ : ByteArray), (⟨#[116, 105, 109, 101, 115]⟩ : ByteArray), (⟨#[109, 97, 120]⟩ : ByteArray), (⟨#[99, 108, 97, 117, 115, 101]⟩ : ByteArray), (⟨#[105, 102, 102]⟩ : ByteArray)]) (((at' .con a0.cons v6.toNat).kind).toNat)))).size + ((((((⟨#[32]⟩ : ByteArray) ++ c18) ++ (⟨#[32]⟩ : ByteArray)) ++ c19) ++ (⟨#[32]⟩ : ByteArray)) ++ c20).size ≤ 140737488355328 ∧
 ∃ n9_2, cordonref_PrintOf_I9_2 a0 R n2 v6 n9_2 ((v5 ++ ((⟨#[99, 111, 110, 32]⟩ : ByteArray) ++ (at' .str ([(⟨#[]⟩ : ByteArray), (⟨#[108, 101]⟩ : ByteArray), (⟨#[101, 113]⟩ : ByteArray), (⟨#[110, 101]⟩ : ByteArray), (⟨#[100, 105, 102, 102, 101, 114]⟩ : ByteArray), (⟨#[101, 108, 101, 109, 101, 110, 116]⟩ : ByteArray), (⟨#[116, 97, 98, 108, 101]⟩ : ByteArray), (⟨#[116, 105, 109, 101, 115]⟩ : ByteArray), (⟨#[109, 97, 120]⟩ : ByteArray), (⟨#[99, 108, 97, 117, 115, 101]⟩ : ByteArray), (⟨#[105, 102, 102]⟩ : ByteArray)]) (((at' .con a0.cons v6.toNat).kind).toNat)))) ++ ((((((⟨#[32]⟩ : ByteArray) ++ c18) ++ (⟨#[32]⟩ : ByteArray)) ++ c19) ++ (⟨#[32]⟩ : ByteArray)) ++ c20)) 0)
 (sel (decide (((at' .con a0.cons v6.toNat).kind) = 3))
 (Call1 Tryz.prog f_cordonref_numbersText [.sl .int ((at' .con a0.cons v6.toNat).consts)] .str fun c29 =>
 (⟨#[32]⟩ : ByteArray).size + c29.size ≤ 140737488355328 ∧
 ((⟨#[32]⟩ : ByteArray) ++ c29).size + (⟨#[32]⟩ : ByteArray).size ≤ 140737488355328 ∧
 Call1 Tryz.prog f_cordonref_namesText [dM a0, .sl .int ((at' .con a0.cons v6.toNat).vars)] .str fun c30 =>
 (((⟨#[32]⟩ : ByteArray) ++ c29) ++ (⟨#[32]⟩ : ByteArray)).size + c30.size ≤ 140737488355328 ∧
 ((((⟨#[32]⟩ : ByteArray) ++ c29) ++ (⟨#[32]⟩ : ByteArray)) ++ c30).size + (⟨#[32]⟩ : ByteArray).size ≤ 140737488355328 ∧
 Call1 Tryz.prog f_cordonref_Digits [dI ((at' .con a0.cons v6.toNat).n)] .str fun c31 =>
 (((((⟨#[32]⟩ : ByteArray) ++ c29) ++ (⟨#[32]⟩ : ByteArray)) ++ c30) ++ (⟨#[32]⟩ : ByteArray)).size + c31.size ≤ 140737488355328 ∧
 (v5 ++ ((⟨#[99, 111, 110, 32]⟩ : ByteArray) ++ (at' .str ([(⟨#[]⟩ : ByteArray), (⟨#[108, 101]⟩ : ByteArray), (⟨#[101, 113]⟩ : ByteArray), (⟨#[110, 101]⟩ : ByteArray), (⟨#[100, 105, 102, 102, 101, 114]⟩ : ByteArray), (⟨#[101, 108, 101, 109, 101, 110, 116]⟩ : ByteArray), (⟨#[116, 97, 98, 108, 101]⟩ : ByteArray), (⟨#[116, 105, 109, 101, 115]⟩ : ByteArray), (⟨#[109, 97, 120]⟩ : ByteArray), (⟨#[99, 108, 97, 117, 115, 101]⟩ : ByteArray), (⟨#[105, 102, 102]⟩ : ByteArray)]) (((at' .con a0.cons v6.toNat).kind).toNat)))).size + ((((((⟨#[32]⟩ : ByteArray) ++ c29) ++ (⟨#[32]⟩ : ByteArray)) ++ c30) ++ (⟨#[32]⟩ : ByteArray)) ++ c31).size ≤ 140737488355328 ∧
 ∃ n9_3, cordonref_PrintOf_I9_3 a0 R n2 v6 n9_3 ((v5 ++ ((⟨#[99, 111, 110, 32]⟩ : ByteArray) ++ (at' .str ([(⟨#[]⟩ : ByteArray), (⟨#[108, 101]⟩ : ByteArray), (⟨#[101, 113]⟩ : ByteArray), (⟨#[110, 101]⟩ : ByteArray), (⟨#[100, 105, 102, 102, 101, 114]⟩ : ByteArray), (⟨#[101, 108, 101, 109, 101, 110, 116]⟩ : ByteArray), (⟨#[116, 97, 98, 108, 101]⟩ : ByteArray), (⟨#[116, 105, 109, 101, 115]⟩ : ByteArray), (⟨#[109, 97, 120]⟩ : ByteArray), (⟨#[99, 108, 97, 117, 115, 101]⟩ : ByteArray), (⟨#[105, 102, 102]⟩ : ByteArray)]) (((at' .con a0.cons v6.toNat).kind).toNat)))) ++ ((((((⟨#[32]⟩ : ByteArray) ++ c29) ++ (⟨#[32]⟩ : ByteArray)) ++ c30) ++ (⟨#[32]⟩ : ByteArray)) ++ c31)) 0)
 (sel (decide (((at' .con a0.cons v6.toNat).kind) = 4))
 (Call1 Tryz.prog f_cordonref_namesText [dM a0, .sl .int ((at' .con a0.cons v6.toNat).vars)] .str fun c40 =>
 (⟨#[32]⟩ : ByteArray).size + c40.size ≤ 140737488355328 ∧
 (v5 ++ ((⟨#[99, 111, 110, 32]⟩ : ByteArray) ++ (at' .str ([(⟨#[]⟩ : ByteArray), (⟨#[108, 101]⟩ : ByteArray), (⟨#[101, 113]⟩ : ByteArray), (⟨#[110, 101]⟩ : ByteArray), (⟨#[100, 105, 102, 102, 101, 114]⟩ : ByteArray), (⟨#[101, 108, 101, 109, 101, 110, 116]⟩ : ByteArray), (⟨#[116, 97, 98, 108, 101]⟩ : ByteArray), (⟨#[116, 105, 109, 101, 115]⟩ : ByteArray), (⟨#[109, 97, 120]⟩ : ByteArray), (⟨#[99, 108, 97, 117, 115, 101]⟩ : ByteArray), (⟨#[105, 102, 102]⟩ : ByteArray)]) (((at' .con a0.cons v6.toNat).kind).toNat)))).size + ((⟨#[32]⟩ : ByteArray) ++ c40).size ≤ 140737488355328 ∧
 ∃ n9_4, cordonref_PrintOf_I9_4 a0 R n2 v6 n9_4 ((v5 ++ ((⟨#[99, 111, 110, 32]⟩ : ByteArray) ++ (at' .str ([(⟨#[]⟩ : ByteArray), (⟨#[108, 101]⟩ : ByteArray), (⟨#[101, 113]⟩ : ByteArray), (⟨#[110, 101]⟩ : ByteArray), (⟨#[100, 105, 102, 102, 101, 114]⟩ : ByteArray), (⟨#[101, 108, 101, 109, 101, 110, 116]⟩ : ByteArray), (⟨#[116, 97, 98, 108, 101]⟩ : ByteArray), (⟨#[116, 105, 109, 101, 115]⟩ : ByteArray), (⟨#[109, 97, 120]⟩ : ByteArray), (⟨#[99, 108, 97, 117, 115, 101]⟩ : ByteArray), (⟨#[105, 102, 102]⟩ : ByteArray)]) (((at' .con a0.cons v6.toNat).kind).toNat)))) ++ ((⟨#[32]⟩ : ByteArray) ++ c40)) 0)
 (sel (decide (((at' .con a0.cons v6.toNat).kind) = 5))
 (Call1 Tryz.prog f_cordonref_numbersText [.sl .int ((at' .con a0.cons v6.toNat).consts)] .str fun c49 =>
 (⟨#[32]⟩ : ByteArray).size + c49.size ≤ 140737488355328 ∧
 (v5 ++ ((⟨#[99, 111, 110, 32]⟩ : ByteArray) ++ (at' .str ([(⟨#[]⟩ : ByteArray), (⟨#[108, 101]⟩ : ByteArray), (⟨#[101, 113]⟩ : ByteArray), (⟨#[110, 101]⟩ : ByteArray), (⟨#[100, 105, 102, 102, 101, 114]⟩ : ByteArray), (⟨#[101, 108, 101, 109, 101, 110, 116]⟩ : ByteArray), (⟨#[116, 97, 98, 108, 101]⟩ : ByteArray), (⟨#[116, 105, 109, 101, 115]⟩ : ByteArray), (⟨#[109, 97, 120]⟩ : ByteArray), (⟨#[99, 108, 97, 117, 115, 101]⟩ : ByteArray), (⟨#[105, 102, 102]⟩ : ByteArray)]) (((at' .con a0.cons v6.toNat).kind).toNat)))).size + ((⟨#[32]⟩ : ByteArray) ++ c49).size ≤ 140737488355328 ∧
 ∃ n9_5, cordonref_PrintOf_I9_5 a0 R n2 v6 n9_5 ((v5 ++ ((⟨#[99, 111, 110, 32]⟩ : ByteArray) ++ (at' .str ([(⟨#[]⟩ : ByteArray), (⟨#[108, 101]⟩ : ByteArray), (⟨#[101, 113]⟩ : ByteArray), (⟨#[110, 101]⟩ : ByteArray), (⟨#[100, 105, 102, 102, 101, 114]⟩ : ByteArray), (⟨#[101, 108, 101, 109, 101, 110, 116]⟩ : ByteArray), (⟨#[116, 97, 98, 108, 101]⟩ : ByteArray), (⟨#[116, 105, 109, 101, 115]⟩ : ByteArray), (⟨#[109, 97, 120]⟩ : ByteArray), (⟨#[99, 108, 97, 117, 115, 101]⟩ : ByteArray), (⟨#[105, 102, 102]⟩ : ByteArray)]) (((at' .con a0.cons v6.toNat).kind).toNat)))) ++ ((⟨#[32]⟩ : ByteArray) ++ c49)) 0)
 (sel (decide (((at' .con a0.cons v6.toNat).kind) = 6))
 (∃ n5, cordonref_PrintOf_I5 a0 R n2 v5 v6 n5 0 ([] : List ByteArray))
 (sel (decide (((at' .con a0.cons v6.toNat).kind) = 9))
 (∃ n7, cordonref_PrintOf_I7 a0 R n2 v5 v6 n7 0 ([] : List ByteArray))
 (∃ n9_8, cordonref_PrintOf_I9_8 a0 R n2 v6 n9_8 (v5 ++ ((⟨#[99, 111, 110, 32]⟩ : ByteArray) ++ (at' .str ([(⟨#[]⟩ : ByteArray), (⟨#[108, 101]⟩ : ByteArray), (⟨#[101, 113]⟩ : ByteArray), (⟨#[110, 101]⟩ : ByteArray), (⟨#[100, 105, 102, 102, 101, 114]⟩ : ByteArray), (⟨#[101, 108, 101, 109, 101, 110, 116]⟩ : ByteArray), (⟨#[116, 97, 98, 108, 101]⟩ : ByteArray), (⟨#[116, 105, 109, 101, 115]⟩ : ByteArray), (⟨#[109, 97, 120]⟩ : ByteArray), (⟨#[99, 108, 97, 117, 115, 101]⟩ : ByteArray), (⟨#[105, 102, 102]⟩ : ByteArray)]) (((at' .con a0.cons v6.toNat).kind).toNat)))) 0))))))))
 (inb a0.goal ([(⟨#[97, 110, 121]⟩ : ByteArray), (⟨#[108, 101, 97, 115, 116]⟩ : ByteArray), (⟨#[109, 111, 115, 116]⟩ : ByteArray)]).length = true ∧
 (⟨#[115, 111, 108, 118, 101, 32]⟩ : ByteArray).size + (at' .str ([(⟨#[97, 110, 121]⟩ : ByteArray), (⟨#[108, 101, 97, 115, 116]⟩ : ByteArray), (⟨#[109, 111, 115, 116]⟩ : ByteArray)]) a0.goal.toNat).size ≤ 140737488355328 ∧
 v5.size + ((⟨#[115, 111, 108, 118, 101, 32]⟩ : ByteArray) ++ (at' .str ([(⟨#[97, 110, 121]⟩ : ByteArray), (⟨#[108, 101, 97, 115, 116]⟩ : ByteArray), (⟨#[109, 111, 115, 116]⟩ : ByteArray)]) a0.goal.toNat)).size ≤ 140737488355328 ∧
 sel (!decide (a0.goal = 0))
 (inb a0.var a0.vars.length = true ∧
 (⟨#[32]⟩ : ByteArray).size + ((at' .var a0.vars a0.var.toNat).name).size ≤ 140737488355328 ∧
 (v5 ++ ((⟨#[115, 111, 108, 118, 101, 32]⟩ : ByteArray) ++ (at' .str ([(⟨#[97, 110, 121]⟩ : ByteArray), (⟨#[108, 101, 97, 115, 116]⟩ : ByteArray), (⟨#[109, 111, 115, 116]⟩ : ByteArray)]) a0.goal.toNat))).size + ((⟨#[32]⟩ : ByteArray) ++ ((at' .var a0.vars a0.var.toNat).name)).size ≤ 140737488355328 ∧
 ((v5 ++ ((⟨#[115, 111, 108, 118, 101, 32]⟩ : ByteArray) ++ (at' .str ([(⟨#[97, 110, 121]⟩ : ByteArray), (⟨#[108, 101, 97, 115, 116]⟩ : ByteArray), (⟨#[109, 111, 115, 116]⟩ : ByteArray)]) a0.goal.toNat))) ++ ((⟨#[32]⟩ : ByteArray) ++ ((at' .var a0.vars a0.var.toNat).name))).size + (⟨#[59, 10]⟩ : ByteArray).size ≤ 140737488355328 ∧
 R (.str (((v5 ++ ((⟨#[115, 111, 108, 118, 101, 32]⟩ : ByteArray) ++ (at' .str ([(⟨#[97, 110, 121]⟩ : ByteArray), (⟨#[108, 101, 97, 115, 116]⟩ : ByteArray), (⟨#[109, 111, 115, 116]⟩ : ByteArray)]) a0.goal.toNat))) ++ ((⟨#[32]⟩ : ByteArray) ++ ((at' .var a0.vars a0.var.toNat).name))) ++ (⟨#[59, 10]⟩ : ByteArray))))
 ((v5 ++ ((⟨#[115, 111, 108, 118, 101, 32]⟩ : ByteArray) ++ (at' .str ([(⟨#[97, 110, 121]⟩ : ByteArray), (⟨#[108, 101, 97, 115, 116]⟩ : ByteArray), (⟨#[109, 111, 115, 116]⟩ : ByteArray)]) a0.goal.toNat))).size + (⟨#[59, 10]⟩ : ByteArray).size ≤ 140737488355328 ∧
 R (.str ((v5 ++ ((⟨#[115, 111, 108, 118, 101, 32]⟩ : ByteArray) ++ (at' .str ([(⟨#[97, 110, 121]⟩ : ByteArray), (⟨#[108, 101, 97, 115, 116]⟩ : ByteArray), (⟨#[109, 111, 115, 116]⟩ : ByteArray)]) a0.goal.toNat))) ++ (⟨#[59, 10]⟩ : ByteArray)))))) := by kernel_rfl
theorem cordonref_PrintOf_I0_eq (a0 : MdlD) (R : D → Prop) (n0 : Nat) (v1 : ByteArray) (v2 : Int) : cordonref_PrintOf_I0 a0 R (n0 + 1) v1 v2 =
 (sel (decide (v2 < (a0.vars.length : Int)))
 (inb v2 a0.vars.length = true ∧
 (⟨#[118, 97, 114, 32]⟩ : ByteArray).size + ((at' .var a0.vars v2.toNat).name).size ≤ 140737488355328 ∧
 ((⟨#[118, 97, 114, 32]⟩ : ByteArray) ++ ((at' .var a0.vars v2.toNat).name)).size + (⟨#[58, 32]⟩ : ByteArray).size ≤ 140737488355328 ∧
 inb v2 a0.vars.length = true ∧
 Call1 Tryz.prog f_cordonref_Digits [dI ((at' .var a0.vars v2.toNat).lo)] .str fun c3 =>
 (((⟨#[118, 97, 114, 32]⟩ : ByteArray) ++ ((at' .var a0.vars v2.toNat).name)) ++ (⟨#[58, 32]⟩ : ByteArray)).size + c3.size ≤ 140737488355328 ∧
 ((((⟨#[118, 97, 114, 32]⟩ : ByteArray) ++ ((at' .var a0.vars v2.toNat).name)) ++ (⟨#[58, 32]⟩ : ByteArray)) ++ c3).size + (⟨#[46, 46]⟩ : ByteArray).size ≤ 140737488355328 ∧
 inb v2 a0.vars.length = true ∧
 Call1 Tryz.prog f_cordonref_Digits [dI ((at' .var a0.vars v2.toNat).hi)] .str fun c4 =>
 (((((⟨#[118, 97, 114, 32]⟩ : ByteArray) ++ ((at' .var a0.vars v2.toNat).name)) ++ (⟨#[58, 32]⟩ : ByteArray)) ++ c3) ++ (⟨#[46, 46]⟩ : ByteArray)).size + c4.size ≤ 140737488355328 ∧
 ((((((⟨#[118, 97, 114, 32]⟩ : ByteArray) ++ ((at' .var a0.vars v2.toNat).name)) ++ (⟨#[58, 32]⟩ : ByteArray)) ++ c3) ++ (⟨#[46, 46]⟩ : ByteArray)) ++ c4).size + (⟨#[59, 10]⟩ : ByteArray).size ≤ 140737488355328 ∧
 v1.size + (((((((⟨#[118, 97, 114, 32]⟩ : ByteArray) ++ ((at' .var a0.vars v2.toNat).name)) ++ (⟨#[58, 32]⟩ : ByteArray)) ++ c3) ++ (⟨#[46, 46]⟩ : ByteArray)) ++ c4) ++ (⟨#[59, 10]⟩ : ByteArray)).size ≤ 140737488355328 ∧
 cordonref_PrintOf_I0 a0 R n0 (v1 ++ (((((((⟨#[118, 97, 114, 32]⟩ : ByteArray) ++ ((at' .var a0.vars v2.toNat).name)) ++ (⟨#[58, 32]⟩ : ByteArray)) ++ c3) ++ (⟨#[46, 46]⟩ : ByteArray)) ++ c4) ++ (⟨#[59, 10]⟩ : ByteArray))) (w64 (v2 + 1)))
 (∃ n2, cordonref_PrintOf_I2 a0 R n2 v1 0)) := by kernel_rfl
theorem cordonref_PrintOf_eq (a0 : MdlD) (R : D → Prop) : FD cordonref_PrintOf_A Tryz.f16 [dM a0] R =
 (∃ n0, cordonref_PrintOf_I0 a0 R n0 (⟨#[]⟩ : ByteArray) 0) := by kernel_rfl
theorem cordonref_PrintOf_sat (a0 : MdlD) : SatI cordonref_PrintOf_A Tryz.f16 f_cordonref_PrintOf [dM a0] := satD Tryz.func16 (by kernel_rfl) Tryz.ntmps16 rfl
/-! ### cordon/cordonref.Digits -/
def cordonref_Digits_A : Ann := { own := [], live := [], n := 35, nils := [], pubs := [] }
theorem cordonref_Digits_eq (a0 : Int) (R : D → Prop) : FD cordonref_Digits_A Tryz.f20 [dI a0] R =
 (sel (decide (a0 < 0))
 (sel (decide ((-10) < a0))
 (Call1 Tryz.prog f_cordonref_Digits [dI (w64 (0 - a0))] .str fun c1 =>
 (⟨#[45]⟩ : ByteArray).size + c1.size ≤ 140737488355328 ∧
 R (.str ((⟨#[45]⟩ : ByteArray) ++ c1)))
 ((10 : Int) ≠ 0 ∧
 Call1 Tryz.prog f_cordonref_Digits [dI (w64 (0 - (w64 (a0.tdiv 10))))] .str fun c2 =>
 (⟨#[45]⟩ : ByteArray).size + c2.size ≤ 140737488355328 ∧
 (10 : Int) ≠ 0 ∧
 Call1 Tryz.prog f_cordonref_Digits [dI (w64 (0 - (a0.tmod 10)))] .str fun c3 =>
 ((⟨#[45]⟩ : ByteArray) ++ c2).size + c3.size ≤ 140737488355328 ∧
 R (.str (((⟨#[45]⟩ : ByteArray) ++ c2) ++ c3))))
 (sel (decide (a0 < 10))
 (R (.str (⟨([UInt8.ofNat ((IntKind.u8.wrap (w64 (48 + a0))).toNat)]).toArray⟩)))
 ((10 : Int) ≠ 0 ∧
 Call1 Tryz.prog f_cordonref_Digits [dI (w64 (a0.tdiv 10))] .str fun c4 =>
 (10 : Int) ≠ 0 ∧
 Call1 Tryz.prog f_cordonref_Digits [dI (a0.tmod 10)] .str fun c5 =>
 c4.size + c5.size ≤ 140737488355328 ∧
 R (.str (c4 ++ c5))))) := by kernel_rfl
theorem cordonref_Digits_sat (a0 : Int) : SatI cordonref_Digits_A Tryz.f20 f_cordonref_Digits [dI a0] := satD Tryz.func20 (by kernel_rfl) Tryz.ntmps20 rfl
/-! ### cordon/cordonref.SameInts -/
def cordonref_SameInts_A : Ann := { own := [], live := [(0, ([0, 1, 5], []))], n := 26, nils := [], pubs := [] }
def cordonref_SameInts_I0 (a0 : List Int) (a1 : List Int) (R : D → Prop) (n0 : Nat) (i1 : Int) : Prop := LP cordonref_SameInts_A Tryz.f38 [1, 1, 0, 1, 0, 0] 0 n0 ⟨[(0, .sl .int a0), (1, .sl .int a1), (5, dI i1)], []⟩ (blockK 0 (sK cordonref_SameInts_A Tryz.f38 [1, 1, 1] 0 (eK Tryz.f38 R)))
theorem cordonref_SameInts_I0_eq (a0 : List Int) (a1 : List Int) (R : D → Prop) (n0 : Nat) (i1 : Int) : cordonref_SameInts_I0 a0 a1 R (n0 + 1) i1 =
 (sel (decide (i1 < (a0.length : Int)))
 (inb i1 a0.length = true ∧
 inb i1 a1.length = true ∧
 sel (!decide ((at' .int a0 i1.toNat) = (at' .int a1 i1.toNat)))
 (R (dB false))
 (cordonref_SameInts_I0 a0 a1 R n0 (w64 (i1 + 1))))
 (R (dB true))) := by kernel_rfl
theorem cordonref_SameInts_eq (a0 : List Int) (a1 : List Int) (R : D → Prop) : FD cordonref_SameInts_A Tryz.f38 [.sl .int a0, .sl .int a1] R =
 (sel (!decide ((a0.length : Int) = (a1.length : Int)))
 (R (dB false))
 (∃ n0, cordonref_SameInts_I0 a0 a1 R n0 0)) := by kernel_rfl
theorem cordonref_SameInts_sat (a0 : List Int) (a1 : List Int) : SatI cordonref_SameInts_A Tryz.f38 f_cordonref_SameInts [.sl .int a0, .sl .int a1] := satD Tryz.func38 (by kernel_rfl) Tryz.ntmps38 rfl
/-! ### cordon/cordonref.sameCon -/
def cordonref_sameCon_A : Ann := { own := [], live := [], n := 45, nils := [], pubs := [] }
theorem cordonref_sameCon_eq (a0 : ConD) (a1 : ConD) (R : D → Prop) : FD cordonref_sameCon_A Tryz.f55 [dC a0, dC a1] R =
 (sel (decide (a0.kind = a1.kind))
 (Call1 Tryz.prog f_cordonref_SameInts [.sl .int a0.vars, .sl .int a1.vars] .bool fun c1 =>
 sel c1
 (Call1 Tryz.prog f_cordonref_SameInts [.sl .int a0.consts, .sl .int a1.consts] .bool fun c2 =>
 sel c2
 (sel (decide (a0.n = a1.n))
 (Call1 Tryz.prog f_cordonref_SameLists [dS a0.rows, dS a1.rows] .bool fun c3 =>
 sel c3
 (Call1 Tryz.prog f_cordonref_SameClause [.sl .lit a0.lits, .sl .lit a1.lits] .bool fun c4 =>
 R (dB c4))
 (R (dB false)))
 (R (dB false)))
 (R (dB false)))
 (R (dB false)))
 (R (dB false))) := by kernel_rfl
theorem cordonref_sameCon_sat (a0 : ConD) (a1 : ConD) : SatI cordonref_sameCon_A Tryz.f55 f_cordonref_sameCon [dC a0, dC a1] := satD Tryz.func55 (by kernel_rfl) Tryz.ntmps55 rfl
/-! ### cordon/cordonref.between -/
def cordonref_between_A : Ann := { own := [], live := [], n := 15, nils := [], pubs := [] }
theorem cordonref_between_eq (a0 : Int) (a1 : Int) (a2 : Int) (R : D → Prop) : FD cordonref_between_A Tryz.f61 [dI a0, dI a1, dI a2] R =
 (sel (decide (a1 ≤ a0))
 (R (dB (decide (a0 ≤ a2))))
 (R (dB false))) := by kernel_rfl
theorem cordonref_between_sat (a0 : Int) (a1 : Int) (a2 : Int) : SatI cordonref_between_A Tryz.f61 f_cordonref_between [dI a0, dI a1, dI a2] := satD Tryz.func61 (by kernel_rfl) Tryz.ntmps61 rfl
/-! ### cordon/cordonref.checkCon -/
def cordonref_checkCon_A : Ann := { own := [], live := [(0, ([2, 3, 5], [])), (2, ([2, 3, 6], [])), (4, ([2, 3, 7], [])), (6, ([2, 3, 8], [])), (8, ([2, 3, 8, 9], [])), (10, ([2, 3, 10], []))], n := 140, nils := [], pubs := [] }
def cordonref_checkCon_I8 (a0 : MdlD) (a1 : ConD) (R : D → Prop) (n6 : Nat) (v10 : Int) (n8 : Nat) (v11 : Int) : Prop := LP cordonref_checkCon_A Tryz.f62 [1, 1, 1, 1, 1, 1, 1, 1, 0, 1, 0, 0, 1, 0, 0, 1, 0, 0] 8 n8 ⟨[(2, .iptr [.sl .var a0.vars, .sl .con a0.cons, dI a0.goal, dI a0.var] 0), (3, .iptr [dI a1.kind, .sl .int a1.vars, .sl .int a1.consts, dI a1.n, dS a1.rows, .sl .lit a1.lits] 0), (8, dI v10), (9, dI v11)], []⟩ (blockK 8 (blockK 7 (sK cordonref_checkCon_A Tryz.f62 [1, 1, 1, 1, 1, 1, 1, 1, 0, 1, 0, 0, 1, 1] 6 (iK cordonref_checkCon_A Tryz.f62 [1, 1, 1, 1, 1, 1, 1, 1, 0, 1, 0, 0] 6 n6 (blockK 6 (sK cordonref_checkCon_A Tryz.f62 [1, 1, 1, 1, 1, 1, 1, 1, 1] 0 (eK Tryz.f62 R)))))))
def cordonref_checkCon_I10 (a0 : MdlD) (a1 : ConD) (R : D → Prop) (n10 : Nat) (v13 : Int) : Prop := LP cordonref_checkCon_A Tryz.f62 [1, 1, 1, 1, 1, 1, 1, 1, 1, 0, 1, 0, 0] 10 n10 ⟨[(2, .iptr [.sl .var a0.vars, .sl .con a0.cons, dI a0.goal, dI a0.var] 0), (3, .iptr [dI a1.kind, .sl .int a1.vars, .sl .int a1.consts, dI a1.n, dS a1.rows, .sl .lit a1.lits] 0), (10, dI v13)], []⟩ (blockK 10 (sK cordonref_checkCon_A Tryz.f62 [1, 1, 1, 1, 1, 1, 1, 1, 1, 1] 0 (eK Tryz.f62 R)))
def cordonref_checkCon_I6 (a0 : MdlD) (a1 : ConD) (R : D → Prop) (n6 : Nat) (v10 : Int) : Prop := LP cordonref_checkCon_A Tryz.f62 [1, 1, 1, 1, 1, 1, 1, 1, 0, 1, 0, 0] 6 n6 ⟨[(2, .iptr [.sl .var a0.vars, .sl .con a0.cons, dI a0.goal, dI a0.var] 0), (3, .iptr [dI a1.kind, .sl .int a1.vars, .sl .int a1.consts, dI a1.n, dS a1.rows, .sl .lit a1.lits] 0), (8, dI v10)], []⟩ (blockK 6 (sK cordonref_checkCon_A Tryz.f62 [1, 1, 1, 1, 1, 1, 1, 1, 1] 0 (eK Tryz.f62 R)))
def cordonref_checkCon_I4 (a0 : MdlD) (a1 : ConD) (R : D → Prop) (n4 : Nat) (v7 : Int) : Prop := LP cordonref_checkCon_A Tryz.f62 [1, 1, 1, 1, 1, 1, 0, 1, 0, 0] 4 n4 ⟨[(2, .iptr [.sl .var a0.vars, .sl .con a0.cons, dI a0.goal, dI a0.var] 0), (3, .iptr [dI a1.kind, .sl .int a1.vars, .sl .int a1.consts, dI a1.n, dS a1.rows, .sl .lit a1.lits] 0), (7, dI v7)], []⟩ (blockK 4 (sK cordonref_checkCon_A Tryz.f62 [1, 1, 1, 1, 1, 1, 1] 0 (eK Tryz.f62 R)))
def cordonref_checkCon_I2 (a0 : MdlD) (a1 : ConD) (R : D → Prop) (n2 : Nat) (v5 : Int) : Prop := LP cordonref_checkCon_A Tryz.f62 [1, 1, 1, 1, 1, 0, 1, 0, 0] 2 n2 ⟨[(2, .iptr [.sl .var a0.vars, .sl .con a0.cons, dI a0.goal, dI a0.var] 0), (3, .iptr [dI a1.kind, .sl .int a1.vars, .sl .int a1.consts, dI a1.n, dS a1.rows, .sl .lit a1.lits] 0), (6, dI v5)], []⟩ (blockK 2 (sK cordonref_checkCon_A Tryz.f62 [1, 1, 1, 1, 1, 1] 0 (eK Tryz.f62 R)))
def cordonref_checkCon_I0 (a0 : MdlD) (a1 : ConD) (R : D → Prop) (n0 : Nat) (v3 : Int) : Prop := LP cordonref_checkCon_A Tryz.f62 [1, 1, 1, 1, 0, 1, 0, 0] 0 n0 ⟨[(2, .iptr [.sl .var a0.vars, .sl .con a0.cons, dI a0.goal, dI a0.var] 0), (3, .iptr [dI a1.kind, .sl .int a1.vars, .sl .int a1.consts, dI a1.n, dS a1.rows, .sl .lit a1.lits] 0), (5, dI v3)], []⟩ (blockK 0 (sK cordonref_checkCon_A Tryz.f62 [1, 1, 1, 1, 1] 0 (eK Tryz.f62 R)))
theorem cordonref_checkCon_I8_eq (a0 : MdlD) (a1 : ConD) (R : D → Prop) (n6 : Nat) (v10 : Int) (n8 : Nat) (v11 : Int) : cordonref_checkCon_I8 a0 a1 R n6 v10 (n8 + 1) v11 =
 (inb v10 a1.rows.length = true ∧
 sel (decide (v11 < ((at' (.list .int) a1.rows v10.toNat).length : Int)))
 (inb v10 a1.rows.length = true ∧
 inb v11 (at' (.list .int) a1.rows v10.toNat).length = true ∧
 Call1 Tryz.prog f_cordonref_inConst [dI (at' .int (at' (.list .int) a1.rows v10.toNat) v11.toNat)] .bool fun c12 =>
 sel (!c12)
 (R (dI 3))
 (cordonref_checkCon_I8 a0 a1 R n6 v10 n8 (w64 (v11 + 1))))
 (cordonref_checkCon_I6 a0 a1 R n6 (w64 (v10 + 1)))) := by kernel_rfl
theorem cordonref_checkCon_I10_eq (a0 : MdlD) (a1 : ConD) (R : D → Prop) (n10 : Nat) (v13 : Int) : cordonref_checkCon_I10 a0 a1 R (n10 + 1) v13 =
 (sel (decide (v13 < (a1.lits.length : Int)))
 (inb v13 a1.lits.length = true ∧
 Call1 Tryz.prog f_cordonref_CheckLit [dM a0, dL (at' .lit a1.lits v13.toNat)] .int fun c14 =>
 sel (!decide (c14 = 0))
 (R (dI c14))
 (cordonref_checkCon_I10 a0 a1 R n10 (w64 (v13 + 1))))
 (R (dI 0))) := by kernel_rfl
theorem cordonref_checkCon_I6_eq (a0 : MdlD) (a1 : ConD) (R : D → Prop) (n6 : Nat) (v10 : Int) : cordonref_checkCon_I6 a0 a1 R (n6 + 1) v10 =
 (sel (decide (v10 < (a1.rows.length : Int)))
 (∃ n8, cordonref_checkCon_I8 a0 a1 R n6 v10 n8 0)
 (∃ n10, cordonref_checkCon_I10 a0 a1 R n10 0)) := by kernel_rfl
theorem cordonref_checkCon_I4_eq (a0 : MdlD) (a1 : ConD) (R : D → Prop) (n4 : Nat) (v7 : Int) : cordonref_checkCon_I4 a0 a1 R (n4 + 1) v7 =
 (sel (decide (v7 < (a1.consts.length : Int)))
 (inb v7 a1.consts.length = true ∧
 Call1 Tryz.prog f_cordonref_inConst [dI (at' .int a1.consts v7.toNat)] .bool fun c8 =>
 sel (!c8)
 (R (dI 3))
 (cordonref_checkCon_I4 a0 a1 R n4 (w64 (v7 + 1))))
 (Call1 Tryz.prog f_cordonref_inConst [dI a1.n] .bool fun c9 =>
 sel (!c9)
 (R (dI 3))
 (∃ n6, cordonref_checkCon_I6 a0 a1 R n6 0))) := by kernel_rfl
theorem cordonref_checkCon_I2_eq (a0 : MdlD) (a1 : ConD) (R : D → Prop) (n2 : Nat) (v5 : Int) : cordonref_checkCon_I2 a0 a1 R (n2 + 1) v5 =
 (sel (decide (v5 < (a1.lits.length : Int)))
 (inb v5 a1.lits.length = true ∧
 Call1 Tryz.prog f_cordonref_between [dI ((at' .lit a1.lits v5.toNat).var), dI 0, dI (w64 ((a0.vars.length : Int) - 1))] .bool fun c6 =>
 sel (!c6)
 (R (dI 5))
 (cordonref_checkCon_I2 a0 a1 R n2 (w64 (v5 + 1))))
 (∃ n4, cordonref_checkCon_I4 a0 a1 R n4 0)) := by kernel_rfl
theorem cordonref_checkCon_I0_eq (a0 : MdlD) (a1 : ConD) (R : D → Prop) (n0 : Nat) (v3 : Int) : cordonref_checkCon_I0 a0 a1 R (n0 + 1) v3 =
 (sel (decide (v3 < (a1.vars.length : Int)))
 (inb v3 a1.vars.length = true ∧
 Call1 Tryz.prog f_cordonref_between [dI (at' .int a1.vars v3.toNat), dI 0, dI (w64 ((a0.vars.length : Int) - 1))] .bool fun c4 =>
 sel (!c4)
 (R (dI 5))
 (cordonref_checkCon_I0 a0 a1 R n0 (w64 (v3 + 1))))
 (∃ n2, cordonref_checkCon_I2 a0 a1 R n2 0)) := by kernel_rfl
theorem cordonref_checkCon_eq (a0 : MdlD) (a1 : ConD) (R : D → Prop) : FD cordonref_checkCon_A Tryz.f62 [dM a0, dC a1] R =
 (Call1 Tryz.prog f_cordonref_between [dI a1.kind, dI 1, dI 10] .bool fun c1 =>
 sel (!c1)
 (R (dI 7))
 (sel (decide (4 < (a1.vars.length : Int)))
 (R (dI 2))
 (sel (decide (4 < (a1.lits.length : Int)))
 (R (dI 2))
 (sel (decide (8 < (a1.consts.length : Int)))
 (R (dI 2))
 (sel (decide (20 < (a1.rows.length : Int)))
 (R (dI 2))
 (Call1 Tryz.prog f_cordonref_rightForm [dC a1] .bool fun c2 =>
 sel (!c2)
 (R (dI 1))
 (∃ n0, cordonref_checkCon_I0 a0 a1 R n0 0))))))) := by kernel_rfl
theorem cordonref_checkCon_sat (a0 : MdlD) (a1 : ConD) : SatI cordonref_checkCon_A Tryz.f62 f_cordonref_checkCon [dM a0, dC a1] := satD Tryz.func62 (by kernel_rfl) Tryz.ntmps62 rfl
/-! ### cordon/cordonref.numbersText -/
def cordonref_numbersText_A : Ann := { own := [3, 18], live := [(0, ([0, 3, 4], [3]))], n := 21, nils := [], pubs := [] }
def cordonref_numbersText_I0 (a0 : List Int) (R : D → Prop) (n0 : Nat) (i1 : Int) (out2 : List ByteArray) : Prop := LP cordonref_numbersText_A Tryz.f63 [1, 1, 0, 1, 0, 0] 0 n0 ⟨[(0, .sl .int a0), (3, .own 3), (4, dI i1)], [(3, .row 9 .str out2)]⟩ (blockK 0 (sK cordonref_numbersText_A Tryz.f63 [1, 1, 1] 0 (eK Tryz.f63 R)))
theorem cordonref_numbersText_I0_eq (a0 : List Int) (R : D → Prop) (n0 : Nat) (i1 : Int) (out2 : List ByteArray) : cordonref_numbersText_I0 a0 R (n0 + 1) i1 out2 =
 (sel (decide (i1 < (a0.length : Int)))
 (inb i1 a0.length = true ∧
 Call1 Tryz.prog f_cordonref_Digits [dI (at' .int a0 i1.toNat)] .str fun c3 =>
 room .str (out2.length + ([c3]).length) = true ∧
 cordonref_numbersText_I0 a0 R n0 (w64 (i1 + 1)) (out2 ++ ([c3])))
 (Call1 Tryz.prog f_cordonref_Brackets [.sl .str out2] .str fun c4 =>
 R (.str c4))) := by kernel_rfl
theorem cordonref_numbersText_eq (a0 : List Int) (R : D → Prop) : FD cordonref_numbersText_A Tryz.f63 [.sl .int a0] R =
 (∃ n0, cordonref_numbersText_I0 a0 R n0 0 ([] : List ByteArray)) := by kernel_rfl
theorem cordonref_numbersText_sat (a0 : List Int) : SatI cordonref_numbersText_A Tryz.f63 f_cordonref_numbersText [.sl .int a0] := satD Tryz.func63 (by kernel_rfl) Tryz.ntmps63 rfl
/-! ### cordon/cordonref.namesText -/
def cordonref_namesText_A : Ann := { own := [5, 24], live := [(0, ([1, 2, 5, 6], [5]))], n := 27, nils := [], pubs := [] }
def cordonref_namesText_I0 (a0 : MdlD) (a1 : List Int) (R : D → Prop) (n0 : Nat) (i1 : Int) (out2 : List ByteArray) : Prop := LP cordonref_namesText_A Tryz.f64 [1, 1, 0, 1, 0, 0] 0 n0 ⟨[(1, .sl .int a1), (2, .iptr [.sl .var a0.vars, .sl .con a0.cons, dI a0.goal, dI a0.var] 0), (5, .own 5), (6, dI i1)], [(5, .row 9 .str out2)]⟩ (blockK 0 (sK cordonref_namesText_A Tryz.f64 [1, 1, 1] 0 (eK Tryz.f64 R)))
theorem cordonref_namesText_I0_eq (a0 : MdlD) (a1 : List Int) (R : D → Prop) (n0 : Nat) (i1 : Int) (out2 : List ByteArray) : cordonref_namesText_I0 a0 a1 R (n0 + 1) i1 out2 =
 (sel (decide (i1 < (a1.length : Int)))
 (inb i1 a1.length = true ∧
 inb (at' .int a1 i1.toNat) a0.vars.length = true ∧
 room .str (out2.length + ([(at' .var a0.vars ((at' .int a1 i1.toNat).toNat)).name]).length) = true ∧
 cordonref_namesText_I0 a0 a1 R n0 (w64 (i1 + 1)) (out2 ++ ([(at' .var a0.vars ((at' .int a1 i1.toNat).toNat)).name])))
 (Call1 Tryz.prog f_cordonref_Brackets [.sl .str out2] .str fun c3 =>
 R (.str c3))) := by kernel_rfl
theorem cordonref_namesText_eq (a0 : MdlD) (a1 : List Int) (R : D → Prop) : FD cordonref_namesText_A Tryz.f64 [dM a0, .sl .int a1] R =
 (∃ n0, cordonref_namesText_I0 a0 a1 R n0 0 ([] : List ByteArray)) := by kernel_rfl
theorem cordonref_namesText_sat (a0 : MdlD) (a1 : List Int) : SatI cordonref_namesText_A Tryz.f64 f_cordonref_namesText [dM a0, .sl .int a1] := satD Tryz.func64 (by kernel_rfl) Tryz.ntmps64 rfl
/-! ### cordon/cordonref.Brackets -/
def cordonref_Brackets_A : Ann := { own := [], live := [(0, ([0, 3, 4], []))], n := 23, nils := [], pubs := [] }
def cordonref_Brackets_I0 (a0 : List ByteArray) (R : D → Prop) (n0 : Nat) (s1 : ByteArray) (i2 : Int) : Prop := LP cordonref_Brackets_A Tryz.f65 [1, 1, 0, 1, 0, 0] 0 n0 ⟨[(0, .sl .str a0), (3, .str s1), (4, dI i2)], []⟩ (blockK 0 (sK cordonref_Brackets_A Tryz.f65 [1, 1, 1] 0 (eK Tryz.f65 R)))
theorem cordonref_Brackets_I0_eq (a0 : List ByteArray) (R : D → Prop) (n0 : Nat) (s1 : ByteArray) (i2 : Int) : cordonref_Brackets_I0 a0 R (n0 + 1) s1 i2 =
 (sel (decide (i2 < (a0.length : Int)))
 (sel (decide (0 < i2))
 (s1.size + (⟨#[44, 32]⟩ : ByteArray).size ≤ 140737488355328 ∧
 inb i2 a0.length = true ∧
 (s1 ++ (⟨#[44, 32]⟩ : ByteArray)).size + (at' .str a0 i2.toNat).size ≤ 140737488355328 ∧
 cordonref_Brackets_I0 a0 R n0 ((s1 ++ (⟨#[44, 32]⟩ : ByteArray)) ++ (at' .str a0 i2.toNat)) (w64 (i2 + 1)))
 (inb i2 a0.length = true ∧
 s1.size + (at' .str a0 i2.toNat).size ≤ 140737488355328 ∧
 cordonref_Brackets_I0 a0 R n0 (s1 ++ (at' .str a0 i2.toNat)) (w64 (i2 + 1))))
 (s1.size + (⟨#[93]⟩ : ByteArray).size ≤ 140737488355328 ∧
 R (.str (s1 ++ (⟨#[93]⟩ : ByteArray))))) := by kernel_rfl
theorem cordonref_Brackets_eq (a0 : List ByteArray) (R : D → Prop) : FD cordonref_Brackets_A Tryz.f65 [.sl .str a0] R =
 (∃ n0, cordonref_Brackets_I0 a0 R n0 (⟨#[91]⟩ : ByteArray) 0) := by kernel_rfl
theorem cordonref_Brackets_sat (a0 : List ByteArray) : SatI cordonref_Brackets_A Tryz.f65 f_cordonref_Brackets [.sl .str a0] := satD Tryz.func65 (by kernel_rfl) Tryz.ntmps65 rfl
/-! ### cordon/cordonref.litText -/
def cordonref_litText_A : Ann := { own := [], live := [], n := 24, nils := [], pubs := [] }
theorem cordonref_litText_eq (a0 : MdlD) (a1 : LitD) (R : D → Prop) : FD cordonref_litText_A Tryz.f66 [dM a0, dL a1] R =
 (inb a1.var a0.vars.length = true ∧
 ((at' .var a0.vars a1.var.toNat).name).size + (⟨#[32]⟩ : ByteArray).size ≤ 140737488355328 ∧
 inb a1.op ([(⟨#[]⟩ : ByteArray), (⟨#[60, 61]⟩ : ByteArray), (⟨#[62, 61]⟩ : ByteArray), (⟨#[61, 61]⟩ : ByteArray), (⟨#[33, 61]⟩ : ByteArray)]).length = true ∧
 (((at' .var a0.vars a1.var.toNat).name) ++ (⟨#[32]⟩ : ByteArray)).size + (at' .str ([(⟨#[]⟩ : ByteArray), (⟨#[60, 61]⟩ : ByteArray), (⟨#[62, 61]⟩ : ByteArray), (⟨#[61, 61]⟩ : ByteArray), (⟨#[33, 61]⟩ : ByteArray)]) a1.op.toNat).size ≤ 140737488355328 ∧
 ((((at' .var a0.vars a1.var.toNat).name) ++ (⟨#[32]⟩ : ByteArray)) ++ (at' .str ([(⟨#[]⟩ : ByteArray), (⟨#[60, 61]⟩ : ByteArray), (⟨#[62, 61]⟩ : ByteArray), (⟨#[61, 61]⟩ : ByteArray), (⟨#[33, 61]⟩ : ByteArray)]) a1.op.toNat)).size + (⟨#[32]⟩ : ByteArray).size ≤ 140737488355328 ∧
 Call1 Tryz.prog f_cordonref_Digits [dI a1.n] .str fun c1 =>
 (((((at' .var a0.vars a1.var.toNat).name) ++ (⟨#[32]⟩ : ByteArray)) ++ (at' .str ([(⟨#[]⟩ : ByteArray), (⟨#[60, 61]⟩ : ByteArray), (⟨#[62, 61]⟩ : ByteArray), (⟨#[61, 61]⟩ : ByteArray), (⟨#[33, 61]⟩ : ByteArray)]) a1.op.toNat)) ++ (⟨#[32]⟩ : ByteArray)).size + c1.size ≤ 140737488355328 ∧
 R (.str ((((((at' .var a0.vars a1.var.toNat).name) ++ (⟨#[32]⟩ : ByteArray)) ++ (at' .str ([(⟨#[]⟩ : ByteArray), (⟨#[60, 61]⟩ : ByteArray), (⟨#[62, 61]⟩ : ByteArray), (⟨#[61, 61]⟩ : ByteArray), (⟨#[33, 61]⟩ : ByteArray)]) a1.op.toNat)) ++ (⟨#[32]⟩ : ByteArray)) ++ c1))) := by kernel_rfl
theorem cordonref_litText_sat (a0 : MdlD) (a1 : LitD) : SatI cordonref_litText_A Tryz.f66 f_cordonref_litText [dM a0, dL a1] := satD Tryz.func66 (by kernel_rfl) Tryz.ntmps66 rfl
/-! ### cordon/cordonref.SameClause -/
def cordonref_SameClause_A : Ann := { own := [], live := [(0, ([0, 1, 5], []))], n := 26, nils := [], pubs := [] }
def cordonref_SameClause_I0 (a0 : List LitD) (a1 : List LitD) (R : D → Prop) (n0 : Nat) (i1 : Int) : Prop := LP cordonref_SameClause_A Tryz.f69 [1, 1, 0, 1, 0, 0] 0 n0 ⟨[(0, .sl .lit a0), (1, .sl .lit a1), (5, dI i1)], []⟩ (blockK 0 (sK cordonref_SameClause_A Tryz.f69 [1, 1, 1] 0 (eK Tryz.f69 R)))
theorem cordonref_SameClause_I0_eq (a0 : List LitD) (a1 : List LitD) (R : D → Prop) (n0 : Nat) (i1 : Int) : cordonref_SameClause_I0 a0 a1 R (n0 + 1) i1 =
 (sel (decide (i1 < (a0.length : Int)))
 (inb i1 a0.length = true ∧
 inb i1 a1.length = true ∧
 sel (!decide ((at' .lit a0 i1.toNat) = (at' .lit a1 i1.toNat)))
 (R (dB false))
 (cordonref_SameClause_I0 a0 a1 R n0 (w64 (i1 + 1))))
 (R (dB true))) := by kernel_rfl
theorem cordonref_SameClause_eq (a0 : List LitD) (a1 : List LitD) (R : D → Prop) : FD cordonref_SameClause_A Tryz.f69 [.sl .lit a0, .sl .lit a1] R =
 (sel (!decide ((a0.length : Int) = (a1.length : Int)))
 (R (dB false))
 (∃ n0, cordonref_SameClause_I0 a0 a1 R n0 0)) := by kernel_rfl
theorem cordonref_SameClause_sat (a0 : List LitD) (a1 : List LitD) : SatI cordonref_SameClause_A Tryz.f69 f_cordonref_SameClause [.sl .lit a0, .sl .lit a1] := satD Tryz.func69 (by kernel_rfl) Tryz.ntmps69 rfl
/-! ### cordon/cordonref.SameLists -/
def cordonref_SameLists_A : Ann := { own := [], live := [(0, ([0, 1, 5], []))], n := 27, nils := [], pubs := [] }
def cordonref_SameLists_I0 (a0 : List (List Int)) (a1 : List (List Int)) (R : D → Prop) (n0 : Nat) (i1 : Int) : Prop := LP cordonref_SameLists_A Tryz.f80 [1, 1, 0, 1, 0, 0] 0 n0 ⟨[(0, dS a0), (1, dS a1), (5, dI i1)], []⟩ (blockK 0 (sK cordonref_SameLists_A Tryz.f80 [1, 1, 1] 0 (eK Tryz.f80 R)))
theorem cordonref_SameLists_I0_eq (a0 : List (List Int)) (a1 : List (List Int)) (R : D → Prop) (n0 : Nat) (i1 : Int) : cordonref_SameLists_I0 a0 a1 R (n0 + 1) i1 =
 (sel (decide (i1 < (a0.length : Int)))
 (inb i1 a0.length = true ∧
 inb i1 a1.length = true ∧
 Call1 Tryz.prog f_cordonref_SameInts [.sl .int (at' (.list .int) a0 i1.toNat), .sl .int (at' (.list .int) a1 i1.toNat)] .bool fun c2 =>
 sel (!c2)
 (R (dB false))
 (cordonref_SameLists_I0 a0 a1 R n0 (w64 (i1 + 1))))
 (R (dB true))) := by kernel_rfl
theorem cordonref_SameLists_eq (a0 : List (List Int)) (a1 : List (List Int)) (R : D → Prop) : FD cordonref_SameLists_A Tryz.f80 [dS a0, dS a1] R =
 (sel (!decide ((a0.length : Int) = (a1.length : Int)))
 (R (dB false))
 (∃ n0, cordonref_SameLists_I0 a0 a1 R n0 0)) := by kernel_rfl
theorem cordonref_SameLists_sat (a0 : List (List Int)) (a1 : List (List Int)) : SatI cordonref_SameLists_A Tryz.f80 f_cordonref_SameLists [dS a0, dS a1] := satD Tryz.func80 (by kernel_rfl) Tryz.ntmps80 rfl
/-! ### cordon/cordonref.rightForm -/
def cordonref_rightForm_A : Ann := { own := [], live := [(1, ([1, 3, 4, 5, 6, 7], []))], n := 164, nils := [], pubs := [] }
def cordonref_rightForm_I1 (a0 : ConD) (R : D → Prop) (n1 : Nat) (v1 : Int) : Prop := LP cordonref_rightForm_A Tryz.f114 [1, 1, 1, 0, 1, 0, 1, 1, 1, 1, 1, 1, 1, 0, 0, 1, 0, 0] 1 n1 ⟨[(1, .iptr [dI a0.kind, .sl .int a0.vars, .sl .int a0.consts, dI a0.n, dS a0.rows, .sl .lit a0.lits] 0), (3, dI (a0.vars.length : Int)), (4, dI (a0.consts.length : Int)), (5, dI (a0.rows.length : Int)), (6, dI (a0.lits.length : Int)), (7, dI v1)], []⟩ (blockK 1 (sK cordonref_rightForm_A Tryz.f114 [1, 1, 1, 0, 1, 0, 1, 1, 1, 1, 1, 1, 1, 0, 1] 0 (blockK 0 (sK cordonref_rightForm_A Tryz.f114 [1, 1, 1, 1] 0 (eK Tryz.f114 R)))))
def cordonref_rightForm_I1_2 (a0 : ConD) (R : D → Prop) (n1_2 : Nat) (v2 : Int) : Prop := LP cordonref_rightForm_A Tryz.f114 [1, 1, 1, 0, 1, 0, 1, 1, 1, 1, 1, 1, 1, 0, 0, 1, 0, 0] 1 n1_2 ⟨[(1, .iptr [dI a0.kind, .sl .int a0.vars, .sl .int a0.consts, dI a0.n, dS a0.rows, .sl .lit a0.lits] 0), (3, dI (a0.vars.length : Int)), (4, dI (a0.consts.length : Int)), (5, dI (a0.rows.length : Int)), (6, dI (a0.lits.length : Int)), (7, dI v2)], []⟩ (blockK 1 (sK cordonref_rightForm_A Tryz.f114 [1, 1, 1, 0, 1, 0, 1, 1, 1, 1, 1, 1, 1, 0, 1] 0 (blockK 0 (sK cordonref_rightForm_A Tryz.f114 [1, 1, 1, 1] 0 (eK Tryz.f114 R)))))
theorem cordonref_rightForm_I1_eq (a0 : ConD) (R : D → Prop) (n1 : Nat) (v1 : Int) : cordonref_rightForm_I1 a0 R (n1 + 1) v1 =
 (sel (decide (v1 < (a0.rows.length : Int)))
 (inb v1 a0.rows.length = true ∧
 sel (!decide (((at' (.list .int) a0.rows v1.toNat).length : Int) = (a0.vars.length : Int)))
 (R (dB false))
 (cordonref_rightForm_I1 a0 R n1 (w64 (v1 + 1))))
 (sel (decide (1 ≤ (a0.vars.length : Int)))
 (sel (decide ((a0.consts.length : Int) = 0))
 (R (dB (decide ((a0.lits.length : Int) = 0))))
 (R (dB false)))
 (R (dB false)))) := by kernel_rfl
theorem cordonref_rightForm_eq (a0 : ConD) (R : D → Prop) : FD cordonref_rightForm_A Tryz.f114 [dC a0] R =
 (sel (decide (3 < a0.kind))
 (sel (!decide (a0.n = 0))
 (R (dB false))
 (sel (decide (a0.kind = 1))
 (sel (decide (1 ≤ (a0.vars.length : Int)))
 (sel (decide ((a0.consts.length : Int) = (a0.vars.length : Int)))
 (sel (decide ((a0.rows.length : Int) = 0))
 (R (dB (decide ((a0.lits.length : Int) = 0))))
 (R (dB false)))
 (R (dB false)))
 (R (dB false)))
 (sel (decide (a0.kind = 2))
 (sel (decide (1 ≤ (a0.vars.length : Int)))
 (sel (decide ((a0.consts.length : Int) = (a0.vars.length : Int)))
 (sel (decide ((a0.rows.length : Int) = 0))
 (R (dB (decide ((a0.lits.length : Int) = 0))))
 (R (dB false)))
 (R (dB false)))
 (R (dB false)))
 (sel (decide (a0.kind = 3))
 (sel (decide (1 ≤ (a0.vars.length : Int)))
 (sel (decide ((a0.consts.length : Int) = (a0.vars.length : Int)))
 (sel (decide ((a0.rows.length : Int) = 0))
 (R (dB (decide ((a0.lits.length : Int) = 0))))
 (R (dB false)))
 (R (dB false)))
 (R (dB false)))
 (sel (decide (a0.kind = 4))
 (sel (decide (1 ≤ (a0.vars.length : Int)))
 (sel (decide ((a0.consts.length : Int) = 0))
 (sel (decide ((a0.rows.length : Int) = 0))
 (R (dB (decide ((a0.lits.length : Int) = 0))))
 (R (dB false)))
 (R (dB false)))
 (R (dB false)))
 (sel (decide (a0.kind = 5))
 (sel (decide ((a0.vars.length : Int) = 2))
 (sel (decide (1 ≤ (a0.consts.length : Int)))
 (sel (decide ((a0.rows.length : Int) = 0))
 (R (dB (decide ((a0.lits.length : Int) = 0))))
 (R (dB false)))
 (R (dB false)))
 (R (dB false)))
 (sel (decide (a0.kind = 6))
 (∃ n1, cordonref_rightForm_I1 a0 R n1 0)
 (sel (decide (a0.kind = 7))
 (sel (decide ((a0.vars.length : Int) = 3))
 (sel (decide ((a0.consts.length : Int) = 0))
 (sel (decide ((a0.rows.length : Int) = 0))
 (R (dB (decide ((a0.lits.length : Int) = 0))))
 (R (dB false)))
 (R (dB false)))
 (R (dB false)))
 (sel (decide (a0.kind = 8))
 (sel (decide (2 ≤ (a0.vars.length : Int)))
 (sel (decide ((a0.consts.length : Int) = 0))
 (sel (decide ((a0.rows.length : Int) = 0))
 (R (dB (decide ((a0.lits.length : Int) = 0))))
 (R (dB false)))
 (R (dB false)))
 (R (dB false)))
 (sel (decide (a0.kind = 9))
 (sel (decide ((a0.vars.length : Int) = 0))
 (sel (decide ((a0.consts.length : Int) = 0))
 (R (dB (decide ((a0.rows.length : Int) = 0))))
 (R (dB false)))
 (R (dB false)))
 (sel (decide ((a0.vars.length : Int) = 1))
 (sel (decide ((a0.consts.length : Int) = 0))
 (sel (decide ((a0.rows.length : Int) = 0))
 (R (dB (decide ((a0.lits.length : Int) = 1))))
 (R (dB false)))
 (R (dB false)))
 (R (dB false)))))))))))))
 (sel (decide (a0.kind = 1))
 (sel (decide (1 ≤ (a0.vars.length : Int)))
 (sel (decide ((a0.consts.length : Int) = (a0.vars.length : Int)))
 (sel (decide ((a0.rows.length : Int) = 0))
 (R (dB (decide ((a0.lits.length : Int) = 0))))
 (R (dB false)))
 (R (dB false)))
 (R (dB false)))
 (sel (decide (a0.kind = 2))
 (sel (decide (1 ≤ (a0.vars.length : Int)))
 (sel (decide ((a0.consts.length : Int) = (a0.vars.length : Int)))
 (sel (decide ((a0.rows.length : Int) = 0))
 (R (dB (decide ((a0.lits.length : Int) = 0))))
 (R (dB false)))
 (R (dB false)))
 (R (dB false)))
 (sel (decide (a0.kind = 3))
 (sel (decide (1 ≤ (a0.vars.length : Int)))
 (sel (decide ((a0.consts.length : Int) = (a0.vars.length : Int)))
 (sel (decide ((a0.rows.length : Int) = 0))
 (R (dB (decide ((a0.lits.length : Int) = 0))))
 (R (dB false)))
 (R (dB false)))
 (R (dB false)))
 (sel (decide (a0.kind = 4))
 (sel (decide (1 ≤ (a0.vars.length : Int)))
 (sel (decide ((a0.consts.length : Int) = 0))
 (sel (decide ((a0.rows.length : Int) = 0))
 (R (dB (decide ((a0.lits.length : Int) = 0))))
 (R (dB false)))
 (R (dB false)))
 (R (dB false)))
 (sel (decide (a0.kind = 5))
 (sel (decide ((a0.vars.length : Int) = 2))
 (sel (decide (1 ≤ (a0.consts.length : Int)))
 (sel (decide ((a0.rows.length : Int) = 0))
 (R (dB (decide ((a0.lits.length : Int) = 0))))
 (R (dB false)))
 (R (dB false)))
 (R (dB false)))
 (sel (decide (a0.kind = 6))
 (∃ n1_2, cordonref_rightForm_I1_2 a0 R n1_2 0)
 (sel (decide (a0.kind = 7))
 (sel (decide ((a0.vars.length : Int) = 3))
 (sel (decide ((a0.consts.length : Int) = 0))
 (sel (decide ((a0.rows.length : Int) = 0))
 (R (dB (decide ((a0.lits.length : Int) = 0))))
 (R (dB false)))
 (R (dB false)))
 (R (dB false)))
 (sel (decide (a0.kind = 8))
 (sel (decide (2 ≤ (a0.vars.length : Int)))
 (sel (decide ((a0.consts.length : Int) = 0))
 (sel (decide ((a0.rows.length : Int) = 0))
 (R (dB (decide ((a0.lits.length : Int) = 0))))
 (R (dB false)))
 (R (dB false)))
 (R (dB false)))
 (sel (decide (a0.kind = 9))
 (sel (decide ((a0.vars.length : Int) = 0))
 (sel (decide ((a0.consts.length : Int) = 0))
 (R (dB (decide ((a0.rows.length : Int) = 0))))
 (R (dB false)))
 (R (dB false)))
 (sel (decide ((a0.vars.length : Int) = 1))
 (sel (decide ((a0.consts.length : Int) = 0))
 (sel (decide ((a0.rows.length : Int) = 0))
 (R (dB (decide ((a0.lits.length : Int) = 1))))
 (R (dB false)))
 (R (dB false)))
 (R (dB false))))))))))))) := by kernel_rfl
theorem cordonref_rightForm_sat (a0 : ConD) : SatI cordonref_rightForm_A Tryz.f114 f_cordonref_rightForm [dC a0] := satD Tryz.func114 (by kernel_rfl) Tryz.ntmps114 rfl
/-! ### cordon/cordonref.inConst -/
def cordonref_inConst_A : Ann := { own := [], live := [], n := 5, nils := [], pubs := [] }
theorem cordonref_inConst_eq (a0 : Int) (R : D → Prop) : FD cordonref_inConst_A Tryz.f115 [dI a0] R =
 (Call1 Tryz.prog f_cordonref_between [dI a0, dI (-1000), dI 1000] .bool fun c1 =>
 R (dB c1)) := by kernel_rfl
theorem cordonref_inConst_sat (a0 : Int) : SatI cordonref_inConst_A Tryz.f115 f_cordonref_inConst [dI a0] := satD Tryz.func115 (by kernel_rfl) Tryz.ntmps115 rfl
/-! ### cordon/cordonref.CheckLit -/
def cordonref_CheckLit_A : Ann := { own := [], live := [], n := 21, nils := [], pubs := [] }
theorem cordonref_CheckLit_eq (a0 : MdlD) (a1 : LitD) (R : D → Prop) : FD cordonref_CheckLit_A Tryz.f116 [dM a0, dL a1] R =
 (Call1 Tryz.prog f_cordonref_between [dI a1.var, dI 0, dI (w64 ((a0.vars.length : Int) - 1))] .bool fun c1 =>
 sel (!c1)
 (R (dI 5))
 (Call1 Tryz.prog f_cordonref_between [dI a1.op, dI 1, dI 4] .bool fun c2 =>
 sel (!c2)
 (R (dI 7))
 (Call1 Tryz.prog f_cordonref_inConst [dI a1.n] .bool fun c3 =>
 sel (!c3)
 (R (dI 3))
 (R (dI 0))))) := by kernel_rfl
theorem cordonref_CheckLit_sat (a0 : MdlD) (a1 : LitD) : SatI cordonref_CheckLit_A Tryz.f116 f_cordonref_CheckLit [dM a0, dL a1] := satD Tryz.func116 (by kernel_rfl) Tryz.ntmps116 rfl
end Go.Proofs.YtogdmcebojiojaaGreatDoor
