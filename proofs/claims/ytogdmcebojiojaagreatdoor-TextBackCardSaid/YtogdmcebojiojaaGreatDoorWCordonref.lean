/- What the functions of a package do, as equations of plain propositions: printed by a program that carries the code out on symbols. -/
import Derived.Test.YtogdmcebojiojaaGreatDoorWEv
import Derived.Test.YtogdmcebojiojaaGreatDoorWCordonref2
namespace Go.Proofs.YtogdmcebojiojaaGreatDoor
open Go.RowKit
set_option linter.unusedVariables false
set_option maxRecDepth 100000
/-! ### cordon/cordonref.SameModel -/
def cordonref_SameModel_A : Ann := { own := [], live := [(0, ([2, 3, 5], [])), (2, ([2, 3, 6], []))], n := 74, nils := [], pubs := [] }
def cordonref_SameModel_I2 (a0 : MdlD) (a1 : MdlD) (R : D → Prop) (n2 : Nat) (v2 : Int) : Prop := LP cordonref_SameModel_A Tryz.f13 [1, 1, 1, 0, 1, 0, 0] 2 n2 ⟨[(2, .iptr [.sl .var a0.vars, .sl .con a0.cons, dI a0.goal, dI a0.var] 0), (3, .iptr [.sl .var a1.vars, .sl .con a1.cons, dI a1.goal, dI a1.var] 0), (6, dI v2)], []⟩ (blockK 2 (sK cordonref_SameModel_A Tryz.f13 [1, 1, 1, 1] 0 (eK Tryz.f13 R)))
def cordonref_SameModel_I0 (a0 : MdlD) (a1 : MdlD) (R : D → Prop) (n0 : Nat) (v1 : Int) : Prop := LP cordonref_SameModel_A Tryz.f13 [1, 1, 0, 1, 0, 0] 0 n0 ⟨[(2, .iptr [.sl .var a0.vars, .sl .con a0.cons, dI a0.goal, dI a0.var] 0), (3, .iptr [.sl .var a1.vars, .sl .con a1.cons, dI a1.goal, dI a1.var] 0), (5, dI v1)], []⟩ (blockK 0 (sK cordonref_SameModel_A Tryz.f13 [1, 1, 1] 0 (eK Tryz.f13 R)))
theorem cordonref_SameModel_I2_eq (a0 : MdlD) (a1 : MdlD) (R : D → Prop) (n2 : Nat) (v2 : Int) : cordonref_SameModel_I2 a0 a1 R (n2 + 1) v2 =
 (sel (decide (v2 < (a0.cons.length : Int)))
 (inb v2 a0.cons.length = true ∧
 inb v2 a1.cons.length = true ∧
 Call1 Tryz.prog f_cordonref_sameCon [dC (at' .con a0.cons v2.toNat), dC (at' .con a1.cons v2.toNat)] .bool fun c3 =>
 sel (!c3)
 (R (dB false))
 (cordonref_SameModel_I2 a0 a1 R n2 (w64 (v2 + 1))))
 (R (dB true))) := by kernel_rfl
theorem cordonref_SameModel_I0_eq (a0 : MdlD) (a1 : MdlD) (R : D → Prop) (n0 : Nat) (v1 : Int) : cordonref_SameModel_I0 a0 a1 R (n0 + 1) v1 =
 (sel (decide (v1 < (a0.vars.length : Int)))
 (inb v1 a0.vars.length = true ∧
 inb v1 a1.vars.length = true ∧
 sel (!decide ((at' .var a0.vars v1.toNat) = (at' .var a1.vars v1.toNat)))
 (R (dB false))
 (cordonref_SameModel_I0 a0 a1 R n0 (w64 (v1 + 1))))
 (∃ n2, cordonref_SameModel_I2 a0 a1 R n2 0)) := by kernel_rfl
theorem cordonref_SameModel_eq (a0 : MdlD) (a1 : MdlD) (R : D → Prop) : FD cordonref_SameModel_A Tryz.f13 [dM a0, dM a1] R =
 (sel (!decide ((a0.vars.length : Int) = (a1.vars.length : Int)))
 (R (dB false))
 (sel (!decide ((a0.cons.length : Int) = (a1.cons.length : Int)))
 (R (dB false))
 (sel (!decide (a0.goal = a1.goal))
 (R (dB false))
 (sel (!decide (a0.var = a1.var))
 (R (dB false))
 (∃ n0, cordonref_SameModel_I0 a0 a1 R n0 0))))) := by kernel_rfl
theorem cordonref_SameModel_sat (a0 : MdlD) (a1 : MdlD) : SatI cordonref_SameModel_A Tryz.f13 f_cordonref_SameModel [dM a0, dM a1] := satD Tryz.func13 (by kernel_rfl) Tryz.ntmps13 rfl
/-! ### cordon/cordonref.SameInts -/
def cordonref_SameInts_A : Ann := { own := [], live := [(0, ([0, 1, 5], []))], n := 26, nils := [], pubs := [] }
def cordonref_SameInts_I0 (a0 : List Int) (a1 : List Int) (R : D → Prop) (n0 : Nat) (i1 : Int) : Prop := LP cordonref_SameInts_A Tryz.f38 [1, 1, 0, 1, 0, 0] 0 n0 ⟨[(0, .sl .int a0), (1, .sl .int a1), (5, dI i1)], []⟩ (blockK 0 (sK cordonref_SameInts_A Tryz.f38 [1, 1, 1] 0 (eK Tryz.f38 R)))
theorem cordonref_SameInts_I0_eq (a0 : List Int) (a1 : List Int) (R : D → Prop) (n0 : Nat) (i1 : Int) : cordonref_SameInts_I0 a0 a1 R (n0 + 1) i1 =
 (sel (decide (i1 < (a0.length : Int)))
 (inb i1 a0.length = true ∧
 inb i1 a1.length = true ∧
 sel (!decide ((at' .int a0 i1.toNat) = (at' .int a1 i1.toNat)))
 (R (dB false))
 (cordonref_SameInts_I0 a0 a1 R n0 (w64 (i1 + 1))))
 (R (dB true))) := by kernel_rfl
theorem cordonref_SameInts_eq (a0 : List Int) (a1 : List Int) (R : D → Prop) : FD cordonref_SameInts_A Tryz.f38 [.sl .int a0, .sl .int a1] R =
 (sel (!decide ((a0.length : Int) = (a1.length : Int)))
 (R (dB false))
 (∃ n0, cordonref_SameInts_I0 a0 a1 R n0 0)) := by kernel_rfl
theorem cordonref_SameInts_sat (a0 : List Int) (a1 : List Int) : SatI cordonref_SameInts_A Tryz.f38 f_cordonref_SameInts [.sl .int a0, .sl .int a1] := satD Tryz.func38 (by kernel_rfl) Tryz.ntmps38 rfl
/-! ### cordon/cordonref.sameCon -/
def cordonref_sameCon_A : Ann := { own := [], live := [], n := 45, nils := [], pubs := [] }
theorem cordonref_sameCon_eq (a0 : ConD) (a1 : ConD) (R : D → Prop) : FD cordonref_sameCon_A Tryz.f55 [dC a0, dC a1] R =
 (sel (decide (a0.kind = a1.kind))
 (Call1 Tryz.prog f_cordonref_SameInts [.sl .int a0.vars, .sl .int a1.vars] .bool fun c1 =>
 sel c1
 (Call1 Tryz.prog f_cordonref_SameInts [.sl .int a0.consts, .sl .int a1.consts] .bool fun c2 =>
 sel c2
 (sel (decide (a0.n = a1.n))
 (Call1 Tryz.prog f_cordonref_SameLists [dS a0.rows, dS a1.rows] .bool fun c3 =>
 sel c3
 (Call1 Tryz.prog f_cordonref_SameClause [.sl .lit a0.lits, .sl .lit a1.lits] .bool fun c4 =>
 R (dB c4))
 (R (dB false)))
 (R (dB false)))
 (R (dB false)))
 (R (dB false)))
 (R (dB false))) := by kernel_rfl
theorem cordonref_sameCon_sat (a0 : ConD) (a1 : ConD) : SatI cordonref_sameCon_A Tryz.f55 f_cordonref_sameCon [dC a0, dC a1] := satD Tryz.func55 (by kernel_rfl) Tryz.ntmps55 rfl
/-! ### cordon/cordonref.SameClause -/
def cordonref_SameClause_A : Ann := { own := [], live := [(0, ([0, 1, 5], []))], n := 26, nils := [], pubs := [] }
def cordonref_SameClause_I0 (a0 : List LitD) (a1 : List LitD) (R : D → Prop) (n0 : Nat) (i1 : Int) : Prop := LP cordonref_SameClause_A Tryz.f69 [1, 1, 0, 1, 0, 0] 0 n0 ⟨[(0, .sl .lit a0), (1, .sl .lit a1), (5, dI i1)], []⟩ (blockK 0 (sK cordonref_SameClause_A Tryz.f69 [1, 1, 1] 0 (eK Tryz.f69 R)))
theorem cordonref_SameClause_I0_eq (a0 : List LitD) (a1 : List LitD) (R : D → Prop) (n0 : Nat) (i1 : Int) : cordonref_SameClause_I0 a0 a1 R (n0 + 1) i1 =
 (sel (decide (i1 < (a0.length : Int)))
 (inb i1 a0.length = true ∧
 inb i1 a1.length = true ∧
 sel (!decide ((at' .lit a0 i1.toNat) = (at' .lit a1 i1.toNat)))
 (R (dB false))
 (cordonref_SameClause_I0 a0 a1 R n0 (w64 (i1 + 1))))
 (R (dB true))) := by kernel_rfl
theorem cordonref_SameClause_eq (a0 : List LitD) (a1 : List LitD) (R : D → Prop) : FD cordonref_SameClause_A Tryz.f69 [.sl .lit a0, .sl .lit a1] R =
 (sel (!decide ((a0.length : Int) = (a1.length : Int)))
 (R (dB false))
 (∃ n0, cordonref_SameClause_I0 a0 a1 R n0 0)) := by kernel_rfl
theorem cordonref_SameClause_sat (a0 : List LitD) (a1 : List LitD) : SatI cordonref_SameClause_A Tryz.f69 f_cordonref_SameClause [.sl .lit a0, .sl .lit a1] := satD Tryz.func69 (by kernel_rfl) Tryz.ntmps69 rfl
/-! ### cordon/cordonref.SameLists -/
def cordonref_SameLists_A : Ann := { own := [], live := [(0, ([0, 1, 5], []))], n := 27, nils := [], pubs := [] }
def cordonref_SameLists_I0 (a0 : List (List Int)) (a1 : List (List Int)) (R : D → Prop) (n0 : Nat) (i1 : Int) : Prop := LP cordonref_SameLists_A Tryz.f80 [1, 1, 0, 1, 0, 0] 0 n0 ⟨[(0, dS a0), (1, dS a1), (5, dI i1)], []⟩ (blockK 0 (sK cordonref_SameLists_A Tryz.f80 [1, 1, 1] 0 (eK Tryz.f80 R)))
theorem cordonref_SameLists_I0_eq (a0 : List (List Int)) (a1 : List (List Int)) (R : D → Prop) (n0 : Nat) (i1 : Int) : cordonref_SameLists_I0 a0 a1 R (n0 + 1) i1 =
 (sel (decide (i1 < (a0.length : Int)))
 (inb i1 a0.length = true ∧
 inb i1 a1.length = true ∧
 Call1 Tryz.prog f_cordonref_SameInts [.sl .int (at' (.list .int) a0 i1.toNat), .sl .int (at' (.list .int) a1 i1.toNat)] .bool fun c2 =>
 sel (!c2)
 (R (dB false))
 (cordonref_SameLists_I0 a0 a1 R n0 (w64 (i1 + 1))))
 (R (dB true))) := by kernel_rfl
theorem cordonref_SameLists_eq (a0 : List (List Int)) (a1 : List (List Int)) (R : D → Prop) : FD cordonref_SameLists_A Tryz.f80 [dS a0, dS a1] R =
 (sel (!decide ((a0.length : Int) = (a1.length : Int)))
 (R (dB false))
 (∃ n0, cordonref_SameLists_I0 a0 a1 R n0 0)) := by kernel_rfl
theorem cordonref_SameLists_sat (a0 : List (List Int)) (a1 : List (List Int)) : SatI cordonref_SameLists_A Tryz.f80 f_cordonref_SameLists [dS a0, dS a1] := satD Tryz.func80 (by kernel_rfl) Tryz.ntmps80 rfl
end Go.Proofs.YtogdmcebojiojaaGreatDoor
