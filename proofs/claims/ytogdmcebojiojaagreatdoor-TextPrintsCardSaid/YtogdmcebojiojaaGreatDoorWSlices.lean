/- What the functions of a package do, as equations of plain propositions: printed by a program that carries the code out on symbols. -/
import Derived.Test.YtogdmcebojiojaaGreatDoorWEv
namespace Go.Proofs.YtogdmcebojiojaaGreatDoor
open Go.RowKit
set_option linter.unusedVariables false
set_option maxRecDepth 100000
/-! ### slices.ContainsFunc[[]int,int] -/
def slices_ContainsFunc_l_int_int_A : Ann := { own := [], live := [], n := 9, nils := [], pubs := [] }
theorem slices_ContainsFunc_l_int_int_eq (a0 : List Int) (g1 : FuncId) (cap1 : List D) (R : D → Prop) : FD slices_ContainsFunc_l_int_int_A Tryz.f124 [.sl .int a0, .clo g1 (some [.bool]) cap1] R =
 (Call1 Tryz.prog f_slices_IndexFunc_l_int_int [.sl .int a0, .clo g1 (some [.bool]) cap1] .int fun s1 =>
 R (dB (decide (0 ≤ s1)))) := by kernel_rfl
theorem slices_ContainsFunc_l_int_int_sat (a0 : List Int) (g1 : FuncId) (cap1 : List D) : SatI slices_ContainsFunc_l_int_int_A Tryz.f124 f_slices_ContainsFunc_l_int_int [.sl .int a0, .clo g1 (some [.bool]) cap1] := satD Tryz.func124 (by kernel_rfl) Tryz.ntmps124 rfl
/-! ### slices.ContainsFunc[[]cordon/api.Var,cordon/api.Var] -/
def slices_ContainsFunc_l_api_Var_api_Var_A : Ann := { own := [], live := [], n := 9, nils := [], pubs := [] }
theorem slices_ContainsFunc_l_api_Var_api_Var_eq (a0 : List VarD) (g1 : FuncId) (cap1 : List D) (R : D → Prop) : FD slices_ContainsFunc_l_api_Var_api_Var_A Tryz.f162 [.sl .var a0, .clo g1 (some [.bool]) cap1] R =
 (Call1 Tryz.prog f_slices_IndexFunc_l_api_Var_api_Var [.sl .var a0, .clo g1 (some [.bool]) cap1] .int fun s1 =>
 R (dB (decide (0 ≤ s1)))) := by kernel_rfl
theorem slices_ContainsFunc_l_api_Var_api_Var_sat (a0 : List VarD) (g1 : FuncId) (cap1 : List D) : SatI slices_ContainsFunc_l_api_Var_api_Var_A Tryz.f162 f_slices_ContainsFunc_l_api_Var_api_Var [.sl .var a0, .clo g1 (some [.bool]) cap1] := satD Tryz.func162 (by kernel_rfl) Tryz.ntmps162 rfl
/-! ### slices.ContainsFunc[[]cordon/api.Lit,cordon/api.Lit] -/
def slices_ContainsFunc_l_api_Lit_api_Lit_A : Ann := { own := [], live := [], n := 9, nils := [], pubs := [] }
theorem slices_ContainsFunc_l_api_Lit_api_Lit_eq (a0 : List LitD) (g1 : FuncId) (cap1 : List D) (R : D → Prop) : FD slices_ContainsFunc_l_api_Lit_api_Lit_A Tryz.f167 [.sl .lit a0, .clo g1 (some [.bool]) cap1] R =
 (Call1 Tryz.prog f_slices_IndexFunc_l_api_Lit_api_Lit [.sl .lit a0, .clo g1 (some [.bool]) cap1] .int fun s1 =>
 R (dB (decide (0 ≤ s1)))) := by kernel_rfl
theorem slices_ContainsFunc_l_api_Lit_api_Lit_sat (a0 : List LitD) (g1 : FuncId) (cap1 : List D) : SatI slices_ContainsFunc_l_api_Lit_api_Lit_A Tryz.f167 f_slices_ContainsFunc_l_api_Lit_api_Lit [.sl .lit a0, .clo g1 (some [.bool]) cap1] := satD Tryz.func167 (by kernel_rfl) Tryz.ntmps167 rfl
/-! ### slices.ContainsFunc[[][]int,[]int] -/
def slices_ContainsFunc_rows_int_int_A : Ann := { own := [], live := [], n := 9, nils := [], pubs := [] }
theorem slices_ContainsFunc_rows_int_int_eq (a0 : List (List Int)) (g1 : FuncId) (cap1 : List D) (R : D → Prop) : FD slices_ContainsFunc_rows_int_int_A Tryz.f169 [dS a0, .clo g1 (some [.bool]) cap1] R =
 (Call1 Tryz.prog f_slices_IndexFunc_rows_int_int [dS a0, .clo g1 (some [.bool]) cap1] .int fun s1 =>
 R (dB (decide (0 ≤ s1)))) := by kernel_rfl
theorem slices_ContainsFunc_rows_int_int_sat (a0 : List (List Int)) (g1 : FuncId) (cap1 : List D) : SatI slices_ContainsFunc_rows_int_int_A Tryz.f169 f_slices_ContainsFunc_rows_int_int [dS a0, .clo g1 (some [.bool]) cap1] := satD Tryz.func169 (by kernel_rfl) Tryz.ntmps169 rfl
/-! ### slices.IndexFunc[[]int,int] -/
def slices_IndexFunc_l_int_int_A : Ann := { own := [], live := [(0, ([0, 1, 7, 8], []))], n := 19, nils := [], pubs := [] }
def slices_IndexFunc_l_int_int_I0 (a0 : List Int) (g1 : FuncId) (cap1 : List D) (R : D → Prop) (n0 : Nat) (v1 : Int) : Prop := LP slices_IndexFunc_l_int_int_A Tryz.f187 [1, 0, 1, 0, 0] 0 n0 ⟨[(0, .sl .int a0), (1, .clo g1 (some [.bool]) cap1), (7, dI (a0.length : Int)), (8, dI v1)], []⟩ (blockK 0 (sK slices_IndexFunc_l_int_int_A Tryz.f187 [1, 1] 0 (eK Tryz.f187 R)))
theorem slices_IndexFunc_l_int_int_I0_eq (a0 : List Int) (g1 : FuncId) (cap1 : List D) (R : D → Prop) (n0 : Nat) (v1 : Int) : slices_IndexFunc_l_int_int_I0 a0 g1 cap1 R (n0 + 1) v1 =
 (sel (decide (v1 < (a0.length : Int)))
 (inb v1 a0.length = true ∧
 Ent Tryz.prog g1 ∧
 Call1 Tryz.prog g1 ([dI (at' .int a0 v1.toNat)] ++ cap1) .bool fun r2 =>
 sel r2
 (R (dI v1))
 (slices_IndexFunc_l_int_int_I0 a0 g1 cap1 R n0 (w64 (v1 + 1))))
 (R (dI (-1)))) := by kernel_rfl
theorem slices_IndexFunc_l_int_int_eq (a0 : List Int) (g1 : FuncId) (cap1 : List D) (R : D → Prop) : FD slices_IndexFunc_l_int_int_A Tryz.f187 [.sl .int a0, .clo g1 (some [.bool]) cap1] R =
 (∃ n0, slices_IndexFunc_l_int_int_I0 a0 g1 cap1 R n0 0) := by kernel_rfl
theorem slices_IndexFunc_l_int_int_sat (a0 : List Int) (g1 : FuncId) (cap1 : List D) : SatI slices_IndexFunc_l_int_int_A Tryz.f187 f_slices_IndexFunc_l_int_int [.sl .int a0, .clo g1 (some [.bool]) cap1] := satD Tryz.func187 (by kernel_rfl) Tryz.ntmps187 rfl
/-! ### slices.IndexFunc[[]cordon/api.Var,cordon/api.Var] -/
def slices_IndexFunc_l_api_Var_api_Var_A : Ann := { own := [], live := [(0, ([0, 1, 7, 8], []))], n := 19, nils := [], pubs := [] }
def slices_IndexFunc_l_api_Var_api_Var_I0 (a0 : List VarD) (g1 : FuncId) (cap1 : List D) (R : D → Prop) (n0 : Nat) (v1 : Int) : Prop := LP slices_IndexFunc_l_api_Var_api_Var_A Tryz.f221 [1, 0, 1, 0, 0] 0 n0 ⟨[(0, .sl .var a0), (1, .clo g1 (some [.bool]) cap1), (7, dI (a0.length : Int)), (8, dI v1)], []⟩ (blockK 0 (sK slices_IndexFunc_l_api_Var_api_Var_A Tryz.f221 [1, 1] 0 (eK Tryz.f221 R)))
theorem slices_IndexFunc_l_api_Var_api_Var_I0_eq (a0 : List VarD) (g1 : FuncId) (cap1 : List D) (R : D → Prop) (n0 : Nat) (v1 : Int) : slices_IndexFunc_l_api_Var_api_Var_I0 a0 g1 cap1 R (n0 + 1) v1 =
 (sel (decide (v1 < (a0.length : Int)))
 (inb v1 a0.length = true ∧
 Ent Tryz.prog g1 ∧
 Call1 Tryz.prog g1 ([dV (at' .var a0 v1.toNat)] ++ cap1) .bool fun r2 =>
 sel r2
 (R (dI v1))
 (slices_IndexFunc_l_api_Var_api_Var_I0 a0 g1 cap1 R n0 (w64 (v1 + 1))))
 (R (dI (-1)))) := by kernel_rfl
theorem slices_IndexFunc_l_api_Var_api_Var_eq (a0 : List VarD) (g1 : FuncId) (cap1 : List D) (R : D → Prop) : FD slices_IndexFunc_l_api_Var_api_Var_A Tryz.f221 [.sl .var a0, .clo g1 (some [.bool]) cap1] R =
 (∃ n0, slices_IndexFunc_l_api_Var_api_Var_I0 a0 g1 cap1 R n0 0) := by kernel_rfl
theorem slices_IndexFunc_l_api_Var_api_Var_sat (a0 : List VarD) (g1 : FuncId) (cap1 : List D) : SatI slices_IndexFunc_l_api_Var_api_Var_A Tryz.f221 f_slices_IndexFunc_l_api_Var_api_Var [.sl .var a0, .clo g1 (some [.bool]) cap1] := satD Tryz.func221 (by kernel_rfl) Tryz.ntmps221 rfl
/-! ### slices.IndexFunc[[]cordon/api.Lit,cordon/api.Lit] -/
def slices_IndexFunc_l_api_Lit_api_Lit_A : Ann := { own := [], live := [(0, ([0, 1, 7, 8], []))], n := 19, nils := [], pubs := [] }
def slices_IndexFunc_l_api_Lit_api_Lit_I0 (a0 : List LitD) (g1 : FuncId) (cap1 : List D) (R : D → Prop) (n0 : Nat) (v1 : Int) : Prop := LP slices_IndexFunc_l_api_Lit_api_Lit_A Tryz.f225 [1, 0, 1, 0, 0] 0 n0 ⟨[(0, .sl .lit a0), (1, .clo g1 (some [.bool]) cap1), (7, dI (a0.length : Int)), (8, dI v1)], []⟩ (blockK 0 (sK slices_IndexFunc_l_api_Lit_api_Lit_A Tryz.f225 [1, 1] 0 (eK Tryz.f225 R)))
theorem slices_IndexFunc_l_api_Lit_api_Lit_I0_eq (a0 : List LitD) (g1 : FuncId) (cap1 : List D) (R : D → Prop) (n0 : Nat) (v1 : Int) : slices_IndexFunc_l_api_Lit_api_Lit_I0 a0 g1 cap1 R (n0 + 1) v1 =
 (sel (decide (v1 < (a0.length : Int)))
 (inb v1 a0.length = true ∧
 Ent Tryz.prog g1 ∧
 Call1 Tryz.prog g1 ([dL (at' .lit a0 v1.toNat)] ++ cap1) .bool fun r2 =>
 sel r2
 (R (dI v1))
 (slices_IndexFunc_l_api_Lit_api_Lit_I0 a0 g1 cap1 R n0 (w64 (v1 + 1))))
 (R (dI (-1)))) := by kernel_rfl
theorem slices_IndexFunc_l_api_Lit_api_Lit_eq (a0 : List LitD) (g1 : FuncId) (cap1 : List D) (R : D → Prop) : FD slices_IndexFunc_l_api_Lit_api_Lit_A Tryz.f225 [.sl .lit a0, .clo g1 (some [.bool]) cap1] R =
 (∃ n0, slices_IndexFunc_l_api_Lit_api_Lit_I0 a0 g1 cap1 R n0 0) := by kernel_rfl
theorem slices_IndexFunc_l_api_Lit_api_Lit_sat (a0 : List LitD) (g1 : FuncId) (cap1 : List D) : SatI slices_IndexFunc_l_api_Lit_api_Lit_A Tryz.f225 f_slices_IndexFunc_l_api_Lit_api_Lit [.sl .lit a0, .clo g1 (some [.bool]) cap1] := satD Tryz.func225 (by kernel_rfl) Tryz.ntmps225 rfl
/-! ### slices.IndexFunc[[][]int,[]int] -/
def slices_IndexFunc_rows_int_int_A : Ann := { own := [], live := [(0, ([0, 1, 7, 8], []))], n := 19, nils := [], pubs := [] }
def slices_IndexFunc_rows_int_int_I0 (a0 : List (List Int)) (g1 : FuncId) (cap1 : List D) (R : D → Prop) (n0 : Nat) (v1 : Int) : Prop := LP slices_IndexFunc_rows_int_int_A Tryz.f226 [1, 0, 1, 0, 0] 0 n0 ⟨[(0, dS a0), (1, .clo g1 (some [.bool]) cap1), (7, dI (a0.length : Int)), (8, dI v1)], []⟩ (blockK 0 (sK slices_IndexFunc_rows_int_int_A Tryz.f226 [1, 1] 0 (eK Tryz.f226 R)))
theorem slices_IndexFunc_rows_int_int_I0_eq (a0 : List (List Int)) (g1 : FuncId) (cap1 : List D) (R : D → Prop) (n0 : Nat) (v1 : Int) : slices_IndexFunc_rows_int_int_I0 a0 g1 cap1 R (n0 + 1) v1 =
 (sel (decide (v1 < (a0.length : Int)))
 (inb v1 a0.length = true ∧
 Ent Tryz.prog g1 ∧
 Call1 Tryz.prog g1 ([.sl .int (at' (.list .int) a0 v1.toNat)] ++ cap1) .bool fun r2 =>
 sel r2
 (R (dI v1))
 (slices_IndexFunc_rows_int_int_I0 a0 g1 cap1 R n0 (w64 (v1 + 1))))
 (R (dI (-1)))) := by kernel_rfl
theorem slices_IndexFunc_rows_int_int_eq (a0 : List (List Int)) (g1 : FuncId) (cap1 : List D) (R : D → Prop) : FD slices_IndexFunc_rows_int_int_A Tryz.f226 [dS a0, .clo g1 (some [.bool]) cap1] R =
 (∃ n0, slices_IndexFunc_rows_int_int_I0 a0 g1 cap1 R n0 0) := by kernel_rfl
theorem slices_IndexFunc_rows_int_int_sat (a0 : List (List Int)) (g1 : FuncId) (cap1 : List D) : SatI slices_IndexFunc_rows_int_int_A Tryz.f226 f_slices_IndexFunc_rows_int_int [dS a0, .clo g1 (some [.bool]) cap1] := satD Tryz.func226 (by kernel_rfl) Tryz.ntmps226 rfl
end Go.Proofs.YtogdmcebojiojaaGreatDoor
