/- What the functions of a package do, as equations of plain propositions: printed by a program that carries the code out on symbols. -/
import Derived.Test.YtogdmcebojiojaaGreatDoorWEv
namespace Go.Proofs.YtogdmcebojiojaaGreatDoor
open Go.RowKit
set_option linter.unusedVariables false
set_option maxRecDepth 100000
/-! ### cordon/model.Check -/
def model_Check_A : Ann := { own := [5], live := [(1, ([1, 30, 31, 32], []))], n := 75, nils := [], pubs := [] }
def model_Check_I1 (a0 : MdlD) (R : D → Prop) (n1 : Nat) (v2 : Int) : Prop := LP model_Check_A Tryz.f43 [1, 1, 1, 0, 1, 0, 0] 1 n1 ⟨[(1, .iptr [.sl .var a0.vars, .sl .con a0.cons, dI a0.goal, dI a0.var] 0), (30, .sl .con a0.cons), (31, dI (a0.cons.length : Int)), (32, dI v2)], []⟩ (blockK 1 (sK model_Check_A Tryz.f43 [1, 1, 1, 1] 0 (eK Tryz.f43 R)))
theorem model_Check_I1_eq (a0 : MdlD) (R : D → Prop) (n1 : Nat) (v2 : Int) : model_Check_I1 a0 R (n1 + 1) v2 =
 (sel (decide (v2 < (a0.cons.length : Int)))
 (inb v2 a0.cons.length = true ∧
 Call1 Tryz.prog f_model_con [dM a0, dC (at' .con a0.cons v2.toNat)] .int fun m3 =>
 sel (!decide (m3 = 0))
 (R (dI m3))
 (model_Check_I1 a0 R n1 (w64 (v2 + 1))))
 (sel (decide (a0.goal < 0))
 (R (dI 7))
 (sel (decide (2 < a0.goal))
 (R (dI 7))
 (sel (decide (a0.goal = 0))
 (sel (!decide (a0.var = 0))
 (R (dI 1))
 (sel (!decide (a0.goal = 0))
 (Call1 Tryz.prog f_model_within [dI a0.var, dI 0, dI (w64 ((a0.vars.length : Int) - 1))] .bool fun m4 =>
 sel (!m4)
 (R (dI 5))
 (R (dI 0)))
 (R (dI 0))))
 (sel (!decide (a0.goal = 0))
 (Call1 Tryz.prog f_model_within [dI a0.var, dI 0, dI (w64 ((a0.vars.length : Int) - 1))] .bool fun m5 =>
 sel (!m5)
 (R (dI 5))
 (R (dI 0)))
 (R (dI 0))))))) := by kernel_rfl
theorem model_Check_eq (a0 : MdlD) (R : D → Prop) : FD model_Check_A Tryz.f43 [dM a0] R =
 (sel (decide ((a0.vars.length : Int) = 0))
 (R (dI 1))
 (sel (decide (6 < (a0.vars.length : Int)))
 (R (dI 2))
 (sel (decide (8 < (a0.cons.length : Int)))
 (R (dI 2))
 (Call1 Tryz.prog f_model_vars [.sl .var a0.vars] .int fun m1 =>
 sel (!decide (m1 = 0))
 (R (dI m1))
 (∃ n1, model_Check_I1 a0 R n1 0))))) := by kernel_rfl
theorem model_Check_sat (a0 : MdlD) : SatI model_Check_A Tryz.f43 f_model_Check [dM a0] := satD Tryz.func43 (by kernel_rfl) Tryz.ntmps43 rfl
/-! ### cordon/model.vars -/
def model_vars_A : Ann := { own := [4], live := [(0, ([0, 5, 6, 7], []))], n := 49, nils := [], pubs := [] }
def model_vars_I0 (a0 : List VarD) (R : D → Prop) (n0 : Nat) (v1 : Int) : Prop := LP model_vars_A Tryz.f95 [1, 0, 1, 0, 0] 0 n0 ⟨[(0, .sl .var a0), (5, .sl .var a0), (6, dI (a0.length : Int)), (7, dI v1)], []⟩ (blockK 0 (sK model_vars_A Tryz.f95 [1, 1] 0 (eK Tryz.f95 R)))
theorem model_vars_I0_eq (a0 : List VarD) (R : D → Prop) (n0 : Nat) (v1 : Int) : model_vars_I0 a0 R (n0 + 1) v1 =
 (sel (decide (v1 < (a0.length : Int)))
 (inb v1 a0.length = true ∧
 Call1 Tryz.prog f_model_Name [.str ((at' .var a0 v1.toNat).name)] .bool fun m2 =>
 sel (!m2)
 (R (dI 1))
 (inSl 0 v1 a0.length = true ∧
 Call1 Tryz.prog f_slices_ContainsFunc_l_api_Var_api_Var [.sl .var ((a0.take v1.toNat).drop 0), .clo f_model_vars_1 none [.iptr [.str ((at' .var a0 v1.toNat).name), dI ((at' .var a0 v1.toNat).lo), dI ((at' .var a0 v1.toNat).hi)] 0]] .bool fun s3 =>
 sel s3
 (R (dI 6))
 (Call1 Tryz.prog f_model_within [dI ((at' .var a0 v1.toNat).lo), dI (-50), dI 50] .bool fun m4 =>
 sel (!m4)
 (R (dI 3))
 (Call1 Tryz.prog f_model_within [dI ((at' .var a0 v1.toNat).hi), dI (-50), dI 50] .bool fun m5 =>
 sel (!m5)
 (R (dI 3))
 (sel (decide (((at' .var a0 v1.toNat).hi) < ((at' .var a0 v1.toNat).lo)))
 (R (dI 3))
 (sel (decide (6 ≤ (w64 (((at' .var a0 v1.toNat).hi) - ((at' .var a0 v1.toNat).lo)))))
 (R (dI 2))
 (model_vars_I0 a0 R n0 (w64 (v1 + 1)))))))))
 (R (dI 0))) := by kernel_rfl
theorem model_vars_eq (a0 : List VarD) (R : D → Prop) : FD model_vars_A Tryz.f95 [.sl .var a0] R =
 (∃ n0, model_vars_I0 a0 R n0 0) := by kernel_rfl
theorem model_vars_sat (a0 : List VarD) : SatI model_vars_A Tryz.f95 f_model_vars [.sl .var a0] := satD Tryz.func95 (by kernel_rfl) Tryz.ntmps95 rfl
/-! ### cordon/model.con -/
def model_con_A : Ann := { own := [5, 6, 8], live := [(1, ([6, 75, 76, 77], []))], n := 94, nils := [], pubs := [] }
def model_con_I1 (a1 : ConD) (R : D → Prop) (n1 : Nat) (v7 : Int) : Prop := LP model_con_A Tryz.f96 [1, 1, 1, 1, 0, 1, 0, 0] 1 n1 ⟨[(6, .iptr [.clo f_model_con_2 none []] 0), (75, .sl .lit a1.lits), (76, dI (a1.lits.length : Int)), (77, dI v7)], []⟩ (blockK 1 (sK model_con_A Tryz.f96 [1, 1, 1, 1, 1] 0 (eK Tryz.f96 R)))
theorem model_con_I1_eq (a1 : ConD) (R : D → Prop) (n1 : Nat) (v7 : Int) : model_con_I1 a1 R (n1 + 1) v7 =
 (sel (decide (v7 < (a1.lits.length : Int)))
 (inb v7 a1.lits.length = true ∧
 sel (decide (((at' .lit a1.lits v7.toNat).op) < 1))
 (R (dI 7))
 (sel (decide (4 < ((at' .lit a1.lits v7.toNat).op)))
 (R (dI 7))
 (Call1 Tryz.prog f_model_con_2 [dI ((at' .lit a1.lits v7.toNat).n)] .bool fun m8 =>
 sel m8
 (R (dI 3))
 (model_con_I1 a1 R n1 (w64 (v7 + 1))))))
 (R (dI 0))) := by kernel_rfl
theorem model_con_eq (a0 : MdlD) (a1 : ConD) (R : D → Prop) : FD model_con_A Tryz.f96 [dM a0, dC a1] R =
 (sel (decide (a1.kind < 1))
 (R (dI 7))
 (sel (decide (10 < a1.kind))
 (R (dI 7))
 (sel (decide (4 < (a1.vars.length : Int)))
 (R (dI 2))
 (sel (decide (4 < (a1.lits.length : Int)))
 (R (dI 2))
 (sel (decide (8 < (a1.consts.length : Int)))
 (R (dI 2))
 (sel (decide (20 < (a1.rows.length : Int)))
 (R (dI 2))
 (Call1 Tryz.prog f_model_form [dC a1] .bool fun m1 =>
 sel (!m1)
 (R (dI 1))
 (Call1 Tryz.prog f_slices_ContainsFunc_l_int_int [.sl .int a1.vars, .clo f_model_con_1 none [.iptr [.sl .var a0.vars, .sl .con a0.cons, dI a0.goal, dI a0.var] 0]] .bool fun s2 =>
 sel s2
 (R (dI 5))
 (Call1 Tryz.prog f_slices_ContainsFunc_l_api_Lit_api_Lit [.sl .lit a1.lits, .clo f_model_con_3 none [.iptr [.clo f_model_con_1 none [.iptr [.sl .var a0.vars, .sl .con a0.cons, dI a0.goal, dI a0.var] 0]] 0]] .bool fun s3 =>
 sel s3
 (R (dI 5))
 (Call1 Tryz.prog f_slices_ContainsFunc_l_int_int [.sl .int a1.consts, .clo f_model_con_2 none []] .bool fun s4 =>
 sel s4
 (R (dI 3))
 (Call1 Tryz.prog f_model_con_2 [dI a1.n] .bool fun m5 =>
 sel m5
 (R (dI 3))
 (Call1 Tryz.prog f_slices_ContainsFunc_rows_int_int [dS a1.rows, .clo f_model_con_4 none [.iptr [.clo f_model_con_2 none []] 0]] .bool fun s6 =>
 sel s6
 (R (dI 3))
 (∃ n1, model_con_I1 a1 R n1 0))))))))))))) := by kernel_rfl
theorem model_con_sat (a0 : MdlD) (a1 : ConD) : SatI model_con_A Tryz.f96 f_model_con [dM a0, dC a1] := satD Tryz.func96 (by kernel_rfl) Tryz.ntmps96 rfl
/-! ### cordon/model.within -/
def model_within_A : Ann := { own := [], live := [], n := 15, nils := [], pubs := [] }
theorem model_within_eq (a0 : Int) (a1 : Int) (a2 : Int) (R : D → Prop) : FD model_within_A Tryz.f97 [dI a0, dI a1, dI a2] R =
 (sel (decide (a1 ≤ a0))
 (R (dB (decide (a0 ≤ a2))))
 (R (dB false))) := by kernel_rfl
theorem model_within_sat (a0 : Int) (a1 : Int) (a2 : Int) : SatI model_within_A Tryz.f97 f_model_within [dI a0, dI a1, dI a2] := satD Tryz.func97 (by kernel_rfl) Tryz.ntmps97 rfl
/-! ### cordon/model.vars$1 -/
def model_vars_1_A : Ann := { own := [], live := [], n := 9, nils := [], pubs := [] }
theorem model_vars_1_eq (a0 : VarD) (c0 : VarD) (R : D → Prop) : FD model_vars_1_A Tryz.f163 [dV a0, .iptr [.str c0.name, dI c0.lo, dI c0.hi] 0] R =
 (R (dB (decide (a0.name = c0.name)))) := by kernel_rfl
theorem model_vars_1_sat (a0 : VarD) (c0 : VarD) : SatI model_vars_1_A Tryz.f163 f_model_vars_1 [dV a0, .iptr [.str c0.name, dI c0.lo, dI c0.hi] 0] := satD Tryz.func163 (by kernel_rfl) Tryz.ntmps163 rfl
/-! ### cordon/model.con$1 -/
def model_con_1_A : Ann := { own := [], live := [], n := 11, nils := [], pubs := [] }
theorem model_con_1_eq (a0 : Int) (c0 : MdlD) (R : D → Prop) : FD model_con_1_A Tryz.f164 [dI a0, .iptr [.sl .var c0.vars, .sl .con c0.cons, dI c0.goal, dI c0.var] 0] R =
 (Call1 Tryz.prog f_model_within [dI a0, dI 0, dI (w64 ((c0.vars.length : Int) - 1))] .bool fun m1 =>
 R (dB (!m1))) := by kernel_rfl
theorem model_con_1_sat (a0 : Int) (c0 : MdlD) : SatI model_con_1_A Tryz.f164 f_model_con_1 [dI a0, .iptr [.sl .var c0.vars, .sl .con c0.cons, dI c0.goal, dI c0.var] 0] := satD Tryz.func164 (by kernel_rfl) Tryz.ntmps164 rfl
/-! ### cordon/model.con$2 -/
def model_con_2_A : Ann := { own := [], live := [], n := 6, nils := [], pubs := [] }
theorem model_con_2_eq (a0 : Int) (R : D → Prop) : FD model_con_2_A Tryz.f165 [dI a0] R =
 (Call1 Tryz.prog f_model_within [dI a0, dI (-1000), dI 1000] .bool fun m1 =>
 R (dB (!m1))) := by kernel_rfl
theorem model_con_2_sat (a0 : Int) : SatI model_con_2_A Tryz.f165 f_model_con_2 [dI a0] := satD Tryz.func165 (by kernel_rfl) Tryz.ntmps165 rfl
/-! ### cordon/model.form -/
def model_form_A : Ann := { own := [3], live := [], n := 66, nils := [], pubs := [] }
theorem model_form_eq (a0 : ConD) (R : D → Prop) : FD model_form_A Tryz.f166 [dC a0] R =
 (Call1 Tryz.prog f_model_of [dC a0] (.pr .int (.pr .int (.pr .int (.pr .int .int)))) fun m1 =>
 Call1 Tryz.prog f_model_within [dI (a0.vars.length : Int), dI m1.1, dI m1.2.1] .bool fun m2 =>
 sel (!m2)
 (R (dB false))
 (Call1 Tryz.prog f_model_is [dI (a0.consts.length : Int), dI m1.2.2.1] .bool fun m3 =>
 sel (!m3)
 (R (dB false))
 (Call1 Tryz.prog f_model_is [dI (a0.rows.length : Int), dI m1.2.2.2.1] .bool fun m4 =>
 sel (!m4)
 (R (dB false))
 (Call1 Tryz.prog f_model_is [dI (a0.lits.length : Int), dI m1.2.2.2.2] .bool fun m5 =>
 sel (!m5)
 (R (dB false))
 (sel (decide (a0.kind = 5))
 (sel (decide ((a0.consts.length : Int) = 0))
 (R (dB false))
 (sel (decide (3 < a0.kind))
 (sel (!decide (a0.n = 0))
 (R (dB false))
 (Call1 Tryz.prog f_slices_ContainsFunc_rows_int_int [dS a0.rows, .clo f_model_form_1 none [.iptr [dI a0.kind, .sl .int a0.vars, .sl .int a0.consts, dI a0.n, dS a0.rows, .sl .lit a0.lits] 0]] .bool fun s6 =>
 R (dB (!s6))))
 (Call1 Tryz.prog f_slices_ContainsFunc_rows_int_int [dS a0.rows, .clo f_model_form_1 none [.iptr [dI a0.kind, .sl .int a0.vars, .sl .int a0.consts, dI a0.n, dS a0.rows, .sl .lit a0.lits] 0]] .bool fun s7 =>
 R (dB (!s7)))))
 (sel (decide (3 < a0.kind))
 (sel (!decide (a0.n = 0))
 (R (dB false))
 (Call1 Tryz.prog f_slices_ContainsFunc_rows_int_int [dS a0.rows, .clo f_model_form_1 none [.iptr [dI a0.kind, .sl .int a0.vars, .sl .int a0.consts, dI a0.n, dS a0.rows, .sl .lit a0.lits] 0]] .bool fun s8 =>
 R (dB (!s8))))
 (Call1 Tryz.prog f_slices_ContainsFunc_rows_int_int [dS a0.rows, .clo f_model_form_1 none [.iptr [dI a0.kind, .sl .int a0.vars, .sl .int a0.consts, dI a0.n, dS a0.rows, .sl .lit a0.lits] 0]] .bool fun s9 =>
 R (dB (!s9))))))))) := by kernel_rfl
theorem model_form_sat (a0 : ConD) : SatI model_form_A Tryz.f166 f_model_form [dC a0] := satD Tryz.func166 (by kernel_rfl) Tryz.ntmps166 rfl
/-! ### cordon/model.con$3 -/
def model_con_3_A : Ann := { own := [], live := [], n := 8, nils := [], pubs := [] }
theorem model_con_3_eq (a0 : LitD) (h0 : FuncId) (hap0 : List D) (R : D → Prop) : FD model_con_3_A Tryz.f168 [dL a0, .iptr [.clo h0 (some [.bool]) hap0] 0] R =
 (Ent Tryz.prog h0 ∧
 Call1 Tryz.prog h0 ([dI a0.var] ++ hap0) .bool fun r1 =>
 R (dB r1)) := by kernel_rfl
theorem model_con_3_sat (a0 : LitD) (h0 : FuncId) (hap0 : List D) : SatI model_con_3_A Tryz.f168 f_model_con_3 [dL a0, .iptr [.clo h0 (some [.bool]) hap0] 0] := satD Tryz.func168 (by kernel_rfl) Tryz.ntmps168 rfl
/-! ### cordon/model.con$4 -/
def model_con_4_A : Ann := { own := [], live := [], n := 7, nils := [], pubs := [] }
theorem model_con_4_eq (a0 : List Int) (h0 : FuncId) (hap0 : List D) (R : D → Prop) : FD model_con_4_A Tryz.f170 [.sl .int a0, .iptr [.clo h0 (some [.bool]) hap0] 0] R =
 (Call1 Tryz.prog f_slices_ContainsFunc_l_int_int [.sl .int a0, .clo h0 (some [.bool]) hap0] .bool fun s1 =>
 R (dB s1)) := by kernel_rfl
theorem model_con_4_sat (a0 : List Int) (h0 : FuncId) (hap0 : List D) : SatI model_con_4_A Tryz.f170 f_model_con_4 [.sl .int a0, .iptr [.clo h0 (some [.bool]) hap0] 0] := satD Tryz.func170 (by kernel_rfl) Tryz.ntmps170 rfl
/-! ### cordon/model.of -/
def model_of_A : Ann := { own := [2], live := [], n := 32, nils := [], pubs := [] }
theorem model_of_eq (a0 : ConD) (R : D → Prop) : FD model_of_A Tryz.f222 [dC a0] R =
 (sel (decide (a0.kind = 1))
 (R (.agg [dI 1, dI 4, dI (a0.vars.length : Int), dI 0, dI 0]))
 (sel (decide (a0.kind = 2))
 (R (.agg [dI 1, dI 4, dI (a0.vars.length : Int), dI 0, dI 0]))
 (sel (decide (a0.kind = 3))
 (R (.agg [dI 1, dI 4, dI (a0.vars.length : Int), dI 0, dI 0]))
 (sel (decide (a0.kind = 4))
 (R (.agg [dI 1, dI 4, dI 0, dI 0, dI 0]))
 (sel (decide (a0.kind = 5))
 (R (.agg [dI 2, dI 2, dI (-1), dI 0, dI 0]))
 (sel (decide (a0.kind = 6))
 (R (.agg [dI 1, dI 4, dI 0, dI (-1), dI 0]))
 (sel (decide (a0.kind = 7))
 (R (.agg [dI 3, dI 3, dI 0, dI 0, dI 0]))
 (sel (decide (a0.kind = 8))
 (R (.agg [dI 2, dI 4, dI 0, dI 0, dI 0]))
 (sel (decide (a0.kind = 9))
 (R (.agg [dI 0, dI 0, dI 0, dI 0, dI (-1)]))
 (R (.agg [dI 1, dI 1, dI 0, dI 0, dI 1]))))))))))) := by kernel_rfl
theorem model_of_sat (a0 : ConD) : SatI model_of_A Tryz.f222 f_model_of [dC a0] := satD Tryz.func222 (by kernel_rfl) Tryz.ntmps222 rfl
/-! ### cordon/model.is -/
def model_is_A : Ann := { own := [], live := [], n := 12, nils := [], pubs := [] }
theorem model_is_eq (a0 : Int) (a1 : Int) (R : D → Prop) : FD model_is_A Tryz.f223 [dI a0, dI a1] R =
 (sel (decide (a1 = (-1)))
 (R (dB true))
 (R (dB (decide (a0 = a1))))) := by kernel_rfl
theorem model_is_sat (a0 : Int) (a1 : Int) : SatI model_is_A Tryz.f223 f_model_is [dI a0, dI a1] := satD Tryz.func223 (by kernel_rfl) Tryz.ntmps223 rfl
/-! ### cordon/model.form$1 -/
def model_form_1_A : Ann := { own := [], live := [], n := 10, nils := [], pubs := [] }
theorem model_form_1_eq (a0 : List Int) (c0 : ConD) (R : D → Prop) : FD model_form_1_A Tryz.f224 [.sl .int a0, .iptr [dI c0.kind, .sl .int c0.vars, .sl .int c0.consts, dI c0.n, dS c0.rows, .sl .lit c0.lits] 0] R =
 (R (dB (!decide ((a0.length : Int) = (c0.vars.length : Int))))) := by kernel_rfl
theorem model_form_1_sat (a0 : List Int) (c0 : ConD) : SatI model_form_1_A Tryz.f224 f_model_form_1 [.sl .int a0, .iptr [dI c0.kind, .sl .int c0.vars, .sl .int c0.consts, dI c0.n, dS c0.rows, .sl .lit c0.lits] 0] := satD Tryz.func224 (by kernel_rfl) Tryz.ntmps224 rfl
end Go.Proofs.YtogdmcebojiojaaGreatDoor
