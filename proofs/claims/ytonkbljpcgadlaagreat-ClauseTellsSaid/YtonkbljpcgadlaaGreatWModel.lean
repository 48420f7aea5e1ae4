/- What the functions of a package do, as equations of plain propositions: printed by a program that carries the code out on symbols. -/
import Derived.Test.YtonkbljpcgadlaaGreatWEv
namespace Go.Proofs.YtonkbljpcgadlaaGreat
open Go.RowKit
set_option linter.unusedVariables false
set_option maxRecDepth 100000
/-! ### cordon/model.Lit -/
def model_Lit_A : Ann := { own := [], live := [], n := 29, nils := [], pubs := [] }
theorem model_Lit_eq (a0 : LitD) (a1 : Int) (R : D → Prop) : fnD Tryz.prog Ev model_Lit_A Tryz.f25.results.toList (bodyOf Tryz.f25) [.agg [.int .i64 a0.var, .int .i64 a0.op, .int .i64 a0.n], .int .i64 a1] R =
 (sel (decide (a0.op = 1))
 (R (.bool (decide (a1 ≤ a0.n))))
 (sel (decide (a0.op = 2))
 (R (.bool (decide (a0.n ≤ a1))))
 (sel (decide (a0.op = 3))
 (R (.bool (decide (a1 = a0.n))))
 (R (.bool (!decide (a1 = a0.n))))))) := by kernel_rfl
theorem model_Lit_sat {r : D} (a0 : LitD) (a1 : Int) (h : (∀ d ∈ [.agg [.int .i64 a0.var, .int .i64 a0.op, .int .i64 a0.n], .int .i64 a1], okD d) → fnD Tryz.prog Ev model_Lit_A Tryz.f25.results.toList (bodyOf Tryz.f25) [.agg [.int .i64 a0.var, .int .i64 a0.op, .int .i64 a0.n], .int .i64 a1] fun d => d = r) : Sat Tryz.prog f_model_Lit [.agg [.int .i64 a0.var, .int .i64 a0.op, .int .i64 a0.n], .int .i64 a1] r := by
  have h2 := sat_of (r := r) (args := [.agg [.int .i64 a0.var, .int .i64 a0.op, .int .i64 a0.n], .int .i64 a1]) (A := model_Lit_A) (fn := Tryz.f25) (body := bodyOf Tryz.f25) (f := f_model_Lit) factsEv Tryz.func25 (by kernel_rfl) (by rw [Tryz.ntmps25]; rfl) (by rw [Tryz.ntmps25]; exact Nat.le_of_ble_eq_true rfl)
  with_reducible exact h2 h
/-! ### cordon/model.Check -/
def model_Check_A : Ann := { own := [5], live := [(1, ([1, 30, 31, 32], []))], n := 75, nils := [], pubs := [] }
def model_Check_I1 (a0 : MdlD) (R : D → Prop) (n1 : Nat) (v2 : Int) : Prop := iter (den Tryz.prog Ev model_Check_A (sub [1, 1, 1, 0, 1, 0, 0] (bodyOf Tryz.f41)) 1) model_Check_A (liveOf model_Check_A 1) n1 ⟨[(1, .iptr [.sl .var a0.vars, .sl .con a0.cons, .int .i64 a0.goal, .int .i64 a0.var] 0), (30, .sl .con a0.cons), (31, .int .i64 (a0.cons.length : Int)), (32, .int .i64 v2)], []⟩ (blockK 1 (seqK Tryz.prog Ev model_Check_A (sub [1, 1, 1, 1] (bodyOf Tryz.f41)) 0 (endK Ev Tryz.f41.results.toList R)))
theorem model_Check_I1_eq (a0 : MdlD) (R : D → Prop) (n1 : Nat) (v2 : Int) : model_Check_I1 a0 R (n1 + 1) v2 =
 (sel (decide (v2 < (a0.cons.length : Int)))
 (inb v2 a0.cons.length = true ∧
 Call1 Tryz.prog f_model_con [.agg [.sl .var a0.vars, .sl .con a0.cons, .int .i64 a0.goal, .int .i64 a0.var], .agg [.int .i64 ((at' .con a0.cons v2.toNat).kind), .sl .int ((at' .con a0.cons v2.toNat).vars), .sl .int ((at' .con a0.cons v2.toNat).consts), .int .i64 ((at' .con a0.cons v2.toNat).n), .sl (.list .int) ((at' .con a0.cons v2.toNat).rows), .sl .lit ((at' .con a0.cons v2.toNat).lits)]] .int fun m3 =>
 sel (!decide (m3 = 0))
 (R (.int .i64 m3))
 (model_Check_I1 a0 R n1 (w64 (v2 + 1))))
 (sel (decide (a0.goal < 0))
 (R (.int .i64 7))
 (sel (decide (2 < a0.goal))
 (R (.int .i64 7))
 (sel (decide (a0.goal = 0))
 (sel (!decide (a0.var = 0))
 (R (.int .i64 1))
 (sel (!decide (a0.goal = 0))
 (Call1 Tryz.prog f_model_within [.int .i64 a0.var, .int .i64 0, .int .i64 (w64 ((a0.vars.length : Int) - 1))] .bool fun m4 =>
 sel (!m4)
 (R (.int .i64 5))
 (R (.int .i64 0)))
 (R (.int .i64 0))))
 (sel (!decide (a0.goal = 0))
 (Call1 Tryz.prog f_model_within [.int .i64 a0.var, .int .i64 0, .int .i64 (w64 ((a0.vars.length : Int) - 1))] .bool fun m5 =>
 sel (!m5)
 (R (.int .i64 5))
 (R (.int .i64 0)))
 (R (.int .i64 0))))))) := by kernel_rfl
theorem model_Check_eq (a0 : MdlD) (R : D → Prop) : fnD Tryz.prog Ev model_Check_A Tryz.f41.results.toList (bodyOf Tryz.f41) [.agg [.sl .var a0.vars, .sl .con a0.cons, .int .i64 a0.goal, .int .i64 a0.var]] R =
 (sel (decide ((a0.vars.length : Int) = 0))
 (R (.int .i64 1))
 (sel (decide (6 < (a0.vars.length : Int)))
 (R (.int .i64 2))
 (sel (decide (8 < (a0.cons.length : Int)))
 (R (.int .i64 2))
 (Call1 Tryz.prog f_model_vars [.sl .var a0.vars] .int fun m1 =>
 sel (!decide (m1 = 0))
 (R (.int .i64 m1))
 (∃ n1, model_Check_I1 a0 R n1 0))))) := by kernel_rfl
theorem model_Check_sat {r : D} (a0 : MdlD) (h : (∀ d ∈ [.agg [.sl .var a0.vars, .sl .con a0.cons, .int .i64 a0.goal, .int .i64 a0.var]], okD d) → fnD Tryz.prog Ev model_Check_A Tryz.f41.results.toList (bodyOf Tryz.f41) [.agg [.sl .var a0.vars, .sl .con a0.cons, .int .i64 a0.goal, .int .i64 a0.var]] fun d => d = r) : Sat Tryz.prog f_model_Check [.agg [.sl .var a0.vars, .sl .con a0.cons, .int .i64 a0.goal, .int .i64 a0.var]] r := by
  have h2 := sat_of (r := r) (args := [.agg [.sl .var a0.vars, .sl .con a0.cons, .int .i64 a0.goal, .int .i64 a0.var]]) (A := model_Check_A) (fn := Tryz.f41) (body := bodyOf Tryz.f41) (f := f_model_Check) factsEv Tryz.func41 (by kernel_rfl) (by rw [Tryz.ntmps41]; rfl) (by rw [Tryz.ntmps41]; exact Nat.le_of_ble_eq_true rfl)
  with_reducible exact h2 h
/-! ### cordon/model.within -/
def model_within_A : Ann := { own := [], live := [], n := 15, nils := [], pubs := [] }
theorem model_within_eq (a0 : Int) (a1 : Int) (a2 : Int) (R : D → Prop) : fnD Tryz.prog Ev model_within_A Tryz.f46.results.toList (bodyOf Tryz.f46) [.int .i64 a0, .int .i64 a1, .int .i64 a2] R =
 (sel (decide (a1 ≤ a0))
 (R (.bool (decide (a0 ≤ a2))))
 (R (.bool false))) := by kernel_rfl
theorem model_within_sat {r : D} (a0 : Int) (a1 : Int) (a2 : Int) (h : (∀ d ∈ [.int .i64 a0, .int .i64 a1, .int .i64 a2], okD d) → fnD Tryz.prog Ev model_within_A Tryz.f46.results.toList (bodyOf Tryz.f46) [.int .i64 a0, .int .i64 a1, .int .i64 a2] fun d => d = r) : Sat Tryz.prog f_model_within [.int .i64 a0, .int .i64 a1, .int .i64 a2] r := by
  have h2 := sat_of (r := r) (args := [.int .i64 a0, .int .i64 a1, .int .i64 a2]) (A := model_within_A) (fn := Tryz.f46) (body := bodyOf Tryz.f46) (f := f_model_within) factsEv Tryz.func46 (by kernel_rfl) (by rw [Tryz.ntmps46]; rfl) (by rw [Tryz.ntmps46]; exact Nat.le_of_ble_eq_true rfl)
  with_reducible exact h2 h
/-! ### cordon/model.vars -/
def model_vars_A : Ann := { own := [4], live := [(0, ([0, 5, 6, 7], []))], n := 49, nils := [], pubs := [] }
def model_vars_I0 (a0 : List VarD) (R : D → Prop) (n0 : Nat) (v1 : Int) : Prop := iter (den Tryz.prog Ev model_vars_A (sub [1, 0, 1, 0, 0] (bodyOf Tryz.f67)) 0) model_vars_A (liveOf model_vars_A 0) n0 ⟨[(0, .sl .var a0), (5, .sl .var a0), (6, .int .i64 (a0.length : Int)), (7, .int .i64 v1)], []⟩ (blockK 0 (seqK Tryz.prog Ev model_vars_A (sub [1, 1] (bodyOf Tryz.f67)) 0 (endK Ev Tryz.f67.results.toList R)))
theorem model_vars_I0_eq (a0 : List VarD) (R : D → Prop) (n0 : Nat) (v1 : Int) : model_vars_I0 a0 R (n0 + 1) v1 =
 (sel (decide (v1 < (a0.length : Int)))
 (inb v1 a0.length = true ∧
 Call1 Tryz.prog f_model_Name [.str ((at' .var a0 v1.toNat).name)] .bool fun m2 =>
 sel (!m2)
 (R (.int .i64 1))
 (inSl 0 v1 a0.length = true ∧
 Call1 Tryz.prog f_slices_ContainsFunc_l_api_Var_api_Var [.sl .var ((a0.take v1.toNat).drop 0), .clo f_model_vars_1 none [.iptr [.str ((at' .var a0 v1.toNat).name), .int .i64 ((at' .var a0 v1.toNat).lo), .int .i64 ((at' .var a0 v1.toNat).hi)] 0]] .bool fun s3 =>
 sel s3
 (R (.int .i64 6))
 (Call1 Tryz.prog f_model_within [.int .i64 ((at' .var a0 v1.toNat).lo), .int .i64 (-50), .int .i64 50] .bool fun m4 =>
 sel (!m4)
 (R (.int .i64 3))
 (Call1 Tryz.prog f_model_within [.int .i64 ((at' .var a0 v1.toNat).hi), .int .i64 (-50), .int .i64 50] .bool fun m5 =>
 sel (!m5)
 (R (.int .i64 3))
 (sel (decide (((at' .var a0 v1.toNat).hi) < ((at' .var a0 v1.toNat).lo)))
 (R (.int .i64 3))
 (sel (decide (6 ≤ (w64 (((at' .var a0 v1.toNat).hi) - ((at' .var a0 v1.toNat).lo)))))
 (R (.int .i64 2))
 (model_vars_I0 a0 R n0 (w64 (v1 + 1)))))))))
 (R (.int .i64 0))) := by kernel_rfl
theorem model_vars_eq (a0 : List VarD) (R : D → Prop) : fnD Tryz.prog Ev model_vars_A Tryz.f67.results.toList (bodyOf Tryz.f67) [.sl .var a0] R =
 (∃ n0, model_vars_I0 a0 R n0 0) := by kernel_rfl
theorem model_vars_sat {r : D} (a0 : List VarD) (h : (∀ d ∈ [.sl .var a0], okD d) → fnD Tryz.prog Ev model_vars_A Tryz.f67.results.toList (bodyOf Tryz.f67) [.sl .var a0] fun d => d = r) : Sat Tryz.prog f_model_vars [.sl .var a0] r := by
  have h2 := sat_of (r := r) (args := [.sl .var a0]) (A := model_vars_A) (fn := Tryz.f67) (body := bodyOf Tryz.f67) (f := f_model_vars) factsEv Tryz.func67 (by kernel_rfl) (by rw [Tryz.ntmps67]; rfl) (by rw [Tryz.ntmps67]; exact Nat.le_of_ble_eq_true rfl)
  with_reducible exact h2 h
/-! ### cordon/model.con -/
def model_con_A : Ann := { own := [5, 6, 8], live := [(1, ([6, 75, 76, 77], []))], n := 94, nils := [], pubs := [] }
def model_con_I1 (a1 : ConD) (R : D → Prop) (n1 : Nat) (v7 : Int) : Prop := iter (den Tryz.prog Ev model_con_A (sub [1, 1, 1, 1, 0, 1, 0, 0] (bodyOf Tryz.f68)) 1) model_con_A (liveOf model_con_A 1) n1 ⟨[(6, .iptr [.clo f_model_con_2 none []] 0), (75, .sl .lit a1.lits), (76, .int .i64 (a1.lits.length : Int)), (77, .int .i64 v7)], []⟩ (blockK 1 (seqK Tryz.prog Ev model_con_A (sub [1, 1, 1, 1, 1] (bodyOf Tryz.f68)) 0 (endK Ev Tryz.f68.results.toList R)))
theorem model_con_I1_eq (a1 : ConD) (R : D → Prop) (n1 : Nat) (v7 : Int) : model_con_I1 a1 R (n1 + 1) v7 =
 (sel (decide (v7 < (a1.lits.length : Int)))
 (inb v7 a1.lits.length = true ∧
 sel (decide (((at' .lit a1.lits v7.toNat).op) < 1))
 (R (.int .i64 7))
 (sel (decide (4 < ((at' .lit a1.lits v7.toNat).op)))
 (R (.int .i64 7))
 (Call1 Tryz.prog f_model_con_2 [.int .i64 ((at' .lit a1.lits v7.toNat).n)] .bool fun m8 =>
 sel m8
 (R (.int .i64 3))
 (model_con_I1 a1 R n1 (w64 (v7 + 1))))))
 (R (.int .i64 0))) := by kernel_rfl
theorem model_con_eq (a0 : MdlD) (a1 : ConD) (R : D → Prop) : fnD Tryz.prog Ev model_con_A Tryz.f68.results.toList (bodyOf Tryz.f68) [.agg [.sl .var a0.vars, .sl .con a0.cons, .int .i64 a0.goal, .int .i64 a0.var], .agg [.int .i64 a1.kind, .sl .int a1.vars, .sl .int a1.consts, .int .i64 a1.n, .sl (.list .int) a1.rows, .sl .lit a1.lits]] R =
 (sel (decide (a1.kind < 1))
 (R (.int .i64 7))
 (sel (decide (10 < a1.kind))
 (R (.int .i64 7))
 (sel (decide (4 < (a1.vars.length : Int)))
 (R (.int .i64 2))
 (sel (decide (4 < (a1.lits.length : Int)))
 (R (.int .i64 2))
 (sel (decide (8 < (a1.consts.length : Int)))
 (R (.int .i64 2))
 (sel (decide (20 < (a1.rows.length : Int)))
 (R (.int .i64 2))
 (Call1 Tryz.prog f_model_form [.agg [.int .i64 a1.kind, .sl .int a1.vars, .sl .int a1.consts, .int .i64 a1.n, .sl (.list .int) a1.rows, .sl .lit a1.lits]] .bool fun m1 =>
 sel (!m1)
 (R (.int .i64 1))
 (Call1 Tryz.prog f_slices_ContainsFunc_l_int_int [.sl .int a1.vars, .clo f_model_con_1 none [.iptr [.sl .var a0.vars, .sl .con a0.cons, .int .i64 a0.goal, .int .i64 a0.var] 0]] .bool fun s2 =>
 sel s2
 (R (.int .i64 5))
 (Call1 Tryz.prog f_slices_ContainsFunc_l_api_Lit_api_Lit [.sl .lit a1.lits, .clo f_model_con_3 none [.iptr [.clo f_model_con_1 none [.iptr [.sl .var a0.vars, .sl .con a0.cons, .int .i64 a0.goal, .int .i64 a0.var] 0]] 0]] .bool fun s3 =>
 sel s3
 (R (.int .i64 5))
 (Call1 Tryz.prog f_slices_ContainsFunc_l_int_int [.sl .int a1.consts, .clo f_model_con_2 none []] .bool fun s4 =>
 sel s4
 (R (.int .i64 3))
 (Call1 Tryz.prog f_model_con_2 [.int .i64 a1.n] .bool fun m5 =>
 sel m5
 (R (.int .i64 3))
 (Call1 Tryz.prog f_slices_ContainsFunc_rows_int_int [.sl (.list .int) a1.rows, .clo f_model_con_4 none [.iptr [.clo f_model_con_2 none []] 0]] .bool fun s6 =>
 sel s6
 (R (.int .i64 3))
 (∃ n1, model_con_I1 a1 R n1 0))))))))))))) := by kernel_rfl
theorem model_con_sat {r : D} (a0 : MdlD) (a1 : ConD) (h : (∀ d ∈ [.agg [.sl .var a0.vars, .sl .con a0.cons, .int .i64 a0.goal, .int .i64 a0.var], .agg [.int .i64 a1.kind, .sl .int a1.vars, .sl .int a1.consts, .int .i64 a1.n, .sl (.list .int) a1.rows, .sl .lit a1.lits]], okD d) → fnD Tryz.prog Ev model_con_A Tryz.f68.results.toList (bodyOf Tryz.f68) [.agg [.sl .var a0.vars, .sl .con a0.cons, .int .i64 a0.goal, .int .i64 a0.var], .agg [.int .i64 a1.kind, .sl .int a1.vars, .sl .int a1.consts, .int .i64 a1.n, .sl (.list .int) a1.rows, .sl .lit a1.lits]] fun d => d = r) : Sat Tryz.prog f_model_con [.agg [.sl .var a0.vars, .sl .con a0.cons, .int .i64 a0.goal, .int .i64 a0.var], .agg [.int .i64 a1.kind, .sl .int a1.vars, .sl .int a1.consts, .int .i64 a1.n, .sl (.list .int) a1.rows, .sl .lit a1.lits]] r := by
  have h2 := sat_of (r := r) (args := [.agg [.sl .var a0.vars, .sl .con a0.cons, .int .i64 a0.goal, .int .i64 a0.var], .agg [.int .i64 a1.kind, .sl .int a1.vars, .sl .int a1.consts, .int .i64 a1.n, .sl (.list .int) a1.rows, .sl .lit a1.lits]]) (A := model_con_A) (fn := Tryz.f68) (body := bodyOf Tryz.f68) (f := f_model_con) factsEv Tryz.func68 (by kernel_rfl) (by rw [Tryz.ntmps68]; rfl) (by rw [Tryz.ntmps68]; exact Nat.le_of_ble_eq_true rfl)
  with_reducible exact h2 h
/-! ### cordon/model.vars$1 -/
def model_vars_1_A : Ann := { own := [], live := [], n := 9, nils := [], pubs := [] }
theorem model_vars_1_eq (a0 : VarD) (c0 : VarD) (R : D → Prop) : fnD Tryz.prog Ev model_vars_1_A Tryz.f88.results.toList (bodyOf Tryz.f88) [.agg [.str a0.name, .int .i64 a0.lo, .int .i64 a0.hi], .iptr [.str c0.name, .int .i64 c0.lo, .int .i64 c0.hi] 0] R =
 (R (.bool (decide (a0.name = c0.name)))) := by kernel_rfl
theorem model_vars_1_sat {r : D} (a0 : VarD) (c0 : VarD) (h : (∀ d ∈ [.agg [.str a0.name, .int .i64 a0.lo, .int .i64 a0.hi], .iptr [.str c0.name, .int .i64 c0.lo, .int .i64 c0.hi] 0], okD d) → fnD Tryz.prog Ev model_vars_1_A Tryz.f88.results.toList (bodyOf Tryz.f88) [.agg [.str a0.name, .int .i64 a0.lo, .int .i64 a0.hi], .iptr [.str c0.name, .int .i64 c0.lo, .int .i64 c0.hi] 0] fun d => d = r) : Sat Tryz.prog f_model_vars_1 [.agg [.str a0.name, .int .i64 a0.lo, .int .i64 a0.hi], .iptr [.str c0.name, .int .i64 c0.lo, .int .i64 c0.hi] 0] r := by
  have h2 := sat_of (r := r) (args := [.agg [.str a0.name, .int .i64 a0.lo, .int .i64 a0.hi], .iptr [.str c0.name, .int .i64 c0.lo, .int .i64 c0.hi] 0]) (A := model_vars_1_A) (fn := Tryz.f88) (body := bodyOf Tryz.f88) (f := f_model_vars_1) factsEv Tryz.func88 (by kernel_rfl) (by rw [Tryz.ntmps88]; rfl) (by rw [Tryz.ntmps88]; exact Nat.le_of_ble_eq_true rfl)
  with_reducible exact h2 h
/-! ### cordon/model.con$1 -/
def model_con_1_A : Ann := { own := [], live := [], n := 11, nils := [], pubs := [] }
theorem model_con_1_eq (a0 : Int) (c0 : MdlD) (R : D → Prop) : fnD Tryz.prog Ev model_con_1_A Tryz.f89.results.toList (bodyOf Tryz.f89) [.int .i64 a0, .iptr [.sl .var c0.vars, .sl .con c0.cons, .int .i64 c0.goal, .int .i64 c0.var] 0] R =
 (Call1 Tryz.prog f_model_within [.int .i64 a0, .int .i64 0, .int .i64 (w64 ((c0.vars.length : Int) - 1))] .bool fun m1 =>
 R (.bool (!m1))) := by kernel_rfl
theorem model_con_1_sat {r : D} (a0 : Int) (c0 : MdlD) (h : (∀ d ∈ [.int .i64 a0, .iptr [.sl .var c0.vars, .sl .con c0.cons, .int .i64 c0.goal, .int .i64 c0.var] 0], okD d) → fnD Tryz.prog Ev model_con_1_A Tryz.f89.results.toList (bodyOf Tryz.f89) [.int .i64 a0, .iptr [.sl .var c0.vars, .sl .con c0.cons, .int .i64 c0.goal, .int .i64 c0.var] 0] fun d => d = r) : Sat Tryz.prog f_model_con_1 [.int .i64 a0, .iptr [.sl .var c0.vars, .sl .con c0.cons, .int .i64 c0.goal, .int .i64 c0.var] 0] r := by
  have h2 := sat_of (r := r) (args := [.int .i64 a0, .iptr [.sl .var c0.vars, .sl .con c0.cons, .int .i64 c0.goal, .int .i64 c0.var] 0]) (A := model_con_1_A) (fn := Tryz.f89) (body := bodyOf Tryz.f89) (f := f_model_con_1) factsEv Tryz.func89 (by kernel_rfl) (by rw [Tryz.ntmps89]; rfl) (by rw [Tryz.ntmps89]; exact Nat.le_of_ble_eq_true rfl)
  with_reducible exact h2 h
/-! ### cordon/model.con$2 -/
def model_con_2_A : Ann := { own := [], live := [], n := 6, nils := [], pubs := [] }
theorem model_con_2_eq (a0 : Int) (R : D → Prop) : fnD Tryz.prog Ev model_con_2_A Tryz.f90.results.toList (bodyOf Tryz.f90) [.int .i64 a0] R =
 (Call1 Tryz.prog f_model_within [.int .i64 a0, .int .i64 (-1000), .int .i64 1000] .bool fun m1 =>
 R (.bool (!m1))) := by kernel_rfl
theorem model_con_2_sat {r : D} (a0 : Int) (h : (∀ d ∈ [.int .i64 a0], okD d) → fnD Tryz.prog Ev model_con_2_A Tryz.f90.results.toList (bodyOf Tryz.f90) [.int .i64 a0] fun d => d = r) : Sat Tryz.prog f_model_con_2 [.int .i64 a0] r := by
  have h2 := sat_of (r := r) (args := [.int .i64 a0]) (A := model_con_2_A) (fn := Tryz.f90) (body := bodyOf Tryz.f90) (f := f_model_con_2) factsEv Tryz.func90 (by kernel_rfl) (by rw [Tryz.ntmps90]; rfl) (by rw [Tryz.ntmps90]; exact Nat.le_of_ble_eq_true rfl)
  with_reducible exact h2 h
/-! ### cordon/model.form -/
def model_form_A : Ann := { own := [3], live := [], n := 66, nils := [], pubs := [] }
theorem model_form_eq (a0 : ConD) (R : D → Prop) : fnD Tryz.prog Ev model_form_A Tryz.f91.results.toList (bodyOf Tryz.f91) [.agg [.int .i64 a0.kind, .sl .int a0.vars, .sl .int a0.consts, .int .i64 a0.n, .sl (.list .int) a0.rows, .sl .lit a0.lits]] R =
 (Call1 Tryz.prog f_model_of [.agg [.int .i64 a0.kind, .sl .int a0.vars, .sl .int a0.consts, .int .i64 a0.n, .sl (.list .int) a0.rows, .sl .lit a0.lits]] (.pr .int (.pr .int (.pr .int (.pr .int .int)))) fun m1 =>
 Call1 Tryz.prog f_model_within [.int .i64 (a0.vars.length : Int), .int .i64 m1.1, .int .i64 m1.2.1] .bool fun m2 =>
 sel (!m2)
 (R (.bool false))
 (Call1 Tryz.prog f_model_is [.int .i64 (a0.consts.length : Int), .int .i64 m1.2.2.1] .bool fun m3 =>
 sel (!m3)
 (R (.bool false))
 (Call1 Tryz.prog f_model_is [.int .i64 (a0.rows.length : Int), .int .i64 m1.2.2.2.1] .bool fun m4 =>
 sel (!m4)
 (R (.bool false))
 (Call1 Tryz.prog f_model_is [.int .i64 (a0.lits.length : Int), .int .i64 m1.2.2.2.2] .bool fun m5 =>
 sel (!m5)
 (R (.bool false))
 (sel (decide (a0.kind = 5))
 (sel (decide ((a0.consts.length : Int) = 0))
 (R (.bool false))
 (sel (decide (3 < a0.kind))
 (sel (!decide (a0.n = 0))
 (R (.bool false))
 (Call1 Tryz.prog f_slices_ContainsFunc_rows_int_int [.sl (.list .int) a0.rows, .clo f_model_form_1 none [.iptr [.int .i64 a0.kind, .sl .int a0.vars, .sl .int a0.consts, .int .i64 a0.n, .sl (.list .int) a0.rows, .sl .lit a0.lits] 0]] .bool fun s6 =>
 R (.bool (!s6))))
 (Call1 Tryz.prog f_slices_ContainsFunc_rows_int_int [.sl (.list .int) a0.rows, .clo f_model_form_1 none [.iptr [.int .i64 a0.kind, .sl .int a0.vars, .sl .int a0.consts, .int .i64 a0.n, .sl (.list .int) a0.rows, .sl .lit a0.lits] 0]] .bool fun s7 =>
 R (.bool (!s7)))))
 (sel (decide (3 < a0.kind))
 (sel (!decide (a0.n = 0))
 (R (.bool false))
 (Call1 Tryz.prog f_slices_ContainsFunc_rows_int_int [.sl (.list .int) a0.rows, .clo f_model_form_1 none [.iptr [.int .i64 a0.kind, .sl .int a0.vars, .sl .int a0.consts, .int .i64 a0.n, .sl (.list .int) a0.rows, .sl .lit a0.lits] 0]] .bool fun s8 =>
 R (.bool (!s8))))
 (Call1 Tryz.prog f_slices_ContainsFunc_rows_int_int [.sl (.list .int) a0.rows, .clo f_model_form_1 none [.iptr [.int .i64 a0.kind, .sl .int a0.vars, .sl .int a0.consts, .int .i64 a0.n, .sl (.list .int) a0.rows, .sl .lit a0.lits] 0]] .bool fun s9 =>
 R (.bool (!s9))))))))) := by kernel_rfl
theorem model_form_sat {r : D} (a0 : ConD) (h : (∀ d ∈ [.agg [.int .i64 a0.kind, .sl .int a0.vars, .sl .int a0.consts, .int .i64 a0.n, .sl (.list .int) a0.rows, .sl .lit a0.lits]], okD d) → fnD Tryz.prog Ev model_form_A Tryz.f91.results.toList (bodyOf Tryz.f91) [.agg [.int .i64 a0.kind, .sl .int a0.vars, .sl .int a0.consts, .int .i64 a0.n, .sl (.list .int) a0.rows, .sl .lit a0.lits]] fun d => d = r) : Sat Tryz.prog f_model_form [.agg [.int .i64 a0.kind, .sl .int a0.vars, .sl .int a0.consts, .int .i64 a0.n, .sl (.list .int) a0.rows, .sl .lit a0.lits]] r := by
  have h2 := sat_of (r := r) (args := [.agg [.int .i64 a0.kind, .sl .int a0.vars, .sl .int a0.consts, .int .i64 a0.n, .sl (.list .int) a0.rows, .sl .lit a0.lits]]) (A := model_form_A) (fn := Tryz.f91) (body := bodyOf Tryz.f91) (f := f_model_form) factsEv Tryz.func91 (by kernel_rfl) (by rw [Tryz.ntmps91]; rfl) (by rw [Tryz.ntmps91]; exact Nat.le_of_ble_eq_true rfl)
  with_reducible exact h2 h
/-! ### cordon/model.con$3 -/
def model_con_3_A : Ann := { own := [], live := [], n := 8, nils := [], pubs := [] }
theorem model_con_3_eq (a0 : LitD) (h0 : FuncId) (hap0 : List D) (R : D → Prop) : fnD Tryz.prog Ev model_con_3_A Tryz.f92.results.toList (bodyOf Tryz.f92) [.agg [.int .i64 a0.var, .int .i64 a0.op, .int .i64 a0.n], .iptr [.clo h0 (some [.bool]) hap0] 0] R =
 (Ent Tryz.prog h0 ∧
 Call1 Tryz.prog h0 ([.int .i64 a0.var] ++ hap0) .bool fun r1 =>
 R (.bool r1)) := by kernel_rfl
theorem model_con_3_sat {r : D} (a0 : LitD) (h0 : FuncId) (hap0 : List D) (h : (∀ d ∈ [.agg [.int .i64 a0.var, .int .i64 a0.op, .int .i64 a0.n], .iptr [.clo h0 (some [.bool]) hap0] 0], okD d) → fnD Tryz.prog Ev model_con_3_A Tryz.f92.results.toList (bodyOf Tryz.f92) [.agg [.int .i64 a0.var, .int .i64 a0.op, .int .i64 a0.n], .iptr [.clo h0 (some [.bool]) hap0] 0] fun d => d = r) : Sat Tryz.prog f_model_con_3 [.agg [.int .i64 a0.var, .int .i64 a0.op, .int .i64 a0.n], .iptr [.clo h0 (some [.bool]) hap0] 0] r := by
  have h2 := sat_of (r := r) (args := [.agg [.int .i64 a0.var, .int .i64 a0.op, .int .i64 a0.n], .iptr [.clo h0 (some [.bool]) hap0] 0]) (A := model_con_3_A) (fn := Tryz.f92) (body := bodyOf Tryz.f92) (f := f_model_con_3) factsEv Tryz.func92 (by kernel_rfl) (by rw [Tryz.ntmps92]; rfl) (by rw [Tryz.ntmps92]; exact Nat.le_of_ble_eq_true rfl)
  with_reducible exact h2 h
/-! ### cordon/model.con$4 -/
def model_con_4_A : Ann := { own := [], live := [], n := 7, nils := [], pubs := [] }
theorem model_con_4_eq (a0 : List Int) (h0 : FuncId) (hap0 : List D) (R : D → Prop) : fnD Tryz.prog Ev model_con_4_A Tryz.f93.results.toList (bodyOf Tryz.f93) [.sl .int a0, .iptr [.clo h0 (some [.bool]) hap0] 0] R =
 (Call1 Tryz.prog f_slices_ContainsFunc_l_int_int [.sl .int a0, .clo h0 (some [.bool]) hap0] .bool fun s1 =>
 R (.bool s1)) := by kernel_rfl
theorem model_con_4_sat {r : D} (a0 : List Int) (h0 : FuncId) (hap0 : List D) (h : (∀ d ∈ [.sl .int a0, .iptr [.clo h0 (some [.bool]) hap0] 0], okD d) → fnD Tryz.prog Ev model_con_4_A Tryz.f93.results.toList (bodyOf Tryz.f93) [.sl .int a0, .iptr [.clo h0 (some [.bool]) hap0] 0] fun d => d = r) : Sat Tryz.prog f_model_con_4 [.sl .int a0, .iptr [.clo h0 (some [.bool]) hap0] 0] r := by
  have h2 := sat_of (r := r) (args := [.sl .int a0, .iptr [.clo h0 (some [.bool]) hap0] 0]) (A := model_con_4_A) (fn := Tryz.f93) (body := bodyOf Tryz.f93) (f := f_model_con_4) factsEv Tryz.func93 (by kernel_rfl) (by rw [Tryz.ntmps93]; rfl) (by rw [Tryz.ntmps93]; exact Nat.le_of_ble_eq_true rfl)
  with_reducible exact h2 h
/-! ### cordon/model.of -/
def model_of_A : Ann := { own := [2], live := [], n := 32, nils := [], pubs := [] }
theorem model_of_eq (a0 : ConD) (R : D → Prop) : fnD Tryz.prog Ev model_of_A Tryz.f107.results.toList (bodyOf Tryz.f107) [.agg [.int .i64 a0.kind, .sl .int a0.vars, .sl .int a0.consts, .int .i64 a0.n, .sl (.list .int) a0.rows, .sl .lit a0.lits]] R =
 (sel (decide (a0.kind = 1))
 (R (.agg [.int .i64 1, .int .i64 4, .int .i64 (a0.vars.length : Int), .int .i64 0, .int .i64 0]))
 (sel (decide (a0.kind = 2))
 (R (.agg [.int .i64 1, .int .i64 4, .int .i64 (a0.vars.length : Int), .int .i64 0, .int .i64 0]))
 (sel (decide (a0.kind = 3))
 (R (.agg [.int .i64 1, .int .i64 4, .int .i64 (a0.vars.length : Int), .int .i64 0, .int .i64 0]))
 (sel (decide (a0.kind = 4))
 (R (.agg [.int .i64 1, .int .i64 4, .int .i64 0, .int .i64 0, .int .i64 0]))
 (sel (decide (a0.kind = 5))
 (R (.agg [.int .i64 2, .int .i64 2, .int .i64 (-1), .int .i64 0, .int .i64 0]))
 (sel (decide (a0.kind = 6))
 (R (.agg [.int .i64 1, .int .i64 4, .int .i64 0, .int .i64 (-1), .int .i64 0]))
 (sel (decide (a0.kind = 7))
 (R (.agg [.int .i64 3, .int .i64 3, .int .i64 0, .int .i64 0, .int .i64 0]))
 (sel (decide (a0.kind = 8))
 (R (.agg [.int .i64 2, .int .i64 4, .int .i64 0, .int .i64 0, .int .i64 0]))
 (sel (decide (a0.kind = 9))
 (R (.agg [.int .i64 0, .int .i64 0, .int .i64 0, .int .i64 0, .int .i64 (-1)]))
 (R (.agg [.int .i64 1, .int .i64 1, .int .i64 0, .int .i64 0, .int .i64 1]))))))))))) := by kernel_rfl
theorem model_of_sat {r : D} (a0 : ConD) (h : (∀ d ∈ [.agg [.int .i64 a0.kind, .sl .int a0.vars, .sl .int a0.consts, .int .i64 a0.n, .sl (.list .int) a0.rows, .sl .lit a0.lits]], okD d) → fnD Tryz.prog Ev model_of_A Tryz.f107.results.toList (bodyOf Tryz.f107) [.agg [.int .i64 a0.kind, .sl .int a0.vars, .sl .int a0.consts, .int .i64 a0.n, .sl (.list .int) a0.rows, .sl .lit a0.lits]] fun d => d = r) : Sat Tryz.prog f_model_of [.agg [.int .i64 a0.kind, .sl .int a0.vars, .sl .int a0.consts, .int .i64 a0.n, .sl (.list .int) a0.rows, .sl .lit a0.lits]] r := by
  have h2 := sat_of (r := r) (args := [.agg [.int .i64 a0.kind, .sl .int a0.vars, .sl .int a0.consts, .int .i64 a0.n, .sl (.list .int) a0.rows, .sl .lit a0.lits]]) (A := model_of_A) (fn := Tryz.f107) (body := bodyOf Tryz.f107) (f := f_model_of) factsEv Tryz.func107 (by kernel_rfl) (by rw [Tryz.ntmps107]; rfl) (by rw [Tryz.ntmps107]; exact Nat.le_of_ble_eq_true rfl)
  with_reducible exact h2 h
/-! ### cordon/model.is -/
def model_is_A : Ann := { own := [], live := [], n := 12, nils := [], pubs := [] }
theorem model_is_eq (a0 : Int) (a1 : Int) (R : D → Prop) : fnD Tryz.prog Ev model_is_A Tryz.f108.results.toList (bodyOf Tryz.f108) [.int .i64 a0, .int .i64 a1] R =
 (sel (decide (a1 = (-1)))
 (R (.bool true))
 (R (.bool (decide (a0 = a1))))) := by kernel_rfl
theorem model_is_sat {r : D} (a0 : Int) (a1 : Int) (h : (∀ d ∈ [.int .i64 a0, .int .i64 a1], okD d) → fnD Tryz.prog Ev model_is_A Tryz.f108.results.toList (bodyOf Tryz.f108) [.int .i64 a0, .int .i64 a1] fun d => d = r) : Sat Tryz.prog f_model_is [.int .i64 a0, .int .i64 a1] r := by
  have h2 := sat_of (r := r) (args := [.int .i64 a0, .int .i64 a1]) (A := model_is_A) (fn := Tryz.f108) (body := bodyOf Tryz.f108) (f := f_model_is) factsEv Tryz.func108 (by kernel_rfl) (by rw [Tryz.ntmps108]; rfl) (by rw [Tryz.ntmps108]; exact Nat.le_of_ble_eq_true rfl)
  with_reducible exact h2 h
/-! ### cordon/model.form$1 -/
def model_form_1_A : Ann := { own := [], live := [], n := 10, nils := [], pubs := [] }
theorem model_form_1_eq (a0 : List Int) (c0 : ConD) (R : D → Prop) : fnD Tryz.prog Ev model_form_1_A Tryz.f109.results.toList (bodyOf Tryz.f109) [.sl .int a0, .iptr [.int .i64 c0.kind, .sl .int c0.vars, .sl .int c0.consts, .int .i64 c0.n, .sl (.list .int) c0.rows, .sl .lit c0.lits] 0] R =
 (R (.bool (!decide ((a0.length : Int) = (c0.vars.length : Int))))) := by kernel_rfl
theorem model_form_1_sat {r : D} (a0 : List Int) (c0 : ConD) (h : (∀ d ∈ [.sl .int a0, .iptr [.int .i64 c0.kind, .sl .int c0.vars, .sl .int c0.consts, .int .i64 c0.n, .sl (.list .int) c0.rows, .sl .lit c0.lits] 0], okD d) → fnD Tryz.prog Ev model_form_1_A Tryz.f109.results.toList (bodyOf Tryz.f109) [.sl .int a0, .iptr [.int .i64 c0.kind, .sl .int c0.vars, .sl .int c0.consts, .int .i64 c0.n, .sl (.list .int) c0.rows, .sl .lit c0.lits] 0] fun d => d = r) : Sat Tryz.prog f_model_form_1 [.sl .int a0, .iptr [.int .i64 c0.kind, .sl .int c0.vars, .sl .int c0.consts, .int .i64 c0.n, .sl (.list .int) c0.rows, .sl .lit c0.lits] 0] r := by
  have h2 := sat_of (r := r) (args := [.sl .int a0, .iptr [.int .i64 c0.kind, .sl .int c0.vars, .sl .int c0.consts, .int .i64 c0.n, .sl (.list .int) c0.rows, .sl .lit c0.lits] 0]) (A := model_form_1_A) (fn := Tryz.f109) (body := bodyOf Tryz.f109) (f := f_model_form_1) factsEv Tryz.func109 (by kernel_rfl) (by rw [Tryz.ntmps109]; rfl) (by rw [Tryz.ntmps109]; exact Nat.le_of_ble_eq_true rfl)
  with_reducible exact h2 h
end Go.Proofs.YtonkbljpcgadlaaGreat
