/- What the functions of a package do, as equations of plain propositions: printed by a program that carries the code out on symbols. -/
import Derived.Test.YtonkbljpcgadlaaGreatWEv
namespace Go.Proofs.YtonkbljpcgadlaaGreat
open Go.RowKit
set_option linter.unusedVariables false
set_option maxRecDepth 100000
/-! ### cordon/model.Holds -/
def model_Holds_A : Ann := { own := [], live := [], n := 26, nils := [], pubs := [] }
theorem model_Holds_eq (a0 : MdlD) (a1 : Int) (a2 : List Int) (R : D → Prop) : fnD Tryz.prog Ev model_Holds_A Tryz.f17.results.toList (bodyOf Tryz.f17) [.agg [.sl .var a0.vars, .sl .con a0.cons, .int .i64 a0.goal, .int .i64 a0.var], .int .i64 a1, .sl .int a2] R =
 (Call1 Tryz.prog f_model_ready [.agg [.sl .var a0.vars, .sl .con a0.cons, .int .i64 a0.goal, .int .i64 a0.var], .int .i64 a1, .int .i64 (a2.length : Int)] .int fun m1 =>
 sel (!decide (m1 = 0))
 (R (.tup [.bool false, .int .i64 m1]))
 (Call1 Tryz.prog f_slices_ContainsFunc_l_int_int [.sl .int a2, .clo f_model_Holds_1 none []] .bool fun s2 =>
 sel s2
 (R (.tup [.bool false, .int .i64 3]))
 (inb a1 a0.cons.length = true ∧
 Call1 Tryz.prog f_model_True [.agg [.int .i64 ((at' .con a0.cons a1.toNat).kind), .sl .int ((at' .con a0.cons a1.toNat).vars), .sl .int ((at' .con a0.cons a1.toNat).consts), .int .i64 ((at' .con a0.cons a1.toNat).n), .sl (.list .int) ((at' .con a0.cons a1.toNat).rows), .sl .lit ((at' .con a0.cons a1.toNat).lits)], .sl .int a2] .bool fun m3 =>
 R (.tup [.bool m3, .int .i64 0])))) := by kernel_rfl
theorem model_Holds_sat {r : D} (a0 : MdlD) (a1 : Int) (a2 : List Int) (h : (∀ d ∈ [.agg [.sl .var a0.vars, .sl .con a0.cons, .int .i64 a0.goal, .int .i64 a0.var], .int .i64 a1, .sl .int a2], okD d) → fnD Tryz.prog Ev model_Holds_A Tryz.f17.results.toList (bodyOf Tryz.f17) [.agg [.sl .var a0.vars, .sl .con a0.cons, .int .i64 a0.goal, .int .i64 a0.var], .int .i64 a1, .sl .int a2] fun d => d = r) : Sat Tryz.prog f_model_Holds [.agg [.sl .var a0.vars, .sl .con a0.cons, .int .i64 a0.goal, .int .i64 a0.var], .int .i64 a1, .sl .int a2] r := by
  have h2 := sat_of (r := r) (args := [.agg [.sl .var a0.vars, .sl .con a0.cons, .int .i64 a0.goal, .int .i64 a0.var], .int .i64 a1, .sl .int a2]) (A := model_Holds_A) (fn := Tryz.f17) (body := bodyOf Tryz.f17) (f := f_model_Holds) factsEv Tryz.func17 (by kernel_rfl) (by rw [Tryz.ntmps17]; rfl) (by rw [Tryz.ntmps17]; exact Nat.le_of_ble_eq_true rfl)
  with_reducible exact h2 h
/-! ### cordon/model.All -/
def model_All_A : Ann := { own := [], live := [], n := 21, nils := [], pubs := [] }
theorem model_All_eq (a0 : MdlD) (a1 : List Int) (R : D → Prop) : fnD Tryz.prog Ev model_All_A Tryz.f18.results.toList (bodyOf Tryz.f18) [.agg [.sl .var a0.vars, .sl .con a0.cons, .int .i64 a0.goal, .int .i64 a0.var], .sl .int a1] R =
 (Call1 Tryz.prog f_model_Check [.agg [.sl .var a0.vars, .sl .con a0.cons, .int .i64 a0.goal, .int .i64 a0.var]] .int fun m1 =>
 sel (!decide (m1 = 0))
 (R (.tup [.bool false, .int .i64 m1]))
 (sel (!decide ((a1.length : Int) = (a0.vars.length : Int)))
 (R (.tup [.bool false, .int .i64 1]))
 (Call1 Tryz.prog f_model_Whole [.agg [.sl .var a0.vars, .sl .con a0.cons, .int .i64 a0.goal, .int .i64 a0.var], .sl .int a1] .bool fun m2 =>
 R (.tup [.bool m2, .int .i64 0])))) := by kernel_rfl
theorem model_All_sat {r : D} (a0 : MdlD) (a1 : List Int) (h : (∀ d ∈ [.agg [.sl .var a0.vars, .sl .con a0.cons, .int .i64 a0.goal, .int .i64 a0.var], .sl .int a1], okD d) → fnD Tryz.prog Ev model_All_A Tryz.f18.results.toList (bodyOf Tryz.f18) [.agg [.sl .var a0.vars, .sl .con a0.cons, .int .i64 a0.goal, .int .i64 a0.var], .sl .int a1] fun d => d = r) : Sat Tryz.prog f_model_All [.agg [.sl .var a0.vars, .sl .con a0.cons, .int .i64 a0.goal, .int .i64 a0.var], .sl .int a1] r := by
  have h2 := sat_of (r := r) (args := [.agg [.sl .var a0.vars, .sl .con a0.cons, .int .i64 a0.goal, .int .i64 a0.var], .sl .int a1]) (A := model_All_A) (fn := Tryz.f18) (body := bodyOf Tryz.f18) (f := f_model_All) factsEv Tryz.func18 (by kernel_rfl) (by rw [Tryz.ntmps18]; rfl) (by rw [Tryz.ntmps18]; exact Nat.le_of_ble_eq_true rfl)
  with_reducible exact h2 h
/-! ### cordon/model.Lit -/
def model_Lit_A : Ann := { own := [], live := [], n := 29, nils := [], pubs := [] }
theorem model_Lit_eq (a0 : LitD) (a1 : Int) (R : D → Prop) : fnD Tryz.prog Ev model_Lit_A Tryz.f25.results.toList (bodyOf Tryz.f25) [.agg [.int .i64 a0.var, .int .i64 a0.op, .int .i64 a0.n], .int .i64 a1] R =
 (sel (decide (a0.op = 1))
 (R (.bool (decide (a1 ≤ a0.n))))
 (sel (decide (a0.op = 2))
 (R (.bool (decide (a0.n ≤ a1))))
 (sel (decide (a0.op = 3))
 (R (.bool (decide (a1 = a0.n))))
 (R (.bool (!decide (a1 = a0.n))))))) := by kernel_rfl
theorem model_Lit_sat {r : D} (a0 : LitD) (a1 : Int) (h : (∀ d ∈ [.agg [.int .i64 a0.var, .int .i64 a0.op, .int .i64 a0.n], .int .i64 a1], okD d) → fnD Tryz.prog Ev model_Lit_A Tryz.f25.results.toList (bodyOf Tryz.f25) [.agg [.int .i64 a0.var, .int .i64 a0.op, .int .i64 a0.n], .int .i64 a1] fun d => d = r) : Sat Tryz.prog f_model_Lit [.agg [.int .i64 a0.var, .int .i64 a0.op, .int .i64 a0.n], .int .i64 a1] r := by
  have h2 := sat_of (r := r) (args := [.agg [.int .i64 a0.var, .int .i64 a0.op, .int .i64 a0.n], .int .i64 a1]) (A := model_Lit_A) (fn := Tryz.f25) (body := bodyOf Tryz.f25) (f := f_model_Lit) factsEv Tryz.func25 (by kernel_rfl) (by rw [Tryz.ntmps25]; rfl) (by rw [Tryz.ntmps25]; exact Nat.le_of_ble_eq_true rfl)
  with_reducible exact h2 h
/-! ### cordon/model.Check -/
def model_Check_A : Ann := { own := [5], live := [(1, ([1, 30, 31, 32], []))], n := 75, nils := [], pubs := [] }
def model_Check_I1 (a0 : MdlD) (R : D → Prop) (n1 : Nat) (v2 : Int) : Prop := iter (den Tryz.prog Ev model_Check_A (sub [1, 1, 1, 0, 1, 0, 0] (bodyOf Tryz.f41)) 1) model_Check_A (liveOf model_Check_A 1) n1 ⟨[(1, .iptr [.sl .var a0.vars, .sl .con a0.cons, .int .i64 a0.goal, .int .i64 a0.var] 0), (30, .sl .con a0.cons), (31, .int .i64 (a0.cons.length : Int)), (32, .int .i64 v2)], []⟩ (blockK 1 (seqK Tryz.prog Ev model_Check_A (sub [1, 1, 1, 1] (bodyOf Tryz.f41)) 0 (endK Ev Tryz.f41.results.toList R)))
theorem model_Check_I1_eq (a0 : MdlD) (R : D → Prop) (n1 : Nat) (v2 : Int) : model_Check_I1 a0 R (n1 + 1) v2 =
 (sel (decide (v2 < (a0.cons.length : Int)))
 (inb v2 a0.cons.length = true ∧
 Call1 Tryz.prog f_model_con [.agg [.sl .var a0.vars, .sl .con a0.cons, .int .i64 a0.goal, .int .i64 a0.var], .agg [.int .i64 ((at' .con a0.cons v2.toNat).kind), .sl .int ((at' .con a0.cons v2.toNat).vars), .sl .int ((at' .con a0.cons v2.toNat).consts), .int .i64 ((at' .con a0.cons v2.toNat).n), .sl (.list .int) ((at' .con a0.cons v2.toNat).rows), .sl .lit ((at' .con a0.cons v2.toNat).lits)]] .int fun m3 =>
 sel (!decide (m3 = 0))
 (R (.int .i64 m3))
 (model_Check_I1 a0 R n1 (w64 (v2 + 1))))
 (sel (decide (a0.goal < 0))
 (R (.int .i64 7))
 (sel (decide (2 < a0.goal))
 (R (.int .i64 7))
 (sel (decide (a0.goal = 0))
 (sel (!decide (a0.var = 0))
 (R (.int .i64 1))
 (sel (!decide (a0.goal = 0))
 (Call1 Tryz.prog f_model_within [.int .i64 a0.var, .int .i64 0, .int .i64 (w64 ((a0.vars.length : Int) - 1))] .bool fun m4 =>
 sel (!m4)
 (R (.int .i64 5))
 (R (.int .i64 0)))
 (R (.int .i64 0))))
 (sel (!decide (a0.goal = 0))
 (Call1 Tryz.prog f_model_within [.int .i64 a0.var, .int .i64 0, .int .i64 (w64 ((a0.vars.length : Int) - 1))] .bool fun m5 =>
 sel (!m5)
 (R (.int .i64 5))
 (R (.int .i64 0)))
 (R (.int .i64 0))))))) := by kernel_rfl
theorem model_Check_eq (a0 : MdlD) (R : D → Prop) : fnD Tryz.prog Ev model_Check_A Tryz.f41.results.toList (bodyOf Tryz.f41) [.agg [.sl .var a0.vars, .sl .con a0.cons, .int .i64 a0.goal, .int .i64 a0.var]] R =
 (sel (decide ((a0.vars.length : Int) = 0))
 (R (.int .i64 1))
 (sel (decide (6 < (a0.vars.length : Int)))
 (R (.int .i64 2))
 (sel (decide (8 < (a0.cons.length : Int)))
 (R (.int .i64 2))
 (Call1 Tryz.prog f_model_vars [.sl .var a0.vars] .int fun m1 =>
 sel (!decide (m1 = 0))
 (R (.int .i64 m1))
 (∃ n1, model_Check_I1 a0 R n1 0))))) := by kernel_rfl
theorem model_Check_sat {r : D} (a0 : MdlD) (h : (∀ d ∈ [.agg [.sl .var a0.vars, .sl .con a0.cons, .int .i64 a0.goal, .int .i64 a0.var]], okD d) → fnD Tryz.prog Ev model_Check_A Tryz.f41.results.toList (bodyOf Tryz.f41) [.agg [.sl .var a0.vars, .sl .con a0.cons, .int .i64 a0.goal, .int .i64 a0.var]] fun d => d = r) : Sat Tryz.prog f_model_Check [.agg [.sl .var a0.vars, .sl .con a0.cons, .int .i64 a0.goal, .int .i64 a0.var]] r := by
  have h2 := sat_of (r := r) (args := [.agg [.sl .var a0.vars, .sl .con a0.cons, .int .i64 a0.goal, .int .i64 a0.var]]) (A := model_Check_A) (fn := Tryz.f41) (body := bodyOf Tryz.f41) (f := f_model_Check) factsEv Tryz.func41 (by kernel_rfl) (by rw [Tryz.ntmps41]; rfl) (by rw [Tryz.ntmps41]; exact Nat.le_of_ble_eq_true rfl)
  with_reducible exact h2 h
/-! ### cordon/model.ready -/
def model_ready_A : Ann := { own := [], live := [], n := 27, nils := [], pubs := [] }
theorem model_ready_eq (a0 : MdlD) (a1 : Int) (a2 : Int) (R : D → Prop) : fnD Tryz.prog Ev model_ready_A Tryz.f43.results.toList (bodyOf Tryz.f43) [.agg [.sl .var a0.vars, .sl .con a0.cons, .int .i64 a0.goal, .int .i64 a0.var], .int .i64 a1, .int .i64 a2] R =
 (Call1 Tryz.prog f_model_Check [.agg [.sl .var a0.vars, .sl .con a0.cons, .int .i64 a0.goal, .int .i64 a0.var]] .int fun m1 =>
 sel (!decide (m1 = 0))
 (R (.int .i64 m1))
 (sel (decide (a1 < 0))
 (R (.int .i64 5))
 (sel (decide ((a0.cons.length : Int) ≤ a1))
 (R (.int .i64 5))
 (sel (!decide (a2 = (a0.vars.length : Int)))
 (R (.int .i64 1))
 (R (.int .i64 0)))))) := by kernel_rfl
theorem model_ready_sat {r : D} (a0 : MdlD) (a1 : Int) (a2 : Int) (h : (∀ d ∈ [.agg [.sl .var a0.vars, .sl .con a0.cons, .int .i64 a0.goal, .int .i64 a0.var], .int .i64 a1, .int .i64 a2], okD d) → fnD Tryz.prog Ev model_ready_A Tryz.f43.results.toList (bodyOf Tryz.f43) [.agg [.sl .var a0.vars, .sl .con a0.cons, .int .i64 a0.goal, .int .i64 a0.var], .int .i64 a1, .int .i64 a2] fun d => d = r) : Sat Tryz.prog f_model_ready [.agg [.sl .var a0.vars, .sl .con a0.cons, .int .i64 a0.goal, .int .i64 a0.var], .int .i64 a1, .int .i64 a2] r := by
  have h2 := sat_of (r := r) (args := [.agg [.sl .var a0.vars, .sl .con a0.cons, .int .i64 a0.goal, .int .i64 a0.var], .int .i64 a1, .int .i64 a2]) (A := model_ready_A) (fn := Tryz.f43) (body := bodyOf Tryz.f43) (f := f_model_ready) factsEv Tryz.func43 (by kernel_rfl) (by rw [Tryz.ntmps43]; rfl) (by rw [Tryz.ntmps43]; exact Nat.le_of_ble_eq_true rfl)
  with_reducible exact h2 h
/-! ### cordon/model.Holds$1 -/
def model_Holds_1_A : Ann := { own := [], live := [], n := 6, nils := [], pubs := [] }
theorem model_Holds_1_eq (a0 : Int) (R : D → Prop) : fnD Tryz.prog Ev model_Holds_1_A Tryz.f45.results.toList (bodyOf Tryz.f45) [.int .i64 a0] R =
 (Call1 Tryz.prog f_model_within [.int .i64 a0, .int .i64 (-50), .int .i64 50] .bool fun m1 =>
 R (.bool (!m1))) := by kernel_rfl
theorem model_Holds_1_sat {r : D} (a0 : Int) (h : (∀ d ∈ [.int .i64 a0], okD d) → fnD Tryz.prog Ev model_Holds_1_A Tryz.f45.results.toList (bodyOf Tryz.f45) [.int .i64 a0] fun d => d = r) : Sat Tryz.prog f_model_Holds_1 [.int .i64 a0] r := by
  have h2 := sat_of (r := r) (args := [.int .i64 a0]) (A := model_Holds_1_A) (fn := Tryz.f45) (body := bodyOf Tryz.f45) (f := f_model_Holds_1) factsEv Tryz.func45 (by kernel_rfl) (by rw [Tryz.ntmps45]; rfl) (by rw [Tryz.ntmps45]; exact Nat.le_of_ble_eq_true rfl)
  with_reducible exact h2 h
/-! ### cordon/model.within -/
def model_within_A : Ann := { own := [], live := [], n := 15, nils := [], pubs := [] }
theorem model_within_eq (a0 : Int) (a1 : Int) (a2 : Int) (R : D → Prop) : fnD Tryz.prog Ev model_within_A Tryz.f46.results.toList (bodyOf Tryz.f46) [.int .i64 a0, .int .i64 a1, .int .i64 a2] R =
 (sel (decide (a1 ≤ a0))
 (R (.bool (decide (a0 ≤ a2))))
 (R (.bool false))) := by kernel_rfl
theorem model_within_sat {r : D} (a0 : Int) (a1 : Int) (a2 : Int) (h : (∀ d ∈ [.int .i64 a0, .int .i64 a1, .int .i64 a2], okD d) → fnD Tryz.prog Ev model_within_A Tryz.f46.results.toList (bodyOf Tryz.f46) [.int .i64 a0, .int .i64 a1, .int .i64 a2] fun d => d = r) : Sat Tryz.prog f_model_within [.int .i64 a0, .int .i64 a1, .int .i64 a2] r := by
  have h2 := sat_of (r := r) (args := [.int .i64 a0, .int .i64 a1, .int .i64 a2]) (A := model_within_A) (fn := Tryz.f46) (body := bodyOf Tryz.f46) (f := f_model_within) factsEv Tryz.func46 (by kernel_rfl) (by rw [Tryz.ntmps46]; rfl) (by rw [Tryz.ntmps46]; exact Nat.le_of_ble_eq_true rfl)
  with_reducible exact h2 h
/-! ### cordon/model.True -/
def model_True_A : Ann := { own := [12, 45, 97], live := [(1, ([2, 5, 7, 25, 26, 27], [])), (3, ([2, 5, 10, 48, 49], [45])), (5, ([2, 5, 12, 88, 89], [12, 1012000])), (7, ([5, 14, 120, 121], []))], n := 166, nils := [(12, (0, (3, .int)))], pubs := [] }
def model_True_I1 (a0 : ConD) (a1 : List Int) (R : D → Prop) (n1 : Nat) (v1 : Int) (v2 : Int) : Prop := iter (den Tryz.prog Ev model_True_A (sub [1, 1, 1, 0, 1, 0, 1, 0, 1, 0, 1, 0, 0] (bodyOf Tryz.f47)) 1) model_True_A (liveOf model_True_A 1) n1 ⟨[(2, .iptr [.int .i64 a0.kind, .sl .int a0.vars, .sl .int a0.consts, .int .i64 a0.n, .sl (.list .int) a0.rows, .sl .lit a0.lits] 0), (5, .clo f_model_True_1 none [.iptr [.sl .int a1] 0, .iptr [.int .i64 a0.kind, .sl .int a0.vars, .sl .int a0.consts, .int .i64 a0.n, .sl (.list .int) a0.rows, .sl .lit a0.lits] 0]), (7, .int .i64 v1), (25, .sl .int a0.consts), (26, .int .i64 (a0.consts.length : Int)), (27, .int .i64 v2)], []⟩ (blockK 1 (seqK Tryz.prog Ev model_True_A (sub [1, 1, 1, 0, 1, 0, 1, 0, 1, 1] (bodyOf Tryz.f47)) 0 (blockK 0 (seqK Tryz.prog Ev model_True_A (sub [1, 1, 1, 1] (bodyOf Tryz.f47)) 0 (endK Ev Tryz.f47.results.toList R)))))
def model_True_I1_2 (a0 : ConD) (a1 : List Int) (R : D → Prop) (n1_2 : Nat) (v5 : Int) (v6 : Int) : Prop := iter (den Tryz.prog Ev model_True_A (sub [1, 1, 1, 0, 1, 0, 1, 0, 1, 0, 1, 0, 0] (bodyOf Tryz.f47)) 1) model_True_A (liveOf model_True_A 1) n1_2 ⟨[(2, .iptr [.int .i64 a0.kind, .sl .int a0.vars, .sl .int a0.consts, .int .i64 a0.n, .sl (.list .int) a0.rows, .sl .lit a0.lits] 0), (5, .clo f_model_True_1 none [.iptr [.sl .int a1] 0, .iptr [.int .i64 a0.kind, .sl .int a0.vars, .sl .int a0.consts, .int .i64 a0.n, .sl (.list .int) a0.rows, .sl .lit a0.lits] 0]), (7, .int .i64 v5), (25, .sl .int a0.consts), (26, .int .i64 (a0.consts.length : Int)), (27, .int .i64 v6)], []⟩ (blockK 1 (seqK Tryz.prog Ev model_True_A (sub [1, 1, 1, 0, 1, 0, 1, 0, 1, 1] (bodyOf Tryz.f47)) 0 (blockK 0 (seqK Tryz.prog Ev model_True_A (sub [1, 1, 1, 1] (bodyOf Tryz.f47)) 0 (endK Ev Tryz.f47.results.toList R)))))
def model_True_I1_3 (a0 : ConD) (a1 : List Int) (R : D → Prop) (n1_3 : Nat) (v9 : Int) (v10 : Int) : Prop := iter (den Tryz.prog Ev model_True_A (sub [1, 1, 1, 0, 1, 0, 1, 0, 1, 0, 1, 0, 0] (bodyOf Tryz.f47)) 1) model_True_A (liveOf model_True_A 1) n1_3 ⟨[(2, .iptr [.int .i64 a0.kind, .sl .int a0.vars, .sl .int a0.consts, .int .i64 a0.n, .sl (.list .int) a0.rows, .sl .lit a0.lits] 0), (5, .clo f_model_True_1 none [.iptr [.sl .int a1] 0, .iptr [.int .i64 a0.kind, .sl .int a0.vars, .sl .int a0.consts, .int .i64 a0.n, .sl (.list .int) a0.rows, .sl .lit a0.lits] 0]), (7, .int .i64 v9), (25, .sl .int a0.consts), (26, .int .i64 (a0.consts.length : Int)), (27, .int .i64 v10)], []⟩ (blockK 1 (seqK Tryz.prog Ev model_True_A (sub [1, 1, 1, 0, 1, 0, 1, 0, 1, 1] (bodyOf Tryz.f47)) 0 (blockK 0 (seqK Tryz.prog Ev model_True_A (sub [1, 1, 1, 1] (bodyOf Tryz.f47)) 0 (endK Ev Tryz.f47.results.toList R)))))
def model_True_I3 (a0 : ConD) (a1 : List Int) (R : D → Prop) (n3 : Nat) (v13 : Int) (m14 : List (Int × Int)) : Prop := iter (den Tryz.prog Ev model_True_A (sub [1, 1, 1, 0, 1, 0, 1, 1, 1, 0, 1, 0, 1, 0, 0] (bodyOf Tryz.f47)) 3) model_True_A (liveOf model_True_A 3) n3 ⟨[(2, .iptr [.int .i64 a0.kind, .sl .int a0.vars, .sl .int a0.consts, .int .i64 a0.n, .sl (.list .int) a0.rows, .sl .lit a0.lits] 0), (5, .clo f_model_True_1 none [.iptr [.sl .int a1] 0, .iptr [.int .i64 a0.kind, .sl .int a0.vars, .sl .int a0.consts, .int .i64 a0.n, .sl (.list .int) a0.rows, .sl .lit a0.lits] 0]), (10, .own 45), (48, .int .i64 (a0.vars.length : Int)), (49, .int .i64 v13)], [(45, .mp .int .int m14)]⟩ (blockK 3 (seqK Tryz.prog Ev model_True_A (sub [1, 1, 1, 0, 1, 0, 1, 1, 1, 0, 1, 1] (bodyOf Tryz.f47)) 0 (blockK 0 (seqK Tryz.prog Ev model_True_A (sub [1, 1, 1, 1] (bodyOf Tryz.f47)) 0 (endK Ev Tryz.f47.results.toList R)))))
def model_True_I5 (a0 : ConD) (a1 : List Int) (R : D → Prop) (n5 : Nat) (v20 : Int) (l21 : List Int) : Prop := iter (den Tryz.prog Ev model_True_A (sub [1, 1, 1, 0, 1, 0, 1, 1, 1, 1, 1, 1, 1, 0, 1, 0, 1, 0, 0] (bodyOf Tryz.f47)) 5) model_True_A (liveOf model_True_A 5) n5 ⟨[(2, .iptr [.int .i64 a0.kind, .sl .int a0.vars, .sl .int a0.consts, .int .i64 a0.n, .sl (.list .int) a0.rows, .sl .lit a0.lits] 0), (5, .clo f_model_True_1 none [.iptr [.sl .int a1] 0, .iptr [.int .i64 a0.kind, .sl .int a0.vars, .sl .int a0.consts, .int .i64 a0.n, .sl (.list .int) a0.rows, .sl .lit a0.lits] 0]), (12, .ptr 12 0), (88, .int .i64 (a0.vars.length : Int)), (89, .int .i64 v20)], [(12, .cells [.own 1012000]), (1012000, .row 3 .int l21)]⟩ (blockK 5 (seqK Tryz.prog Ev model_True_A (sub [1, 1, 1, 0, 1, 0, 1, 1, 1, 1, 1, 1, 1, 0, 1, 1] (bodyOf Tryz.f47)) 0 (blockK 0 (seqK Tryz.prog Ev model_True_A (sub [1, 1, 1, 1] (bodyOf Tryz.f47)) 0 (endK Ev Tryz.f47.results.toList R)))))
def model_True_I7 (a0 : ConD) (a1 : List Int) (R : D → Prop) (n7 : Nat) (v28 : Int) (v29 : Int) : Prop := iter (den Tryz.prog Ev model_True_A (sub [1, 1, 1, 0, 1, 0, 1, 1, 1, 1, 1, 1, 1, 1, 1, 1, 1, 0, 1, 0, 1, 0, 0] (bodyOf Tryz.f47)) 7) model_True_A (liveOf model_True_A 7) n7 ⟨[(5, .clo f_model_True_1 none [.iptr [.sl .int a1] 0, .iptr [.int .i64 a0.kind, .sl .int a0.vars, .sl .int a0.consts, .int .i64 a0.n, .sl (.list .int) a0.rows, .sl .lit a0.lits] 0]), (14, .int .i64 v28), (120, .int .i64 (((a0.vars.take (a0.vars.length : Int).toNat).drop 1).length : Int)), (121, .int .i64 v29)], []⟩ (blockK 7 (seqK Tryz.prog Ev model_True_A (sub [1, 1, 1, 0, 1, 0, 1, 1, 1, 1, 1, 1, 1, 1, 1, 1, 1, 0, 1, 1] (bodyOf Tryz.f47)) 0 (blockK 0 (seqK Tryz.prog Ev model_True_A (sub [1, 1, 1, 1] (bodyOf Tryz.f47)) 0 (endK Ev Tryz.f47.results.toList R)))))
theorem model_True_I1_eq (a0 : ConD) (a1 : List Int) (R : D → Prop) (n1 : Nat) (v1 : Int) (v2 : Int) : model_True_I1 a0 a1 R (n1 + 1) v1 v2 =
 (sel (decide (v2 < (a0.consts.length : Int)))
 (inb v2 a0.consts.length = true ∧
 Call1 Tryz.prog f_model_True_1 [.int .i64 v2, .iptr [.sl .int a1] 0, .iptr [.int .i64 a0.kind, .sl .int a0.vars, .sl .int a0.consts, .int .i64 a0.n, .sl (.list .int) a0.rows, .sl .lit a0.lits] 0] .int fun m3 =>
 model_True_I1 a0 a1 R n1 (w64 (v1 + (w64 ((at' .int a0.consts v2.toNat) * m3)))) (w64 (v2 + 1)))
 (Call1 Tryz.prog f_model_Sum [.agg [.int .i64 a0.kind, .sl .int a0.vars, .sl .int a0.consts, .int .i64 a0.n, .sl (.list .int) a0.rows, .sl .lit a0.lits], .int .i64 v1] .bool fun m4 =>
 R (.bool m4))) := by kernel_rfl
theorem model_True_I1_2_eq (a0 : ConD) (a1 : List Int) (R : D → Prop) (n1_2 : Nat) (v5 : Int) (v6 : Int) : model_True_I1_2 a0 a1 R (n1_2 + 1) v5 v6 =
 (sel (decide (v6 < (a0.consts.length : Int)))
 (inb v6 a0.consts.length = true ∧
 Call1 Tryz.prog f_model_True_1 [.int .i64 v6, .iptr [.sl .int a1] 0, .iptr [.int .i64 a0.kind, .sl .int a0.vars, .sl .int a0.consts, .int .i64 a0.n, .sl (.list .int) a0.rows, .sl .lit a0.lits] 0] .int fun m7 =>
 model_True_I1_2 a0 a1 R n1_2 (w64 (v5 + (w64 ((at' .int a0.consts v6.toNat) * m7)))) (w64 (v6 + 1)))
 (Call1 Tryz.prog f_model_Sum [.agg [.int .i64 a0.kind, .sl .int a0.vars, .sl .int a0.consts, .int .i64 a0.n, .sl (.list .int) a0.rows, .sl .lit a0.lits], .int .i64 v5] .bool fun m8 =>
 R (.bool m8))) := by kernel_rfl
theorem model_True_I1_3_eq (a0 : ConD) (a1 : List Int) (R : D → Prop) (n1_3 : Nat) (v9 : Int) (v10 : Int) : model_True_I1_3 a0 a1 R (n1_3 + 1) v9 v10 =
 (sel (decide (v10 < (a0.consts.length : Int)))
 (inb v10 a0.consts.length = true ∧
 Call1 Tryz.prog f_model_True_1 [.int .i64 v10, .iptr [.sl .int a1] 0, .iptr [.int .i64 a0.kind, .sl .int a0.vars, .sl .int a0.consts, .int .i64 a0.n, .sl (.list .int) a0.rows, .sl .lit a0.lits] 0] .int fun m11 =>
 model_True_I1_3 a0 a1 R n1_3 (w64 (v9 + (w64 ((at' .int a0.consts v10.toNat) * m11)))) (w64 (v10 + 1)))
 (Call1 Tryz.prog f_model_Sum [.agg [.int .i64 a0.kind, .sl .int a0.vars, .sl .int a0.consts, .int .i64 a0.n, .sl (.list .int) a0.rows, .sl .lit a0.lits], .int .i64 v9] .bool fun m12 =>
 R (.bool m12))) := by kernel_rfl
theorem model_True_I3_eq (a0 : ConD) (a1 : List Int) (R : D → Prop) (n3 : Nat) (v13 : Int) (m14 : List (Int × Int)) : model_True_I3 a0 a1 R (n3 + 1) v13 m14 =
 (sel (decide (v13 < (a0.vars.length : Int)))
 (Call1 Tryz.prog f_model_True_1 [.int .i64 v13, .iptr [.sl .int a1] 0, .iptr [.int .i64 a0.kind, .sl .int a0.vars, .sl .int a0.consts, .int .i64 a0.n, .sl (.list .int) a0.rows, .sl .lit a0.lits] 0] .int fun m15 =>
 roomM (m14.length + 1) = true ∧
 model_True_I3 a0 a1 R n3 (w64 (v13 + 1)) (mput .int .int m15 v13 m14))
 (R (.bool (decide ((m14.length : Int) = (a0.vars.length : Int)))))) := by kernel_rfl
theorem model_True_I5_eq (a0 : ConD) (a1 : List Int) (R : D → Prop) (n5 : Nat) (v20 : Int) (l21 : List Int) : model_True_I5 a0 a1 R (n5 + 1) v20 l21 =
 (sel (decide (v20 < (a0.vars.length : Int)))
 (Call1 Tryz.prog f_model_True_1 [.int .i64 v20, .iptr [.sl .int a1] 0, .iptr [.int .i64 a0.kind, .sl .int a0.vars, .sl .int a0.consts, .int .i64 a0.n, .sl (.list .int) a0.rows, .sl .lit a0.lits] 0] .int fun m22 =>
 room .int (l21.length + ([m22]).length) = true ∧
 model_True_I5 a0 a1 R n5 (w64 (v20 + 1)) (l21 ++ ([m22])))
 (Call1 Tryz.prog f_slices_ContainsFunc_rows_int_int [.sl (.list .int) a0.rows, .clo f_model_True_3 none [.iptr [.sl .int l21] 0]] .bool fun s23 =>
 R (.bool s23))) := by kernel_rfl
theorem model_True_I7_eq (a0 : ConD) (a1 : List Int) (R : D → Prop) (n7 : Nat) (v28 : Int) (v29 : Int) : model_True_I7 a0 a1 R (n7 + 1) v28 v29 =
 (sel (decide (v29 < (((a0.vars.take (a0.vars.length : Int).toNat).drop 1).length : Int)))
 (Call1 Tryz.prog f_model_True_1 [.int .i64 (w64 (1 + v29)), .iptr [.sl .int a1] 0, .iptr [.int .i64 a0.kind, .sl .int a0.vars, .sl .int a0.consts, .int .i64 a0.n, .sl (.list .int) a0.rows, .sl .lit a0.lits] 0] .int fun m30 =>
 model_True_I7 a0 a1 R n7 (if m30 > v28 then m30 else v28) (w64 (v29 + 1)))
 (Call1 Tryz.prog f_model_True_1 [.int .i64 0, .iptr [.sl .int a1] 0, .iptr [.int .i64 a0.kind, .sl .int a0.vars, .sl .int a0.consts, .int .i64 a0.n, .sl (.list .int) a0.rows, .sl .lit a0.lits] 0] .int fun m31 =>
 R (.bool (decide (m31 = v28))))) := by kernel_rfl
theorem model_True_eq (a0 : ConD) (a1 : List Int) (R : D → Prop) : fnD Tryz.prog Ev model_True_A Tryz.f47.results.toList (bodyOf Tryz.f47) [.agg [.int .i64 a0.kind, .sl .int a0.vars, .sl .int a0.consts, .int .i64 a0.n, .sl (.list .int) a0.rows, .sl .lit a0.lits], .sl .int a1] R =
 (sel (decide (a0.kind = 1))
 (∃ n1, model_True_I1 a0 a1 R n1 0 0)
 (sel (decide (a0.kind = 2))
 (∃ n1_2, model_True_I1_2 a0 a1 R n1_2 0 0)
 (sel (decide (a0.kind = 3))
 (∃ n1_3, model_True_I1_3 a0 a1 R n1_3 0 0)
 (sel (decide (a0.kind = 4))
 (∃ n3, model_True_I3 a0 a1 R n3 0 ([] : List (Int × Int)))
 (sel (decide (a0.kind = 5))
 (Call1 Tryz.prog f_model_True_1 [.int .i64 0, .iptr [.sl .int a1] 0, .iptr [.int .i64 a0.kind, .sl .int a0.vars, .sl .int a0.consts, .int .i64 a0.n, .sl (.list .int) a0.rows, .sl .lit a0.lits] 0] .int fun m16 =>
 Call1 Tryz.prog f_model_within [.int .i64 m16, .int .i64 0, .int .i64 (w64 ((a0.consts.length : Int) - 1))] .bool fun m17 =>
 sel m17
 (Call1 Tryz.prog f_model_True_1 [.int .i64 0, .iptr [.sl .int a1] 0, .iptr [.int .i64 a0.kind, .sl .int a0.vars, .sl .int a0.consts, .int .i64 a0.n, .sl (.list .int) a0.rows, .sl .lit a0.lits] 0] .int fun m18 =>
 inb m18 a0.consts.length = true ∧
 Call1 Tryz.prog f_model_True_1 [.int .i64 1, .iptr [.sl .int a1] 0, .iptr [.int .i64 a0.kind, .sl .int a0.vars, .sl .int a0.consts, .int .i64 a0.n, .sl (.list .int) a0.rows, .sl .lit a0.lits] 0] .int fun m19 =>
 R (.bool (decide ((at' .int a0.consts m18.toNat) = m19))))
 (R (.bool false)))
 (sel (decide (a0.kind = 6))
 (∃ n5, model_True_I5 a0 a1 R n5 0 ([] : List Int))
 (sel (decide (a0.kind = 7))
 (Call1 Tryz.prog f_model_True_1 [.int .i64 0, .iptr [.sl .int a1] 0, .iptr [.int .i64 a0.kind, .sl .int a0.vars, .sl .int a0.consts, .int .i64 a0.n, .sl (.list .int) a0.rows, .sl .lit a0.lits] 0] .int fun m24 =>
 Call1 Tryz.prog f_model_True_1 [.int .i64 1, .iptr [.sl .int a1] 0, .iptr [.int .i64 a0.kind, .sl .int a0.vars, .sl .int a0.consts, .int .i64 a0.n, .sl (.list .int) a0.rows, .sl .lit a0.lits] 0] .int fun m25 =>
 Call1 Tryz.prog f_model_True_1 [.int .i64 2, .iptr [.sl .int a1] 0, .iptr [.int .i64 a0.kind, .sl .int a0.vars, .sl .int a0.consts, .int .i64 a0.n, .sl (.list .int) a0.rows, .sl .lit a0.lits] 0] .int fun m26 =>
 R (.bool (decide ((w64 (m24 * m25)) = m26))))
 (sel (decide (a0.kind = 8))
 (Call1 Tryz.prog f_model_True_1 [.int .i64 1, .iptr [.sl .int a1] 0, .iptr [.int .i64 a0.kind, .sl .int a0.vars, .sl .int a0.consts, .int .i64 a0.n, .sl (.list .int) a0.rows, .sl .lit a0.lits] 0] .int fun m27 =>
 inSl 1 (a0.vars.length : Int) a0.vars.length = true ∧
 ∃ n7, model_True_I7 a0 a1 R n7 m27 0)
 (sel (decide (a0.kind = 9))
 (Call1 Tryz.prog f_slices_ContainsFunc_l_api_Lit_api_Lit [.sl .lit a0.lits, .clo f_model_True_2 none [.iptr [.sl .int a1] 0]] .bool fun s32 =>
 R (.bool s32))
 (inb 0 a0.lits.length = true ∧
 Call1 Tryz.prog f_model_True_2 [.agg [.int .i64 ((at' .lit a0.lits 0).var), .int .i64 ((at' .lit a0.lits 0).op), .int .i64 ((at' .lit a0.lits 0).n)], .iptr [.sl .int a1] 0] .bool fun m33 =>
 sel m33
 (Call1 Tryz.prog f_model_True_1 [.int .i64 0, .iptr [.sl .int a1] 0, .iptr [.int .i64 a0.kind, .sl .int a0.vars, .sl .int a0.consts, .int .i64 a0.n, .sl (.list .int) a0.rows, .sl .lit a0.lits] 0] .int fun m34 =>
 sel (decide (m34 = 1))
 (R (.bool true))
 (inb 0 a0.lits.length = true ∧
 Call1 Tryz.prog f_model_True_2 [.agg [.int .i64 ((at' .lit a0.lits 0).var), .int .i64 ((at' .lit a0.lits 0).op), .int .i64 ((at' .lit a0.lits 0).n)], .iptr [.sl .int a1] 0] .bool fun m35 =>
 sel (!m35)
 (Call1 Tryz.prog f_model_True_1 [.int .i64 0, .iptr [.sl .int a1] 0, .iptr [.int .i64 a0.kind, .sl .int a0.vars, .sl .int a0.consts, .int .i64 a0.n, .sl (.list .int) a0.rows, .sl .lit a0.lits] 0] .int fun m36 =>
 R (.bool (decide (m36 = 0))))
 (R (.bool false))))
 (inb 0 a0.lits.length = true ∧
 Call1 Tryz.prog f_model_True_2 [.agg [.int .i64 ((at' .lit a0.lits 0).var), .int .i64 ((at' .lit a0.lits 0).op), .int .i64 ((at' .lit a0.lits 0).n)], .iptr [.sl .int a1] 0] .bool fun m37 =>
 sel (!m37)
 (Call1 Tryz.prog f_model_True_1 [.int .i64 0, .iptr [.sl .int a1] 0, .iptr [.int .i64 a0.kind, .sl .int a0.vars, .sl .int a0.consts, .int .i64 a0.n, .sl (.list .int) a0.rows, .sl .lit a0.lits] 0] .int fun m38 =>
 R (.bool (decide (m38 = 0))))
 (R (.bool false))))))))))))) := by kernel_rfl
theorem model_True_sat {r : D} (a0 : ConD) (a1 : List Int) (h : (∀ d ∈ [.agg [.int .i64 a0.kind, .sl .int a0.vars, .sl .int a0.consts, .int .i64 a0.n, .sl (.list .int) a0.rows, .sl .lit a0.lits], .sl .int a1], okD d) → fnD Tryz.prog Ev model_True_A Tryz.f47.results.toList (bodyOf Tryz.f47) [.agg [.int .i64 a0.kind, .sl .int a0.vars, .sl .int a0.consts, .int .i64 a0.n, .sl (.list .int) a0.rows, .sl .lit a0.lits], .sl .int a1] fun d => d = r) : Sat Tryz.prog f_model_True [.agg [.int .i64 a0.kind, .sl .int a0.vars, .sl .int a0.consts, .int .i64 a0.n, .sl (.list .int) a0.rows, .sl .lit a0.lits], .sl .int a1] r := by
  have h2 := sat_of (r := r) (args := [.agg [.int .i64 a0.kind, .sl .int a0.vars, .sl .int a0.consts, .int .i64 a0.n, .sl (.list .int) a0.rows, .sl .lit a0.lits], .sl .int a1]) (A := model_True_A) (fn := Tryz.f47) (body := bodyOf Tryz.f47) (f := f_model_True) factsEv Tryz.func47 (by kernel_rfl) (by rw [Tryz.ntmps47]; rfl) (by rw [Tryz.ntmps47]; exact Nat.le_of_ble_eq_true rfl)
  with_reducible exact h2 h
/-! ### cordon/model.Whole -/
def model_Whole_A : Ann := { own := [6], live := [(0, ([2, 3, 8, 9, 10], []))], n := 31, nils := [], pubs := [] }
def model_Whole_I0 (a0 : MdlD) (a1 : List Int) (R : D → Prop) (n0 : Nat) (v1 : Int) : Prop := iter (den Tryz.prog Ev model_Whole_A (sub [1, 0, 1, 0, 0] (bodyOf Tryz.f48)) 0) model_Whole_A (liveOf model_Whole_A 0) n0 ⟨[(2, .iptr [.sl .var a0.vars, .sl .con a0.cons, .int .i64 a0.goal, .int .i64 a0.var] 0), (3, .iptr [.sl .int a1] 0), (8, .sl .var a0.vars), (9, .int .i64 (a0.vars.length : Int)), (10, .int .i64 v1)], []⟩ (blockK 0 (seqK Tryz.prog Ev model_Whole_A (sub [1, 1] (bodyOf Tryz.f48)) 0 (endK Ev Tryz.f48.results.toList R)))
theorem model_Whole_I0_eq (a0 : MdlD) (a1 : List Int) (R : D → Prop) (n0 : Nat) (v1 : Int) : model_Whole_I0 a0 a1 R (n0 + 1) v1 =
 (sel (decide (v1 < (a0.vars.length : Int)))
 (inb v1 a0.vars.length = true ∧
 inb v1 a1.length = true ∧
 Call1 Tryz.prog f_model_within [.int .i64 (at' .int a1 v1.toNat), .int .i64 ((at' .var a0.vars v1.toNat).lo), .int .i64 ((at' .var a0.vars v1.toNat).hi)] .bool fun m2 =>
 sel (!m2)
 (R (.bool false))
 (model_Whole_I0 a0 a1 R n0 (w64 (v1 + 1))))
 (Call1 Tryz.prog f_slices_ContainsFunc_l_api_Con_api_Con [.sl .con a0.cons, .clo f_model_Whole_1 none [.iptr [.sl .int a1] 0]] .bool fun s3 =>
 R (.bool (!s3)))) := by kernel_rfl
theorem model_Whole_eq (a0 : MdlD) (a1 : List Int) (R : D → Prop) : fnD Tryz.prog Ev model_Whole_A Tryz.f48.results.toList (bodyOf Tryz.f48) [.agg [.sl .var a0.vars, .sl .con a0.cons, .int .i64 a0.goal, .int .i64 a0.var], .sl .int a1] R =
 (∃ n0, model_Whole_I0 a0 a1 R n0 0) := by kernel_rfl
theorem model_Whole_sat {r : D} (a0 : MdlD) (a1 : List Int) (h : (∀ d ∈ [.agg [.sl .var a0.vars, .sl .con a0.cons, .int .i64 a0.goal, .int .i64 a0.var], .sl .int a1], okD d) → fnD Tryz.prog Ev model_Whole_A Tryz.f48.results.toList (bodyOf Tryz.f48) [.agg [.sl .var a0.vars, .sl .con a0.cons, .int .i64 a0.goal, .int .i64 a0.var], .sl .int a1] fun d => d = r) : Sat Tryz.prog f_model_Whole [.agg [.sl .var a0.vars, .sl .con a0.cons, .int .i64 a0.goal, .int .i64 a0.var], .sl .int a1] r := by
  have h2 := sat_of (r := r) (args := [.agg [.sl .var a0.vars, .sl .con a0.cons, .int .i64 a0.goal, .int .i64 a0.var], .sl .int a1]) (A := model_Whole_A) (fn := Tryz.f48) (body := bodyOf Tryz.f48) (f := f_model_Whole) factsEv Tryz.func48 (by kernel_rfl) (by rw [Tryz.ntmps48]; rfl) (by rw [Tryz.ntmps48]; exact Nat.le_of_ble_eq_true rfl)
  with_reducible exact h2 h
/-! ### cordon/model.Scope -/
def model_Scope_A : Ann := { own := [], live := [], n := 22, nils := [], pubs := [] }
theorem model_Scope_eq (a0 : MdlD) (a1 : Int) (R : D → Prop) : fnD Tryz.prog Ev model_Scope_A Tryz.f49.results.toList (bodyOf Tryz.f49) [.agg [.sl .var a0.vars, .sl .con a0.cons, .int .i64 a0.goal, .int .i64 a0.var], .int .i64 a1] R =
 (Call1 Tryz.prog f_model_ready [.agg [.sl .var a0.vars, .sl .con a0.cons, .int .i64 a0.goal, .int .i64 a0.var], .int .i64 a1, .int .i64 (a0.vars.length : Int)] .int fun m1 =>
 sel (!decide (m1 = 0))
 (R (.tup [.sl .int ([] : List Int), .int .i64 m1]))
 (inb a1 a0.cons.length = true ∧
 Call1 Tryz.prog f_model_Vars [.agg [.int .i64 ((at' .con a0.cons a1.toNat).kind), .sl .int ((at' .con a0.cons a1.toNat).vars), .sl .int ((at' .con a0.cons a1.toNat).consts), .int .i64 ((at' .con a0.cons a1.toNat).n), .sl (.list .int) ((at' .con a0.cons a1.toNat).rows), .sl .lit ((at' .con a0.cons a1.toNat).lits)]] (.list .int) fun m2 =>
 R (.tup [.sl .int m2, .int .i64 0]))) := by kernel_rfl
theorem model_Scope_sat {r : D} (a0 : MdlD) (a1 : Int) (h : (∀ d ∈ [.agg [.sl .var a0.vars, .sl .con a0.cons, .int .i64 a0.goal, .int .i64 a0.var], .int .i64 a1], okD d) → fnD Tryz.prog Ev model_Scope_A Tryz.f49.results.toList (bodyOf Tryz.f49) [.agg [.sl .var a0.vars, .sl .con a0.cons, .int .i64 a0.goal, .int .i64 a0.var], .int .i64 a1] fun d => d = r) : Sat Tryz.prog f_model_Scope [.agg [.sl .var a0.vars, .sl .con a0.cons, .int .i64 a0.goal, .int .i64 a0.var], .int .i64 a1] r := by
  have h2 := sat_of (r := r) (args := [.agg [.sl .var a0.vars, .sl .con a0.cons, .int .i64 a0.goal, .int .i64 a0.var], .int .i64 a1]) (A := model_Scope_A) (fn := Tryz.f49) (body := bodyOf Tryz.f49) (f := f_model_Scope) factsEv Tryz.func49 (by kernel_rfl) (by rw [Tryz.ntmps49]; rfl) (by rw [Tryz.ntmps49]; exact Nat.le_of_ble_eq_true rfl)
  with_reducible exact h2 h
/-! ### cordon/model.vars -/
def model_vars_A : Ann := { own := [4], live := [(0, ([0, 5, 6, 7], []))], n := 49, nils := [], pubs := [] }
def model_vars_I0 (a0 : List VarD) (R : D → Prop) (n0 : Nat) (v1 : Int) : Prop := iter (den Tryz.prog Ev model_vars_A (sub [1, 0, 1, 0, 0] (bodyOf Tryz.f67)) 0) model_vars_A (liveOf model_vars_A 0) n0 ⟨[(0, .sl .var a0), (5, .sl .var a0), (6, .int .i64 (a0.length : Int)), (7, .int .i64 v1)], []⟩ (blockK 0 (seqK Tryz.prog Ev model_vars_A (sub [1, 1] (bodyOf Tryz.f67)) 0 (endK Ev Tryz.f67.results.toList R)))
theorem model_vars_I0_eq (a0 : List VarD) (R : D → Prop) (n0 : Nat) (v1 : Int) : model_vars_I0 a0 R (n0 + 1) v1 =
 (sel (decide (v1 < (a0.length : Int)))
 (inb v1 a0.length = true ∧
 Call1 Tryz.prog f_model_Name [.str ((at' .var a0 v1.toNat).name)] .bool fun m2 =>
 sel (!m2)
 (R (.int .i64 1))
 (inSl 0 v1 a0.length = true ∧
 Call1 Tryz.prog f_slices_ContainsFunc_l_api_Var_api_Var [.sl .var ((a0.take v1.toNat).drop 0), .clo f_model_vars_1 none [.iptr [.str ((at' .var a0 v1.toNat).name), .int .i64 ((at' .var a0 v1.toNat).lo), .int .i64 ((at' .var a0 v1.toNat).hi)] 0]] .bool fun s3 =>
 sel s3
 (R (.int .i64 6))
 (Call1 Tryz.prog f_model_within [.int .i64 ((at' .var a0 v1.toNat).lo), .int .i64 (-50), .int .i64 50] .bool fun m4 =>
 sel (!m4)
 (R (.int .i64 3))
 (Call1 Tryz.prog f_model_within [.int .i64 ((at' .var a0 v1.toNat).hi), .int .i64 (-50), .int .i64 50] .bool fun m5 =>
 sel (!m5)
 (R (.int .i64 3))
 (sel (decide (((at' .var a0 v1.toNat).hi) < ((at' .var a0 v1.toNat).lo)))
 (R (.int .i64 3))
 (sel (decide (6 ≤ (w64 (((at' .var a0 v1.toNat).hi) - ((at' .var a0 v1.toNat).lo)))))
 (R (.int .i64 2))
 (model_vars_I0 a0 R n0 (w64 (v1 + 1)))))))))
 (R (.int .i64 0))) := by kernel_rfl
theorem model_vars_eq (a0 : List VarD) (R : D → Prop) : fnD Tryz.prog Ev model_vars_A Tryz.f67.results.toList (bodyOf Tryz.f67) [.sl .var a0] R =
 (∃ n0, model_vars_I0 a0 R n0 0) := by kernel_rfl
theorem model_vars_sat {r : D} (a0 : List VarD) (h : (∀ d ∈ [.sl .var a0], okD d) → fnD Tryz.prog Ev model_vars_A Tryz.f67.results.toList (bodyOf Tryz.f67) [.sl .var a0] fun d => d = r) : Sat Tryz.prog f_model_vars [.sl .var a0] r := by
  have h2 := sat_of (r := r) (args := [.sl .var a0]) (A := model_vars_A) (fn := Tryz.f67) (body := bodyOf Tryz.f67) (f := f_model_vars) factsEv Tryz.func67 (by kernel_rfl) (by rw [Tryz.ntmps67]; rfl) (by rw [Tryz.ntmps67]; exact Nat.le_of_ble_eq_true rfl)
  with_reducible exact h2 h
/-! ### cordon/model.con -/
def model_con_A : Ann := { own := [5, 6, 8], live := [(1, ([6, 75, 76, 77], []))], n := 94, nils := [], pubs := [] }
def model_con_I1 (a1 : ConD) (R : D → Prop) (n1 : Nat) (v7 : Int) : Prop := iter (den Tryz.prog Ev model_con_A (sub [1, 1, 1, 1, 0, 1, 0, 0] (bodyOf Tryz.f68)) 1) model_con_A (liveOf model_con_A 1) n1 ⟨[(6, .iptr [.clo f_model_con_2 none []] 0), (75, .sl .lit a1.lits), (76, .int .i64 (a1.lits.length : Int)), (77, .int .i64 v7)], []⟩ (blockK 1 (seqK Tryz.prog Ev model_con_A (sub [1, 1, 1, 1, 1] (bodyOf Tryz.f68)) 0 (endK Ev Tryz.f68.results.toList R)))
theorem model_con_I1_eq (a1 : ConD) (R : D → Prop) (n1 : Nat) (v7 : Int) : model_con_I1 a1 R (n1 + 1) v7 =
 (sel (decide (v7 < (a1.lits.length : Int)))
 (inb v7 a1.lits.length = true ∧
 sel (decide (((at' .lit a1.lits v7.toNat).op) < 1))
 (R (.int .i64 7))
 (sel (decide (4 < ((at' .lit a1.lits v7.toNat).op)))
 (R (.int .i64 7))
 (Call1 Tryz.prog f_model_con_2 [.int .i64 ((at' .lit a1.lits v7.toNat).n)] .bool fun m8 =>
 sel m8
 (R (.int .i64 3))
 (model_con_I1 a1 R n1 (w64 (v7 + 1))))))
 (R (.int .i64 0))) := by kernel_rfl
theorem model_con_eq (a0 : MdlD) (a1 : ConD) (R : D → Prop) : fnD Tryz.prog Ev model_con_A Tryz.f68.results.toList (bodyOf Tryz.f68) [.agg [.sl .var a0.vars, .sl .con a0.cons, .int .i64 a0.goal, .int .i64 a0.var], .agg [.int .i64 a1.kind, .sl .int a1.vars, .sl .int a1.consts, .int .i64 a1.n, .sl (.list .int) a1.rows, .sl .lit a1.lits]] R =
 (sel (decide (a1.kind < 1))
 (R (.int .i64 7))
 (sel (decide (10 < a1.kind))
 (R (.int .i64 7))
 (sel (decide (4 < (a1.vars.length : Int)))
 (R (.int .i64 2))
 (sel (decide (4 < (a1.lits.length : Int)))
 (R (.int .i64 2))
 (sel (decide (8 < (a1.consts.length : Int)))
 (R (.int .i64 2))
 (sel (decide (20 < (a1.rows.length : Int)))
 (R (.int .i64 2))
 (Call1 Tryz.prog f_model_form [.agg [.int .i64 a1.kind, .sl .int a1.vars, .sl .int a1.consts, .int .i64 a1.n, .sl (.list .int) a1.rows, .sl .lit a1.lits]] .bool fun m1 =>
 sel (!m1)
 (R (.int .i64 1))
 (Call1 Tryz.prog f_slices_ContainsFunc_l_int_int [.sl .int a1.vars, .clo f_model_con_1 none [.iptr [.sl .var a0.vars, .sl .con a0.cons, .int .i64 a0.goal, .int .i64 a0.var] 0]] .bool fun s2 =>
 sel s2
 (R (.int .i64 5))
 (Call1 Tryz.prog f_slices_ContainsFunc_l_api_Lit_api_Lit [.sl .lit a1.lits, .clo f_model_con_3 none [.iptr [.clo f_model_con_1 none [.iptr [.sl .var a0.vars, .sl .con a0.cons, .int .i64 a0.goal, .int .i64 a0.var] 0]] 0]] .bool fun s3 =>
 sel s3
 (R (.int .i64 5))
 (Call1 Tryz.prog f_slices_ContainsFunc_l_int_int [.sl .int a1.consts, .clo f_model_con_2 none []] .bool fun s4 =>
 sel s4
 (R (.int .i64 3))
 (Call1 Tryz.prog f_model_con_2 [.int .i64 a1.n] .bool fun m5 =>
 sel m5
 (R (.int .i64 3))
 (Call1 Tryz.prog f_slices_ContainsFunc_rows_int_int [.sl (.list .int) a1.rows, .clo f_model_con_4 none [.iptr [.clo f_model_con_2 none []] 0]] .bool fun s6 =>
 sel s6
 (R (.int .i64 3))
 (∃ n1, model_con_I1 a1 R n1 0))))))))))))) := by kernel_rfl
theorem model_con_sat {r : D} (a0 : MdlD) (a1 : ConD) (h : (∀ d ∈ [.agg [.sl .var a0.vars, .sl .con a0.cons, .int .i64 a0.goal, .int .i64 a0.var], .agg [.int .i64 a1.kind, .sl .int a1.vars, .sl .int a1.consts, .int .i64 a1.n, .sl (.list .int) a1.rows, .sl .lit a1.lits]], okD d) → fnD Tryz.prog Ev model_con_A Tryz.f68.results.toList (bodyOf Tryz.f68) [.agg [.sl .var a0.vars, .sl .con a0.cons, .int .i64 a0.goal, .int .i64 a0.var], .agg [.int .i64 a1.kind, .sl .int a1.vars, .sl .int a1.consts, .int .i64 a1.n, .sl (.list .int) a1.rows, .sl .lit a1.lits]] fun d => d = r) : Sat Tryz.prog f_model_con [.agg [.sl .var a0.vars, .sl .con a0.cons, .int .i64 a0.goal, .int .i64 a0.var], .agg [.int .i64 a1.kind, .sl .int a1.vars, .sl .int a1.consts, .int .i64 a1.n, .sl (.list .int) a1.rows, .sl .lit a1.lits]] r := by
  have h2 := sat_of (r := r) (args := [.agg [.sl .var a0.vars, .sl .con a0.cons, .int .i64 a0.goal, .int .i64 a0.var], .agg [.int .i64 a1.kind, .sl .int a1.vars, .sl .int a1.consts, .int .i64 a1.n, .sl (.list .int) a1.rows, .sl .lit a1.lits]]) (A := model_con_A) (fn := Tryz.f68) (body := bodyOf Tryz.f68) (f := f_model_con) factsEv Tryz.func68 (by kernel_rfl) (by rw [Tryz.ntmps68]; rfl) (by rw [Tryz.ntmps68]; exact Nat.le_of_ble_eq_true rfl)
  with_reducible exact h2 h
/-! ### cordon/model.True$1 -/
def model_True_1_A : Ann := { own := [], live := [], n := 13, nils := [], pubs := [] }
theorem model_True_1_eq (a0 : Int) (c0 : List Int) (c1 : ConD) (R : D → Prop) : fnD Tryz.prog Ev model_True_1_A Tryz.f71.results.toList (bodyOf Tryz.f71) [.int .i64 a0, .iptr [.sl .int c0] 0, .iptr [.int .i64 c1.kind, .sl .int c1.vars, .sl .int c1.consts, .int .i64 c1.n, .sl (.list .int) c1.rows, .sl .lit c1.lits] 0] R =
 (inb a0 c1.vars.length = true ∧
 inb (at' .int c1.vars a0.toNat) c0.length = true ∧
 R (.int .i64 (at' .int c0 ((at' .int c1.vars a0.toNat).toNat)))) := by kernel_rfl
theorem model_True_1_sat {r : D} (a0 : Int) (c0 : List Int) (c1 : ConD) (h : (∀ d ∈ [.int .i64 a0, .iptr [.sl .int c0] 0, .iptr [.int .i64 c1.kind, .sl .int c1.vars, .sl .int c1.consts, .int .i64 c1.n, .sl (.list .int) c1.rows, .sl .lit c1.lits] 0], okD d) → fnD Tryz.prog Ev model_True_1_A Tryz.f71.results.toList (bodyOf Tryz.f71) [.int .i64 a0, .iptr [.sl .int c0] 0, .iptr [.int .i64 c1.kind, .sl .int c1.vars, .sl .int c1.consts, .int .i64 c1.n, .sl (.list .int) c1.rows, .sl .lit c1.lits] 0] fun d => d = r) : Sat Tryz.prog f_model_True_1 [.int .i64 a0, .iptr [.sl .int c0] 0, .iptr [.int .i64 c1.kind, .sl .int c1.vars, .sl .int c1.consts, .int .i64 c1.n, .sl (.list .int) c1.rows, .sl .lit c1.lits] 0] r := by
  have h2 := sat_of (r := r) (args := [.int .i64 a0, .iptr [.sl .int c0] 0, .iptr [.int .i64 c1.kind, .sl .int c1.vars, .sl .int c1.consts, .int .i64 c1.n, .sl (.list .int) c1.rows, .sl .lit c1.lits] 0]) (A := model_True_1_A) (fn := Tryz.f71) (body := bodyOf Tryz.f71) (f := f_model_True_1) factsEv Tryz.func71 (by kernel_rfl) (by rw [Tryz.ntmps71]; rfl) (by rw [Tryz.ntmps71]; exact Nat.le_of_ble_eq_true rfl)
  with_reducible exact h2 h
/-! ### cordon/model.True$2 -/
def model_True_2_A : Ann := { own := [], live := [], n := 11, nils := [], pubs := [] }
theorem model_True_2_eq (a0 : LitD) (c0 : List Int) (R : D → Prop) : fnD Tryz.prog Ev model_True_2_A Tryz.f72.results.toList (bodyOf Tryz.f72) [.agg [.int .i64 a0.var, .int .i64 a0.op, .int .i64 a0.n], .iptr [.sl .int c0] 0] R =
 (inb a0.var c0.length = true ∧
 Call1 Tryz.prog f_model_Lit [.agg [.int .i64 a0.var, .int .i64 a0.op, .int .i64 a0.n], .int .i64 (at' .int c0 a0.var.toNat)] .bool fun m1 =>
 R (.bool m1)) := by kernel_rfl
theorem model_True_2_sat {r : D} (a0 : LitD) (c0 : List Int) (h : (∀ d ∈ [.agg [.int .i64 a0.var, .int .i64 a0.op, .int .i64 a0.n], .iptr [.sl .int c0] 0], okD d) → fnD Tryz.prog Ev model_True_2_A Tryz.f72.results.toList (bodyOf Tryz.f72) [.agg [.int .i64 a0.var, .int .i64 a0.op, .int .i64 a0.n], .iptr [.sl .int c0] 0] fun d => d = r) : Sat Tryz.prog f_model_True_2 [.agg [.int .i64 a0.var, .int .i64 a0.op, .int .i64 a0.n], .iptr [.sl .int c0] 0] r := by
  have h2 := sat_of (r := r) (args := [.agg [.int .i64 a0.var, .int .i64 a0.op, .int .i64 a0.n], .iptr [.sl .int c0] 0]) (A := model_True_2_A) (fn := Tryz.f72) (body := bodyOf Tryz.f72) (f := f_model_True_2) factsEv Tryz.func72 (by kernel_rfl) (by rw [Tryz.ntmps72]; rfl) (by rw [Tryz.ntmps72]; exact Nat.le_of_ble_eq_true rfl)
  with_reducible exact h2 h
/-! ### cordon/model.Sum -/
def model_Sum_A : Ann := { own := [], live := [], n := 23, nils := [], pubs := [] }
theorem model_Sum_eq (a0 : ConD) (a1 : Int) (R : D → Prop) : fnD Tryz.prog Ev model_Sum_A Tryz.f73.results.toList (bodyOf Tryz.f73) [.agg [.int .i64 a0.kind, .sl .int a0.vars, .sl .int a0.consts, .int .i64 a0.n, .sl (.list .int) a0.rows, .sl .lit a0.lits], .int .i64 a1] R =
 (sel (decide (a0.kind = 1))
 (R (.bool (decide (a1 ≤ a0.n))))
 (sel (decide (a0.kind = 2))
 (R (.bool (decide (a1 = a0.n))))
 (R (.bool (!decide (a1 = a0.n)))))) := by kernel_rfl
theorem model_Sum_sat {r : D} (a0 : ConD) (a1 : Int) (h : (∀ d ∈ [.agg [.int .i64 a0.kind, .sl .int a0.vars, .sl .int a0.consts, .int .i64 a0.n, .sl (.list .int) a0.rows, .sl .lit a0.lits], .int .i64 a1], okD d) → fnD Tryz.prog Ev model_Sum_A Tryz.f73.results.toList (bodyOf Tryz.f73) [.agg [.int .i64 a0.kind, .sl .int a0.vars, .sl .int a0.consts, .int .i64 a0.n, .sl (.list .int) a0.rows, .sl .lit a0.lits], .int .i64 a1] fun d => d = r) : Sat Tryz.prog f_model_Sum [.agg [.int .i64 a0.kind, .sl .int a0.vars, .sl .int a0.consts, .int .i64 a0.n, .sl (.list .int) a0.rows, .sl .lit a0.lits], .int .i64 a1] r := by
  have h2 := sat_of (r := r) (args := [.agg [.int .i64 a0.kind, .sl .int a0.vars, .sl .int a0.consts, .int .i64 a0.n, .sl (.list .int) a0.rows, .sl .lit a0.lits], .int .i64 a1]) (A := model_Sum_A) (fn := Tryz.f73) (body := bodyOf Tryz.f73) (f := f_model_Sum) factsEv Tryz.func73 (by kernel_rfl) (by rw [Tryz.ntmps73]; rfl) (by rw [Tryz.ntmps73]; exact Nat.le_of_ble_eq_true rfl)
  with_reducible exact h2 h
/-! ### cordon/model.True$3 -/
def model_True_3_A : Ann := { own := [], live := [], n := 7, nils := [], pubs := [] }
theorem model_True_3_eq (a0 : List Int) (c0 : List Int) (R : D → Prop) : fnD Tryz.prog Ev model_True_3_A Tryz.f75.results.toList (bodyOf Tryz.f75) [.sl .int a0, .iptr [.sl .int c0] 0] R =
 (Call1 Tryz.prog f_slices_Equal_l_int_int [.sl .int a0, .sl .int c0] .bool fun s1 =>
 R (.bool s1)) := by kernel_rfl
theorem model_True_3_sat {r : D} (a0 : List Int) (c0 : List Int) (h : (∀ d ∈ [.sl .int a0, .iptr [.sl .int c0] 0], okD d) → fnD Tryz.prog Ev model_True_3_A Tryz.f75.results.toList (bodyOf Tryz.f75) [.sl .int a0, .iptr [.sl .int c0] 0] fun d => d = r) : Sat Tryz.prog f_model_True_3 [.sl .int a0, .iptr [.sl .int c0] 0] r := by
  have h2 := sat_of (r := r) (args := [.sl .int a0, .iptr [.sl .int c0] 0]) (A := model_True_3_A) (fn := Tryz.f75) (body := bodyOf Tryz.f75) (f := f_model_True_3) factsEv Tryz.func75 (by kernel_rfl) (by rw [Tryz.ntmps75]; rfl) (by rw [Tryz.ntmps75]; exact Nat.le_of_ble_eq_true rfl)
  with_reducible exact h2 h
/-! ### cordon/model.Whole$1 -/
def model_Whole_1_A : Ann := { own := [], live := [], n := 8, nils := [], pubs := [] }
theorem model_Whole_1_eq (a0 : ConD) (c0 : List Int) (R : D → Prop) : fnD Tryz.prog Ev model_Whole_1_A Tryz.f79.results.toList (bodyOf Tryz.f79) [.agg [.int .i64 a0.kind, .sl .int a0.vars, .sl .int a0.consts, .int .i64 a0.n, .sl (.list .int) a0.rows, .sl .lit a0.lits], .iptr [.sl .int c0] 0] R =
 (Call1 Tryz.prog f_model_True [.agg [.int .i64 a0.kind, .sl .int a0.vars, .sl .int a0.consts, .int .i64 a0.n, .sl (.list .int) a0.rows, .sl .lit a0.lits], .sl .int c0] .bool fun m1 =>
 R (.bool (!m1))) := by kernel_rfl
theorem model_Whole_1_sat {r : D} (a0 : ConD) (c0 : List Int) (h : (∀ d ∈ [.agg [.int .i64 a0.kind, .sl .int a0.vars, .sl .int a0.consts, .int .i64 a0.n, .sl (.list .int) a0.rows, .sl .lit a0.lits], .iptr [.sl .int c0] 0], okD d) → fnD Tryz.prog Ev model_Whole_1_A Tryz.f79.results.toList (bodyOf Tryz.f79) [.agg [.int .i64 a0.kind, .sl .int a0.vars, .sl .int a0.consts, .int .i64 a0.n, .sl (.list .int) a0.rows, .sl .lit a0.lits], .iptr [.sl .int c0] 0] fun d => d = r) : Sat Tryz.prog f_model_Whole_1 [.agg [.int .i64 a0.kind, .sl .int a0.vars, .sl .int a0.consts, .int .i64 a0.n, .sl (.list .int) a0.rows, .sl .lit a0.lits], .iptr [.sl .int c0] 0] r := by
  have h2 := sat_of (r := r) (args := [.agg [.int .i64 a0.kind, .sl .int a0.vars, .sl .int a0.consts, .int .i64 a0.n, .sl (.list .int) a0.rows, .sl .lit a0.lits], .iptr [.sl .int c0] 0]) (A := model_Whole_1_A) (fn := Tryz.f79) (body := bodyOf Tryz.f79) (f := f_model_Whole_1) factsEv Tryz.func79 (by kernel_rfl) (by rw [Tryz.ntmps79]; rfl) (by rw [Tryz.ntmps79]; exact Nat.le_of_ble_eq_true rfl)
  with_reducible exact h2 h
/-! ### cordon/model.Vars -/
def model_Vars_A : Ann := { own := [5, 20], live := [(0, ([3, 10, 11, 12], [30512]))], n := 26, nils := [], pubs := [] }
def model_Vars_I0 (a0 : ConD) (R : D → Prop) (n0 : Nat) (v2 : Int) (l3 : List Int) : Prop := iter (den Tryz.prog Ev model_Vars_A (sub [1, 1, 0, 1, 0, 0] (bodyOf Tryz.f80)) 0) model_Vars_A (liveOf model_Vars_A 0) n0 ⟨[(3, .own 30512), (10, .sl .lit a0.lits), (11, .int .i64 (a0.lits.length : Int)), (12, .int .i64 v2)], [(30512, .row 3 .int l3)]⟩ (blockK 0 (seqK Tryz.prog Ev model_Vars_A (sub [1, 1, 1] (bodyOf Tryz.f80)) 0 (endK Ev Tryz.f80.results.toList R)))
theorem model_Vars_I0_eq (a0 : ConD) (R : D → Prop) (n0 : Nat) (v2 : Int) (l3 : List Int) : model_Vars_I0 a0 R (n0 + 1) v2 l3 =
 (sel (decide (v2 < (a0.lits.length : Int)))
 (inb v2 a0.lits.length = true ∧
 room .int (l3.length + ([(at' .lit a0.lits v2.toNat).var]).length) = true ∧
 model_Vars_I0 a0 R n0 (w64 (v2 + 1)) (l3 ++ ([(at' .lit a0.lits v2.toNat).var])))
 (∃ i4 : List Int, SatH Tryz.prog f_slices_Sort_l_int_int [.own 1000] [(1000, .row 3 .int l3)] (.tup []) [(1000, .row 3 .int i4)] ∧
 ∃ i5 : List Int, SatH Tryz.prog f_slices_Compact_l_int_int [.own 1000] [(1000, .row 3 .int i4)] (.sl .int i5) [] ∧
 R (.sl .int i5))) := by kernel_rfl
theorem model_Vars_eq (a0 : ConD) (R : D → Prop) : fnD Tryz.prog Ev model_Vars_A Tryz.f80.results.toList (bodyOf Tryz.f80) [.agg [.int .i64 a0.kind, .sl .int a0.vars, .sl .int a0.consts, .int .i64 a0.n, .sl (.list .int) a0.rows, .sl .lit a0.lits]] R =
 (∃ i1 : List Int, SatH Tryz.prog f_slices_Clone_l_int_int [.sl .int a0.vars] [] (.own 3000) [(3000, .row 3 .int i1)] ∧
 ∃ n0, model_Vars_I0 a0 R n0 0 i1) := by kernel_rfl
theorem model_Vars_sat {r : D} (a0 : ConD) (h : (∀ d ∈ [.agg [.int .i64 a0.kind, .sl .int a0.vars, .sl .int a0.consts, .int .i64 a0.n, .sl (.list .int) a0.rows, .sl .lit a0.lits]], okD d) → fnD Tryz.prog Ev model_Vars_A Tryz.f80.results.toList (bodyOf Tryz.f80) [.agg [.int .i64 a0.kind, .sl .int a0.vars, .sl .int a0.consts, .int .i64 a0.n, .sl (.list .int) a0.rows, .sl .lit a0.lits]] fun d => d = r) : Sat Tryz.prog f_model_Vars [.agg [.int .i64 a0.kind, .sl .int a0.vars, .sl .int a0.consts, .int .i64 a0.n, .sl (.list .int) a0.rows, .sl .lit a0.lits]] r := by
  have h2 := sat_of (r := r) (args := [.agg [.int .i64 a0.kind, .sl .int a0.vars, .sl .int a0.consts, .int .i64 a0.n, .sl (.list .int) a0.rows, .sl .lit a0.lits]]) (A := model_Vars_A) (fn := Tryz.f80) (body := bodyOf Tryz.f80) (f := f_model_Vars) factsEv Tryz.func80 (by kernel_rfl) (by rw [Tryz.ntmps80]; rfl) (by rw [Tryz.ntmps80]; exact Nat.le_of_ble_eq_true rfl)
  with_reducible exact h2 h
/-! ### cordon/model.vars$1 -/
def model_vars_1_A : Ann := { own := [], live := [], n := 9, nils := [], pubs := [] }
theorem model_vars_1_eq (a0 : VarD) (c0 : VarD) (R : D → Prop) : fnD Tryz.prog Ev model_vars_1_A Tryz.f88.results.toList (bodyOf Tryz.f88) [.agg [.str a0.name, .int .i64 a0.lo, .int .i64 a0.hi], .iptr [.str c0.name, .int .i64 c0.lo, .int .i64 c0.hi] 0] R =
 (R (.bool (decide (a0.name = c0.name)))) := by kernel_rfl
theorem model_vars_1_sat {r : D} (a0 : VarD) (c0 : VarD) (h : (∀ d ∈ [.agg [.str a0.name, .int .i64 a0.lo, .int .i64 a0.hi], .iptr [.str c0.name, .int .i64 c0.lo, .int .i64 c0.hi] 0], okD d) → fnD Tryz.prog Ev model_vars_1_A Tryz.f88.results.toList (bodyOf Tryz.f88) [.agg [.str a0.name, .int .i64 a0.lo, .int .i64 a0.hi], .iptr [.str c0.name, .int .i64 c0.lo, .int .i64 c0.hi] 0] fun d => d = r) : Sat Tryz.prog f_model_vars_1 [.agg [.str a0.name, .int .i64 a0.lo, .int .i64 a0.hi], .iptr [.str c0.name, .int .i64 c0.lo, .int .i64 c0.hi] 0] r := by
  have h2 := sat_of (r := r) (args := [.agg [.str a0.name, .int .i64 a0.lo, .int .i64 a0.hi], .iptr [.str c0.name, .int .i64 c0.lo, .int .i64 c0.hi] 0]) (A := model_vars_1_A) (fn := Tryz.f88) (body := bodyOf Tryz.f88) (f := f_model_vars_1) factsEv Tryz.func88 (by kernel_rfl) (by rw [Tryz.ntmps88]; rfl) (by rw [Tryz.ntmps88]; exact Nat.le_of_ble_eq_true rfl)
  with_reducible exact h2 h
/-! ### cordon/model.con$1 -/
def model_con_1_A : Ann := { own := [], live := [], n := 11, nils := [], pubs := [] }
theorem model_con_1_eq (a0 : Int) (c0 : MdlD) (R : D → Prop) : fnD Tryz.prog Ev model_con_1_A Tryz.f89.results.toList (bodyOf Tryz.f89) [.int .i64 a0, .iptr [.sl .var c0.vars, .sl .con c0.cons, .int .i64 c0.goal, .int .i64 c0.var] 0] R =
 (Call1 Tryz.prog f_model_within [.int .i64 a0, .int .i64 0, .int .i64 (w64 ((c0.vars.length : Int) - 1))] .bool fun m1 =>
 R (.bool (!m1))) := by kernel_rfl
theorem model_con_1_sat {r : D} (a0 : Int) (c0 : MdlD) (h : (∀ d ∈ [.int .i64 a0, .iptr [.sl .var c0.vars, .sl .con c0.cons, .int .i64 c0.goal, .int .i64 c0.var] 0], okD d) → fnD Tryz.prog Ev model_con_1_A Tryz.f89.results.toList (bodyOf Tryz.f89) [.int .i64 a0, .iptr [.sl .var c0.vars, .sl .con c0.cons, .int .i64 c0.goal, .int .i64 c0.var] 0] fun d => d = r) : Sat Tryz.prog f_model_con_1 [.int .i64 a0, .iptr [.sl .var c0.vars, .sl .con c0.cons, .int .i64 c0.goal, .int .i64 c0.var] 0] r := by
  have h2 := sat_of (r := r) (args := [.int .i64 a0, .iptr [.sl .var c0.vars, .sl .con c0.cons, .int .i64 c0.goal, .int .i64 c0.var] 0]) (A := model_con_1_A) (fn := Tryz.f89) (body := bodyOf Tryz.f89) (f := f_model_con_1) factsEv Tryz.func89 (by kernel_rfl) (by rw [Tryz.ntmps89]; rfl) (by rw [Tryz.ntmps89]; exact Nat.le_of_ble_eq_true rfl)
  with_reducible exact h2 h
/-! ### cordon/model.con$2 -/
def model_con_2_A : Ann := { own := [], live := [], n := 6, nils := [], pubs := [] }
theorem model_con_2_eq (a0 : Int) (R : D → Prop) : fnD Tryz.prog Ev model_con_2_A Tryz.f90.results.toList (bodyOf Tryz.f90) [.int .i64 a0] R =
 (Call1 Tryz.prog f_model_within [.int .i64 a0, .int .i64 (-1000), .int .i64 1000] .bool fun m1 =>
 R (.bool (!m1))) := by kernel_rfl
theorem model_con_2_sat {r : D} (a0 : Int) (h : (∀ d ∈ [.int .i64 a0], okD d) → fnD Tryz.prog Ev model_con_2_A Tryz.f90.results.toList (bodyOf Tryz.f90) [.int .i64 a0] fun d => d = r) : Sat Tryz.prog f_model_con_2 [.int .i64 a0] r := by
  have h2 := sat_of (r := r) (args := [.int .i64 a0]) (A := model_con_2_A) (fn := Tryz.f90) (body := bodyOf Tryz.f90) (f := f_model_con_2) factsEv Tryz.func90 (by kernel_rfl) (by rw [Tryz.ntmps90]; rfl) (by rw [Tryz.ntmps90]; exact Nat.le_of_ble_eq_true rfl)
  with_reducible exact h2 h
/-! ### cordon/model.form -/
def model_form_A : Ann := { own := [3], live := [], n := 66, nils := [], pubs := [] }
theorem model_form_eq (a0 : ConD) (R : D → Prop) : fnD Tryz.prog Ev model_form_A Tryz.f91.results.toList (bodyOf Tryz.f91) [.agg [.int .i64 a0.kind, .sl .int a0.vars, .sl .int a0.consts, .int .i64 a0.n, .sl (.list .int) a0.rows, .sl .lit a0.lits]] R =
 (Call1 Tryz.prog f_model_of [.agg [.int .i64 a0.kind, .sl .int a0.vars, .sl .int a0.consts, .int .i64 a0.n, .sl (.list .int) a0.rows, .sl .lit a0.lits]] (.pr .int (.pr .int (.pr .int (.pr .int .int)))) fun m1 =>
 Call1 Tryz.prog f_model_within [.int .i64 (a0.vars.length : Int), .int .i64 m1.1, .int .i64 m1.2.1] .bool fun m2 =>
 sel (!m2)
 (R (.bool false))
 (Call1 Tryz.prog f_model_is [.int .i64 (a0.consts.length : Int), .int .i64 m1.2.2.1] .bool fun m3 =>
 sel (!m3)
 (R (.bool false))
 (Call1 Tryz.prog f_model_is [.int .i64 (a0.rows.length : Int), .int .i64 m1.2.2.2.1] .bool fun m4 =>
 sel (!m4)
 (R (.bool false))
 (Call1 Tryz.prog f_model_is [.int .i64 (a0.lits.length : Int), .int .i64 m1.2.2.2.2] .bool fun m5 =>
 sel (!m5)
 (R (.bool false))
 (sel (decide (a0.kind = 5))
 (sel (decide ((a0.consts.length : Int) = 0))
 (R (.bool false))
 (sel (decide (3 < a0.kind))
 (sel (!decide (a0.n = 0))
 (R (.bool false))
 (Call1 Tryz.prog f_slices_ContainsFunc_rows_int_int [.sl (.list .int) a0.rows, .clo f_model_form_1 none [.iptr [.int .i64 a0.kind, .sl .int a0.vars, .sl .int a0.consts, .int .i64 a0.n, .sl (.list .int) a0.rows, .sl .lit a0.lits] 0]] .bool fun s6 =>
 R (.bool (!s6))))
 (Call1 Tryz.prog f_slices_ContainsFunc_rows_int_int [.sl (.list .int) a0.rows, .clo f_model_form_1 none [.iptr [.int .i64 a0.kind, .sl .int a0.vars, .sl .int a0.consts, .int .i64 a0.n, .sl (.list .int) a0.rows, .sl .lit a0.lits] 0]] .bool fun s7 =>
 R (.bool (!s7)))))
 (sel (decide (3 < a0.kind))
 (sel (!decide (a0.n = 0))
 (R (.bool false))
 (Call1 Tryz.prog f_slices_ContainsFunc_rows_int_int [.sl (.list .int) a0.rows, .clo f_model_form_1 none [.iptr [.int .i64 a0.kind, .sl .int a0.vars, .sl .int a0.consts, .int .i64 a0.n, .sl (.list .int) a0.rows, .sl .lit a0.lits] 0]] .bool fun s8 =>
 R (.bool (!s8))))
 (Call1 Tryz.prog f_slices_ContainsFunc_rows_int_int [.sl (.list .int) a0.rows, .clo f_model_form_1 none [.iptr [.int .i64 a0.kind, .sl .int a0.vars, .sl .int a0.consts, .int .i64 a0.n, .sl (.list .int) a0.rows, .sl .lit a0.lits] 0]] .bool fun s9 =>
 R (.bool (!s9))))))))) := by kernel_rfl
theorem model_form_sat {r : D} (a0 : ConD) (h : (∀ d ∈ [.agg [.int .i64 a0.kind, .sl .int a0.vars, .sl .int a0.consts, .int .i64 a0.n, .sl (.list .int) a0.rows, .sl .lit a0.lits]], okD d) → fnD Tryz.prog Ev model_form_A Tryz.f91.results.toList (bodyOf Tryz.f91) [.agg [.int .i64 a0.kind, .sl .int a0.vars, .sl .int a0.consts, .int .i64 a0.n, .sl (.list .int) a0.rows, .sl .lit a0.lits]] fun d => d = r) : Sat Tryz.prog f_model_form [.agg [.int .i64 a0.kind, .sl .int a0.vars, .sl .int a0.consts, .int .i64 a0.n, .sl (.list .int) a0.rows, .sl .lit a0.lits]] r := by
  have h2 := sat_of (r := r) (args := [.agg [.int .i64 a0.kind, .sl .int a0.vars, .sl .int a0.consts, .int .i64 a0.n, .sl (.list .int) a0.rows, .sl .lit a0.lits]]) (A := model_form_A) (fn := Tryz.f91) (body := bodyOf Tryz.f91) (f := f_model_form) factsEv Tryz.func91 (by kernel_rfl) (by rw [Tryz.ntmps91]; rfl) (by rw [Tryz.ntmps91]; exact Nat.le_of_ble_eq_true rfl)
  with_reducible exact h2 h
/-! ### cordon/model.con$3 -/
def model_con_3_A : Ann := { own := [], live := [], n := 8, nils := [], pubs := [] }
theorem model_con_3_eq (a0 : LitD) (h0 : FuncId) (hap0 : List D) (R : D → Prop) : fnD Tryz.prog Ev model_con_3_A Tryz.f92.results.toList (bodyOf Tryz.f92) [.agg [.int .i64 a0.var, .int .i64 a0.op, .int .i64 a0.n], .iptr [.clo h0 (some [.bool]) hap0] 0] R =
 (Ent Tryz.prog h0 ∧
 Call1 Tryz.prog h0 ([.int .i64 a0.var] ++ hap0) .bool fun r1 =>
 R (.bool r1)) := by kernel_rfl
theorem model_con_3_sat {r : D} (a0 : LitD) (h0 : FuncId) (hap0 : List D) (h : (∀ d ∈ [.agg [.int .i64 a0.var, .int .i64 a0.op, .int .i64 a0.n], .iptr [.clo h0 (some [.bool]) hap0] 0], okD d) → fnD Tryz.prog Ev model_con_3_A Tryz.f92.results.toList (bodyOf Tryz.f92) [.agg [.int .i64 a0.var, .int .i64 a0.op, .int .i64 a0.n], .iptr [.clo h0 (some [.bool]) hap0] 0] fun d => d = r) : Sat Tryz.prog f_model_con_3 [.agg [.int .i64 a0.var, .int .i64 a0.op, .int .i64 a0.n], .iptr [.clo h0 (some [.bool]) hap0] 0] r := by
  have h2 := sat_of (r := r) (args := [.agg [.int .i64 a0.var, .int .i64 a0.op, .int .i64 a0.n], .iptr [.clo h0 (some [.bool]) hap0] 0]) (A := model_con_3_A) (fn := Tryz.f92) (body := bodyOf Tryz.f92) (f := f_model_con_3) factsEv Tryz.func92 (by kernel_rfl) (by rw [Tryz.ntmps92]; rfl) (by rw [Tryz.ntmps92]; exact Nat.le_of_ble_eq_true rfl)
  with_reducible exact h2 h
/-! ### cordon/model.con$4 -/
def model_con_4_A : Ann := { own := [], live := [], n := 7, nils := [], pubs := [] }
theorem model_con_4_eq (a0 : List Int) (h0 : FuncId) (hap0 : List D) (R : D → Prop) : fnD Tryz.prog Ev model_con_4_A Tryz.f93.results.toList (bodyOf Tryz.f93) [.sl .int a0, .iptr [.clo h0 (some [.bool]) hap0] 0] R =
 (Call1 Tryz.prog f_slices_ContainsFunc_l_int_int [.sl .int a0, .clo h0 (some [.bool]) hap0] .bool fun s1 =>
 R (.bool s1)) := by kernel_rfl
theorem model_con_4_sat {r : D} (a0 : List Int) (h0 : FuncId) (hap0 : List D) (h : (∀ d ∈ [.sl .int a0, .iptr [.clo h0 (some [.bool]) hap0] 0], okD d) → fnD Tryz.prog Ev model_con_4_A Tryz.f93.results.toList (bodyOf Tryz.f93) [.sl .int a0, .iptr [.clo h0 (some [.bool]) hap0] 0] fun d => d = r) : Sat Tryz.prog f_model_con_4 [.sl .int a0, .iptr [.clo h0 (some [.bool]) hap0] 0] r := by
  have h2 := sat_of (r := r) (args := [.sl .int a0, .iptr [.clo h0 (some [.bool]) hap0] 0]) (A := model_con_4_A) (fn := Tryz.f93) (body := bodyOf Tryz.f93) (f := f_model_con_4) factsEv Tryz.func93 (by kernel_rfl) (by rw [Tryz.ntmps93]; rfl) (by rw [Tryz.ntmps93]; exact Nat.le_of_ble_eq_true rfl)
  with_reducible exact h2 h
/-! ### cordon/model.of -/
def model_of_A : Ann := { own := [2], live := [], n := 32, nils := [], pubs := [] }
theorem model_of_eq (a0 : ConD) (R : D → Prop) : fnD Tryz.prog Ev model_of_A Tryz.f107.results.toList (bodyOf Tryz.f107) [.agg [.int .i64 a0.kind, .sl .int a0.vars, .sl .int a0.consts, .int .i64 a0.n, .sl (.list .int) a0.rows, .sl .lit a0.lits]] R =
 (sel (decide (a0.kind = 1))
 (R (.agg [.int .i64 1, .int .i64 4, .int .i64 (a0.vars.length : Int), .int .i64 0, .int .i64 0]))
 (sel (decide (a0.kind = 2))
 (R (.agg [.int .i64 1, .int .i64 4, .int .i64 (a0.vars.length : Int), .int .i64 0, .int .i64 0]))
 (sel (decide (a0.kind = 3))
 (R (.agg [.int .i64 1, .int .i64 4, .int .i64 (a0.vars.length : Int), .int .i64 0, .int .i64 0]))
 (sel (decide (a0.kind = 4))
 (R (.agg [.int .i64 1, .int .i64 4, .int .i64 0, .int .i64 0, .int .i64 0]))
 (sel (decide (a0.kind = 5))
 (R (.agg [.int .i64 2, .int .i64 2, .int .i64 (-1), .int .i64 0, .int .i64 0]))
 (sel (decide (a0.kind = 6))
 (R (.agg [.int .i64 1, .int .i64 4, .int .i64 0, .int .i64 (-1), .int .i64 0]))
 (sel (decide (a0.kind = 7))
 (R (.agg [.int .i64 3, .int .i64 3, .int .i64 0, .int .i64 0, .int .i64 0]))
 (sel (decide (a0.kind = 8))
 (R (.agg [.int .i64 2, .int .i64 4, .int .i64 0, .int .i64 0, .int .i64 0]))
 (sel (decide (a0.kind = 9))
 (R (.agg [.int .i64 0, .int .i64 0, .int .i64 0, .int .i64 0, .int .i64 (-1)]))
 (R (.agg [.int .i64 1, .int .i64 1, .int .i64 0, .int .i64 0, .int .i64 1]))))))))))) := by kernel_rfl
theorem model_of_sat {r : D} (a0 : ConD) (h : (∀ d ∈ [.agg [.int .i64 a0.kind, .sl .int a0.vars, .sl .int a0.consts, .int .i64 a0.n, .sl (.list .int) a0.rows, .sl .lit a0.lits]], okD d) → fnD Tryz.prog Ev model_of_A Tryz.f107.results.toList (bodyOf Tryz.f107) [.agg [.int .i64 a0.kind, .sl .int a0.vars, .sl .int a0.consts, .int .i64 a0.n, .sl (.list .int) a0.rows, .sl .lit a0.lits]] fun d => d = r) : Sat Tryz.prog f_model_of [.agg [.int .i64 a0.kind, .sl .int a0.vars, .sl .int a0.consts, .int .i64 a0.n, .sl (.list .int) a0.rows, .sl .lit a0.lits]] r := by
  have h2 := sat_of (r := r) (args := [.agg [.int .i64 a0.kind, .sl .int a0.vars, .sl .int a0.consts, .int .i64 a0.n, .sl (.list .int) a0.rows, .sl .lit a0.lits]]) (A := model_of_A) (fn := Tryz.f107) (body := bodyOf Tryz.f107) (f := f_model_of) factsEv Tryz.func107 (by kernel_rfl) (by rw [Tryz.ntmps107]; rfl) (by rw [Tryz.ntmps107]; exact Nat.le_of_ble_eq_true rfl)
  with_reducible exact h2 h
/-! ### cordon/model.is -/
def model_is_A : Ann := { own := [], live := [], n := 12, nils := [], pubs := [] }
theorem model_is_eq (a0 : Int) (a1 : Int) (R : D → Prop) : fnD Tryz.prog Ev model_is_A Tryz.f108.results.toList (bodyOf Tryz.f108) [.int .i64 a0, .int .i64 a1] R =
 (sel (decide (a1 = (-1)))
 (R (.bool true))
 (R (.bool (decide (a0 = a1))))) := by kernel_rfl
theorem model_is_sat {r : D} (a0 : Int) (a1 : Int) (h : (∀ d ∈ [.int .i64 a0, .int .i64 a1], okD d) → fnD Tryz.prog Ev model_is_A Tryz.f108.results.toList (bodyOf Tryz.f108) [.int .i64 a0, .int .i64 a1] fun d => d = r) : Sat Tryz.prog f_model_is [.int .i64 a0, .int .i64 a1] r := by
  have h2 := sat_of (r := r) (args := [.int .i64 a0, .int .i64 a1]) (A := model_is_A) (fn := Tryz.f108) (body := bodyOf Tryz.f108) (f := f_model_is) factsEv Tryz.func108 (by kernel_rfl) (by rw [Tryz.ntmps108]; rfl) (by rw [Tryz.ntmps108]; exact Nat.le_of_ble_eq_true rfl)
  with_reducible exact h2 h
/-! ### cordon/model.form$1 -/
def model_form_1_A : Ann := { own := [], live := [], n := 10, nils := [], pubs := [] }
theorem model_form_1_eq (a0 : List Int) (c0 : ConD) (R : D → Prop) : fnD Tryz.prog Ev model_form_1_A Tryz.f109.results.toList (bodyOf Tryz.f109) [.sl .int a0, .iptr [.int .i64 c0.kind, .sl .int c0.vars, .sl .int c0.consts, .int .i64 c0.n, .sl (.list .int) c0.rows, .sl .lit c0.lits] 0] R =
 (R (.bool (!decide ((a0.length : Int) = (c0.vars.length : Int))))) := by kernel_rfl
theorem model_form_1_sat {r : D} (a0 : List Int) (c0 : ConD) (h : (∀ d ∈ [.sl .int a0, .iptr [.int .i64 c0.kind, .sl .int c0.vars, .sl .int c0.consts, .int .i64 c0.n, .sl (.list .int) c0.rows, .sl .lit c0.lits] 0], okD d) → fnD Tryz.prog Ev model_form_1_A Tryz.f109.results.toList (bodyOf Tryz.f109) [.sl .int a0, .iptr [.int .i64 c0.kind, .sl .int c0.vars, .sl .int c0.consts, .int .i64 c0.n, .sl (.list .int) c0.rows, .sl .lit c0.lits] 0] fun d => d = r) : Sat Tryz.prog f_model_form_1 [.sl .int a0, .iptr [.int .i64 c0.kind, .sl .int c0.vars, .sl .int c0.consts, .int .i64 c0.n, .sl (.list .int) c0.rows, .sl .lit c0.lits] 0] r := by
  have h2 := sat_of (r := r) (args := [.sl .int a0, .iptr [.int .i64 c0.kind, .sl .int c0.vars, .sl .int c0.consts, .int .i64 c0.n, .sl (.list .int) c0.rows, .sl .lit c0.lits] 0]) (A := model_form_1_A) (fn := Tryz.f109) (body := bodyOf Tryz.f109) (f := f_model_form_1) factsEv Tryz.func109 (by kernel_rfl) (by rw [Tryz.ntmps109]; rfl) (by rw [Tryz.ntmps109]; exact Nat.le_of_ble_eq_true rfl)
  with_reducible exact h2 h
end Go.Proofs.YtonkbljpcgadlaaGreat
