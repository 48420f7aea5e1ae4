/- What the functions of a package do, as equations of plain propositions: printed by a program that carries the code out on symbols. -/
import Derived.Test.YtonkbljpcgadlaaWEv
namespace Go.Proofs.Ytonkbljpcgadlaa
open Go.RowKit
set_option linter.unusedVariables false
set_option maxRecDepth 100000
/-! ### cordon/lit.Holds -/
def lit_Holds_A : Ann := { own := [], live := [], n := 18, nils := [], pubs := [] }
theorem lit_Holds_eq (a0 : MdlD) (a1 : LitD) (a2 : Int) (R : D → Prop) : fnD Try.prog Ev lit_Holds_A Try.f33.results.toList (bodyOf Try.f33) [.agg [.sl .var a0.vars, .sl .con a0.cons, .int .i64 a0.goal, .int .i64 a0.var], .agg [.int .i64 a1.var, .int .i64 a1.op, .int .i64 a1.n], .int .i64 a2] R =
 (Call1 Try.prog f_lit_Check [.agg [.sl .var a0.vars, .sl .con a0.cons, .int .i64 a0.goal, .int .i64 a0.var], .agg [.int .i64 a1.var, .int .i64 a1.op, .int .i64 a1.n]] .int fun l1 =>
 sel (!decide (l1 = 0))
 (R (.tup [.bool false, .int .i64 l1]))
 (Call1 Try.prog f_model_Lit [.agg [.int .i64 a1.var, .int .i64 a1.op, .int .i64 a1.n], .int .i64 a2] .bool fun m2 =>
 R (.tup [.bool m2, .int .i64 0]))) := by kernel_rfl
theorem lit_Holds_sat {r : D} (a0 : MdlD) (a1 : LitD) (a2 : Int) (h : (∀ d ∈ [.agg [.sl .var a0.vars, .sl .con a0.cons, .int .i64 a0.goal, .int .i64 a0.var], .agg [.int .i64 a1.var, .int .i64 a1.op, .int .i64 a1.n], .int .i64 a2], okD d) → fnD Try.prog Ev lit_Holds_A Try.f33.results.toList (bodyOf Try.f33) [.agg [.sl .var a0.vars, .sl .con a0.cons, .int .i64 a0.goal, .int .i64 a0.var], .agg [.int .i64 a1.var, .int .i64 a1.op, .int .i64 a1.n], .int .i64 a2] fun d => d = r) : Sat Try.prog f_lit_Holds [.agg [.sl .var a0.vars, .sl .con a0.cons, .int .i64 a0.goal, .int .i64 a0.var], .agg [.int .i64 a1.var, .int .i64 a1.op, .int .i64 a1.n], .int .i64 a2] r := by
  have h2 := sat_of (r := r) (args := [.agg [.sl .var a0.vars, .sl .con a0.cons, .int .i64 a0.goal, .int .i64 a0.var], .agg [.int .i64 a1.var, .int .i64 a1.op, .int .i64 a1.n], .int .i64 a2]) (A := lit_Holds_A) (fn := Try.f33) (body := bodyOf Try.f33) (f := f_lit_Holds) factsEv Try.func33 (by kernel_rfl) (by rw [Try.ntmps33]; rfl) (by rw [Try.ntmps33]; exact Nat.le_of_ble_eq_true rfl)
  with_reducible exact h2 h
/-! ### cordon/lit.Not -/
def lit_Not_A : Ann := { own := [4], live := [], n := 21, nils := [], pubs := [] }
theorem lit_Not_eq (a0 : MdlD) (a1 : LitD) (R : D → Prop) : fnD Try.prog Ev lit_Not_A Try.f34.results.toList (bodyOf Try.f34) [.agg [.sl .var a0.vars, .sl .con a0.cons, .int .i64 a0.goal, .int .i64 a0.var], .agg [.int .i64 a1.var, .int .i64 a1.op, .int .i64 a1.n]] R =
 (Call1 Try.prog f_lit_Check [.agg [.sl .var a0.vars, .sl .con a0.cons, .int .i64 a0.goal, .int .i64 a0.var], .agg [.int .i64 a1.var, .int .i64 a1.op, .int .i64 a1.n]] .int fun l1 =>
 sel (decide (l1 = 0))
 (Call1 Try.prog f_lit_Turns [.agg [.sl .var a0.vars, .sl .con a0.cons, .int .i64 a0.goal, .int .i64 a0.var], .agg [.int .i64 a1.var, .int .i64 a1.op, .int .i64 a1.n]] .int fun l2 =>
 sel (!decide (l2 = 0))
 (R (.tup [.agg [.int .i64 0, .int .i64 0, .int .i64 0], .int .i64 l2]))
 (Call1 Try.prog f_lit_Opposite [.agg [.int .i64 a1.var, .int .i64 a1.op, .int .i64 a1.n]] .lit fun l3 =>
 R (.tup [.agg [.int .i64 l3.var, .int .i64 l3.op, .int .i64 l3.n], .int .i64 0])))
 (sel (!decide (l1 = 0))
 (R (.tup [.agg [.int .i64 0, .int .i64 0, .int .i64 0], .int .i64 l1]))
 (Call1 Try.prog f_lit_Opposite [.agg [.int .i64 a1.var, .int .i64 a1.op, .int .i64 a1.n]] .lit fun l4 =>
 R (.tup [.agg [.int .i64 l4.var, .int .i64 l4.op, .int .i64 l4.n], .int .i64 0])))) := by kernel_rfl
theorem lit_Not_sat {r : D} (a0 : MdlD) (a1 : LitD) (h : (∀ d ∈ [.agg [.sl .var a0.vars, .sl .con a0.cons, .int .i64 a0.goal, .int .i64 a0.var], .agg [.int .i64 a1.var, .int .i64 a1.op, .int .i64 a1.n]], okD d) → fnD Try.prog Ev lit_Not_A Try.f34.results.toList (bodyOf Try.f34) [.agg [.sl .var a0.vars, .sl .con a0.cons, .int .i64 a0.goal, .int .i64 a0.var], .agg [.int .i64 a1.var, .int .i64 a1.op, .int .i64 a1.n]] fun d => d = r) : Sat Try.prog f_lit_Not [.agg [.sl .var a0.vars, .sl .con a0.cons, .int .i64 a0.goal, .int .i64 a0.var], .agg [.int .i64 a1.var, .int .i64 a1.op, .int .i64 a1.n]] r := by
  have h2 := sat_of (r := r) (args := [.agg [.sl .var a0.vars, .sl .con a0.cons, .int .i64 a0.goal, .int .i64 a0.var], .agg [.int .i64 a1.var, .int .i64 a1.op, .int .i64 a1.n]]) (A := lit_Not_A) (fn := Try.f34) (body := bodyOf Try.f34) (f := f_lit_Not) factsEv Try.func34 (by kernel_rfl) (by rw [Try.ntmps34]; rfl) (by rw [Try.ntmps34]; exact Nat.le_of_ble_eq_true rfl)
  with_reducible exact h2 h
/-! ### cordon/lit.Told -/
def lit_Told_A : Ann := { own := [], live := [], n := 19, nils := [], pubs := [] }
theorem lit_Told_eq (a0 : MdlD) (a1 : List (List Int)) (a2 : LitD) (R : D → Prop) : fnD Try.prog Ev lit_Told_A Try.f35.results.toList (bodyOf Try.f35) [.agg [.sl .var a0.vars, .sl .con a0.cons, .int .i64 a0.goal, .int .i64 a0.var], .sl (.list .int) a1, .agg [.int .i64 a2.var, .int .i64 a2.op, .int .i64 a2.n]] R =
 (Call1 Try.prog f_lit_ready [.agg [.sl .var a0.vars, .sl .con a0.cons, .int .i64 a0.goal, .int .i64 a0.var], .sl (.list .int) a1, .agg [.int .i64 a2.var, .int .i64 a2.op, .int .i64 a2.n]] .int fun l1 =>
 sel (!decide (l1 = 0))
 (R (.tup [.int .i64 0, .int .i64 l1]))
 (Call1 Try.prog f_lit_Says [.sl (.list .int) a1, .agg [.int .i64 a2.var, .int .i64 a2.op, .int .i64 a2.n]] .int fun l2 =>
 R (.tup [.int .i64 l2, .int .i64 0]))) := by kernel_rfl
theorem lit_Told_sat {r : D} (a0 : MdlD) (a1 : List (List Int)) (a2 : LitD) (h : (∀ d ∈ [.agg [.sl .var a0.vars, .sl .con a0.cons, .int .i64 a0.goal, .int .i64 a0.var], .sl (.list .int) a1, .agg [.int .i64 a2.var, .int .i64 a2.op, .int .i64 a2.n]], okD d) → fnD Try.prog Ev lit_Told_A Try.f35.results.toList (bodyOf Try.f35) [.agg [.sl .var a0.vars, .sl .con a0.cons, .int .i64 a0.goal, .int .i64 a0.var], .sl (.list .int) a1, .agg [.int .i64 a2.var, .int .i64 a2.op, .int .i64 a2.n]] fun d => d = r) : Sat Try.prog f_lit_Told [.agg [.sl .var a0.vars, .sl .con a0.cons, .int .i64 a0.goal, .int .i64 a0.var], .sl (.list .int) a1, .agg [.int .i64 a2.var, .int .i64 a2.op, .int .i64 a2.n]] r := by
  have h2 := sat_of (r := r) (args := [.agg [.sl .var a0.vars, .sl .con a0.cons, .int .i64 a0.goal, .int .i64 a0.var], .sl (.list .int) a1, .agg [.int .i64 a2.var, .int .i64 a2.op, .int .i64 a2.n]]) (A := lit_Told_A) (fn := Try.f35) (body := bodyOf Try.f35) (f := f_lit_Told) factsEv Try.func35 (by kernel_rfl) (by rw [Try.ntmps35]; rfl) (by rw [Try.ntmps35]; exact Nat.le_of_ble_eq_true rfl)
  with_reducible exact h2 h
/-! ### cordon/lit.Put -/
def lit_Put_A : Ann := { own := [], live := [], n := 19, nils := [], pubs := [] }
theorem lit_Put_eq (a0 : MdlD) (a1 : List (List Int)) (a2 : LitD) (R : D → Prop) : fnD Try.prog Ev lit_Put_A Try.f36.results.toList (bodyOf Try.f36) [.agg [.sl .var a0.vars, .sl .con a0.cons, .int .i64 a0.goal, .int .i64 a0.var], .sl (.list .int) a1, .agg [.int .i64 a2.var, .int .i64 a2.op, .int .i64 a2.n]] R =
 (Call1 Try.prog f_lit_ready [.agg [.sl .var a0.vars, .sl .con a0.cons, .int .i64 a0.goal, .int .i64 a0.var], .sl (.list .int) a1, .agg [.int .i64 a2.var, .int .i64 a2.op, .int .i64 a2.n]] .int fun l1 =>
 sel (!decide (l1 = 0))
 (R (.tup [.sl (.list .int) ([] : List (List Int)), .int .i64 l1]))
 (Call1 Try.prog f_lit_Set [.sl (.list .int) a1, .agg [.int .i64 a2.var, .int .i64 a2.op, .int .i64 a2.n]] (.list (.list .int)) fun l2 =>
 R (.tup [.sl (.list .int) l2, .int .i64 0]))) := by kernel_rfl
theorem lit_Put_sat {r : D} (a0 : MdlD) (a1 : List (List Int)) (a2 : LitD) (h : (∀ d ∈ [.agg [.sl .var a0.vars, .sl .con a0.cons, .int .i64 a0.goal, .int .i64 a0.var], .sl (.list .int) a1, .agg [.int .i64 a2.var, .int .i64 a2.op, .int .i64 a2.n]], okD d) → fnD Try.prog Ev lit_Put_A Try.f36.results.toList (bodyOf Try.f36) [.agg [.sl .var a0.vars, .sl .con a0.cons, .int .i64 a0.goal, .int .i64 a0.var], .sl (.list .int) a1, .agg [.int .i64 a2.var, .int .i64 a2.op, .int .i64 a2.n]] fun d => d = r) : Sat Try.prog f_lit_Put [.agg [.sl .var a0.vars, .sl .con a0.cons, .int .i64 a0.goal, .int .i64 a0.var], .sl (.list .int) a1, .agg [.int .i64 a2.var, .int .i64 a2.op, .int .i64 a2.n]] r := by
  have h2 := sat_of (r := r) (args := [.agg [.sl .var a0.vars, .sl .con a0.cons, .int .i64 a0.goal, .int .i64 a0.var], .sl (.list .int) a1, .agg [.int .i64 a2.var, .int .i64 a2.op, .int .i64 a2.n]]) (A := lit_Put_A) (fn := Try.f36) (body := bodyOf Try.f36) (f := f_lit_Put) factsEv Try.func36 (by kernel_rfl) (by rw [Try.ntmps36]; rfl) (by rw [Try.ntmps36]; exact Nat.le_of_ble_eq_true rfl)
  with_reducible exact h2 h
/-! ### cordon/lit.Check -/
def lit_Check_A : Ann := { own := [], live := [], n := 14, nils := [], pubs := [] }
theorem lit_Check_eq (a0 : MdlD) (a1 : LitD) (R : D → Prop) : fnD Try.prog Ev lit_Check_A Try.f42.results.toList (bodyOf Try.f42) [.agg [.sl .var a0.vars, .sl .con a0.cons, .int .i64 a0.goal, .int .i64 a0.var], .agg [.int .i64 a1.var, .int .i64 a1.op, .int .i64 a1.n]] R =
 (Call1 Try.prog f_model_Check [.agg [.sl .var a0.vars, .sl .con a0.cons, .int .i64 a0.goal, .int .i64 a0.var]] .int fun m1 =>
 sel (!decide (m1 = 0))
 (R (.int .i64 m1))
 (Call1 Try.prog f_lit_Right [.agg [.sl .var a0.vars, .sl .con a0.cons, .int .i64 a0.goal, .int .i64 a0.var], .agg [.int .i64 a1.var, .int .i64 a1.op, .int .i64 a1.n]] .int fun l2 =>
 R (.int .i64 l2))) := by kernel_rfl
theorem lit_Check_sat {r : D} (a0 : MdlD) (a1 : LitD) (h : (∀ d ∈ [.agg [.sl .var a0.vars, .sl .con a0.cons, .int .i64 a0.goal, .int .i64 a0.var], .agg [.int .i64 a1.var, .int .i64 a1.op, .int .i64 a1.n]], okD d) → fnD Try.prog Ev lit_Check_A Try.f42.results.toList (bodyOf Try.f42) [.agg [.sl .var a0.vars, .sl .con a0.cons, .int .i64 a0.goal, .int .i64 a0.var], .agg [.int .i64 a1.var, .int .i64 a1.op, .int .i64 a1.n]] fun d => d = r) : Sat Try.prog f_lit_Check [.agg [.sl .var a0.vars, .sl .con a0.cons, .int .i64 a0.goal, .int .i64 a0.var], .agg [.int .i64 a1.var, .int .i64 a1.op, .int .i64 a1.n]] r := by
  have h2 := sat_of (r := r) (args := [.agg [.sl .var a0.vars, .sl .con a0.cons, .int .i64 a0.goal, .int .i64 a0.var], .agg [.int .i64 a1.var, .int .i64 a1.op, .int .i64 a1.n]]) (A := lit_Check_A) (fn := Try.f42) (body := bodyOf Try.f42) (f := f_lit_Check) factsEv Try.func42 (by kernel_rfl) (by rw [Try.ntmps42]; rfl) (by rw [Try.ntmps42]; exact Nat.le_of_ble_eq_true rfl)
  with_reducible exact h2 h
/-! ### cordon/lit.Turns -/
def lit_Turns_A : Ann := { own := [], live := [], n := 9, nils := [], pubs := [] }
theorem lit_Turns_eq (a0 : MdlD) (a1 : LitD) (R : D → Prop) : fnD Try.prog Ev lit_Turns_A Try.f75.results.toList (bodyOf Try.f75) [.agg [.sl .var a0.vars, .sl .con a0.cons, .int .i64 a0.goal, .int .i64 a0.var], .agg [.int .i64 a1.var, .int .i64 a1.op, .int .i64 a1.n]] R =
 (Call1 Try.prog f_lit_Opposite [.agg [.int .i64 a1.var, .int .i64 a1.op, .int .i64 a1.n]] .lit fun l1 =>
 Call1 Try.prog f_lit_Right [.agg [.sl .var a0.vars, .sl .con a0.cons, .int .i64 a0.goal, .int .i64 a0.var], .agg [.int .i64 l1.var, .int .i64 l1.op, .int .i64 l1.n]] .int fun l2 =>
 R (.int .i64 l2)) := by kernel_rfl
theorem lit_Turns_sat {r : D} (a0 : MdlD) (a1 : LitD) (h : (∀ d ∈ [.agg [.sl .var a0.vars, .sl .con a0.cons, .int .i64 a0.goal, .int .i64 a0.var], .agg [.int .i64 a1.var, .int .i64 a1.op, .int .i64 a1.n]], okD d) → fnD Try.prog Ev lit_Turns_A Try.f75.results.toList (bodyOf Try.f75) [.agg [.sl .var a0.vars, .sl .con a0.cons, .int .i64 a0.goal, .int .i64 a0.var], .agg [.int .i64 a1.var, .int .i64 a1.op, .int .i64 a1.n]] fun d => d = r) : Sat Try.prog f_lit_Turns [.agg [.sl .var a0.vars, .sl .con a0.cons, .int .i64 a0.goal, .int .i64 a0.var], .agg [.int .i64 a1.var, .int .i64 a1.op, .int .i64 a1.n]] r := by
  have h2 := sat_of (r := r) (args := [.agg [.sl .var a0.vars, .sl .con a0.cons, .int .i64 a0.goal, .int .i64 a0.var], .agg [.int .i64 a1.var, .int .i64 a1.op, .int .i64 a1.n]]) (A := lit_Turns_A) (fn := Try.f75) (body := bodyOf Try.f75) (f := f_lit_Turns) factsEv Try.func75 (by kernel_rfl) (by rw [Try.ntmps75]; rfl) (by rw [Try.ntmps75]; exact Nat.le_of_ble_eq_true rfl)
  with_reducible exact h2 h
/-! ### cordon/lit.Opposite -/
def lit_Opposite_A : Ann := { own := [2], live := [], n := 33, nils := [], pubs := [] }
theorem lit_Opposite_eq (a0 : LitD) (R : D → Prop) : fnD Try.prog Ev lit_Opposite_A Try.f76.results.toList (bodyOf Try.f76) [.agg [.int .i64 a0.var, .int .i64 a0.op, .int .i64 a0.n]] R =
 (sel (decide (a0.op = 1))
 (R (.agg [.int .i64 a0.var, .int .i64 2, .int .i64 (w64 (a0.n + 1))]))
 (sel (decide (a0.op = 2))
 (R (.agg [.int .i64 a0.var, .int .i64 1, .int .i64 (w64 (a0.n - 1))]))
 (sel (decide (a0.op = 3))
 (R (.agg [.int .i64 a0.var, .int .i64 4, .int .i64 a0.n]))
 (R (.agg [.int .i64 a0.var, .int .i64 3, .int .i64 a0.n]))))) := by kernel_rfl
theorem lit_Opposite_sat {r : D} (a0 : LitD) (h : (∀ d ∈ [.agg [.int .i64 a0.var, .int .i64 a0.op, .int .i64 a0.n]], okD d) → fnD Try.prog Ev lit_Opposite_A Try.f76.results.toList (bodyOf Try.f76) [.agg [.int .i64 a0.var, .int .i64 a0.op, .int .i64 a0.n]] fun d => d = r) : Sat Try.prog f_lit_Opposite [.agg [.int .i64 a0.var, .int .i64 a0.op, .int .i64 a0.n]] r := by
  have h2 := sat_of (r := r) (args := [.agg [.int .i64 a0.var, .int .i64 a0.op, .int .i64 a0.n]]) (A := lit_Opposite_A) (fn := Try.f76) (body := bodyOf Try.f76) (f := f_lit_Opposite) factsEv Try.func76 (by kernel_rfl) (by rw [Try.ntmps76]; rfl) (by rw [Try.ntmps76]; exact Nat.le_of_ble_eq_true rfl)
  with_reducible exact h2 h
/-! ### cordon/lit.ready -/
def lit_ready_A : Ann := { own := [], live := [], n := 17, nils := [], pubs := [] }
theorem lit_ready_eq (a0 : MdlD) (a1 : List (List Int)) (a2 : LitD) (R : D → Prop) : fnD Try.prog Ev lit_ready_A Try.f77.results.toList (bodyOf Try.f77) [.agg [.sl .var a0.vars, .sl .con a0.cons, .int .i64 a0.goal, .int .i64 a0.var], .sl (.list .int) a1, .agg [.int .i64 a2.var, .int .i64 a2.op, .int .i64 a2.n]] R =
 (Call1 Try.prog f_store_Check [.agg [.sl .var a0.vars, .sl .con a0.cons, .int .i64 a0.goal, .int .i64 a0.var], .sl (.list .int) a1] .int fun s1 =>
 sel (!decide (s1 = 0))
 (R (.int .i64 s1))
 (Call1 Try.prog f_lit_Right [.agg [.sl .var a0.vars, .sl .con a0.cons, .int .i64 a0.goal, .int .i64 a0.var], .agg [.int .i64 a2.var, .int .i64 a2.op, .int .i64 a2.n]] .int fun l2 =>
 R (.int .i64 l2))) := by kernel_rfl
theorem lit_ready_sat {r : D} (a0 : MdlD) (a1 : List (List Int)) (a2 : LitD) (h : (∀ d ∈ [.agg [.sl .var a0.vars, .sl .con a0.cons, .int .i64 a0.goal, .int .i64 a0.var], .sl (.list .int) a1, .agg [.int .i64 a2.var, .int .i64 a2.op, .int .i64 a2.n]], okD d) → fnD Try.prog Ev lit_ready_A Try.f77.results.toList (bodyOf Try.f77) [.agg [.sl .var a0.vars, .sl .con a0.cons, .int .i64 a0.goal, .int .i64 a0.var], .sl (.list .int) a1, .agg [.int .i64 a2.var, .int .i64 a2.op, .int .i64 a2.n]] fun d => d = r) : Sat Try.prog f_lit_ready [.agg [.sl .var a0.vars, .sl .con a0.cons, .int .i64 a0.goal, .int .i64 a0.var], .sl (.list .int) a1, .agg [.int .i64 a2.var, .int .i64 a2.op, .int .i64 a2.n]] r := by
  have h2 := sat_of (r := r) (args := [.agg [.sl .var a0.vars, .sl .con a0.cons, .int .i64 a0.goal, .int .i64 a0.var], .sl (.list .int) a1, .agg [.int .i64 a2.var, .int .i64 a2.op, .int .i64 a2.n]]) (A := lit_ready_A) (fn := Try.f77) (body := bodyOf Try.f77) (f := f_lit_ready) factsEv Try.func77 (by kernel_rfl) (by rw [Try.ntmps77]; rfl) (by rw [Try.ntmps77]; exact Nat.le_of_ble_eq_true rfl)
  with_reducible exact h2 h
/-! ### cordon/lit.Says -/
def lit_Says_A : Ann := { own := [], live := [(0, ([0, 3, 5, 12, 13, 14], []))], n := 35, nils := [], pubs := [] }
def lit_Says_I0 (a0 : List (List Int)) (a1 : LitD) (R : D → Prop) (n0 : Nat) (yes1 : Int) (v2 : Int) : Prop := iter (den Try.prog Ev lit_Says_A (sub [1, 1, 0, 1, 0, 0] (bodyOf Try.f78)) 0) lit_Says_A (liveOf lit_Says_A 0) n0 ⟨[(0, .sl (.list .int) a0), (3, .iptr [.int .i64 a1.var, .int .i64 a1.op, .int .i64 a1.n] 0), (5, .int .i64 yes1), (12, .sl .int (at' (.list .int) a0 a1.var.toNat)), (13, .int .i64 ((at' (.list .int) a0 a1.var.toNat).length : Int)), (14, .int .i64 v2)], []⟩ (blockK 0 (seqK Try.prog Ev lit_Says_A (sub [1, 1, 1] (bodyOf Try.f78)) 0 (endK Ev Try.f78.results.toList R)))
theorem lit_Says_I0_eq (a0 : List (List Int)) (a1 : LitD) (R : D → Prop) (n0 : Nat) (yes1 : Int) (v2 : Int) : lit_Says_I0 a0 a1 R (n0 + 1) yes1 v2 =
 (sel (decide (v2 < ((at' (.list .int) a0 a1.var.toNat).length : Int)))
 (inb v2 (at' (.list .int) a0 a1.var.toNat).length = true ∧
 Call1 Try.prog f_model_Lit [.agg [.int .i64 a1.var, .int .i64 a1.op, .int .i64 a1.n], .int .i64 (at' .int (at' (.list .int) a0 a1.var.toNat) v2.toNat)] .bool fun m3 =>
 sel m3
 (lit_Says_I0 a0 a1 R n0 (w64 (yes1 + 1)) (w64 (v2 + 1)))
 (lit_Says_I0 a0 a1 R n0 yes1 (w64 (v2 + 1))))
 (sel (decide (yes1 = 0))
 (R (.int .i64 (-1)))
 (inb a1.var a0.length = true ∧
 sel (decide (yes1 = ((at' (.list .int) a0 a1.var.toNat).length : Int)))
 (R (.int .i64 1))
 (R (.int .i64 0))))) := by kernel_rfl
theorem lit_Says_eq (a0 : List (List Int)) (a1 : LitD) (R : D → Prop) : fnD Try.prog Ev lit_Says_A Try.f78.results.toList (bodyOf Try.f78) [.sl (.list .int) a0, .agg [.int .i64 a1.var, .int .i64 a1.op, .int .i64 a1.n]] R =
 (inb a1.var a0.length = true ∧
 ∃ n0, lit_Says_I0 a0 a1 R n0 0 0) := by kernel_rfl
theorem lit_Says_sat {r : D} (a0 : List (List Int)) (a1 : LitD) (h : (∀ d ∈ [.sl (.list .int) a0, .agg [.int .i64 a1.var, .int .i64 a1.op, .int .i64 a1.n]], okD d) → fnD Try.prog Ev lit_Says_A Try.f78.results.toList (bodyOf Try.f78) [.sl (.list .int) a0, .agg [.int .i64 a1.var, .int .i64 a1.op, .int .i64 a1.n]] fun d => d = r) : Sat Try.prog f_lit_Says [.sl (.list .int) a0, .agg [.int .i64 a1.var, .int .i64 a1.op, .int .i64 a1.n]] r := by
  have h2 := sat_of (r := r) (args := [.sl (.list .int) a0, .agg [.int .i64 a1.var, .int .i64 a1.op, .int .i64 a1.n]]) (A := lit_Says_A) (fn := Try.f78) (body := bodyOf Try.f78) (f := f_lit_Says) factsEv Try.func78 (by kernel_rfl) (by rw [Try.ntmps78]; rfl) (by rw [Try.ntmps78]; exact Nat.le_of_ble_eq_true rfl)
  with_reducible exact h2 h
/-! ### cordon/lit.Set -/
def lit_Set_A : Ann := { own := [], live := [], n := 8, nils := [], pubs := [] }
theorem lit_Set_eq (a0 : List (List Int)) (a1 : LitD) (R : D → Prop) : fnD Try.prog Ev lit_Set_A Try.f79.results.toList (bodyOf Try.f79) [.sl (.list .int) a0, .agg [.int .i64 a1.var, .int .i64 a1.op, .int .i64 a1.n]] R =
 (Call1 Try.prog f_store_Keep [.sl (.list .int) a0, .clo f_lit_Set_1 none [.iptr [.int .i64 a1.var, .int .i64 a1.op, .int .i64 a1.n] 0]] (.list (.list .int)) fun s1 =>
 R (.sl (.list .int) s1)) := by kernel_rfl
theorem lit_Set_sat {r : D} (a0 : List (List Int)) (a1 : LitD) (h : (∀ d ∈ [.sl (.list .int) a0, .agg [.int .i64 a1.var, .int .i64 a1.op, .int .i64 a1.n]], okD d) → fnD Try.prog Ev lit_Set_A Try.f79.results.toList (bodyOf Try.f79) [.sl (.list .int) a0, .agg [.int .i64 a1.var, .int .i64 a1.op, .int .i64 a1.n]] fun d => d = r) : Sat Try.prog f_lit_Set [.sl (.list .int) a0, .agg [.int .i64 a1.var, .int .i64 a1.op, .int .i64 a1.n]] r := by
  have h2 := sat_of (r := r) (args := [.sl (.list .int) a0, .agg [.int .i64 a1.var, .int .i64 a1.op, .int .i64 a1.n]]) (A := lit_Set_A) (fn := Try.f79) (body := bodyOf Try.f79) (f := f_lit_Set) factsEv Try.func79 (by kernel_rfl) (by rw [Try.ntmps79]; rfl) (by rw [Try.ntmps79]; exact Nat.le_of_ble_eq_true rfl)
  with_reducible exact h2 h
/-! ### cordon/lit.Right -/
def lit_Right_A : Ann := { own := [], live := [], n := 35, nils := [], pubs := [] }
theorem lit_Right_eq (a0 : MdlD) (a1 : LitD) (R : D → Prop) : fnD Try.prog Ev lit_Right_A Try.f81.results.toList (bodyOf Try.f81) [.agg [.sl .var a0.vars, .sl .con a0.cons, .int .i64 a0.goal, .int .i64 a0.var], .agg [.int .i64 a1.var, .int .i64 a1.op, .int .i64 a1.n]] R =
 (sel (decide (a1.var < 0))
 (R (.int .i64 5))
 (sel (decide ((a0.vars.length : Int) ≤ a1.var))
 (R (.int .i64 5))
 (sel (decide (a1.op < 1))
 (R (.int .i64 7))
 (sel (decide (4 < a1.op))
 (R (.int .i64 7))
 (sel (decide (a1.n < (-1000)))
 (R (.int .i64 3))
 (sel (decide (1000 < a1.n))
 (R (.int .i64 3))
 (R (.int .i64 0)))))))) := by kernel_rfl
theorem lit_Right_sat {r : D} (a0 : MdlD) (a1 : LitD) (h : (∀ d ∈ [.agg [.sl .var a0.vars, .sl .con a0.cons, .int .i64 a0.goal, .int .i64 a0.var], .agg [.int .i64 a1.var, .int .i64 a1.op, .int .i64 a1.n]], okD d) → fnD Try.prog Ev lit_Right_A Try.f81.results.toList (bodyOf Try.f81) [.agg [.sl .var a0.vars, .sl .con a0.cons, .int .i64 a0.goal, .int .i64 a0.var], .agg [.int .i64 a1.var, .int .i64 a1.op, .int .i64 a1.n]] fun d => d = r) : Sat Try.prog f_lit_Right [.agg [.sl .var a0.vars, .sl .con a0.cons, .int .i64 a0.goal, .int .i64 a0.var], .agg [.int .i64 a1.var, .int .i64 a1.op, .int .i64 a1.n]] r := by
  have h2 := sat_of (r := r) (args := [.agg [.sl .var a0.vars, .sl .con a0.cons, .int .i64 a0.goal, .int .i64 a0.var], .agg [.int .i64 a1.var, .int .i64 a1.op, .int .i64 a1.n]]) (A := lit_Right_A) (fn := Try.f81) (body := bodyOf Try.f81) (f := f_lit_Right) factsEv Try.func81 (by kernel_rfl) (by rw [Try.ntmps81]; rfl) (by rw [Try.ntmps81]; exact Nat.le_of_ble_eq_true rfl)
  with_reducible exact h2 h
/-! ### cordon/lit.Set$1 -/
def lit_Set_1_A : Ann := { own := [], live := [], n := 15, nils := [], pubs := [] }
theorem lit_Set_1_eq (a0 : Int) (a1 : Int) (c0 : LitD) (R : D → Prop) : fnD Try.prog Ev lit_Set_1_A Try.f117.results.toList (bodyOf Try.f117) [.int .i64 a0, .int .i64 a1, .iptr [.int .i64 c0.var, .int .i64 c0.op, .int .i64 c0.n] 0] R =
 (sel (!decide (a0 = c0.var))
 (R (.bool true))
 (Call1 Try.prog f_model_Lit [.agg [.int .i64 c0.var, .int .i64 c0.op, .int .i64 c0.n], .int .i64 a1] .bool fun m1 =>
 R (.bool m1))) := by kernel_rfl
theorem lit_Set_1_sat {r : D} (a0 : Int) (a1 : Int) (c0 : LitD) (h : (∀ d ∈ [.int .i64 a0, .int .i64 a1, .iptr [.int .i64 c0.var, .int .i64 c0.op, .int .i64 c0.n] 0], okD d) → fnD Try.prog Ev lit_Set_1_A Try.f117.results.toList (bodyOf Try.f117) [.int .i64 a0, .int .i64 a1, .iptr [.int .i64 c0.var, .int .i64 c0.op, .int .i64 c0.n] 0] fun d => d = r) : Sat Try.prog f_lit_Set_1 [.int .i64 a0, .int .i64 a1, .iptr [.int .i64 c0.var, .int .i64 c0.op, .int .i64 c0.n] 0] r := by
  have h2 := sat_of (r := r) (args := [.int .i64 a0, .int .i64 a1, .iptr [.int .i64 c0.var, .int .i64 c0.op, .int .i64 c0.n] 0]) (A := lit_Set_1_A) (fn := Try.f117) (body := bodyOf Try.f117) (f := f_lit_Set_1) factsEv Try.func117 (by kernel_rfl) (by rw [Try.ntmps117]; rfl) (by rw [Try.ntmps117]; exact Nat.le_of_ble_eq_true rfl)
  with_reducible exact h2 h
end Go.Proofs.Ytonkbljpcgadlaa
