/- What the functions of a package do, as equations of plain propositions: printed by a program that carries the code out on symbols. -/
import Derived.Test.YtgnjdgafkjohaaaGreatWEv
namespace Go.Proofs.YtgnjdgafkjohaaaGreat
open Go.RowKit
set_option linter.unusedVariables false
set_option maxRecDepth 100000
/-! ### cordon/cordonlaw.FilterFilters -/
def cordonlaw_FilterFilters_A : Ann := { own := [], live := [], n := 48, nils := [], pubs := [] }
theorem cordonlaw_FilterFilters_eq (a0 : MdlD) (a1 : Int) (a2 : List (List Int)) (R : D → Prop) : fnD Tryz.prog Ev cordonlaw_FilterFilters_A Tryz.f3.results.toList (bodyOf Tryz.f3) [.agg [.sl .var a0.vars, .sl .con a0.cons, .int .i64 a0.goal, .int .i64 a0.var], .int .i64 a1, .sl (.list .int) a2] R =
 (Call2 Tryz.prog f_filter_Filter [.agg [.sl .var a0.vars, .sl .con a0.cons, .int .i64 a0.goal, .int .i64 a0.var], .int .i64 a1, .sl (.list .int) a2] (.list (.list .int)) .int fun f1 f2 =>
 Call1 Tryz.prog f_cordonlaw_checkStore [.agg [.sl .var a0.vars, .sl .con a0.cons, .int .i64 a0.goal, .int .i64 a0.var], .sl (.list .int) a2] .int fun c3 =>
 sel (decide (c3 = 0))
 (sel (decide (a1 < 0))
 (sel (decide ((5 : Int) = 0))
 (Call1 Tryz.prog f_cordonref_FilterOf [.agg [.sl .var a0.vars, .sl .con a0.cons, .int .i64 a0.goal, .int .i64 a0.var], .int .i64 a1, .sl (.list .int) a2] (.list (.list .int)) fun c4 =>
 Call1 Tryz.prog f_cordonlaw_filterBegun [] .bool fun c5 =>
 sel c5
 (Call1 Tryz.prog f_cordonlaw_storeIs [.sl (.list .int) f1, .int .i64 f2, .int .i64 5, .sl (.list .int) c4] .bool fun c6 =>
 R (.bool c6))
 (R (.bool false)))
 (Call1 Tryz.prog f_cordonlaw_filterBegun [] .bool fun c7 =>
 sel c7
 (Call1 Tryz.prog f_cordonlaw_storeIs [.sl (.list .int) f1, .int .i64 f2, .int .i64 5, .sl (.list .int) ([] : List (List Int))] .bool fun c8 =>
 R (.bool c8))
 (R (.bool false))))
 (sel (decide ((a0.cons.length : Int) ≤ a1))
 (sel (decide ((5 : Int) = 0))
 (Call1 Tryz.prog f_cordonref_FilterOf [.agg [.sl .var a0.vars, .sl .con a0.cons, .int .i64 a0.goal, .int .i64 a0.var], .int .i64 a1, .sl (.list .int) a2] (.list (.list .int)) fun c9 =>
 Call1 Tryz.prog f_cordonlaw_filterBegun [] .bool fun c10 =>
 sel c10
 (Call1 Tryz.prog f_cordonlaw_storeIs [.sl (.list .int) f1, .int .i64 f2, .int .i64 5, .sl (.list .int) c9] .bool fun c11 =>
 R (.bool c11))
 (R (.bool false)))
 (Call1 Tryz.prog f_cordonlaw_filterBegun [] .bool fun c12 =>
 sel c12
 (Call1 Tryz.prog f_cordonlaw_storeIs [.sl (.list .int) f1, .int .i64 f2, .int .i64 5, .sl (.list .int) ([] : List (List Int))] .bool fun c13 =>
 R (.bool c13))
 (R (.bool false))))
 (sel (decide (c3 = 0))
 (Call1 Tryz.prog f_cordonref_FilterOf [.agg [.sl .var a0.vars, .sl .con a0.cons, .int .i64 a0.goal, .int .i64 a0.var], .int .i64 a1, .sl (.list .int) a2] (.list (.list .int)) fun c14 =>
 Call1 Tryz.prog f_cordonlaw_filterBegun [] .bool fun c15 =>
 sel c15
 (Call1 Tryz.prog f_cordonlaw_storeIs [.sl (.list .int) f1, .int .i64 f2, .int .i64 c3, .sl (.list .int) c14] .bool fun c16 =>
 R (.bool c16))
 (R (.bool false)))
 (Call1 Tryz.prog f_cordonlaw_filterBegun [] .bool fun c17 =>
 sel c17
 (Call1 Tryz.prog f_cordonlaw_storeIs [.sl (.list .int) f1, .int .i64 f2, .int .i64 c3, .sl (.list .int) ([] : List (List Int))] .bool fun c18 =>
 R (.bool c18))
 (R (.bool false))))))
 (sel (decide (c3 = 0))
 (Call1 Tryz.prog f_cordonref_FilterOf [.agg [.sl .var a0.vars, .sl .con a0.cons, .int .i64 a0.goal, .int .i64 a0.var], .int .i64 a1, .sl (.list .int) a2] (.list (.list .int)) fun c19 =>
 Call1 Tryz.prog f_cordonlaw_filterBegun [] .bool fun c20 =>
 sel c20
 (Call1 Tryz.prog f_cordonlaw_storeIs [.sl (.list .int) f1, .int .i64 f2, .int .i64 c3, .sl (.list .int) c19] .bool fun c21 =>
 R (.bool c21))
 (R (.bool false)))
 (Call1 Tryz.prog f_cordonlaw_filterBegun [] .bool fun c22 =>
 sel c22
 (Call1 Tryz.prog f_cordonlaw_storeIs [.sl (.list .int) f1, .int .i64 f2, .int .i64 c3, .sl (.list .int) ([] : List (List Int))] .bool fun c23 =>
 R (.bool c23))
 (R (.bool false))))) := by kernel_rfl
theorem cordonlaw_FilterFilters_sat {r : D} (a0 : MdlD) (a1 : Int) (a2 : List (List Int)) (h : (∀ d ∈ [.agg [.sl .var a0.vars, .sl .con a0.cons, .int .i64 a0.goal, .int .i64 a0.var], .int .i64 a1, .sl (.list .int) a2], okD d) → fnD Tryz.prog Ev cordonlaw_FilterFilters_A Tryz.f3.results.toList (bodyOf Tryz.f3) [.agg [.sl .var a0.vars, .sl .con a0.cons, .int .i64 a0.goal, .int .i64 a0.var], .int .i64 a1, .sl (.list .int) a2] fun d => d = r) : Sat Tryz.prog f_cordonlaw_FilterFilters [.agg [.sl .var a0.vars, .sl .con a0.cons, .int .i64 a0.goal, .int .i64 a0.var], .int .i64 a1, .sl (.list .int) a2] r := by
  have h2 := sat_of (r := r) (args := [.agg [.sl .var a0.vars, .sl .con a0.cons, .int .i64 a0.goal, .int .i64 a0.var], .int .i64 a1, .sl (.list .int) a2]) (A := cordonlaw_FilterFilters_A) (fn := Tryz.f3) (body := bodyOf Tryz.f3) (f := f_cordonlaw_FilterFilters) factsEv Tryz.func3 (by kernel_rfl) (by rw [Tryz.ntmps3]; rfl) (by rw [Tryz.ntmps3]; exact Nat.le_of_ble_eq_true rfl)
  with_reducible exact h2 h
/-! ### cordon/cordonlaw.checkStore -/
def cordonlaw_checkStore_A : Ann := { own := [], live := [], n := 14, nils := [], pubs := [] }
theorem cordonlaw_checkStore_eq (a0 : MdlD) (a1 : List (List Int)) (R : D → Prop) : fnD Tryz.prog Ev cordonlaw_checkStore_A Tryz.f16.results.toList (bodyOf Tryz.f16) [.agg [.sl .var a0.vars, .sl .con a0.cons, .int .i64 a0.goal, .int .i64 a0.var], .sl (.list .int) a1] R =
 (Call1 Tryz.prog f_cordonref_CheckModel [.agg [.sl .var a0.vars, .sl .con a0.cons, .int .i64 a0.goal, .int .i64 a0.var]] .int fun c1 =>
 sel (decide (c1 = 0))
 (Call1 Tryz.prog f_cordonref_CheckStore [.agg [.sl .var a0.vars, .sl .con a0.cons, .int .i64 a0.goal, .int .i64 a0.var], .sl (.list .int) a1] .int fun c2 =>
 R (.int .i64 c2))
 (R (.int .i64 c1))) := by kernel_rfl
theorem cordonlaw_checkStore_sat {r : D} (a0 : MdlD) (a1 : List (List Int)) (h : (∀ d ∈ [.agg [.sl .var a0.vars, .sl .con a0.cons, .int .i64 a0.goal, .int .i64 a0.var], .sl (.list .int) a1], okD d) → fnD Tryz.prog Ev cordonlaw_checkStore_A Tryz.f16.results.toList (bodyOf Tryz.f16) [.agg [.sl .var a0.vars, .sl .con a0.cons, .int .i64 a0.goal, .int .i64 a0.var], .sl (.list .int) a1] fun d => d = r) : Sat Tryz.prog f_cordonlaw_checkStore [.agg [.sl .var a0.vars, .sl .con a0.cons, .int .i64 a0.goal, .int .i64 a0.var], .sl (.list .int) a1] r := by
  have h2 := sat_of (r := r) (args := [.agg [.sl .var a0.vars, .sl .con a0.cons, .int .i64 a0.goal, .int .i64 a0.var], .sl (.list .int) a1]) (A := cordonlaw_checkStore_A) (fn := Tryz.f16) (body := bodyOf Tryz.f16) (f := f_cordonlaw_checkStore) factsEv Tryz.func16 (by kernel_rfl) (by rw [Tryz.ntmps16]; rfl) (by rw [Tryz.ntmps16]; exact Nat.le_of_ble_eq_true rfl)
  with_reducible exact h2 h
/-! ### cordon/cordonlaw.filterBegun -/
def cordonlaw_filterBegun_A : Ann := { own := [], live := [], n := 20, nils := [], pubs := [] }
theorem cordonlaw_filterBegun_eq  (R : D → Prop) : fnD Tryz.prog Ev cordonlaw_filterBegun_A Tryz.f18.results.toList (bodyOf Tryz.f18) [] R =
 (Call1 Tryz.prog f_cordonlaw_two [] .mdl fun c1 =>
 Call2 Tryz.prog f_filter_Filter [.agg [.sl .var c1.vars, .sl .con c1.cons, .int .i64 c1.goal, .int .i64 c1.var], .int .i64 0, .sl (.list .int) ([[0, 1, 2], [0, 1, 2]])] (.list (.list .int)) .int fun f2 f3 =>
 sel (decide (f3 = 0))
 (Call1 Tryz.prog f_cordonref_SameStore [.sl (.list .int) f2, .sl (.list .int) ([[0, 1], [1, 2]])] .bool fun c4 =>
 R (.bool c4))
 (R (.bool false))) := by kernel_rfl
theorem cordonlaw_filterBegun_sat {r : D}  (h : (∀ d ∈ [], okD d) → fnD Tryz.prog Ev cordonlaw_filterBegun_A Tryz.f18.results.toList (bodyOf Tryz.f18) [] fun d => d = r) : Sat Tryz.prog f_cordonlaw_filterBegun [] r := by
  have h2 := sat_of (r := r) (args := []) (A := cordonlaw_filterBegun_A) (fn := Tryz.f18) (body := bodyOf Tryz.f18) (f := f_cordonlaw_filterBegun) factsEv Tryz.func18 (by kernel_rfl) (by rw [Tryz.ntmps18]; rfl) (by rw [Tryz.ntmps18]; exact Nat.le_of_ble_eq_true rfl)
  with_reducible exact h2 h
/-! ### cordon/cordonlaw.storeIs -/
def cordonlaw_storeIs_A : Ann := { own := [], live := [], n := 19, nils := [], pubs := [] }
theorem cordonlaw_storeIs_eq (a0 : List (List Int)) (a1 : Int) (a2 : Int) (a3 : List (List Int)) (R : D → Prop) : fnD Tryz.prog Ev cordonlaw_storeIs_A Tryz.f19.results.toList (bodyOf Tryz.f19) [.sl (.list .int) a0, .int .i64 a1, .int .i64 a2, .sl (.list .int) a3] R =
 (sel (!decide (a2 = 0))
 (sel (decide (a1 = a2))
 (Call1 Tryz.prog f_cordonref_SameStore [.sl (.list .int) a0, .sl (.list .int) ([] : List (List Int))] .bool fun c1 =>
 R (.bool c1))
 (R (.bool false)))
 (sel (decide (a1 = a2))
 (Call1 Tryz.prog f_cordonref_SameStore [.sl (.list .int) a0, .sl (.list .int) a3] .bool fun c2 =>
 R (.bool c2))
 (R (.bool false)))) := by kernel_rfl
theorem cordonlaw_storeIs_sat {r : D} (a0 : List (List Int)) (a1 : Int) (a2 : Int) (a3 : List (List Int)) (h : (∀ d ∈ [.sl (.list .int) a0, .int .i64 a1, .int .i64 a2, .sl (.list .int) a3], okD d) → fnD Tryz.prog Ev cordonlaw_storeIs_A Tryz.f19.results.toList (bodyOf Tryz.f19) [.sl (.list .int) a0, .int .i64 a1, .int .i64 a2, .sl (.list .int) a3] fun d => d = r) : Sat Tryz.prog f_cordonlaw_storeIs [.sl (.list .int) a0, .int .i64 a1, .int .i64 a2, .sl (.list .int) a3] r := by
  have h2 := sat_of (r := r) (args := [.sl (.list .int) a0, .int .i64 a1, .int .i64 a2, .sl (.list .int) a3]) (A := cordonlaw_storeIs_A) (fn := Tryz.f19) (body := bodyOf Tryz.f19) (f := f_cordonlaw_storeIs) factsEv Tryz.func19 (by kernel_rfl) (by rw [Tryz.ntmps19]; rfl) (by rw [Tryz.ntmps19]; exact Nat.le_of_ble_eq_true rfl)
  with_reducible exact h2 h
/-! ### cordon/cordonlaw.two -/
def cordonlaw_two_A : Ann := { own := [0], live := [], n := 9, nils := [], pubs := [] }
theorem cordonlaw_two_eq  (R : D → Prop) : fnD Tryz.prog Ev cordonlaw_two_A Tryz.f63.results.toList (bodyOf Tryz.f63) [] R =
 (R (.agg [.sl .var ([(⟨(⟨#[120]⟩ : ByteArray), 0, 2⟩ : VarD), (⟨(⟨#[121]⟩ : ByteArray), 0, 2⟩ : VarD)]), .sl .con ([(⟨1, [0, 1], [1, -1], -1, ([] : List (List Int)), ([] : List LitD)⟩ : ConD)]), .int .i64 1, .int .i64 1])) := by kernel_rfl
theorem cordonlaw_two_sat {r : D}  (h : (∀ d ∈ [], okD d) → fnD Tryz.prog Ev cordonlaw_two_A Tryz.f63.results.toList (bodyOf Tryz.f63) [] fun d => d = r) : Sat Tryz.prog f_cordonlaw_two [] r := by
  have h2 := sat_of (r := r) (args := []) (A := cordonlaw_two_A) (fn := Tryz.f63) (body := bodyOf Tryz.f63) (f := f_cordonlaw_two) factsEv Tryz.func63 (by kernel_rfl) (by rw [Tryz.ntmps63]; rfl) (by rw [Tryz.ntmps63]; exact Nat.le_of_ble_eq_true rfl)
  with_reducible exact h2 h
end Go.Proofs.YtgnjdgafkjohaaaGreat
