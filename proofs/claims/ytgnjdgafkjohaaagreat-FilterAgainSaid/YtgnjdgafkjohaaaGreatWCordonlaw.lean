/- What the functions of a package do, as equations of plain propositions: printed by a program that carries the code out on symbols. -/
import Derived.Test.YtgnjdgafkjohaaaGreatWEv
namespace Go.Proofs.YtgnjdgafkjohaaaGreat
open Go.RowKit
set_option linter.unusedVariables false
set_option maxRecDepth 100000
/-! ### cordon/cordonlaw.FilterAgain -/
def cordonlaw_FilterAgain_A : Ann := { own := [], live := [], n := 86, nils := [], pubs := [] }
theorem cordonlaw_FilterAgain_eq (a0 : MdlD) (a1 : Int) (a2 : List (List Int)) (a3 : List (List Int)) (R : D → Prop) : fnD Tryz.prog Ev cordonlaw_FilterAgain_A Tryz.f4.results.toList (bodyOf Tryz.f4) [.agg [.sl .var a0.vars, .sl .con a0.cons, .int .i64 a0.goal, .int .i64 a0.var], .int .i64 a1, .sl (.list .int) a2, .sl (.list .int) a3] R =
 (Call2 Tryz.prog f_filter_Filter [.agg [.sl .var a0.vars, .sl .con a0.cons, .int .i64 a0.goal, .int .i64 a0.var], .int .i64 a1, .sl (.list .int) a2] (.list (.list .int)) .int fun f1 f2 =>
 Call1 Tryz.prog f_cordonlaw_filterBegun [] .bool fun c3 =>
 sel (!c3)
 (R (.bool false))
 (Call1 Tryz.prog f_cordonlaw_storeBegun [] .bool fun c4 =>
 sel (!c4)
 (R (.bool false))
 (sel (!decide (f2 = 0))
 (R (.bool (decide ((f1.length : Int) = 0))))
 (Call2 Tryz.prog f_filter_Filter [.agg [.sl .var a0.vars, .sl .con a0.cons, .int .i64 a0.goal, .int .i64 a0.var], .int .i64 a1, .sl (.list .int) f1] (.list (.list .int)) .int fun f5 f6 =>
 sel (!decide (f6 = 0))
 (R (.bool false))
 (Call1 Tryz.prog f_cordonref_SameStore [.sl (.list .int) f5, .sl (.list .int) f1] .bool fun c7 =>
 sel (!c7)
 (R (.bool false))
 (Call2 Tryz.prog f_store_Meet [.agg [.sl .var a0.vars, .sl .con a0.cons, .int .i64 a0.goal, .int .i64 a0.var], .sl (.list .int) a2, .sl (.list .int) a3] (.list (.list .int)) .int fun s8 s9 =>
 sel (!decide (s9 = 0))
 (R (.bool true))
 (Call1 Tryz.prog f_cordonref_HasFailed [.sl (.list .int) s8] .bool fun c10 =>
 sel c10
 (R (.bool true))
 (Call1 Tryz.prog f_cordonref_HasFailed [.sl (.list .int) a2] .bool fun c11 =>
 sel c11
 (R (.bool true))
 (Call2 Tryz.prog f_filter_Filter [.agg [.sl .var a0.vars, .sl .con a0.cons, .int .i64 a0.goal, .int .i64 a0.var], .int .i64 a1, .sl (.list .int) s8] (.list (.list .int)) .int fun f12 f13 =>
 sel (!decide (f13 = 0))
 (R (.bool false))
 (Call2 Tryz.prog f_store_Within [.agg [.sl .var a0.vars, .sl .con a0.cons, .int .i64 a0.goal, .int .i64 a0.var], .sl (.list .int) f12, .sl (.list .int) f1] .bool .int fun s14 s15 =>
 sel (decide (s15 = 0))
 (R (.bool s14))
 (R (.bool false)))))))))))) := by kernel_rfl
theorem cordonlaw_FilterAgain_sat {r : D} (a0 : MdlD) (a1 : Int) (a2 : List (List Int)) (a3 : List (List Int)) (h : (∀ d ∈ [.agg [.sl .var a0.vars, .sl .con a0.cons, .int .i64 a0.goal, .int .i64 a0.var], .int .i64 a1, .sl (.list .int) a2, .sl (.list .int) a3], okD d) → fnD Tryz.prog Ev cordonlaw_FilterAgain_A Tryz.f4.results.toList (bodyOf Tryz.f4) [.agg [.sl .var a0.vars, .sl .con a0.cons, .int .i64 a0.goal, .int .i64 a0.var], .int .i64 a1, .sl (.list .int) a2, .sl (.list .int) a3] fun d => d = r) : Sat Tryz.prog f_cordonlaw_FilterAgain [.agg [.sl .var a0.vars, .sl .con a0.cons, .int .i64 a0.goal, .int .i64 a0.var], .int .i64 a1, .sl (.list .int) a2, .sl (.list .int) a3] r := by
  have h2 := sat_of (r := r) (args := [.agg [.sl .var a0.vars, .sl .con a0.cons, .int .i64 a0.goal, .int .i64 a0.var], .int .i64 a1, .sl (.list .int) a2, .sl (.list .int) a3]) (A := cordonlaw_FilterAgain_A) (fn := Tryz.f4) (body := bodyOf Tryz.f4) (f := f_cordonlaw_FilterAgain) factsEv Tryz.func4 (by kernel_rfl) (by rw [Tryz.ntmps4]; rfl) (by rw [Tryz.ntmps4]; exact Nat.le_of_ble_eq_true rfl)
  with_reducible exact h2 h
/-! ### cordon/cordonlaw.filterBegun -/
def cordonlaw_filterBegun_A : Ann := { own := [], live := [], n := 20, nils := [], pubs := [] }
theorem cordonlaw_filterBegun_eq  (R : D → Prop) : fnD Tryz.prog Ev cordonlaw_filterBegun_A Tryz.f18.results.toList (bodyOf Tryz.f18) [] R =
 (Call1 Tryz.prog f_cordonlaw_two [] .mdl fun c1 =>
 Call2 Tryz.prog f_filter_Filter [.agg [.sl .var c1.vars, .sl .con c1.cons, .int .i64 c1.goal, .int .i64 c1.var], .int .i64 0, .sl (.list .int) ([[0, 1, 2], [0, 1, 2]])] (.list (.list .int)) .int fun f2 f3 =>
 sel (decide (f3 = 0))
 (Call1 Tryz.prog f_cordonref_SameStore [.sl (.list .int) f2, .sl (.list .int) ([[0, 1], [1, 2]])] .bool fun c4 =>
 R (.bool c4))
 (R (.bool false))) := by kernel_rfl
theorem cordonlaw_filterBegun_sat {r : D}  (h : (∀ d ∈ [], okD d) → fnD Tryz.prog Ev cordonlaw_filterBegun_A Tryz.f18.results.toList (bodyOf Tryz.f18) [] fun d => d = r) : Sat Tryz.prog f_cordonlaw_filterBegun [] r := by
  have h2 := sat_of (r := r) (args := []) (A := cordonlaw_filterBegun_A) (fn := Tryz.f18) (body := bodyOf Tryz.f18) (f := f_cordonlaw_filterBegun) factsEv Tryz.func18 (by kernel_rfl) (by rw [Tryz.ntmps18]; rfl) (by rw [Tryz.ntmps18]; exact Nat.le_of_ble_eq_true rfl)
  with_reducible exact h2 h
/-! ### cordon/cordonlaw.storeBegun -/
def cordonlaw_storeBegun_A : Ann := { own := [], live := [], n := 77, nils := [], pubs := [] }
theorem cordonlaw_storeBegun_eq  (R : D → Prop) : fnD Tryz.prog Ev cordonlaw_storeBegun_A Tryz.f20.results.toList (bodyOf Tryz.f20) [] R =
 (Call1 Tryz.prog f_cordonlaw_two [] .mdl fun c1 =>
 Call2 Tryz.prog f_store_Begin [.agg [.sl .var c1.vars, .sl .con c1.cons, .int .i64 c1.goal, .int .i64 c1.var]] (.list (.list .int)) .int fun s2 s3 =>
 Call1 Tryz.prog f_cordonlaw_two [] .mdl fun c4 =>
 Call2 Tryz.prog f_store_Meet [.agg [.sl .var c4.vars, .sl .con c4.cons, .int .i64 c4.goal, .int .i64 c4.var], .sl (.list .int) s2, .sl (.list .int) ([[1], [0, 2]])] (.list (.list .int)) .int fun s5 s6 =>
 Call1 Tryz.prog f_cordonlaw_two [] .mdl fun c7 =>
 Call2 Tryz.prog f_store_Within [.agg [.sl .var c7.vars, .sl .con c7.cons, .int .i64 c7.goal, .int .i64 c7.var], .sl (.list .int) s5, .sl (.list .int) s2] .bool .int fun s8 s9 =>
 Call1 Tryz.prog f_cordonlaw_two [] .mdl fun c10 =>
 Call2 Tryz.prog f_store_Failed [.agg [.sl .var c10.vars, .sl .con c10.cons, .int .i64 c10.goal, .int .i64 c10.var], .sl (.list .int) s2] .bool .int fun s11 s12 =>
 sel (decide (s3 = 0))
 (sel (decide (s6 = 0))
 (sel (decide (s9 = 0))
 (sel (decide (s12 = 0))
 (Call1 Tryz.prog f_cordonref_SameStore [.sl (.list .int) s2, .sl (.list .int) ([[0, 1, 2], [0, 1, 2]])] .bool fun c13 =>
 sel c13
 (Call1 Tryz.prog f_cordonref_SameStore [.sl (.list .int) s5, .sl (.list .int) ([[1], [0, 2]])] .bool fun c14 =>
 sel c14
 (sel s8
 (sel (!s11)
 (Call1 Tryz.prog f_cordonlaw_two [] .mdl fun c15 =>
 Call1 Tryz.prog f_store_Check [.agg [.sl .var c15.vars, .sl .con c15.cons, .int .i64 c15.goal, .int .i64 c15.var], .sl (.list .int) s5] .int fun s16 =>
 R (.bool (decide (s16 = 0))))
 (R (.bool false)))
 (R (.bool false)))
 (R (.bool false)))
 (R (.bool false)))
 (R (.bool false)))
 (R (.bool false)))
 (R (.bool false)))
 (R (.bool false))) := by kernel_rfl
theorem cordonlaw_storeBegun_sat {r : D}  (h : (∀ d ∈ [], okD d) → fnD Tryz.prog Ev cordonlaw_storeBegun_A Tryz.f20.results.toList (bodyOf Tryz.f20) [] fun d => d = r) : Sat Tryz.prog f_cordonlaw_storeBegun [] r := by
  have h2 := sat_of (r := r) (args := []) (A := cordonlaw_storeBegun_A) (fn := Tryz.f20) (body := bodyOf Tryz.f20) (f := f_cordonlaw_storeBegun) factsEv Tryz.func20 (by kernel_rfl) (by rw [Tryz.ntmps20]; rfl) (by rw [Tryz.ntmps20]; exact Nat.le_of_ble_eq_true rfl)
  with_reducible exact h2 h
/-! ### cordon/cordonlaw.two -/
def cordonlaw_two_A : Ann := { own := [0], live := [], n := 9, nils := [], pubs := [] }
theorem cordonlaw_two_eq  (R : D → Prop) : fnD Tryz.prog Ev cordonlaw_two_A Tryz.f63.results.toList (bodyOf Tryz.f63) [] R =
 (R (.agg [.sl .var ([(⟨(⟨#[120]⟩ : ByteArray), 0, 2⟩ : VarD), (⟨(⟨#[121]⟩ : ByteArray), 0, 2⟩ : VarD)]), .sl .con ([(⟨1, [0, 1], [1, -1], -1, ([] : List (List Int)), ([] : List LitD)⟩ : ConD)]), .int .i64 1, .int .i64 1])) := by kernel_rfl
theorem cordonlaw_two_sat {r : D}  (h : (∀ d ∈ [], okD d) → fnD Tryz.prog Ev cordonlaw_two_A Tryz.f63.results.toList (bodyOf Tryz.f63) [] fun d => d = r) : Sat Tryz.prog f_cordonlaw_two [] r := by
  have h2 := sat_of (r := r) (args := []) (A := cordonlaw_two_A) (fn := Tryz.f63) (body := bodyOf Tryz.f63) (f := f_cordonlaw_two) factsEv Tryz.func63 (by kernel_rfl) (by rw [Tryz.ntmps63]; rfl) (by rw [Tryz.ntmps63]; exact Nat.le_of_ble_eq_true rfl)
  with_reducible exact h2 h
end Go.Proofs.YtgnjdgafkjohaaaGreat
