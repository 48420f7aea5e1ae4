/- What the functions of a package do, as equations of plain propositions: printed by a program that carries the code out on symbols. -/
import Derived.Test.YtgnjdgafkjohaaaGreatWEv
namespace Go.Proofs.YtgnjdgafkjohaaaGreat
open Go.RowKit
set_option linter.unusedVariables false
set_option maxRecDepth 100000
/-! ### cordon/cordonlaw.FixTells -/
def cordonlaw_FixTells_A : Ann := { own := [], live := [], n := 84, nils := [], pubs := [] }
theorem cordonlaw_FixTells_eq (a0 : MdlD) (a1 : List (List Int)) (a2 : List (List LitD)) (R : D → Prop) : fnD Tryz.prog Ev cordonlaw_FixTells_A Tryz.f6.results.toList (bodyOf Tryz.f6) [.agg [.sl .var a0.vars, .sl .con a0.cons, .int .i64 a0.goal, .int .i64 a0.var], .sl (.list .int) a1, .sl (.list .lit) a2] R =
 (Call2 Tryz.prog f_fix_Cons [.agg [.sl .var a0.vars, .sl .con a0.cons, .int .i64 a0.goal, .int .i64 a0.var], .sl (.list .int) a1] (.list (.list .int)) .int fun f1 f2 =>
 Call2 Tryz.prog f_fix_Units [.agg [.sl .var a0.vars, .sl .con a0.cons, .int .i64 a0.goal, .int .i64 a0.var], .sl (.list .int) a1, .sl (.list .lit) a2] (.list (.list .int)) .int fun f3 f4 =>
 Call2 Tryz.prog f_fix_Both [.agg [.sl .var a0.vars, .sl .con a0.cons, .int .i64 a0.goal, .int .i64 a0.var], .sl (.list .int) a1, .sl (.list .lit) a2] (.list (.list .int)) .int fun f5 f6 =>
 Call1 Tryz.prog f_cordonlaw_checkStore [.agg [.sl .var a0.vars, .sl .con a0.cons, .int .i64 a0.goal, .int .i64 a0.var], .sl (.list .int) a1] .int fun c7 =>
 sel (decide (c7 = 0))
 (Call1 Tryz.prog f_cordonref_CheckClauses [.agg [.sl .var a0.vars, .sl .con a0.cons, .int .i64 a0.goal, .int .i64 a0.var], .sl (.list .lit) a2] .int fun c8 =>
 sel (decide (c7 = 0))
 (Call1 Tryz.prog f_cordonref_FixOf [.agg [.sl .var a0.vars, .sl .con a0.cons, .int .i64 a0.goal, .int .i64 a0.var], .sl (.list .int) a1, .bool true, .sl (.list .lit) ([] : List (List LitD))] (.list (.list .int)) fun c9 =>
 sel (decide (c8 = 0))
 (Call1 Tryz.prog f_cordonref_FixOf [.agg [.sl .var a0.vars, .sl .con a0.cons, .int .i64 a0.goal, .int .i64 a0.var], .sl (.list .int) a1, .bool false, .sl (.list .lit) a2] (.list (.list .int)) fun c10 =>
 Call1 Tryz.prog f_cordonref_FixOf [.agg [.sl .var a0.vars, .sl .con a0.cons, .int .i64 a0.goal, .int .i64 a0.var], .sl (.list .int) a1, .bool true, .sl (.list .lit) a2] (.list (.list .int)) fun c11 =>
 Call1 Tryz.prog f_cordonlaw_fixBegun [] .bool fun c12 =>
 sel c12
 (Call1 Tryz.prog f_cordonlaw_storeIs [.sl (.list .int) f1, .int .i64 f2, .int .i64 c7, .sl (.list .int) c9] .bool fun c13 =>
 sel c13
 (Call1 Tryz.prog f_cordonlaw_storeIs [.sl (.list .int) f3, .int .i64 f4, .int .i64 c8, .sl (.list .int) c10] .bool fun c14 =>
 sel c14
 (Call1 Tryz.prog f_cordonlaw_storeIs [.sl (.list .int) f5, .int .i64 f6, .int .i64 c8, .sl (.list .int) c11] .bool fun c15 =>
 R (.bool c15))
 (R (.bool false)))
 (R (.bool false)))
 (R (.bool false)))
 (Call1 Tryz.prog f_cordonlaw_fixBegun [] .bool fun c16 =>
 sel c16
 (Call1 Tryz.prog f_cordonlaw_storeIs [.sl (.list .int) f1, .int .i64 f2, .int .i64 c7, .sl (.list .int) c9] .bool fun c17 =>
 sel c17
 (Call1 Tryz.prog f_cordonlaw_storeIs [.sl (.list .int) f3, .int .i64 f4, .int .i64 c8, .sl (.list .int) ([] : List (List Int))] .bool fun c18 =>
 sel c18
 (Call1 Tryz.prog f_cordonlaw_storeIs [.sl (.list .int) f5, .int .i64 f6, .int .i64 c8, .sl (.list .int) ([] : List (List Int))] .bool fun c19 =>
 R (.bool c19))
 (R (.bool false)))
 (R (.bool false)))
 (R (.bool false))))
 (sel (decide (c8 = 0))
 (Call1 Tryz.prog f_cordonref_FixOf [.agg [.sl .var a0.vars, .sl .con a0.cons, .int .i64 a0.goal, .int .i64 a0.var], .sl (.list .int) a1, .bool false, .sl (.list .lit) a2] (.list (.list .int)) fun c20 =>
 Call1 Tryz.prog f_cordonref_FixOf [.agg [.sl .var a0.vars, .sl .con a0.cons, .int .i64 a0.goal, .int .i64 a0.var], .sl (.list .int) a1, .bool true, .sl (.list .lit) a2] (.list (.list .int)) fun c21 =>
 Call1 Tryz.prog f_cordonlaw_fixBegun [] .bool fun c22 =>
 sel c22
 (Call1 Tryz.prog f_cordonlaw_storeIs [.sl (.list .int) f1, .int .i64 f2, .int .i64 c7, .sl (.list .int) ([] : List (List Int))] .bool fun c23 =>
 sel c23
 (Call1 Tryz.prog f_cordonlaw_storeIs [.sl (.list .int) f3, .int .i64 f4, .int .i64 c8, .sl (.list .int) c20] .bool fun c24 =>
 sel c24
 (Call1 Tryz.prog f_cordonlaw_storeIs [.sl (.list .int) f5, .int .i64 f6, .int .i64 c8, .sl (.list .int) c21] .bool fun c25 =>
 R (.bool c25))
 (R (.bool false)))
 (R (.bool false)))
 (R (.bool false)))
 (Call1 Tryz.prog f_cordonlaw_fixBegun [] .bool fun c26 =>
 sel c26
 (Call1 Tryz.prog f_cordonlaw_storeIs [.sl (.list .int) f1, .int .i64 f2, .int .i64 c7, .sl (.list .int) ([] : List (List Int))] .bool fun c27 =>
 sel c27
 (Call1 Tryz.prog f_cordonlaw_storeIs [.sl (.list .int) f3, .int .i64 f4, .int .i64 c8, .sl (.list .int) ([] : List (List Int))] .bool fun c28 =>
 sel c28
 (Call1 Tryz.prog f_cordonlaw_storeIs [.sl (.list .int) f5, .int .i64 f6, .int .i64 c8, .sl (.list .int) ([] : List (List Int))] .bool fun c29 =>
 R (.bool c29))
 (R (.bool false)))
 (R (.bool false)))
 (R (.bool false)))))
 (sel (decide (c7 = 0))
 (Call1 Tryz.prog f_cordonref_FixOf [.agg [.sl .var a0.vars, .sl .con a0.cons, .int .i64 a0.goal, .int .i64 a0.var], .sl (.list .int) a1, .bool true, .sl (.list .lit) ([] : List (List LitD))] (.list (.list .int)) fun c30 =>
 sel (decide (c7 = 0))
 (Call1 Tryz.prog f_cordonref_FixOf [.agg [.sl .var a0.vars, .sl .con a0.cons, .int .i64 a0.goal, .int .i64 a0.var], .sl (.list .int) a1, .bool false, .sl (.list .lit) a2] (.list (.list .int)) fun c31 =>
 Call1 Tryz.prog f_cordonref_FixOf [.agg [.sl .var a0.vars, .sl .con a0.cons, .int .i64 a0.goal, .int .i64 a0.var], .sl (.list .int) a1, .bool true, .sl (.list .lit) a2] (.list (.list .int)) fun c32 =>
 Call1 Tryz.prog f_cordonlaw_fixBegun [] .bool fun c33 =>
 sel c33
 (Call1 Tryz.prog f_cordonlaw_storeIs [.sl (.list .int) f1, .int .i64 f2, .int .i64 c7, .sl (.list .int) c30] .bool fun c34 =>
 sel c34
 (Call1 Tryz.prog f_cordonlaw_storeIs [.sl (.list .int) f3, .int .i64 f4, .int .i64 c7, .sl (.list .int) c31] .bool fun c35 =>
 sel c35
 (Call1 Tryz.prog f_cordonlaw_storeIs [.sl (.list .int) f5, .int .i64 f6, .int .i64 c7, .sl (.list .int) c32] .bool fun c36 =>
 R (.bool c36))
 (R (.bool false)))
 (R (.bool false)))
 (R (.bool false)))
 (Call1 Tryz.prog f_cordonlaw_fixBegun [] .bool fun c37 =>
 sel c37
 (Call1 Tryz.prog f_cordonlaw_storeIs [.sl (.list .int) f1, .int .i64 f2, .int .i64 c7, .sl (.list .int) c30] .bool fun c38 =>
 sel c38
 (Call1 Tryz.prog f_cordonlaw_storeIs [.sl (.list .int) f3, .int .i64 f4, .int .i64 c7, .sl (.list .int) ([] : List (List Int))] .bool fun c39 =>
 sel c39
 (Call1 Tryz.prog f_cordonlaw_storeIs [.sl (.list .int) f5, .int .i64 f6, .int .i64 c7, .sl (.list .int) ([] : List (List Int))] .bool fun c40 =>
 R (.bool c40))
 (R (.bool false)))
 (R (.bool false)))
 (R (.bool false))))
 (sel (decide (c7 = 0))
 (Call1 Tryz.prog f_cordonref_FixOf [.agg [.sl .var a0.vars, .sl .con a0.cons, .int .i64 a0.goal, .int .i64 a0.var], .sl (.list .int) a1, .bool false, .sl (.list .lit) a2] (.list (.list .int)) fun c41 =>
 Call1 Tryz.prog f_cordonref_FixOf [.agg [.sl .var a0.vars, .sl .con a0.cons, .int .i64 a0.goal, .int .i64 a0.var], .sl (.list .int) a1, .bool true, .sl (.list .lit) a2] (.list (.list .int)) fun c42 =>
 Call1 Tryz.prog f_cordonlaw_fixBegun [] .bool fun c43 =>
 sel c43
 (Call1 Tryz.prog f_cordonlaw_storeIs [.sl (.list .int) f1, .int .i64 f2, .int .i64 c7, .sl (.list .int) ([] : List (List Int))] .bool fun c44 =>
 sel c44
 (Call1 Tryz.prog f_cordonlaw_storeIs [.sl (.list .int) f3, .int .i64 f4, .int .i64 c7, .sl (.list .int) c41] .bool fun c45 =>
 sel c45
 (Call1 Tryz.prog f_cordonlaw_storeIs [.sl (.list .int) f5, .int .i64 f6, .int .i64 c7, .sl (.list .int) c42] .bool fun c46 =>
 R (.bool c46))
 (R (.bool false)))
 (R (.bool false)))
 (R (.bool false)))
 (Call1 Tryz.prog f_cordonlaw_fixBegun [] .bool fun c47 =>
 sel c47
 (Call1 Tryz.prog f_cordonlaw_storeIs [.sl (.list .int) f1, .int .i64 f2, .int .i64 c7, .sl (.list .int) ([] : List (List Int))] .bool fun c48 =>
 sel c48
 (Call1 Tryz.prog f_cordonlaw_storeIs [.sl (.list .int) f3, .int .i64 f4, .int .i64 c7, .sl (.list .int) ([] : List (List Int))] .bool fun c49 =>
 sel c49
 (Call1 Tryz.prog f_cordonlaw_storeIs [.sl (.list .int) f5, .int .i64 f6, .int .i64 c7, .sl (.list .int) ([] : List (List Int))] .bool fun c50 =>
 R (.bool c50))
 (R (.bool false)))
 (R (.bool false)))
 (R (.bool false)))))) := by kernel_rfl
theorem cordonlaw_FixTells_sat {r : D} (a0 : MdlD) (a1 : List (List Int)) (a2 : List (List LitD)) (h : (∀ d ∈ [.agg [.sl .var a0.vars, .sl .con a0.cons, .int .i64 a0.goal, .int .i64 a0.var], .sl (.list .int) a1, .sl (.list .lit) a2], okD d) → fnD Tryz.prog Ev cordonlaw_FixTells_A Tryz.f6.results.toList (bodyOf Tryz.f6) [.agg [.sl .var a0.vars, .sl .con a0.cons, .int .i64 a0.goal, .int .i64 a0.var], .sl (.list .int) a1, .sl (.list .lit) a2] fun d => d = r) : Sat Tryz.prog f_cordonlaw_FixTells [.agg [.sl .var a0.vars, .sl .con a0.cons, .int .i64 a0.goal, .int .i64 a0.var], .sl (.list .int) a1, .sl (.list .lit) a2] r := by
  have h2 := sat_of (r := r) (args := [.agg [.sl .var a0.vars, .sl .con a0.cons, .int .i64 a0.goal, .int .i64 a0.var], .sl (.list .int) a1, .sl (.list .lit) a2]) (A := cordonlaw_FixTells_A) (fn := Tryz.f6) (body := bodyOf Tryz.f6) (f := f_cordonlaw_FixTells) factsEv Tryz.func6 (by kernel_rfl) (by rw [Tryz.ntmps6]; rfl) (by rw [Tryz.ntmps6]; exact Nat.le_of_ble_eq_true rfl)
  with_reducible exact h2 h
/-! ### cordon/cordonlaw.checkStore -/
def cordonlaw_checkStore_A : Ann := { own := [], live := [], n := 14, nils := [], pubs := [] }
theorem cordonlaw_checkStore_eq (a0 : MdlD) (a1 : List (List Int)) (R : D → Prop) : fnD Tryz.prog Ev cordonlaw_checkStore_A Tryz.f16.results.toList (bodyOf Tryz.f16) [.agg [.sl .var a0.vars, .sl .con a0.cons, .int .i64 a0.goal, .int .i64 a0.var], .sl (.list .int) a1] R =
 (Call1 Tryz.prog f_cordonref_CheckModel [.agg [.sl .var a0.vars, .sl .con a0.cons, .int .i64 a0.goal, .int .i64 a0.var]] .int fun c1 =>
 sel (decide (c1 = 0))
 (Call1 Tryz.prog f_cordonref_CheckStore [.agg [.sl .var a0.vars, .sl .con a0.cons, .int .i64 a0.goal, .int .i64 a0.var], .sl (.list .int) a1] .int fun c2 =>
 R (.int .i64 c2))
 (R (.int .i64 c1))) := by kernel_rfl
theorem cordonlaw_checkStore_sat {r : D} (a0 : MdlD) (a1 : List (List Int)) (h : (∀ d ∈ [.agg [.sl .var a0.vars, .sl .con a0.cons, .int .i64 a0.goal, .int .i64 a0.var], .sl (.list .int) a1], okD d) → fnD Tryz.prog Ev cordonlaw_checkStore_A Tryz.f16.results.toList (bodyOf Tryz.f16) [.agg [.sl .var a0.vars, .sl .con a0.cons, .int .i64 a0.goal, .int .i64 a0.var], .sl (.list .int) a1] fun d => d = r) : Sat Tryz.prog f_cordonlaw_checkStore [.agg [.sl .var a0.vars, .sl .con a0.cons, .int .i64 a0.goal, .int .i64 a0.var], .sl (.list .int) a1] r := by
  have h2 := sat_of (r := r) (args := [.agg [.sl .var a0.vars, .sl .con a0.cons, .int .i64 a0.goal, .int .i64 a0.var], .sl (.list .int) a1]) (A := cordonlaw_checkStore_A) (fn := Tryz.f16) (body := bodyOf Tryz.f16) (f := f_cordonlaw_checkStore) factsEv Tryz.func16 (by kernel_rfl) (by rw [Tryz.ntmps16]; rfl) (by rw [Tryz.ntmps16]; exact Nat.le_of_ble_eq_true rfl)
  with_reducible exact h2 h
/-! ### cordon/cordonlaw.storeIs -/
def cordonlaw_storeIs_A : Ann := { own := [], live := [], n := 19, nils := [], pubs := [] }
theorem cordonlaw_storeIs_eq (a0 : List (List Int)) (a1 : Int) (a2 : Int) (a3 : List (List Int)) (R : D → Prop) : fnD Tryz.prog Ev cordonlaw_storeIs_A Tryz.f19.results.toList (bodyOf Tryz.f19) [.sl (.list .int) a0, .int .i64 a1, .int .i64 a2, .sl (.list .int) a3] R =
 (sel (!decide (a2 = 0))
 (sel (decide (a1 = a2))
 (Call1 Tryz.prog f_cordonref_SameStore [.sl (.list .int) a0, .sl (.list .int) ([] : List (List Int))] .bool fun c1 =>
 R (.bool c1))
 (R (.bool false)))
 (sel (decide (a1 = a2))
 (Call1 Tryz.prog f_cordonref_SameStore [.sl (.list .int) a0, .sl (.list .int) a3] .bool fun c2 =>
 R (.bool c2))
 (R (.bool false)))) := by kernel_rfl
theorem cordonlaw_storeIs_sat {r : D} (a0 : List (List Int)) (a1 : Int) (a2 : Int) (a3 : List (List Int)) (h : (∀ d ∈ [.sl (.list .int) a0, .int .i64 a1, .int .i64 a2, .sl (.list .int) a3], okD d) → fnD Tryz.prog Ev cordonlaw_storeIs_A Tryz.f19.results.toList (bodyOf Tryz.f19) [.sl (.list .int) a0, .int .i64 a1, .int .i64 a2, .sl (.list .int) a3] fun d => d = r) : Sat Tryz.prog f_cordonlaw_storeIs [.sl (.list .int) a0, .int .i64 a1, .int .i64 a2, .sl (.list .int) a3] r := by
  have h2 := sat_of (r := r) (args := [.sl (.list .int) a0, .int .i64 a1, .int .i64 a2, .sl (.list .int) a3]) (A := cordonlaw_storeIs_A) (fn := Tryz.f19) (body := bodyOf Tryz.f19) (f := f_cordonlaw_storeIs) factsEv Tryz.func19 (by kernel_rfl) (by rw [Tryz.ntmps19]; rfl) (by rw [Tryz.ntmps19]; exact Nat.le_of_ble_eq_true rfl)
  with_reducible exact h2 h
/-! ### cordon/cordonlaw.fixBegun -/
def cordonlaw_fixBegun_A : Ann := { own := [], live := [], n := 66, nils := [], pubs := [] }
theorem cordonlaw_fixBegun_eq  (R : D → Prop) : fnD Tryz.prog Ev cordonlaw_fixBegun_A Tryz.f33.results.toList (bodyOf Tryz.f33) [] R =
 (Call1 Tryz.prog f_cordonlaw_two [] .mdl fun c1 =>
 Call2 Tryz.prog f_fix_Cons [.agg [.sl .var c1.vars, .sl .con c1.cons, .int .i64 c1.goal, .int .i64 c1.var], .sl (.list .int) ([[0, 1, 2], [0, 1, 2]])] (.list (.list .int)) .int fun f2 f3 =>
 Call1 Tryz.prog f_cordonlaw_two [] .mdl fun c4 =>
 Call2 Tryz.prog f_fix_Units [.agg [.sl .var c4.vars, .sl .con c4.cons, .int .i64 c4.goal, .int .i64 c4.var], .sl (.list .int) ([[0, 1, 2], [0, 1, 2]]), .sl (.list .lit) ([[(⟨1, 1, 1⟩ : LitD)]])] (.list (.list .int)) .int fun f5 f6 =>
 Call1 Tryz.prog f_cordonlaw_two [] .mdl fun c7 =>
 Call2 Tryz.prog f_fix_Both [.agg [.sl .var c7.vars, .sl .con c7.cons, .int .i64 c7.goal, .int .i64 c7.var], .sl (.list .int) ([[0, 1, 2], [0, 1, 2]]), .sl (.list .lit) ([[(⟨1, 1, 1⟩ : LitD)]])] (.list (.list .int)) .int fun f8 f9 =>
 sel (decide (f3 = 0))
 (sel (decide (f6 = 0))
 (sel (decide (f9 = 0))
 (Call1 Tryz.prog f_cordonref_SameStore [.sl (.list .int) f2, .sl (.list .int) ([[0, 1], [1, 2]])] .bool fun c10 =>
 sel c10
 (Call1 Tryz.prog f_cordonref_SameStore [.sl (.list .int) f5, .sl (.list .int) ([[0, 1, 2], [0, 1]])] .bool fun c11 =>
 sel c11
 (Call1 Tryz.prog f_cordonref_SameStore [.sl (.list .int) f8, .sl (.list .int) ([[0], [1]])] .bool fun c12 =>
 R (.bool c12))
 (R (.bool false)))
 (R (.bool false)))
 (R (.bool false)))
 (R (.bool false)))
 (R (.bool false))) := by kernel_rfl
theorem cordonlaw_fixBegun_sat {r : D}  (h : (∀ d ∈ [], okD d) → fnD Tryz.prog Ev cordonlaw_fixBegun_A Tryz.f33.results.toList (bodyOf Tryz.f33) [] fun d => d = r) : Sat Tryz.prog f_cordonlaw_fixBegun [] r := by
  have h2 := sat_of (r := r) (args := []) (A := cordonlaw_fixBegun_A) (fn := Tryz.f33) (body := bodyOf Tryz.f33) (f := f_cordonlaw_fixBegun) factsEv Tryz.func33 (by kernel_rfl) (by rw [Tryz.ntmps33]; rfl) (by rw [Tryz.ntmps33]; exact Nat.le_of_ble_eq_true rfl)
  with_reducible exact h2 h
/-! ### cordon/cordonlaw.two -/
def cordonlaw_two_A : Ann := { own := [0], live := [], n := 9, nils := [], pubs := [] }
theorem cordonlaw_two_eq  (R : D → Prop) : fnD Tryz.prog Ev cordonlaw_two_A Tryz.f63.results.toList (bodyOf Tryz.f63) [] R =
 (R (.agg [.sl .var ([(⟨(⟨#[120]⟩ : ByteArray), 0, 2⟩ : VarD), (⟨(⟨#[121]⟩ : ByteArray), 0, 2⟩ : VarD)]), .sl .con ([(⟨1, [0, 1], [1, -1], -1, ([] : List (List Int)), ([] : List LitD)⟩ : ConD)]), .int .i64 1, .int .i64 1])) := by kernel_rfl
theorem cordonlaw_two_sat {r : D}  (h : (∀ d ∈ [], okD d) → fnD Tryz.prog Ev cordonlaw_two_A Tryz.f63.results.toList (bodyOf Tryz.f63) [] fun d => d = r) : Sat Tryz.prog f_cordonlaw_two [] r := by
  have h2 := sat_of (r := r) (args := []) (A := cordonlaw_two_A) (fn := Tryz.f63) (body := bodyOf Tryz.f63) (f := f_cordonlaw_two) factsEv Tryz.func63 (by kernel_rfl) (by rw [Tryz.ntmps63]; rfl) (by rw [Tryz.ntmps63]; exact Nat.le_of_ble_eq_true rfl)
  with_reducible exact h2 h
end Go.Proofs.YtgnjdgafkjohaaaGreat
