/- What the functions of a package do, as equations of plain propositions: printed by a program that carries the code out on symbols. -/
import Derived.Test.YtgnjdgafkjohaaaGreatWEv
namespace Go.Proofs.YtgnjdgafkjohaaaGreat
open Go.RowKit
set_option linter.unusedVariables false
set_option maxRecDepth 100000
/-! ### cordon/cordonlaw.FilterKeeps -/
def cordonlaw_FilterKeeps_A : Ann := { own := [], live := [], n := 72, nils := [], pubs := [] }
theorem cordonlaw_FilterKeeps_eq (a0 : MdlD) (a1 : Int) (a2 : List (List Int)) (a3 : List Int) (R : D → Prop) : fnD Tryz.prog Ev cordonlaw_FilterKeeps_A Tryz.f5.results.toList (bodyOf Tryz.f5) [.agg [.sl .var a0.vars, .sl .con a0.cons, .int .i64 a0.goal, .int .i64 a0.var], .int .i64 a1, .sl (.list .int) a2, .sl .int a3] R =
 (Call2 Tryz.prog f_filter_Filter [.agg [.sl .var a0.vars, .sl .con a0.cons, .int .i64 a0.goal, .int .i64 a0.var], .int .i64 a1, .sl (.list .int) a2] (.list (.list .int)) .int fun f1 f2 =>
 Call1 Tryz.prog f_cordonlaw_filterBegun [] .bool fun c3 =>
 sel (!c3)
 (R (.bool false))
 (Call1 Tryz.prog f_cordonlaw_modelBegun [] .bool fun c4 =>
 sel (!c4)
 (R (.bool false))
 (Call1 Tryz.prog f_cordonlaw_storeBegun [] .bool fun c5 =>
 sel (!c5)
 (R (.bool false))
 (sel (!decide (f2 = 0))
 (R (.bool (decide ((f1.length : Int) = 0))))
 (Call2 Tryz.prog f_store_Within [.agg [.sl .var a0.vars, .sl .con a0.cons, .int .i64 a0.goal, .int .i64 a0.var], .sl (.list .int) f1, .sl (.list .int) a2] .bool .int fun s6 s7 =>
 sel (!decide (s7 = 0))
 (R (.bool false))
 (sel (!s6)
 (R (.bool false))
 (Call2 Tryz.prog f_model_Holds [.agg [.sl .var a0.vars, .sl .con a0.cons, .int .i64 a0.goal, .int .i64 a0.var], .int .i64 a1, .sl .int a3] .bool .int fun m8 m9 =>
 sel (!decide (m9 = 0))
 (R (.bool true))
 (sel (!m8)
 (R (.bool true))
 (Call1 Tryz.prog f_cordonlaw_has [.sl (.list .int) a2, .sl .int a3] .bool fun c10 =>
 sel (!c10)
 (R (.bool true))
 (Call1 Tryz.prog f_cordonlaw_has [.sl (.list .int) f1, .sl .int a3] .bool fun c11 =>
 R (.bool c11))))))))))) := by kernel_rfl
theorem cordonlaw_FilterKeeps_sat {r : D} (a0 : MdlD) (a1 : Int) (a2 : List (List Int)) (a3 : List Int) (h : (∀ d ∈ [.agg [.sl .var a0.vars, .sl .con a0.cons, .int .i64 a0.goal, .int .i64 a0.var], .int .i64 a1, .sl (.list .int) a2, .sl .int a3], okD d) → fnD Tryz.prog Ev cordonlaw_FilterKeeps_A Tryz.f5.results.toList (bodyOf Tryz.f5) [.agg [.sl .var a0.vars, .sl .con a0.cons, .int .i64 a0.goal, .int .i64 a0.var], .int .i64 a1, .sl (.list .int) a2, .sl .int a3] fun d => d = r) : Sat Tryz.prog f_cordonlaw_FilterKeeps [.agg [.sl .var a0.vars, .sl .con a0.cons, .int .i64 a0.goal, .int .i64 a0.var], .int .i64 a1, .sl (.list .int) a2, .sl .int a3] r := by
  have h2 := sat_of (r := r) (args := [.agg [.sl .var a0.vars, .sl .con a0.cons, .int .i64 a0.goal, .int .i64 a0.var], .int .i64 a1, .sl (.list .int) a2, .sl .int a3]) (A := cordonlaw_FilterKeeps_A) (fn := Tryz.f5) (body := bodyOf Tryz.f5) (f := f_cordonlaw_FilterKeeps) factsEv Tryz.func5 (by kernel_rfl) (by rw [Tryz.ntmps5]; rfl) (by rw [Tryz.ntmps5]; exact Nat.le_of_ble_eq_true rfl)
  with_reducible exact h2 h
/-! ### cordon/cordonlaw.filterBegun -/
def cordonlaw_filterBegun_A : Ann := { own := [], live := [], n := 20, nils := [], pubs := [] }
theorem cordonlaw_filterBegun_eq  (R : D → Prop) : fnD Tryz.prog Ev cordonlaw_filterBegun_A Tryz.f18.results.toList (bodyOf Tryz.f18) [] R =
 (Call1 Tryz.prog f_cordonlaw_two [] .mdl fun c1 =>
 Call2 Tryz.prog f_filter_Filter [.agg [.sl .var c1.vars, .sl .con c1.cons, .int .i64 c1.goal, .int .i64 c1.var], .int .i64 0, .sl (.list .int) ([[0, 1, 2], [0, 1, 2]])] (.list (.list .int)) .int fun f2 f3 =>
 sel (decide (f3 = 0))
 (Call1 Tryz.prog f_cordonref_SameStore [.sl (.list .int) f2, .sl (.list .int) ([[0, 1], [1, 2]])] .bool fun c4 =>
 R (.bool c4))
 (R (.bool false))) := by kernel_rfl
theorem cordonlaw_filterBegun_sat {r : D}  (h : (∀ d ∈ [], okD d) → fnD Tryz.prog Ev cordonlaw_filterBegun_A Tryz.f18.results.toList (bodyOf Tryz.f18) [] fun d => d = r) : Sat Tryz.prog f_cordonlaw_filterBegun [] r := by
  have h2 := sat_of (r := r) (args := []) (A := cordonlaw_filterBegun_A) (fn := Tryz.f18) (body := bodyOf Tryz.f18) (f := f_cordonlaw_filterBegun) factsEv Tryz.func18 (by kernel_rfl) (by rw [Tryz.ntmps18]; rfl) (by rw [Tryz.ntmps18]; exact Nat.le_of_ble_eq_true rfl)
  with_reducible exact h2 h
/-! ### cordon/cordonlaw.storeBegun -/
def cordonlaw_storeBegun_A : Ann := { own := [], live := [], n := 77, nils := [], pubs := [] }
theorem cordonlaw_storeBegun_eq  (R : D → Prop) : fnD Tryz.prog Ev cordonlaw_storeBegun_A Tryz.f20.results.toList (bodyOf Tryz.f20) [] R =
 (Call1 Tryz.prog f_cordonlaw_two [] .mdl fun c1 =>
 Call2 Tryz.prog f_store_Begin [.agg [.sl .var c1.vars, .sl .con c1.cons, .int .i64 c1.goal, .int .i64 c1.var]] (.list (.list .int)) .int fun s2 s3 =>
 Call1 Tryz.prog f_cordonlaw_two [] .mdl fun c4 =>
 Call2 Tryz.prog f_store_Meet [.agg [.sl .var c4.vars, .sl .con c4.cons, .int .i64 c4.goal, .int .i64 c4.var], .sl (.list .int) s2, .sl (.list .int) ([[1], [0, 2]])] (.list (.list .int)) .int fun s5 s6 =>
 Call1 Tryz.prog f_cordonlaw_two [] .mdl fun c7 =>
 Call2 Tryz.prog f_store_Within [.agg [.sl .var c7.vars, .sl .con c7.cons, .int .i64 c7.goal, .int .i64 c7.var], .sl (.list .int) s5, .sl (.list .int) s2] .bool .int fun s8 s9 =>
 Call1 Tryz.prog f_cordonlaw_two [] .mdl fun c10 =>
 Call2 Tryz.prog f_store_Failed [.agg [.sl .var c10.vars, .sl .con c10.cons, .int .i64 c10.goal, .int .i64 c10.var], .sl (.list .int) s2] .bool .int fun s11 s12 =>
 sel (decide (s3 = 0))
 (sel (decide (s6 = 0))
 (sel (decide (s9 = 0))
 (sel (decide (s12 = 0))
 (Call1 Tryz.prog f_cordonref_SameStore [.sl (.list .int) s2, .sl (.list .int) ([[0, 1, 2], [0, 1, 2]])] .bool fun c13 =>
 sel c13
 (Call1 Tryz.prog f_cordonref_SameStore [.sl (.list .int) s5, .sl (.list .int) ([[1], [0, 2]])] .bool fun c14 =>
 sel c14
 (sel s8
 (sel (!s11)
 (Call1 Tryz.prog f_cordonlaw_two [] .mdl fun c15 =>
 Call1 Tryz.prog f_store_Check [.agg [.sl .var c15.vars, .sl .con c15.cons, .int .i64 c15.goal, .int .i64 c15.var], .sl (.list .int) s5] .int fun s16 =>
 R (.bool (decide (s16 = 0))))
 (R (.bool false)))
 (R (.bool false)))
 (R (.bool false)))
 (R (.bool false)))
 (R (.bool false)))
 (R (.bool false)))
 (R (.bool false)))
 (R (.bool false))) := by kernel_rfl
theorem cordonlaw_storeBegun_sat {r : D}  (h : (∀ d ∈ [], okD d) → fnD Tryz.prog Ev cordonlaw_storeBegun_A Tryz.f20.results.toList (bodyOf Tryz.f20) [] fun d => d = r) : Sat Tryz.prog f_cordonlaw_storeBegun [] r := by
  have h2 := sat_of (r := r) (args := []) (A := cordonlaw_storeBegun_A) (fn := Tryz.f20) (body := bodyOf Tryz.f20) (f := f_cordonlaw_storeBegun) factsEv Tryz.func20 (by kernel_rfl) (by rw [Tryz.ntmps20]; rfl) (by rw [Tryz.ntmps20]; exact Nat.le_of_ble_eq_true rfl)
  with_reducible exact h2 h
/-! ### cordon/cordonlaw.modelBegun -/
def cordonlaw_modelBegun_A : Ann := { own := [], live := [], n := 51, nils := [], pubs := [] }
theorem cordonlaw_modelBegun_eq  (R : D → Prop) : fnD Tryz.prog Ev cordonlaw_modelBegun_A Tryz.f25.results.toList (bodyOf Tryz.f25) [] R =
 (Call1 Tryz.prog f_cordonlaw_two [] .mdl fun c1 =>
 Call2 Tryz.prog f_model_Holds [.agg [.sl .var c1.vars, .sl .con c1.cons, .int .i64 c1.goal, .int .i64 c1.var], .int .i64 0, .sl .int ([0, 1])] .bool .int fun m2 m3 =>
 Call1 Tryz.prog f_cordonlaw_two [] .mdl fun c4 =>
 Call2 Tryz.prog f_model_All [.agg [.sl .var c4.vars, .sl .con c4.cons, .int .i64 c4.goal, .int .i64 c4.var], .sl .int ([2, 1])] .bool .int fun m5 m6 =>
 Call1 Tryz.prog f_cordonlaw_two [] .mdl fun c7 =>
 Call2 Tryz.prog f_model_Scope [.agg [.sl .var c7.vars, .sl .con c7.cons, .int .i64 c7.goal, .int .i64 c7.var], .int .i64 0] (.list .int) .int fun m8 m9 =>
 Call1 Tryz.prog f_cordonlaw_two [] .mdl fun c10 =>
 Call1 Tryz.prog f_model_Check [.agg [.sl .var c10.vars, .sl .con c10.cons, .int .i64 c10.goal, .int .i64 c10.var]] .int fun m11 =>
 sel (decide (m11 = 0))
 (sel (decide (m3 = 0))
 (sel (decide (m6 = 0))
 (sel (decide (m9 = 0))
 (sel m2
 (sel (!m5)
 (Call1 Tryz.prog f_cordonref_SameInts [.sl .int m8, .sl .int ([0, 1])] .bool fun c12 =>
 R (.bool c12))
 (R (.bool false)))
 (R (.bool false)))
 (R (.bool false)))
 (R (.bool false)))
 (R (.bool false)))
 (R (.bool false))) := by kernel_rfl
theorem cordonlaw_modelBegun_sat {r : D}  (h : (∀ d ∈ [], okD d) → fnD Tryz.prog Ev cordonlaw_modelBegun_A Tryz.f25.results.toList (bodyOf Tryz.f25) [] fun d => d = r) : Sat Tryz.prog f_cordonlaw_modelBegun [] r := by
  have h2 := sat_of (r := r) (args := []) (A := cordonlaw_modelBegun_A) (fn := Tryz.f25) (body := bodyOf Tryz.f25) (f := f_cordonlaw_modelBegun) factsEv Tryz.func25 (by kernel_rfl) (by rw [Tryz.ntmps25]; rfl) (by rw [Tryz.ntmps25]; exact Nat.le_of_ble_eq_true rfl)
  with_reducible exact h2 h
/-! ### cordon/cordonlaw.has -/
def cordonlaw_has_A : Ann := { own := [], live := [(0, ([0, 1, 5], []))], n := 27, nils := [], pubs := [] }
def cordonlaw_has_I0 (a0 : List (List Int)) (a1 : List Int) (R : D → Prop) (n0 : Nat) (i1 : Int) : Prop := iter (den Tryz.prog Ev cordonlaw_has_A (sub [1, 1, 0, 1, 0, 0] (bodyOf Tryz.f27)) 0) cordonlaw_has_A (liveOf cordonlaw_has_A 0) n0 ⟨[(0, .sl (.list .int) a0), (1, .sl .int a1), (5, .int .i64 i1)], []⟩ (blockK 0 (seqK Tryz.prog Ev cordonlaw_has_A (sub [1, 1, 1] (bodyOf Tryz.f27)) 0 (endK Ev Tryz.f27.results.toList R)))
theorem cordonlaw_has_I0_eq (a0 : List (List Int)) (a1 : List Int) (R : D → Prop) (n0 : Nat) (i1 : Int) : cordonlaw_has_I0 a0 a1 R (n0 + 1) i1 =
 (sel (decide (i1 < (a0.length : Int)))
 (inb i1 a0.length = true ∧
 inb i1 a1.length = true ∧
 Call1 Tryz.prog f_cordonref_HasInt [.sl .int (at' (.list .int) a0 i1.toNat), .int .i64 (at' .int a1 i1.toNat)] .bool fun c2 =>
 sel (!c2)
 (R (.bool false))
 (cordonlaw_has_I0 a0 a1 R n0 (w64 (i1 + 1))))
 (R (.bool true))) := by kernel_rfl
theorem cordonlaw_has_eq (a0 : List (List Int)) (a1 : List Int) (R : D → Prop) : fnD Tryz.prog Ev cordonlaw_has_A Tryz.f27.results.toList (bodyOf Tryz.f27) [.sl (.list .int) a0, .sl .int a1] R =
 (sel (!decide ((a0.length : Int) = (a1.length : Int)))
 (R (.bool false))
 (∃ n0, cordonlaw_has_I0 a0 a1 R n0 0)) := by kernel_rfl
theorem cordonlaw_has_sat {r : D} (a0 : List (List Int)) (a1 : List Int) (h : (∀ d ∈ [.sl (.list .int) a0, .sl .int a1], okD d) → fnD Tryz.prog Ev cordonlaw_has_A Tryz.f27.results.toList (bodyOf Tryz.f27) [.sl (.list .int) a0, .sl .int a1] fun d => d = r) : Sat Tryz.prog f_cordonlaw_has [.sl (.list .int) a0, .sl .int a1] r := by
  have h2 := sat_of (r := r) (args := [.sl (.list .int) a0, .sl .int a1]) (A := cordonlaw_has_A) (fn := Tryz.f27) (body := bodyOf Tryz.f27) (f := f_cordonlaw_has) factsEv Tryz.func27 (by kernel_rfl) (by rw [Tryz.ntmps27]; rfl) (by rw [Tryz.ntmps27]; exact Nat.le_of_ble_eq_true rfl)
  with_reducible exact h2 h
/-! ### cordon/cordonlaw.two -/
def cordonlaw_two_A : Ann := { own := [0], live := [], n := 9, nils := [], pubs := [] }
theorem cordonlaw_two_eq  (R : D → Prop) : fnD Tryz.prog Ev cordonlaw_two_A Tryz.f63.results.toList (bodyOf Tryz.f63) [] R =
 (R (.agg [.sl .var ([(⟨(⟨#[120]⟩ : ByteArray), 0, 2⟩ : VarD), (⟨(⟨#[121]⟩ : ByteArray), 0, 2⟩ : VarD)]), .sl .con ([(⟨1, [0, 1], [1, -1], -1, ([] : List (List Int)), ([] : List LitD)⟩ : ConD)]), .int .i64 1, .int .i64 1])) := by kernel_rfl
theorem cordonlaw_two_sat {r : D}  (h : (∀ d ∈ [], okD d) → fnD Tryz.prog Ev cordonlaw_two_A Tryz.f63.results.toList (bodyOf Tryz.f63) [] fun d => d = r) : Sat Tryz.prog f_cordonlaw_two [] r := by
  have h2 := sat_of (r := r) (args := []) (A := cordonlaw_two_A) (fn := Tryz.f63) (body := bodyOf Tryz.f63) (f := f_cordonlaw_two) factsEv Tryz.func63 (by kernel_rfl) (by rw [Tryz.ntmps63]; rfl) (by rw [Tryz.ntmps63]; exact Nat.le_of_ble_eq_true rfl)
  with_reducible exact h2 h
end Go.Proofs.YtgnjdgafkjohaaaGreat
