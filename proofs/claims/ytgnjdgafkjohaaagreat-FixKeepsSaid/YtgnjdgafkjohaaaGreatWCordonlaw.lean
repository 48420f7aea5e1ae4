/- What the functions of a package do, as equations of plain propositions: printed by a program that carries the code out on symbols. -/
import Derived.Test.YtgnjdgafkjohaaaGreatWEv
namespace Go.Proofs.YtgnjdgafkjohaaaGreat
open Go.RowKit
set_option linter.unusedVariables false
set_option maxRecDepth 100000
/-! ### cordon/cordonlaw.FixKeeps -/
def cordonlaw_FixKeeps_A : Ann := { own := [], live := [], n := 64, nils := [], pubs := [] }
theorem cordonlaw_FixKeeps_eq (a0 : MdlD) (a1 : List (List Int)) (a2 : List (List LitD)) (a3 : List Int) (R : D → Prop) : fnD Tryz.prog Ev cordonlaw_FixKeeps_A Tryz.f10.results.toList (bodyOf Tryz.f10) [dM a0, dS a1, .sl (.list .lit) a2, .sl .int a3] R =
 (Call2 Tryz.prog f_fix_Both [dM a0, dS a1, .sl (.list .lit) a2] (.list (.list .int)) .int fun f1 f2 =>
 Call1 Tryz.prog f_cordonlaw_fixBegun [] .bool fun c3 =>
 sel (!c3)
 (R (dB false))
 (Call1 Tryz.prog f_cordonlaw_modelBegun [] .bool fun c4 =>
 sel (!c4)
 (R (dB false))
 (Call1 Tryz.prog f_cordonlaw_clauseBegun [] .bool fun c5 =>
 sel (!c5)
 (R (dB false))
 (sel (!decide (f2 = 0))
 (R (dB (decide ((f1.length : Int) = 0))))
 (Call2 Tryz.prog f_model_All [dM a0, .sl .int a3] .bool .int fun m6 m7 =>
 sel (!decide (m7 = 0))
 (R (dB true))
 (sel (!m6)
 (R (dB true))
 (Call1 Tryz.prog f_cordonlaw_has [dS a1, .sl .int a3] .bool fun c8 =>
 sel (!c8)
 (R (dB true))
 (Call1 Tryz.prog f_cordonlaw_allClauses [dM a0, .sl (.list .lit) a2, .sl .int a3] .bool fun c9 =>
 sel (!c9)
 (R (dB true))
 (Call1 Tryz.prog f_cordonlaw_has [dS f1, .sl .int a3] .bool fun c10 =>
 R (dB c10)))))))))) := by kernel_rfl
theorem cordonlaw_FixKeeps_sat {r : D} (a0 : MdlD) (a1 : List (List Int)) (a2 : List (List LitD)) (a3 : List Int) (h : (∀ d ∈ [dM a0, dS a1, .sl (.list .lit) a2, .sl .int a3], okD d) → fnD Tryz.prog Ev cordonlaw_FixKeeps_A Tryz.f10.results.toList (bodyOf Tryz.f10) [dM a0, dS a1, .sl (.list .lit) a2, .sl .int a3] fun d => d = r) : Sat Tryz.prog f_cordonlaw_FixKeeps [dM a0, dS a1, .sl (.list .lit) a2, .sl .int a3] r := by
  have h2 := sat_of (r := r) (args := [dM a0, dS a1, .sl (.list .lit) a2, .sl .int a3]) (A := cordonlaw_FixKeeps_A) (fn := Tryz.f10) (body := bodyOf Tryz.f10) (f := f_cordonlaw_FixKeeps) factsEv Tryz.func10 (by kernel_rfl) (by rw [Tryz.ntmps10]; rfl) (by rw [Tryz.ntmps10]; exact Nat.le_of_ble_eq_true rfl)
  with_reducible exact h2 h
/-! ### cordon/cordonlaw.modelBegun -/
def cordonlaw_modelBegun_A : Ann := { own := [], live := [], n := 51, nils := [], pubs := [] }
theorem cordonlaw_modelBegun_eq  (R : D → Prop) : fnD Tryz.prog Ev cordonlaw_modelBegun_A Tryz.f25.results.toList (bodyOf Tryz.f25) [] R =
 (Call1 Tryz.prog f_cordonlaw_two [] .mdl fun c1 =>
 Call2 Tryz.prog f_model_Holds [dM c1, dI 0, .sl .int ([0, 1])] .bool .int fun m2 m3 =>
 Call1 Tryz.prog f_cordonlaw_two [] .mdl fun c4 =>
 Call2 Tryz.prog f_model_All [dM c4, .sl .int ([2, 1])] .bool .int fun m5 m6 =>
 Call1 Tryz.prog f_cordonlaw_two [] .mdl fun c7 =>
 Call2 Tryz.prog f_model_Scope [dM c7, dI 0] (.list .int) .int fun m8 m9 =>
 Call1 Tryz.prog f_cordonlaw_two [] .mdl fun c10 =>
 Call1 Tryz.prog f_model_Check [dM c10] .int fun m11 =>
 sel (decide (m11 = 0))
 (sel (decide (m3 = 0))
 (sel (decide (m6 = 0))
 (sel (decide (m9 = 0))
 (sel m2
 (sel (!m5)
 (Call1 Tryz.prog f_cordonref_SameInts [.sl .int m8, .sl .int ([0, 1])] .bool fun c12 =>
 R (dB c12))
 (R (dB false)))
 (R (dB false)))
 (R (dB false)))
 (R (dB false)))
 (R (dB false)))
 (R (dB false))) := by kernel_rfl
theorem cordonlaw_modelBegun_sat {r : D}  (h : (∀ d ∈ [], okD d) → fnD Tryz.prog Ev cordonlaw_modelBegun_A Tryz.f25.results.toList (bodyOf Tryz.f25) [] fun d => d = r) : Sat Tryz.prog f_cordonlaw_modelBegun [] r := by
  have h2 := sat_of (r := r) (args := []) (A := cordonlaw_modelBegun_A) (fn := Tryz.f25) (body := bodyOf Tryz.f25) (f := f_cordonlaw_modelBegun) factsEv Tryz.func25 (by kernel_rfl) (by rw [Tryz.ntmps25]; rfl) (by rw [Tryz.ntmps25]; exact Nat.le_of_ble_eq_true rfl)
  with_reducible exact h2 h
/-! ### cordon/cordonlaw.has -/
def cordonlaw_has_A : Ann := { own := [], live := [(0, ([0, 1, 5], []))], n := 27, nils := [], pubs := [] }
def cordonlaw_has_I0 (a0 : List (List Int)) (a1 : List Int) (R : D → Prop) (n0 : Nat) (i1 : Int) : Prop := iter (den Tryz.prog Ev cordonlaw_has_A (sub [1, 1, 0, 1, 0, 0] (bodyOf Tryz.f27)) 0) cordonlaw_has_A (liveOf cordonlaw_has_A 0) n0 ⟨[(0, dS a0), (1, .sl .int a1), (5, dI i1)], []⟩ (blockK 0 (seqK Tryz.prog Ev cordonlaw_has_A (sub [1, 1, 1] (bodyOf Tryz.f27)) 0 (endK Ev Tryz.f27.results.toList R)))
theorem cordonlaw_has_I0_eq (a0 : List (List Int)) (a1 : List Int) (R : D → Prop) (n0 : Nat) (i1 : Int) : cordonlaw_has_I0 a0 a1 R (n0 + 1) i1 =
 (sel (decide (i1 < (a0.length : Int)))
 (inb i1 a0.length = true ∧
 inb i1 a1.length = true ∧
 Call1 Tryz.prog f_cordonref_HasInt [.sl .int (at' (.list .int) a0 i1.toNat), dI (at' .int a1 i1.toNat)] .bool fun c2 =>
 sel (!c2)
 (R (dB false))
 (cordonlaw_has_I0 a0 a1 R n0 (w64 (i1 + 1))))
 (R (dB true))) := by kernel_rfl
theorem cordonlaw_has_eq (a0 : List (List Int)) (a1 : List Int) (R : D → Prop) : fnD Tryz.prog Ev cordonlaw_has_A Tryz.f27.results.toList (bodyOf Tryz.f27) [dS a0, .sl .int a1] R =
 (sel (!decide ((a0.length : Int) = (a1.length : Int)))
 (R (dB false))
 (∃ n0, cordonlaw_has_I0 a0 a1 R n0 0)) := by kernel_rfl
theorem cordonlaw_has_sat {r : D} (a0 : List (List Int)) (a1 : List Int) (h : (∀ d ∈ [dS a0, .sl .int a1], okD d) → fnD Tryz.prog Ev cordonlaw_has_A Tryz.f27.results.toList (bodyOf Tryz.f27) [dS a0, .sl .int a1] fun d => d = r) : Sat Tryz.prog f_cordonlaw_has [dS a0, .sl .int a1] r := by
  have h2 := sat_of (r := r) (args := [dS a0, .sl .int a1]) (A := cordonlaw_has_A) (fn := Tryz.f27) (body := bodyOf Tryz.f27) (f := f_cordonlaw_has) factsEv Tryz.func27 (by kernel_rfl) (by rw [Tryz.ntmps27]; rfl) (by rw [Tryz.ntmps27]; exact Nat.le_of_ble_eq_true rfl)
  with_reducible exact h2 h
/-! ### cordon/cordonlaw.fixBegun -/
def cordonlaw_fixBegun_A : Ann := { own := [], live := [], n := 66, nils := [], pubs := [] }
theorem cordonlaw_fixBegun_eq  (R : D → Prop) : fnD Tryz.prog Ev cordonlaw_fixBegun_A Tryz.f33.results.toList (bodyOf Tryz.f33) [] R =
 (Call1 Tryz.prog f_cordonlaw_two [] .mdl fun c1 =>
 Call2 Tryz.prog f_fix_Cons [dM c1, dS ([[0, 1, 2], [0, 1, 2]])] (.list (.list .int)) .int fun f2 f3 =>
 Call1 Tryz.prog f_cordonlaw_two [] .mdl fun c4 =>
 Call2 Tryz.prog f_fix_Units [dM c4, dS ([[0, 1, 2], [0, 1, 2]]), .sl (.list .lit) ([[(⟨1, 1, 1⟩ : LitD)]])] (.list (.list .int)) .int fun f5 f6 =>
 Call1 Tryz.prog f_cordonlaw_two [] .mdl fun c7 =>
 Call2 Tryz.prog f_fix_Both [dM c7, dS ([[0, 1, 2], [0, 1, 2]]), .sl (.list .lit) ([[(⟨1, 1, 1⟩ : LitD)]])] (.list (.list .int)) .int fun f8 f9 =>
 sel (decide (f3 = 0))
 (sel (decide (f6 = 0))
 (sel (decide (f9 = 0))
 (Call1 Tryz.prog f_cordonref_SameStore [dS f2, dS ([[0, 1], [1, 2]])] .bool fun c10 =>
 sel c10
 (Call1 Tryz.prog f_cordonref_SameStore [dS f5, dS ([[0, 1, 2], [0, 1]])] .bool fun c11 =>
 sel c11
 (Call1 Tryz.prog f_cordonref_SameStore [dS f8, dS ([[0], [1]])] .bool fun c12 =>
 R (dB c12))
 (R (dB false)))
 (R (dB false)))
 (R (dB false)))
 (R (dB false)))
 (R (dB false))) := by kernel_rfl
theorem cordonlaw_fixBegun_sat {r : D}  (h : (∀ d ∈ [], okD d) → fnD Tryz.prog Ev cordonlaw_fixBegun_A Tryz.f33.results.toList (bodyOf Tryz.f33) [] fun d => d = r) : Sat Tryz.prog f_cordonlaw_fixBegun [] r := by
  have h2 := sat_of (r := r) (args := []) (A := cordonlaw_fixBegun_A) (fn := Tryz.f33) (body := bodyOf Tryz.f33) (f := f_cordonlaw_fixBegun) factsEv Tryz.func33 (by kernel_rfl) (by rw [Tryz.ntmps33]; rfl) (by rw [Tryz.ntmps33]; exact Nat.le_of_ble_eq_true rfl)
  with_reducible exact h2 h
/-! ### cordon/cordonlaw.clauseBegun -/
def cordonlaw_clauseBegun_A : Ann := { own := [], live := [], n := 69, nils := [], pubs := [] }
theorem cordonlaw_clauseBegun_eq  (R : D → Prop) : fnD Tryz.prog Ev cordonlaw_clauseBegun_A Tryz.f44.results.toList (bodyOf Tryz.f44) [] R =
 (Call1 Tryz.prog f_cordonlaw_two [] .mdl fun c1 =>
 Call2 Tryz.prog f_clause_Holds [dM c1, .sl .lit ([(⟨0, 3, 2⟩ : LitD), (⟨1, 2, 1⟩ : LitD)]), .sl .int ([0, 1])] .bool .int fun c2 c3 =>
 Call1 Tryz.prog f_cordonlaw_two [] .mdl fun c4 =>
 Call2 Tryz.prog f_clause_Unit [dM c4, dS ([[0, 1], [0, 1, 2]]), .sl .lit ([(⟨0, 3, 2⟩ : LitD), (⟨1, 2, 1⟩ : LitD)])] (.list (.list .int)) .int fun c5 c6 =>
 Call1 Tryz.prog f_cordonlaw_two [] .mdl fun c7 =>
 Call2 Tryz.prog f_clause_Deny [dM c7, dS ([[0, 1], [0, 1, 2]]), .sl .lit ([(⟨0, 3, 2⟩ : LitD), (⟨1, 2, 1⟩ : LitD)])] (.list (.list .int)) .int fun c8 c9 =>
 Call1 Tryz.prog f_cordonlaw_two [] .mdl fun c10 =>
 Call1 Tryz.prog f_clause_Check [dM c10, .sl .lit ([(⟨0, 3, 2⟩ : LitD), (⟨1, 2, 1⟩ : LitD)])] .int fun c11 =>
 sel (decide (c11 = 0))
 (sel (decide (c3 = 0))
 (sel (decide (c6 = 0))
 (sel (decide (c9 = 0))
 (sel c2
 (Call1 Tryz.prog f_cordonref_SameStore [dS c5, dS ([[0, 1], [1, 2]])] .bool fun c12 =>
 sel c12
 (Call1 Tryz.prog f_cordonref_SameStore [dS c8, dS ([[0, 1], [0]])] .bool fun c13 =>
 R (dB c13))
 (R (dB false)))
 (R (dB false)))
 (R (dB false)))
 (R (dB false)))
 (R (dB false)))
 (R (dB false))) := by kernel_rfl
theorem cordonlaw_clauseBegun_sat {r : D}  (h : (∀ d ∈ [], okD d) → fnD Tryz.prog Ev cordonlaw_clauseBegun_A Tryz.f44.results.toList (bodyOf Tryz.f44) [] fun d => d = r) : Sat Tryz.prog f_cordonlaw_clauseBegun [] r := by
  have h2 := sat_of (r := r) (args := []) (A := cordonlaw_clauseBegun_A) (fn := Tryz.f44) (body := bodyOf Tryz.f44) (f := f_cordonlaw_clauseBegun) factsEv Tryz.func44 (by kernel_rfl) (by rw [Tryz.ntmps44]; rfl) (by rw [Tryz.ntmps44]; exact Nat.le_of_ble_eq_true rfl)
  with_reducible exact h2 h
/-! ### cordon/cordonlaw.allClauses -/
def cordonlaw_allClauses_A : Ann := { own := [], live := [(0, ([1, 2, 3, 7], []))], n := 32, nils := [], pubs := [] }
def cordonlaw_allClauses_I0 (a0 : MdlD) (a1 : List (List LitD)) (a2 : List Int) (R : D → Prop) (n0 : Nat) (i1 : Int) : Prop := iter (den Tryz.prog Ev cordonlaw_allClauses_A (sub [1, 0, 1, 0, 0] (bodyOf Tryz.f46)) 0) cordonlaw_allClauses_A (liveOf cordonlaw_allClauses_A 0) n0 ⟨[(1, .sl (.list .lit) a1), (2, .sl .int a2), (3, .iptr [.sl .var a0.vars, .sl .con a0.cons, dI a0.goal, dI a0.var] 0), (7, dI i1)], []⟩ (blockK 0 (seqK Tryz.prog Ev cordonlaw_allClauses_A (sub [1, 1] (bodyOf Tryz.f46)) 0 (endK Ev Tryz.f46.results.toList R)))
theorem cordonlaw_allClauses_I0_eq (a0 : MdlD) (a1 : List (List LitD)) (a2 : List Int) (R : D → Prop) (n0 : Nat) (i1 : Int) : cordonlaw_allClauses_I0 a0 a1 a2 R (n0 + 1) i1 =
 (sel (decide (i1 < (a1.length : Int)))
 (inb i1 a1.length = true ∧
 Call2 Tryz.prog f_clause_Holds [dM a0, .sl .lit (at' (.list .lit) a1 i1.toNat), .sl .int a2] .bool .int fun c2 c3 =>
 sel (!decide (c3 = 0))
 (R (dB false))
 (sel (!c2)
 (R (dB false))
 (cordonlaw_allClauses_I0 a0 a1 a2 R n0 (w64 (i1 + 1)))))
 (R (dB true))) := by kernel_rfl
theorem cordonlaw_allClauses_eq (a0 : MdlD) (a1 : List (List LitD)) (a2 : List Int) (R : D → Prop) : fnD Tryz.prog Ev cordonlaw_allClauses_A Tryz.f46.results.toList (bodyOf Tryz.f46) [dM a0, .sl (.list .lit) a1, .sl .int a2] R =
 (∃ n0, cordonlaw_allClauses_I0 a0 a1 a2 R n0 0) := by kernel_rfl
theorem cordonlaw_allClauses_sat {r : D} (a0 : MdlD) (a1 : List (List LitD)) (a2 : List Int) (h : (∀ d ∈ [dM a0, .sl (.list .lit) a1, .sl .int a2], okD d) → fnD Tryz.prog Ev cordonlaw_allClauses_A Tryz.f46.results.toList (bodyOf Tryz.f46) [dM a0, .sl (.list .lit) a1, .sl .int a2] fun d => d = r) : Sat Tryz.prog f_cordonlaw_allClauses [dM a0, .sl (.list .lit) a1, .sl .int a2] r := by
  have h2 := sat_of (r := r) (args := [dM a0, .sl (.list .lit) a1, .sl .int a2]) (A := cordonlaw_allClauses_A) (fn := Tryz.f46) (body := bodyOf Tryz.f46) (f := f_cordonlaw_allClauses) factsEv Tryz.func46 (by kernel_rfl) (by rw [Tryz.ntmps46]; rfl) (by rw [Tryz.ntmps46]; exact Nat.le_of_ble_eq_true rfl)
  with_reducible exact h2 h
/-! ### cordon/cordonlaw.two -/
def cordonlaw_two_A : Ann := { own := [0], live := [], n := 9, nils := [], pubs := [] }
theorem cordonlaw_two_eq  (R : D → Prop) : fnD Tryz.prog Ev cordonlaw_two_A Tryz.f63.results.toList (bodyOf Tryz.f63) [] R =
 (R (.agg [.sl .var ([(⟨(⟨#[120]⟩ : ByteArray), 0, 2⟩ : VarD), (⟨(⟨#[121]⟩ : ByteArray), 0, 2⟩ : VarD)]), .sl .con ([(⟨1, [0, 1], [1, -1], -1, ([] : List (List Int)), ([] : List LitD)⟩ : ConD)]), dI 1, dI 1])) := by kernel_rfl
theorem cordonlaw_two_sat {r : D}  (h : (∀ d ∈ [], okD d) → fnD Tryz.prog Ev cordonlaw_two_A Tryz.f63.results.toList (bodyOf Tryz.f63) [] fun d => d = r) : Sat Tryz.prog f_cordonlaw_two [] r := by
  have h2 := sat_of (r := r) (args := []) (A := cordonlaw_two_A) (fn := Tryz.f63) (body := bodyOf Tryz.f63) (f := f_cordonlaw_two) factsEv Tryz.func63 (by kernel_rfl) (by rw [Tryz.ntmps63]; rfl) (by rw [Tryz.ntmps63]; exact Nat.le_of_ble_eq_true rfl)
  with_reducible exact h2 h
end Go.Proofs.YtgnjdgafkjohaaaGreat
