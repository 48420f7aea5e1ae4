/- What the functions of a package do, as equations of plain propositions: printed by a program that carries the code out on symbols. -/
import Derived.Test.YtgnjdgafkjohaaaGreatWEv
namespace Go.Proofs.YtgnjdgafkjohaaaGreat
open Go.RowKit
set_option linter.unusedVariables false
set_option maxRecDepth 100000
/-! ### cordon/cordonlaw.ExplainHolds -/
def cordonlaw_ExplainHolds_A : Ann := { own := [], live := [], n := 108, nils := [], pubs := [] }
theorem cordonlaw_ExplainHolds_eq (a0 : MdlD) (a1 : Int) (a2 : List (List Int)) (a3 : Int) (a4 : Int) (a5 : List Int) (R : D → Prop) : fnD Tryz.prog Ev cordonlaw_ExplainHolds_A Tryz.f11.results.toList (bodyOf Tryz.f11) [dM a0, dI a1, dS a2, dI a3, dI a4, .sl .int a5] R =
 (Call1 Tryz.prog f_cordonlaw_explainBegun [] .bool fun c1 =>
 sel (!c1)
 (R (dB false))
 (Call1 Tryz.prog f_cordonlaw_modelBegun [] .bool fun c2 =>
 sel (!c2)
 (R (dB false))
 (Call1 Tryz.prog f_cordonlaw_clauseBegun [] .bool fun c3 =>
 sel (!c3)
 (R (dB false))
 (Call3 Tryz.prog f_explain_Removed [dM a0, dI a1, dS a2, dI a3, dI a4] (.list .lit) .bool .int fun e4 e5 e6 =>
 Call3 Tryz.prog f_explain_Failed [dM a0, dI a1, dS a2] (.list .lit) .bool .int fun e7 e8 e9 =>
 Call2 Tryz.prog f_model_Holds [dM a0, dI a1, .sl .int a5] .bool .int fun m10 m11 =>
 sel (!decide (e6 = 0))
 (R (dB true))
 (sel (!decide (e9 = 0))
 (R (dB true))
 (sel (!decide (m11 = 0))
 (R (dB true))
 (sel (!m10)
 (R (dB true))
 (Call1 Tryz.prog f_cordonref_BeginOf [dM a0] (.list (.list .int)) fun c12 =>
 Call1 Tryz.prog f_cordonlaw_has [dS c12, .sl .int a5] .bool fun c13 =>
 sel (!c13)
 (R (dB true))
 (sel e5
 (Call2 Tryz.prog f_clause_Holds [dM a0, .sl .lit e4, .sl .int a5] .bool .int fun c14 c15 =>
 sel (!decide (c15 = 0))
 (R (dB false))
 (sel (!c14)
 (R (dB false))
 (sel e8
 (Call2 Tryz.prog f_clause_Holds [dM a0, .sl .lit e7, .sl .int a5] .bool .int fun c16 c17 =>
 sel (decide (c17 = 0))
 (R (dB c16))
 (R (dB false)))
 (R (dB true)))))
 (sel e8
 (Call2 Tryz.prog f_clause_Holds [dM a0, .sl .lit e7, .sl .int a5] .bool .int fun c18 c19 =>
 sel (decide (c19 = 0))
 (R (dB c18))
 (R (dB false)))
 (R (dB true)))))))))))) := by kernel_rfl
theorem cordonlaw_ExplainHolds_sat {r : D} (a0 : MdlD) (a1 : Int) (a2 : List (List Int)) (a3 : Int) (a4 : Int) (a5 : List Int) (h : (∀ d ∈ [dM a0, dI a1, dS a2, dI a3, dI a4, .sl .int a5], okD d) → fnD Tryz.prog Ev cordonlaw_ExplainHolds_A Tryz.f11.results.toList (bodyOf Tryz.f11) [dM a0, dI a1, dS a2, dI a3, dI a4, .sl .int a5] fun d => d = r) : Sat Tryz.prog f_cordonlaw_ExplainHolds [dM a0, dI a1, dS a2, dI a3, dI a4, .sl .int a5] r := by
  have h2 := sat_of (r := r) (args := [dM a0, dI a1, dS a2, dI a3, dI a4, .sl .int a5]) (A := cordonlaw_ExplainHolds_A) (fn := Tryz.f11) (body := bodyOf Tryz.f11) (f := f_cordonlaw_ExplainHolds) factsEv Tryz.func11 (by kernel_rfl) (by rw [Tryz.ntmps11]; rfl) (by rw [Tryz.ntmps11]; exact Nat.le_of_ble_eq_true rfl)
  with_reducible exact h2 h
/-! ### cordon/cordonlaw.modelBegun -/
def cordonlaw_modelBegun_A : Ann := { own := [], live := [], n := 51, nils := [], pubs := [] }
theorem cordonlaw_modelBegun_eq  (R : D → Prop) : fnD Tryz.prog Ev cordonlaw_modelBegun_A Tryz.f25.results.toList (bodyOf Tryz.f25) [] R =
 (Call1 Tryz.prog f_cordonlaw_two [] .mdl fun c1 =>
 Call2 Tryz.prog f_model_Holds [dM c1, dI 0, .sl .int ([0, 1])] .bool .int fun m2 m3 =>
 Call1 Tryz.prog f_cordonlaw_two [] .mdl fun c4 =>
 Call2 Tryz.prog f_model_All [dM c4, .sl .int ([2, 1])] .bool .int fun m5 m6 =>
 Call1 Tryz.prog f_cordonlaw_two [] .mdl fun c7 =>
 Call2 Tryz.prog f_model_Scope [dM c7, dI 0] (.list .int) .int fun m8 m9 =>
 Call1 Tryz.prog f_cordonlaw_two [] .mdl fun c10 =>
 Call1 Tryz.prog f_model_Check [dM c10] .int fun m11 =>
 sel (decide (m11 = 0))
 (sel (decide (m3 = 0))
 (sel (decide (m6 = 0))
 (sel (decide (m9 = 0))
 (sel m2
 (sel (!m5)
 (Call1 Tryz.prog f_cordonref_SameInts [.sl .int m8, .sl .int ([0, 1])] .bool fun c12 =>
 R (dB c12))
 (R (dB false)))
 (R (dB false)))
 (R (dB false)))
 (R (dB false)))
 (R (dB false)))
 (R (dB false))) := by kernel_rfl
theorem cordonlaw_modelBegun_sat {r : D}  (h : (∀ d ∈ [], okD d) → fnD Tryz.prog Ev cordonlaw_modelBegun_A Tryz.f25.results.toList (bodyOf Tryz.f25) [] fun d => d = r) : Sat Tryz.prog f_cordonlaw_modelBegun [] r := by
  have h2 := sat_of (r := r) (args := []) (A := cordonlaw_modelBegun_A) (fn := Tryz.f25) (body := bodyOf Tryz.f25) (f := f_cordonlaw_modelBegun) factsEv Tryz.func25 (by kernel_rfl) (by rw [Tryz.ntmps25]; rfl) (by rw [Tryz.ntmps25]; exact Nat.le_of_ble_eq_true rfl)
  with_reducible exact h2 h
/-! ### cordon/cordonlaw.has -/
def cordonlaw_has_A : Ann := { own := [], live := [(0, ([0, 1, 5], []))], n := 27, nils := [], pubs := [] }
def cordonlaw_has_I0 (a0 : List (List Int)) (a1 : List Int) (R : D → Prop) (n0 : Nat) (i1 : Int) : Prop := iter (den Tryz.prog Ev cordonlaw_has_A (sub [1, 1, 0, 1, 0, 0] (bodyOf Tryz.f27)) 0) cordonlaw_has_A (liveOf cordonlaw_has_A 0) n0 ⟨[(0, dS a0), (1, .sl .int a1), (5, dI i1)], []⟩ (blockK 0 (seqK Tryz.prog Ev cordonlaw_has_A (sub [1, 1, 1] (bodyOf Tryz.f27)) 0 (endK Ev Tryz.f27.results.toList R)))
theorem cordonlaw_has_I0_eq (a0 : List (List Int)) (a1 : List Int) (R : D → Prop) (n0 : Nat) (i1 : Int) : cordonlaw_has_I0 a0 a1 R (n0 + 1) i1 =
 (sel (decide (i1 < (a0.length : Int)))
 (inb i1 a0.length = true ∧
 inb i1 a1.length = true ∧
 Call1 Tryz.prog f_cordonref_HasInt [.sl .int (at' (.list .int) a0 i1.toNat), dI (at' .int a1 i1.toNat)] .bool fun c2 =>
 sel (!c2)
 (R (dB false))
 (cordonlaw_has_I0 a0 a1 R n0 (w64 (i1 + 1))))
 (R (dB true))) := by kernel_rfl
theorem cordonlaw_has_eq (a0 : List (List Int)) (a1 : List Int) (R : D → Prop) : fnD Tryz.prog Ev cordonlaw_has_A Tryz.f27.results.toList (bodyOf Tryz.f27) [dS a0, .sl .int a1] R =
 (sel (!decide ((a0.length : Int) = (a1.length : Int)))
 (R (dB false))
 (∃ n0, cordonlaw_has_I0 a0 a1 R n0 0)) := by kernel_rfl
theorem cordonlaw_has_sat {r : D} (a0 : List (List Int)) (a1 : List Int) (h : (∀ d ∈ [dS a0, .sl .int a1], okD d) → fnD Tryz.prog Ev cordonlaw_has_A Tryz.f27.results.toList (bodyOf Tryz.f27) [dS a0, .sl .int a1] fun d => d = r) : Sat Tryz.prog f_cordonlaw_has [dS a0, .sl .int a1] r := by
  have h2 := sat_of (r := r) (args := [dS a0, .sl .int a1]) (A := cordonlaw_has_A) (fn := Tryz.f27) (body := bodyOf Tryz.f27) (f := f_cordonlaw_has) factsEv Tryz.func27 (by kernel_rfl) (by rw [Tryz.ntmps27]; rfl) (by rw [Tryz.ntmps27]; exact Nat.le_of_ble_eq_true rfl)
  with_reducible exact h2 h
/-! ### cordon/cordonlaw.clauseBegun -/
def cordonlaw_clauseBegun_A : Ann := { own := [], live := [], n := 69, nils := [], pubs := [] }
theorem cordonlaw_clauseBegun_eq  (R : D → Prop) : fnD Tryz.prog Ev cordonlaw_clauseBegun_A Tryz.f44.results.toList (bodyOf Tryz.f44) [] R =
 (Call1 Tryz.prog f_cordonlaw_two [] .mdl fun c1 =>
 Call2 Tryz.prog f_clause_Holds [dM c1, .sl .lit ([(⟨0, 3, 2⟩ : LitD), (⟨1, 2, 1⟩ : LitD)]), .sl .int ([0, 1])] .bool .int fun c2 c3 =>
 Call1 Tryz.prog f_cordonlaw_two [] .mdl fun c4 =>
 Call2 Tryz.prog f_clause_Unit [dM c4, dS ([[0, 1], [0, 1, 2]]), .sl .lit ([(⟨0, 3, 2⟩ : LitD), (⟨1, 2, 1⟩ : LitD)])] (.list (.list .int)) .int fun c5 c6 =>
 Call1 Tryz.prog f_cordonlaw_two [] .mdl fun c7 =>
 Call2 Tryz.prog f_clause_Deny [dM c7, dS ([[0, 1], [0, 1, 2]]), .sl .lit ([(⟨0, 3, 2⟩ : LitD), (⟨1, 2, 1⟩ : LitD)])] (.list (.list .int)) .int fun c8 c9 =>
 Call1 Tryz.prog f_cordonlaw_two [] .mdl fun c10 =>
 Call1 Tryz.prog f_clause_Check [dM c10, .sl .lit ([(⟨0, 3, 2⟩ : LitD), (⟨1, 2, 1⟩ : LitD)])] .int fun c11 =>
 sel (decide (c11 = 0))
 (sel (decide (c3 = 0))
 (sel (decide (c6 = 0))
 (sel (decide (c9 = 0))
 (sel c2
 (Call1 Tryz.prog f_cordonref_SameStore [dS c5, dS ([[0, 1], [1, 2]])] .bool fun c12 =>
 sel c12
 (Call1 Tryz.prog f_cordonref_SameStore [dS c8, dS ([[0, 1], [0]])] .bool fun c13 =>
 R (dB c13))
 (R (dB false)))
 (R (dB false)))
 (R (dB false)))
 (R (dB false)))
 (R (dB false)))
 (R (dB false))) := by kernel_rfl
theorem cordonlaw_clauseBegun_sat {r : D}  (h : (∀ d ∈ [], okD d) → fnD Tryz.prog Ev cordonlaw_clauseBegun_A Tryz.f44.results.toList (bodyOf Tryz.f44) [] fun d => d = r) : Sat Tryz.prog f_cordonlaw_clauseBegun [] r := by
  have h2 := sat_of (r := r) (args := []) (A := cordonlaw_clauseBegun_A) (fn := Tryz.f44) (body := bodyOf Tryz.f44) (f := f_cordonlaw_clauseBegun) factsEv Tryz.func44 (by kernel_rfl) (by rw [Tryz.ntmps44]; rfl) (by rw [Tryz.ntmps44]; exact Nat.le_of_ble_eq_true rfl)
  with_reducible exact h2 h
/-! ### cordon/cordonlaw.explainBegun -/
def cordonlaw_explainBegun_A : Ann := { own := [], live := [], n := 67, nils := [], pubs := [] }
theorem cordonlaw_explainBegun_eq  (R : D → Prop) : fnD Tryz.prog Ev cordonlaw_explainBegun_A Tryz.f47.results.toList (bodyOf Tryz.f47) [] R =
 (Call1 Tryz.prog f_cordonlaw_two [] .mdl fun c1 =>
 Call3 Tryz.prog f_explain_Removed [dM c1, dI 0, dS ([[0, 1, 2], [0, 1]]), dI 0, dI 1] (.list .lit) .bool .int fun e2 e3 e4 =>
 Call1 Tryz.prog f_cordonlaw_two [] .mdl fun c5 =>
 Call3 Tryz.prog f_explain_Removed [dM c5, dI 0, dS ([[0, 1, 2], [0, 1]]), dI 0, dI 0] (.list .lit) .bool .int fun e6 e7 e8 =>
 Call1 Tryz.prog f_cordonlaw_two [] .mdl fun c9 =>
 Call3 Tryz.prog f_explain_Failed [dM c9, dI 0, dS ([[2], [0]])] (.list .lit) .bool .int fun e10 e11 e12 =>
 sel (decide (e4 = 0))
 (sel (decide (e8 = 0))
 (sel (decide (e12 = 0))
 (sel e3
 (sel (!e7)
 (sel e11
 (sel (decide ((e2.length : Int) = 2))
 (R (dB (decide (0 < (e10.length : Int)))))
 (R (dB false)))
 (R (dB false)))
 (R (dB false)))
 (R (dB false)))
 (R (dB false)))
 (R (dB false)))
 (R (dB false))) := by kernel_rfl
theorem cordonlaw_explainBegun_sat {r : D}  (h : (∀ d ∈ [], okD d) → fnD Tryz.prog Ev cordonlaw_explainBegun_A Tryz.f47.results.toList (bodyOf Tryz.f47) [] fun d => d = r) : Sat Tryz.prog f_cordonlaw_explainBegun [] r := by
  have h2 := sat_of (r := r) (args := []) (A := cordonlaw_explainBegun_A) (fn := Tryz.f47) (body := bodyOf Tryz.f47) (f := f_cordonlaw_explainBegun) factsEv Tryz.func47 (by kernel_rfl) (by rw [Tryz.ntmps47]; rfl) (by rw [Tryz.ntmps47]; exact Nat.le_of_ble_eq_true rfl)
  with_reducible exact h2 h
/-! ### cordon/cordonlaw.two -/
def cordonlaw_two_A : Ann := { own := [0], live := [], n := 9, nils := [], pubs := [] }
theorem cordonlaw_two_eq  (R : D → Prop) : fnD Tryz.prog Ev cordonlaw_two_A Tryz.f63.results.toList (bodyOf Tryz.f63) [] R =
 (R (.agg [.sl .var ([(⟨(⟨#[120]⟩ : ByteArray), 0, 2⟩ : VarD), (⟨(⟨#[121]⟩ : ByteArray), 0, 2⟩ : VarD)]), .sl .con ([(⟨1, [0, 1], [1, -1], -1, ([] : List (List Int)), ([] : List LitD)⟩ : ConD)]), dI 1, dI 1])) := by kernel_rfl
theorem cordonlaw_two_sat {r : D}  (h : (∀ d ∈ [], okD d) → fnD Tryz.prog Ev cordonlaw_two_A Tryz.f63.results.toList (bodyOf Tryz.f63) [] fun d => d = r) : Sat Tryz.prog f_cordonlaw_two [] r := by
  have h2 := sat_of (r := r) (args := []) (A := cordonlaw_two_A) (fn := Tryz.f63) (body := bodyOf Tryz.f63) (f := f_cordonlaw_two) factsEv Tryz.func63 (by kernel_rfl) (by rw [Tryz.ntmps63]; rfl) (by rw [Tryz.ntmps63]; exact Nat.le_of_ble_eq_true rfl)
  with_reducible exact h2 h
end Go.Proofs.YtgnjdgafkjohaaaGreat
