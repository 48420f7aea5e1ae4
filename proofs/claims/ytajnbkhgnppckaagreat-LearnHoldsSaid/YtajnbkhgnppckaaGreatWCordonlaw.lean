/- What the functions of a package do, as equations of plain propositions: printed by a program that carries the code out on symbols. -/
import Derived.Test.YtajnbkhgnppckaaGreatWEv
namespace Go.Proofs.YtajnbkhgnppckaaGreat
open Go.RowKit
set_option linter.unusedVariables false
set_option maxRecDepth 100000
/-! ### cordon/cordonlaw.LearnHolds -/
def cordonlaw_LearnHolds_A : Ann := { own := [], live := [], n := 72, nils := [], pubs := [] }
theorem cordonlaw_LearnHolds_eq (a0 : MdlD) (a1 : List (List LitD)) (a2 : List LitD) (a3 : List Int) (R : D → Prop) : fnD Tryz.prog Ev cordonlaw_LearnHolds_A Tryz.f5.results.toList (bodyOf Tryz.f5) [dM a0, .sl (.list .lit) a1, .sl .lit a2, .sl .int a3] R =
 (Call1 Tryz.prog f_cordonlaw_learnBegun [] .bool fun c1 =>
 sel (!c1)
 (R (dB false))
 (Call1 Tryz.prog f_cordonlaw_modelBegun [] .bool fun c2 =>
 sel (!c2)
 (R (dB false))
 (Call1 Tryz.prog f_cordonlaw_clauseBegun [] .bool fun c3 =>
 sel (!c3)
 (R (dB false))
 (Call3 Tryz.prog f_learn_Learn [dM a0, .sl (.list .lit) a1, .sl .lit a2] (.list .lit) .bool .int fun l4 l5 l6 =>
 Call2 Tryz.prog f_model_All [dM a0, .sl .int a3] .bool .int fun m7 m8 =>
 sel (!decide (l6 = 0))
 (R (dB true))
 (sel (!l5)
 (R (dB true))
 (sel (!decide (m8 = 0))
 (R (dB true))
 (sel (!m7)
 (R (dB true))
 (Call1 Tryz.prog f_cordonlaw_allClauses [dM a0, .sl (.list .lit) a1, .sl .int a3] .bool fun c9 =>
 sel (!c9)
 (R (dB true))
 (Call2 Tryz.prog f_clause_Holds [dM a0, .sl .lit l4, .sl .int a3] .bool .int fun c10 c11 =>
 sel (decide (c11 = 0))
 (R (dB c10))
 (R (dB false))))))))))) := by kernel_rfl
theorem cordonlaw_LearnHolds_sat {r : D} (a0 : MdlD) (a1 : List (List LitD)) (a2 : List LitD) (a3 : List Int) (h : (∀ d ∈ [dM a0, .sl (.list .lit) a1, .sl .lit a2, .sl .int a3], okD d) → fnD Tryz.prog Ev cordonlaw_LearnHolds_A Tryz.f5.results.toList (bodyOf Tryz.f5) [dM a0, .sl (.list .lit) a1, .sl .lit a2, .sl .int a3] fun d => d = r) : Sat Tryz.prog f_cordonlaw_LearnHolds [dM a0, .sl (.list .lit) a1, .sl .lit a2, .sl .int a3] r := by
  have h2 := sat_of (r := r) (args := [dM a0, .sl (.list .lit) a1, .sl .lit a2, .sl .int a3]) (A := cordonlaw_LearnHolds_A) (fn := Tryz.f5) (body := bodyOf Tryz.f5) (f := f_cordonlaw_LearnHolds) factsEv Tryz.func5 (by kernel_rfl) (by rw [Tryz.ntmps5]; rfl) (by rw [Tryz.ntmps5]; exact Nat.le_of_ble_eq_true rfl)
  with_reducible exact h2 h
/-! ### cordon/cordonlaw.learnBegun -/
def cordonlaw_learnBegun_A : Ann := { own := [], live := [], n := 75, nils := [], pubs := [] }
theorem cordonlaw_learnBegun_eq  (R : D → Prop) : fnD Tryz.prog Ev cordonlaw_learnBegun_A Tryz.f9.results.toList (bodyOf Tryz.f9) [] R =
 (Call1 Tryz.prog f_cordonlaw_two [] .mdl fun c1 =>
 Call3 Tryz.prog f_learn_Learn [dM c1, .sl (.list .lit) ([] : List (List LitD)), .sl .lit ([(⟨1, 1, 0⟩ : LitD)])] (.list .lit) .bool .int fun l2 l3 l4 =>
 Call1 Tryz.prog f_cordonlaw_two [] .mdl fun c5 =>
 Call3 Tryz.prog f_learn_Learn [dM c5, .sl (.list .lit) ([] : List (List LitD)), .sl .lit ([] : List LitD)] (.list .lit) .bool .int fun l6 l7 l8 =>
 Call1 Tryz.prog f_cordonlaw_two [] .mdl fun c9 =>
 Call3 Tryz.prog f_learn_Steps [dM c9, .sl (.list .lit) ([] : List (List LitD)), .sl .lit ([(⟨1, 1, 0⟩ : LitD)])] (.list .step) .bool .int fun l10 l11 l12 =>
 sel (decide (l4 = 0))
 (sel (decide (l8 = 0))
 (sel (decide (l12 = 0))
 (sel l3
 (sel (!l7)
 (sel l11
 (Call1 Tryz.prog f_cordonref_SameClause [.sl .lit l2, .sl .lit ([(⟨1, 2, 1⟩ : LitD)])] .bool fun c13 =>
 sel c13
 (sel (decide (0 < (l10.length : Int)))
 (inb (w64 ((l10.length : Int) - 1)) l10.length = true ∧
 Call1 Tryz.prog f_cordonref_SameClause [.sl .lit ((at' .step l10 ((w64 ((l10.length : Int) - 1)).toNat)).clause), .sl .lit l2] .bool fun c14 =>
 R (dB c14))
 (R (dB false)))
 (R (dB false)))
 (R (dB false)))
 (R (dB false)))
 (R (dB false)))
 (R (dB false)))
 (R (dB false)))
 (R (dB false))) := by kernel_rfl
theorem cordonlaw_learnBegun_sat {r : D}  (h : (∀ d ∈ [], okD d) → fnD Tryz.prog Ev cordonlaw_learnBegun_A Tryz.f9.results.toList (bodyOf Tryz.f9) [] fun d => d = r) : Sat Tryz.prog f_cordonlaw_learnBegun [] r := by
  have h2 := sat_of (r := r) (args := []) (A := cordonlaw_learnBegun_A) (fn := Tryz.f9) (body := bodyOf Tryz.f9) (f := f_cordonlaw_learnBegun) factsEv Tryz.func9 (by kernel_rfl) (by rw [Tryz.ntmps9]; rfl) (by rw [Tryz.ntmps9]; exact Nat.le_of_ble_eq_true rfl)
  with_reducible exact h2 h
/-! ### cordon/cordonlaw.modelBegun -/
def cordonlaw_modelBegun_A : Ann := { own := [], live := [], n := 51, nils := [], pubs := [] }
theorem cordonlaw_modelBegun_eq  (R : D → Prop) : fnD Tryz.prog Ev cordonlaw_modelBegun_A Tryz.f18.results.toList (bodyOf Tryz.f18) [] R =
 (Call1 Tryz.prog f_cordonlaw_two [] .mdl fun c1 =>
 Call2 Tryz.prog f_model_Holds [dM c1, dI 0, .sl .int ([0, 1])] .bool .int fun m2 m3 =>
 Call1 Tryz.prog f_cordonlaw_two [] .mdl fun c4 =>
 Call2 Tryz.prog f_model_All [dM c4, .sl .int ([2, 1])] .bool .int fun m5 m6 =>
 Call1 Tryz.prog f_cordonlaw_two [] .mdl fun c7 =>
 Call2 Tryz.prog f_model_Scope [dM c7, dI 0] (.list .int) .int fun m8 m9 =>
 Call1 Tryz.prog f_cordonlaw_two [] .mdl fun c10 =>
 Call1 Tryz.prog f_model_Check [dM c10] .int fun m11 =>
 sel (decide (m11 = 0))
 (sel (decide (m3 = 0))
 (sel (decide (m6 = 0))
 (sel (decide (m9 = 0))
 (sel m2
 (sel (!m5)
 (Call1 Tryz.prog f_cordonref_SameInts [.sl .int m8, .sl .int ([0, 1])] .bool fun c12 =>
 R (dB c12))
 (R (dB false)))
 (R (dB false)))
 (R (dB false)))
 (R (dB false)))
 (R (dB false)))
 (R (dB false))) := by kernel_rfl
theorem cordonlaw_modelBegun_sat {r : D}  (h : (∀ d ∈ [], okD d) → fnD Tryz.prog Ev cordonlaw_modelBegun_A Tryz.f18.results.toList (bodyOf Tryz.f18) [] fun d => d = r) : Sat Tryz.prog f_cordonlaw_modelBegun [] r := by
  have h2 := sat_of (r := r) (args := []) (A := cordonlaw_modelBegun_A) (fn := Tryz.f18) (body := bodyOf Tryz.f18) (f := f_cordonlaw_modelBegun) factsEv Tryz.func18 (by kernel_rfl) (by rw [Tryz.ntmps18]; rfl) (by rw [Tryz.ntmps18]; exact Nat.le_of_ble_eq_true rfl)
  with_reducible exact h2 h
/-! ### cordon/cordonlaw.clauseBegun -/
def cordonlaw_clauseBegun_A : Ann := { own := [], live := [], n := 69, nils := [], pubs := [] }
theorem cordonlaw_clauseBegun_eq  (R : D → Prop) : fnD Tryz.prog Ev cordonlaw_clauseBegun_A Tryz.f19.results.toList (bodyOf Tryz.f19) [] R =
 (Call1 Tryz.prog f_cordonlaw_two [] .mdl fun c1 =>
 Call2 Tryz.prog f_clause_Holds [dM c1, .sl .lit ([(⟨0, 3, 2⟩ : LitD), (⟨1, 2, 1⟩ : LitD)]), .sl .int ([0, 1])] .bool .int fun c2 c3 =>
 Call1 Tryz.prog f_cordonlaw_two [] .mdl fun c4 =>
 Call2 Tryz.prog f_clause_Unit [dM c4, dS ([[0, 1], [0, 1, 2]]), .sl .lit ([(⟨0, 3, 2⟩ : LitD), (⟨1, 2, 1⟩ : LitD)])] (.list (.list .int)) .int fun c5 c6 =>
 Call1 Tryz.prog f_cordonlaw_two [] .mdl fun c7 =>
 Call2 Tryz.prog f_clause_Deny [dM c7, dS ([[0, 1], [0, 1, 2]]), .sl .lit ([(⟨0, 3, 2⟩ : LitD), (⟨1, 2, 1⟩ : LitD)])] (.list (.list .int)) .int fun c8 c9 =>
 Call1 Tryz.prog f_cordonlaw_two [] .mdl fun c10 =>
 Call1 Tryz.prog f_clause_Check [dM c10, .sl .lit ([(⟨0, 3, 2⟩ : LitD), (⟨1, 2, 1⟩ : LitD)])] .int fun c11 =>
 sel (decide (c11 = 0))
 (sel (decide (c3 = 0))
 (sel (decide (c6 = 0))
 (sel (decide (c9 = 0))
 (sel c2
 (Call1 Tryz.prog f_cordonref_SameStore [dS c5, dS ([[0, 1], [1, 2]])] .bool fun c12 =>
 sel c12
 (Call1 Tryz.prog f_cordonref_SameStore [dS c8, dS ([[0, 1], [0]])] .bool fun c13 =>
 R (dB c13))
 (R (dB false)))
 (R (dB false)))
 (R (dB false)))
 (R (dB false)))
 (R (dB false)))
 (R (dB false))) := by kernel_rfl
theorem cordonlaw_clauseBegun_sat {r : D}  (h : (∀ d ∈ [], okD d) → fnD Tryz.prog Ev cordonlaw_clauseBegun_A Tryz.f19.results.toList (bodyOf Tryz.f19) [] fun d => d = r) : Sat Tryz.prog f_cordonlaw_clauseBegun [] r := by
  have h2 := sat_of (r := r) (args := []) (A := cordonlaw_clauseBegun_A) (fn := Tryz.f19) (body := bodyOf Tryz.f19) (f := f_cordonlaw_clauseBegun) factsEv Tryz.func19 (by kernel_rfl) (by rw [Tryz.ntmps19]; rfl) (by rw [Tryz.ntmps19]; exact Nat.le_of_ble_eq_true rfl)
  with_reducible exact h2 h
/-! ### cordon/cordonlaw.allClauses -/
def cordonlaw_allClauses_A : Ann := { own := [], live := [(0, ([1, 2, 3, 7], []))], n := 32, nils := [], pubs := [] }
def cordonlaw_allClauses_I0 (a0 : MdlD) (a1 : List (List LitD)) (a2 : List Int) (R : D → Prop) (n0 : Nat) (i1 : Int) : Prop := iter (den Tryz.prog Ev cordonlaw_allClauses_A (sub [1, 0, 1, 0, 0] (bodyOf Tryz.f21)) 0) cordonlaw_allClauses_A (liveOf cordonlaw_allClauses_A 0) n0 ⟨[(1, .sl (.list .lit) a1), (2, .sl .int a2), (3, .iptr [.sl .var a0.vars, .sl .con a0.cons, dI a0.goal, dI a0.var] 0), (7, dI i1)], []⟩ (blockK 0 (seqK Tryz.prog Ev cordonlaw_allClauses_A (sub [1, 1] (bodyOf Tryz.f21)) 0 (endK Ev Tryz.f21.results.toList R)))
theorem cordonlaw_allClauses_I0_eq (a0 : MdlD) (a1 : List (List LitD)) (a2 : List Int) (R : D → Prop) (n0 : Nat) (i1 : Int) : cordonlaw_allClauses_I0 a0 a1 a2 R (n0 + 1) i1 =
 (sel (decide (i1 < (a1.length : Int)))
 (inb i1 a1.length = true ∧
 Call2 Tryz.prog f_clause_Holds [dM a0, .sl .lit (at' (.list .lit) a1 i1.toNat), .sl .int a2] .bool .int fun c2 c3 =>
 sel (!decide (c3 = 0))
 (R (dB false))
 (sel (!c2)
 (R (dB false))
 (cordonlaw_allClauses_I0 a0 a1 a2 R n0 (w64 (i1 + 1)))))
 (R (dB true))) := by kernel_rfl
theorem cordonlaw_allClauses_eq (a0 : MdlD) (a1 : List (List LitD)) (a2 : List Int) (R : D → Prop) : fnD Tryz.prog Ev cordonlaw_allClauses_A Tryz.f21.results.toList (bodyOf Tryz.f21) [dM a0, .sl (.list .lit) a1, .sl .int a2] R =
 (∃ n0, cordonlaw_allClauses_I0 a0 a1 a2 R n0 0) := by kernel_rfl
theorem cordonlaw_allClauses_sat {r : D} (a0 : MdlD) (a1 : List (List LitD)) (a2 : List Int) (h : (∀ d ∈ [dM a0, .sl (.list .lit) a1, .sl .int a2], okD d) → fnD Tryz.prog Ev cordonlaw_allClauses_A Tryz.f21.results.toList (bodyOf Tryz.f21) [dM a0, .sl (.list .lit) a1, .sl .int a2] fun d => d = r) : Sat Tryz.prog f_cordonlaw_allClauses [dM a0, .sl (.list .lit) a1, .sl .int a2] r := by
  have h2 := sat_of (r := r) (args := [dM a0, .sl (.list .lit) a1, .sl .int a2]) (A := cordonlaw_allClauses_A) (fn := Tryz.f21) (body := bodyOf Tryz.f21) (f := f_cordonlaw_allClauses) factsEv Tryz.func21 (by kernel_rfl) (by rw [Tryz.ntmps21]; rfl) (by rw [Tryz.ntmps21]; exact Nat.le_of_ble_eq_true rfl)
  with_reducible exact h2 h
/-! ### cordon/cordonlaw.two -/
def cordonlaw_two_A : Ann := { own := [0], live := [], n := 9, nils := [], pubs := [] }
theorem cordonlaw_two_eq  (R : D → Prop) : fnD Tryz.prog Ev cordonlaw_two_A Tryz.f53.results.toList (bodyOf Tryz.f53) [] R =
 (R (.agg [.sl .var ([(⟨(⟨#[120]⟩ : ByteArray), 0, 2⟩ : VarD), (⟨(⟨#[121]⟩ : ByteArray), 0, 2⟩ : VarD)]), .sl .con ([(⟨1, [0, 1], [1, -1], -1, ([] : List (List Int)), ([] : List LitD)⟩ : ConD)]), dI 1, dI 1])) := by kernel_rfl
theorem cordonlaw_two_sat {r : D}  (h : (∀ d ∈ [], okD d) → fnD Tryz.prog Ev cordonlaw_two_A Tryz.f53.results.toList (bodyOf Tryz.f53) [] fun d => d = r) : Sat Tryz.prog f_cordonlaw_two [] r := by
  have h2 := sat_of (r := r) (args := []) (A := cordonlaw_two_A) (fn := Tryz.f53) (body := bodyOf Tryz.f53) (f := f_cordonlaw_two) factsEv Tryz.func53 (by kernel_rfl) (by rw [Tryz.ntmps53]; rfl) (by rw [Tryz.ntmps53]; exact Nat.le_of_ble_eq_true rfl)
  with_reducible exact h2 h
end Go.Proofs.YtajnbkhgnppckaaGreat
