/- What the functions of a package do, as equations of plain propositions: printed by a program that carries the code out on symbols. -/
import Derived.Test.YtgnjdgafkjohaaaGreatWEv
namespace Go.Proofs.YtgnjdgafkjohaaaGreat
open Go.RowKit
set_option linter.unusedVariables false
set_option maxRecDepth 100000
/-! ### cordon/cordonlaw.ProofSound -/
def cordonlaw_ProofSound_A : Ann := { own := [], live := [(0, ([2, 3, 4, 9, 12], []))], n := 106, nils := [], pubs := [] }
def cordonlaw_ProofSound_I0 (a0 : MdlD) (a2 : List StepD) (a3 : List Int) (R : D → Prop) (m4 : Bool) (n0 : Nat) (v9 : Int) : Prop := iter (den Tryz.prog Ev cordonlaw_ProofSound_A (sub [1, 1, 1, 1, 1, 1, 0, 1, 0, 0] (bodyOf Tryz.f12)) 0) cordonlaw_ProofSound_A (liveOf cordonlaw_ProofSound_A 0) n0 ⟨[(2, .sl .step a2), (3, .sl .int a3), (4, .iptr [.sl .var a0.vars, .sl .con a0.cons, dI a0.goal, dI a0.var] 0), (9, dB m4), (12, dI v9)], []⟩ (blockK 0 (seqK Tryz.prog Ev cordonlaw_ProofSound_A (sub [1, 1, 1, 1, 1, 1, 1] (bodyOf Tryz.f12)) 0 (endK Ev Tryz.f12.results.toList R)))
def cordonlaw_ProofSound_I0_2 (a0 : MdlD) (a2 : List StepD) (a3 : List Int) (R : D → Prop) (m4 : Bool) (n0_2 : Nat) (v14 : Int) : Prop := iter (den Tryz.prog Ev cordonlaw_ProofSound_A (sub [1, 1, 1, 1, 1, 1, 0, 1, 0, 0] (bodyOf Tryz.f12)) 0) cordonlaw_ProofSound_A (liveOf cordonlaw_ProofSound_A 0) n0_2 ⟨[(2, .sl .step a2), (3, .sl .int a3), (4, .iptr [.sl .var a0.vars, .sl .con a0.cons, dI a0.goal, dI a0.var] 0), (9, dB m4), (12, dI v14)], []⟩ (blockK 0 (seqK Tryz.prog Ev cordonlaw_ProofSound_A (sub [1, 1, 1, 1, 1, 1, 1] (bodyOf Tryz.f12)) 0 (endK Ev Tryz.f12.results.toList R)))
def cordonlaw_ProofSound_I0_3 (a0 : MdlD) (a2 : List StepD) (a3 : List Int) (R : D → Prop) (m4 : Bool) (n0_3 : Nat) (v19 : Int) : Prop := iter (den Tryz.prog Ev cordonlaw_ProofSound_A (sub [1, 1, 1, 1, 1, 1, 0, 1, 0, 0] (bodyOf Tryz.f12)) 0) cordonlaw_ProofSound_A (liveOf cordonlaw_ProofSound_A 0) n0_3 ⟨[(2, .sl .step a2), (3, .sl .int a3), (4, .iptr [.sl .var a0.vars, .sl .con a0.cons, dI a0.goal, dI a0.var] 0), (9, dB m4), (12, dI v19)], []⟩ (blockK 0 (seqK Tryz.prog Ev cordonlaw_ProofSound_A (sub [1, 1, 1, 1, 1, 1, 1] (bodyOf Tryz.f12)) 0 (endK Ev Tryz.f12.results.toList R)))
def cordonlaw_ProofSound_I0_4 (a0 : MdlD) (a2 : List StepD) (a3 : List Int) (R : D → Prop) (m4 : Bool) (n0_4 : Nat) (v24 : Int) : Prop := iter (den Tryz.prog Ev cordonlaw_ProofSound_A (sub [1, 1, 1, 1, 1, 1, 0, 1, 0, 0] (bodyOf Tryz.f12)) 0) cordonlaw_ProofSound_A (liveOf cordonlaw_ProofSound_A 0) n0_4 ⟨[(2, .sl .step a2), (3, .sl .int a3), (4, .iptr [.sl .var a0.vars, .sl .con a0.cons, dI a0.goal, dI a0.var] 0), (9, dB m4), (12, dI v24)], []⟩ (blockK 0 (seqK Tryz.prog Ev cordonlaw_ProofSound_A (sub [1, 1, 1, 1, 1, 1, 1] (bodyOf Tryz.f12)) 0 (endK Ev Tryz.f12.results.toList R)))
theorem cordonlaw_ProofSound_I0_eq (a0 : MdlD) (a2 : List StepD) (a3 : List Int) (R : D → Prop) (m4 : Bool) (n0 : Nat) (v9 : Int) : cordonlaw_ProofSound_I0 a0 a2 a3 R m4 (n0 + 1) v9 =
 (sel (decide (v9 < (a2.length : Int)))
 (inb v9 a2.length = true ∧
 inb v9 a2.length = true ∧
 Call2 Tryz.prog f_proof_Con [dM a0, dI ((at' .step a2 v9.toNat).con), .sl .lit ((at' .step a2 v9.toNat).clause)] .bool .int fun p10 p11 =>
 inb v9 a2.length = true ∧
 Call2 Tryz.prog f_clause_Holds [dM a0, .sl .lit ((at' .step a2 v9.toNat).clause), .sl .int a3] .bool .int fun c12 c13 =>
 sel (decide (p11 = 0))
 (sel p10
 (sel m4
 (sel (!decide (c13 = 0))
 (R (dB false))
 (sel (!c12)
 (R (dB false))
 (cordonlaw_ProofSound_I0 a0 a2 a3 R m4 n0 (w64 (v9 + 1)))))
 (cordonlaw_ProofSound_I0 a0 a2 a3 R m4 n0 (w64 (v9 + 1))))
 (cordonlaw_ProofSound_I0 a0 a2 a3 R m4 n0 (w64 (v9 + 1))))
 (cordonlaw_ProofSound_I0 a0 a2 a3 R m4 n0 (w64 (v9 + 1))))
 (R (dB true))) := by kernel_rfl
theorem cordonlaw_ProofSound_I0_2_eq (a0 : MdlD) (a2 : List StepD) (a3 : List Int) (R : D → Prop) (m4 : Bool) (n0_2 : Nat) (v14 : Int) : cordonlaw_ProofSound_I0_2 a0 a2 a3 R m4 (n0_2 + 1) v14 =
 (sel (decide (v14 < (a2.length : Int)))
 (inb v14 a2.length = true ∧
 inb v14 a2.length = true ∧
 Call2 Tryz.prog f_proof_Con [dM a0, dI ((at' .step a2 v14.toNat).con), .sl .lit ((at' .step a2 v14.toNat).clause)] .bool .int fun p15 p16 =>
 inb v14 a2.length = true ∧
 Call2 Tryz.prog f_clause_Holds [dM a0, .sl .lit ((at' .step a2 v14.toNat).clause), .sl .int a3] .bool .int fun c17 c18 =>
 sel (decide (p16 = 0))
 (sel p15
 (sel m4
 (sel (!decide (c18 = 0))
 (R (dB false))
 (sel (!c17)
 (R (dB false))
 (cordonlaw_ProofSound_I0_2 a0 a2 a3 R m4 n0_2 (w64 (v14 + 1)))))
 (cordonlaw_ProofSound_I0_2 a0 a2 a3 R m4 n0_2 (w64 (v14 + 1))))
 (cordonlaw_ProofSound_I0_2 a0 a2 a3 R m4 n0_2 (w64 (v14 + 1))))
 (cordonlaw_ProofSound_I0_2 a0 a2 a3 R m4 n0_2 (w64 (v14 + 1))))
 (R (dB true))) := by kernel_rfl
theorem cordonlaw_ProofSound_I0_3_eq (a0 : MdlD) (a2 : List StepD) (a3 : List Int) (R : D → Prop) (m4 : Bool) (n0_3 : Nat) (v19 : Int) : cordonlaw_ProofSound_I0_3 a0 a2 a3 R m4 (n0_3 + 1) v19 =
 (sel (decide (v19 < (a2.length : Int)))
 (inb v19 a2.length = true ∧
 inb v19 a2.length = true ∧
 Call2 Tryz.prog f_proof_Con [dM a0, dI ((at' .step a2 v19.toNat).con), .sl .lit ((at' .step a2 v19.toNat).clause)] .bool .int fun p20 p21 =>
 inb v19 a2.length = true ∧
 Call2 Tryz.prog f_clause_Holds [dM a0, .sl .lit ((at' .step a2 v19.toNat).clause), .sl .int a3] .bool .int fun c22 c23 =>
 sel (decide (p21 = 0))
 (sel p20
 (sel m4
 (sel (!decide (c23 = 0))
 (R (dB false))
 (sel (!c22)
 (R (dB false))
 (cordonlaw_ProofSound_I0_3 a0 a2 a3 R m4 n0_3 (w64 (v19 + 1)))))
 (cordonlaw_ProofSound_I0_3 a0 a2 a3 R m4 n0_3 (w64 (v19 + 1))))
 (cordonlaw_ProofSound_I0_3 a0 a2 a3 R m4 n0_3 (w64 (v19 + 1))))
 (cordonlaw_ProofSound_I0_3 a0 a2 a3 R m4 n0_3 (w64 (v19 + 1))))
 (R (dB true))) := by kernel_rfl
theorem cordonlaw_ProofSound_I0_4_eq (a0 : MdlD) (a2 : List StepD) (a3 : List Int) (R : D → Prop) (m4 : Bool) (n0_4 : Nat) (v24 : Int) : cordonlaw_ProofSound_I0_4 a0 a2 a3 R m4 (n0_4 + 1) v24 =
 (sel (decide (v24 < (a2.length : Int)))
 (inb v24 a2.length = true ∧
 inb v24 a2.length = true ∧
 Call2 Tryz.prog f_proof_Con [dM a0, dI ((at' .step a2 v24.toNat).con), .sl .lit ((at' .step a2 v24.toNat).clause)] .bool .int fun p25 p26 =>
 inb v24 a2.length = true ∧
 Call2 Tryz.prog f_clause_Holds [dM a0, .sl .lit ((at' .step a2 v24.toNat).clause), .sl .int a3] .bool .int fun c27 c28 =>
 sel (decide (p26 = 0))
 (sel p25
 (sel m4
 (sel (!decide (c28 = 0))
 (R (dB false))
 (sel (!c27)
 (R (dB false))
 (cordonlaw_ProofSound_I0_4 a0 a2 a3 R m4 n0_4 (w64 (v24 + 1)))))
 (cordonlaw_ProofSound_I0_4 a0 a2 a3 R m4 n0_4 (w64 (v24 + 1))))
 (cordonlaw_ProofSound_I0_4 a0 a2 a3 R m4 n0_4 (w64 (v24 + 1))))
 (cordonlaw_ProofSound_I0_4 a0 a2 a3 R m4 n0_4 (w64 (v24 + 1))))
 (R (dB true))) := by kernel_rfl
theorem cordonlaw_ProofSound_eq (a0 : MdlD) (a1 : List (List LitD)) (a2 : List StepD) (a3 : List Int) (R : D → Prop) : fnD Tryz.prog Ev cordonlaw_ProofSound_A Tryz.f12.results.toList (bodyOf Tryz.f12) [dM a0, .sl (.list .lit) a1, .sl .step a2, .sl .int a3] R =
 (Call1 Tryz.prog f_cordonlaw_proofBegun [] .bool fun c1 =>
 sel (!c1)
 (R (dB false))
 (Call1 Tryz.prog f_cordonlaw_modelBegun [] .bool fun c2 =>
 sel (!c2)
 (R (dB false))
 (Call1 Tryz.prog f_cordonlaw_clauseBegun [] .bool fun c3 =>
 sel (!c3)
 (R (dB false))
 (Call2 Tryz.prog f_model_All [dM a0, .sl .int a3] .bool .int fun m4 m5 =>
 sel (!decide (m5 = 0))
 (R (dB (!m4)))
 (Call2 Tryz.prog f_proof_Check [dM a0, .sl (.list .lit) a1, .sl .step a2] .bool .int fun p6 p7 =>
 sel (decide (p7 = 0))
 (sel p6
 (sel m4
 (Call1 Tryz.prog f_cordonlaw_allClauses [dM a0, .sl (.list .lit) a1, .sl .int a3] .bool fun c8 =>
 sel c8
 (R (dB false))
 (∃ n0, cordonlaw_ProofSound_I0 a0 a2 a3 R m4 n0 0))
 (∃ n0_2, cordonlaw_ProofSound_I0_2 a0 a2 a3 R m4 n0_2 0))
 (∃ n0_3, cordonlaw_ProofSound_I0_3 a0 a2 a3 R m4 n0_3 0))
 (∃ n0_4, cordonlaw_ProofSound_I0_4 a0 a2 a3 R m4 n0_4 0)))))) := by kernel_rfl
theorem cordonlaw_ProofSound_sat {r : D} (a0 : MdlD) (a1 : List (List LitD)) (a2 : List StepD) (a3 : List Int) (h : (∀ d ∈ [dM a0, .sl (.list .lit) a1, .sl .step a2, .sl .int a3], okD d) → fnD Tryz.prog Ev cordonlaw_ProofSound_A Tryz.f12.results.toList (bodyOf Tryz.f12) [dM a0, .sl (.list .lit) a1, .sl .step a2, .sl .int a3] fun d => d = r) : Sat Tryz.prog f_cordonlaw_ProofSound [dM a0, .sl (.list .lit) a1, .sl .step a2, .sl .int a3] r := by
  have h2 := sat_of (r := r) (args := [dM a0, .sl (.list .lit) a1, .sl .step a2, .sl .int a3]) (A := cordonlaw_ProofSound_A) (fn := Tryz.f12) (body := bodyOf Tryz.f12) (f := f_cordonlaw_ProofSound) factsEv Tryz.func12 (by kernel_rfl) (by rw [Tryz.ntmps12]; rfl) (by rw [Tryz.ntmps12]; exact Nat.le_of_ble_eq_true rfl)
  with_reducible exact h2 h
/-! ### cordon/cordonlaw.modelBegun -/
def cordonlaw_modelBegun_A : Ann := { own := [], live := [], n := 51, nils := [], pubs := [] }
theorem cordonlaw_modelBegun_eq  (R : D → Prop) : fnD Tryz.prog Ev cordonlaw_modelBegun_A Tryz.f25.results.toList (bodyOf Tryz.f25) [] R =
 (Call1 Tryz.prog f_cordonlaw_two [] .mdl fun c1 =>
 Call2 Tryz.prog f_model_Holds [dM c1, dI 0, .sl .int ([0, 1])] .bool .int fun m2 m3 =>
 Call1 Tryz.prog f_cordonlaw_two [] .mdl fun c4 =>
 Call2 Tryz.prog f_model_All [dM c4, .sl .int ([2, 1])] .bool .int fun m5 m6 =>
 Call1 Tryz.prog f_cordonlaw_two [] .mdl fun c7 =>
 Call2 Tryz.prog f_model_Scope [dM c7, dI 0] (.list .int) .int fun m8 m9 =>
 Call1 Tryz.prog f_cordonlaw_two [] .mdl fun c10 =>
 Call1 Tryz.prog f_model_Check [dM c10] .int fun m11 =>
 sel (decide (m11 = 0))
 (sel (decide (m3 = 0))
 (sel (decide (m6 = 0))
 (sel (decide (m9 = 0))
 (sel m2
 (sel (!m5)
 (Call1 Tryz.prog f_cordonref_SameInts [.sl .int m8, .sl .int ([0, 1])] .bool fun c12 =>
 R (dB c12))
 (R (dB false)))
 (R (dB false)))
 (R (dB false)))
 (R (dB false)))
 (R (dB false)))
 (R (dB false))) := by kernel_rfl
theorem cordonlaw_modelBegun_sat {r : D}  (h : (∀ d ∈ [], okD d) → fnD Tryz.prog Ev cordonlaw_modelBegun_A Tryz.f25.results.toList (bodyOf Tryz.f25) [] fun d => d = r) : Sat Tryz.prog f_cordonlaw_modelBegun [] r := by
  have h2 := sat_of (r := r) (args := []) (A := cordonlaw_modelBegun_A) (fn := Tryz.f25) (body := bodyOf Tryz.f25) (f := f_cordonlaw_modelBegun) factsEv Tryz.func25 (by kernel_rfl) (by rw [Tryz.ntmps25]; rfl) (by rw [Tryz.ntmps25]; exact Nat.le_of_ble_eq_true rfl)
  with_reducible exact h2 h
/-! ### cordon/cordonlaw.proofBegun -/
def cordonlaw_proofBegun_A : Ann := { own := [], live := [], n := 74, nils := [], pubs := [] }
theorem cordonlaw_proofBegun_eq  (R : D → Prop) : fnD Tryz.prog Ev cordonlaw_proofBegun_A Tryz.f38.results.toList (bodyOf Tryz.f38) [] R =
 (Call1 Tryz.prog f_cordonlaw_two [] .mdl fun c1 =>
 Call2 Tryz.prog f_proof_Con [dM c1, dI 0, .sl .lit ([(⟨0, 1, 1⟩ : LitD)])] .bool .int fun p2 p3 =>
 Call1 Tryz.prog f_cordonlaw_two [] .mdl fun c4 =>
 Call2 Tryz.prog f_proof_Unit [dM c4, .sl (.list .lit) ([[(⟨0, 1, 1⟩ : LitD)]]), .sl .lit ([(⟨0, 4, 2⟩ : LitD)])] .bool .int fun p5 p6 =>
 Call1 Tryz.prog f_cordonlaw_two [] .mdl fun c7 =>
 Call2 Tryz.prog f_proof_Check [dM c7, .sl (.list .lit) ([] : List (List LitD)), .sl .step ([(⟨1, 0, [(⟨0, 1, 1⟩ : LitD)]⟩ : StepD)])] .bool .int fun p8 p9 =>
 Call1 Tryz.prog f_cordonlaw_two [] .mdl fun c10 =>
 Call2 Tryz.prog f_proof_Check [dM c10, .sl (.list .lit) ([[(⟨0, 2, 2⟩ : LitD)]]), .sl .step ([(⟨1, 0, [(⟨0, 1, 1⟩ : LitD)]⟩ : StepD), (⟨2, 0, ([] : List LitD)⟩ : StepD)])] .bool .int fun p11 p12 =>
 sel (decide (p3 = 0))
 (sel (decide (p6 = 0))
 (sel (decide (p9 = 0))
 (sel (decide (p12 = 0))
 (sel p2
 (sel p5
 (sel (!p8)
 (R (dB p11))
 (R (dB false)))
 (R (dB false)))
 (R (dB false)))
 (R (dB false)))
 (R (dB false)))
 (R (dB false)))
 (R (dB false))) := by kernel_rfl
theorem cordonlaw_proofBegun_sat {r : D}  (h : (∀ d ∈ [], okD d) → fnD Tryz.prog Ev cordonlaw_proofBegun_A Tryz.f38.results.toList (bodyOf Tryz.f38) [] fun d => d = r) : Sat Tryz.prog f_cordonlaw_proofBegun [] r := by
  have h2 := sat_of (r := r) (args := []) (A := cordonlaw_proofBegun_A) (fn := Tryz.f38) (body := bodyOf Tryz.f38) (f := f_cordonlaw_proofBegun) factsEv Tryz.func38 (by kernel_rfl) (by rw [Tryz.ntmps38]; rfl) (by rw [Tryz.ntmps38]; exact Nat.le_of_ble_eq_true rfl)
  with_reducible exact h2 h
/-! ### cordon/cordonlaw.clauseBegun -/
def cordonlaw_clauseBegun_A : Ann := { own := [], live := [], n := 69, nils := [], pubs := [] }
theorem cordonlaw_clauseBegun_eq  (R : D → Prop) : fnD Tryz.prog Ev cordonlaw_clauseBegun_A Tryz.f44.results.toList (bodyOf Tryz.f44) [] R =
 (Call1 Tryz.prog f_cordonlaw_two [] .mdl fun c1 =>
 Call2 Tryz.prog f_clause_Holds [dM c1, .sl .lit ([(⟨0, 3, 2⟩ : LitD), (⟨1, 2, 1⟩ : LitD)]), .sl .int ([0, 1])] .bool .int fun c2 c3 =>
 Call1 Tryz.prog f_cordonlaw_two [] .mdl fun c4 =>
 Call2 Tryz.prog f_clause_Unit [dM c4, dS ([[0, 1], [0, 1, 2]]), .sl .lit ([(⟨0, 3, 2⟩ : LitD), (⟨1, 2, 1⟩ : LitD)])] (.list (.list .int)) .int fun c5 c6 =>
 Call1 Tryz.prog f_cordonlaw_two [] .mdl fun c7 =>
 Call2 Tryz.prog f_clause_Deny [dM c7, dS ([[0, 1], [0, 1, 2]]), .sl .lit ([(⟨0, 3, 2⟩ : LitD), (⟨1, 2, 1⟩ : LitD)])] (.list (.list .int)) .int fun c8 c9 =>
 Call1 Tryz.prog f_cordonlaw_two [] .mdl fun c10 =>
 Call1 Tryz.prog f_clause_Check [dM c10, .sl .lit ([(⟨0, 3, 2⟩ : LitD), (⟨1, 2, 1⟩ : LitD)])] .int fun c11 =>
 sel (decide (c11 = 0))
 (sel (decide (c3 = 0))
 (sel (decide (c6 = 0))
 (sel (decide (c9 = 0))
 (sel c2
 (Call1 Tryz.prog f_cordonref_SameStore [dS c5, dS ([[0, 1], [1, 2]])] .bool fun c12 =>
 sel c12
 (Call1 Tryz.prog f_cordonref_SameStore [dS c8, dS ([[0, 1], [0]])] .bool fun c13 =>
 R (dB c13))
 (R (dB false)))
 (R (dB false)))
 (R (dB false)))
 (R (dB false)))
 (R (dB false)))
 (R (dB false))) := by kernel_rfl
theorem cordonlaw_clauseBegun_sat {r : D}  (h : (∀ d ∈ [], okD d) → fnD Tryz.prog Ev cordonlaw_clauseBegun_A Tryz.f44.results.toList (bodyOf Tryz.f44) [] fun d => d = r) : Sat Tryz.prog f_cordonlaw_clauseBegun [] r := by
  have h2 := sat_of (r := r) (args := []) (A := cordonlaw_clauseBegun_A) (fn := Tryz.f44) (body := bodyOf Tryz.f44) (f := f_cordonlaw_clauseBegun) factsEv Tryz.func44 (by kernel_rfl) (by rw [Tryz.ntmps44]; rfl) (by rw [Tryz.ntmps44]; exact Nat.le_of_ble_eq_true rfl)
  with_reducible exact h2 h
/-! ### cordon/cordonlaw.allClauses -/
def cordonlaw_allClauses_A : Ann := { own := [], live := [(0, ([1, 2, 3, 7], []))], n := 32, nils := [], pubs := [] }
def cordonlaw_allClauses_I0 (a0 : MdlD) (a1 : List (List LitD)) (a2 : List Int) (R : D → Prop) (n0 : Nat) (i1 : Int) : Prop := iter (den Tryz.prog Ev cordonlaw_allClauses_A (sub [1, 0, 1, 0, 0] (bodyOf Tryz.f46)) 0) cordonlaw_allClauses_A (liveOf cordonlaw_allClauses_A 0) n0 ⟨[(1, .sl (.list .lit) a1), (2, .sl .int a2), (3, .iptr [.sl .var a0.vars, .sl .con a0.cons, dI a0.goal, dI a0.var] 0), (7, dI i1)], []⟩ (blockK 0 (seqK Tryz.prog Ev cordonlaw_allClauses_A (sub [1, 1] (bodyOf Tryz.f46)) 0 (endK Ev Tryz.f46.results.toList R)))
theorem cordonlaw_allClauses_I0_eq (a0 : MdlD) (a1 : List (List LitD)) (a2 : List Int) (R : D → Prop) (n0 : Nat) (i1 : Int) : cordonlaw_allClauses_I0 a0 a1 a2 R (n0 + 1) i1 =
 (sel (decide (i1 < (a1.length : Int)))
 (inb i1 a1.length = true ∧
 Call2 Tryz.prog f_clause_Holds [dM a0, .sl .lit (at' (.list .lit) a1 i1.toNat), .sl .int a2] .bool .int fun c2 c3 =>
 sel (!decide (c3 = 0))
 (R (dB false))
 (sel (!c2)
 (R (dB false))
 (cordonlaw_allClauses_I0 a0 a1 a2 R n0 (w64 (i1 + 1)))))
 (R (dB true))) := by kernel_rfl
theorem cordonlaw_allClauses_eq (a0 : MdlD) (a1 : List (List LitD)) (a2 : List Int) (R : D → Prop) : fnD Tryz.prog Ev cordonlaw_allClauses_A Tryz.f46.results.toList (bodyOf Tryz.f46) [dM a0, .sl (.list .lit) a1, .sl .int a2] R =
 (∃ n0, cordonlaw_allClauses_I0 a0 a1 a2 R n0 0) := by kernel_rfl
theorem cordonlaw_allClauses_sat {r : D} (a0 : MdlD) (a1 : List (List LitD)) (a2 : List Int) (h : (∀ d ∈ [dM a0, .sl (.list .lit) a1, .sl .int a2], okD d) → fnD Tryz.prog Ev cordonlaw_allClauses_A Tryz.f46.results.toList (bodyOf Tryz.f46) [dM a0, .sl (.list .lit) a1, .sl .int a2] fun d => d = r) : Sat Tryz.prog f_cordonlaw_allClauses [dM a0, .sl (.list .lit) a1, .sl .int a2] r := by
  have h2 := sat_of (r := r) (args := [dM a0, .sl (.list .lit) a1, .sl .int a2]) (A := cordonlaw_allClauses_A) (fn := Tryz.f46) (body := bodyOf Tryz.f46) (f := f_cordonlaw_allClauses) factsEv Tryz.func46 (by kernel_rfl) (by rw [Tryz.ntmps46]; rfl) (by rw [Tryz.ntmps46]; exact Nat.le_of_ble_eq_true rfl)
  with_reducible exact h2 h
/-! ### cordon/cordonlaw.two -/
def cordonlaw_two_A : Ann := { own := [0], live := [], n := 9, nils := [], pubs := [] }
theorem cordonlaw_two_eq  (R : D → Prop) : fnD Tryz.prog Ev cordonlaw_two_A Tryz.f63.results.toList (bodyOf Tryz.f63) [] R =
 (R (.agg [.sl .var ([(⟨(⟨#[120]⟩ : ByteArray), 0, 2⟩ : VarD), (⟨(⟨#[121]⟩ : ByteArray), 0, 2⟩ : VarD)]), .sl .con ([(⟨1, [0, 1], [1, -1], -1, ([] : List (List Int)), ([] : List LitD)⟩ : ConD)]), dI 1, dI 1])) := by kernel_rfl
theorem cordonlaw_two_sat {r : D}  (h : (∀ d ∈ [], okD d) → fnD Tryz.prog Ev cordonlaw_two_A Tryz.f63.results.toList (bodyOf Tryz.f63) [] fun d => d = r) : Sat Tryz.prog f_cordonlaw_two [] r := by
  have h2 := sat_of (r := r) (args := []) (A := cordonlaw_two_A) (fn := Tryz.f63) (body := bodyOf Tryz.f63) (f := f_cordonlaw_two) factsEv Tryz.func63 (by kernel_rfl) (by rw [Tryz.ntmps63]; rfl) (by rw [Tryz.ntmps63]; exact Nat.le_of_ble_eq_true rfl)
  with_reducible exact h2 h
end Go.Proofs.YtgnjdgafkjohaaaGreat
