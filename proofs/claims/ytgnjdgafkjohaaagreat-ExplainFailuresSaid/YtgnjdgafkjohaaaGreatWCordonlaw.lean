/- What the functions of a package do, as equations of plain propositions: printed by a program that carries the code out on symbols. -/
import Derived.Test.YtgnjdgafkjohaaaGreatWEv
namespace Go.Proofs.YtgnjdgafkjohaaaGreat
open Go.RowKit
set_option linter.unusedVariables false
set_option maxRecDepth 100000
/-! ### cordon/cordonlaw.ExplainFailures -/
def cordonlaw_ExplainFailures_A : Ann := { own := [], live := [], n := 102, nils := [], pubs := [] }
theorem cordonlaw_ExplainFailures_eq (a0 : MdlD) (a1 : Int) (a2 : List (List Int)) (R : D → Prop) : fnD Tryz.prog Ev cordonlaw_ExplainFailures_A Tryz.f14.results.toList (bodyOf Tryz.f14) [dM a0, dI a1, dS a2] R =
 (Call3 Tryz.prog f_explain_Failed [dM a0, dI a1, dS a2] (.list .lit) .bool .int fun e1 e2 e3 =>
 Call1 Tryz.prog f_cordonlaw_checkStore [dM a0, dS a2] .int fun c4 =>
 sel (decide (c4 = 0))
 (sel (decide (a1 < 0))
 (Call1 Tryz.prog f_cordonlaw_explainBegun [] .bool fun c5 =>
 sel (!c5)
 (R (dB false))
 (Call1 Tryz.prog f_cordonlaw_filterBegun [] .bool fun c6 =>
 sel (!c6)
 (R (dB false))
 (Call1 Tryz.prog f_cordonlaw_proofBegun [] .bool fun c7 =>
 sel (!c7)
 (R (dB false))
 (Call1 Tryz.prog f_cordonlaw_litBegun [] .bool fun c8 =>
 sel (!c8)
 (R (dB false))
 (sel (!decide (e3 = 5))
 (R (dB false))
 (sel (!decide ((5 : Int) = 0))
 (sel (!e2)
 (R (dB (decide ((e1.length : Int) = 0))))
 (R (dB false)))
 (Call2 Tryz.prog f_filter_Filter [dM a0, dI a1, dS a2] (.list (.list .int)) .int fun f9 f10 =>
 sel (!decide (f10 = 0))
 (R (dB false))
 (Call1 Tryz.prog f_cordonref_HasFailed [dS a2] .bool fun c11 =>
 sel (!c11)
 (Call1 Tryz.prog f_cordonref_HasFailed [dS f9] .bool fun c12 =>
 sel (!(e2 == c12))
 (R (dB false))
 (sel (!e2)
 (sel (decide ((e1.length : Int) = 0))
 (R (dB true))
 (sel e2
 (Call1 Tryz.prog f_cordonlaw_reason [dM a0, dI a1, dS a2, .sl .lit e1, dB false, .agg [dI 0, dI 0, dI 0]] .bool fun c13 =>
 R (dB c13))
 (R (dB false))))
 (sel e2
 (Call1 Tryz.prog f_cordonlaw_reason [dM a0, dI a1, dS a2, .sl .lit e1, dB false, .agg [dI 0, dI 0, dI 0]] .bool fun c14 =>
 R (dB c14))
 (R (dB false)))))
 (sel (!(e2 == false))
 (R (dB false))
 (sel (!e2)
 (sel (decide ((e1.length : Int) = 0))
 (R (dB true))
 (sel e2
 (Call1 Tryz.prog f_cordonlaw_reason [dM a0, dI a1, dS a2, .sl .lit e1, dB false, .agg [dI 0, dI 0, dI 0]] .bool fun c15 =>
 R (dB c15))
 (R (dB false))))
 (sel e2
 (Call1 Tryz.prog f_cordonlaw_reason [dM a0, dI a1, dS a2, .sl .lit e1, dB false, .agg [dI 0, dI 0, dI 0]] .bool fun c16 =>
 R (dB c16))
 (R (dB false)))))))))))))
 (sel (decide ((a0.cons.length : Int) ≤ a1))
 (Call1 Tryz.prog f_cordonlaw_explainBegun [] .bool fun c17 =>
 sel (!c17)
 (R (dB false))
 (Call1 Tryz.prog f_cordonlaw_filterBegun [] .bool fun c18 =>
 sel (!c18)
 (R (dB false))
 (Call1 Tryz.prog f_cordonlaw_proofBegun [] .bool fun c19 =>
 sel (!c19)
 (R (dB false))
 (Call1 Tryz.prog f_cordonlaw_litBegun [] .bool fun c20 =>
 sel (!c20)
 (R (dB false))
 (sel (!decide (e3 = 5))
 (R (dB false))
 (sel (!decide ((5 : Int) = 0))
 (sel (!e2)
 (R (dB (decide ((e1.length : Int) = 0))))
 (R (dB false)))
 (Call2 Tryz.prog f_filter_Filter [dM a0, dI a1, dS a2] (.list (.list .int)) .int fun f21 f22 =>
 sel (!decide (f22 = 0))
 (R (dB false))
 (Call1 Tryz.prog f_cordonref_HasFailed [dS a2] .bool fun c23 =>
 sel (!c23)
 (Call1 Tryz.prog f_cordonref_HasFailed [dS f21] .bool fun c24 =>
 sel (!(e2 == c24))
 (R (dB false))
 (sel (!e2)
 (sel (decide ((e1.length : Int) = 0))
 (R (dB true))
 (sel e2
 (Call1 Tryz.prog f_cordonlaw_reason [dM a0, dI a1, dS a2, .sl .lit e1, dB false, .agg [dI 0, dI 0, dI 0]] .bool fun c25 =>
 R (dB c25))
 (R (dB false))))
 (sel e2
 (Call1 Tryz.prog f_cordonlaw_reason [dM a0, dI a1, dS a2, .sl .lit e1, dB false, .agg [dI 0, dI 0, dI 0]] .bool fun c26 =>
 R (dB c26))
 (R (dB false)))))
 (sel (!(e2 == false))
 (R (dB false))
 (sel (!e2)
 (sel (decide ((e1.length : Int) = 0))
 (R (dB true))
 (sel e2
 (Call1 Tryz.prog f_cordonlaw_reason [dM a0, dI a1, dS a2, .sl .lit e1, dB false, .agg [dI 0, dI 0, dI 0]] .bool fun c27 =>
 R (dB c27))
 (R (dB false))))
 (sel e2
 (Call1 Tryz.prog f_cordonlaw_reason [dM a0, dI a1, dS a2, .sl .lit e1, dB false, .agg [dI 0, dI 0, dI 0]] .bool fun c28 =>
 R (dB c28))
 (R (dB false)))))))))))))
 (Call1 Tryz.prog f_cordonlaw_explainBegun [] .bool fun c29 =>
 sel (!c29)
 (R (dB false))
 (Call1 Tryz.prog f_cordonlaw_filterBegun [] .bool fun c30 =>
 sel (!c30)
 (R (dB false))
 (Call1 Tryz.prog f_cordonlaw_proofBegun [] .bool fun c31 =>
 sel (!c31)
 (R (dB false))
 (Call1 Tryz.prog f_cordonlaw_litBegun [] .bool fun c32 =>
 sel (!c32)
 (R (dB false))
 (sel (!decide (e3 = c4))
 (R (dB false))
 (sel (!decide (c4 = 0))
 (sel (!e2)
 (R (dB (decide ((e1.length : Int) = 0))))
 (R (dB false)))
 (Call2 Tryz.prog f_filter_Filter [dM a0, dI a1, dS a2] (.list (.list .int)) .int fun f33 f34 =>
 sel (!decide (f34 = 0))
 (R (dB false))
 (Call1 Tryz.prog f_cordonref_HasFailed [dS a2] .bool fun c35 =>
 sel (!c35)
 (Call1 Tryz.prog f_cordonref_HasFailed [dS f33] .bool fun c36 =>
 sel (!(e2 == c36))
 (R (dB false))
 (sel (!e2)
 (sel (decide ((e1.length : Int) = 0))
 (R (dB true))
 (sel e2
 (Call1 Tryz.prog f_cordonlaw_reason [dM a0, dI a1, dS a2, .sl .lit e1, dB false, .agg [dI 0, dI 0, dI 0]] .bool fun c37 =>
 R (dB c37))
 (R (dB false))))
 (sel e2
 (Call1 Tryz.prog f_cordonlaw_reason [dM a0, dI a1, dS a2, .sl .lit e1, dB false, .agg [dI 0, dI 0, dI 0]] .bool fun c38 =>
 R (dB c38))
 (R (dB false)))))
 (sel (!(e2 == false))
 (R (dB false))
 (sel (!e2)
 (sel (decide ((e1.length : Int) = 0))
 (R (dB true))
 (sel e2
 (Call1 Tryz.prog f_cordonlaw_reason [dM a0, dI a1, dS a2, .sl .lit e1, dB false, .agg [dI 0, dI 0, dI 0]] .bool fun c39 =>
 R (dB c39))
 (R (dB false))))
 (sel e2
 (Call1 Tryz.prog f_cordonlaw_reason [dM a0, dI a1, dS a2, .sl .lit e1, dB false, .agg [dI 0, dI 0, dI 0]] .bool fun c40 =>
 R (dB c40))
 (R (dB false)))))))))))))))
 (Call1 Tryz.prog f_cordonlaw_explainBegun [] .bool fun c41 =>
 sel (!c41)
 (R (dB false))
 (Call1 Tryz.prog f_cordonlaw_filterBegun [] .bool fun c42 =>
 sel (!c42)
 (R (dB false))
 (Call1 Tryz.prog f_cordonlaw_proofBegun [] .bool fun c43 =>
 sel (!c43)
 (R (dB false))
 (Call1 Tryz.prog f_cordonlaw_litBegun [] .bool fun c44 =>
 sel (!c44)
 (R (dB false))
 (sel (!decide (e3 = c4))
 (R (dB false))
 (sel (!decide (c4 = 0))
 (sel (!e2)
 (R (dB (decide ((e1.length : Int) = 0))))
 (R (dB false)))
 (Call2 Tryz.prog f_filter_Filter [dM a0, dI a1, dS a2] (.list (.list .int)) .int fun f45 f46 =>
 sel (!decide (f46 = 0))
 (R (dB false))
 (Call1 Tryz.prog f_cordonref_HasFailed [dS a2] .bool fun c47 =>
 sel (!c47)
 (Call1 Tryz.prog f_cordonref_HasFailed [dS f45] .bool fun c48 =>
 sel (!(e2 == c48))
 (R (dB false))
 (sel (!e2)
 (sel (decide ((e1.length : Int) = 0))
 (R (dB true))
 (sel e2
 (Call1 Tryz.prog f_cordonlaw_reason [dM a0, dI a1, dS a2, .sl .lit e1, dB false, .agg [dI 0, dI 0, dI 0]] .bool fun c49 =>
 R (dB c49))
 (R (dB false))))
 (sel e2
 (Call1 Tryz.prog f_cordonlaw_reason [dM a0, dI a1, dS a2, .sl .lit e1, dB false, .agg [dI 0, dI 0, dI 0]] .bool fun c50 =>
 R (dB c50))
 (R (dB false)))))
 (sel (!(e2 == false))
 (R (dB false))
 (sel (!e2)
 (sel (decide ((e1.length : Int) = 0))
 (R (dB true))
 (sel e2
 (Call1 Tryz.prog f_cordonlaw_reason [dM a0, dI a1, dS a2, .sl .lit e1, dB false, .agg [dI 0, dI 0, dI 0]] .bool fun c51 =>
 R (dB c51))
 (R (dB false))))
 (sel e2
 (Call1 Tryz.prog f_cordonlaw_reason [dM a0, dI a1, dS a2, .sl .lit e1, dB false, .agg [dI 0, dI 0, dI 0]] .bool fun c52 =>
 R (dB c52))
 (R (dB false)))))))))))))) := by kernel_rfl
theorem cordonlaw_ExplainFailures_sat {r : D} (a0 : MdlD) (a1 : Int) (a2 : List (List Int)) (h : (∀ d ∈ [dM a0, dI a1, dS a2], okD d) → fnD Tryz.prog Ev cordonlaw_ExplainFailures_A Tryz.f14.results.toList (bodyOf Tryz.f14) [dM a0, dI a1, dS a2] fun d => d = r) : Sat Tryz.prog f_cordonlaw_ExplainFailures [dM a0, dI a1, dS a2] r := by
  have h2 := sat_of (r := r) (args := [dM a0, dI a1, dS a2]) (A := cordonlaw_ExplainFailures_A) (fn := Tryz.f14) (body := bodyOf Tryz.f14) (f := f_cordonlaw_ExplainFailures) factsEv Tryz.func14 (by kernel_rfl) (by rw [Tryz.ntmps14]; rfl) (by rw [Tryz.ntmps14]; exact Nat.le_of_ble_eq_true rfl)
  with_reducible exact h2 h
/-! ### cordon/cordonlaw.checkStore -/
def cordonlaw_checkStore_A : Ann := { own := [], live := [], n := 14, nils := [], pubs := [] }
theorem cordonlaw_checkStore_eq (a0 : MdlD) (a1 : List (List Int)) (R : D → Prop) : fnD Tryz.prog Ev cordonlaw_checkStore_A Tryz.f16.results.toList (bodyOf Tryz.f16) [dM a0, dS a1] R =
 (Call1 Tryz.prog f_cordonref_CheckModel [dM a0] .int fun c1 =>
 sel (decide (c1 = 0))
 (Call1 Tryz.prog f_cordonref_CheckStore [dM a0, dS a1] .int fun c2 =>
 R (dI c2))
 (R (dI c1))) := by kernel_rfl
theorem cordonlaw_checkStore_sat {r : D} (a0 : MdlD) (a1 : List (List Int)) (h : (∀ d ∈ [dM a0, dS a1], okD d) → fnD Tryz.prog Ev cordonlaw_checkStore_A Tryz.f16.results.toList (bodyOf Tryz.f16) [dM a0, dS a1] fun d => d = r) : Sat Tryz.prog f_cordonlaw_checkStore [dM a0, dS a1] r := by
  have h2 := sat_of (r := r) (args := [dM a0, dS a1]) (A := cordonlaw_checkStore_A) (fn := Tryz.f16) (body := bodyOf Tryz.f16) (f := f_cordonlaw_checkStore) factsEv Tryz.func16 (by kernel_rfl) (by rw [Tryz.ntmps16]; rfl) (by rw [Tryz.ntmps16]; exact Nat.le_of_ble_eq_true rfl)
  with_reducible exact h2 h
/-! ### cordon/cordonlaw.filterBegun -/
def cordonlaw_filterBegun_A : Ann := { own := [], live := [], n := 20, nils := [], pubs := [] }
theorem cordonlaw_filterBegun_eq  (R : D → Prop) : fnD Tryz.prog Ev cordonlaw_filterBegun_A Tryz.f18.results.toList (bodyOf Tryz.f18) [] R =
 (Call1 Tryz.prog f_cordonlaw_two [] .mdl fun c1 =>
 Call2 Tryz.prog f_filter_Filter [dM c1, dI 0, dS ([[0, 1, 2], [0, 1, 2]])] (.list (.list .int)) .int fun f2 f3 =>
 sel (decide (f3 = 0))
 (Call1 Tryz.prog f_cordonref_SameStore [dS f2, dS ([[0, 1], [1, 2]])] .bool fun c4 =>
 R (dB c4))
 (R (dB false))) := by kernel_rfl
theorem cordonlaw_filterBegun_sat {r : D}  (h : (∀ d ∈ [], okD d) → fnD Tryz.prog Ev cordonlaw_filterBegun_A Tryz.f18.results.toList (bodyOf Tryz.f18) [] fun d => d = r) : Sat Tryz.prog f_cordonlaw_filterBegun [] r := by
  have h2 := sat_of (r := r) (args := []) (A := cordonlaw_filterBegun_A) (fn := Tryz.f18) (body := bodyOf Tryz.f18) (f := f_cordonlaw_filterBegun) factsEv Tryz.func18 (by kernel_rfl) (by rw [Tryz.ntmps18]; rfl) (by rw [Tryz.ntmps18]; exact Nat.le_of_ble_eq_true rfl)
  with_reducible exact h2 h
/-! ### cordon/cordonlaw.proofBegun -/
def cordonlaw_proofBegun_A : Ann := { own := [], live := [], n := 74, nils := [], pubs := [] }
theorem cordonlaw_proofBegun_eq  (R : D → Prop) : fnD Tryz.prog Ev cordonlaw_proofBegun_A Tryz.f38.results.toList (bodyOf Tryz.f38) [] R =
 (Call1 Tryz.prog f_cordonlaw_two [] .mdl fun c1 =>
 Call2 Tryz.prog f_proof_Con [dM c1, dI 0, .sl .lit ([(⟨0, 1, 1⟩ : LitD)])] .bool .int fun p2 p3 =>
 Call1 Tryz.prog f_cordonlaw_two [] .mdl fun c4 =>
 Call2 Tryz.prog f_proof_Unit [dM c4, .sl (.list .lit) ([[(⟨0, 1, 1⟩ : LitD)]]), .sl .lit ([(⟨0, 4, 2⟩ : LitD)])] .bool .int fun p5 p6 =>
 Call1 Tryz.prog f_cordonlaw_two [] .mdl fun c7 =>
 Call2 Tryz.prog f_proof_Check [dM c7, .sl (.list .lit) ([] : List (List LitD)), .sl .step ([(⟨1, 0, [(⟨0, 1, 1⟩ : LitD)]⟩ : StepD)])] .bool .int fun p8 p9 =>
 Call1 Tryz.prog f_cordonlaw_two [] .mdl fun c10 =>
 Call2 Tryz.prog f_proof_Check [dM c10, .sl (.list .lit) ([[(⟨0, 2, 2⟩ : LitD)]]), .sl .step ([(⟨1, 0, [(⟨0, 1, 1⟩ : LitD)]⟩ : StepD), (⟨2, 0, ([] : List LitD)⟩ : StepD)])] .bool .int fun p11 p12 =>
 sel (decide (p3 = 0))
 (sel (decide (p6 = 0))
 (sel (decide (p9 = 0))
 (sel (decide (p12 = 0))
 (sel p2
 (sel p5
 (sel (!p8)
 (R (dB p11))
 (R (dB false)))
 (R (dB false)))
 (R (dB false)))
 (R (dB false)))
 (R (dB false)))
 (R (dB false)))
 (R (dB false))) := by kernel_rfl
theorem cordonlaw_proofBegun_sat {r : D}  (h : (∀ d ∈ [], okD d) → fnD Tryz.prog Ev cordonlaw_proofBegun_A Tryz.f38.results.toList (bodyOf Tryz.f38) [] fun d => d = r) : Sat Tryz.prog f_cordonlaw_proofBegun [] r := by
  have h2 := sat_of (r := r) (args := []) (A := cordonlaw_proofBegun_A) (fn := Tryz.f38) (body := bodyOf Tryz.f38) (f := f_cordonlaw_proofBegun) factsEv Tryz.func38 (by kernel_rfl) (by rw [Tryz.ntmps38]; rfl) (by rw [Tryz.ntmps38]; exact Nat.le_of_ble_eq_true rfl)
  with_reducible exact h2 h
/-! ### cordon/cordonlaw.explainBegun -/
def cordonlaw_explainBegun_A : Ann := { own := [], live := [], n := 67, nils := [], pubs := [] }
theorem cordonlaw_explainBegun_eq  (R : D → Prop) : fnD Tryz.prog Ev cordonlaw_explainBegun_A Tryz.f47.results.toList (bodyOf Tryz.f47) [] R =
 (Call1 Tryz.prog f_cordonlaw_two [] .mdl fun c1 =>
 Call3 Tryz.prog f_explain_Removed [dM c1, dI 0, dS ([[0, 1, 2], [0, 1]]), dI 0, dI 1] (.list .lit) .bool .int fun e2 e3 e4 =>
 Call1 Tryz.prog f_cordonlaw_two [] .mdl fun c5 =>
 Call3 Tryz.prog f_explain_Removed [dM c5, dI 0, dS ([[0, 1, 2], [0, 1]]), dI 0, dI 0] (.list .lit) .bool .int fun e6 e7 e8 =>
 Call1 Tryz.prog f_cordonlaw_two [] .mdl fun c9 =>
 Call3 Tryz.prog f_explain_Failed [dM c9, dI 0, dS ([[2], [0]])] (.list .lit) .bool .int fun e10 e11 e12 =>
 sel (decide (e4 = 0))
 (sel (decide (e8 = 0))
 (sel (decide (e12 = 0))
 (sel e3
 (sel (!e7)
 (sel e11
 (sel (decide ((e2.length : Int) = 2))
 (R (dB (decide (0 < (e10.length : Int)))))
 (R (dB false)))
 (R (dB false)))
 (R (dB false)))
 (R (dB false)))
 (R (dB false)))
 (R (dB false)))
 (R (dB false))) := by kernel_rfl
theorem cordonlaw_explainBegun_sat {r : D}  (h : (∀ d ∈ [], okD d) → fnD Tryz.prog Ev cordonlaw_explainBegun_A Tryz.f47.results.toList (bodyOf Tryz.f47) [] fun d => d = r) : Sat Tryz.prog f_cordonlaw_explainBegun [] r := by
  have h2 := sat_of (r := r) (args := []) (A := cordonlaw_explainBegun_A) (fn := Tryz.f47) (body := bodyOf Tryz.f47) (f := f_cordonlaw_explainBegun) factsEv Tryz.func47 (by kernel_rfl) (by rw [Tryz.ntmps47]; rfl) (by rw [Tryz.ntmps47]; exact Nat.le_of_ble_eq_true rfl)
  with_reducible exact h2 h
/-! ### cordon/cordonlaw.litBegun -/
def cordonlaw_litBegun_A : Ann := { own := [1, 4], live := [], n := 80, nils := [], pubs := [] }
theorem cordonlaw_litBegun_eq  (R : D → Prop) : fnD Tryz.prog Ev cordonlaw_litBegun_A Tryz.f52.results.toList (bodyOf Tryz.f52) [] R =
 (Call1 Tryz.prog f_cordonlaw_two [] .mdl fun c1 =>
 Call2 Tryz.prog f_lit_Holds [dM c1, .agg [dI 1, dI 1, dI 1], dI 1] .bool .int fun l2 l3 =>
 Call1 Tryz.prog f_cordonlaw_two [] .mdl fun c4 =>
 (Call2 Tryz.prog f_lit_Not [dM c4, .agg [dI 1, dI 1, dI 1]] .lit .int fun l5 l6 =>
 Call1 Tryz.prog f_cordonlaw_two [] .mdl fun c7 =>
 Call2 Tryz.prog f_lit_Told [dM c7, dS ([[0, 1, 2], [0, 1, 2]]), .agg [dI 1, dI 1, dI 1]] .int .int fun l8 l9 =>
 Call1 Tryz.prog f_cordonlaw_two [] .mdl fun c10 =>
 Call2 Tryz.prog f_lit_Put [dM c10, dS ([[0, 1, 2], [0, 1, 2]]), .agg [dI 1, dI 1, dI 1]] (.list (.list .int)) .int fun l11 l12 =>
 Call1 Tryz.prog f_cordonlaw_two [] .mdl fun c13 =>
 Call1 Tryz.prog f_lit_Check [dM c13, .agg [dI 1, dI 1, dI 1]] .int fun l14 =>
 sel (decide (l14 = 0))
 (sel (decide (l3 = 0))
 (sel (decide (l6 = 0))
 (sel (decide (l9 = 0))
 (sel (decide (l12 = 0))
 (sel l2
 (sel (decide (l5 = (⟨1, 2, 2⟩ : LitD)))
 (sel (decide (l8 = 0))
 (Call1 Tryz.prog f_cordonref_SameStore [dS l11, dS ([[0, 1, 2], [0, 1]])] .bool fun c15 =>
 R (dB c15))
 (R (dB false)))
 (R (dB false)))
 (R (dB false)))
 (R (dB false)))
 (R (dB false)))
 (R (dB false)))
 (R (dB false)))
 (R (dB false))) ∧
 Call2 Tryz.prog f_lit_Not [dM c4, .agg [dI 1, dI 1, dI 1]] .lit .int fun l16 l17 =>
 Call1 Tryz.prog f_cordonlaw_two [] .mdl fun c18 =>
 Call2 Tryz.prog f_lit_Told [dM c18, dS ([[0, 1, 2], [0, 1, 2]]), .agg [dI 1, dI 1, dI 1]] .int .int fun l19 l20 =>
 Call1 Tryz.prog f_cordonlaw_two [] .mdl fun c21 =>
 Call2 Tryz.prog f_lit_Put [dM c21, dS ([[0, 1, 2], [0, 1, 2]]), .agg [dI 1, dI 1, dI 1]] (.list (.list .int)) .int fun l22 l23 =>
 Call1 Tryz.prog f_cordonlaw_two [] .mdl fun c24 =>
 Call1 Tryz.prog f_lit_Check [dM c24, .agg [dI 1, dI 1, dI 1]] .int fun l25 =>
 sel (decide (l25 = 0))
 (sel (decide (l3 = 0))
 (sel (decide (l17 = 0))
 (sel (decide (l20 = 0))
 (sel (decide (l23 = 0))
 (sel l2
 (sel (decide (l16 = (⟨1, 2, 2⟩ : LitD)))
 (sel (decide (l19 = 0))
 (Call1 Tryz.prog f_cordonref_SameStore [dS l22, dS ([[0, 1, 2], [0, 1]])] .bool fun c26 =>
 R (dB c26))
 (R (dB false)))
 (R (dB false)))
 (R (dB false)))
 (R (dB false)))
 (R (dB false)))
 (R (dB false)))
 (R (dB false)))
 (R (dB false))) := by kernel_rfl
theorem cordonlaw_litBegun_sat {r : D}  (h : (∀ d ∈ [], okD d) → fnD Tryz.prog Ev cordonlaw_litBegun_A Tryz.f52.results.toList (bodyOf Tryz.f52) [] fun d => d = r) : Sat Tryz.prog f_cordonlaw_litBegun [] r := by
  have h2 := sat_of (r := r) (args := []) (A := cordonlaw_litBegun_A) (fn := Tryz.f52) (body := bodyOf Tryz.f52) (f := f_cordonlaw_litBegun) factsEv Tryz.func52 (by kernel_rfl) (by rw [Tryz.ntmps52]; rfl) (by rw [Tryz.ntmps52]; exact Nat.le_of_ble_eq_true rfl)
  with_reducible exact h2 h
/-! ### cordon/cordonlaw.reason -/
def cordonlaw_reason_A : Ann := { own := [67, 71, 76], live := [(0, ([1, 2, 3, 4, 6, 11, 15, 16], []))], n := 95, nils := [], pubs := [] }
def cordonlaw_reason_I0 (a0 : MdlD) (a1 : Int) (a2 : List (List Int)) (a3 : List LitD) (a4 : Bool) (a5 : LitD) (R : D → Prop) (n0 : Nat) (v3 : Int) (v4 : Int) : Prop := iter (den Tryz.prog Ev cordonlaw_reason_A (sub [1, 1, 1, 1, 0, 1, 0, 0] (bodyOf Tryz.f54)) 0) cordonlaw_reason_A (liveOf cordonlaw_reason_A 0) n0 ⟨[(1, dI a1), (2, dS a2), (3, .sl .lit a3), (4, dB a4), (6, .iptr [.sl .var a0.vars, .sl .con a0.cons, dI a0.goal, dI a0.var] 0), (11, .iptr [dI a5.var, dI a5.op, dI a5.n] 0), (15, dI v3), (16, dI v4)], []⟩ (blockK 0 (seqK Tryz.prog Ev cordonlaw_reason_A (sub [1, 1, 1, 1, 1] (bodyOf Tryz.f54)) 0 (endK Ev Tryz.f54.results.toList R)))
theorem cordonlaw_reason_I0_eq (a0 : MdlD) (a1 : Int) (a2 : List (List Int)) (a3 : List LitD) (a4 : Bool) (a5 : LitD) (R : D → Prop) (n0 : Nat) (v3 : Int) (v4 : Int) : cordonlaw_reason_I0 a0 a1 a2 a3 a4 a5 R (n0 + 1) v3 v4 =
 (sel (decide (v4 < (a3.length : Int)))
 (sel a4
 (inb v4 a3.length = true ∧
 sel (decide ((at' .lit a3 v4.toNat) = a5))
 (cordonlaw_reason_I0 a0 a1 a2 a3 a4 a5 R n0 (w64 (v3 + 1)) (w64 (v4 + 1)))
 (inb v4 a3.length = true ∧
 Call2 Tryz.prog f_lit_Told [dM a0, dS a2, dL (at' .lit a3 v4.toNat)] .int .int fun l5 l6 =>
 sel (!decide (l6 = 0))
 (R (dB false))
 (sel (!decide (l5 = (-1)))
 (R (dB false))
 (inSl 0 v4 a3.length = true ∧
 inSl (w64 (v4 + 1)) (a3.length : Int) a3.length = true ∧
 room .lit (([] : List LitD).length + ((a3.take v4.toNat).drop 0).length) = true ∧
 room .lit ((([] : List LitD) ++ ((a3.take v4.toNat).drop 0)).length + ((a3.take (a3.length : Int).toNat).drop (w64 (v4 + 1)).toNat).length) = true ∧
 Call2 Tryz.prog f_proof_Con [dM a0, dI a1, .sl .lit ((([] : List LitD) ++ ((a3.take v4.toNat).drop 0)) ++ ((a3.take (a3.length : Int).toNat).drop (w64 (v4 + 1)).toNat))] .bool .int fun p7 p8 =>
 sel (!decide (p8 = 0))
 (R (dB false))
 (sel p7
 (R (dB false))
 (cordonlaw_reason_I0 a0 a1 a2 a3 a4 a5 R n0 v3 (w64 (v4 + 1))))))))
 (inb v4 a3.length = true ∧
 Call2 Tryz.prog f_lit_Told [dM a0, dS a2, dL (at' .lit a3 v4.toNat)] .int .int fun l9 l10 =>
 sel (!decide (l10 = 0))
 (R (dB false))
 (sel (!decide (l9 = (-1)))
 (R (dB false))
 (inSl 0 v4 a3.length = true ∧
 inSl (w64 (v4 + 1)) (a3.length : Int) a3.length = true ∧
 room .lit (([] : List LitD).length + ((a3.take v4.toNat).drop 0).length) = true ∧
 room .lit ((([] : List LitD) ++ ((a3.take v4.toNat).drop 0)).length + ((a3.take (a3.length : Int).toNat).drop (w64 (v4 + 1)).toNat).length) = true ∧
 Call2 Tryz.prog f_proof_Con [dM a0, dI a1, .sl .lit ((([] : List LitD) ++ ((a3.take v4.toNat).drop 0)) ++ ((a3.take (a3.length : Int).toNat).drop (w64 (v4 + 1)).toNat))] .bool .int fun p11 p12 =>
 sel (!decide (p12 = 0))
 (R (dB false))
 (sel p11
 (R (dB false))
 (cordonlaw_reason_I0 a0 a1 a2 a3 a4 a5 R n0 v3 (w64 (v4 + 1))))))))
 (sel (!a4)
 (R (dB true))
 (R (dB (decide (v3 = 1)))))) := by kernel_rfl
theorem cordonlaw_reason_eq (a0 : MdlD) (a1 : Int) (a2 : List (List Int)) (a3 : List LitD) (a4 : Bool) (a5 : LitD) (R : D → Prop) : fnD Tryz.prog Ev cordonlaw_reason_A Tryz.f54.results.toList (bodyOf Tryz.f54) [dM a0, dI a1, dS a2, .sl .lit a3, dB a4, dL a5] R =
 (Call2 Tryz.prog f_proof_Con [dM a0, dI a1, .sl .lit a3] .bool .int fun p1 p2 =>
 sel (!decide (p2 = 0))
 (R (dB false))
 (sel (!p1)
 (R (dB false))
 (∃ n0, cordonlaw_reason_I0 a0 a1 a2 a3 a4 a5 R n0 0 0))) := by kernel_rfl
theorem cordonlaw_reason_sat {r : D} (a0 : MdlD) (a1 : Int) (a2 : List (List Int)) (a3 : List LitD) (a4 : Bool) (a5 : LitD) (h : (∀ d ∈ [dM a0, dI a1, dS a2, .sl .lit a3, dB a4, dL a5], okD d) → fnD Tryz.prog Ev cordonlaw_reason_A Tryz.f54.results.toList (bodyOf Tryz.f54) [dM a0, dI a1, dS a2, .sl .lit a3, dB a4, dL a5] fun d => d = r) : Sat Tryz.prog f_cordonlaw_reason [dM a0, dI a1, dS a2, .sl .lit a3, dB a4, dL a5] r := by
  have h2 := sat_of (r := r) (args := [dM a0, dI a1, dS a2, .sl .lit a3, dB a4, dL a5]) (A := cordonlaw_reason_A) (fn := Tryz.f54) (body := bodyOf Tryz.f54) (f := f_cordonlaw_reason) factsEv Tryz.func54 (by kernel_rfl) (by rw [Tryz.ntmps54]; rfl) (by rw [Tryz.ntmps54]; exact Nat.le_of_ble_eq_true rfl)
  with_reducible exact h2 h
/-! ### cordon/cordonlaw.two -/
def cordonlaw_two_A : Ann := { own := [0], live := [], n := 9, nils := [], pubs := [] }
theorem cordonlaw_two_eq  (R : D → Prop) : fnD Tryz.prog Ev cordonlaw_two_A Tryz.f63.results.toList (bodyOf Tryz.f63) [] R =
 (R (.agg [.sl .var ([(⟨(⟨#[120]⟩ : ByteArray), 0, 2⟩ : VarD), (⟨(⟨#[121]⟩ : ByteArray), 0, 2⟩ : VarD)]), .sl .con ([(⟨1, [0, 1], [1, -1], -1, ([] : List (List Int)), ([] : List LitD)⟩ : ConD)]), dI 1, dI 1])) := by kernel_rfl
theorem cordonlaw_two_sat {r : D}  (h : (∀ d ∈ [], okD d) → fnD Tryz.prog Ev cordonlaw_two_A Tryz.f63.results.toList (bodyOf Tryz.f63) [] fun d => d = r) : Sat Tryz.prog f_cordonlaw_two [] r := by
  have h2 := sat_of (r := r) (args := []) (A := cordonlaw_two_A) (fn := Tryz.f63) (body := bodyOf Tryz.f63) (f := f_cordonlaw_two) factsEv Tryz.func63 (by kernel_rfl) (by rw [Tryz.ntmps63]; rfl) (by rw [Tryz.ntmps63]; exact Nat.le_of_ble_eq_true rfl)
  with_reducible exact h2 h
end Go.Proofs.YtgnjdgafkjohaaaGreat
