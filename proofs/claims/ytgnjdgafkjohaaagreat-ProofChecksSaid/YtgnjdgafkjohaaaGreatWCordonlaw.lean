/- What the functions of a package do, as equations of plain propositions: printed by a program that carries the code out on symbols. -/
import Derived.Test.YtgnjdgafkjohaaaGreatWEv
namespace Go.Proofs.YtgnjdgafkjohaaaGreat
open Go.RowKit
set_option linter.unusedVariables false
set_option maxRecDepth 100000
/-! ### cordon/cordonlaw.ProofChecks -/
def cordonlaw_ProofChecks_A : Ann := { own := [], live := [], n := 43, nils := [], pubs := [] }
theorem cordonlaw_ProofChecks_eq (a0 : MdlD) (a1 : List (List LitD)) (a2 : List StepD) (R : D → Prop) : fnD Tryz.prog Ev cordonlaw_ProofChecks_A Tryz.f9.results.toList (bodyOf Tryz.f9) [dM a0, .sl (.list .lit) a1, .sl .step a2] R =
 (Call2 Tryz.prog f_proof_Check [dM a0, .sl (.list .lit) a1, .sl .step a2] .bool .int fun p1 p2 =>
 Call1 Tryz.prog f_cordonref_CheckModel [dM a0] .int fun c3 =>
 sel (decide (c3 = 0))
 (Call1 Tryz.prog f_cordonref_CheckSteps [dM a0, .sl (.list .lit) a1, .sl .step a2] .int fun c4 =>
 Call1 Tryz.prog f_cordonlaw_proofBegun [] .bool fun c5 =>
 sel c5
 (sel (decide (p2 = c4))
 (sel (decide (c4 = 0))
 (Call1 Tryz.prog f_cordonref_IsProof [dM a0, .sl (.list .lit) a1, .sl .step a2] .bool fun c6 =>
 R (dB (p1 == c6)))
 (R (dB (p1 == false))))
 (R (dB false)))
 (R (dB false)))
 (Call1 Tryz.prog f_cordonlaw_proofBegun [] .bool fun c7 =>
 sel c7
 (sel (decide (p2 = c3))
 (sel (decide (c3 = 0))
 (Call1 Tryz.prog f_cordonref_IsProof [dM a0, .sl (.list .lit) a1, .sl .step a2] .bool fun c8 =>
 R (dB (p1 == c8)))
 (R (dB (p1 == false))))
 (R (dB false)))
 (R (dB false)))) := by kernel_rfl
theorem cordonlaw_ProofChecks_sat {r : D} (a0 : MdlD) (a1 : List (List LitD)) (a2 : List StepD) (h : (∀ d ∈ [dM a0, .sl (.list .lit) a1, .sl .step a2], okD d) → fnD Tryz.prog Ev cordonlaw_ProofChecks_A Tryz.f9.results.toList (bodyOf Tryz.f9) [dM a0, .sl (.list .lit) a1, .sl .step a2] fun d => d = r) : Sat Tryz.prog f_cordonlaw_ProofChecks [dM a0, .sl (.list .lit) a1, .sl .step a2] r := by
  have h2 := sat_of (r := r) (args := [dM a0, .sl (.list .lit) a1, .sl .step a2]) (A := cordonlaw_ProofChecks_A) (fn := Tryz.f9) (body := bodyOf Tryz.f9) (f := f_cordonlaw_ProofChecks) factsEv Tryz.func9 (by kernel_rfl) (by rw [Tryz.ntmps9]; rfl) (by rw [Tryz.ntmps9]; exact Nat.le_of_ble_eq_true rfl)
  with_reducible exact h2 h
/-! ### cordon/cordonlaw.proofBegun -/
def cordonlaw_proofBegun_A : Ann := { own := [], live := [], n := 74, nils := [], pubs := [] }
theorem cordonlaw_proofBegun_eq  (R : D → Prop) : fnD Tryz.prog Ev cordonlaw_proofBegun_A Tryz.f38.results.toList (bodyOf Tryz.f38) [] R =
 (Call1 Tryz.prog f_cordonlaw_two [] .mdl fun c1 =>
 Call2 Tryz.prog f_proof_Con [dM c1, dI 0, .sl .lit ([(⟨0, 1, 1⟩ : LitD)])] .bool .int fun p2 p3 =>
 Call1 Tryz.prog f_cordonlaw_two [] .mdl fun c4 =>
 Call2 Tryz.prog f_proof_Unit [dM c4, .sl (.list .lit) ([[(⟨0, 1, 1⟩ : LitD)]]), .sl .lit ([(⟨0, 4, 2⟩ : LitD)])] .bool .int fun p5 p6 =>
 Call1 Tryz.prog f_cordonlaw_two [] .mdl fun c7 =>
 Call2 Tryz.prog f_proof_Check [dM c7, .sl (.list .lit) ([] : List (List LitD)), .sl .step ([(⟨1, 0, [(⟨0, 1, 1⟩ : LitD)]⟩ : StepD)])] .bool .int fun p8 p9 =>
 Call1 Tryz.prog f_cordonlaw_two [] .mdl fun c10 =>
 Call2 Tryz.prog f_proof_Check [dM c10, .sl (.list .lit) ([[(⟨0, 2, 2⟩ : LitD)]]), .sl .step ([(⟨1, 0, [(⟨0, 1, 1⟩ : LitD)]⟩ : StepD), (⟨2, 0, ([] : List LitD)⟩ : StepD)])] .bool .int fun p11 p12 =>
 sel (decide (p3 = 0))
 (sel (decide (p6 = 0))
 (sel (decide (p9 = 0))
 (sel (decide (p12 = 0))
 (sel p2
 (sel p5
 (sel (!p8)
 (R (dB p11))
 (R (dB false)))
 (R (dB false)))
 (R (dB false)))
 (R (dB false)))
 (R (dB false)))
 (R (dB false)))
 (R (dB false))) := by kernel_rfl
theorem cordonlaw_proofBegun_sat {r : D}  (h : (∀ d ∈ [], okD d) → fnD Tryz.prog Ev cordonlaw_proofBegun_A Tryz.f38.results.toList (bodyOf Tryz.f38) [] fun d => d = r) : Sat Tryz.prog f_cordonlaw_proofBegun [] r := by
  have h2 := sat_of (r := r) (args := []) (A := cordonlaw_proofBegun_A) (fn := Tryz.f38) (body := bodyOf Tryz.f38) (f := f_cordonlaw_proofBegun) factsEv Tryz.func38 (by kernel_rfl) (by rw [Tryz.ntmps38]; rfl) (by rw [Tryz.ntmps38]; exact Nat.le_of_ble_eq_true rfl)
  with_reducible exact h2 h
/-! ### cordon/cordonlaw.two -/
def cordonlaw_two_A : Ann := { own := [0], live := [], n := 9, nils := [], pubs := [] }
theorem cordonlaw_two_eq  (R : D → Prop) : fnD Tryz.prog Ev cordonlaw_two_A Tryz.f63.results.toList (bodyOf Tryz.f63) [] R =
 (R (.agg [.sl .var ([(⟨(⟨#[120]⟩ : ByteArray), 0, 2⟩ : VarD), (⟨(⟨#[121]⟩ : ByteArray), 0, 2⟩ : VarD)]), .sl .con ([(⟨1, [0, 1], [1, -1], -1, ([] : List (List Int)), ([] : List LitD)⟩ : ConD)]), dI 1, dI 1])) := by kernel_rfl
theorem cordonlaw_two_sat {r : D}  (h : (∀ d ∈ [], okD d) → fnD Tryz.prog Ev cordonlaw_two_A Tryz.f63.results.toList (bodyOf Tryz.f63) [] fun d => d = r) : Sat Tryz.prog f_cordonlaw_two [] r := by
  have h2 := sat_of (r := r) (args := []) (A := cordonlaw_two_A) (fn := Tryz.f63) (body := bodyOf Tryz.f63) (f := f_cordonlaw_two) factsEv Tryz.func63 (by kernel_rfl) (by rw [Tryz.ntmps63]; rfl) (by rw [Tryz.ntmps63]; exact Nat.le_of_ble_eq_true rfl)
  with_reducible exact h2 h
end Go.Proofs.YtgnjdgafkjohaaaGreat
