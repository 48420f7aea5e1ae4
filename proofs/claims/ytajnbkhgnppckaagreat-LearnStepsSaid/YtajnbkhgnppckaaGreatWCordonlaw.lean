/- What the functions of a package do, as equations of plain propositions: printed by a program that carries the code out on symbols. -/
import Derived.Test.YtajnbkhgnppckaaGreatWEv
namespace Go.Proofs.YtajnbkhgnppckaaGreat
open Go.RowKit
set_option linter.unusedVariables false
set_option maxRecDepth 100000
/-! ### cordon/cordonlaw.LearnSteps -/
def cordonlaw_LearnSteps_A : Ann := { own := [], live := [], n := 88, nils := [], pubs := [] }
theorem cordonlaw_LearnSteps_eq (a0 : MdlD) (a1 : List (List LitD)) (a2 : List LitD) (R : D → Prop) : fnD Tryz.prog Ev cordonlaw_LearnSteps_A Tryz.f4.results.toList (bodyOf Tryz.f4) [dM a0, .sl (.list .lit) a1, .sl .lit a2] R =
 (Call3 Tryz.prog f_learn_Learn [dM a0, .sl (.list .lit) a1, .sl .lit a2] (.list .lit) .bool .int fun l1 l2 l3 =>
 Call3 Tryz.prog f_learn_Steps [dM a0, .sl (.list .lit) a1, .sl .lit a2] (.list .step) .bool .int fun l4 l5 l6 =>
 Call1 Tryz.prog f_cordonlaw_learnBegun [] .bool fun c7 =>
 sel (!c7)
 (R (dB false))
 (sel (!decide (l3 = 0))
 (sel (decide (l6 = l3))
 (sel (!l5)
 (R (dB (decide ((l4.length : Int) = 0))))
 (R (dB false)))
 (R (dB false)))
 (sel (!decide (l6 = 0))
 (R (dB false))
 (sel (!(l5 == l2))
 (R (dB false))
 (sel (!l2)
 (R (dB (decide ((l4.length : Int) = 0))))
 (sel (decide (0 < (l4.length : Int)))
 (sel (decide ((l4.length : Int) ≤ 6000))
 (Call1 Tryz.prog f_cordonref_CheckSteps [dM a0, .sl (.list .lit) ([] : List (List LitD)), .sl .step l4] .int fun c8 =>
 sel (decide (c8 = 0))
 (inb (w64 ((l4.length : Int) - 1)) l4.length = true ∧
 Call1 Tryz.prog f_cordonref_SameClause [.sl .lit ((at' .step l4 ((w64 ((l4.length : Int) - 1)).toNat)).clause), .sl .lit l1] .bool fun c9 =>
 sel c9
 (Call1 Tryz.prog f_cordonref_StepsRight [dM a0, .sl (.list .lit) a1, .sl .step l4] .bool fun c10 =>
 R (dB c10))
 (R (dB false)))
 (R (dB false)))
 (R (dB false)))
 (R (dB false)))))))) := by kernel_rfl
theorem cordonlaw_LearnSteps_sat {r : D} (a0 : MdlD) (a1 : List (List LitD)) (a2 : List LitD) (h : (∀ d ∈ [dM a0, .sl (.list .lit) a1, .sl .lit a2], okD d) → fnD Tryz.prog Ev cordonlaw_LearnSteps_A Tryz.f4.results.toList (bodyOf Tryz.f4) [dM a0, .sl (.list .lit) a1, .sl .lit a2] fun d => d = r) : Sat Tryz.prog f_cordonlaw_LearnSteps [dM a0, .sl (.list .lit) a1, .sl .lit a2] r := by
  have h2 := sat_of (r := r) (args := [dM a0, .sl (.list .lit) a1, .sl .lit a2]) (A := cordonlaw_LearnSteps_A) (fn := Tryz.f4) (body := bodyOf Tryz.f4) (f := f_cordonlaw_LearnSteps) factsEv Tryz.func4 (by kernel_rfl) (by rw [Tryz.ntmps4]; rfl) (by rw [Tryz.ntmps4]; exact Nat.le_of_ble_eq_true rfl)
  with_reducible exact h2 h
/-! ### cordon/cordonlaw.learnBegun -/
def cordonlaw_learnBegun_A : Ann := { own := [], live := [], n := 75, nils := [], pubs := [] }
theorem cordonlaw_learnBegun_eq  (R : D → Prop) : fnD Tryz.prog Ev cordonlaw_learnBegun_A Tryz.f9.results.toList (bodyOf Tryz.f9) [] R =
 (Call1 Tryz.prog f_cordonlaw_two [] .mdl fun c1 =>
 Call3 Tryz.prog f_learn_Learn [dM c1, .sl (.list .lit) ([] : List (List LitD)), .sl .lit ([(⟨1, 1, 0⟩ : LitD)])] (.list .lit) .bool .int fun l2 l3 l4 =>
 Call1 Tryz.prog f_cordonlaw_two [] .mdl fun c5 =>
 Call3 Tryz.prog f_learn_Learn [dM c5, .sl (.list .lit) ([] : List (List LitD)), .sl .lit ([] : List LitD)] (.list .lit) .bool .int fun l6 l7 l8 =>
 Call1 Tryz.prog f_cordonlaw_two [] .mdl fun c9 =>
 Call3 Tryz.prog f_learn_Steps [dM c9, .sl (.list .lit) ([] : List (List LitD)), .sl .lit ([(⟨1, 1, 0⟩ : LitD)])] (.list .step) .bool .int fun l10 l11 l12 =>
 sel (decide (l4 = 0))
 (sel (decide (l8 = 0))
 (sel (decide (l12 = 0))
 (sel l3
 (sel (!l7)
 (sel l11
 (Call1 Tryz.prog f_cordonref_SameClause [.sl .lit l2, .sl .lit ([(⟨1, 2, 1⟩ : LitD)])] .bool fun c13 =>
 sel c13
 (sel (decide (0 < (l10.length : Int)))
 (inb (w64 ((l10.length : Int) - 1)) l10.length = true ∧
 Call1 Tryz.prog f_cordonref_SameClause [.sl .lit ((at' .step l10 ((w64 ((l10.length : Int) - 1)).toNat)).clause), .sl .lit l2] .bool fun c14 =>
 R (dB c14))
 (R (dB false)))
 (R (dB false)))
 (R (dB false)))
 (R (dB false)))
 (R (dB false)))
 (R (dB false)))
 (R (dB false)))
 (R (dB false))) := by kernel_rfl
theorem cordonlaw_learnBegun_sat {r : D}  (h : (∀ d ∈ [], okD d) → fnD Tryz.prog Ev cordonlaw_learnBegun_A Tryz.f9.results.toList (bodyOf Tryz.f9) [] fun d => d = r) : Sat Tryz.prog f_cordonlaw_learnBegun [] r := by
  have h2 := sat_of (r := r) (args := []) (A := cordonlaw_learnBegun_A) (fn := Tryz.f9) (body := bodyOf Tryz.f9) (f := f_cordonlaw_learnBegun) factsEv Tryz.func9 (by kernel_rfl) (by rw [Tryz.ntmps9]; rfl) (by rw [Tryz.ntmps9]; exact Nat.le_of_ble_eq_true rfl)
  with_reducible exact h2 h
/-! ### cordon/cordonlaw.two -/
def cordonlaw_two_A : Ann := { own := [0], live := [], n := 9, nils := [], pubs := [] }
theorem cordonlaw_two_eq  (R : D → Prop) : fnD Tryz.prog Ev cordonlaw_two_A Tryz.f53.results.toList (bodyOf Tryz.f53) [] R =
 (R (.agg [.sl .var ([(⟨(⟨#[120]⟩ : ByteArray), 0, 2⟩ : VarD), (⟨(⟨#[121]⟩ : ByteArray), 0, 2⟩ : VarD)]), .sl .con ([(⟨1, [0, 1], [1, -1], -1, ([] : List (List Int)), ([] : List LitD)⟩ : ConD)]), dI 1, dI 1])) := by kernel_rfl
theorem cordonlaw_two_sat {r : D}  (h : (∀ d ∈ [], okD d) → fnD Tryz.prog Ev cordonlaw_two_A Tryz.f53.results.toList (bodyOf Tryz.f53) [] fun d => d = r) : Sat Tryz.prog f_cordonlaw_two [] r := by
  have h2 := sat_of (r := r) (args := []) (A := cordonlaw_two_A) (fn := Tryz.f53) (body := bodyOf Tryz.f53) (f := f_cordonlaw_two) factsEv Tryz.func53 (by kernel_rfl) (by rw [Tryz.ntmps53]; rfl) (by rw [Tryz.ntmps53]; exact Nat.le_of_ble_eq_true rfl)
  with_reducible exact h2 h
end Go.Proofs.YtajnbkhgnppckaaGreat
