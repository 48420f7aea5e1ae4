/- What the functions of a package do, as equations of plain propositions: printed by a program that carries the code out on symbols. -/
import Derived.Test.YtgnjdgafkjohaaaGreatWEv
namespace Go.Proofs.YtgnjdgafkjohaaaGreat
open Go.RowKit
set_option linter.unusedVariables false
set_option maxRecDepth 100000
/-! ### cordon/cordonlaw.FixAgain -/
def cordonlaw_FixAgain_A : Ann := { own := [], live := [], n := 139, nils := [], pubs := [] }
theorem cordonlaw_FixAgain_eq (a0 : MdlD) (a1 : List (List Int)) (a2 : List (List Int)) (a3 : List (List LitD)) (R : D → Prop) : fnD Tryz.prog Ev cordonlaw_FixAgain_A Tryz.f7.results.toList (bodyOf Tryz.f7) [dM a0, dS a1, dS a2, .sl (.list .lit) a3] R =
 (Call2 Tryz.prog f_fix_Both [dM a0, dS a1, .sl (.list .lit) a3] (.list (.list .int)) .int fun f1 f2 =>
 Call1 Tryz.prog f_cordonlaw_fixBegun [] .bool fun c3 =>
 sel (!c3)
 (R (dB false))
 (Call1 Tryz.prog f_cordonlaw_storeBegun [] .bool fun c4 =>
 sel (!c4)
 (R (dB false))
 (sel (!decide (f2 = 0))
 (R (dB (decide ((f1.length : Int) = 0))))
 (Call2 Tryz.prog f_fix_Both [dM a0, dS f1, .sl (.list .lit) a3] (.list (.list .int)) .int fun f5 f6 =>
 Call2 Tryz.prog f_fix_Cons [dM a0, dS a1] (.list (.list .int)) .int fun f7 f8 =>
 Call2 Tryz.prog f_fix_Units [dM a0, dS a1, .sl (.list .lit) a3] (.list (.list .int)) .int fun f9 f10 =>
 Call2 Tryz.prog f_store_Within [dM a0, dS f1, dS f7] .bool .int fun s11 s12 =>
 Call2 Tryz.prog f_store_Within [dM a0, dS f1, dS f9] .bool .int fun s13 s14 =>
 sel (!decide (f6 = 0))
 (R (dB false))
 (sel (!decide (f8 = 0))
 (R (dB false))
 (sel (!decide (f10 = 0))
 (R (dB false))
 (sel (!decide (s12 = 0))
 (R (dB false))
 (sel (!decide (s14 = 0))
 (R (dB false))
 (Call1 Tryz.prog f_cordonref_SameStore [dS f5, dS f1] .bool fun c15 =>
 sel (!c15)
 (R (dB false))
 (sel (!s11)
 (R (dB false))
 (sel (!s13)
 (R (dB false))
 (Call2 Tryz.prog f_store_Meet [dM a0, dS a1, dS a2] (.list (.list .int)) .int fun s16 s17 =>
 sel (!decide (s17 = 0))
 (R (dB true))
 (Call2 Tryz.prog f_fix_Both [dM a0, dS s16, .sl (.list .lit) a3] (.list (.list .int)) .int fun f18 f19 =>
 Call2 Tryz.prog f_store_Within [dM a0, dS f18, dS f1] .bool .int fun s20 s21 =>
 sel (decide (f19 = 0))
 (sel (decide (s21 = 0))
 (R (dB s20))
 (R (dB false)))
 (R (dB false))))))))))))))) := by kernel_rfl
theorem cordonlaw_FixAgain_sat {r : D} (a0 : MdlD) (a1 : List (List Int)) (a2 : List (List Int)) (a3 : List (List LitD)) (h : (∀ d ∈ [dM a0, dS a1, dS a2, .sl (.list .lit) a3], okD d) → fnD Tryz.prog Ev cordonlaw_FixAgain_A Tryz.f7.results.toList (bodyOf Tryz.f7) [dM a0, dS a1, dS a2, .sl (.list .lit) a3] fun d => d = r) : Sat Tryz.prog f_cordonlaw_FixAgain [dM a0, dS a1, dS a2, .sl (.list .lit) a3] r := by
  have h2 := sat_of (r := r) (args := [dM a0, dS a1, dS a2, .sl (.list .lit) a3]) (A := cordonlaw_FixAgain_A) (fn := Tryz.f7) (body := bodyOf Tryz.f7) (f := f_cordonlaw_FixAgain) factsEv Tryz.func7 (by kernel_rfl) (by rw [Tryz.ntmps7]; rfl) (by rw [Tryz.ntmps7]; exact Nat.le_of_ble_eq_true rfl)
  with_reducible exact h2 h
/-! ### cordon/cordonlaw.storeBegun -/
def cordonlaw_storeBegun_A : Ann := { own := [], live := [], n := 77, nils := [], pubs := [] }
theorem cordonlaw_storeBegun_eq  (R : D → Prop) : fnD Tryz.prog Ev cordonlaw_storeBegun_A Tryz.f20.results.toList (bodyOf Tryz.f20) [] R =
 (Call1 Tryz.prog f_cordonlaw_two [] .mdl fun c1 =>
 Call2 Tryz.prog f_store_Begin [dM c1] (.list (.list .int)) .int fun s2 s3 =>
 Call1 Tryz.prog f_cordonlaw_two [] .mdl fun c4 =>
 Call2 Tryz.prog f_store_Meet [dM c4, dS s2, dS ([[1], [0, 2]])] (.list (.list .int)) .int fun s5 s6 =>
 Call1 Tryz.prog f_cordonlaw_two [] .mdl fun c7 =>
 Call2 Tryz.prog f_store_Within [dM c7, dS s5, dS s2] .bool .int fun s8 s9 =>
 Call1 Tryz.prog f_cordonlaw_two [] .mdl fun c10 =>
 Call2 Tryz.prog f_store_Failed [dM c10, dS s2] .bool .int fun s11 s12 =>
 sel (decide (s3 = 0))
 (sel (decide (s6 = 0))
 (sel (decide (s9 = 0))
 (sel (decide (s12 = 0))
 (Call1 Tryz.prog f_cordonref_SameStore [dS s2, dS ([[0, 1, 2], [0, 1, 2]])] .bool fun c13 =>
 sel c13
 (Call1 Tryz.prog f_cordonref_SameStore [dS s5, dS ([[1], [0, 2]])] .bool fun c14 =>
 sel c14
 (sel s8
 (sel (!s11)
 (Call1 Tryz.prog f_cordonlaw_two [] .mdl fun c15 =>
 Call1 Tryz.prog f_store_Check [dM c15, dS s5] .int fun s16 =>
 R (dB (decide (s16 = 0))))
 (R (dB false)))
 (R (dB false)))
 (R (dB false)))
 (R (dB false)))
 (R (dB false)))
 (R (dB false)))
 (R (dB false)))
 (R (dB false))) := by kernel_rfl
theorem cordonlaw_storeBegun_sat {r : D}  (h : (∀ d ∈ [], okD d) → fnD Tryz.prog Ev cordonlaw_storeBegun_A Tryz.f20.results.toList (bodyOf Tryz.f20) [] fun d => d = r) : Sat Tryz.prog f_cordonlaw_storeBegun [] r := by
  have h2 := sat_of (r := r) (args := []) (A := cordonlaw_storeBegun_A) (fn := Tryz.f20) (body := bodyOf Tryz.f20) (f := f_cordonlaw_storeBegun) factsEv Tryz.func20 (by kernel_rfl) (by rw [Tryz.ntmps20]; rfl) (by rw [Tryz.ntmps20]; exact Nat.le_of_ble_eq_true rfl)
  with_reducible exact h2 h
/-! ### cordon/cordonlaw.fixBegun -/
def cordonlaw_fixBegun_A : Ann := { own := [], live := [], n := 66, nils := [], pubs := [] }
theorem cordonlaw_fixBegun_eq  (R : D → Prop) : fnD Tryz.prog Ev cordonlaw_fixBegun_A Tryz.f33.results.toList (bodyOf Tryz.f33) [] R =
 (Call1 Tryz.prog f_cordonlaw_two [] .mdl fun c1 =>
 Call2 Tryz.prog f_fix_Cons [dM c1, dS ([[0, 1, 2], [0, 1, 2]])] (.list (.list .int)) .int fun f2 f3 =>
 Call1 Tryz.prog f_cordonlaw_two [] .mdl fun c4 =>
 Call2 Tryz.prog f_fix_Units [dM c4, dS ([[0, 1, 2], [0, 1, 2]]), .sl (.list .lit) ([[(⟨1, 1, 1⟩ : LitD)]])] (.list (.list .int)) .int fun f5 f6 =>
 Call1 Tryz.prog f_cordonlaw_two [] .mdl fun c7 =>
 Call2 Tryz.prog f_fix_Both [dM c7, dS ([[0, 1, 2], [0, 1, 2]]), .sl (.list .lit) ([[(⟨1, 1, 1⟩ : LitD)]])] (.list (.list .int)) .int fun f8 f9 =>
 sel (decide (f3 = 0))
 (sel (decide (f6 = 0))
 (sel (decide (f9 = 0))
 (Call1 Tryz.prog f_cordonref_SameStore [dS f2, dS ([[0, 1], [1, 2]])] .bool fun c10 =>
 sel c10
 (Call1 Tryz.prog f_cordonref_SameStore [dS f5, dS ([[0, 1, 2], [0, 1]])] .bool fun c11 =>
 sel c11
 (Call1 Tryz.prog f_cordonref_SameStore [dS f8, dS ([[0], [1]])] .bool fun c12 =>
 R (dB c12))
 (R (dB false)))
 (R (dB false)))
 (R (dB false)))
 (R (dB false)))
 (R (dB false))) := by kernel_rfl
theorem cordonlaw_fixBegun_sat {r : D}  (h : (∀ d ∈ [], okD d) → fnD Tryz.prog Ev cordonlaw_fixBegun_A Tryz.f33.results.toList (bodyOf Tryz.f33) [] fun d => d = r) : Sat Tryz.prog f_cordonlaw_fixBegun [] r := by
  have h2 := sat_of (r := r) (args := []) (A := cordonlaw_fixBegun_A) (fn := Tryz.f33) (body := bodyOf Tryz.f33) (f := f_cordonlaw_fixBegun) factsEv Tryz.func33 (by kernel_rfl) (by rw [Tryz.ntmps33]; rfl) (by rw [Tryz.ntmps33]; exact Nat.le_of_ble_eq_true rfl)
  with_reducible exact h2 h
/-! ### cordon/cordonlaw.two -/
def cordonlaw_two_A : Ann := { own := [0], live := [], n := 9, nils := [], pubs := [] }
theorem cordonlaw_two_eq  (R : D → Prop) : fnD Tryz.prog Ev cordonlaw_two_A Tryz.f63.results.toList (bodyOf Tryz.f63) [] R =
 (R (.agg [.sl .var ([(⟨(⟨#[120]⟩ : ByteArray), 0, 2⟩ : VarD), (⟨(⟨#[121]⟩ : ByteArray), 0, 2⟩ : VarD)]), .sl .con ([(⟨1, [0, 1], [1, -1], -1, ([] : List (List Int)), ([] : List LitD)⟩ : ConD)]), dI 1, dI 1])) := by kernel_rfl
theorem cordonlaw_two_sat {r : D}  (h : (∀ d ∈ [], okD d) → fnD Tryz.prog Ev cordonlaw_two_A Tryz.f63.results.toList (bodyOf Tryz.f63) [] fun d => d = r) : Sat Tryz.prog f_cordonlaw_two [] r := by
  have h2 := sat_of (r := r) (args := []) (A := cordonlaw_two_A) (fn := Tryz.f63) (body := bodyOf Tryz.f63) (f := f_cordonlaw_two) factsEv Tryz.func63 (by kernel_rfl) (by rw [Tryz.ntmps63]; rfl) (by rw [Tryz.ntmps63]; exact Nat.le_of_ble_eq_true rfl)
  with_reducible exact h2 h
end Go.Proofs.YtgnjdgafkjohaaaGreat
