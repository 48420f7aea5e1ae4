/- What the functions of a package do, as equations of plain propositions: printed by a program that carries the code out on symbols. -/
import Derived.Test.YtgnjdgafkjohaaaGreatWEv
namespace Go.Proofs.YtgnjdgafkjohaaaGreat
open Go.RowKit
set_option linter.unusedVariables false
set_option maxRecDepth 100000
/-! ### cordon/proof.ByCon -/
def proof_ByCon_A : Ann := { own := [], live := [], n := 20, nils := [], pubs := [] }
theorem proof_ByCon_eq (a0 : MdlD) (a1 : Int) (a2 : List LitD) (R : D → Prop) : fnD Tryz.prog Ev proof_ByCon_A Tryz.f83.results.toList (bodyOf Tryz.f83) [dM a0, dI a1, .sl .lit a2] R =
 (Call1 Tryz.prog f_store_Full [dM a0] (.list (.list .int)) fun s1 =>
 Call1 Tryz.prog f_clause_Without [dS s1, .sl .lit a2] (.list (.list .int)) fun c2 =>
 inb a1 a0.cons.length = true ∧
 Call1 Tryz.prog f_filter_Raw [dC (at' .con a0.cons a1.toNat), dS c2] (.list (.list .int)) fun f3 =>
 Call1 Tryz.prog f_store_Empty [dS f3] .bool fun s4 =>
 R (dB s4)) := by kernel_rfl
theorem proof_ByCon_sat {r : D} (a0 : MdlD) (a1 : Int) (a2 : List LitD) (h : (∀ d ∈ [dM a0, dI a1, .sl .lit a2], okD d) → fnD Tryz.prog Ev proof_ByCon_A Tryz.f83.results.toList (bodyOf Tryz.f83) [dM a0, dI a1, .sl .lit a2] fun d => d = r) : Sat Tryz.prog f_proof_ByCon [dM a0, dI a1, .sl .lit a2] r := by
  have h2 := sat_of (r := r) (args := [dM a0, dI a1, .sl .lit a2]) (A := proof_ByCon_A) (fn := Tryz.f83) (body := bodyOf Tryz.f83) (f := f_proof_ByCon) factsEv Tryz.func83 (by kernel_rfl) (by rw [Tryz.ntmps83]; rfl) (by rw [Tryz.ntmps83]; exact Nat.le_of_ble_eq_true rfl)
  with_reducible exact h2 h
end Go.Proofs.YtgnjdgafkjohaaaGreat
