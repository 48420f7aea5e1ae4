/- What the functions of a package do, as equations of plain propositions: printed by a program that carries the code out on symbols. -/
import Derived.Test.YtgnjdgafkjohaaaGreatWEv
namespace Go.Proofs.YtgnjdgafkjohaaaGreat
open Go.RowKit
set_option linter.unusedVariables false
set_option maxRecDepth 100000
/-! ### cordon/lit.Right -/
def lit_Right_A : Ann := { own := [], live := [], n := 35, nils := [], pubs := [] }
theorem lit_Right_eq (a0 : MdlD) (a1 : LitD) (R : D → Prop) : fnD Tryz.prog Ev lit_Right_A Tryz.f99.results.toList (bodyOf Tryz.f99) [dM a0, dL a1] R =
 (sel (decide (a1.var < 0))
 (R (dI 5))
 (sel (decide ((a0.vars.length : Int) ≤ a1.var))
 (R (dI 5))
 (sel (decide (a1.op < 1))
 (R (dI 7))
 (sel (decide (4 < a1.op))
 (R (dI 7))
 (sel (decide (a1.n < (-1000)))
 (R (dI 3))
 (sel (decide (1000 < a1.n))
 (R (dI 3))
 (R (dI 0)))))))) := by kernel_rfl
theorem lit_Right_sat {r : D} (a0 : MdlD) (a1 : LitD) (h : (∀ d ∈ [dM a0, dL a1], okD d) → fnD Tryz.prog Ev lit_Right_A Tryz.f99.results.toList (bodyOf Tryz.f99) [dM a0, dL a1] fun d => d = r) : Sat Tryz.prog f_lit_Right [dM a0, dL a1] r := by
  have h2 := sat_of (r := r) (args := [dM a0, dL a1]) (A := lit_Right_A) (fn := Tryz.f99) (body := bodyOf Tryz.f99) (f := f_lit_Right) factsEv Tryz.func99 (by kernel_rfl) (by rw [Tryz.ntmps99]; rfl) (by rw [Tryz.ntmps99]; exact Nat.le_of_ble_eq_true rfl)
  with_reducible exact h2 h
/-! ### cordon/lit.Says -/
def lit_Says_A : Ann := { own := [], live := [(0, ([0, 3, 5, 12, 13, 14], []))], n := 35, nils := [], pubs := [] }
def lit_Says_I0 (a0 : List (List Int)) (a1 : LitD) (R : D → Prop) (n0 : Nat) (yes1 : Int) (v2 : Int) : Prop := iter (den Tryz.prog Ev lit_Says_A (sub [1, 1, 0, 1, 0, 0] (bodyOf Tryz.f150)) 0) lit_Says_A (liveOf lit_Says_A 0) n0 ⟨[(0, dS a0), (3, .iptr [dI a1.var, dI a1.op, dI a1.n] 0), (5, dI yes1), (12, .sl .int (at' (.list .int) a0 a1.var.toNat)), (13, dI ((at' (.list .int) a0 a1.var.toNat).length : Int)), (14, dI v2)], []⟩ (blockK 0 (seqK Tryz.prog Ev lit_Says_A (sub [1, 1, 1] (bodyOf Tryz.f150)) 0 (endK Ev Tryz.f150.results.toList R)))
theorem lit_Says_I0_eq (a0 : List (List Int)) (a1 : LitD) (R : D → Prop) (n0 : Nat) (yes1 : Int) (v2 : Int) : lit_Says_I0 a0 a1 R (n0 + 1) yes1 v2 =
 (sel (decide (v2 < ((at' (.list .int) a0 a1.var.toNat).length : Int)))
 (inb v2 (at' (.list .int) a0 a1.var.toNat).length = true ∧
 Call1 Tryz.prog f_model_Lit [dL a1, dI (at' .int (at' (.list .int) a0 a1.var.toNat) v2.toNat)] .bool fun m3 =>
 sel m3
 (lit_Says_I0 a0 a1 R n0 (w64 (yes1 + 1)) (w64 (v2 + 1)))
 (lit_Says_I0 a0 a1 R n0 yes1 (w64 (v2 + 1))))
 (sel (decide (yes1 = 0))
 (R (dI (-1)))
 (inb a1.var a0.length = true ∧
 sel (decide (yes1 = ((at' (.list .int) a0 a1.var.toNat).length : Int)))
 (R (dI 1))
 (R (dI 0))))) := by kernel_rfl
theorem lit_Says_eq (a0 : List (List Int)) (a1 : LitD) (R : D → Prop) : fnD Tryz.prog Ev lit_Says_A Tryz.f150.results.toList (bodyOf Tryz.f150) [dS a0, dL a1] R =
 (inb a1.var a0.length = true ∧
 ∃ n0, lit_Says_I0 a0 a1 R n0 0 0) := by kernel_rfl
theorem lit_Says_sat {r : D} (a0 : List (List Int)) (a1 : LitD) (h : (∀ d ∈ [dS a0, dL a1], okD d) → fnD Tryz.prog Ev lit_Says_A Tryz.f150.results.toList (bodyOf Tryz.f150) [dS a0, dL a1] fun d => d = r) : Sat Tryz.prog f_lit_Says [dS a0, dL a1] r := by
  have h2 := sat_of (r := r) (args := [dS a0, dL a1]) (A := lit_Says_A) (fn := Tryz.f150) (body := bodyOf Tryz.f150) (f := f_lit_Says) factsEv Tryz.func150 (by kernel_rfl) (by rw [Tryz.ntmps150]; rfl) (by rw [Tryz.ntmps150]; exact Nat.le_of_ble_eq_true rfl)
  with_reducible exact h2 h
end Go.Proofs.YtgnjdgafkjohaaaGreat
