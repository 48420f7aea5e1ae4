/- What the functions of a package do, as equations of plain propositions: printed by a program that carries the code out on symbols. -/
import Derived.Test.YtgnjdgafkjohaaaGreatWEv
namespace Go.Proofs.YtgnjdgafkjohaaaGreat
open Go.RowKit
set_option linter.unusedVariables false
set_option maxRecDepth 100000
/-! ### cordon/lit.Right -/
def lit_Right_A : Ann := { own := [], live := [], n := 35, nils := [], pubs := [] }
theorem lit_Right_eq (a0 : MdlD) (a1 : LitD) (R : D → Prop) : fnD Tryz.prog Ev lit_Right_A Tryz.f99.results.toList (bodyOf Tryz.f99) [dM a0, dL a1] R =
 (sel (decide (a1.var < 0))
 (R (dI 5))
 (sel (decide ((a0.vars.length : Int) ≤ a1.var))
 (R (dI 5))
 (sel (decide (a1.op < 1))
 (R (dI 7))
 (sel (decide (4 < a1.op))
 (R (dI 7))
 (sel (decide (a1.n < (-1000)))
 (R (dI 3))
 (sel (decide (1000 < a1.n))
 (R (dI 3))
 (R (dI 0)))))))) := by kernel_rfl
theorem lit_Right_sat {r : D} (a0 : MdlD) (a1 : LitD) (h : (∀ d ∈ [dM a0, dL a1], okD d) → fnD Tryz.prog Ev lit_Right_A Tryz.f99.results.toList (bodyOf Tryz.f99) [dM a0, dL a1] fun d => d = r) : Sat Tryz.prog f_lit_Right [dM a0, dL a1] r := by
  have h2 := sat_of (r := r) (args := [dM a0, dL a1]) (A := lit_Right_A) (fn := Tryz.f99) (body := bodyOf Tryz.f99) (f := f_lit_Right) factsEv Tryz.func99 (by kernel_rfl) (by rw [Tryz.ntmps99]; rfl) (by rw [Tryz.ntmps99]; exact Nat.le_of_ble_eq_true rfl)
  with_reducible exact h2 h
/-! ### cordon/lit.Holds -/
def lit_Holds_A : Ann := { own := [], live := [], n := 18, nils := [], pubs := [] }
theorem lit_Holds_eq (a0 : MdlD) (a1 : LitD) (a2 : Int) (R : D → Prop) : fnD Tryz.prog Ev lit_Holds_A Tryz.f105.results.toList (bodyOf Tryz.f105) [dM a0, dL a1, dI a2] R =
 (Call1 Tryz.prog f_lit_Check [dM a0, dL a1] .int fun l1 =>
 sel (!decide (l1 = 0))
 (R (.tup [dB false, dI l1]))
 (Call1 Tryz.prog f_model_Lit [dL a1, dI a2] .bool fun m2 =>
 R (.tup [dB m2, dI 0]))) := by kernel_rfl
theorem lit_Holds_sat {r : D} (a0 : MdlD) (a1 : LitD) (a2 : Int) (h : (∀ d ∈ [dM a0, dL a1, dI a2], okD d) → fnD Tryz.prog Ev lit_Holds_A Tryz.f105.results.toList (bodyOf Tryz.f105) [dM a0, dL a1, dI a2] fun d => d = r) : Sat Tryz.prog f_lit_Holds [dM a0, dL a1, dI a2] r := by
  have h2 := sat_of (r := r) (args := [dM a0, dL a1, dI a2]) (A := lit_Holds_A) (fn := Tryz.f105) (body := bodyOf Tryz.f105) (f := f_lit_Holds) factsEv Tryz.func105 (by kernel_rfl) (by rw [Tryz.ntmps105]; rfl) (by rw [Tryz.ntmps105]; exact Nat.le_of_ble_eq_true rfl)
  with_reducible exact h2 h
/-! ### cordon/lit.Not -/
def lit_Not_A : Ann := { own := [4], live := [], n := 21, nils := [], pubs := [] }
theorem lit_Not_eq (a0 : MdlD) (a1 : LitD) (R : D → Prop) : fnD Tryz.prog Ev lit_Not_A Tryz.f106.results.toList (bodyOf Tryz.f106) [dM a0, dL a1] R =
 (Call1 Tryz.prog f_lit_Check [dM a0, dL a1] .int fun l1 =>
 sel (decide (l1 = 0))
 (Call1 Tryz.prog f_lit_Turns [dM a0, dL a1] .int fun l2 =>
 sel (!decide (l2 = 0))
 (R (.tup [.agg [dI 0, dI 0, dI 0], dI l2]))
 (Call1 Tryz.prog f_lit_Opposite [dL a1] .lit fun l3 =>
 R (.tup [dL l3, dI 0])))
 (sel (!decide (l1 = 0))
 (R (.tup [.agg [dI 0, dI 0, dI 0], dI l1]))
 (Call1 Tryz.prog f_lit_Opposite [dL a1] .lit fun l4 =>
 R (.tup [dL l4, dI 0])))) := by kernel_rfl
theorem lit_Not_sat {r : D} (a0 : MdlD) (a1 : LitD) (h : (∀ d ∈ [dM a0, dL a1], okD d) → fnD Tryz.prog Ev lit_Not_A Tryz.f106.results.toList (bodyOf Tryz.f106) [dM a0, dL a1] fun d => d = r) : Sat Tryz.prog f_lit_Not [dM a0, dL a1] r := by
  have h2 := sat_of (r := r) (args := [dM a0, dL a1]) (A := lit_Not_A) (fn := Tryz.f106) (body := bodyOf Tryz.f106) (f := f_lit_Not) factsEv Tryz.func106 (by kernel_rfl) (by rw [Tryz.ntmps106]; rfl) (by rw [Tryz.ntmps106]; exact Nat.le_of_ble_eq_true rfl)
  with_reducible exact h2 h
/-! ### cordon/lit.Told -/
def lit_Told_A : Ann := { own := [], live := [], n := 19, nils := [], pubs := [] }
theorem lit_Told_eq (a0 : MdlD) (a1 : List (List Int)) (a2 : LitD) (R : D → Prop) : fnD Tryz.prog Ev lit_Told_A Tryz.f107.results.toList (bodyOf Tryz.f107) [dM a0, dS a1, dL a2] R =
 (Call1 Tryz.prog f_lit_ready [dM a0, dS a1, dL a2] .int fun l1 =>
 sel (!decide (l1 = 0))
 (R (.tup [dI 0, dI l1]))
 (Call1 Tryz.prog f_lit_Says [dS a1, dL a2] .int fun l2 =>
 R (.tup [dI l2, dI 0]))) := by kernel_rfl
theorem lit_Told_sat {r : D} (a0 : MdlD) (a1 : List (List Int)) (a2 : LitD) (h : (∀ d ∈ [dM a0, dS a1, dL a2], okD d) → fnD Tryz.prog Ev lit_Told_A Tryz.f107.results.toList (bodyOf Tryz.f107) [dM a0, dS a1, dL a2] fun d => d = r) : Sat Tryz.prog f_lit_Told [dM a0, dS a1, dL a2] r := by
  have h2 := sat_of (r := r) (args := [dM a0, dS a1, dL a2]) (A := lit_Told_A) (fn := Tryz.f107) (body := bodyOf Tryz.f107) (f := f_lit_Told) factsEv Tryz.func107 (by kernel_rfl) (by rw [Tryz.ntmps107]; rfl) (by rw [Tryz.ntmps107]; exact Nat.le_of_ble_eq_true rfl)
  with_reducible exact h2 h
/-! ### cordon/lit.Put -/
def lit_Put_A : Ann := { own := [], live := [], n := 19, nils := [], pubs := [] }
theorem lit_Put_eq (a0 : MdlD) (a1 : List (List Int)) (a2 : LitD) (R : D → Prop) : fnD Tryz.prog Ev lit_Put_A Tryz.f108.results.toList (bodyOf Tryz.f108) [dM a0, dS a1, dL a2] R =
 (Call1 Tryz.prog f_lit_ready [dM a0, dS a1, dL a2] .int fun l1 =>
 sel (!decide (l1 = 0))
 (R (.tup [dS ([] : List (List Int)), dI l1]))
 (Call1 Tryz.prog f_lit_Set [dS a1, dL a2] (.list (.list .int)) fun l2 =>
 R (.tup [dS l2, dI 0]))) := by kernel_rfl
theorem lit_Put_sat {r : D} (a0 : MdlD) (a1 : List (List Int)) (a2 : LitD) (h : (∀ d ∈ [dM a0, dS a1, dL a2], okD d) → fnD Tryz.prog Ev lit_Put_A Tryz.f108.results.toList (bodyOf Tryz.f108) [dM a0, dS a1, dL a2] fun d => d = r) : Sat Tryz.prog f_lit_Put [dM a0, dS a1, dL a2] r := by
  have h2 := sat_of (r := r) (args := [dM a0, dS a1, dL a2]) (A := lit_Put_A) (fn := Tryz.f108) (body := bodyOf Tryz.f108) (f := f_lit_Put) factsEv Tryz.func108 (by kernel_rfl) (by rw [Tryz.ntmps108]; rfl) (by rw [Tryz.ntmps108]; exact Nat.le_of_ble_eq_true rfl)
  with_reducible exact h2 h
/-! ### cordon/lit.Check -/
def lit_Check_A : Ann := { own := [], live := [], n := 14, nils := [], pubs := [] }
theorem lit_Check_eq (a0 : MdlD) (a1 : LitD) (R : D → Prop) : fnD Tryz.prog Ev lit_Check_A Tryz.f109.results.toList (bodyOf Tryz.f109) [dM a0, dL a1] R =
 (Call1 Tryz.prog f_model_Check [dM a0] .int fun m1 =>
 sel (!decide (m1 = 0))
 (R (dI m1))
 (Call1 Tryz.prog f_lit_Right [dM a0, dL a1] .int fun l2 =>
 R (dI l2))) := by kernel_rfl
theorem lit_Check_sat {r : D} (a0 : MdlD) (a1 : LitD) (h : (∀ d ∈ [dM a0, dL a1], okD d) → fnD Tryz.prog Ev lit_Check_A Tryz.f109.results.toList (bodyOf Tryz.f109) [dM a0, dL a1] fun d => d = r) : Sat Tryz.prog f_lit_Check [dM a0, dL a1] r := by
  have h2 := sat_of (r := r) (args := [dM a0, dL a1]) (A := lit_Check_A) (fn := Tryz.f109) (body := bodyOf Tryz.f109) (f := f_lit_Check) factsEv Tryz.func109 (by kernel_rfl) (by rw [Tryz.ntmps109]; rfl) (by rw [Tryz.ntmps109]; exact Nat.le_of_ble_eq_true rfl)
  with_reducible exact h2 h
/-! ### cordon/lit.Turns -/
def lit_Turns_A : Ann := { own := [], live := [], n := 9, nils := [], pubs := [] }
theorem lit_Turns_eq (a0 : MdlD) (a1 : LitD) (R : D → Prop) : fnD Tryz.prog Ev lit_Turns_A Tryz.f147.results.toList (bodyOf Tryz.f147) [dM a0, dL a1] R =
 (Call1 Tryz.prog f_lit_Opposite [dL a1] .lit fun l1 =>
 Call1 Tryz.prog f_lit_Right [dM a0, dL l1] .int fun l2 =>
 R (dI l2)) := by kernel_rfl
theorem lit_Turns_sat {r : D} (a0 : MdlD) (a1 : LitD) (h : (∀ d ∈ [dM a0, dL a1], okD d) → fnD Tryz.prog Ev lit_Turns_A Tryz.f147.results.toList (bodyOf Tryz.f147) [dM a0, dL a1] fun d => d = r) : Sat Tryz.prog f_lit_Turns [dM a0, dL a1] r := by
  have h2 := sat_of (r := r) (args := [dM a0, dL a1]) (A := lit_Turns_A) (fn := Tryz.f147) (body := bodyOf Tryz.f147) (f := f_lit_Turns) factsEv Tryz.func147 (by kernel_rfl) (by rw [Tryz.ntmps147]; rfl) (by rw [Tryz.ntmps147]; exact Nat.le_of_ble_eq_true rfl)
  with_reducible exact h2 h
/-! ### cordon/lit.Opposite -/
def lit_Opposite_A : Ann := { own := [2], live := [], n := 33, nils := [], pubs := [] }
theorem lit_Opposite_eq (a0 : LitD) (R : D → Prop) : fnD Tryz.prog Ev lit_Opposite_A Tryz.f148.results.toList (bodyOf Tryz.f148) [dL a0] R =
 (sel (decide (a0.op = 1))
 (R (.agg [dI a0.var, dI 2, dI (w64 (a0.n + 1))]))
 (sel (decide (a0.op = 2))
 (R (.agg [dI a0.var, dI 1, dI (w64 (a0.n - 1))]))
 (sel (decide (a0.op = 3))
 (R (.agg [dI a0.var, dI 4, dI a0.n]))
 (R (.agg [dI a0.var, dI 3, dI a0.n]))))) := by kernel_rfl
theorem lit_Opposite_sat {r : D} (a0 : LitD) (h : (∀ d ∈ [dL a0], okD d) → fnD Tryz.prog Ev lit_Opposite_A Tryz.f148.results.toList (bodyOf Tryz.f148) [dL a0] fun d => d = r) : Sat Tryz.prog f_lit_Opposite [dL a0] r := by
  have h2 := sat_of (r := r) (args := [dL a0]) (A := lit_Opposite_A) (fn := Tryz.f148) (body := bodyOf Tryz.f148) (f := f_lit_Opposite) factsEv Tryz.func148 (by kernel_rfl) (by rw [Tryz.ntmps148]; rfl) (by rw [Tryz.ntmps148]; exact Nat.le_of_ble_eq_true rfl)
  with_reducible exact h2 h
/-! ### cordon/lit.ready -/
def lit_ready_A : Ann := { own := [], live := [], n := 17, nils := [], pubs := [] }
theorem lit_ready_eq (a0 : MdlD) (a1 : List (List Int)) (a2 : LitD) (R : D → Prop) : fnD Tryz.prog Ev lit_ready_A Tryz.f149.results.toList (bodyOf Tryz.f149) [dM a0, dS a1, dL a2] R =
 (Call1 Tryz.prog f_store_Check [dM a0, dS a1] .int fun s1 =>
 sel (!decide (s1 = 0))
 (R (dI s1))
 (Call1 Tryz.prog f_lit_Right [dM a0, dL a2] .int fun l2 =>
 R (dI l2))) := by kernel_rfl
theorem lit_ready_sat {r : D} (a0 : MdlD) (a1 : List (List Int)) (a2 : LitD) (h : (∀ d ∈ [dM a0, dS a1, dL a2], okD d) → fnD Tryz.prog Ev lit_ready_A Tryz.f149.results.toList (bodyOf Tryz.f149) [dM a0, dS a1, dL a2] fun d => d = r) : Sat Tryz.prog f_lit_ready [dM a0, dS a1, dL a2] r := by
  have h2 := sat_of (r := r) (args := [dM a0, dS a1, dL a2]) (A := lit_ready_A) (fn := Tryz.f149) (body := bodyOf Tryz.f149) (f := f_lit_ready) factsEv Tryz.func149 (by kernel_rfl) (by rw [Tryz.ntmps149]; rfl) (by rw [Tryz.ntmps149]; exact Nat.le_of_ble_eq_true rfl)
  with_reducible exact h2 h
/-! ### cordon/lit.Says -/
def lit_Says_A : Ann := { own := [], live := [(0, ([0, 3, 5, 12, 13, 14], []))], n := 35, nils := [], pubs := [] }
def lit_Says_I0 (a0 : List (List Int)) (a1 : LitD) (R : D → Prop) (n0 : Nat) (yes1 : Int) (v2 : Int) : Prop := iter (den Tryz.prog Ev lit_Says_A (sub [1, 1, 0, 1, 0, 0] (bodyOf Tryz.f150)) 0) lit_Says_A (liveOf lit_Says_A 0) n0 ⟨[(0, dS a0), (3, .iptr [dI a1.var, dI a1.op, dI a1.n] 0), (5, dI yes1), (12, .sl .int (at' (.list .int) a0 a1.var.toNat)), (13, dI ((at' (.list .int) a0 a1.var.toNat).length : Int)), (14, dI v2)], []⟩ (blockK 0 (seqK Tryz.prog Ev lit_Says_A (sub [1, 1, 1] (bodyOf Tryz.f150)) 0 (endK Ev Tryz.f150.results.toList R)))
theorem lit_Says_I0_eq (a0 : List (List Int)) (a1 : LitD) (R : D → Prop) (n0 : Nat) (yes1 : Int) (v2 : Int) : lit_Says_I0 a0 a1 R (n0 + 1) yes1 v2 =
 (sel (decide (v2 < ((at' (.list .int) a0 a1.var.toNat).length : Int)))
 (inb v2 (at' (.list .int) a0 a1.var.toNat).length = true ∧
 Call1 Tryz.prog f_model_Lit [dL a1, dI (at' .int (at' (.list .int) a0 a1.var.toNat) v2.toNat)] .bool fun m3 =>
 sel m3
 (lit_Says_I0 a0 a1 R n0 (w64 (yes1 + 1)) (w64 (v2 + 1)))
 (lit_Says_I0 a0 a1 R n0 yes1 (w64 (v2 + 1))))
 (sel (decide (yes1 = 0))
 (R (dI (-1)))
 (inb a1.var a0.length = true ∧
 sel (decide (yes1 = ((at' (.list .int) a0 a1.var.toNat).length : Int)))
 (R (dI 1))
 (R (dI 0))))) := by kernel_rfl
theorem lit_Says_eq (a0 : List (List Int)) (a1 : LitD) (R : D → Prop) : fnD Tryz.prog Ev lit_Says_A Tryz.f150.results.toList (bodyOf Tryz.f150) [dS a0, dL a1] R =
 (inb a1.var a0.length = true ∧
 ∃ n0, lit_Says_I0 a0 a1 R n0 0 0) := by kernel_rfl
theorem lit_Says_sat {r : D} (a0 : List (List Int)) (a1 : LitD) (h : (∀ d ∈ [dS a0, dL a1], okD d) → fnD Tryz.prog Ev lit_Says_A Tryz.f150.results.toList (bodyOf Tryz.f150) [dS a0, dL a1] fun d => d = r) : Sat Tryz.prog f_lit_Says [dS a0, dL a1] r := by
  have h2 := sat_of (r := r) (args := [dS a0, dL a1]) (A := lit_Says_A) (fn := Tryz.f150) (body := bodyOf Tryz.f150) (f := f_lit_Says) factsEv Tryz.func150 (by kernel_rfl) (by rw [Tryz.ntmps150]; rfl) (by rw [Tryz.ntmps150]; exact Nat.le_of_ble_eq_true rfl)
  with_reducible exact h2 h
/-! ### cordon/lit.Set -/
def lit_Set_A : Ann := { own := [], live := [], n := 8, nils := [], pubs := [] }
theorem lit_Set_eq (a0 : List (List Int)) (a1 : LitD) (R : D → Prop) : fnD Tryz.prog Ev lit_Set_A Tryz.f151.results.toList (bodyOf Tryz.f151) [dS a0, dL a1] R =
 (Call1 Tryz.prog f_store_Keep [dS a0, .clo f_lit_Set_1 none [.iptr [dI a1.var, dI a1.op, dI a1.n] 0]] (.list (.list .int)) fun s1 =>
 R (dS s1)) := by kernel_rfl
theorem lit_Set_sat {r : D} (a0 : List (List Int)) (a1 : LitD) (h : (∀ d ∈ [dS a0, dL a1], okD d) → fnD Tryz.prog Ev lit_Set_A Tryz.f151.results.toList (bodyOf Tryz.f151) [dS a0, dL a1] fun d => d = r) : Sat Tryz.prog f_lit_Set [dS a0, dL a1] r := by
  have h2 := sat_of (r := r) (args := [dS a0, dL a1]) (A := lit_Set_A) (fn := Tryz.f151) (body := bodyOf Tryz.f151) (f := f_lit_Set) factsEv Tryz.func151 (by kernel_rfl) (by rw [Tryz.ntmps151]; rfl) (by rw [Tryz.ntmps151]; exact Nat.le_of_ble_eq_true rfl)
  with_reducible exact h2 h
/-! ### cordon/lit.Set$1 -/
def lit_Set_1_A : Ann := { own := [], live := [], n := 15, nils := [], pubs := [] }
theorem lit_Set_1_eq (a0 : Int) (a1 : Int) (c0 : LitD) (R : D → Prop) : fnD Tryz.prog Ev lit_Set_1_A Tryz.f189.results.toList (bodyOf Tryz.f189) [dI a0, dI a1, .iptr [dI c0.var, dI c0.op, dI c0.n] 0] R =
 (sel (!decide (a0 = c0.var))
 (R (dB true))
 (Call1 Tryz.prog f_model_Lit [dL c0, dI a1] .bool fun m1 =>
 R (dB m1))) := by kernel_rfl
theorem lit_Set_1_sat {r : D} (a0 : Int) (a1 : Int) (c0 : LitD) (h : (∀ d ∈ [dI a0, dI a1, .iptr [dI c0.var, dI c0.op, dI c0.n] 0], okD d) → fnD Tryz.prog Ev lit_Set_1_A Tryz.f189.results.toList (bodyOf Tryz.f189) [dI a0, dI a1, .iptr [dI c0.var, dI c0.op, dI c0.n] 0] fun d => d = r) : Sat Tryz.prog f_lit_Set_1 [dI a0, dI a1, .iptr [dI c0.var, dI c0.op, dI c0.n] 0] r := by
  have h2 := sat_of (r := r) (args := [dI a0, dI a1, .iptr [dI c0.var, dI c0.op, dI c0.n] 0]) (A := lit_Set_1_A) (fn := Tryz.f189) (body := bodyOf Tryz.f189) (f := f_lit_Set_1) factsEv Tryz.func189 (by kernel_rfl) (by rw [Tryz.ntmps189]; rfl) (by rw [Tryz.ntmps189]; exact Nat.le_of_ble_eq_true rfl)
  with_reducible exact h2 h
end Go.Proofs.YtgnjdgafkjohaaaGreat
