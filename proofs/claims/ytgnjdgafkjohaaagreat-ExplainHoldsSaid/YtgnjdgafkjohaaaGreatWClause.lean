/- What the functions of a package do, as equations of plain propositions: printed by a program that carries the code out on symbols. -/
import Derived.Test.YtgnjdgafkjohaaaGreatWEv
namespace Go.Proofs.YtgnjdgafkjohaaaGreat
open Go.RowKit
set_option linter.unusedVariables false
set_option maxRecDepth 100000
/-! ### cordon/clause.Holds -/
def clause_Holds_A : Ann := { own := [], live := [], n := 24, nils := [], pubs := [] }
theorem clause_Holds_eq (a0 : MdlD) (a1 : List LitD) (a2 : List Int) (R : D → Prop) : fnD Tryz.prog Ev clause_Holds_A Tryz.f51.results.toList (bodyOf Tryz.f51) [dM a0, .sl .lit a1, .sl .int a2] R =
 (Call1 Tryz.prog f_clause_Check [dM a0, .sl .lit a1] .int fun c1 =>
 sel (!decide (c1 = 0))
 (R (.tup [dB false, dI c1]))
 (sel (!decide ((a2.length : Int) = (a0.vars.length : Int)))
 (R (.tup [dB false, dI 1]))
 (Call1 Tryz.prog f_slices_ContainsFunc_api_Clause_api_Lit [.sl .lit a1, .clo f_clause_Holds_1 none [.iptr [.sl .int a2] 0]] .bool fun s2 =>
 R (.tup [dB s2, dI 0])))) := by kernel_rfl
theorem clause_Holds_sat {r : D} (a0 : MdlD) (a1 : List LitD) (a2 : List Int) (h : (∀ d ∈ [dM a0, .sl .lit a1, .sl .int a2], okD d) → fnD Tryz.prog Ev clause_Holds_A Tryz.f51.results.toList (bodyOf Tryz.f51) [dM a0, .sl .lit a1, .sl .int a2] fun d => d = r) : Sat Tryz.prog f_clause_Holds [dM a0, .sl .lit a1, .sl .int a2] r := by
  have h2 := sat_of (r := r) (args := [dM a0, .sl .lit a1, .sl .int a2]) (A := clause_Holds_A) (fn := Tryz.f51) (body := bodyOf Tryz.f51) (f := f_clause_Holds) factsEv Tryz.func51 (by kernel_rfl) (by rw [Tryz.ntmps51]; rfl) (by rw [Tryz.ntmps51]; exact Nat.le_of_ble_eq_true rfl)
  with_reducible exact h2 h
/-! ### cordon/clause.Right -/
def clause_Right_A : Ann := { own := [6], live := [(0, ([2, 11, 12, 13], []))], n := 24, nils := [], pubs := [] }
def clause_Right_I0 (a0 : MdlD) (a1 : List LitD) (R : D → Prop) (n0 : Nat) (v1 : Int) : Prop := iter (den Tryz.prog Ev clause_Right_A (sub [1, 1, 0, 1, 0, 0] (bodyOf Tryz.f82)) 0) clause_Right_A (liveOf clause_Right_A 0) n0 ⟨[(2, .iptr [.sl .var a0.vars, .sl .con a0.cons, dI a0.goal, dI a0.var] 0), (11, .sl .lit a1), (12, dI (a1.length : Int)), (13, dI v1)], []⟩ (blockK 0 (seqK Tryz.prog Ev clause_Right_A (sub [1, 1, 1] (bodyOf Tryz.f82)) 0 (endK Ev Tryz.f82.results.toList R)))
theorem clause_Right_I0_eq (a0 : MdlD) (a1 : List LitD) (R : D → Prop) (n0 : Nat) (v1 : Int) : clause_Right_I0 a0 a1 R (n0 + 1) v1 =
 (sel (decide (v1 < (a1.length : Int)))
 (inb v1 a1.length = true ∧
 Call1 Tryz.prog f_lit_Right [dM a0, dL (at' .lit a1 v1.toNat)] .int fun l2 =>
 sel (!decide (l2 = 0))
 (R (dI l2))
 (clause_Right_I0 a0 a1 R n0 (w64 (v1 + 1))))
 (R (dI 0))) := by kernel_rfl
theorem clause_Right_eq (a0 : MdlD) (a1 : List LitD) (R : D → Prop) : fnD Tryz.prog Ev clause_Right_A Tryz.f82.results.toList (bodyOf Tryz.f82) [dM a0, .sl .lit a1] R =
 (sel (decide (40 < (a1.length : Int)))
 (R (dI 2))
 (∃ n0, clause_Right_I0 a0 a1 R n0 0)) := by kernel_rfl
theorem clause_Right_sat {r : D} (a0 : MdlD) (a1 : List LitD) (h : (∀ d ∈ [dM a0, .sl .lit a1], okD d) → fnD Tryz.prog Ev clause_Right_A Tryz.f82.results.toList (bodyOf Tryz.f82) [dM a0, .sl .lit a1] fun d => d = r) : Sat Tryz.prog f_clause_Right [dM a0, .sl .lit a1] r := by
  have h2 := sat_of (r := r) (args := [dM a0, .sl .lit a1]) (A := clause_Right_A) (fn := Tryz.f82) (body := bodyOf Tryz.f82) (f := f_clause_Right) factsEv Tryz.func82 (by kernel_rfl) (by rw [Tryz.ntmps82]; rfl) (by rw [Tryz.ntmps82]; exact Nat.le_of_ble_eq_true rfl)
  with_reducible exact h2 h
/-! ### cordon/clause.Unit -/
def clause_Unit_A : Ann := { own := [], live := [], n := 19, nils := [], pubs := [] }
theorem clause_Unit_eq (a0 : MdlD) (a1 : List (List Int)) (a2 : List LitD) (R : D → Prop) : fnD Tryz.prog Ev clause_Unit_A Tryz.f94.results.toList (bodyOf Tryz.f94) [dM a0, dS a1, .sl .lit a2] R =
 (Call1 Tryz.prog f_clause_ready [dM a0, dS a1, .sl .lit a2] .int fun c1 =>
 sel (!decide (c1 = 0))
 (R (.tup [dS ([] : List (List Int)), dI c1]))
 (Call1 Tryz.prog f_clause_Put [dS a1, .sl .lit a2] (.list (.list .int)) fun c2 =>
 R (.tup [dS c2, dI 0]))) := by kernel_rfl
theorem clause_Unit_sat {r : D} (a0 : MdlD) (a1 : List (List Int)) (a2 : List LitD) (h : (∀ d ∈ [dM a0, dS a1, .sl .lit a2], okD d) → fnD Tryz.prog Ev clause_Unit_A Tryz.f94.results.toList (bodyOf Tryz.f94) [dM a0, dS a1, .sl .lit a2] fun d => d = r) : Sat Tryz.prog f_clause_Unit [dM a0, dS a1, .sl .lit a2] r := by
  have h2 := sat_of (r := r) (args := [dM a0, dS a1, .sl .lit a2]) (A := clause_Unit_A) (fn := Tryz.f94) (body := bodyOf Tryz.f94) (f := f_clause_Unit) factsEv Tryz.func94 (by kernel_rfl) (by rw [Tryz.ntmps94]; rfl) (by rw [Tryz.ntmps94]; exact Nat.le_of_ble_eq_true rfl)
  with_reducible exact h2 h
/-! ### cordon/clause.Deny -/
def clause_Deny_A : Ann := { own := [], live := [], n := 19, nils := [], pubs := [] }
theorem clause_Deny_eq (a0 : MdlD) (a1 : List (List Int)) (a2 : List LitD) (R : D → Prop) : fnD Tryz.prog Ev clause_Deny_A Tryz.f95.results.toList (bodyOf Tryz.f95) [dM a0, dS a1, .sl .lit a2] R =
 (Call1 Tryz.prog f_clause_ready [dM a0, dS a1, .sl .lit a2] .int fun c1 =>
 sel (!decide (c1 = 0))
 (R (.tup [dS ([] : List (List Int)), dI c1]))
 (Call1 Tryz.prog f_clause_Without [dS a1, .sl .lit a2] (.list (.list .int)) fun c2 =>
 R (.tup [dS c2, dI 0]))) := by kernel_rfl
theorem clause_Deny_sat {r : D} (a0 : MdlD) (a1 : List (List Int)) (a2 : List LitD) (h : (∀ d ∈ [dM a0, dS a1, .sl .lit a2], okD d) → fnD Tryz.prog Ev clause_Deny_A Tryz.f95.results.toList (bodyOf Tryz.f95) [dM a0, dS a1, .sl .lit a2] fun d => d = r) : Sat Tryz.prog f_clause_Deny [dM a0, dS a1, .sl .lit a2] r := by
  have h2 := sat_of (r := r) (args := [dM a0, dS a1, .sl .lit a2]) (A := clause_Deny_A) (fn := Tryz.f95) (body := bodyOf Tryz.f95) (f := f_clause_Deny) factsEv Tryz.func95 (by kernel_rfl) (by rw [Tryz.ntmps95]; rfl) (by rw [Tryz.ntmps95]; exact Nat.le_of_ble_eq_true rfl)
  with_reducible exact h2 h
/-! ### cordon/clause.Check -/
def clause_Check_A : Ann := { own := [], live := [], n := 14, nils := [], pubs := [] }
theorem clause_Check_eq (a0 : MdlD) (a1 : List LitD) (R : D → Prop) : fnD Tryz.prog Ev clause_Check_A Tryz.f96.results.toList (bodyOf Tryz.f96) [dM a0, .sl .lit a1] R =
 (Call1 Tryz.prog f_model_Check [dM a0] .int fun m1 =>
 sel (!decide (m1 = 0))
 (R (dI m1))
 (Call1 Tryz.prog f_clause_Right [dM a0, .sl .lit a1] .int fun c2 =>
 R (dI c2))) := by kernel_rfl
theorem clause_Check_sat {r : D} (a0 : MdlD) (a1 : List LitD) (h : (∀ d ∈ [dM a0, .sl .lit a1], okD d) → fnD Tryz.prog Ev clause_Check_A Tryz.f96.results.toList (bodyOf Tryz.f96) [dM a0, .sl .lit a1] fun d => d = r) : Sat Tryz.prog f_clause_Check [dM a0, .sl .lit a1] r := by
  have h2 := sat_of (r := r) (args := [dM a0, .sl .lit a1]) (A := clause_Check_A) (fn := Tryz.f96) (body := bodyOf Tryz.f96) (f := f_clause_Check) factsEv Tryz.func96 (by kernel_rfl) (by rw [Tryz.ntmps96]; rfl) (by rw [Tryz.ntmps96]; exact Nat.le_of_ble_eq_true rfl)
  with_reducible exact h2 h
/-! ### cordon/clause.Holds$1 -/
def clause_Holds_1_A : Ann := { own := [], live := [], n := 11, nils := [], pubs := [] }
theorem clause_Holds_1_eq (a0 : LitD) (c0 : List Int) (R : D → Prop) : fnD Tryz.prog Ev clause_Holds_1_A Tryz.f103.results.toList (bodyOf Tryz.f103) [dL a0, .iptr [.sl .int c0] 0] R =
 (inb a0.var c0.length = true ∧
 Call1 Tryz.prog f_model_Lit [dL a0, dI (at' .int c0 a0.var.toNat)] .bool fun m1 =>
 R (dB m1)) := by kernel_rfl
theorem clause_Holds_1_sat {r : D} (a0 : LitD) (c0 : List Int) (h : (∀ d ∈ [dL a0, .iptr [.sl .int c0] 0], okD d) → fnD Tryz.prog Ev clause_Holds_1_A Tryz.f103.results.toList (bodyOf Tryz.f103) [dL a0, .iptr [.sl .int c0] 0] fun d => d = r) : Sat Tryz.prog f_clause_Holds_1 [dL a0, .iptr [.sl .int c0] 0] r := by
  have h2 := sat_of (r := r) (args := [dL a0, .iptr [.sl .int c0] 0]) (A := clause_Holds_1_A) (fn := Tryz.f103) (body := bodyOf Tryz.f103) (f := f_clause_Holds_1) factsEv Tryz.func103 (by kernel_rfl) (by rw [Tryz.ntmps103]; rfl) (by rw [Tryz.ntmps103]; exact Nat.le_of_ble_eq_true rfl)
  with_reducible exact h2 h
/-! ### cordon/clause.Put -/
def clause_Put_A : Ann := { own := [5, 7, 8], live := [(0, ([0, 3, 5, 13, 14, 15], [5]))], n := 44, nils := [], pubs := [] }
def clause_Put_I0 (a0 : List (List Int)) (a1 : List LitD) (R : D → Prop) (n0 : Nat) (v3 : Int) (one4 : Int) : Prop := iter (den Tryz.prog Ev clause_Put_A (sub [1, 1, 1, 0, 1, 0, 0] (bodyOf Tryz.f133)) 0) clause_Put_A (liveOf clause_Put_A 0) n0 ⟨[(0, dS a0), (3, .iptr [.sl .lit a1] 0), (5, .ptr 5 0), (13, .sl .lit a1), (14, dI (a1.length : Int)), (15, dI v3)], [(5, .cells [dI one4])]⟩ (blockK 0 (seqK Tryz.prog Ev clause_Put_A (sub [1, 1, 1, 1] (bodyOf Tryz.f133)) 0 (endK Ev Tryz.f133.results.toList R)))
theorem clause_Put_I0_eq (a0 : List (List Int)) (a1 : List LitD) (R : D → Prop) (n0 : Nat) (v3 : Int) (one4 : Int) : clause_Put_I0 a0 a1 R (n0 + 1) v3 one4 =
 (sel (decide (v3 < (a1.length : Int)))
 (inb v3 a1.length = true ∧
 Call1 Tryz.prog f_lit_Says [dS a0, dL (at' .lit a1 v3.toNat)] .int fun l5 =>
 sel (decide (l5 < 0))
 (clause_Put_I0 a0 a1 R n0 (w64 (v3 + 1)) one4)
 (sel (decide (0 ≤ one4))
 (sel (!decide (one4 = ((at' .lit a1 v3.toNat).var)))
 (Call1 Tryz.prog f_store_Own [dS a0] (.list (.list .int)) fun s6 =>
 R (dS s6))
 (clause_Put_I0 a0 a1 R n0 (w64 (v3 + 1)) ((at' .lit a1 v3.toNat).var)))
 (clause_Put_I0 a0 a1 R n0 (w64 (v3 + 1)) ((at' .lit a1 v3.toNat).var))))
 (sel (decide (one4 < 0))
 (Call1 Tryz.prog f_store_Nothing [dS a0] (.list (.list .int)) fun s7 =>
 R (dS s7))
 (Call1 Tryz.prog f_store_Keep [dS a0, .clo f_clause_Put_2 none [.iptr [dI one4] 0, .iptr [.clo f_clause_Put_1 none [.iptr [.sl .lit a1] 0, .iptr [dI one4] 0]] 0]] (.list (.list .int)) fun s8 =>
 R (dS s8)))) := by kernel_rfl
theorem clause_Put_eq (a0 : List (List Int)) (a1 : List LitD) (R : D → Prop) : fnD Tryz.prog Ev clause_Put_A Tryz.f133.results.toList (bodyOf Tryz.f133) [dS a0, .sl .lit a1] R =
 (Call1 Tryz.prog f_store_Empty [dS a0] .bool fun s1 =>
 sel s1
 (Call1 Tryz.prog f_store_Own [dS a0] (.list (.list .int)) fun s2 =>
 R (dS s2))
 (∃ n0, clause_Put_I0 a0 a1 R n0 0 (-1))) := by kernel_rfl
theorem clause_Put_sat {r : D} (a0 : List (List Int)) (a1 : List LitD) (h : (∀ d ∈ [dS a0, .sl .lit a1], okD d) → fnD Tryz.prog Ev clause_Put_A Tryz.f133.results.toList (bodyOf Tryz.f133) [dS a0, .sl .lit a1] fun d => d = r) : Sat Tryz.prog f_clause_Put [dS a0, .sl .lit a1] r := by
  have h2 := sat_of (r := r) (args := [dS a0, .sl .lit a1]) (A := clause_Put_A) (fn := Tryz.f133) (body := bodyOf Tryz.f133) (f := f_clause_Put) factsEv Tryz.func133 (by kernel_rfl) (by rw [Tryz.ntmps133]; rfl) (by rw [Tryz.ntmps133]; exact Nat.le_of_ble_eq_true rfl)
  with_reducible exact h2 h
/-! ### cordon/clause.Without -/
def clause_Without_A : Ann := { own := [], live := [], n := 8, nils := [], pubs := [] }
theorem clause_Without_eq (a0 : List (List Int)) (a1 : List LitD) (R : D → Prop) : fnD Tryz.prog Ev clause_Without_A Tryz.f136.results.toList (bodyOf Tryz.f136) [dS a0, .sl .lit a1] R =
 (Call1 Tryz.prog f_store_Keep [dS a0, .clo f_clause_Without_1 none [.iptr [.sl .lit a1] 0]] (.list (.list .int)) fun s1 =>
 R (dS s1)) := by kernel_rfl
theorem clause_Without_sat {r : D} (a0 : List (List Int)) (a1 : List LitD) (h : (∀ d ∈ [dS a0, .sl .lit a1], okD d) → fnD Tryz.prog Ev clause_Without_A Tryz.f136.results.toList (bodyOf Tryz.f136) [dS a0, .sl .lit a1] fun d => d = r) : Sat Tryz.prog f_clause_Without [dS a0, .sl .lit a1] r := by
  have h2 := sat_of (r := r) (args := [dS a0, .sl .lit a1]) (A := clause_Without_A) (fn := Tryz.f136) (body := bodyOf Tryz.f136) (f := f_clause_Without) factsEv Tryz.func136 (by kernel_rfl) (by rw [Tryz.ntmps136]; rfl) (by rw [Tryz.ntmps136]; exact Nat.le_of_ble_eq_true rfl)
  with_reducible exact h2 h
/-! ### cordon/clause.ready -/
def clause_ready_A : Ann := { own := [], live := [], n := 17, nils := [], pubs := [] }
theorem clause_ready_eq (a0 : MdlD) (a1 : List (List Int)) (a2 : List LitD) (R : D → Prop) : fnD Tryz.prog Ev clause_ready_A Tryz.f141.results.toList (bodyOf Tryz.f141) [dM a0, dS a1, .sl .lit a2] R =
 (Call1 Tryz.prog f_store_Check [dM a0, dS a1] .int fun s1 =>
 sel (!decide (s1 = 0))
 (R (dI s1))
 (Call1 Tryz.prog f_clause_Right [dM a0, .sl .lit a2] .int fun c2 =>
 R (dI c2))) := by kernel_rfl
theorem clause_ready_sat {r : D} (a0 : MdlD) (a1 : List (List Int)) (a2 : List LitD) (h : (∀ d ∈ [dM a0, dS a1, .sl .lit a2], okD d) → fnD Tryz.prog Ev clause_ready_A Tryz.f141.results.toList (bodyOf Tryz.f141) [dM a0, dS a1, .sl .lit a2] fun d => d = r) : Sat Tryz.prog f_clause_ready [dM a0, dS a1, .sl .lit a2] r := by
  have h2 := sat_of (r := r) (args := [dM a0, dS a1, .sl .lit a2]) (A := clause_ready_A) (fn := Tryz.f141) (body := bodyOf Tryz.f141) (f := f_clause_ready) factsEv Tryz.func141 (by kernel_rfl) (by rw [Tryz.ntmps141]; rfl) (by rw [Tryz.ntmps141]; exact Nat.le_of_ble_eq_true rfl)
  with_reducible exact h2 h
/-! ### cordon/clause.Put$1 -/
def clause_Put_1_A : Ann := { own := [], live := [], n := 8, nils := [], pubs := [] }
theorem clause_Put_1_eq (a0 : Int) (c0 : List LitD) (c1 : Int) (R : D → Prop) : fnD Tryz.prog Ev clause_Put_1_A Tryz.f179.results.toList (bodyOf Tryz.f179) [dI a0, .iptr [.sl .lit c0] 0, .iptr [dI c1] 0] R =
 (Call1 Tryz.prog f_slices_ContainsFunc_api_Clause_api_Lit [.sl .lit c0, .clo f_clause_Put_1_1 none [.iptr [dI c1] 0, .iptr [dI a0] 0]] .bool fun s1 =>
 R (dB s1)) := by kernel_rfl
theorem clause_Put_1_sat {r : D} (a0 : Int) (c0 : List LitD) (c1 : Int) (h : (∀ d ∈ [dI a0, .iptr [.sl .lit c0] 0, .iptr [dI c1] 0], okD d) → fnD Tryz.prog Ev clause_Put_1_A Tryz.f179.results.toList (bodyOf Tryz.f179) [dI a0, .iptr [.sl .lit c0] 0, .iptr [dI c1] 0] fun d => d = r) : Sat Tryz.prog f_clause_Put_1 [dI a0, .iptr [.sl .lit c0] 0, .iptr [dI c1] 0] r := by
  have h2 := sat_of (r := r) (args := [dI a0, .iptr [.sl .lit c0] 0, .iptr [dI c1] 0]) (A := clause_Put_1_A) (fn := Tryz.f179) (body := bodyOf Tryz.f179) (f := f_clause_Put_1) factsEv Tryz.func179 (by kernel_rfl) (by rw [Tryz.ntmps179]; rfl) (by rw [Tryz.ntmps179]; exact Nat.le_of_ble_eq_true rfl)
  with_reducible exact h2 h
/-! ### cordon/clause.Put$1$1 -/
def clause_Put_1_1_A : Ann := { own := [], live := [], n := 14, nils := [], pubs := [] }
theorem clause_Put_1_1_eq (a0 : LitD) (c0 : Int) (c1 : Int) (R : D → Prop) : fnD Tryz.prog Ev clause_Put_1_1_A Tryz.f180.results.toList (bodyOf Tryz.f180) [dL a0, .iptr [dI c0] 0, .iptr [dI c1] 0] R =
 (sel (decide (a0.var = c0))
 (Call1 Tryz.prog f_model_Lit [dL a0, dI c1] .bool fun m1 =>
 R (dB m1))
 (R (dB false))) := by kernel_rfl
theorem clause_Put_1_1_sat {r : D} (a0 : LitD) (c0 : Int) (c1 : Int) (h : (∀ d ∈ [dL a0, .iptr [dI c0] 0, .iptr [dI c1] 0], okD d) → fnD Tryz.prog Ev clause_Put_1_1_A Tryz.f180.results.toList (bodyOf Tryz.f180) [dL a0, .iptr [dI c0] 0, .iptr [dI c1] 0] fun d => d = r) : Sat Tryz.prog f_clause_Put_1_1 [dL a0, .iptr [dI c0] 0, .iptr [dI c1] 0] r := by
  have h2 := sat_of (r := r) (args := [dL a0, .iptr [dI c0] 0, .iptr [dI c1] 0]) (A := clause_Put_1_1_A) (fn := Tryz.f180) (body := bodyOf Tryz.f180) (f := f_clause_Put_1_1) factsEv Tryz.func180 (by kernel_rfl) (by rw [Tryz.ntmps180]; rfl) (by rw [Tryz.ntmps180]; exact Nat.le_of_ble_eq_true rfl)
  with_reducible exact h2 h
/-! ### cordon/clause.Put$2 -/
def clause_Put_2_A : Ann := { own := [], live := [], n := 15, nils := [], pubs := [] }
theorem clause_Put_2_eq (a0 : Int) (a1 : Int) (c0 : Int) (h1 : FuncId) (hap1 : List D) (R : D → Prop) : fnD Tryz.prog Ev clause_Put_2_A Tryz.f181.results.toList (bodyOf Tryz.f181) [dI a0, dI a1, .iptr [dI c0] 0, .iptr [.clo h1 (some [.bool]) hap1] 0] R =
 (sel (!decide (a0 = c0))
 (R (dB true))
 (Ent Tryz.prog h1 ∧
 Call1 Tryz.prog h1 ([dI a1] ++ hap1) .bool fun r1 =>
 R (dB r1))) := by kernel_rfl
theorem clause_Put_2_sat {r : D} (a0 : Int) (a1 : Int) (c0 : Int) (h1 : FuncId) (hap1 : List D) (h : (∀ d ∈ [dI a0, dI a1, .iptr [dI c0] 0, .iptr [.clo h1 (some [.bool]) hap1] 0], okD d) → fnD Tryz.prog Ev clause_Put_2_A Tryz.f181.results.toList (bodyOf Tryz.f181) [dI a0, dI a1, .iptr [dI c0] 0, .iptr [.clo h1 (some [.bool]) hap1] 0] fun d => d = r) : Sat Tryz.prog f_clause_Put_2 [dI a0, dI a1, .iptr [dI c0] 0, .iptr [.clo h1 (some [.bool]) hap1] 0] r := by
  have h2 := sat_of (r := r) (args := [dI a0, dI a1, .iptr [dI c0] 0, .iptr [.clo h1 (some [.bool]) hap1] 0]) (A := clause_Put_2_A) (fn := Tryz.f181) (body := bodyOf Tryz.f181) (f := f_clause_Put_2) factsEv Tryz.func181 (by kernel_rfl) (by rw [Tryz.ntmps181]; rfl) (by rw [Tryz.ntmps181]; exact Nat.le_of_ble_eq_true rfl)
  with_reducible exact h2 h
/-! ### cordon/clause.Without$1 -/
def clause_Without_1_A : Ann := { own := [], live := [], n := 10, nils := [], pubs := [] }
theorem clause_Without_1_eq (a0 : Int) (a1 : Int) (c0 : List LitD) (R : D → Prop) : fnD Tryz.prog Ev clause_Without_1_A Tryz.f184.results.toList (bodyOf Tryz.f184) [dI a0, dI a1, .iptr [.sl .lit c0] 0] R =
 (Call1 Tryz.prog f_slices_ContainsFunc_api_Clause_api_Lit [.sl .lit c0, .clo f_clause_Without_1_1 none [.iptr [dI a0] 0, .iptr [dI a1] 0]] .bool fun s1 =>
 R (dB (!s1))) := by kernel_rfl
theorem clause_Without_1_sat {r : D} (a0 : Int) (a1 : Int) (c0 : List LitD) (h : (∀ d ∈ [dI a0, dI a1, .iptr [.sl .lit c0] 0], okD d) → fnD Tryz.prog Ev clause_Without_1_A Tryz.f184.results.toList (bodyOf Tryz.f184) [dI a0, dI a1, .iptr [.sl .lit c0] 0] fun d => d = r) : Sat Tryz.prog f_clause_Without_1 [dI a0, dI a1, .iptr [.sl .lit c0] 0] r := by
  have h2 := sat_of (r := r) (args := [dI a0, dI a1, .iptr [.sl .lit c0] 0]) (A := clause_Without_1_A) (fn := Tryz.f184) (body := bodyOf Tryz.f184) (f := f_clause_Without_1) factsEv Tryz.func184 (by kernel_rfl) (by rw [Tryz.ntmps184]; rfl) (by rw [Tryz.ntmps184]; exact Nat.le_of_ble_eq_true rfl)
  with_reducible exact h2 h
/-! ### cordon/clause.Without$1$1 -/
def clause_Without_1_1_A : Ann := { own := [], live := [], n := 14, nils := [], pubs := [] }
theorem clause_Without_1_1_eq (a0 : LitD) (c0 : Int) (c1 : Int) (R : D → Prop) : fnD Tryz.prog Ev clause_Without_1_1_A Tryz.f185.results.toList (bodyOf Tryz.f185) [dL a0, .iptr [dI c0] 0, .iptr [dI c1] 0] R =
 (sel (decide (a0.var = c0))
 (Call1 Tryz.prog f_model_Lit [dL a0, dI c1] .bool fun m1 =>
 R (dB m1))
 (R (dB false))) := by kernel_rfl
theorem clause_Without_1_1_sat {r : D} (a0 : LitD) (c0 : Int) (c1 : Int) (h : (∀ d ∈ [dL a0, .iptr [dI c0] 0, .iptr [dI c1] 0], okD d) → fnD Tryz.prog Ev clause_Without_1_1_A Tryz.f185.results.toList (bodyOf Tryz.f185) [dL a0, .iptr [dI c0] 0, .iptr [dI c1] 0] fun d => d = r) : Sat Tryz.prog f_clause_Without_1_1 [dL a0, .iptr [dI c0] 0, .iptr [dI c1] 0] r := by
  have h2 := sat_of (r := r) (args := [dL a0, .iptr [dI c0] 0, .iptr [dI c1] 0]) (A := clause_Without_1_1_A) (fn := Tryz.f185) (body := bodyOf Tryz.f185) (f := f_clause_Without_1_1) factsEv Tryz.func185 (by kernel_rfl) (by rw [Tryz.ntmps185]; rfl) (by rw [Tryz.ntmps185]; exact Nat.le_of_ble_eq_true rfl)
  with_reducible exact h2 h
end Go.Proofs.YtgnjdgafkjohaaaGreat
