/- What the functions of a package do, as equations of plain propositions: printed by a program that carries the code out on symbols. -/
import Derived.Test.YtonkbljpcgadlaaGreatWEv
namespace Go.Proofs.YtonkbljpcgadlaaGreat
open Go.RowKit
set_option linter.unusedVariables false
set_option maxRecDepth 100000
/-! ### cordon/clause.Holds -/
def clause_Holds_A : Ann := { own := [], live := [], n := 24, nils := [], pubs := [] }
theorem clause_Holds_eq (a0 : MdlD) (a1 : List LitD) (a2 : List Int) (R : D → Prop) : fnD Tryz.prog Ev clause_Holds_A Tryz.f5.results.toList (bodyOf Tryz.f5) [.agg [.sl .var a0.vars, .sl .con a0.cons, .int .i64 a0.goal, .int .i64 a0.var], .sl .lit a1, .sl .int a2] R =
 (Call1 Tryz.prog f_clause_Check [.agg [.sl .var a0.vars, .sl .con a0.cons, .int .i64 a0.goal, .int .i64 a0.var], .sl .lit a1] .int fun c1 =>
 sel (!decide (c1 = 0))
 (R (.tup [.bool false, .int .i64 c1]))
 (sel (!decide ((a2.length : Int) = (a0.vars.length : Int)))
 (R (.tup [.bool false, .int .i64 1]))
 (Call1 Tryz.prog f_slices_ContainsFunc_api_Clause_api_Lit [.sl .lit a1, .clo f_clause_Holds_1 none [.iptr [.sl .int a2] 0]] .bool fun s2 =>
 R (.tup [.bool s2, .int .i64 0])))) := by kernel_rfl
theorem clause_Holds_sat {r : D} (a0 : MdlD) (a1 : List LitD) (a2 : List Int) (h : (∀ d ∈ [.agg [.sl .var a0.vars, .sl .con a0.cons, .int .i64 a0.goal, .int .i64 a0.var], .sl .lit a1, .sl .int a2], okD d) → fnD Tryz.prog Ev clause_Holds_A Tryz.f5.results.toList (bodyOf Tryz.f5) [.agg [.sl .var a0.vars, .sl .con a0.cons, .int .i64 a0.goal, .int .i64 a0.var], .sl .lit a1, .sl .int a2] fun d => d = r) : Sat Tryz.prog f_clause_Holds [.agg [.sl .var a0.vars, .sl .con a0.cons, .int .i64 a0.goal, .int .i64 a0.var], .sl .lit a1, .sl .int a2] r := by
  have h2 := sat_of (r := r) (args := [.agg [.sl .var a0.vars, .sl .con a0.cons, .int .i64 a0.goal, .int .i64 a0.var], .sl .lit a1, .sl .int a2]) (A := clause_Holds_A) (fn := Tryz.f5) (body := bodyOf Tryz.f5) (f := f_clause_Holds) factsEv Tryz.func5 (by kernel_rfl) (by rw [Tryz.ntmps5]; rfl) (by rw [Tryz.ntmps5]; exact Nat.le_of_ble_eq_true rfl)
  with_reducible exact h2 h
/-! ### cordon/clause.Unit -/
def clause_Unit_A : Ann := { own := [], live := [], n := 19, nils := [], pubs := [] }
theorem clause_Unit_eq (a0 : MdlD) (a1 : List (List Int)) (a2 : List LitD) (R : D → Prop) : fnD Tryz.prog Ev clause_Unit_A Tryz.f6.results.toList (bodyOf Tryz.f6) [.agg [.sl .var a0.vars, .sl .con a0.cons, .int .i64 a0.goal, .int .i64 a0.var], .sl (.list .int) a1, .sl .lit a2] R =
 (Call1 Tryz.prog f_clause_ready [.agg [.sl .var a0.vars, .sl .con a0.cons, .int .i64 a0.goal, .int .i64 a0.var], .sl (.list .int) a1, .sl .lit a2] .int fun c1 =>
 sel (!decide (c1 = 0))
 (R (.tup [.sl (.list .int) ([] : List (List Int)), .int .i64 c1]))
 (Call1 Tryz.prog f_clause_Put [.sl (.list .int) a1, .sl .lit a2] (.list (.list .int)) fun c2 =>
 R (.tup [.sl (.list .int) c2, .int .i64 0]))) := by kernel_rfl
theorem clause_Unit_sat {r : D} (a0 : MdlD) (a1 : List (List Int)) (a2 : List LitD) (h : (∀ d ∈ [.agg [.sl .var a0.vars, .sl .con a0.cons, .int .i64 a0.goal, .int .i64 a0.var], .sl (.list .int) a1, .sl .lit a2], okD d) → fnD Tryz.prog Ev clause_Unit_A Tryz.f6.results.toList (bodyOf Tryz.f6) [.agg [.sl .var a0.vars, .sl .con a0.cons, .int .i64 a0.goal, .int .i64 a0.var], .sl (.list .int) a1, .sl .lit a2] fun d => d = r) : Sat Tryz.prog f_clause_Unit [.agg [.sl .var a0.vars, .sl .con a0.cons, .int .i64 a0.goal, .int .i64 a0.var], .sl (.list .int) a1, .sl .lit a2] r := by
  have h2 := sat_of (r := r) (args := [.agg [.sl .var a0.vars, .sl .con a0.cons, .int .i64 a0.goal, .int .i64 a0.var], .sl (.list .int) a1, .sl .lit a2]) (A := clause_Unit_A) (fn := Tryz.f6) (body := bodyOf Tryz.f6) (f := f_clause_Unit) factsEv Tryz.func6 (by kernel_rfl) (by rw [Tryz.ntmps6]; rfl) (by rw [Tryz.ntmps6]; exact Nat.le_of_ble_eq_true rfl)
  with_reducible exact h2 h
/-! ### cordon/clause.Deny -/
def clause_Deny_A : Ann := { own := [], live := [], n := 19, nils := [], pubs := [] }
theorem clause_Deny_eq (a0 : MdlD) (a1 : List (List Int)) (a2 : List LitD) (R : D → Prop) : fnD Tryz.prog Ev clause_Deny_A Tryz.f7.results.toList (bodyOf Tryz.f7) [.agg [.sl .var a0.vars, .sl .con a0.cons, .int .i64 a0.goal, .int .i64 a0.var], .sl (.list .int) a1, .sl .lit a2] R =
 (Call1 Tryz.prog f_clause_ready [.agg [.sl .var a0.vars, .sl .con a0.cons, .int .i64 a0.goal, .int .i64 a0.var], .sl (.list .int) a1, .sl .lit a2] .int fun c1 =>
 sel (!decide (c1 = 0))
 (R (.tup [.sl (.list .int) ([] : List (List Int)), .int .i64 c1]))
 (Call1 Tryz.prog f_clause_Without [.sl (.list .int) a1, .sl .lit a2] (.list (.list .int)) fun c2 =>
 R (.tup [.sl (.list .int) c2, .int .i64 0]))) := by kernel_rfl
theorem clause_Deny_sat {r : D} (a0 : MdlD) (a1 : List (List Int)) (a2 : List LitD) (h : (∀ d ∈ [.agg [.sl .var a0.vars, .sl .con a0.cons, .int .i64 a0.goal, .int .i64 a0.var], .sl (.list .int) a1, .sl .lit a2], okD d) → fnD Tryz.prog Ev clause_Deny_A Tryz.f7.results.toList (bodyOf Tryz.f7) [.agg [.sl .var a0.vars, .sl .con a0.cons, .int .i64 a0.goal, .int .i64 a0.var], .sl (.list .int) a1, .sl .lit a2] fun d => d = r) : Sat Tryz.prog f_clause_Deny [.agg [.sl .var a0.vars, .sl .con a0.cons, .int .i64 a0.goal, .int .i64 a0.var], .sl (.list .int) a1, .sl .lit a2] r := by
  have h2 := sat_of (r := r) (args := [.agg [.sl .var a0.vars, .sl .con a0.cons, .int .i64 a0.goal, .int .i64 a0.var], .sl (.list .int) a1, .sl .lit a2]) (A := clause_Deny_A) (fn := Tryz.f7) (body := bodyOf Tryz.f7) (f := f_clause_Deny) factsEv Tryz.func7 (by kernel_rfl) (by rw [Tryz.ntmps7]; rfl) (by rw [Tryz.ntmps7]; exact Nat.le_of_ble_eq_true rfl)
  with_reducible exact h2 h
/-! ### cordon/clause.Check -/
def clause_Check_A : Ann := { own := [], live := [], n := 14, nils := [], pubs := [] }
theorem clause_Check_eq (a0 : MdlD) (a1 : List LitD) (R : D → Prop) : fnD Tryz.prog Ev clause_Check_A Tryz.f14.results.toList (bodyOf Tryz.f14) [.agg [.sl .var a0.vars, .sl .con a0.cons, .int .i64 a0.goal, .int .i64 a0.var], .sl .lit a1] R =
 (Call1 Tryz.prog f_model_Check [.agg [.sl .var a0.vars, .sl .con a0.cons, .int .i64 a0.goal, .int .i64 a0.var]] .int fun m1 =>
 sel (!decide (m1 = 0))
 (R (.int .i64 m1))
 (Call1 Tryz.prog f_clause_Right [.agg [.sl .var a0.vars, .sl .con a0.cons, .int .i64 a0.goal, .int .i64 a0.var], .sl .lit a1] .int fun c2 =>
 R (.int .i64 c2))) := by kernel_rfl
theorem clause_Check_sat {r : D} (a0 : MdlD) (a1 : List LitD) (h : (∀ d ∈ [.agg [.sl .var a0.vars, .sl .con a0.cons, .int .i64 a0.goal, .int .i64 a0.var], .sl .lit a1], okD d) → fnD Tryz.prog Ev clause_Check_A Tryz.f14.results.toList (bodyOf Tryz.f14) [.agg [.sl .var a0.vars, .sl .con a0.cons, .int .i64 a0.goal, .int .i64 a0.var], .sl .lit a1] fun d => d = r) : Sat Tryz.prog f_clause_Check [.agg [.sl .var a0.vars, .sl .con a0.cons, .int .i64 a0.goal, .int .i64 a0.var], .sl .lit a1] r := by
  have h2 := sat_of (r := r) (args := [.agg [.sl .var a0.vars, .sl .con a0.cons, .int .i64 a0.goal, .int .i64 a0.var], .sl .lit a1]) (A := clause_Check_A) (fn := Tryz.f14) (body := bodyOf Tryz.f14) (f := f_clause_Check) factsEv Tryz.func14 (by kernel_rfl) (by rw [Tryz.ntmps14]; rfl) (by rw [Tryz.ntmps14]; exact Nat.le_of_ble_eq_true rfl)
  with_reducible exact h2 h
/-! ### cordon/clause.Holds$1 -/
def clause_Holds_1_A : Ann := { own := [], live := [], n := 11, nils := [], pubs := [] }
theorem clause_Holds_1_eq (a0 : LitD) (c0 : List Int) (R : D → Prop) : fnD Tryz.prog Ev clause_Holds_1_A Tryz.f24.results.toList (bodyOf Tryz.f24) [.agg [.int .i64 a0.var, .int .i64 a0.op, .int .i64 a0.n], .iptr [.sl .int c0] 0] R =
 (inb a0.var c0.length = true ∧
 Call1 Tryz.prog f_model_Lit [.agg [.int .i64 a0.var, .int .i64 a0.op, .int .i64 a0.n], .int .i64 (at' .int c0 a0.var.toNat)] .bool fun m1 =>
 R (.bool m1)) := by kernel_rfl
theorem clause_Holds_1_sat {r : D} (a0 : LitD) (c0 : List Int) (h : (∀ d ∈ [.agg [.int .i64 a0.var, .int .i64 a0.op, .int .i64 a0.n], .iptr [.sl .int c0] 0], okD d) → fnD Tryz.prog Ev clause_Holds_1_A Tryz.f24.results.toList (bodyOf Tryz.f24) [.agg [.int .i64 a0.var, .int .i64 a0.op, .int .i64 a0.n], .iptr [.sl .int c0] 0] fun d => d = r) : Sat Tryz.prog f_clause_Holds_1 [.agg [.int .i64 a0.var, .int .i64 a0.op, .int .i64 a0.n], .iptr [.sl .int c0] 0] r := by
  have h2 := sat_of (r := r) (args := [.agg [.int .i64 a0.var, .int .i64 a0.op, .int .i64 a0.n], .iptr [.sl .int c0] 0]) (A := clause_Holds_1_A) (fn := Tryz.f24) (body := bodyOf Tryz.f24) (f := f_clause_Holds_1) factsEv Tryz.func24 (by kernel_rfl) (by rw [Tryz.ntmps24]; rfl) (by rw [Tryz.ntmps24]; exact Nat.le_of_ble_eq_true rfl)
  with_reducible exact h2 h
/-! ### cordon/clause.ready -/
def clause_ready_A : Ann := { own := [], live := [], n := 17, nils := [], pubs := [] }
theorem clause_ready_eq (a0 : MdlD) (a1 : List (List Int)) (a2 : List LitD) (R : D → Prop) : fnD Tryz.prog Ev clause_ready_A Tryz.f26.results.toList (bodyOf Tryz.f26) [.agg [.sl .var a0.vars, .sl .con a0.cons, .int .i64 a0.goal, .int .i64 a0.var], .sl (.list .int) a1, .sl .lit a2] R =
 (Call1 Tryz.prog f_store_Check [.agg [.sl .var a0.vars, .sl .con a0.cons, .int .i64 a0.goal, .int .i64 a0.var], .sl (.list .int) a1] .int fun s1 =>
 sel (!decide (s1 = 0))
 (R (.int .i64 s1))
 (Call1 Tryz.prog f_clause_Right [.agg [.sl .var a0.vars, .sl .con a0.cons, .int .i64 a0.goal, .int .i64 a0.var], .sl .lit a2] .int fun c2 =>
 R (.int .i64 c2))) := by kernel_rfl
theorem clause_ready_sat {r : D} (a0 : MdlD) (a1 : List (List Int)) (a2 : List LitD) (h : (∀ d ∈ [.agg [.sl .var a0.vars, .sl .con a0.cons, .int .i64 a0.goal, .int .i64 a0.var], .sl (.list .int) a1, .sl .lit a2], okD d) → fnD Tryz.prog Ev clause_ready_A Tryz.f26.results.toList (bodyOf Tryz.f26) [.agg [.sl .var a0.vars, .sl .con a0.cons, .int .i64 a0.goal, .int .i64 a0.var], .sl (.list .int) a1, .sl .lit a2] fun d => d = r) : Sat Tryz.prog f_clause_ready [.agg [.sl .var a0.vars, .sl .con a0.cons, .int .i64 a0.goal, .int .i64 a0.var], .sl (.list .int) a1, .sl .lit a2] r := by
  have h2 := sat_of (r := r) (args := [.agg [.sl .var a0.vars, .sl .con a0.cons, .int .i64 a0.goal, .int .i64 a0.var], .sl (.list .int) a1, .sl .lit a2]) (A := clause_ready_A) (fn := Tryz.f26) (body := bodyOf Tryz.f26) (f := f_clause_ready) factsEv Tryz.func26 (by kernel_rfl) (by rw [Tryz.ntmps26]; rfl) (by rw [Tryz.ntmps26]; exact Nat.le_of_ble_eq_true rfl)
  with_reducible exact h2 h
/-! ### cordon/clause.Put -/
def clause_Put_A : Ann := { own := [5, 7, 8], live := [(0, ([0, 3, 5, 13, 14, 15], [5]))], n := 44, nils := [], pubs := [] }
def clause_Put_I0 (a0 : List (List Int)) (a1 : List LitD) (R : D → Prop) (n0 : Nat) (v3 : Int) (one4 : Int) : Prop := iter (den Tryz.prog Ev clause_Put_A (sub [1, 1, 1, 0, 1, 0, 0] (bodyOf Tryz.f27)) 0) clause_Put_A (liveOf clause_Put_A 0) n0 ⟨[(0, .sl (.list .int) a0), (3, .iptr [.sl .lit a1] 0), (5, .ptr 5 0), (13, .sl .lit a1), (14, .int .i64 (a1.length : Int)), (15, .int .i64 v3)], [(5, .cells [.int .i64 one4])]⟩ (blockK 0 (seqK Tryz.prog Ev clause_Put_A (sub [1, 1, 1, 1] (bodyOf Tryz.f27)) 0 (endK Ev Tryz.f27.results.toList R)))
theorem clause_Put_I0_eq (a0 : List (List Int)) (a1 : List LitD) (R : D → Prop) (n0 : Nat) (v3 : Int) (one4 : Int) : clause_Put_I0 a0 a1 R (n0 + 1) v3 one4 =
 (sel (decide (v3 < (a1.length : Int)))
 (inb v3 a1.length = true ∧
 Call1 Tryz.prog f_lit_Says [.sl (.list .int) a0, .agg [.int .i64 ((at' .lit a1 v3.toNat).var), .int .i64 ((at' .lit a1 v3.toNat).op), .int .i64 ((at' .lit a1 v3.toNat).n)]] .int fun l5 =>
 sel (decide (l5 < 0))
 (clause_Put_I0 a0 a1 R n0 (w64 (v3 + 1)) one4)
 (sel (decide (0 ≤ one4))
 (sel (!decide (one4 = ((at' .lit a1 v3.toNat).var)))
 (Call1 Tryz.prog f_store_Own [.sl (.list .int) a0] (.list (.list .int)) fun s6 =>
 R (.sl (.list .int) s6))
 (clause_Put_I0 a0 a1 R n0 (w64 (v3 + 1)) ((at' .lit a1 v3.toNat).var)))
 (clause_Put_I0 a0 a1 R n0 (w64 (v3 + 1)) ((at' .lit a1 v3.toNat).var))))
 (sel (decide (one4 < 0))
 (Call1 Tryz.prog f_store_Nothing [.sl (.list .int) a0] (.list (.list .int)) fun s7 =>
 R (.sl (.list .int) s7))
 (Call1 Tryz.prog f_store_Keep [.sl (.list .int) a0, .clo f_clause_Put_2 none [.iptr [.int .i64 one4] 0, .iptr [.clo f_clause_Put_1 none [.iptr [.sl .lit a1] 0, .iptr [.int .i64 one4] 0]] 0]] (.list (.list .int)) fun s8 =>
 R (.sl (.list .int) s8)))) := by kernel_rfl
theorem clause_Put_eq (a0 : List (List Int)) (a1 : List LitD) (R : D → Prop) : fnD Tryz.prog Ev clause_Put_A Tryz.f27.results.toList (bodyOf Tryz.f27) [.sl (.list .int) a0, .sl .lit a1] R =
 (Call1 Tryz.prog f_store_Empty [.sl (.list .int) a0] .bool fun s1 =>
 sel s1
 (Call1 Tryz.prog f_store_Own [.sl (.list .int) a0] (.list (.list .int)) fun s2 =>
 R (.sl (.list .int) s2))
 (∃ n0, clause_Put_I0 a0 a1 R n0 0 (-1))) := by kernel_rfl
theorem clause_Put_sat {r : D} (a0 : List (List Int)) (a1 : List LitD) (h : (∀ d ∈ [.sl (.list .int) a0, .sl .lit a1], okD d) → fnD Tryz.prog Ev clause_Put_A Tryz.f27.results.toList (bodyOf Tryz.f27) [.sl (.list .int) a0, .sl .lit a1] fun d => d = r) : Sat Tryz.prog f_clause_Put [.sl (.list .int) a0, .sl .lit a1] r := by
  have h2 := sat_of (r := r) (args := [.sl (.list .int) a0, .sl .lit a1]) (A := clause_Put_A) (fn := Tryz.f27) (body := bodyOf Tryz.f27) (f := f_clause_Put) factsEv Tryz.func27 (by kernel_rfl) (by rw [Tryz.ntmps27]; rfl) (by rw [Tryz.ntmps27]; exact Nat.le_of_ble_eq_true rfl)
  with_reducible exact h2 h
/-! ### cordon/clause.Without -/
def clause_Without_A : Ann := { own := [], live := [], n := 8, nils := [], pubs := [] }
theorem clause_Without_eq (a0 : List (List Int)) (a1 : List LitD) (R : D → Prop) : fnD Tryz.prog Ev clause_Without_A Tryz.f28.results.toList (bodyOf Tryz.f28) [.sl (.list .int) a0, .sl .lit a1] R =
 (Call1 Tryz.prog f_store_Keep [.sl (.list .int) a0, .clo f_clause_Without_1 none [.iptr [.sl .lit a1] 0]] (.list (.list .int)) fun s1 =>
 R (.sl (.list .int) s1)) := by kernel_rfl
theorem clause_Without_sat {r : D} (a0 : List (List Int)) (a1 : List LitD) (h : (∀ d ∈ [.sl (.list .int) a0, .sl .lit a1], okD d) → fnD Tryz.prog Ev clause_Without_A Tryz.f28.results.toList (bodyOf Tryz.f28) [.sl (.list .int) a0, .sl .lit a1] fun d => d = r) : Sat Tryz.prog f_clause_Without [.sl (.list .int) a0, .sl .lit a1] r := by
  have h2 := sat_of (r := r) (args := [.sl (.list .int) a0, .sl .lit a1]) (A := clause_Without_A) (fn := Tryz.f28) (body := bodyOf Tryz.f28) (f := f_clause_Without) factsEv Tryz.func28 (by kernel_rfl) (by rw [Tryz.ntmps28]; rfl) (by rw [Tryz.ntmps28]; exact Nat.le_of_ble_eq_true rfl)
  with_reducible exact h2 h
/-! ### cordon/clause.Right -/
def clause_Right_A : Ann := { own := [6], live := [(0, ([2, 11, 12, 13], []))], n := 24, nils := [], pubs := [] }
def clause_Right_I0 (a0 : MdlD) (a1 : List LitD) (R : D → Prop) (n0 : Nat) (v1 : Int) : Prop := iter (den Tryz.prog Ev clause_Right_A (sub [1, 1, 0, 1, 0, 0] (bodyOf Tryz.f42)) 0) clause_Right_A (liveOf clause_Right_A 0) n0 ⟨[(2, .iptr [.sl .var a0.vars, .sl .con a0.cons, .int .i64 a0.goal, .int .i64 a0.var] 0), (11, .sl .lit a1), (12, .int .i64 (a1.length : Int)), (13, .int .i64 v1)], []⟩ (blockK 0 (seqK Tryz.prog Ev clause_Right_A (sub [1, 1, 1] (bodyOf Tryz.f42)) 0 (endK Ev Tryz.f42.results.toList R)))
theorem clause_Right_I0_eq (a0 : MdlD) (a1 : List LitD) (R : D → Prop) (n0 : Nat) (v1 : Int) : clause_Right_I0 a0 a1 R (n0 + 1) v1 =
 (sel (decide (v1 < (a1.length : Int)))
 (inb v1 a1.length = true ∧
 Call1 Tryz.prog f_lit_Right [.agg [.sl .var a0.vars, .sl .con a0.cons, .int .i64 a0.goal, .int .i64 a0.var], .agg [.int .i64 ((at' .lit a1 v1.toNat).var), .int .i64 ((at' .lit a1 v1.toNat).op), .int .i64 ((at' .lit a1 v1.toNat).n)]] .int fun l2 =>
 sel (!decide (l2 = 0))
 (R (.int .i64 l2))
 (clause_Right_I0 a0 a1 R n0 (w64 (v1 + 1))))
 (R (.int .i64 0))) := by kernel_rfl
theorem clause_Right_eq (a0 : MdlD) (a1 : List LitD) (R : D → Prop) : fnD Tryz.prog Ev clause_Right_A Tryz.f42.results.toList (bodyOf Tryz.f42) [.agg [.sl .var a0.vars, .sl .con a0.cons, .int .i64 a0.goal, .int .i64 a0.var], .sl .lit a1] R =
 (sel (decide (40 < (a1.length : Int)))
 (R (.int .i64 2))
 (∃ n0, clause_Right_I0 a0 a1 R n0 0)) := by kernel_rfl
theorem clause_Right_sat {r : D} (a0 : MdlD) (a1 : List LitD) (h : (∀ d ∈ [.agg [.sl .var a0.vars, .sl .con a0.cons, .int .i64 a0.goal, .int .i64 a0.var], .sl .lit a1], okD d) → fnD Tryz.prog Ev clause_Right_A Tryz.f42.results.toList (bodyOf Tryz.f42) [.agg [.sl .var a0.vars, .sl .con a0.cons, .int .i64 a0.goal, .int .i64 a0.var], .sl .lit a1] fun d => d = r) : Sat Tryz.prog f_clause_Right [.agg [.sl .var a0.vars, .sl .con a0.cons, .int .i64 a0.goal, .int .i64 a0.var], .sl .lit a1] r := by
  have h2 := sat_of (r := r) (args := [.agg [.sl .var a0.vars, .sl .con a0.cons, .int .i64 a0.goal, .int .i64 a0.var], .sl .lit a1]) (A := clause_Right_A) (fn := Tryz.f42) (body := bodyOf Tryz.f42) (f := f_clause_Right) factsEv Tryz.func42 (by kernel_rfl) (by rw [Tryz.ntmps42]; rfl) (by rw [Tryz.ntmps42]; exact Nat.le_of_ble_eq_true rfl)
  with_reducible exact h2 h
/-! ### cordon/clause.Put$1 -/
def clause_Put_1_A : Ann := { own := [], live := [], n := 8, nils := [], pubs := [] }
theorem clause_Put_1_eq (a0 : Int) (c0 : List LitD) (c1 : Int) (R : D → Prop) : fnD Tryz.prog Ev clause_Put_1_A Tryz.f57.results.toList (bodyOf Tryz.f57) [.int .i64 a0, .iptr [.sl .lit c0] 0, .iptr [.int .i64 c1] 0] R =
 (Call1 Tryz.prog f_slices_ContainsFunc_api_Clause_api_Lit [.sl .lit c0, .clo f_clause_Put_1_1 none [.iptr [.int .i64 c1] 0, .iptr [.int .i64 a0] 0]] .bool fun s1 =>
 R (.bool s1)) := by kernel_rfl
theorem clause_Put_1_sat {r : D} (a0 : Int) (c0 : List LitD) (c1 : Int) (h : (∀ d ∈ [.int .i64 a0, .iptr [.sl .lit c0] 0, .iptr [.int .i64 c1] 0], okD d) → fnD Tryz.prog Ev clause_Put_1_A Tryz.f57.results.toList (bodyOf Tryz.f57) [.int .i64 a0, .iptr [.sl .lit c0] 0, .iptr [.int .i64 c1] 0] fun d => d = r) : Sat Tryz.prog f_clause_Put_1 [.int .i64 a0, .iptr [.sl .lit c0] 0, .iptr [.int .i64 c1] 0] r := by
  have h2 := sat_of (r := r) (args := [.int .i64 a0, .iptr [.sl .lit c0] 0, .iptr [.int .i64 c1] 0]) (A := clause_Put_1_A) (fn := Tryz.f57) (body := bodyOf Tryz.f57) (f := f_clause_Put_1) factsEv Tryz.func57 (by kernel_rfl) (by rw [Tryz.ntmps57]; rfl) (by rw [Tryz.ntmps57]; exact Nat.le_of_ble_eq_true rfl)
  with_reducible exact h2 h
/-! ### cordon/clause.Put$1$1 -/
def clause_Put_1_1_A : Ann := { own := [], live := [], n := 14, nils := [], pubs := [] }
theorem clause_Put_1_1_eq (a0 : LitD) (c0 : Int) (c1 : Int) (R : D → Prop) : fnD Tryz.prog Ev clause_Put_1_1_A Tryz.f58.results.toList (bodyOf Tryz.f58) [.agg [.int .i64 a0.var, .int .i64 a0.op, .int .i64 a0.n], .iptr [.int .i64 c0] 0, .iptr [.int .i64 c1] 0] R =
 (sel (decide (a0.var = c0))
 (Call1 Tryz.prog f_model_Lit [.agg [.int .i64 a0.var, .int .i64 a0.op, .int .i64 a0.n], .int .i64 c1] .bool fun m1 =>
 R (.bool m1))
 (R (.bool false))) := by kernel_rfl
theorem clause_Put_1_1_sat {r : D} (a0 : LitD) (c0 : Int) (c1 : Int) (h : (∀ d ∈ [.agg [.int .i64 a0.var, .int .i64 a0.op, .int .i64 a0.n], .iptr [.int .i64 c0] 0, .iptr [.int .i64 c1] 0], okD d) → fnD Tryz.prog Ev clause_Put_1_1_A Tryz.f58.results.toList (bodyOf Tryz.f58) [.agg [.int .i64 a0.var, .int .i64 a0.op, .int .i64 a0.n], .iptr [.int .i64 c0] 0, .iptr [.int .i64 c1] 0] fun d => d = r) : Sat Tryz.prog f_clause_Put_1_1 [.agg [.int .i64 a0.var, .int .i64 a0.op, .int .i64 a0.n], .iptr [.int .i64 c0] 0, .iptr [.int .i64 c1] 0] r := by
  have h2 := sat_of (r := r) (args := [.agg [.int .i64 a0.var, .int .i64 a0.op, .int .i64 a0.n], .iptr [.int .i64 c0] 0, .iptr [.int .i64 c1] 0]) (A := clause_Put_1_1_A) (fn := Tryz.f58) (body := bodyOf Tryz.f58) (f := f_clause_Put_1_1) factsEv Tryz.func58 (by kernel_rfl) (by rw [Tryz.ntmps58]; rfl) (by rw [Tryz.ntmps58]; exact Nat.le_of_ble_eq_true rfl)
  with_reducible exact h2 h
/-! ### cordon/clause.Put$2 -/
def clause_Put_2_A : Ann := { own := [], live := [], n := 15, nils := [], pubs := [] }
theorem clause_Put_2_eq (a0 : Int) (a1 : Int) (c0 : Int) (h1 : FuncId) (hap1 : List D) (R : D → Prop) : fnD Tryz.prog Ev clause_Put_2_A Tryz.f60.results.toList (bodyOf Tryz.f60) [.int .i64 a0, .int .i64 a1, .iptr [.int .i64 c0] 0, .iptr [.clo h1 (some [.bool]) hap1] 0] R =
 (sel (!decide (a0 = c0))
 (R (.bool true))
 (Ent Tryz.prog h1 ∧
 Call1 Tryz.prog h1 ([.int .i64 a1] ++ hap1) .bool fun r1 =>
 R (.bool r1))) := by kernel_rfl
theorem clause_Put_2_sat {r : D} (a0 : Int) (a1 : Int) (c0 : Int) (h1 : FuncId) (hap1 : List D) (h : (∀ d ∈ [.int .i64 a0, .int .i64 a1, .iptr [.int .i64 c0] 0, .iptr [.clo h1 (some [.bool]) hap1] 0], okD d) → fnD Tryz.prog Ev clause_Put_2_A Tryz.f60.results.toList (bodyOf Tryz.f60) [.int .i64 a0, .int .i64 a1, .iptr [.int .i64 c0] 0, .iptr [.clo h1 (some [.bool]) hap1] 0] fun d => d = r) : Sat Tryz.prog f_clause_Put_2 [.int .i64 a0, .int .i64 a1, .iptr [.int .i64 c0] 0, .iptr [.clo h1 (some [.bool]) hap1] 0] r := by
  have h2 := sat_of (r := r) (args := [.int .i64 a0, .int .i64 a1, .iptr [.int .i64 c0] 0, .iptr [.clo h1 (some [.bool]) hap1] 0]) (A := clause_Put_2_A) (fn := Tryz.f60) (body := bodyOf Tryz.f60) (f := f_clause_Put_2) factsEv Tryz.func60 (by kernel_rfl) (by rw [Tryz.ntmps60]; rfl) (by rw [Tryz.ntmps60]; exact Nat.le_of_ble_eq_true rfl)
  with_reducible exact h2 h
/-! ### cordon/clause.Without$1 -/
def clause_Without_1_A : Ann := { own := [], live := [], n := 10, nils := [], pubs := [] }
theorem clause_Without_1_eq (a0 : Int) (a1 : Int) (c0 : List LitD) (R : D → Prop) : fnD Tryz.prog Ev clause_Without_1_A Tryz.f61.results.toList (bodyOf Tryz.f61) [.int .i64 a0, .int .i64 a1, .iptr [.sl .lit c0] 0] R =
 (Call1 Tryz.prog f_slices_ContainsFunc_api_Clause_api_Lit [.sl .lit c0, .clo f_clause_Without_1_1 none [.iptr [.int .i64 a0] 0, .iptr [.int .i64 a1] 0]] .bool fun s1 =>
 R (.bool (!s1))) := by kernel_rfl
theorem clause_Without_1_sat {r : D} (a0 : Int) (a1 : Int) (c0 : List LitD) (h : (∀ d ∈ [.int .i64 a0, .int .i64 a1, .iptr [.sl .lit c0] 0], okD d) → fnD Tryz.prog Ev clause_Without_1_A Tryz.f61.results.toList (bodyOf Tryz.f61) [.int .i64 a0, .int .i64 a1, .iptr [.sl .lit c0] 0] fun d => d = r) : Sat Tryz.prog f_clause_Without_1 [.int .i64 a0, .int .i64 a1, .iptr [.sl .lit c0] 0] r := by
  have h2 := sat_of (r := r) (args := [.int .i64 a0, .int .i64 a1, .iptr [.sl .lit c0] 0]) (A := clause_Without_1_A) (fn := Tryz.f61) (body := bodyOf Tryz.f61) (f := f_clause_Without_1) factsEv Tryz.func61 (by kernel_rfl) (by rw [Tryz.ntmps61]; rfl) (by rw [Tryz.ntmps61]; exact Nat.le_of_ble_eq_true rfl)
  with_reducible exact h2 h
/-! ### cordon/clause.Without$1$1 -/
def clause_Without_1_1_A : Ann := { own := [], live := [], n := 14, nils := [], pubs := [] }
theorem clause_Without_1_1_eq (a0 : LitD) (c0 : Int) (c1 : Int) (R : D → Prop) : fnD Tryz.prog Ev clause_Without_1_1_A Tryz.f62.results.toList (bodyOf Tryz.f62) [.agg [.int .i64 a0.var, .int .i64 a0.op, .int .i64 a0.n], .iptr [.int .i64 c0] 0, .iptr [.int .i64 c1] 0] R =
 (sel (decide (a0.var = c0))
 (Call1 Tryz.prog f_model_Lit [.agg [.int .i64 a0.var, .int .i64 a0.op, .int .i64 a0.n], .int .i64 c1] .bool fun m1 =>
 R (.bool m1))
 (R (.bool false))) := by kernel_rfl
theorem clause_Without_1_1_sat {r : D} (a0 : LitD) (c0 : Int) (c1 : Int) (h : (∀ d ∈ [.agg [.int .i64 a0.var, .int .i64 a0.op, .int .i64 a0.n], .iptr [.int .i64 c0] 0, .iptr [.int .i64 c1] 0], okD d) → fnD Tryz.prog Ev clause_Without_1_1_A Tryz.f62.results.toList (bodyOf Tryz.f62) [.agg [.int .i64 a0.var, .int .i64 a0.op, .int .i64 a0.n], .iptr [.int .i64 c0] 0, .iptr [.int .i64 c1] 0] fun d => d = r) : Sat Tryz.prog f_clause_Without_1_1 [.agg [.int .i64 a0.var, .int .i64 a0.op, .int .i64 a0.n], .iptr [.int .i64 c0] 0, .iptr [.int .i64 c1] 0] r := by
  have h2 := sat_of (r := r) (args := [.agg [.int .i64 a0.var, .int .i64 a0.op, .int .i64 a0.n], .iptr [.int .i64 c0] 0, .iptr [.int .i64 c1] 0]) (A := clause_Without_1_1_A) (fn := Tryz.f62) (body := bodyOf Tryz.f62) (f := f_clause_Without_1_1) factsEv Tryz.func62 (by kernel_rfl) (by rw [Tryz.ntmps62]; rfl) (by rw [Tryz.ntmps62]; exact Nat.le_of_ble_eq_true rfl)
  with_reducible exact h2 h
end Go.Proofs.YtonkbljpcgadlaaGreat
