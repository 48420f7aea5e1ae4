/- What the functions of a package do, as equations of plain propositions: printed by a program that carries the code out on symbols. -/
import Derived.Test.YtgnjdgafkjohaaaGreatWEv
namespace Go.Proofs.YtgnjdgafkjohaaaGreat
open Go.RowKit
set_option linter.unusedVariables false
set_option maxRecDepth 100000
/-! ### cordon/clause.Right -/
def clause_Right_A : Ann := { own := [6], live := [(0, ([2, 11, 12, 13], []))], n := 24, nils := [], pubs := [] }
def clause_Right_I0 (a0 : MdlD) (a1 : List LitD) (R : D → Prop) (n0 : Nat) (v1 : Int) : Prop := iter (den Tryz.prog Ev clause_Right_A (sub [1, 1, 0, 1, 0, 0] (bodyOf Tryz.f82)) 0) clause_Right_A (liveOf clause_Right_A 0) n0 ⟨[(2, .iptr [.sl .var a0.vars, .sl .con a0.cons, .int .i64 a0.goal, .int .i64 a0.var] 0), (11, .sl .lit a1), (12, .int .i64 (a1.length : Int)), (13, .int .i64 v1)], []⟩ (blockK 0 (seqK Tryz.prog Ev clause_Right_A (sub [1, 1, 1] (bodyOf Tryz.f82)) 0 (endK Ev Tryz.f82.results.toList R)))
theorem clause_Right_I0_eq (a0 : MdlD) (a1 : List LitD) (R : D → Prop) (n0 : Nat) (v1 : Int) : clause_Right_I0 a0 a1 R (n0 + 1) v1 =
 (sel (decide (v1 < (a1.length : Int)))
 (inb v1 a1.length = true ∧
 Call1 Tryz.prog f_lit_Right [.agg [.sl .var a0.vars, .sl .con a0.cons, .int .i64 a0.goal, .int .i64 a0.var], .agg [.int .i64 ((at' .lit a1 v1.toNat).var), .int .i64 ((at' .lit a1 v1.toNat).op), .int .i64 ((at' .lit a1 v1.toNat).n)]] .int fun l2 =>
 sel (!decide (l2 = 0))
 (R (.int .i64 l2))
 (clause_Right_I0 a0 a1 R n0 (w64 (v1 + 1))))
 (R (.int .i64 0))) := by kernel_rfl
theorem clause_Right_eq (a0 : MdlD) (a1 : List LitD) (R : D → Prop) : fnD Tryz.prog Ev clause_Right_A Tryz.f82.results.toList (bodyOf Tryz.f82) [.agg [.sl .var a0.vars, .sl .con a0.cons, .int .i64 a0.goal, .int .i64 a0.var], .sl .lit a1] R =
 (sel (decide (40 < (a1.length : Int)))
 (R (.int .i64 2))
 (∃ n0, clause_Right_I0 a0 a1 R n0 0)) := by kernel_rfl
theorem clause_Right_sat {r : D} (a0 : MdlD) (a1 : List LitD) (h : (∀ d ∈ [.agg [.sl .var a0.vars, .sl .con a0.cons, .int .i64 a0.goal, .int .i64 a0.var], .sl .lit a1], okD d) → fnD Tryz.prog Ev clause_Right_A Tryz.f82.results.toList (bodyOf Tryz.f82) [.agg [.sl .var a0.vars, .sl .con a0.cons, .int .i64 a0.goal, .int .i64 a0.var], .sl .lit a1] fun d => d = r) : Sat Tryz.prog f_clause_Right [.agg [.sl .var a0.vars, .sl .con a0.cons, .int .i64 a0.goal, .int .i64 a0.var], .sl .lit a1] r := by
  have h2 := sat_of (r := r) (args := [.agg [.sl .var a0.vars, .sl .con a0.cons, .int .i64 a0.goal, .int .i64 a0.var], .sl .lit a1]) (A := clause_Right_A) (fn := Tryz.f82) (body := bodyOf Tryz.f82) (f := f_clause_Right) factsEv Tryz.func82 (by kernel_rfl) (by rw [Tryz.ntmps82]; rfl) (by rw [Tryz.ntmps82]; exact Nat.le_of_ble_eq_true rfl)
  with_reducible exact h2 h
/-! ### cordon/clause.Put -/
def clause_Put_A : Ann := { own := [5, 7, 8], live := [(0, ([0, 3, 5, 13, 14, 15], [5]))], n := 44, nils := [], pubs := [] }
def clause_Put_I0 (a0 : List (List Int)) (a1 : List LitD) (R : D → Prop) (n0 : Nat) (v3 : Int) (one4 : Int) : Prop := iter (den Tryz.prog Ev clause_Put_A (sub [1, 1, 1, 0, 1, 0, 0] (bodyOf Tryz.f133)) 0) clause_Put_A (liveOf clause_Put_A 0) n0 ⟨[(0, .sl (.list .int) a0), (3, .iptr [.sl .lit a1] 0), (5, .ptr 5 0), (13, .sl .lit a1), (14, .int .i64 (a1.length : Int)), (15, .int .i64 v3)], [(5, .cells [.int .i64 one4])]⟩ (blockK 0 (seqK Tryz.prog Ev clause_Put_A (sub [1, 1, 1, 1] (bodyOf Tryz.f133)) 0 (endK Ev Tryz.f133.results.toList R)))
theorem clause_Put_I0_eq (a0 : List (List Int)) (a1 : List LitD) (R : D → Prop) (n0 : Nat) (v3 : Int) (one4 : Int) : clause_Put_I0 a0 a1 R (n0 + 1) v3 one4 =
 (sel (decide (v3 < (a1.length : Int)))
 (inb v3 a1.length = true ∧
 Call1 Tryz.prog f_lit_Says [.sl (.list .int) a0, .agg [.int .i64 ((at' .lit a1 v3.toNat).var), .int .i64 ((at' .lit a1 v3.toNat).op), .int .i64 ((at' .lit a1 v3.toNat).n)]] .int fun l5 =>
 sel (decide (l5 < 0))
 (clause_Put_I0 a0 a1 R n0 (w64 (v3 + 1)) one4)
 (sel (decide (0 ≤ one4))
 (sel (!decide (one4 = ((at' .lit a1 v3.toNat).var)))
 (Call1 Tryz.prog f_store_Own [.sl (.list .int) a0] (.list (.list .int)) fun s6 =>
 R (.sl (.list .int) s6))
 (clause_Put_I0 a0 a1 R n0 (w64 (v3 + 1)) ((at' .lit a1 v3.toNat).var)))
 (clause_Put_I0 a0 a1 R n0 (w64 (v3 + 1)) ((at' .lit a1 v3.toNat).var))))
 (sel (decide (one4 < 0))
 (Call1 Tryz.prog f_store_Nothing [.sl (.list .int) a0] (.list (.list .int)) fun s7 =>
 R (.sl (.list .int) s7))
 (Call1 Tryz.prog f_store_Keep [.sl (.list .int) a0, .clo f_clause_Put_2 none [.iptr [.int .i64 one4] 0, .iptr [.clo f_clause_Put_1 none [.iptr [.sl .lit a1] 0, .iptr [.int .i64 one4] 0]] 0]] (.list (.list .int)) fun s8 =>
 R (.sl (.list .int) s8)))) := by kernel_rfl
theorem clause_Put_eq (a0 : List (List Int)) (a1 : List LitD) (R : D → Prop) : fnD Tryz.prog Ev clause_Put_A Tryz.f133.results.toList (bodyOf Tryz.f133) [.sl (.list .int) a0, .sl .lit a1] R =
 (Call1 Tryz.prog f_store_Empty [.sl (.list .int) a0] .bool fun s1 =>
 sel s1
 (Call1 Tryz.prog f_store_Own [.sl (.list .int) a0] (.list (.list .int)) fun s2 =>
 R (.sl (.list .int) s2))
 (∃ n0, clause_Put_I0 a0 a1 R n0 0 (-1))) := by kernel_rfl
theorem clause_Put_sat {r : D} (a0 : List (List Int)) (a1 : List LitD) (h : (∀ d ∈ [.sl (.list .int) a0, .sl .lit a1], okD d) → fnD Tryz.prog Ev clause_Put_A Tryz.f133.results.toList (bodyOf Tryz.f133) [.sl (.list .int) a0, .sl .lit a1] fun d => d = r) : Sat Tryz.prog f_clause_Put [.sl (.list .int) a0, .sl .lit a1] r := by
  have h2 := sat_of (r := r) (args := [.sl (.list .int) a0, .sl .lit a1]) (A := clause_Put_A) (fn := Tryz.f133) (body := bodyOf Tryz.f133) (f := f_clause_Put) factsEv Tryz.func133 (by kernel_rfl) (by rw [Tryz.ntmps133]; rfl) (by rw [Tryz.ntmps133]; exact Nat.le_of_ble_eq_true rfl)
  with_reducible exact h2 h
/-! ### cordon/clause.Put$1 -/
def clause_Put_1_A : Ann := { own := [], live := [], n := 8, nils := [], pubs := [] }
theorem clause_Put_1_eq (a0 : Int) (c0 : List LitD) (c1 : Int) (R : D → Prop) : fnD Tryz.prog Ev clause_Put_1_A Tryz.f179.results.toList (bodyOf Tryz.f179) [.int .i64 a0, .iptr [.sl .lit c0] 0, .iptr [.int .i64 c1] 0] R =
 (Call1 Tryz.prog f_slices_ContainsFunc_api_Clause_api_Lit [.sl .lit c0, .clo f_clause_Put_1_1 none [.iptr [.int .i64 c1] 0, .iptr [.int .i64 a0] 0]] .bool fun s1 =>
 R (.bool s1)) := by kernel_rfl
theorem clause_Put_1_sat {r : D} (a0 : Int) (c0 : List LitD) (c1 : Int) (h : (∀ d ∈ [.int .i64 a0, .iptr [.sl .lit c0] 0, .iptr [.int .i64 c1] 0], okD d) → fnD Tryz.prog Ev clause_Put_1_A Tryz.f179.results.toList (bodyOf Tryz.f179) [.int .i64 a0, .iptr [.sl .lit c0] 0, .iptr [.int .i64 c1] 0] fun d => d = r) : Sat Tryz.prog f_clause_Put_1 [.int .i64 a0, .iptr [.sl .lit c0] 0, .iptr [.int .i64 c1] 0] r := by
  have h2 := sat_of (r := r) (args := [.int .i64 a0, .iptr [.sl .lit c0] 0, .iptr [.int .i64 c1] 0]) (A := clause_Put_1_A) (fn := Tryz.f179) (body := bodyOf Tryz.f179) (f := f_clause_Put_1) factsEv Tryz.func179 (by kernel_rfl) (by rw [Tryz.ntmps179]; rfl) (by rw [Tryz.ntmps179]; exact Nat.le_of_ble_eq_true rfl)
  with_reducible exact h2 h
/-! ### cordon/clause.Put$1$1 -/
def clause_Put_1_1_A : Ann := { own := [], live := [], n := 14, nils := [], pubs := [] }
theorem clause_Put_1_1_eq (a0 : LitD) (c0 : Int) (c1 : Int) (R : D → Prop) : fnD Tryz.prog Ev clause_Put_1_1_A Tryz.f180.results.toList (bodyOf Tryz.f180) [.agg [.int .i64 a0.var, .int .i64 a0.op, .int .i64 a0.n], .iptr [.int .i64 c0] 0, .iptr [.int .i64 c1] 0] R =
 (sel (decide (a0.var = c0))
 (Call1 Tryz.prog f_model_Lit [.agg [.int .i64 a0.var, .int .i64 a0.op, .int .i64 a0.n], .int .i64 c1] .bool fun m1 =>
 R (.bool m1))
 (R (.bool false))) := by kernel_rfl
theorem clause_Put_1_1_sat {r : D} (a0 : LitD) (c0 : Int) (c1 : Int) (h : (∀ d ∈ [.agg [.int .i64 a0.var, .int .i64 a0.op, .int .i64 a0.n], .iptr [.int .i64 c0] 0, .iptr [.int .i64 c1] 0], okD d) → fnD Tryz.prog Ev clause_Put_1_1_A Tryz.f180.results.toList (bodyOf Tryz.f180) [.agg [.int .i64 a0.var, .int .i64 a0.op, .int .i64 a0.n], .iptr [.int .i64 c0] 0, .iptr [.int .i64 c1] 0] fun d => d = r) : Sat Tryz.prog f_clause_Put_1_1 [.agg [.int .i64 a0.var, .int .i64 a0.op, .int .i64 a0.n], .iptr [.int .i64 c0] 0, .iptr [.int .i64 c1] 0] r := by
  have h2 := sat_of (r := r) (args := [.agg [.int .i64 a0.var, .int .i64 a0.op, .int .i64 a0.n], .iptr [.int .i64 c0] 0, .iptr [.int .i64 c1] 0]) (A := clause_Put_1_1_A) (fn := Tryz.f180) (body := bodyOf Tryz.f180) (f := f_clause_Put_1_1) factsEv Tryz.func180 (by kernel_rfl) (by rw [Tryz.ntmps180]; rfl) (by rw [Tryz.ntmps180]; exact Nat.le_of_ble_eq_true rfl)
  with_reducible exact h2 h
/-! ### cordon/clause.Put$2 -/
def clause_Put_2_A : Ann := { own := [], live := [], n := 15, nils := [], pubs := [] }
theorem clause_Put_2_eq (a0 : Int) (a1 : Int) (c0 : Int) (h1 : FuncId) (hap1 : List D) (R : D → Prop) : fnD Tryz.prog Ev clause_Put_2_A Tryz.f181.results.toList (bodyOf Tryz.f181) [.int .i64 a0, .int .i64 a1, .iptr [.int .i64 c0] 0, .iptr [.clo h1 (some [.bool]) hap1] 0] R =
 (sel (!decide (a0 = c0))
 (R (.bool true))
 (Ent Tryz.prog h1 ∧
 Call1 Tryz.prog h1 ([.int .i64 a1] ++ hap1) .bool fun r1 =>
 R (.bool r1))) := by kernel_rfl
theorem clause_Put_2_sat {r : D} (a0 : Int) (a1 : Int) (c0 : Int) (h1 : FuncId) (hap1 : List D) (h : (∀ d ∈ [.int .i64 a0, .int .i64 a1, .iptr [.int .i64 c0] 0, .iptr [.clo h1 (some [.bool]) hap1] 0], okD d) → fnD Tryz.prog Ev clause_Put_2_A Tryz.f181.results.toList (bodyOf Tryz.f181) [.int .i64 a0, .int .i64 a1, .iptr [.int .i64 c0] 0, .iptr [.clo h1 (some [.bool]) hap1] 0] fun d => d = r) : Sat Tryz.prog f_clause_Put_2 [.int .i64 a0, .int .i64 a1, .iptr [.int .i64 c0] 0, .iptr [.clo h1 (some [.bool]) hap1] 0] r := by
  have h2 := sat_of (r := r) (args := [.int .i64 a0, .int .i64 a1, .iptr [.int .i64 c0] 0, .iptr [.clo h1 (some [.bool]) hap1] 0]) (A := clause_Put_2_A) (fn := Tryz.f181) (body := bodyOf Tryz.f181) (f := f_clause_Put_2) factsEv Tryz.func181 (by kernel_rfl) (by rw [Tryz.ntmps181]; rfl) (by rw [Tryz.ntmps181]; exact Nat.le_of_ble_eq_true rfl)
  with_reducible exact h2 h
end Go.Proofs.YtgnjdgafkjohaaaGreat
