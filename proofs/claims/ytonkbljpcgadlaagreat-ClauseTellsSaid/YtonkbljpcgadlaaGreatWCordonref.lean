/- What the functions of a package do, as equations of plain propositions: printed by a program that carries the code out on symbols. -/
import Derived.Test.YtonkbljpcgadlaaGreatWEv
namespace Go.Proofs.YtonkbljpcgadlaaGreat
open Go.RowKit
set_option linter.unusedVariables false
set_option maxRecDepth 100000
/-! ### cordon/cordonref.CheckModel -/
def cordonref_CheckModel_A : Ann := { own := [5], live := [(0, ([1, 3, 4], [])), (2, ([1, 3, 4, 5, 6], [5])), (4, ([1, 3, 7], []))], n := 114, nils := [], pubs := [] }
def cordonref_CheckModel_I2 (a0 : MdlD) (R : D → Prop) (n0 : Nat) (v1 : Int) (n2 : Nat) (v3 : Int) : Prop := iter (den Tryz.prog Ev cordonref_CheckModel_A (sub [1, 1, 1, 1, 0, 1, 0, 0, 1, 0, 0, 1, 1, 0, 1, 0, 0] (bodyOf Tryz.f8)) 2) cordonref_CheckModel_A (liveOf cordonref_CheckModel_A 2) n2 ⟨[(1, .iptr [.sl .var a0.vars, .sl .con a0.cons, .int .i64 a0.goal, .int .i64 a0.var] 0), (3, .int .i64 (a0.vars.length : Int)), (4, .int .i64 v1), (5, .ptr 5 0), (6, .int .i64 v3)], [(5, .cells [.str ((at' .var a0.vars v1.toNat).name), .int .i64 ((at' .var a0.vars v1.toNat).lo), .int .i64 ((at' .var a0.vars v1.toNat).hi)])]⟩ (blockK 2 (seqK Tryz.prog Ev cordonref_CheckModel_A (sub [1, 1, 1, 1, 0, 1, 0, 0, 1, 0, 0, 1, 1, 1] (bodyOf Tryz.f8)) 1 (blockK 1 (seqK Tryz.prog Ev cordonref_CheckModel_A (sub [1, 1, 1, 1, 0, 1, 0, 0, 1, 1] (bodyOf Tryz.f8)) 0 (iterK (den Tryz.prog Ev cordonref_CheckModel_A (sub [1, 1, 1, 1, 0, 1, 0, 0] (bodyOf Tryz.f8)) 0) cordonref_CheckModel_A (liveOf cordonref_CheckModel_A 0) n0 (blockK 0 (seqK Tryz.prog Ev cordonref_CheckModel_A (sub [1, 1, 1, 1, 1] (bodyOf Tryz.f8)) 0 (endK Ev Tryz.f8.results.toList R))))))))
def cordonref_CheckModel_I4 (a0 : MdlD) (R : D → Prop) (n4 : Nat) (v6 : Int) : Prop := iter (den Tryz.prog Ev cordonref_CheckModel_A (sub [1, 1, 1, 1, 1, 0, 1, 0, 0] (bodyOf Tryz.f8)) 4) cordonref_CheckModel_A (liveOf cordonref_CheckModel_A 4) n4 ⟨[(1, .iptr [.sl .var a0.vars, .sl .con a0.cons, .int .i64 a0.goal, .int .i64 a0.var] 0), (3, .int .i64 (a0.vars.length : Int)), (7, .int .i64 v6)], []⟩ (blockK 4 (seqK Tryz.prog Ev cordonref_CheckModel_A (sub [1, 1, 1, 1, 1, 1] (bodyOf Tryz.f8)) 0 (endK Ev Tryz.f8.results.toList R)))
def cordonref_CheckModel_I0 (a0 : MdlD) (R : D → Prop) (n0 : Nat) (v1 : Int) : Prop := iter (den Tryz.prog Ev cordonref_CheckModel_A (sub [1, 1, 1, 1, 0, 1, 0, 0] (bodyOf Tryz.f8)) 0) cordonref_CheckModel_A (liveOf cordonref_CheckModel_A 0) n0 ⟨[(1, .iptr [.sl .var a0.vars, .sl .con a0.cons, .int .i64 a0.goal, .int .i64 a0.var] 0), (3, .int .i64 (a0.vars.length : Int)), (4, .int .i64 v1)], []⟩ (blockK 0 (seqK Tryz.prog Ev cordonref_CheckModel_A (sub [1, 1, 1, 1, 1] (bodyOf Tryz.f8)) 0 (endK Ev Tryz.f8.results.toList R)))
theorem cordonref_CheckModel_I2_eq (a0 : MdlD) (R : D → Prop) (n0 : Nat) (v1 : Int) (n2 : Nat) (v3 : Int) : cordonref_CheckModel_I2 a0 R n0 v1 (n2 + 1) v3 =
 (sel (decide (v3 < v1))
 (inb v3 a0.vars.length = true ∧
 sel (decide (((at' .var a0.vars v3.toNat).name) = ((at' .var a0.vars v1.toNat).name)))
 (R (.int .i64 6))
 (cordonref_CheckModel_I2 a0 R n0 v1 n2 (w64 (v3 + 1))))
 (Call1 Tryz.prog f_cordonref_between [.int .i64 ((at' .var a0.vars v1.toNat).lo), .int .i64 (-50), .int .i64 50] .bool fun c4 =>
 sel (!c4)
 (R (.int .i64 3))
 (Call1 Tryz.prog f_cordonref_between [.int .i64 ((at' .var a0.vars v1.toNat).hi), .int .i64 (-50), .int .i64 50] .bool fun c5 =>
 sel (!c5)
 (R (.int .i64 3))
 (sel (decide (((at' .var a0.vars v1.toNat).hi) < ((at' .var a0.vars v1.toNat).lo)))
 (R (.int .i64 3))
 (sel (decide (6 < (w64 ((w64 (((at' .var a0.vars v1.toNat).hi) - ((at' .var a0.vars v1.toNat).lo))) + 1))))
 (R (.int .i64 2))
 (cordonref_CheckModel_I0 a0 R n0 (w64 (v1 + 1)))))))) := by kernel_rfl
theorem cordonref_CheckModel_I4_eq (a0 : MdlD) (R : D → Prop) (n4 : Nat) (v6 : Int) : cordonref_CheckModel_I4 a0 R (n4 + 1) v6 =
 (sel (decide (v6 < (a0.cons.length : Int)))
 (inb v6 a0.cons.length = true ∧
 Call1 Tryz.prog f_cordonref_checkCon [.agg [.sl .var a0.vars, .sl .con a0.cons, .int .i64 a0.goal, .int .i64 a0.var], .agg [.int .i64 ((at' .con a0.cons v6.toNat).kind), .sl .int ((at' .con a0.cons v6.toNat).vars), .sl .int ((at' .con a0.cons v6.toNat).consts), .int .i64 ((at' .con a0.cons v6.toNat).n), .sl (.list .int) ((at' .con a0.cons v6.toNat).rows), .sl .lit ((at' .con a0.cons v6.toNat).lits)]] .int fun c7 =>
 sel (!decide (c7 = 0))
 (R (.int .i64 c7))
 (cordonref_CheckModel_I4 a0 R n4 (w64 (v6 + 1))))
 (Call1 Tryz.prog f_cordonref_between [.int .i64 a0.goal, .int .i64 0, .int .i64 2] .bool fun c8 =>
 sel (!c8)
 (R (.int .i64 7))
 (sel (decide (a0.goal = 0))
 (sel (!decide (a0.var = 0))
 (R (.int .i64 1))
 (sel (!decide (a0.goal = 0))
 (Call1 Tryz.prog f_cordonref_between [.int .i64 a0.var, .int .i64 0, .int .i64 (w64 ((a0.vars.length : Int) - 1))] .bool fun c9 =>
 sel (!c9)
 (R (.int .i64 5))
 (R (.int .i64 0)))
 (R (.int .i64 0))))
 (sel (!decide (a0.goal = 0))
 (Call1 Tryz.prog f_cordonref_between [.int .i64 a0.var, .int .i64 0, .int .i64 (w64 ((a0.vars.length : Int) - 1))] .bool fun c10 =>
 sel (!c10)
 (R (.int .i64 5))
 (R (.int .i64 0)))
 (R (.int .i64 0)))))) := by kernel_rfl
theorem cordonref_CheckModel_I0_eq (a0 : MdlD) (R : D → Prop) (n0 : Nat) (v1 : Int) : cordonref_CheckModel_I0 a0 R (n0 + 1) v1 =
 (sel (decide (v1 < (a0.vars.length : Int)))
 (inb v1 a0.vars.length = true ∧
 Call1 Tryz.prog f_cordonref_IsName [.str ((at' .var a0.vars v1.toNat).name)] .bool fun c2 =>
 sel (!c2)
 (R (.int .i64 1))
 (∃ n2, cordonref_CheckModel_I2 a0 R n0 v1 n2 0))
 (∃ n4, cordonref_CheckModel_I4 a0 R n4 0)) := by kernel_rfl
theorem cordonref_CheckModel_eq (a0 : MdlD) (R : D → Prop) : fnD Tryz.prog Ev cordonref_CheckModel_A Tryz.f8.results.toList (bodyOf Tryz.f8) [.agg [.sl .var a0.vars, .sl .con a0.cons, .int .i64 a0.goal, .int .i64 a0.var]] R =
 (sel (decide ((a0.vars.length : Int) = 0))
 (R (.int .i64 1))
 (sel (decide (6 < (a0.vars.length : Int)))
 (R (.int .i64 2))
 (sel (decide (8 < (a0.cons.length : Int)))
 (R (.int .i64 2))
 (∃ n0, cordonref_CheckModel_I0 a0 R n0 0)))) := by kernel_rfl
theorem cordonref_CheckModel_sat {r : D} (a0 : MdlD) (h : (∀ d ∈ [.agg [.sl .var a0.vars, .sl .con a0.cons, .int .i64 a0.goal, .int .i64 a0.var]], okD d) → fnD Tryz.prog Ev cordonref_CheckModel_A Tryz.f8.results.toList (bodyOf Tryz.f8) [.agg [.sl .var a0.vars, .sl .con a0.cons, .int .i64 a0.goal, .int .i64 a0.var]] fun d => d = r) : Sat Tryz.prog f_cordonref_CheckModel [.agg [.sl .var a0.vars, .sl .con a0.cons, .int .i64 a0.goal, .int .i64 a0.var]] r := by
  have h2 := sat_of (r := r) (args := [.agg [.sl .var a0.vars, .sl .con a0.cons, .int .i64 a0.goal, .int .i64 a0.var]]) (A := cordonref_CheckModel_A) (fn := Tryz.f8) (body := bodyOf Tryz.f8) (f := f_cordonref_CheckModel) factsEv Tryz.func8 (by kernel_rfl) (by rw [Tryz.ntmps8]; rfl) (by rw [Tryz.ntmps8]; exact Nat.le_of_ble_eq_true rfl)
  with_reducible exact h2 h
/-! ### cordon/cordonref.CheckClause -/
def cordonref_CheckClause_A : Ann := { own := [], live := [(0, ([1, 2, 5], []))], n := 25, nils := [], pubs := [] }
def cordonref_CheckClause_I0 (a0 : MdlD) (a1 : List LitD) (R : D → Prop) (n0 : Nat) (i1 : Int) : Prop := iter (den Tryz.prog Ev cordonref_CheckClause_A (sub [1, 1, 0, 1, 0, 0] (bodyOf Tryz.f9)) 0) cordonref_CheckClause_A (liveOf cordonref_CheckClause_A 0) n0 ⟨[(1, .sl .lit a1), (2, .iptr [.sl .var a0.vars, .sl .con a0.cons, .int .i64 a0.goal, .int .i64 a0.var] 0), (5, .int .i64 i1)], []⟩ (blockK 0 (seqK Tryz.prog Ev cordonref_CheckClause_A (sub [1, 1, 1] (bodyOf Tryz.f9)) 0 (endK Ev Tryz.f9.results.toList R)))
theorem cordonref_CheckClause_I0_eq (a0 : MdlD) (a1 : List LitD) (R : D → Prop) (n0 : Nat) (i1 : Int) : cordonref_CheckClause_I0 a0 a1 R (n0 + 1) i1 =
 (sel (decide (i1 < (a1.length : Int)))
 (inb i1 a1.length = true ∧
 Call1 Tryz.prog f_cordonref_CheckLit [.agg [.sl .var a0.vars, .sl .con a0.cons, .int .i64 a0.goal, .int .i64 a0.var], .agg [.int .i64 ((at' .lit a1 i1.toNat).var), .int .i64 ((at' .lit a1 i1.toNat).op), .int .i64 ((at' .lit a1 i1.toNat).n)]] .int fun c2 =>
 sel (!decide (c2 = 0))
 (R (.int .i64 c2))
 (cordonref_CheckClause_I0 a0 a1 R n0 (w64 (i1 + 1))))
 (R (.int .i64 0))) := by kernel_rfl
theorem cordonref_CheckClause_eq (a0 : MdlD) (a1 : List LitD) (R : D → Prop) : fnD Tryz.prog Ev cordonref_CheckClause_A Tryz.f9.results.toList (bodyOf Tryz.f9) [.agg [.sl .var a0.vars, .sl .con a0.cons, .int .i64 a0.goal, .int .i64 a0.var], .sl .lit a1] R =
 (sel (decide (40 < (a1.length : Int)))
 (R (.int .i64 2))
 (∃ n0, cordonref_CheckClause_I0 a0 a1 R n0 0)) := by kernel_rfl
theorem cordonref_CheckClause_sat {r : D} (a0 : MdlD) (a1 : List LitD) (h : (∀ d ∈ [.agg [.sl .var a0.vars, .sl .con a0.cons, .int .i64 a0.goal, .int .i64 a0.var], .sl .lit a1], okD d) → fnD Tryz.prog Ev cordonref_CheckClause_A Tryz.f9.results.toList (bodyOf Tryz.f9) [.agg [.sl .var a0.vars, .sl .con a0.cons, .int .i64 a0.goal, .int .i64 a0.var], .sl .lit a1] fun d => d = r) : Sat Tryz.prog f_cordonref_CheckClause [.agg [.sl .var a0.vars, .sl .con a0.cons, .int .i64 a0.goal, .int .i64 a0.var], .sl .lit a1] r := by
  have h2 := sat_of (r := r) (args := [.agg [.sl .var a0.vars, .sl .con a0.cons, .int .i64 a0.goal, .int .i64 a0.var], .sl .lit a1]) (A := cordonref_CheckClause_A) (fn := Tryz.f9) (body := bodyOf Tryz.f9) (f := f_cordonref_CheckClause) factsEv Tryz.func9 (by kernel_rfl) (by rw [Tryz.ntmps9]; rfl) (by rw [Tryz.ntmps9]; exact Nat.le_of_ble_eq_true rfl)
  with_reducible exact h2 h
/-! ### cordon/cordonref.UnitOf -/
def cordonref_UnitOf_A : Ann := { own := [5, 7, 9, 46, 117, 121], live := [(0, ([0, 1, 5, 6], [5])), (2, ([0, 1, 5, 7, 8], [5, 7])), (4, ([0, 1, 5, 7, 8, 9, 10], [5, 7, 9])), (6, ([0, 1, 5, 7, 8, 9, 10, 11, 12], [5, 7, 9]))], n := 123, nils := [], pubs := [] }
def cordonref_UnitOf_I6 (a0 : List (List Int)) (a1 : List LitD) (R : D → Prop) (n2 : Nat) (v7 : Int) (n4 : Nat) (v10 : Int) (l11 : List Int) (l12 : List (List Int)) (l13 : List Int) (n6 : Nat) (v14 : Bool) (v15 : Int) : Prop := iter (den Tryz.prog Ev cordonref_UnitOf_A (sub [1, 1, 1, 1, 1, 1, 1, 0, 1, 0, 0, 1, 0, 0, 1, 0, 1, 0, 0, 1, 0, 0, 1, 0, 1, 0, 0] (bodyOf Tryz.f11)) 6) cordonref_UnitOf_A (liveOf cordonref_UnitOf_A 6) n6 ⟨[(0, .sl (.list .int) a0), (1, .sl .lit a1), (5, .own 5), (7, .own 7), (8, .int .i64 v7), (9, .own 9), (10, .int .i64 v10), (11, .bool v14), (12, .int .i64 v15)], [(5, .row 3 .int l11), (7, .row 30 (.list .int) l12), (9, .row 3 .int l13)]⟩ (blockK 6 (seqK Tryz.prog Ev cordonref_UnitOf_A (sub [1, 1, 1, 1, 1, 1, 1, 0, 1, 0, 0, 1, 0, 0, 1, 0, 1, 0, 0, 1, 0, 0, 1, 1] (bodyOf Tryz.f11)) 5 (blockK 5 (seqK Tryz.prog Ev cordonref_UnitOf_A (sub [1, 1, 1, 1, 1, 1, 1, 0, 1, 0, 0, 1, 0, 0, 1, 0, 1, 0, 0, 1, 1] (bodyOf Tryz.f11)) 4 (iterK (den Tryz.prog Ev cordonref_UnitOf_A (sub [1, 1, 1, 1, 1, 1, 1, 0, 1, 0, 0, 1, 0, 0, 1, 0, 1, 0, 0] (bodyOf Tryz.f11)) 4) cordonref_UnitOf_A (liveOf cordonref_UnitOf_A 4) n4 (blockK 4 (seqK Tryz.prog Ev cordonref_UnitOf_A (sub [1, 1, 1, 1, 1, 1, 1, 0, 1, 0, 0, 1, 0, 0, 1, 1] (bodyOf Tryz.f11)) 3 (blockK 3 (seqK Tryz.prog Ev cordonref_UnitOf_A (sub [1, 1, 1, 1, 1, 1, 1, 0, 1, 0, 0, 1, 1] (bodyOf Tryz.f11)) 2 (iterK (den Tryz.prog Ev cordonref_UnitOf_A (sub [1, 1, 1, 1, 1, 1, 1, 0, 1, 0, 0] (bodyOf Tryz.f11)) 2) cordonref_UnitOf_A (liveOf cordonref_UnitOf_A 2) n2 (blockK 2 (seqK Tryz.prog Ev cordonref_UnitOf_A (sub [1, 1, 1, 1, 1, 1, 1, 1] (bodyOf Tryz.f11)) 0 (endK Ev Tryz.f11.results.toList R)))))))))))))
def cordonref_UnitOf_I4 (a0 : List (List Int)) (a1 : List LitD) (R : D → Prop) (n2 : Nat) (v7 : Int) (n4 : Nat) (v10 : Int) (l11 : List Int) (l12 : List (List Int)) (l13 : List Int) : Prop := iter (den Tryz.prog Ev cordonref_UnitOf_A (sub [1, 1, 1, 1, 1, 1, 1, 0, 1, 0, 0, 1, 0, 0, 1, 0, 1, 0, 0] (bodyOf Tryz.f11)) 4) cordonref_UnitOf_A (liveOf cordonref_UnitOf_A 4) n4 ⟨[(0, .sl (.list .int) a0), (1, .sl .lit a1), (5, .own 5), (7, .own 7), (8, .int .i64 v7), (9, .own 9), (10, .int .i64 v10)], [(5, .row 3 .int l11), (7, .row 30 (.list .int) l12), (9, .row 3 .int l13)]⟩ (blockK 4 (seqK Tryz.prog Ev cordonref_UnitOf_A (sub [1, 1, 1, 1, 1, 1, 1, 0, 1, 0, 0, 1, 0, 0, 1, 1] (bodyOf Tryz.f11)) 3 (blockK 3 (seqK Tryz.prog Ev cordonref_UnitOf_A (sub [1, 1, 1, 1, 1, 1, 1, 0, 1, 0, 0, 1, 1] (bodyOf Tryz.f11)) 2 (iterK (den Tryz.prog Ev cordonref_UnitOf_A (sub [1, 1, 1, 1, 1, 1, 1, 0, 1, 0, 0] (bodyOf Tryz.f11)) 2) cordonref_UnitOf_A (liveOf cordonref_UnitOf_A 2) n2 (blockK 2 (seqK Tryz.prog Ev cordonref_UnitOf_A (sub [1, 1, 1, 1, 1, 1, 1, 1] (bodyOf Tryz.f11)) 0 (endK Ev Tryz.f11.results.toList R))))))))
def cordonref_UnitOf_I2 (a0 : List (List Int)) (a1 : List LitD) (R : D → Prop) (n2 : Nat) (v7 : Int) (l8 : List Int) (l9 : List (List Int)) : Prop := iter (den Tryz.prog Ev cordonref_UnitOf_A (sub [1, 1, 1, 1, 1, 1, 1, 0, 1, 0, 0] (bodyOf Tryz.f11)) 2) cordonref_UnitOf_A (liveOf cordonref_UnitOf_A 2) n2 ⟨[(0, .sl (.list .int) a0), (1, .sl .lit a1), (5, .own 5), (7, .own 7), (8, .int .i64 v7)], [(5, .row 3 .int l8), (7, .row 30 (.list .int) l9)]⟩ (blockK 2 (seqK Tryz.prog Ev cordonref_UnitOf_A (sub [1, 1, 1, 1, 1, 1, 1, 1] (bodyOf Tryz.f11)) 0 (endK Ev Tryz.f11.results.toList R)))
def cordonref_UnitOf_I0 (a0 : List (List Int)) (a1 : List LitD) (R : D → Prop) (n0 : Nat) (v2 : Int) (l3 : List Int) : Prop := iter (den Tryz.prog Ev cordonref_UnitOf_A (sub [1, 1, 1, 0, 1, 0, 0] (bodyOf Tryz.f11)) 0) cordonref_UnitOf_A (liveOf cordonref_UnitOf_A 0) n0 ⟨[(0, .sl (.list .int) a0), (1, .sl .lit a1), (5, .own 5), (6, .int .i64 v2)], [(5, .row 3 .int l3)]⟩ (blockK 0 (seqK Tryz.prog Ev cordonref_UnitOf_A (sub [1, 1, 1, 1] (bodyOf Tryz.f11)) 0 (endK Ev Tryz.f11.results.toList R)))
theorem cordonref_UnitOf_I6_eq (a0 : List (List Int)) (a1 : List LitD) (R : D → Prop) (n2 : Nat) (v7 : Int) (n4 : Nat) (v10 : Int) (l11 : List Int) (l12 : List (List Int)) (l13 : List Int) (n6 : Nat) (v14 : Bool) (v15 : Int) : cordonref_UnitOf_I6 a0 a1 R n2 v7 n4 v10 l11 l12 l13 (n6 + 1) v14 v15 =
 (sel (decide (v15 < (a1.length : Int)))
 (sel v14
 (cordonref_UnitOf_I6 a0 a1 R n2 v7 n4 v10 l11 l12 l13 n6 true (w64 (v15 + 1)))
 (inb v15 a1.length = true ∧
 sel (decide (((at' .lit a1 v15.toNat).var) = v7))
 (inb v15 a1.length = true ∧
 inb v7 a0.length = true ∧
 inb v10 (at' (.list .int) a0 v7.toNat).length = true ∧
 Call1 Tryz.prog f_cordonref_LitHolds [.agg [.int .i64 ((at' .lit a1 v15.toNat).var), .int .i64 ((at' .lit a1 v15.toNat).op), .int .i64 ((at' .lit a1 v15.toNat).n)], .int .i64 (at' .int (at' (.list .int) a0 v7.toNat) v10.toNat)] .bool fun c16 =>
 cordonref_UnitOf_I6 a0 a1 R n2 v7 n4 v10 l11 l12 l13 n6 c16 (w64 (v15 + 1)))
 (cordonref_UnitOf_I6 a0 a1 R n2 v7 n4 v10 l11 l12 l13 n6 false (w64 (v15 + 1)))))
 (sel v14
 (inb v7 a0.length = true ∧
 inb v10 (at' (.list .int) a0 v7.toNat).length = true ∧
 room .int (l13.length + ([at' .int (at' (.list .int) a0 v7.toNat) v10.toNat]).length) = true ∧
 cordonref_UnitOf_I4 a0 a1 R n2 v7 n4 (w64 (v10 + 1)) l11 l12 (l13 ++ ([at' .int (at' (.list .int) a0 v7.toNat) v10.toNat])))
 (cordonref_UnitOf_I4 a0 a1 R n2 v7 n4 (w64 (v10 + 1)) l11 l12 l13))) := by kernel_rfl
theorem cordonref_UnitOf_I4_eq (a0 : List (List Int)) (a1 : List LitD) (R : D → Prop) (n2 : Nat) (v7 : Int) (n4 : Nat) (v10 : Int) (l11 : List Int) (l12 : List (List Int)) (l13 : List Int) : cordonref_UnitOf_I4 a0 a1 R n2 v7 (n4 + 1) v10 l11 l12 l13 =
 (inb v7 a0.length = true ∧
 sel (decide (v10 < ((at' (.list .int) a0 v7.toNat).length : Int)))
 (inb 0 l11.length = true ∧
 ∃ n6, cordonref_UnitOf_I6 a0 a1 R n2 v7 n4 v10 l11 l12 l13 n6 (!decide (v7 = (at' .int l11 0))) 0)
 (room (.list .int) (l12.length + ([l13]).length) = true ∧
 cordonref_UnitOf_I2 a0 a1 R n2 (w64 (v7 + 1)) l11 (l12 ++ ([l13])))) := by kernel_rfl
theorem cordonref_UnitOf_I2_eq (a0 : List (List Int)) (a1 : List LitD) (R : D → Prop) (n2 : Nat) (v7 : Int) (l8 : List Int) (l9 : List (List Int)) : cordonref_UnitOf_I2 a0 a1 R (n2 + 1) v7 l8 l9 =
 (sel (decide (v7 < (a0.length : Int)))
 (∃ n4, cordonref_UnitOf_I4 a0 a1 R n2 v7 n4 0 l8 l9 ([] : List Int))
 (R (.sl (.list .int) l9))) := by kernel_rfl
theorem cordonref_UnitOf_I0_eq (a0 : List (List Int)) (a1 : List LitD) (R : D → Prop) (n0 : Nat) (v2 : Int) (l3 : List Int) : cordonref_UnitOf_I0 a0 a1 R (n0 + 1) v2 l3 =
 (sel (decide (v2 < (a1.length : Int)))
 (inb v2 a1.length = true ∧
 Call1 Tryz.prog f_cordonref_ToldOf [.sl (.list .int) a0, .agg [.int .i64 ((at' .lit a1 v2.toNat).var), .int .i64 ((at' .lit a1 v2.toNat).op), .int .i64 ((at' .lit a1 v2.toNat).n)]] .int fun c4 =>
 sel (decide (0 ≤ c4))
 (inb v2 a1.length = true ∧
 Call1 Tryz.prog f_cordonref_HasInt [.sl .int l3, .int .i64 ((at' .lit a1 v2.toNat).var)] .bool fun c5 =>
 sel (!c5)
 (inb v2 a1.length = true ∧
 room .int (l3.length + ([(at' .lit a1 v2.toNat).var]).length) = true ∧
 cordonref_UnitOf_I0 a0 a1 R n0 (w64 (v2 + 1)) (l3 ++ ([(at' .lit a1 v2.toNat).var])))
 (cordonref_UnitOf_I0 a0 a1 R n0 (w64 (v2 + 1)) l3))
 (cordonref_UnitOf_I0 a0 a1 R n0 (w64 (v2 + 1)) l3))
 (sel (decide ((l3.length : Int) = 0))
 (Call1 Tryz.prog f_cordonref_NoValues [.int .i64 (a0.length : Int)] (.list (.list .int)) fun c6 =>
 R (.sl (.list .int) c6))
 (sel (decide (1 < (l3.length : Int)))
 (R (.sl (.list .int) a0))
 (∃ n2, cordonref_UnitOf_I2 a0 a1 R n2 0 l3 ([] : List (List Int)))))) := by kernel_rfl
theorem cordonref_UnitOf_eq (a0 : List (List Int)) (a1 : List LitD) (R : D → Prop) : fnD Tryz.prog Ev cordonref_UnitOf_A Tryz.f11.results.toList (bodyOf Tryz.f11) [.sl (.list .int) a0, .sl .lit a1] R =
 (Call1 Tryz.prog f_cordonref_HasFailed [.sl (.list .int) a0] .bool fun c1 =>
 sel c1
 (R (.sl (.list .int) a0))
 (∃ n0, cordonref_UnitOf_I0 a0 a1 R n0 0 ([] : List Int))) := by kernel_rfl
theorem cordonref_UnitOf_sat {r : D} (a0 : List (List Int)) (a1 : List LitD) (h : (∀ d ∈ [.sl (.list .int) a0, .sl .lit a1], okD d) → fnD Tryz.prog Ev cordonref_UnitOf_A Tryz.f11.results.toList (bodyOf Tryz.f11) [.sl (.list .int) a0, .sl .lit a1] fun d => d = r) : Sat Tryz.prog f_cordonref_UnitOf [.sl (.list .int) a0, .sl .lit a1] r := by
  have h2 := sat_of (r := r) (args := [.sl (.list .int) a0, .sl .lit a1]) (A := cordonref_UnitOf_A) (fn := Tryz.f11) (body := bodyOf Tryz.f11) (f := f_cordonref_UnitOf) factsEv Tryz.func11 (by kernel_rfl) (by rw [Tryz.ntmps11]; rfl) (by rw [Tryz.ntmps11]; exact Nat.le_of_ble_eq_true rfl)
  with_reducible exact h2 h
/-! ### cordon/cordonref.DenyOf -/
def cordonref_DenyOf_A : Ann := { own := [7, 9, 64, 68], live := [(0, ([1, 5, 6], [])), (2, ([1, 5, 6, 7, 8], [7])), (4, ([1, 5, 6, 7, 8, 9, 10], [7, 9]))], n := 71, nils := [], pubs := [] }
def cordonref_DenyOf_I4 (a1 : List LitD) (R : D → Prop) (n0 : Nat) (v1 : List (List Int)) (v2 : Int) (n2 : Nat) (v3 : Int) (n4 : Nat) (v5 : Int) (l6 : List (List Int)) (l7 : List Int) : Prop := iter (den Tryz.prog Ev cordonref_DenyOf_A (sub [1, 1, 0, 1, 0, 0, 1, 0, 0, 1, 0, 1, 0, 0, 1, 0, 0, 1, 0, 1, 0, 0] (bodyOf Tryz.f12)) 4) cordonref_DenyOf_A (liveOf cordonref_DenyOf_A 4) n4 ⟨[(1, .sl .lit a1), (5, .sl (.list .int) v1), (6, .int .i64 v2), (7, .own 7), (8, .int .i64 v3), (9, .own 9), (10, .int .i64 v5)], [(7, .row 30 (.list .int) l6), (9, .row 3 .int l7)]⟩ (blockK 4 (seqK Tryz.prog Ev cordonref_DenyOf_A (sub [1, 1, 0, 1, 0, 0, 1, 0, 0, 1, 0, 1, 0, 0, 1, 0, 0, 1, 1] (bodyOf Tryz.f12)) 3 (blockK 3 (seqK Tryz.prog Ev cordonref_DenyOf_A (sub [1, 1, 0, 1, 0, 0, 1, 0, 0, 1, 0, 1, 0, 0, 1, 1] (bodyOf Tryz.f12)) 2 (iterK (den Tryz.prog Ev cordonref_DenyOf_A (sub [1, 1, 0, 1, 0, 0, 1, 0, 0, 1, 0, 1, 0, 0] (bodyOf Tryz.f12)) 2) cordonref_DenyOf_A (liveOf cordonref_DenyOf_A 2) n2 (blockK 2 (seqK Tryz.prog Ev cordonref_DenyOf_A (sub [1, 1, 0, 1, 0, 0, 1, 0, 0, 1, 1] (bodyOf Tryz.f12)) 1 (blockK 1 (seqK Tryz.prog Ev cordonref_DenyOf_A (sub [1, 1, 0, 1, 0, 0, 1, 1] (bodyOf Tryz.f12)) 0 (iterK (den Tryz.prog Ev cordonref_DenyOf_A (sub [1, 1, 0, 1, 0, 0] (bodyOf Tryz.f12)) 0) cordonref_DenyOf_A (liveOf cordonref_DenyOf_A 0) n0 (blockK 0 (seqK Tryz.prog Ev cordonref_DenyOf_A (sub [1, 1, 1] (bodyOf Tryz.f12)) 0 (endK Ev Tryz.f12.results.toList R)))))))))))))
def cordonref_DenyOf_I2 (a1 : List LitD) (R : D → Prop) (n0 : Nat) (v1 : List (List Int)) (v2 : Int) (n2 : Nat) (v3 : Int) (l4 : List (List Int)) : Prop := iter (den Tryz.prog Ev cordonref_DenyOf_A (sub [1, 1, 0, 1, 0, 0, 1, 0, 0, 1, 0, 1, 0, 0] (bodyOf Tryz.f12)) 2) cordonref_DenyOf_A (liveOf cordonref_DenyOf_A 2) n2 ⟨[(1, .sl .lit a1), (5, .sl (.list .int) v1), (6, .int .i64 v2), (7, .own 7), (8, .int .i64 v3)], [(7, .row 30 (.list .int) l4)]⟩ (blockK 2 (seqK Tryz.prog Ev cordonref_DenyOf_A (sub [1, 1, 0, 1, 0, 0, 1, 0, 0, 1, 1] (bodyOf Tryz.f12)) 1 (blockK 1 (seqK Tryz.prog Ev cordonref_DenyOf_A (sub [1, 1, 0, 1, 0, 0, 1, 1] (bodyOf Tryz.f12)) 0 (iterK (den Tryz.prog Ev cordonref_DenyOf_A (sub [1, 1, 0, 1, 0, 0] (bodyOf Tryz.f12)) 0) cordonref_DenyOf_A (liveOf cordonref_DenyOf_A 0) n0 (blockK 0 (seqK Tryz.prog Ev cordonref_DenyOf_A (sub [1, 1, 1] (bodyOf Tryz.f12)) 0 (endK Ev Tryz.f12.results.toList R))))))))
def cordonref_DenyOf_I0 (a1 : List LitD) (R : D → Prop) (n0 : Nat) (v1 : List (List Int)) (v2 : Int) : Prop := iter (den Tryz.prog Ev cordonref_DenyOf_A (sub [1, 1, 0, 1, 0, 0] (bodyOf Tryz.f12)) 0) cordonref_DenyOf_A (liveOf cordonref_DenyOf_A 0) n0 ⟨[(1, .sl .lit a1), (5, .sl (.list .int) v1), (6, .int .i64 v2)], []⟩ (blockK 0 (seqK Tryz.prog Ev cordonref_DenyOf_A (sub [1, 1, 1] (bodyOf Tryz.f12)) 0 (endK Ev Tryz.f12.results.toList R)))
theorem cordonref_DenyOf_I4_eq (a1 : List LitD) (R : D → Prop) (n0 : Nat) (v1 : List (List Int)) (v2 : Int) (n2 : Nat) (v3 : Int) (n4 : Nat) (v5 : Int) (l6 : List (List Int)) (l7 : List Int) : cordonref_DenyOf_I4 a1 R n0 v1 v2 n2 v3 (n4 + 1) v5 l6 l7 =
 (inb v3 v1.length = true ∧
 sel (decide (v5 < ((at' (.list .int) v1 v3.toNat).length : Int)))
 (inb v2 a1.length = true ∧
 sel (!decide (v3 = ((at' .lit a1 v2.toNat).var)))
 (inb v3 v1.length = true ∧
 inb v5 (at' (.list .int) v1 v3.toNat).length = true ∧
 room .int (l7.length + ([at' .int (at' (.list .int) v1 v3.toNat) v5.toNat]).length) = true ∧
 cordonref_DenyOf_I4 a1 R n0 v1 v2 n2 v3 n4 (w64 (v5 + 1)) l6 (l7 ++ ([at' .int (at' (.list .int) v1 v3.toNat) v5.toNat])))
 (inb v2 a1.length = true ∧
 inb v3 v1.length = true ∧
 inb v5 (at' (.list .int) v1 v3.toNat).length = true ∧
 Call1 Tryz.prog f_cordonref_LitHolds [.agg [.int .i64 ((at' .lit a1 v2.toNat).var), .int .i64 ((at' .lit a1 v2.toNat).op), .int .i64 ((at' .lit a1 v2.toNat).n)], .int .i64 (at' .int (at' (.list .int) v1 v3.toNat) v5.toNat)] .bool fun c8 =>
 sel (!c8)
 (inb v3 v1.length = true ∧
 inb v5 (at' (.list .int) v1 v3.toNat).length = true ∧
 room .int (l7.length + ([at' .int (at' (.list .int) v1 v3.toNat) v5.toNat]).length) = true ∧
 cordonref_DenyOf_I4 a1 R n0 v1 v2 n2 v3 n4 (w64 (v5 + 1)) l6 (l7 ++ ([at' .int (at' (.list .int) v1 v3.toNat) v5.toNat])))
 (cordonref_DenyOf_I4 a1 R n0 v1 v2 n2 v3 n4 (w64 (v5 + 1)) l6 l7)))
 (room (.list .int) (l6.length + ([l7]).length) = true ∧
 cordonref_DenyOf_I2 a1 R n0 v1 v2 n2 (w64 (v3 + 1)) (l6 ++ ([l7])))) := by kernel_rfl
theorem cordonref_DenyOf_I2_eq (a1 : List LitD) (R : D → Prop) (n0 : Nat) (v1 : List (List Int)) (v2 : Int) (n2 : Nat) (v3 : Int) (l4 : List (List Int)) : cordonref_DenyOf_I2 a1 R n0 v1 v2 (n2 + 1) v3 l4 =
 (sel (decide (v3 < (v1.length : Int)))
 (∃ n4, cordonref_DenyOf_I4 a1 R n0 v1 v2 n2 v3 n4 0 l4 ([] : List Int))
 (cordonref_DenyOf_I0 a1 R n0 l4 (w64 (v2 + 1)))) := by kernel_rfl
theorem cordonref_DenyOf_I0_eq (a1 : List LitD) (R : D → Prop) (n0 : Nat) (v1 : List (List Int)) (v2 : Int) : cordonref_DenyOf_I0 a1 R (n0 + 1) v1 v2 =
 (sel (decide (v2 < (a1.length : Int)))
 (∃ n2, cordonref_DenyOf_I2 a1 R n0 v1 v2 n2 0 ([] : List (List Int)))
 (R (.sl (.list .int) v1))) := by kernel_rfl
theorem cordonref_DenyOf_eq (a0 : List (List Int)) (a1 : List LitD) (R : D → Prop) : fnD Tryz.prog Ev cordonref_DenyOf_A Tryz.f12.results.toList (bodyOf Tryz.f12) [.sl (.list .int) a0, .sl .lit a1] R =
 (∃ n0, cordonref_DenyOf_I0 a1 R n0 a0 0) := by kernel_rfl
theorem cordonref_DenyOf_sat {r : D} (a0 : List (List Int)) (a1 : List LitD) (h : (∀ d ∈ [.sl (.list .int) a0, .sl .lit a1], okD d) → fnD Tryz.prog Ev cordonref_DenyOf_A Tryz.f12.results.toList (bodyOf Tryz.f12) [.sl (.list .int) a0, .sl .lit a1] fun d => d = r) : Sat Tryz.prog f_cordonref_DenyOf [.sl (.list .int) a0, .sl .lit a1] r := by
  have h2 := sat_of (r := r) (args := [.sl (.list .int) a0, .sl .lit a1]) (A := cordonref_DenyOf_A) (fn := Tryz.f12) (body := bodyOf Tryz.f12) (f := f_cordonref_DenyOf) factsEv Tryz.func12 (by kernel_rfl) (by rw [Tryz.ntmps12]; rfl) (by rw [Tryz.ntmps12]; exact Nat.le_of_ble_eq_true rfl)
  with_reducible exact h2 h
/-! ### cordon/cordonref.ClauseHolds -/
def cordonref_ClauseHolds_A : Ann := { own := [], live := [(0, ([0, 1, 5], []))], n := 25, nils := [], pubs := [] }
def cordonref_ClauseHolds_I0 (a0 : List LitD) (a1 : List Int) (R : D → Prop) (n0 : Nat) (i1 : Int) : Prop := iter (den Tryz.prog Ev cordonref_ClauseHolds_A (sub [1, 0, 1, 0, 0] (bodyOf Tryz.f15)) 0) cordonref_ClauseHolds_A (liveOf cordonref_ClauseHolds_A 0) n0 ⟨[(0, .sl .lit a0), (1, .sl .int a1), (5, .int .i64 i1)], []⟩ (blockK 0 (seqK Tryz.prog Ev cordonref_ClauseHolds_A (sub [1, 1] (bodyOf Tryz.f15)) 0 (endK Ev Tryz.f15.results.toList R)))
theorem cordonref_ClauseHolds_I0_eq (a0 : List LitD) (a1 : List Int) (R : D → Prop) (n0 : Nat) (i1 : Int) : cordonref_ClauseHolds_I0 a0 a1 R (n0 + 1) i1 =
 (sel (decide (i1 < (a0.length : Int)))
 (inb i1 a0.length = true ∧
 inb i1 a0.length = true ∧
 inb ((at' .lit a0 i1.toNat).var) a1.length = true ∧
 Call1 Tryz.prog f_cordonref_LitHolds [.agg [.int .i64 ((at' .lit a0 i1.toNat).var), .int .i64 ((at' .lit a0 i1.toNat).op), .int .i64 ((at' .lit a0 i1.toNat).n)], .int .i64 (at' .int a1 (((at' .lit a0 i1.toNat).var).toNat))] .bool fun c2 =>
 sel c2
 (R (.bool true))
 (cordonref_ClauseHolds_I0 a0 a1 R n0 (w64 (i1 + 1))))
 (R (.bool false))) := by kernel_rfl
theorem cordonref_ClauseHolds_eq (a0 : List LitD) (a1 : List Int) (R : D → Prop) : fnD Tryz.prog Ev cordonref_ClauseHolds_A Tryz.f15.results.toList (bodyOf Tryz.f15) [.sl .lit a0, .sl .int a1] R =
 (∃ n0, cordonref_ClauseHolds_I0 a0 a1 R n0 0) := by kernel_rfl
theorem cordonref_ClauseHolds_sat {r : D} (a0 : List LitD) (a1 : List Int) (h : (∀ d ∈ [.sl .lit a0, .sl .int a1], okD d) → fnD Tryz.prog Ev cordonref_ClauseHolds_A Tryz.f15.results.toList (bodyOf Tryz.f15) [.sl .lit a0, .sl .int a1] fun d => d = r) : Sat Tryz.prog f_cordonref_ClauseHolds [.sl .lit a0, .sl .int a1] r := by
  have h2 := sat_of (r := r) (args := [.sl .lit a0, .sl .int a1]) (A := cordonref_ClauseHolds_A) (fn := Tryz.f15) (body := bodyOf Tryz.f15) (f := f_cordonref_ClauseHolds) factsEv Tryz.func15 (by kernel_rfl) (by rw [Tryz.ntmps15]; rfl) (by rw [Tryz.ntmps15]; exact Nat.le_of_ble_eq_true rfl)
  with_reducible exact h2 h
/-! ### cordon/cordonref.between -/
def cordonref_between_A : Ann := { own := [], live := [], n := 15, nils := [], pubs := [] }
theorem cordonref_between_eq (a0 : Int) (a1 : Int) (a2 : Int) (R : D → Prop) : fnD Tryz.prog Ev cordonref_between_A Tryz.f30.results.toList (bodyOf Tryz.f30) [.int .i64 a0, .int .i64 a1, .int .i64 a2] R =
 (sel (decide (a1 ≤ a0))
 (R (.bool (decide (a0 ≤ a2))))
 (R (.bool false))) := by kernel_rfl
theorem cordonref_between_sat {r : D} (a0 : Int) (a1 : Int) (a2 : Int) (h : (∀ d ∈ [.int .i64 a0, .int .i64 a1, .int .i64 a2], okD d) → fnD Tryz.prog Ev cordonref_between_A Tryz.f30.results.toList (bodyOf Tryz.f30) [.int .i64 a0, .int .i64 a1, .int .i64 a2] fun d => d = r) : Sat Tryz.prog f_cordonref_between [.int .i64 a0, .int .i64 a1, .int .i64 a2] r := by
  have h2 := sat_of (r := r) (args := [.int .i64 a0, .int .i64 a1, .int .i64 a2]) (A := cordonref_between_A) (fn := Tryz.f30) (body := bodyOf Tryz.f30) (f := f_cordonref_between) factsEv Tryz.func30 (by kernel_rfl) (by rw [Tryz.ntmps30]; rfl) (by rw [Tryz.ntmps30]; exact Nat.le_of_ble_eq_true rfl)
  with_reducible exact h2 h
/-! ### cordon/cordonref.checkCon -/
def cordonref_checkCon_A : Ann := { own := [], live := [(0, ([2, 3, 5], [])), (2, ([2, 3, 6], [])), (4, ([2, 3, 7], [])), (6, ([2, 3, 8], [])), (8, ([2, 3, 8, 9], [])), (10, ([2, 3, 10], []))], n := 140, nils := [], pubs := [] }
def cordonref_checkCon_I8 (a0 : MdlD) (a1 : ConD) (R : D → Prop) (n6 : Nat) (v10 : Int) (n8 : Nat) (v11 : Int) : Prop := iter (den Tryz.prog Ev cordonref_checkCon_A (sub [1, 1, 1, 1, 1, 1, 1, 1, 0, 1, 0, 0, 1, 0, 0, 1, 0, 0] (bodyOf Tryz.f31)) 8) cordonref_checkCon_A (liveOf cordonref_checkCon_A 8) n8 ⟨[(2, .iptr [.sl .var a0.vars, .sl .con a0.cons, .int .i64 a0.goal, .int .i64 a0.var] 0), (3, .iptr [.int .i64 a1.kind, .sl .int a1.vars, .sl .int a1.consts, .int .i64 a1.n, .sl (.list .int) a1.rows, .sl .lit a1.lits] 0), (8, .int .i64 v10), (9, .int .i64 v11)], []⟩ (blockK 8 (blockK 7 (seqK Tryz.prog Ev cordonref_checkCon_A (sub [1, 1, 1, 1, 1, 1, 1, 1, 0, 1, 0, 0, 1, 1] (bodyOf Tryz.f31)) 6 (iterK (den Tryz.prog Ev cordonref_checkCon_A (sub [1, 1, 1, 1, 1, 1, 1, 1, 0, 1, 0, 0] (bodyOf Tryz.f31)) 6) cordonref_checkCon_A (liveOf cordonref_checkCon_A 6) n6 (blockK 6 (seqK Tryz.prog Ev cordonref_checkCon_A (sub [1, 1, 1, 1, 1, 1, 1, 1, 1] (bodyOf Tryz.f31)) 0 (endK Ev Tryz.f31.results.toList R)))))))
def cordonref_checkCon_I10 (a0 : MdlD) (a1 : ConD) (R : D → Prop) (n10 : Nat) (v13 : Int) : Prop := iter (den Tryz.prog Ev cordonref_checkCon_A (sub [1, 1, 1, 1, 1, 1, 1, 1, 1, 0, 1, 0, 0] (bodyOf Tryz.f31)) 10) cordonref_checkCon_A (liveOf cordonref_checkCon_A 10) n10 ⟨[(2, .iptr [.sl .var a0.vars, .sl .con a0.cons, .int .i64 a0.goal, .int .i64 a0.var] 0), (3, .iptr [.int .i64 a1.kind, .sl .int a1.vars, .sl .int a1.consts, .int .i64 a1.n, .sl (.list .int) a1.rows, .sl .lit a1.lits] 0), (10, .int .i64 v13)], []⟩ (blockK 10 (seqK Tryz.prog Ev cordonref_checkCon_A (sub [1, 1, 1, 1, 1, 1, 1, 1, 1, 1] (bodyOf Tryz.f31)) 0 (endK Ev Tryz.f31.results.toList R)))
def cordonref_checkCon_I6 (a0 : MdlD) (a1 : ConD) (R : D → Prop) (n6 : Nat) (v10 : Int) : Prop := iter (den Tryz.prog Ev cordonref_checkCon_A (sub [1, 1, 1, 1, 1, 1, 1, 1, 0, 1, 0, 0] (bodyOf Tryz.f31)) 6) cordonref_checkCon_A (liveOf cordonref_checkCon_A 6) n6 ⟨[(2, .iptr [.sl .var a0.vars, .sl .con a0.cons, .int .i64 a0.goal, .int .i64 a0.var] 0), (3, .iptr [.int .i64 a1.kind, .sl .int a1.vars, .sl .int a1.consts, .int .i64 a1.n, .sl (.list .int) a1.rows, .sl .lit a1.lits] 0), (8, .int .i64 v10)], []⟩ (blockK 6 (seqK Tryz.prog Ev cordonref_checkCon_A (sub [1, 1, 1, 1, 1, 1, 1, 1, 1] (bodyOf Tryz.f31)) 0 (endK Ev Tryz.f31.results.toList R)))
def cordonref_checkCon_I4 (a0 : MdlD) (a1 : ConD) (R : D → Prop) (n4 : Nat) (v7 : Int) : Prop := iter (den Tryz.prog Ev cordonref_checkCon_A (sub [1, 1, 1, 1, 1, 1, 0, 1, 0, 0] (bodyOf Tryz.f31)) 4) cordonref_checkCon_A (liveOf cordonref_checkCon_A 4) n4 ⟨[(2, .iptr [.sl .var a0.vars, .sl .con a0.cons, .int .i64 a0.goal, .int .i64 a0.var] 0), (3, .iptr [.int .i64 a1.kind, .sl .int a1.vars, .sl .int a1.consts, .int .i64 a1.n, .sl (.list .int) a1.rows, .sl .lit a1.lits] 0), (7, .int .i64 v7)], []⟩ (blockK 4 (seqK Tryz.prog Ev cordonref_checkCon_A (sub [1, 1, 1, 1, 1, 1, 1] (bodyOf Tryz.f31)) 0 (endK Ev Tryz.f31.results.toList R)))
def cordonref_checkCon_I2 (a0 : MdlD) (a1 : ConD) (R : D → Prop) (n2 : Nat) (v5 : Int) : Prop := iter (den Tryz.prog Ev cordonref_checkCon_A (sub [1, 1, 1, 1, 1, 0, 1, 0, 0] (bodyOf Tryz.f31)) 2) cordonref_checkCon_A (liveOf cordonref_checkCon_A 2) n2 ⟨[(2, .iptr [.sl .var a0.vars, .sl .con a0.cons, .int .i64 a0.goal, .int .i64 a0.var] 0), (3, .iptr [.int .i64 a1.kind, .sl .int a1.vars, .sl .int a1.consts, .int .i64 a1.n, .sl (.list .int) a1.rows, .sl .lit a1.lits] 0), (6, .int .i64 v5)], []⟩ (blockK 2 (seqK Tryz.prog Ev cordonref_checkCon_A (sub [1, 1, 1, 1, 1, 1] (bodyOf Tryz.f31)) 0 (endK Ev Tryz.f31.results.toList R)))
def cordonref_checkCon_I0 (a0 : MdlD) (a1 : ConD) (R : D → Prop) (n0 : Nat) (v3 : Int) : Prop := iter (den Tryz.prog Ev cordonref_checkCon_A (sub [1, 1, 1, 1, 0, 1, 0, 0] (bodyOf Tryz.f31)) 0) cordonref_checkCon_A (liveOf cordonref_checkCon_A 0) n0 ⟨[(2, .iptr [.sl .var a0.vars, .sl .con a0.cons, .int .i64 a0.goal, .int .i64 a0.var] 0), (3, .iptr [.int .i64 a1.kind, .sl .int a1.vars, .sl .int a1.consts, .int .i64 a1.n, .sl (.list .int) a1.rows, .sl .lit a1.lits] 0), (5, .int .i64 v3)], []⟩ (blockK 0 (seqK Tryz.prog Ev cordonref_checkCon_A (sub [1, 1, 1, 1, 1] (bodyOf Tryz.f31)) 0 (endK Ev Tryz.f31.results.toList R)))
theorem cordonref_checkCon_I8_eq (a0 : MdlD) (a1 : ConD) (R : D → Prop) (n6 : Nat) (v10 : Int) (n8 : Nat) (v11 : Int) : cordonref_checkCon_I8 a0 a1 R n6 v10 (n8 + 1) v11 =
 (inb v10 a1.rows.length = true ∧
 sel (decide (v11 < ((at' (.list .int) a1.rows v10.toNat).length : Int)))
 (inb v10 a1.rows.length = true ∧
 inb v11 (at' (.list .int) a1.rows v10.toNat).length = true ∧
 Call1 Tryz.prog f_cordonref_inConst [.int .i64 (at' .int (at' (.list .int) a1.rows v10.toNat) v11.toNat)] .bool fun c12 =>
 sel (!c12)
 (R (.int .i64 3))
 (cordonref_checkCon_I8 a0 a1 R n6 v10 n8 (w64 (v11 + 1))))
 (cordonref_checkCon_I6 a0 a1 R n6 (w64 (v10 + 1)))) := by kernel_rfl
theorem cordonref_checkCon_I10_eq (a0 : MdlD) (a1 : ConD) (R : D → Prop) (n10 : Nat) (v13 : Int) : cordonref_checkCon_I10 a0 a1 R (n10 + 1) v13 =
 (sel (decide (v13 < (a1.lits.length : Int)))
 (inb v13 a1.lits.length = true ∧
 Call1 Tryz.prog f_cordonref_CheckLit [.agg [.sl .var a0.vars, .sl .con a0.cons, .int .i64 a0.goal, .int .i64 a0.var], .agg [.int .i64 ((at' .lit a1.lits v13.toNat).var), .int .i64 ((at' .lit a1.lits v13.toNat).op), .int .i64 ((at' .lit a1.lits v13.toNat).n)]] .int fun c14 =>
 sel (!decide (c14 = 0))
 (R (.int .i64 c14))
 (cordonref_checkCon_I10 a0 a1 R n10 (w64 (v13 + 1))))
 (R (.int .i64 0))) := by kernel_rfl
theorem cordonref_checkCon_I6_eq (a0 : MdlD) (a1 : ConD) (R : D → Prop) (n6 : Nat) (v10 : Int) : cordonref_checkCon_I6 a0 a1 R (n6 + 1) v10 =
 (sel (decide (v10 < (a1.rows.length : Int)))
 (∃ n8, cordonref_checkCon_I8 a0 a1 R n6 v10 n8 0)
 (∃ n10, cordonref_checkCon_I10 a0 a1 R n10 0)) := by kernel_rfl
theorem cordonref_checkCon_I4_eq (a0 : MdlD) (a1 : ConD) (R : D → Prop) (n4 : Nat) (v7 : Int) : cordonref_checkCon_I4 a0 a1 R (n4 + 1) v7 =
 (sel (decide (v7 < (a1.consts.length : Int)))
 (inb v7 a1.consts.length = true ∧
 Call1 Tryz.prog f_cordonref_inConst [.int .i64 (at' .int a1.consts v7.toNat)] .bool fun c8 =>
 sel (!c8)
 (R (.int .i64 3))
 (cordonref_checkCon_I4 a0 a1 R n4 (w64 (v7 + 1))))
 (Call1 Tryz.prog f_cordonref_inConst [.int .i64 a1.n] .bool fun c9 =>
 sel (!c9)
 (R (.int .i64 3))
 (∃ n6, cordonref_checkCon_I6 a0 a1 R n6 0))) := by kernel_rfl
theorem cordonref_checkCon_I2_eq (a0 : MdlD) (a1 : ConD) (R : D → Prop) (n2 : Nat) (v5 : Int) : cordonref_checkCon_I2 a0 a1 R (n2 + 1) v5 =
 (sel (decide (v5 < (a1.lits.length : Int)))
 (inb v5 a1.lits.length = true ∧
 Call1 Tryz.prog f_cordonref_between [.int .i64 ((at' .lit a1.lits v5.toNat).var), .int .i64 0, .int .i64 (w64 ((a0.vars.length : Int) - 1))] .bool fun c6 =>
 sel (!c6)
 (R (.int .i64 5))
 (cordonref_checkCon_I2 a0 a1 R n2 (w64 (v5 + 1))))
 (∃ n4, cordonref_checkCon_I4 a0 a1 R n4 0)) := by kernel_rfl
theorem cordonref_checkCon_I0_eq (a0 : MdlD) (a1 : ConD) (R : D → Prop) (n0 : Nat) (v3 : Int) : cordonref_checkCon_I0 a0 a1 R (n0 + 1) v3 =
 (sel (decide (v3 < (a1.vars.length : Int)))
 (inb v3 a1.vars.length = true ∧
 Call1 Tryz.prog f_cordonref_between [.int .i64 (at' .int a1.vars v3.toNat), .int .i64 0, .int .i64 (w64 ((a0.vars.length : Int) - 1))] .bool fun c4 =>
 sel (!c4)
 (R (.int .i64 5))
 (cordonref_checkCon_I0 a0 a1 R n0 (w64 (v3 + 1))))
 (∃ n2, cordonref_checkCon_I2 a0 a1 R n2 0)) := by kernel_rfl
theorem cordonref_checkCon_eq (a0 : MdlD) (a1 : ConD) (R : D → Prop) : fnD Tryz.prog Ev cordonref_checkCon_A Tryz.f31.results.toList (bodyOf Tryz.f31) [.agg [.sl .var a0.vars, .sl .con a0.cons, .int .i64 a0.goal, .int .i64 a0.var], .agg [.int .i64 a1.kind, .sl .int a1.vars, .sl .int a1.consts, .int .i64 a1.n, .sl (.list .int) a1.rows, .sl .lit a1.lits]] R =
 (Call1 Tryz.prog f_cordonref_between [.int .i64 a1.kind, .int .i64 1, .int .i64 10] .bool fun c1 =>
 sel (!c1)
 (R (.int .i64 7))
 (sel (decide (4 < (a1.vars.length : Int)))
 (R (.int .i64 2))
 (sel (decide (4 < (a1.lits.length : Int)))
 (R (.int .i64 2))
 (sel (decide (8 < (a1.consts.length : Int)))
 (R (.int .i64 2))
 (sel (decide (20 < (a1.rows.length : Int)))
 (R (.int .i64 2))
 (Call1 Tryz.prog f_cordonref_rightForm [.agg [.int .i64 a1.kind, .sl .int a1.vars, .sl .int a1.consts, .int .i64 a1.n, .sl (.list .int) a1.rows, .sl .lit a1.lits]] .bool fun c2 =>
 sel (!c2)
 (R (.int .i64 1))
 (∃ n0, cordonref_checkCon_I0 a0 a1 R n0 0))))))) := by kernel_rfl
theorem cordonref_checkCon_sat {r : D} (a0 : MdlD) (a1 : ConD) (h : (∀ d ∈ [.agg [.sl .var a0.vars, .sl .con a0.cons, .int .i64 a0.goal, .int .i64 a0.var], .agg [.int .i64 a1.kind, .sl .int a1.vars, .sl .int a1.consts, .int .i64 a1.n, .sl (.list .int) a1.rows, .sl .lit a1.lits]], okD d) → fnD Tryz.prog Ev cordonref_checkCon_A Tryz.f31.results.toList (bodyOf Tryz.f31) [.agg [.sl .var a0.vars, .sl .con a0.cons, .int .i64 a0.goal, .int .i64 a0.var], .agg [.int .i64 a1.kind, .sl .int a1.vars, .sl .int a1.consts, .int .i64 a1.n, .sl (.list .int) a1.rows, .sl .lit a1.lits]] fun d => d = r) : Sat Tryz.prog f_cordonref_checkCon [.agg [.sl .var a0.vars, .sl .con a0.cons, .int .i64 a0.goal, .int .i64 a0.var], .agg [.int .i64 a1.kind, .sl .int a1.vars, .sl .int a1.consts, .int .i64 a1.n, .sl (.list .int) a1.rows, .sl .lit a1.lits]] r := by
  have h2 := sat_of (r := r) (args := [.agg [.sl .var a0.vars, .sl .con a0.cons, .int .i64 a0.goal, .int .i64 a0.var], .agg [.int .i64 a1.kind, .sl .int a1.vars, .sl .int a1.consts, .int .i64 a1.n, .sl (.list .int) a1.rows, .sl .lit a1.lits]]) (A := cordonref_checkCon_A) (fn := Tryz.f31) (body := bodyOf Tryz.f31) (f := f_cordonref_checkCon) factsEv Tryz.func31 (by kernel_rfl) (by rw [Tryz.ntmps31]; rfl) (by rw [Tryz.ntmps31]; exact Nat.le_of_ble_eq_true rfl)
  with_reducible exact h2 h
/-! ### cordon/cordonref.CheckLit -/
def cordonref_CheckLit_A : Ann := { own := [], live := [], n := 21, nils := [], pubs := [] }
theorem cordonref_CheckLit_eq (a0 : MdlD) (a1 : LitD) (R : D → Prop) : fnD Tryz.prog Ev cordonref_CheckLit_A Tryz.f32.results.toList (bodyOf Tryz.f32) [.agg [.sl .var a0.vars, .sl .con a0.cons, .int .i64 a0.goal, .int .i64 a0.var], .agg [.int .i64 a1.var, .int .i64 a1.op, .int .i64 a1.n]] R =
 (Call1 Tryz.prog f_cordonref_between [.int .i64 a1.var, .int .i64 0, .int .i64 (w64 ((a0.vars.length : Int) - 1))] .bool fun c1 =>
 sel (!c1)
 (R (.int .i64 5))
 (Call1 Tryz.prog f_cordonref_between [.int .i64 a1.op, .int .i64 1, .int .i64 4] .bool fun c2 =>
 sel (!c2)
 (R (.int .i64 7))
 (Call1 Tryz.prog f_cordonref_inConst [.int .i64 a1.n] .bool fun c3 =>
 sel (!c3)
 (R (.int .i64 3))
 (R (.int .i64 0))))) := by kernel_rfl
theorem cordonref_CheckLit_sat {r : D} (a0 : MdlD) (a1 : LitD) (h : (∀ d ∈ [.agg [.sl .var a0.vars, .sl .con a0.cons, .int .i64 a0.goal, .int .i64 a0.var], .agg [.int .i64 a1.var, .int .i64 a1.op, .int .i64 a1.n]], okD d) → fnD Tryz.prog Ev cordonref_CheckLit_A Tryz.f32.results.toList (bodyOf Tryz.f32) [.agg [.sl .var a0.vars, .sl .con a0.cons, .int .i64 a0.goal, .int .i64 a0.var], .agg [.int .i64 a1.var, .int .i64 a1.op, .int .i64 a1.n]] fun d => d = r) : Sat Tryz.prog f_cordonref_CheckLit [.agg [.sl .var a0.vars, .sl .con a0.cons, .int .i64 a0.goal, .int .i64 a0.var], .agg [.int .i64 a1.var, .int .i64 a1.op, .int .i64 a1.n]] r := by
  have h2 := sat_of (r := r) (args := [.agg [.sl .var a0.vars, .sl .con a0.cons, .int .i64 a0.goal, .int .i64 a0.var], .agg [.int .i64 a1.var, .int .i64 a1.op, .int .i64 a1.n]]) (A := cordonref_CheckLit_A) (fn := Tryz.f32) (body := bodyOf Tryz.f32) (f := f_cordonref_CheckLit) factsEv Tryz.func32 (by kernel_rfl) (by rw [Tryz.ntmps32]; rfl) (by rw [Tryz.ntmps32]; exact Nat.le_of_ble_eq_true rfl)
  with_reducible exact h2 h
/-! ### cordon/cordonref.CheckStore -/
def cordonref_CheckStore_A : Ann := { own := [], live := [(0, ([1, 2, 5], [])), (2, ([1, 2, 5, 6], [])), (4, ([1, 7], [])), (6, ([1, 7, 8], []))], n := 82, nils := [], pubs := [] }
def cordonref_CheckStore_I2 (a0 : MdlD) (a1 : List (List Int)) (R : D → Prop) (n0 : Nat) (v1 : Int) (n2 : Nat) (v2 : Int) : Prop := iter (den Tryz.prog Ev cordonref_CheckStore_A (sub [1, 1, 0, 1, 0, 0, 1, 0, 0, 1, 0, 0] (bodyOf Tryz.f33)) 2) cordonref_CheckStore_A (liveOf cordonref_CheckStore_A 2) n2 ⟨[(1, .sl (.list .int) a1), (2, .iptr [.sl .var a0.vars, .sl .con a0.cons, .int .i64 a0.goal, .int .i64 a0.var] 0), (5, .int .i64 v1), (6, .int .i64 v2)], []⟩ (blockK 2 (blockK 1 (seqK Tryz.prog Ev cordonref_CheckStore_A (sub [1, 1, 0, 1, 0, 0, 1, 1] (bodyOf Tryz.f33)) 0 (iterK (den Tryz.prog Ev cordonref_CheckStore_A (sub [1, 1, 0, 1, 0, 0] (bodyOf Tryz.f33)) 0) cordonref_CheckStore_A (liveOf cordonref_CheckStore_A 0) n0 (blockK 0 (seqK Tryz.prog Ev cordonref_CheckStore_A (sub [1, 1, 1] (bodyOf Tryz.f33)) 0 (endK Ev Tryz.f33.results.toList R)))))))
def cordonref_CheckStore_I6 (a1 : List (List Int)) (R : D → Prop) (n4 : Nat) (v4 : Int) (n6 : Nat) (v5 : Int) : Prop := iter (den Tryz.prog Ev cordonref_CheckStore_A (sub [1, 1, 1, 0, 1, 0, 0, 1, 0, 0, 1, 0, 0] (bodyOf Tryz.f33)) 6) cordonref_CheckStore_A (liveOf cordonref_CheckStore_A 6) n6 ⟨[(1, .sl (.list .int) a1), (7, .int .i64 v4), (8, .int .i64 v5)], []⟩ (blockK 6 (blockK 5 (seqK Tryz.prog Ev cordonref_CheckStore_A (sub [1, 1, 1, 0, 1, 0, 0, 1, 1] (bodyOf Tryz.f33)) 4 (iterK (den Tryz.prog Ev cordonref_CheckStore_A (sub [1, 1, 1, 0, 1, 0, 0] (bodyOf Tryz.f33)) 4) cordonref_CheckStore_A (liveOf cordonref_CheckStore_A 4) n4 (blockK 4 (seqK Tryz.prog Ev cordonref_CheckStore_A (sub [1, 1, 1, 1] (bodyOf Tryz.f33)) 0 (endK Ev Tryz.f33.results.toList R)))))))
def cordonref_CheckStore_I4 (a1 : List (List Int)) (R : D → Prop) (n4 : Nat) (v4 : Int) : Prop := iter (den Tryz.prog Ev cordonref_CheckStore_A (sub [1, 1, 1, 0, 1, 0, 0] (bodyOf Tryz.f33)) 4) cordonref_CheckStore_A (liveOf cordonref_CheckStore_A 4) n4 ⟨[(1, .sl (.list .int) a1), (7, .int .i64 v4)], []⟩ (blockK 4 (seqK Tryz.prog Ev cordonref_CheckStore_A (sub [1, 1, 1, 1] (bodyOf Tryz.f33)) 0 (endK Ev Tryz.f33.results.toList R)))
def cordonref_CheckStore_I0 (a0 : MdlD) (a1 : List (List Int)) (R : D → Prop) (n0 : Nat) (v1 : Int) : Prop := iter (den Tryz.prog Ev cordonref_CheckStore_A (sub [1, 1, 0, 1, 0, 0] (bodyOf Tryz.f33)) 0) cordonref_CheckStore_A (liveOf cordonref_CheckStore_A 0) n0 ⟨[(1, .sl (.list .int) a1), (2, .iptr [.sl .var a0.vars, .sl .con a0.cons, .int .i64 a0.goal, .int .i64 a0.var] 0), (5, .int .i64 v1)], []⟩ (blockK 0 (seqK Tryz.prog Ev cordonref_CheckStore_A (sub [1, 1, 1] (bodyOf Tryz.f33)) 0 (endK Ev Tryz.f33.results.toList R)))
theorem cordonref_CheckStore_I2_eq (a0 : MdlD) (a1 : List (List Int)) (R : D → Prop) (n0 : Nat) (v1 : Int) (n2 : Nat) (v2 : Int) : cordonref_CheckStore_I2 a0 a1 R n0 v1 (n2 + 1) v2 =
 (inb v1 a1.length = true ∧
 sel (decide (v2 < ((at' (.list .int) a1 v1.toNat).length : Int)))
 (inb v1 a1.length = true ∧
 inb v2 (at' (.list .int) a1 v1.toNat).length = true ∧
 inb v1 a0.vars.length = true ∧
 inb v1 a0.vars.length = true ∧
 Call1 Tryz.prog f_cordonref_between [.int .i64 (at' .int (at' (.list .int) a1 v1.toNat) v2.toNat), .int .i64 ((at' .var a0.vars v1.toNat).lo), .int .i64 ((at' .var a0.vars v1.toNat).hi)] .bool fun c3 =>
 sel (!c3)
 (R (.int .i64 3))
 (cordonref_CheckStore_I2 a0 a1 R n0 v1 n2 (w64 (v2 + 1))))
 (cordonref_CheckStore_I0 a0 a1 R n0 (w64 (v1 + 1)))) := by kernel_rfl
theorem cordonref_CheckStore_I6_eq (a1 : List (List Int)) (R : D → Prop) (n4 : Nat) (v4 : Int) (n6 : Nat) (v5 : Int) : cordonref_CheckStore_I6 a1 R n4 v4 (n6 + 1) v5 =
 (inb v4 a1.length = true ∧
 sel (decide (v5 < ((at' (.list .int) a1 v4.toNat).length : Int)))
 (inb v4 a1.length = true ∧
 inb v5 (at' (.list .int) a1 v4.toNat).length = true ∧
 inb v4 a1.length = true ∧
 inb (w64 (v5 - 1)) (at' (.list .int) a1 v4.toNat).length = true ∧
 sel (decide ((at' .int (at' (.list .int) a1 v4.toNat) v5.toNat) ≤ (at' .int (at' (.list .int) a1 v4.toNat) ((w64 (v5 - 1)).toNat))))
 (R (.int .i64 4))
 (cordonref_CheckStore_I6 a1 R n4 v4 n6 (w64 (v5 + 1))))
 (cordonref_CheckStore_I4 a1 R n4 (w64 (v4 + 1)))) := by kernel_rfl
theorem cordonref_CheckStore_I4_eq (a1 : List (List Int)) (R : D → Prop) (n4 : Nat) (v4 : Int) : cordonref_CheckStore_I4 a1 R (n4 + 1) v4 =
 (sel (decide (v4 < (a1.length : Int)))
 (∃ n6, cordonref_CheckStore_I6 a1 R n4 v4 n6 1)
 (R (.int .i64 0))) := by kernel_rfl
theorem cordonref_CheckStore_I0_eq (a0 : MdlD) (a1 : List (List Int)) (R : D → Prop) (n0 : Nat) (v1 : Int) : cordonref_CheckStore_I0 a0 a1 R (n0 + 1) v1 =
 (sel (decide (v1 < (a1.length : Int)))
 (∃ n2, cordonref_CheckStore_I2 a0 a1 R n0 v1 n2 0)
 (∃ n4, cordonref_CheckStore_I4 a1 R n4 0)) := by kernel_rfl
theorem cordonref_CheckStore_eq (a0 : MdlD) (a1 : List (List Int)) (R : D → Prop) : fnD Tryz.prog Ev cordonref_CheckStore_A Tryz.f33.results.toList (bodyOf Tryz.f33) [.agg [.sl .var a0.vars, .sl .con a0.cons, .int .i64 a0.goal, .int .i64 a0.var], .sl (.list .int) a1] R =
 (sel (!decide ((a1.length : Int) = (a0.vars.length : Int)))
 (R (.int .i64 1))
 (∃ n0, cordonref_CheckStore_I0 a0 a1 R n0 0)) := by kernel_rfl
theorem cordonref_CheckStore_sat {r : D} (a0 : MdlD) (a1 : List (List Int)) (h : (∀ d ∈ [.agg [.sl .var a0.vars, .sl .con a0.cons, .int .i64 a0.goal, .int .i64 a0.var], .sl (.list .int) a1], okD d) → fnD Tryz.prog Ev cordonref_CheckStore_A Tryz.f33.results.toList (bodyOf Tryz.f33) [.agg [.sl .var a0.vars, .sl .con a0.cons, .int .i64 a0.goal, .int .i64 a0.var], .sl (.list .int) a1] fun d => d = r) : Sat Tryz.prog f_cordonref_CheckStore [.agg [.sl .var a0.vars, .sl .con a0.cons, .int .i64 a0.goal, .int .i64 a0.var], .sl (.list .int) a1] r := by
  have h2 := sat_of (r := r) (args := [.agg [.sl .var a0.vars, .sl .con a0.cons, .int .i64 a0.goal, .int .i64 a0.var], .sl (.list .int) a1]) (A := cordonref_CheckStore_A) (fn := Tryz.f33) (body := bodyOf Tryz.f33) (f := f_cordonref_CheckStore) factsEv Tryz.func33 (by kernel_rfl) (by rw [Tryz.ntmps33]; rfl) (by rw [Tryz.ntmps33]; exact Nat.le_of_ble_eq_true rfl)
  with_reducible exact h2 h
/-! ### cordon/cordonref.HasFailed -/
def cordonref_HasFailed_A : Ann := { own := [], live := [(0, ([0, 3], []))], n := 16, nils := [], pubs := [] }
def cordonref_HasFailed_I0 (a0 : List (List Int)) (R : D → Prop) (n0 : Nat) (i1 : Int) : Prop := iter (den Tryz.prog Ev cordonref_HasFailed_A (sub [1, 0, 1, 0, 0] (bodyOf Tryz.f34)) 0) cordonref_HasFailed_A (liveOf cordonref_HasFailed_A 0) n0 ⟨[(0, .sl (.list .int) a0), (3, .int .i64 i1)], []⟩ (blockK 0 (seqK Tryz.prog Ev cordonref_HasFailed_A (sub [1, 1] (bodyOf Tryz.f34)) 0 (endK Ev Tryz.f34.results.toList R)))
theorem cordonref_HasFailed_I0_eq (a0 : List (List Int)) (R : D → Prop) (n0 : Nat) (i1 : Int) : cordonref_HasFailed_I0 a0 R (n0 + 1) i1 =
 (sel (decide (i1 < (a0.length : Int)))
 (inb i1 a0.length = true ∧
 sel (decide (((at' (.list .int) a0 i1.toNat).length : Int) = 0))
 (R (.bool true))
 (cordonref_HasFailed_I0 a0 R n0 (w64 (i1 + 1))))
 (R (.bool false))) := by kernel_rfl
theorem cordonref_HasFailed_eq (a0 : List (List Int)) (R : D → Prop) : fnD Tryz.prog Ev cordonref_HasFailed_A Tryz.f34.results.toList (bodyOf Tryz.f34) [.sl (.list .int) a0] R =
 (∃ n0, cordonref_HasFailed_I0 a0 R n0 0) := by kernel_rfl
theorem cordonref_HasFailed_sat {r : D} (a0 : List (List Int)) (h : (∀ d ∈ [.sl (.list .int) a0], okD d) → fnD Tryz.prog Ev cordonref_HasFailed_A Tryz.f34.results.toList (bodyOf Tryz.f34) [.sl (.list .int) a0] fun d => d = r) : Sat Tryz.prog f_cordonref_HasFailed [.sl (.list .int) a0] r := by
  have h2 := sat_of (r := r) (args := [.sl (.list .int) a0]) (A := cordonref_HasFailed_A) (fn := Tryz.f34) (body := bodyOf Tryz.f34) (f := f_cordonref_HasFailed) factsEv Tryz.func34 (by kernel_rfl) (by rw [Tryz.ntmps34]; rfl) (by rw [Tryz.ntmps34]; exact Nat.le_of_ble_eq_true rfl)
  with_reducible exact h2 h
/-! ### cordon/cordonref.ToldOf -/
def cordonref_ToldOf_A : Ann := { own := [], live := [(0, ([0, 3, 5, 6, 7], []))], n := 35, nils := [], pubs := [] }
def cordonref_ToldOf_I0 (a0 : List (List Int)) (a1 : LitD) (R : D → Prop) (n0 : Nat) (yes1 : Bool) (no2 : Bool) (k3 : Int) : Prop := iter (den Tryz.prog Ev cordonref_ToldOf_A (sub [1, 1, 0, 1, 0, 0] (bodyOf Tryz.f35)) 0) cordonref_ToldOf_A (liveOf cordonref_ToldOf_A 0) n0 ⟨[(0, .sl (.list .int) a0), (3, .iptr [.int .i64 a1.var, .int .i64 a1.op, .int .i64 a1.n] 0), (5, .bool yes1), (6, .bool no2), (7, .int .i64 k3)], []⟩ (blockK 0 (seqK Tryz.prog Ev cordonref_ToldOf_A (sub [1, 1, 1] (bodyOf Tryz.f35)) 0 (endK Ev Tryz.f35.results.toList R)))
theorem cordonref_ToldOf_I0_eq (a0 : List (List Int)) (a1 : LitD) (R : D → Prop) (n0 : Nat) (yes1 : Bool) (no2 : Bool) (k3 : Int) : cordonref_ToldOf_I0 a0 a1 R (n0 + 1) yes1 no2 k3 =
 (inb a1.var a0.length = true ∧
 sel (decide (k3 < ((at' (.list .int) a0 a1.var.toNat).length : Int)))
 (inb a1.var a0.length = true ∧
 inb k3 (at' (.list .int) a0 a1.var.toNat).length = true ∧
 Call1 Tryz.prog f_cordonref_LitHolds [.agg [.int .i64 a1.var, .int .i64 a1.op, .int .i64 a1.n], .int .i64 (at' .int (at' (.list .int) a0 a1.var.toNat) k3.toNat)] .bool fun c4 =>
 sel c4
 (cordonref_ToldOf_I0 a0 a1 R n0 true no2 (w64 (k3 + 1)))
 (cordonref_ToldOf_I0 a0 a1 R n0 yes1 true (w64 (k3 + 1))))
 (sel yes1
 (sel (!no2)
 (R (.int .i64 1))
 (sel (!yes1)
 (R (.int .i64 (-1)))
 (R (.int .i64 0))))
 (sel (!yes1)
 (R (.int .i64 (-1)))
 (R (.int .i64 0))))) := by kernel_rfl
theorem cordonref_ToldOf_eq (a0 : List (List Int)) (a1 : LitD) (R : D → Prop) : fnD Tryz.prog Ev cordonref_ToldOf_A Tryz.f35.results.toList (bodyOf Tryz.f35) [.sl (.list .int) a0, .agg [.int .i64 a1.var, .int .i64 a1.op, .int .i64 a1.n]] R =
 (∃ n0, cordonref_ToldOf_I0 a0 a1 R n0 false false 0) := by kernel_rfl
theorem cordonref_ToldOf_sat {r : D} (a0 : List (List Int)) (a1 : LitD) (h : (∀ d ∈ [.sl (.list .int) a0, .agg [.int .i64 a1.var, .int .i64 a1.op, .int .i64 a1.n]], okD d) → fnD Tryz.prog Ev cordonref_ToldOf_A Tryz.f35.results.toList (bodyOf Tryz.f35) [.sl (.list .int) a0, .agg [.int .i64 a1.var, .int .i64 a1.op, .int .i64 a1.n]] fun d => d = r) : Sat Tryz.prog f_cordonref_ToldOf [.sl (.list .int) a0, .agg [.int .i64 a1.var, .int .i64 a1.op, .int .i64 a1.n]] r := by
  have h2 := sat_of (r := r) (args := [.sl (.list .int) a0, .agg [.int .i64 a1.var, .int .i64 a1.op, .int .i64 a1.n]]) (A := cordonref_ToldOf_A) (fn := Tryz.f35) (body := bodyOf Tryz.f35) (f := f_cordonref_ToldOf) factsEv Tryz.func35 (by kernel_rfl) (by rw [Tryz.ntmps35]; rfl) (by rw [Tryz.ntmps35]; exact Nat.le_of_ble_eq_true rfl)
  with_reducible exact h2 h
/-! ### cordon/cordonref.HasInt -/
def cordonref_HasInt_A : Ann := { own := [], live := [(0, ([0, 1, 5], []))], n := 18, nils := [], pubs := [] }
def cordonref_HasInt_I0 (a0 : List Int) (a1 : Int) (R : D → Prop) (n0 : Nat) (i1 : Int) : Prop := iter (den Tryz.prog Ev cordonref_HasInt_A (sub [1, 0, 1, 0, 0] (bodyOf Tryz.f36)) 0) cordonref_HasInt_A (liveOf cordonref_HasInt_A 0) n0 ⟨[(0, .sl .int a0), (1, .int .i64 a1), (5, .int .i64 i1)], []⟩ (blockK 0 (seqK Tryz.prog Ev cordonref_HasInt_A (sub [1, 1] (bodyOf Tryz.f36)) 0 (endK Ev Tryz.f36.results.toList R)))
theorem cordonref_HasInt_I0_eq (a0 : List Int) (a1 : Int) (R : D → Prop) (n0 : Nat) (i1 : Int) : cordonref_HasInt_I0 a0 a1 R (n0 + 1) i1 =
 (sel (decide (i1 < (a0.length : Int)))
 (inb i1 a0.length = true ∧
 sel (decide ((at' .int a0 i1.toNat) = a1))
 (R (.bool true))
 (cordonref_HasInt_I0 a0 a1 R n0 (w64 (i1 + 1))))
 (R (.bool false))) := by kernel_rfl
theorem cordonref_HasInt_eq (a0 : List Int) (a1 : Int) (R : D → Prop) : fnD Tryz.prog Ev cordonref_HasInt_A Tryz.f36.results.toList (bodyOf Tryz.f36) [.sl .int a0, .int .i64 a1] R =
 (∃ n0, cordonref_HasInt_I0 a0 a1 R n0 0) := by kernel_rfl
theorem cordonref_HasInt_sat {r : D} (a0 : List Int) (a1 : Int) (h : (∀ d ∈ [.sl .int a0, .int .i64 a1], okD d) → fnD Tryz.prog Ev cordonref_HasInt_A Tryz.f36.results.toList (bodyOf Tryz.f36) [.sl .int a0, .int .i64 a1] fun d => d = r) : Sat Tryz.prog f_cordonref_HasInt [.sl .int a0, .int .i64 a1] r := by
  have h2 := sat_of (r := r) (args := [.sl .int a0, .int .i64 a1]) (A := cordonref_HasInt_A) (fn := Tryz.f36) (body := bodyOf Tryz.f36) (f := f_cordonref_HasInt) factsEv Tryz.func36 (by kernel_rfl) (by rw [Tryz.ntmps36]; rfl) (by rw [Tryz.ntmps36]; exact Nat.le_of_ble_eq_true rfl)
  with_reducible exact h2 h
/-! ### cordon/cordonref.NoValues -/
def cordonref_NoValues_A : Ann := { own := [3, 12], live := [(0, ([0, 3, 4], [3]))], n := 14, nils := [], pubs := [] }
def cordonref_NoValues_I0 (a0 : Int) (R : D → Prop) (n0 : Nat) (i1 : Int) (out2 : List (List Int)) : Prop := iter (den Tryz.prog Ev cordonref_NoValues_A (sub [1, 1, 0, 1, 0, 0] (bodyOf Tryz.f37)) 0) cordonref_NoValues_A (liveOf cordonref_NoValues_A 0) n0 ⟨[(0, .int .i64 a0), (3, .own 3), (4, .int .i64 i1)], [(3, .row 30 (.list .int) out2)]⟩ (blockK 0 (seqK Tryz.prog Ev cordonref_NoValues_A (sub [1, 1, 1] (bodyOf Tryz.f37)) 0 (endK Ev Tryz.f37.results.toList R)))
theorem cordonref_NoValues_I0_eq (a0 : Int) (R : D → Prop) (n0 : Nat) (i1 : Int) (out2 : List (List Int)) : cordonref_NoValues_I0 a0 R (n0 + 1) i1 out2 =
 (sel (decide (i1 < a0))
 (room (.list .int) (out2.length + ([([] : List Int)]).length) = true ∧
 cordonref_NoValues_I0 a0 R n0 (w64 (i1 + 1)) (out2 ++ ([([] : List Int)])))
 (R (.sl (.list .int) out2))) := by kernel_rfl
theorem cordonref_NoValues_eq (a0 : Int) (R : D → Prop) : fnD Tryz.prog Ev cordonref_NoValues_A Tryz.f37.results.toList (bodyOf Tryz.f37) [.int .i64 a0] R =
 (∃ n0, cordonref_NoValues_I0 a0 R n0 0 ([] : List (List Int))) := by kernel_rfl
theorem cordonref_NoValues_sat {r : D} (a0 : Int) (h : (∀ d ∈ [.int .i64 a0], okD d) → fnD Tryz.prog Ev cordonref_NoValues_A Tryz.f37.results.toList (bodyOf Tryz.f37) [.int .i64 a0] fun d => d = r) : Sat Tryz.prog f_cordonref_NoValues [.int .i64 a0] r := by
  have h2 := sat_of (r := r) (args := [.int .i64 a0]) (A := cordonref_NoValues_A) (fn := Tryz.f37) (body := bodyOf Tryz.f37) (f := f_cordonref_NoValues) factsEv Tryz.func37 (by kernel_rfl) (by rw [Tryz.ntmps37]; rfl) (by rw [Tryz.ntmps37]; exact Nat.le_of_ble_eq_true rfl)
  with_reducible exact h2 h
/-! ### cordon/cordonref.LitHolds -/
def cordonref_LitHolds_A : Ann := { own := [], live := [], n := 47, nils := [], pubs := [] }
theorem cordonref_LitHolds_eq (a0 : LitD) (a1 : Int) (R : D → Prop) : fnD Tryz.prog Ev cordonref_LitHolds_A Tryz.f38.results.toList (bodyOf Tryz.f38) [.agg [.int .i64 a0.var, .int .i64 a0.op, .int .i64 a0.n], .int .i64 a1] R =
 (sel (decide (a0.op = 1))
 (sel (decide (a1 ≤ a0.n))
 (R (.bool true))
 (sel (decide (a0.op = 2))
 (sel (decide (a0.n ≤ a1))
 (R (.bool true))
 (sel (decide (a0.op = 3))
 (sel (decide (a1 = a0.n))
 (R (.bool true))
 (sel (decide (a0.op = 4))
 (R (.bool (!decide (a1 = a0.n))))
 (R (.bool false))))
 (sel (decide (a0.op = 4))
 (R (.bool (!decide (a1 = a0.n))))
 (R (.bool false)))))
 (sel (decide (a0.op = 3))
 (sel (decide (a1 = a0.n))
 (R (.bool true))
 (sel (decide (a0.op = 4))
 (R (.bool (!decide (a1 = a0.n))))
 (R (.bool false))))
 (sel (decide (a0.op = 4))
 (R (.bool (!decide (a1 = a0.n))))
 (R (.bool false))))))
 (sel (decide (a0.op = 2))
 (sel (decide (a0.n ≤ a1))
 (R (.bool true))
 (sel (decide (a0.op = 3))
 (sel (decide (a1 = a0.n))
 (R (.bool true))
 (sel (decide (a0.op = 4))
 (R (.bool (!decide (a1 = a0.n))))
 (R (.bool false))))
 (sel (decide (a0.op = 4))
 (R (.bool (!decide (a1 = a0.n))))
 (R (.bool false)))))
 (sel (decide (a0.op = 3))
 (sel (decide (a1 = a0.n))
 (R (.bool true))
 (sel (decide (a0.op = 4))
 (R (.bool (!decide (a1 = a0.n))))
 (R (.bool false))))
 (sel (decide (a0.op = 4))
 (R (.bool (!decide (a1 = a0.n))))
 (R (.bool false)))))) := by kernel_rfl
theorem cordonref_LitHolds_sat {r : D} (a0 : LitD) (a1 : Int) (h : (∀ d ∈ [.agg [.int .i64 a0.var, .int .i64 a0.op, .int .i64 a0.n], .int .i64 a1], okD d) → fnD Tryz.prog Ev cordonref_LitHolds_A Tryz.f38.results.toList (bodyOf Tryz.f38) [.agg [.int .i64 a0.var, .int .i64 a0.op, .int .i64 a0.n], .int .i64 a1] fun d => d = r) : Sat Tryz.prog f_cordonref_LitHolds [.agg [.int .i64 a0.var, .int .i64 a0.op, .int .i64 a0.n], .int .i64 a1] r := by
  have h2 := sat_of (r := r) (args := [.agg [.int .i64 a0.var, .int .i64 a0.op, .int .i64 a0.n], .int .i64 a1]) (A := cordonref_LitHolds_A) (fn := Tryz.f38) (body := bodyOf Tryz.f38) (f := f_cordonref_LitHolds) factsEv Tryz.func38 (by kernel_rfl) (by rw [Tryz.ntmps38]; rfl) (by rw [Tryz.ntmps38]; exact Nat.le_of_ble_eq_true rfl)
  with_reducible exact h2 h
/-! ### cordon/cordonref.SameStore -/
def cordonref_SameStore_A : Ann := { own := [], live := [(0, ([0, 1, 5], []))], n := 27, nils := [], pubs := [] }
def cordonref_SameStore_I0 (a0 : List (List Int)) (a1 : List (List Int)) (R : D → Prop) (n0 : Nat) (i1 : Int) : Prop := iter (den Tryz.prog Ev cordonref_SameStore_A (sub [1, 1, 0, 1, 0, 0] (bodyOf Tryz.f40)) 0) cordonref_SameStore_A (liveOf cordonref_SameStore_A 0) n0 ⟨[(0, .sl (.list .int) a0), (1, .sl (.list .int) a1), (5, .int .i64 i1)], []⟩ (blockK 0 (seqK Tryz.prog Ev cordonref_SameStore_A (sub [1, 1, 1] (bodyOf Tryz.f40)) 0 (endK Ev Tryz.f40.results.toList R)))
theorem cordonref_SameStore_I0_eq (a0 : List (List Int)) (a1 : List (List Int)) (R : D → Prop) (n0 : Nat) (i1 : Int) : cordonref_SameStore_I0 a0 a1 R (n0 + 1) i1 =
 (sel (decide (i1 < (a0.length : Int)))
 (inb i1 a0.length = true ∧
 inb i1 a1.length = true ∧
 Call1 Tryz.prog f_cordonref_SameInts [.sl .int (at' (.list .int) a0 i1.toNat), .sl .int (at' (.list .int) a1 i1.toNat)] .bool fun c2 =>
 sel (!c2)
 (R (.bool false))
 (cordonref_SameStore_I0 a0 a1 R n0 (w64 (i1 + 1))))
 (R (.bool true))) := by kernel_rfl
theorem cordonref_SameStore_eq (a0 : List (List Int)) (a1 : List (List Int)) (R : D → Prop) : fnD Tryz.prog Ev cordonref_SameStore_A Tryz.f40.results.toList (bodyOf Tryz.f40) [.sl (.list .int) a0, .sl (.list .int) a1] R =
 (sel (!decide ((a0.length : Int) = (a1.length : Int)))
 (R (.bool false))
 (∃ n0, cordonref_SameStore_I0 a0 a1 R n0 0)) := by kernel_rfl
theorem cordonref_SameStore_sat {r : D} (a0 : List (List Int)) (a1 : List (List Int)) (h : (∀ d ∈ [.sl (.list .int) a0, .sl (.list .int) a1], okD d) → fnD Tryz.prog Ev cordonref_SameStore_A Tryz.f40.results.toList (bodyOf Tryz.f40) [.sl (.list .int) a0, .sl (.list .int) a1] fun d => d = r) : Sat Tryz.prog f_cordonref_SameStore [.sl (.list .int) a0, .sl (.list .int) a1] r := by
  have h2 := sat_of (r := r) (args := [.sl (.list .int) a0, .sl (.list .int) a1]) (A := cordonref_SameStore_A) (fn := Tryz.f40) (body := bodyOf Tryz.f40) (f := f_cordonref_SameStore) factsEv Tryz.func40 (by kernel_rfl) (by rw [Tryz.ntmps40]; rfl) (by rw [Tryz.ntmps40]; exact Nat.le_of_ble_eq_true rfl)
  with_reducible exact h2 h
/-! ### cordon/cordonref.SameInts -/
def cordonref_SameInts_A : Ann := { own := [], live := [(0, ([0, 1, 5], []))], n := 26, nils := [], pubs := [] }
def cordonref_SameInts_I0 (a0 : List Int) (a1 : List Int) (R : D → Prop) (n0 : Nat) (i1 : Int) : Prop := iter (den Tryz.prog Ev cordonref_SameInts_A (sub [1, 1, 0, 1, 0, 0] (bodyOf Tryz.f50)) 0) cordonref_SameInts_A (liveOf cordonref_SameInts_A 0) n0 ⟨[(0, .sl .int a0), (1, .sl .int a1), (5, .int .i64 i1)], []⟩ (blockK 0 (seqK Tryz.prog Ev cordonref_SameInts_A (sub [1, 1, 1] (bodyOf Tryz.f50)) 0 (endK Ev Tryz.f50.results.toList R)))
theorem cordonref_SameInts_I0_eq (a0 : List Int) (a1 : List Int) (R : D → Prop) (n0 : Nat) (i1 : Int) : cordonref_SameInts_I0 a0 a1 R (n0 + 1) i1 =
 (sel (decide (i1 < (a0.length : Int)))
 (inb i1 a0.length = true ∧
 inb i1 a1.length = true ∧
 sel (!decide ((at' .int a0 i1.toNat) = (at' .int a1 i1.toNat)))
 (R (.bool false))
 (cordonref_SameInts_I0 a0 a1 R n0 (w64 (i1 + 1))))
 (R (.bool true))) := by kernel_rfl
theorem cordonref_SameInts_eq (a0 : List Int) (a1 : List Int) (R : D → Prop) : fnD Tryz.prog Ev cordonref_SameInts_A Tryz.f50.results.toList (bodyOf Tryz.f50) [.sl .int a0, .sl .int a1] R =
 (sel (!decide ((a0.length : Int) = (a1.length : Int)))
 (R (.bool false))
 (∃ n0, cordonref_SameInts_I0 a0 a1 R n0 0)) := by kernel_rfl
theorem cordonref_SameInts_sat {r : D} (a0 : List Int) (a1 : List Int) (h : (∀ d ∈ [.sl .int a0, .sl .int a1], okD d) → fnD Tryz.prog Ev cordonref_SameInts_A Tryz.f50.results.toList (bodyOf Tryz.f50) [.sl .int a0, .sl .int a1] fun d => d = r) : Sat Tryz.prog f_cordonref_SameInts [.sl .int a0, .sl .int a1] r := by
  have h2 := sat_of (r := r) (args := [.sl .int a0, .sl .int a1]) (A := cordonref_SameInts_A) (fn := Tryz.f50) (body := bodyOf Tryz.f50) (f := f_cordonref_SameInts) factsEv Tryz.func50 (by kernel_rfl) (by rw [Tryz.ntmps50]; rfl) (by rw [Tryz.ntmps50]; exact Nat.le_of_ble_eq_true rfl)
  with_reducible exact h2 h
/-! ### cordon/cordonref.rightForm -/
def cordonref_rightForm_A : Ann := { own := [], live := [(1, ([1, 3, 4, 5, 6, 7], []))], n := 164, nils := [], pubs := [] }
def cordonref_rightForm_I1 (a0 : ConD) (R : D → Prop) (n1 : Nat) (v1 : Int) : Prop := iter (den Tryz.prog Ev cordonref_rightForm_A (sub [1, 1, 1, 0, 1, 0, 1, 1, 1, 1, 1, 1, 1, 0, 0, 1, 0, 0] (bodyOf Tryz.f65)) 1) cordonref_rightForm_A (liveOf cordonref_rightForm_A 1) n1 ⟨[(1, .iptr [.int .i64 a0.kind, .sl .int a0.vars, .sl .int a0.consts, .int .i64 a0.n, .sl (.list .int) a0.rows, .sl .lit a0.lits] 0), (3, .int .i64 (a0.vars.length : Int)), (4, .int .i64 (a0.consts.length : Int)), (5, .int .i64 (a0.rows.length : Int)), (6, .int .i64 (a0.lits.length : Int)), (7, .int .i64 v1)], []⟩ (blockK 1 (seqK Tryz.prog Ev cordonref_rightForm_A (sub [1, 1, 1, 0, 1, 0, 1, 1, 1, 1, 1, 1, 1, 0, 1] (bodyOf Tryz.f65)) 0 (blockK 0 (seqK Tryz.prog Ev cordonref_rightForm_A (sub [1, 1, 1, 1] (bodyOf Tryz.f65)) 0 (endK Ev Tryz.f65.results.toList R)))))
def cordonref_rightForm_I1_2 (a0 : ConD) (R : D → Prop) (n1_2 : Nat) (v2 : Int) : Prop := iter (den Tryz.prog Ev cordonref_rightForm_A (sub [1, 1, 1, 0, 1, 0, 1, 1, 1, 1, 1, 1, 1, 0, 0, 1, 0, 0] (bodyOf Tryz.f65)) 1) cordonref_rightForm_A (liveOf cordonref_rightForm_A 1) n1_2 ⟨[(1, .iptr [.int .i64 a0.kind, .sl .int a0.vars, .sl .int a0.consts, .int .i64 a0.n, .sl (.list .int) a0.rows, .sl .lit a0.lits] 0), (3, .int .i64 (a0.vars.length : Int)), (4, .int .i64 (a0.consts.length : Int)), (5, .int .i64 (a0.rows.length : Int)), (6, .int .i64 (a0.lits.length : Int)), (7, .int .i64 v2)], []⟩ (blockK 1 (seqK Tryz.prog Ev cordonref_rightForm_A (sub [1, 1, 1, 0, 1, 0, 1, 1, 1, 1, 1, 1, 1, 0, 1] (bodyOf Tryz.f65)) 0 (blockK 0 (seqK Tryz.prog Ev cordonref_rightForm_A (sub [1, 1, 1, 1] (bodyOf Tryz.f65)) 0 (endK Ev Tryz.f65.results.toList R)))))
theorem cordonref_rightForm_I1_eq (a0 : ConD) (R : D → Prop) (n1 : Nat) (v1 : Int) : cordonref_rightForm_I1 a0 R (n1 + 1) v1 =
 (sel (decide (v1 < (a0.rows.length : Int)))
 (inb v1 a0.rows.length = true ∧
 sel (!decide (((at' (.list .int) a0.rows v1.toNat).length : Int) = (a0.vars.length : Int)))
 (R (.bool false))
 (cordonref_rightForm_I1 a0 R n1 (w64 (v1 + 1))))
 (sel (decide (1 ≤ (a0.vars.length : Int)))
 (sel (decide ((a0.consts.length : Int) = 0))
 (R (.bool (decide ((a0.lits.length : Int) = 0))))
 (R (.bool false)))
 (R (.bool false)))) := by kernel_rfl
theorem cordonref_rightForm_eq (a0 : ConD) (R : D → Prop) : fnD Tryz.prog Ev cordonref_rightForm_A Tryz.f65.results.toList (bodyOf Tryz.f65) [.agg [.int .i64 a0.kind, .sl .int a0.vars, .sl .int a0.consts, .int .i64 a0.n, .sl (.list .int) a0.rows, .sl .lit a0.lits]] R =
 (sel (decide (3 < a0.kind))
 (sel (!decide (a0.n = 0))
 (R (.bool false))
 (sel (decide (a0.kind = 1))
 (sel (decide (1 ≤ (a0.vars.length : Int)))
 (sel (decide ((a0.consts.length : Int) = (a0.vars.length : Int)))
 (sel (decide ((a0.rows.length : Int) = 0))
 (R (.bool (decide ((a0.lits.length : Int) = 0))))
 (R (.bool false)))
 (R (.bool false)))
 (R (.bool false)))
 (sel (decide (a0.kind = 2))
 (sel (decide (1 ≤ (a0.vars.length : Int)))
 (sel (decide ((a0.consts.length : Int) = (a0.vars.length : Int)))
 (sel (decide ((a0.rows.length : Int) = 0))
 (R (.bool (decide ((a0.lits.length : Int) = 0))))
 (R (.bool false)))
 (R (.bool false)))
 (R (.bool false)))
 (sel (decide (a0.kind = 3))
 (sel (decide (1 ≤ (a0.vars.length : Int)))
 (sel (decide ((a0.consts.length : Int) = (a0.vars.length : Int)))
 (sel (decide ((a0.rows.length : Int) = 0))
 (R (.bool (decide ((a0.lits.length : Int) = 0))))
 (R (.bool false)))
 (R (.bool false)))
 (R (.bool false)))
 (sel (decide (a0.kind = 4))
 (sel (decide (1 ≤ (a0.vars.length : Int)))
 (sel (decide ((a0.consts.length : Int) = 0))
 (sel (decide ((a0.rows.length : Int) = 0))
 (R (.bool (decide ((a0.lits.length : Int) = 0))))
 (R (.bool false)))
 (R (.bool false)))
 (R (.bool false)))
 (sel (decide (a0.kind = 5))
 (sel (decide ((a0.vars.length : Int) = 2))
 (sel (decide (1 ≤ (a0.consts.length : Int)))
 (sel (decide ((a0.rows.length : Int) = 0))
 (R (.bool (decide ((a0.lits.length : Int) = 0))))
 (R (.bool false)))
 (R (.bool false)))
 (R (.bool false)))
 (sel (decide (a0.kind = 6))
 (∃ n1, cordonref_rightForm_I1 a0 R n1 0)
 (sel (decide (a0.kind = 7))
 (sel (decide ((a0.vars.length : Int) = 3))
 (sel (decide ((a0.consts.length : Int) = 0))
 (sel (decide ((a0.rows.length : Int) = 0))
 (R (.bool (decide ((a0.lits.length : Int) = 0))))
 (R (.bool false)))
 (R (.bool false)))
 (R (.bool false)))
 (sel (decide (a0.kind = 8))
 (sel (decide (2 ≤ (a0.vars.length : Int)))
 (sel (decide ((a0.consts.length : Int) = 0))
 (sel (decide ((a0.rows.length : Int) = 0))
 (R (.bool (decide ((a0.lits.length : Int) = 0))))
 (R (.bool false)))
 (R (.bool false)))
 (R (.bool false)))
 (sel (decide (a0.kind = 9))
 (sel (decide ((a0.vars.length : Int) = 0))
 (sel (decide ((a0.consts.length : Int) = 0))
 (R (.bool (decide ((a0.rows.length : Int) = 0))))
 (R (.bool false)))
 (R (.bool false)))
 (sel (decide ((a0.vars.length : Int) = 1))
 (sel (decide ((a0.consts.length : Int) = 0))
 (sel (decide ((a0.rows.length : Int) = 0))
 (R (.bool (decide ((a0.lits.length : Int) = 1))))
 (R (.bool false)))
 (R (.bool false)))
 (R (.bool false)))))))))))))
 (sel (decide (a0.kind = 1))
 (sel (decide (1 ≤ (a0.vars.length : Int)))
 (sel (decide ((a0.consts.length : Int) = (a0.vars.length : Int)))
 (sel (decide ((a0.rows.length : Int) = 0))
 (R (.bool (decide ((a0.lits.length : Int) = 0))))
 (R (.bool false)))
 (R (.bool false)))
 (R (.bool false)))
 (sel (decide (a0.kind = 2))
 (sel (decide (1 ≤ (a0.vars.length : Int)))
 (sel (decide ((a0.consts.length : Int) = (a0.vars.length : Int)))
 (sel (decide ((a0.rows.length : Int) = 0))
 (R (.bool (decide ((a0.lits.length : Int) = 0))))
 (R (.bool false)))
 (R (.bool false)))
 (R (.bool false)))
 (sel (decide (a0.kind = 3))
 (sel (decide (1 ≤ (a0.vars.length : Int)))
 (sel (decide ((a0.consts.length : Int) = (a0.vars.length : Int)))
 (sel (decide ((a0.rows.length : Int) = 0))
 (R (.bool (decide ((a0.lits.length : Int) = 0))))
 (R (.bool false)))
 (R (.bool false)))
 (R (.bool false)))
 (sel (decide (a0.kind = 4))
 (sel (decide (1 ≤ (a0.vars.length : Int)))
 (sel (decide ((a0.consts.length : Int) = 0))
 (sel (decide ((a0.rows.length : Int) = 0))
 (R (.bool (decide ((a0.lits.length : Int) = 0))))
 (R (.bool false)))
 (R (.bool false)))
 (R (.bool false)))
 (sel (decide (a0.kind = 5))
 (sel (decide ((a0.vars.length : Int) = 2))
 (sel (decide (1 ≤ (a0.consts.length : Int)))
 (sel (decide ((a0.rows.length : Int) = 0))
 (R (.bool (decide ((a0.lits.length : Int) = 0))))
 (R (.bool false)))
 (R (.bool false)))
 (R (.bool false)))
 (sel (decide (a0.kind = 6))
 (∃ n1_2, cordonref_rightForm_I1_2 a0 R n1_2 0)
 (sel (decide (a0.kind = 7))
 (sel (decide ((a0.vars.length : Int) = 3))
 (sel (decide ((a0.consts.length : Int) = 0))
 (sel (decide ((a0.rows.length : Int) = 0))
 (R (.bool (decide ((a0.lits.length : Int) = 0))))
 (R (.bool false)))
 (R (.bool false)))
 (R (.bool false)))
 (sel (decide (a0.kind = 8))
 (sel (decide (2 ≤ (a0.vars.length : Int)))
 (sel (decide ((a0.consts.length : Int) = 0))
 (sel (decide ((a0.rows.length : Int) = 0))
 (R (.bool (decide ((a0.lits.length : Int) = 0))))
 (R (.bool false)))
 (R (.bool false)))
 (R (.bool false)))
 (sel (decide (a0.kind = 9))
 (sel (decide ((a0.vars.length : Int) = 0))
 (sel (decide ((a0.consts.length : Int) = 0))
 (R (.bool (decide ((a0.rows.length : Int) = 0))))
 (R (.bool false)))
 (R (.bool false)))
 (sel (decide ((a0.vars.length : Int) = 1))
 (sel (decide ((a0.consts.length : Int) = 0))
 (sel (decide ((a0.rows.length : Int) = 0))
 (R (.bool (decide ((a0.lits.length : Int) = 1))))
 (R (.bool false)))
 (R (.bool false)))
 (R (.bool false))))))))))))) := by kernel_rfl
theorem cordonref_rightForm_sat {r : D} (a0 : ConD) (h : (∀ d ∈ [.agg [.int .i64 a0.kind, .sl .int a0.vars, .sl .int a0.consts, .int .i64 a0.n, .sl (.list .int) a0.rows, .sl .lit a0.lits]], okD d) → fnD Tryz.prog Ev cordonref_rightForm_A Tryz.f65.results.toList (bodyOf Tryz.f65) [.agg [.int .i64 a0.kind, .sl .int a0.vars, .sl .int a0.consts, .int .i64 a0.n, .sl (.list .int) a0.rows, .sl .lit a0.lits]] fun d => d = r) : Sat Tryz.prog f_cordonref_rightForm [.agg [.int .i64 a0.kind, .sl .int a0.vars, .sl .int a0.consts, .int .i64 a0.n, .sl (.list .int) a0.rows, .sl .lit a0.lits]] r := by
  have h2 := sat_of (r := r) (args := [.agg [.int .i64 a0.kind, .sl .int a0.vars, .sl .int a0.consts, .int .i64 a0.n, .sl (.list .int) a0.rows, .sl .lit a0.lits]]) (A := cordonref_rightForm_A) (fn := Tryz.f65) (body := bodyOf Tryz.f65) (f := f_cordonref_rightForm) factsEv Tryz.func65 (by kernel_rfl) (by rw [Tryz.ntmps65]; rfl) (by rw [Tryz.ntmps65]; exact Nat.le_of_ble_eq_true rfl)
  with_reducible exact h2 h
/-! ### cordon/cordonref.inConst -/
def cordonref_inConst_A : Ann := { own := [], live := [], n := 5, nils := [], pubs := [] }
theorem cordonref_inConst_eq (a0 : Int) (R : D → Prop) : fnD Tryz.prog Ev cordonref_inConst_A Tryz.f66.results.toList (bodyOf Tryz.f66) [.int .i64 a0] R =
 (Call1 Tryz.prog f_cordonref_between [.int .i64 a0, .int .i64 (-1000), .int .i64 1000] .bool fun c1 =>
 R (.bool c1)) := by kernel_rfl
theorem cordonref_inConst_sat {r : D} (a0 : Int) (h : (∀ d ∈ [.int .i64 a0], okD d) → fnD Tryz.prog Ev cordonref_inConst_A Tryz.f66.results.toList (bodyOf Tryz.f66) [.int .i64 a0] fun d => d = r) : Sat Tryz.prog f_cordonref_inConst [.int .i64 a0] r := by
  have h2 := sat_of (r := r) (args := [.int .i64 a0]) (A := cordonref_inConst_A) (fn := Tryz.f66) (body := bodyOf Tryz.f66) (f := f_cordonref_inConst) factsEv Tryz.func66 (by kernel_rfl) (by rw [Tryz.ntmps66]; rfl) (by rw [Tryz.ntmps66]; exact Nat.le_of_ble_eq_true rfl)
  with_reducible exact h2 h
end Go.Proofs.YtonkbljpcgadlaaGreat
