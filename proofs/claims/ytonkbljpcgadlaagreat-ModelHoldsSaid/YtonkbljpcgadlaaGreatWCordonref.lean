/- What the functions of a package do, as equations of plain propositions: printed by a program that carries the code out on symbols. -/
import Derived.Test.YtonkbljpcgadlaaGreatWEv
namespace Go.Proofs.YtonkbljpcgadlaaGreat
open Go.RowKit
set_option linter.unusedVariables false
set_option maxRecDepth 100000
/-! ### cordon/cordonref.CheckModel -/
def cordonref_CheckModel_A : Ann := { own := [5], live := [(0, ([1, 3, 4], [])), (2, ([1, 3, 4, 5, 6], [5])), (4, ([1, 3, 7], []))], n := 114, nils := [], pubs := [] }
def cordonref_CheckModel_I2 (a0 : MdlD) (R : D → Prop) (n0 : Nat) (v1 : Int) (n2 : Nat) (v3 : Int) : Prop := iter (den Tryz.prog Ev cordonref_CheckModel_A (sub [1, 1, 1, 1, 0, 1, 0, 0, 1, 0, 0, 1, 1, 0, 1, 0, 0] (bodyOf Tryz.f8)) 2) cordonref_CheckModel_A (liveOf cordonref_CheckModel_A 2) n2 ⟨[(1, .iptr [.sl .var a0.vars, .sl .con a0.cons, .int .i64 a0.goal, .int .i64 a0.var] 0), (3, .int .i64 (a0.vars.length : Int)), (4, .int .i64 v1), (5, .ptr 5 0), (6, .int .i64 v3)], [(5, .cells [.str ((at' .var a0.vars v1.toNat).name), .int .i64 ((at' .var a0.vars v1.toNat).lo), .int .i64 ((at' .var a0.vars v1.toNat).hi)])]⟩ (blockK 2 (seqK Tryz.prog Ev cordonref_CheckModel_A (sub [1, 1, 1, 1, 0, 1, 0, 0, 1, 0, 0, 1, 1, 1] (bodyOf Tryz.f8)) 1 (blockK 1 (seqK Tryz.prog Ev cordonref_CheckModel_A (sub [1, 1, 1, 1, 0, 1, 0, 0, 1, 1] (bodyOf Tryz.f8)) 0 (iterK (den Tryz.prog Ev cordonref_CheckModel_A (sub [1, 1, 1, 1, 0, 1, 0, 0] (bodyOf Tryz.f8)) 0) cordonref_CheckModel_A (liveOf cordonref_CheckModel_A 0) n0 (blockK 0 (seqK Tryz.prog Ev cordonref_CheckModel_A (sub [1, 1, 1, 1, 1] (bodyOf Tryz.f8)) 0 (endK Ev Tryz.f8.results.toList R))))))))
def cordonref_CheckModel_I4 (a0 : MdlD) (R : D → Prop) (n4 : Nat) (v6 : Int) : Prop := iter (den Tryz.prog Ev cordonref_CheckModel_A (sub [1, 1, 1, 1, 1, 0, 1, 0, 0] (bodyOf Tryz.f8)) 4) cordonref_CheckModel_A (liveOf cordonref_CheckModel_A 4) n4 ⟨[(1, .iptr [.sl .var a0.vars, .sl .con a0.cons, .int .i64 a0.goal, .int .i64 a0.var] 0), (3, .int .i64 (a0.vars.length : Int)), (7, .int .i64 v6)], []⟩ (blockK 4 (seqK Tryz.prog Ev cordonref_CheckModel_A (sub [1, 1, 1, 1, 1, 1] (bodyOf Tryz.f8)) 0 (endK Ev Tryz.f8.results.toList R)))
def cordonref_CheckModel_I0 (a0 : MdlD) (R : D → Prop) (n0 : Nat) (v1 : Int) : Prop := iter (den Tryz.prog Ev cordonref_CheckModel_A (sub [1, 1, 1, 1, 0, 1, 0, 0] (bodyOf Tryz.f8)) 0) cordonref_CheckModel_A (liveOf cordonref_CheckModel_A 0) n0 ⟨[(1, .iptr [.sl .var a0.vars, .sl .con a0.cons, .int .i64 a0.goal, .int .i64 a0.var] 0), (3, .int .i64 (a0.vars.length : Int)), (4, .int .i64 v1)], []⟩ (blockK 0 (seqK Tryz.prog Ev cordonref_CheckModel_A (sub [1, 1, 1, 1, 1] (bodyOf Tryz.f8)) 0 (endK Ev Tryz.f8.results.toList R)))
theorem cordonref_CheckModel_I2_eq (a0 : MdlD) (R : D → Prop) (n0 : Nat) (v1 : Int) (n2 : Nat) (v3 : Int) : cordonref_CheckModel_I2 a0 R n0 v1 (n2 + 1) v3 =
 (sel (decide (v3 < v1))
 (inb v3 a0.vars.length = true ∧
 sel (decide (((at' .var a0.vars v3.toNat).name) = ((at' .var a0.vars v1.toNat).name)))
 (R (.int .i64 6))
 (cordonref_CheckModel_I2 a0 R n0 v1 n2 (w64 (v3 + 1))))
 (Call1 Tryz.prog f_cordonref_between [.int .i64 ((at' .var a0.vars v1.toNat).lo), .int .i64 (-50), .int .i64 50] .bool fun c4 =>
 sel (!c4)
 (R (.int .i64 3))
 (Call1 Tryz.prog f_cordonref_between [.int .i64 ((at' .var a0.vars v1.toNat).hi), .int .i64 (-50), .int .i64 50] .bool fun c5 =>
 sel (!c5)
 (R (.int .i64 3))
 (sel (decide (((at' .var a0.vars v1.toNat).hi) < ((at' .var a0.vars v1.toNat).lo)))
 (R (.int .i64 3))
 (sel (decide (6 < (w64 ((w64 (((at' .var a0.vars v1.toNat).hi) - ((at' .var a0.vars v1.toNat).lo))) + 1))))
 (R (.int .i64 2))
 (cordonref_CheckModel_I0 a0 R n0 (w64 (v1 + 1)))))))) := by kernel_rfl
theorem cordonref_CheckModel_I4_eq (a0 : MdlD) (R : D → Prop) (n4 : Nat) (v6 : Int) : cordonref_CheckModel_I4 a0 R (n4 + 1) v6 =
 (sel (decide (v6 < (a0.cons.length : Int)))
 (inb v6 a0.cons.length = true ∧
 Call1 Tryz.prog f_cordonref_checkCon [.agg [.sl .var a0.vars, .sl .con a0.cons, .int .i64 a0.goal, .int .i64 a0.var], .agg [.int .i64 ((at' .con a0.cons v6.toNat).kind), .sl .int ((at' .con a0.cons v6.toNat).vars), .sl .int ((at' .con a0.cons v6.toNat).consts), .int .i64 ((at' .con a0.cons v6.toNat).n), .sl (.list .int) ((at' .con a0.cons v6.toNat).rows), .sl .lit ((at' .con a0.cons v6.toNat).lits)]] .int fun c7 =>
 sel (!decide (c7 = 0))
 (R (.int .i64 c7))
 (cordonref_CheckModel_I4 a0 R n4 (w64 (v6 + 1))))
 (Call1 Tryz.prog f_cordonref_between [.int .i64 a0.goal, .int .i64 0, .int .i64 2] .bool fun c8 =>
 sel (!c8)
 (R (.int .i64 7))
 (sel (decide (a0.goal = 0))
 (sel (!decide (a0.var = 0))
 (R (.int .i64 1))
 (sel (!decide (a0.goal = 0))
 (Call1 Tryz.prog f_cordonref_between [.int .i64 a0.var, .int .i64 0, .int .i64 (w64 ((a0.vars.length : Int) - 1))] .bool fun c9 =>
 sel (!c9)
 (R (.int .i64 5))
 (R (.int .i64 0)))
 (R (.int .i64 0))))
 (sel (!decide (a0.goal = 0))
 (Call1 Tryz.prog f_cordonref_between [.int .i64 a0.var, .int .i64 0, .int .i64 (w64 ((a0.vars.length : Int) - 1))] .bool fun c10 =>
 sel (!c10)
 (R (.int .i64 5))
 (R (.int .i64 0)))
 (R (.int .i64 0)))))) := by kernel_rfl
theorem cordonref_CheckModel_I0_eq (a0 : MdlD) (R : D → Prop) (n0 : Nat) (v1 : Int) : cordonref_CheckModel_I0 a0 R (n0 + 1) v1 =
 (sel (decide (v1 < (a0.vars.length : Int)))
 (inb v1 a0.vars.length = true ∧
 Call1 Tryz.prog f_cordonref_IsName [.str ((at' .var a0.vars v1.toNat).name)] .bool fun c2 =>
 sel (!c2)
 (R (.int .i64 1))
 (∃ n2, cordonref_CheckModel_I2 a0 R n0 v1 n2 0))
 (∃ n4, cordonref_CheckModel_I4 a0 R n4 0)) := by kernel_rfl
theorem cordonref_CheckModel_eq (a0 : MdlD) (R : D → Prop) : fnD Tryz.prog Ev cordonref_CheckModel_A Tryz.f8.results.toList (bodyOf Tryz.f8) [.agg [.sl .var a0.vars, .sl .con a0.cons, .int .i64 a0.goal, .int .i64 a0.var]] R =
 (sel (decide ((a0.vars.length : Int) = 0))
 (R (.int .i64 1))
 (sel (decide (6 < (a0.vars.length : Int)))
 (R (.int .i64 2))
 (sel (decide (8 < (a0.cons.length : Int)))
 (R (.int .i64 2))
 (∃ n0, cordonref_CheckModel_I0 a0 R n0 0)))) := by kernel_rfl
theorem cordonref_CheckModel_sat {r : D} (a0 : MdlD) (h : (∀ d ∈ [.agg [.sl .var a0.vars, .sl .con a0.cons, .int .i64 a0.goal, .int .i64 a0.var]], okD d) → fnD Tryz.prog Ev cordonref_CheckModel_A Tryz.f8.results.toList (bodyOf Tryz.f8) [.agg [.sl .var a0.vars, .sl .con a0.cons, .int .i64 a0.goal, .int .i64 a0.var]] fun d => d = r) : Sat Tryz.prog f_cordonref_CheckModel [.agg [.sl .var a0.vars, .sl .con a0.cons, .int .i64 a0.goal, .int .i64 a0.var]] r := by
  have h2 := sat_of (r := r) (args := [.agg [.sl .var a0.vars, .sl .con a0.cons, .int .i64 a0.goal, .int .i64 a0.var]]) (A := cordonref_CheckModel_A) (fn := Tryz.f8) (body := bodyOf Tryz.f8) (f := f_cordonref_CheckModel) factsEv Tryz.func8 (by kernel_rfl) (by rw [Tryz.ntmps8]; rfl) (by rw [Tryz.ntmps8]; exact Nat.le_of_ble_eq_true rfl)
  with_reducible exact h2 h
/-! ### cordon/cordonref.ConHolds -/
def cordonref_ConHolds_A : Ann := { own := [5, 33], live := [(0, ([1, 2, 5, 6], [5])), (2, ([1, 2, 5, 7, 8], [5])), (5, ([5, 9], [5])), (7, ([5, 9, 10], [5])), (9, ([2, 5, 11], [5])), (11, ([2, 5, 12], [5])), (13, ([5, 13, 14], [5])), (15, ([1, 2, 15], []))], n := 222, nils := [], pubs := [] }
def cordonref_ConHolds_I5 (R : D → Prop) (l2 : List Int) (n5 : Nat) (v5 : Int) : Prop := iter (den Tryz.prog Ev cordonref_ConHolds_A (sub [1, 1, 1, 1, 1, 0, 1, 0, 1, 1, 1, 1, 1, 1, 1, 0, 0, 1, 0, 0] (bodyOf Tryz.f21)) 5) cordonref_ConHolds_A (liveOf cordonref_ConHolds_A 5) n5 ⟨[(5, .own 5), (9, .int .i64 v5)], [(5, .row 3 .int l2)]⟩ (blockK 5 (seqK Tryz.prog Ev cordonref_ConHolds_A (sub [1, 1, 1, 1, 1, 0, 1, 0, 1, 1, 1, 1, 1, 1, 1, 0, 1] (bodyOf Tryz.f21)) 4 (blockK 4 (seqK Tryz.prog Ev cordonref_ConHolds_A (sub [1, 1, 1, 1, 1, 1] (bodyOf Tryz.f21)) 0 (endK Ev Tryz.f21.results.toList R)))))
def cordonref_ConHolds_I9 (a0 : ConD) (R : D → Prop) (l2 : List Int) (n9 : Nat) (v7 : Int) : Prop := iter (den Tryz.prog Ev cordonref_ConHolds_A (sub [1, 1, 1, 1, 1, 0, 1, 0, 1, 1, 1, 1, 1, 1, 1, 1, 1, 0, 0, 1, 0, 0] (bodyOf Tryz.f21)) 9) cordonref_ConHolds_A (liveOf cordonref_ConHolds_A 9) n9 ⟨[(2, .iptr [.int .i64 a0.kind, .sl .int a0.vars, .sl .int a0.consts, .int .i64 a0.n, .sl (.list .int) a0.rows, .sl .lit a0.lits] 0), (5, .own 5), (11, .int .i64 v7)], [(5, .row 3 .int l2)]⟩ (blockK 9 (seqK Tryz.prog Ev cordonref_ConHolds_A (sub [1, 1, 1, 1, 1, 0, 1, 0, 1, 1, 1, 1, 1, 1, 1, 1, 1, 0, 1] (bodyOf Tryz.f21)) 4 (blockK 4 (seqK Tryz.prog Ev cordonref_ConHolds_A (sub [1, 1, 1, 1, 1, 1] (bodyOf Tryz.f21)) 0 (endK Ev Tryz.f21.results.toList R)))))
def cordonref_ConHolds_I11 (a0 : ConD) (R : D → Prop) (l2 : List Int) (n11 : Nat) (v8 : Int) : Prop := iter (den Tryz.prog Ev cordonref_ConHolds_A (sub [1, 1, 1, 1, 1, 0, 1, 0, 1, 1, 1, 1, 1, 1, 1, 1, 1, 1, 1, 0, 0, 1, 0, 0] (bodyOf Tryz.f21)) 11) cordonref_ConHolds_A (liveOf cordonref_ConHolds_A 11) n11 ⟨[(2, .iptr [.int .i64 a0.kind, .sl .int a0.vars, .sl .int a0.consts, .int .i64 a0.n, .sl (.list .int) a0.rows, .sl .lit a0.lits] 0), (5, .own 5), (12, .int .i64 v8)], [(5, .row 3 .int l2)]⟩ (blockK 11 (seqK Tryz.prog Ev cordonref_ConHolds_A (sub [1, 1, 1, 1, 1, 0, 1, 0, 1, 1, 1, 1, 1, 1, 1, 1, 1, 1, 1, 0, 1] (bodyOf Tryz.f21)) 4 (blockK 4 (seqK Tryz.prog Ev cordonref_ConHolds_A (sub [1, 1, 1, 1, 1, 1] (bodyOf Tryz.f21)) 0 (endK Ev Tryz.f21.results.toList R)))))
def cordonref_ConHolds_I13 (R : D → Prop) (l2 : List Int) (n13 : Nat) (v10 : Bool) (v11 : Int) : Prop := iter (den Tryz.prog Ev cordonref_ConHolds_A (sub [1, 1, 1, 1, 1, 0, 1, 0, 1, 1, 1, 1, 1, 1, 1, 1, 1, 1, 1, 1, 1, 1, 1, 0, 1, 0, 1, 0, 0] (bodyOf Tryz.f21)) 13) cordonref_ConHolds_A (liveOf cordonref_ConHolds_A 13) n13 ⟨[(5, .own 5), (13, .bool v10), (14, .int .i64 v11)], [(5, .row 3 .int l2)]⟩ (blockK 13 (seqK Tryz.prog Ev cordonref_ConHolds_A (sub [1, 1, 1, 1, 1, 0, 1, 0, 1, 1, 1, 1, 1, 1, 1, 1, 1, 1, 1, 1, 1, 1, 1, 0, 1, 1] (bodyOf Tryz.f21)) 4 (blockK 4 (seqK Tryz.prog Ev cordonref_ConHolds_A (sub [1, 1, 1, 1, 1, 1] (bodyOf Tryz.f21)) 0 (endK Ev Tryz.f21.results.toList R)))))
def cordonref_ConHolds_I15 (a0 : ConD) (a1 : List Int) (R : D → Prop) (n15 : Nat) (v12 : Int) : Prop := iter (den Tryz.prog Ev cordonref_ConHolds_A (sub [1, 1, 1, 1, 1, 0, 1, 0, 1, 1, 1, 1, 1, 1, 1, 1, 1, 1, 1, 1, 1, 1, 1, 1, 1, 0, 0, 1, 0, 0] (bodyOf Tryz.f21)) 15) cordonref_ConHolds_A (liveOf cordonref_ConHolds_A 15) n15 ⟨[(1, .sl .int a1), (2, .iptr [.int .i64 a0.kind, .sl .int a0.vars, .sl .int a0.consts, .int .i64 a0.n, .sl (.list .int) a0.rows, .sl .lit a0.lits] 0), (15, .int .i64 v12)], []⟩ (blockK 15 (seqK Tryz.prog Ev cordonref_ConHolds_A (sub [1, 1, 1, 1, 1, 0, 1, 0, 1, 1, 1, 1, 1, 1, 1, 1, 1, 1, 1, 1, 1, 1, 1, 1, 1, 0, 1] (bodyOf Tryz.f21)) 4 (blockK 4 (seqK Tryz.prog Ev cordonref_ConHolds_A (sub [1, 1, 1, 1, 1, 1] (bodyOf Tryz.f21)) 0 (endK Ev Tryz.f21.results.toList R)))))
def cordonref_ConHolds_I2 (a0 : ConD) (a1 : List Int) (R : D → Prop) (l2 : List Int) (n2 : Nat) (v3 : Int) (v4 : Int) : Prop := iter (den Tryz.prog Ev cordonref_ConHolds_A (sub [1, 1, 1, 1, 0, 1, 0, 1, 0, 0] (bodyOf Tryz.f21)) 2) cordonref_ConHolds_A (liveOf cordonref_ConHolds_A 2) n2 ⟨[(1, .sl .int a1), (2, .iptr [.int .i64 a0.kind, .sl .int a0.vars, .sl .int a0.consts, .int .i64 a0.n, .sl (.list .int) a0.rows, .sl .lit a0.lits] 0), (5, .own 5), (7, .int .i64 v3), (8, .int .i64 v4)], [(5, .row 3 .int l2)]⟩ (blockK 2 (seqK Tryz.prog Ev cordonref_ConHolds_A (sub [1, 1, 1, 1, 1] (bodyOf Tryz.f21)) 0 (endK Ev Tryz.f21.results.toList R)))
def cordonref_ConHolds_I7_2 (R : D → Prop) (l2 : List Int) (n5_2 : Nat) (v15 : Int) (n7_2 : Nat) (v16 : Int) : Prop := iter (den Tryz.prog Ev cordonref_ConHolds_A (sub [1, 1, 1, 1, 1, 0, 1, 0, 1, 1, 1, 1, 1, 1, 1, 0, 0, 1, 0, 0, 1, 0, 0, 1, 0, 0] (bodyOf Tryz.f21)) 7) cordonref_ConHolds_A (liveOf cordonref_ConHolds_A 7) n7_2 ⟨[(5, .own 5), (9, .int .i64 v15), (10, .int .i64 v16)], [(5, .row 3 .int l2)]⟩ (blockK 7 (blockK 6 (seqK Tryz.prog Ev cordonref_ConHolds_A (sub [1, 1, 1, 1, 1, 0, 1, 0, 1, 1, 1, 1, 1, 1, 1, 0, 0, 1, 0, 0, 1, 1] (bodyOf Tryz.f21)) 5 (iterK (den Tryz.prog Ev cordonref_ConHolds_A (sub [1, 1, 1, 1, 1, 0, 1, 0, 1, 1, 1, 1, 1, 1, 1, 0, 0, 1, 0, 0] (bodyOf Tryz.f21)) 5) cordonref_ConHolds_A (liveOf cordonref_ConHolds_A 5) n5_2 (blockK 5 (seqK Tryz.prog Ev cordonref_ConHolds_A (sub [1, 1, 1, 1, 1, 0, 1, 0, 1, 1, 1, 1, 1, 1, 1, 0, 1] (bodyOf Tryz.f21)) 4 (blockK 4 (seqK Tryz.prog Ev cordonref_ConHolds_A (sub [1, 1, 1, 1, 1, 1] (bodyOf Tryz.f21)) 0 (endK Ev Tryz.f21.results.toList R)))))))))
def cordonref_ConHolds_I5_2 (R : D → Prop) (l2 : List Int) (n5_2 : Nat) (v15 : Int) : Prop := iter (den Tryz.prog Ev cordonref_ConHolds_A (sub [1, 1, 1, 1, 1, 0, 1, 0, 1, 1, 1, 1, 1, 1, 1, 0, 0, 1, 0, 0] (bodyOf Tryz.f21)) 5) cordonref_ConHolds_A (liveOf cordonref_ConHolds_A 5) n5_2 ⟨[(5, .own 5), (9, .int .i64 v15)], [(5, .row 3 .int l2)]⟩ (blockK 5 (seqK Tryz.prog Ev cordonref_ConHolds_A (sub [1, 1, 1, 1, 1, 0, 1, 0, 1, 1, 1, 1, 1, 1, 1, 0, 1] (bodyOf Tryz.f21)) 4 (blockK 4 (seqK Tryz.prog Ev cordonref_ConHolds_A (sub [1, 1, 1, 1, 1, 1] (bodyOf Tryz.f21)) 0 (endK Ev Tryz.f21.results.toList R)))))
def cordonref_ConHolds_I9_2 (a0 : ConD) (R : D → Prop) (l2 : List Int) (n9_2 : Nat) (v17 : Int) : Prop := iter (den Tryz.prog Ev cordonref_ConHolds_A (sub [1, 1, 1, 1, 1, 0, 1, 0, 1, 1, 1, 1, 1, 1, 1, 1, 1, 0, 0, 1, 0, 0] (bodyOf Tryz.f21)) 9) cordonref_ConHolds_A (liveOf cordonref_ConHolds_A 9) n9_2 ⟨[(2, .iptr [.int .i64 a0.kind, .sl .int a0.vars, .sl .int a0.consts, .int .i64 a0.n, .sl (.list .int) a0.rows, .sl .lit a0.lits] 0), (5, .own 5), (11, .int .i64 v17)], [(5, .row 3 .int l2)]⟩ (blockK 9 (seqK Tryz.prog Ev cordonref_ConHolds_A (sub [1, 1, 1, 1, 1, 0, 1, 0, 1, 1, 1, 1, 1, 1, 1, 1, 1, 0, 1] (bodyOf Tryz.f21)) 4 (blockK 4 (seqK Tryz.prog Ev cordonref_ConHolds_A (sub [1, 1, 1, 1, 1, 1] (bodyOf Tryz.f21)) 0 (endK Ev Tryz.f21.results.toList R)))))
def cordonref_ConHolds_I11_2 (a0 : ConD) (R : D → Prop) (l2 : List Int) (n11_2 : Nat) (v18 : Int) : Prop := iter (den Tryz.prog Ev cordonref_ConHolds_A (sub [1, 1, 1, 1, 1, 0, 1, 0, 1, 1, 1, 1, 1, 1, 1, 1, 1, 1, 1, 0, 0, 1, 0, 0] (bodyOf Tryz.f21)) 11) cordonref_ConHolds_A (liveOf cordonref_ConHolds_A 11) n11_2 ⟨[(2, .iptr [.int .i64 a0.kind, .sl .int a0.vars, .sl .int a0.consts, .int .i64 a0.n, .sl (.list .int) a0.rows, .sl .lit a0.lits] 0), (5, .own 5), (12, .int .i64 v18)], [(5, .row 3 .int l2)]⟩ (blockK 11 (seqK Tryz.prog Ev cordonref_ConHolds_A (sub [1, 1, 1, 1, 1, 0, 1, 0, 1, 1, 1, 1, 1, 1, 1, 1, 1, 1, 1, 0, 1] (bodyOf Tryz.f21)) 4 (blockK 4 (seqK Tryz.prog Ev cordonref_ConHolds_A (sub [1, 1, 1, 1, 1, 1] (bodyOf Tryz.f21)) 0 (endK Ev Tryz.f21.results.toList R)))))
def cordonref_ConHolds_I13_2 (R : D → Prop) (l2 : List Int) (n13_2 : Nat) (v20 : Bool) (v21 : Int) : Prop := iter (den Tryz.prog Ev cordonref_ConHolds_A (sub [1, 1, 1, 1, 1, 0, 1, 0, 1, 1, 1, 1, 1, 1, 1, 1, 1, 1, 1, 1, 1, 1, 1, 0, 1, 0, 1, 0, 0] (bodyOf Tryz.f21)) 13) cordonref_ConHolds_A (liveOf cordonref_ConHolds_A 13) n13_2 ⟨[(5, .own 5), (13, .bool v20), (14, .int .i64 v21)], [(5, .row 3 .int l2)]⟩ (blockK 13 (seqK Tryz.prog Ev cordonref_ConHolds_A (sub [1, 1, 1, 1, 1, 0, 1, 0, 1, 1, 1, 1, 1, 1, 1, 1, 1, 1, 1, 1, 1, 1, 1, 0, 1, 1] (bodyOf Tryz.f21)) 4 (blockK 4 (seqK Tryz.prog Ev cordonref_ConHolds_A (sub [1, 1, 1, 1, 1, 1] (bodyOf Tryz.f21)) 0 (endK Ev Tryz.f21.results.toList R)))))
def cordonref_ConHolds_I15_2 (a0 : ConD) (a1 : List Int) (R : D → Prop) (n15_2 : Nat) (v22 : Int) : Prop := iter (den Tryz.prog Ev cordonref_ConHolds_A (sub [1, 1, 1, 1, 1, 0, 1, 0, 1, 1, 1, 1, 1, 1, 1, 1, 1, 1, 1, 1, 1, 1, 1, 1, 1, 0, 0, 1, 0, 0] (bodyOf Tryz.f21)) 15) cordonref_ConHolds_A (liveOf cordonref_ConHolds_A 15) n15_2 ⟨[(1, .sl .int a1), (2, .iptr [.int .i64 a0.kind, .sl .int a0.vars, .sl .int a0.consts, .int .i64 a0.n, .sl (.list .int) a0.rows, .sl .lit a0.lits] 0), (15, .int .i64 v22)], []⟩ (blockK 15 (seqK Tryz.prog Ev cordonref_ConHolds_A (sub [1, 1, 1, 1, 1, 0, 1, 0, 1, 1, 1, 1, 1, 1, 1, 1, 1, 1, 1, 1, 1, 1, 1, 1, 1, 0, 1] (bodyOf Tryz.f21)) 4 (blockK 4 (seqK Tryz.prog Ev cordonref_ConHolds_A (sub [1, 1, 1, 1, 1, 1] (bodyOf Tryz.f21)) 0 (endK Ev Tryz.f21.results.toList R)))))
def cordonref_ConHolds_I0 (a0 : ConD) (a1 : List Int) (R : D → Prop) (n0 : Nat) (v1 : Int) (l2 : List Int) : Prop := iter (den Tryz.prog Ev cordonref_ConHolds_A (sub [1, 1, 0, 1, 0, 0] (bodyOf Tryz.f21)) 0) cordonref_ConHolds_A (liveOf cordonref_ConHolds_A 0) n0 ⟨[(1, .sl .int a1), (2, .iptr [.int .i64 a0.kind, .sl .int a0.vars, .sl .int a0.consts, .int .i64 a0.n, .sl (.list .int) a0.rows, .sl .lit a0.lits] 0), (5, .own 5), (6, .int .i64 v1)], [(5, .row 3 .int l2)]⟩ (blockK 0 (seqK Tryz.prog Ev cordonref_ConHolds_A (sub [1, 1, 1] (bodyOf Tryz.f21)) 0 (endK Ev Tryz.f21.results.toList R)))
theorem cordonref_ConHolds_I2_eq (a0 : ConD) (a1 : List Int) (R : D → Prop) (l2 : List Int) (n2 : Nat) (v3 : Int) (v4 : Int) : cordonref_ConHolds_I2 a0 a1 R l2 (n2 + 1) v3 v4 =
 (sel (decide (v4 < (l2.length : Int)))
 (inb v4 l2.length = true ∧
 inb v4 a0.consts.length = true ∧
 cordonref_ConHolds_I2 a0 a1 R l2 n2 (w64 (v3 + (w64 ((at' .int l2 v4.toNat) * (at' .int a0.consts v4.toNat))))) (w64 (v4 + 1)))
 (sel (decide (a0.kind = 1))
 (R (.bool (decide (v3 ≤ a0.n))))
 (sel (decide (a0.kind = 2))
 (R (.bool (decide (v3 = a0.n))))
 (sel (decide (a0.kind = 3))
 (R (.bool (!decide (v3 = a0.n))))
 (sel (decide (a0.kind = 4))
 (∃ n5, cordonref_ConHolds_I5 R l2 n5 0)
 (sel (decide (a0.kind = 5))
 (∃ n9, cordonref_ConHolds_I9 a0 R l2 n9 0)
 (sel (decide (a0.kind = 6))
 (∃ n11, cordonref_ConHolds_I11 a0 R l2 n11 0)
 (sel (decide (a0.kind = 7))
 (inb 0 l2.length = true ∧
 inb 1 l2.length = true ∧
 inb 2 l2.length = true ∧
 R (.bool (decide ((w64 ((at' .int l2 0) * (at' .int l2 1))) = (at' .int l2 2)))))
 (sel (decide (a0.kind = 8))
 (∃ n13, cordonref_ConHolds_I13 R l2 n13 false 1)
 (sel (decide (a0.kind = 9))
 (∃ n15, cordonref_ConHolds_I15 a0 a1 R n15 0)
 (inb 0 a0.lits.length = true ∧
 inb 0 a0.lits.length = true ∧
 inb ((at' .lit a0.lits 0).var) a1.length = true ∧
 Call1 Tryz.prog f_cordonref_LitHolds [.agg [.int .i64 ((at' .lit a0.lits 0).var), .int .i64 ((at' .lit a0.lits 0).op), .int .i64 ((at' .lit a0.lits 0).n)], .int .i64 (at' .int a1 (((at' .lit a0.lits 0).var).toNat))] .bool fun c14 =>
 sel c14
 (inb 0 l2.length = true ∧
 R (.bool (decide ((at' .int l2 0) = 1))))
 (inb 0 l2.length = true ∧
 R (.bool (decide ((at' .int l2 0) = 0))))))))))))))) := by kernel_rfl
theorem cordonref_ConHolds_I7_2_eq (R : D → Prop) (l2 : List Int) (n5_2 : Nat) (v15 : Int) (n7_2 : Nat) (v16 : Int) : cordonref_ConHolds_I7_2 R l2 n5_2 v15 (n7_2 + 1) v16 =
 (sel (decide (v16 < v15))
 (inb v15 l2.length = true ∧
 inb v16 l2.length = true ∧
 sel (decide ((at' .int l2 v15.toNat) = (at' .int l2 v16.toNat)))
 (R (.bool false))
 (cordonref_ConHolds_I7_2 R l2 n5_2 v15 n7_2 (w64 (v16 + 1))))
 (cordonref_ConHolds_I5_2 R l2 n5_2 (w64 (v15 + 1)))) := by kernel_rfl
theorem cordonref_ConHolds_I5_2_eq (R : D → Prop) (l2 : List Int) (n5_2 : Nat) (v15 : Int) : cordonref_ConHolds_I5_2 R l2 (n5_2 + 1) v15 =
 (sel (decide (v15 < (l2.length : Int)))
 (∃ n7_2, cordonref_ConHolds_I7_2 R l2 n5_2 v15 n7_2 0)
 (R (.bool true))) := by kernel_rfl
theorem cordonref_ConHolds_I9_2_eq (a0 : ConD) (R : D → Prop) (l2 : List Int) (n9_2 : Nat) (v17 : Int) : cordonref_ConHolds_I9_2 a0 R l2 (n9_2 + 1) v17 =
 (sel (decide (v17 < (a0.consts.length : Int)))
 (inb 0 l2.length = true ∧
 sel (decide ((at' .int l2 0) = v17))
 (inb v17 a0.consts.length = true ∧
 inb 1 l2.length = true ∧
 R (.bool (decide ((at' .int a0.consts v17.toNat) = (at' .int l2 1)))))
 (cordonref_ConHolds_I9_2 a0 R l2 n9_2 (w64 (v17 + 1))))
 (R (.bool false))) := by kernel_rfl
theorem cordonref_ConHolds_I11_2_eq (a0 : ConD) (R : D → Prop) (l2 : List Int) (n11_2 : Nat) (v18 : Int) : cordonref_ConHolds_I11_2 a0 R l2 (n11_2 + 1) v18 =
 (sel (decide (v18 < (a0.rows.length : Int)))
 (inb v18 a0.rows.length = true ∧
 Call1 Tryz.prog f_cordonref_SameInts [.sl .int (at' (.list .int) a0.rows v18.toNat), .sl .int l2] .bool fun c19 =>
 sel c19
 (R (.bool true))
 (cordonref_ConHolds_I11_2 a0 R l2 n11_2 (w64 (v18 + 1))))
 (R (.bool false))) := by kernel_rfl
theorem cordonref_ConHolds_I13_2_eq (R : D → Prop) (l2 : List Int) (n13_2 : Nat) (v20 : Bool) (v21 : Int) : cordonref_ConHolds_I13_2 R l2 (n13_2 + 1) v20 v21 =
 (sel (decide (v21 < (l2.length : Int)))
 (inb v21 l2.length = true ∧
 inb 0 l2.length = true ∧
 sel (decide ((at' .int l2 0) < (at' .int l2 v21.toNat)))
 (R (.bool false))
 (sel v20
 (cordonref_ConHolds_I13_2 R l2 n13_2 true (w64 (v21 + 1)))
 (inb v21 l2.length = true ∧
 inb 0 l2.length = true ∧
 cordonref_ConHolds_I13_2 R l2 n13_2 (decide ((at' .int l2 v21.toNat) = (at' .int l2 0))) (w64 (v21 + 1)))))
 (R (.bool v20))) := by kernel_rfl
theorem cordonref_ConHolds_I15_2_eq (a0 : ConD) (a1 : List Int) (R : D → Prop) (n15_2 : Nat) (v22 : Int) : cordonref_ConHolds_I15_2 a0 a1 R (n15_2 + 1) v22 =
 (sel (decide (v22 < (a0.lits.length : Int)))
 (inb v22 a0.lits.length = true ∧
 inb v22 a0.lits.length = true ∧
 inb ((at' .lit a0.lits v22.toNat).var) a1.length = true ∧
 Call1 Tryz.prog f_cordonref_LitHolds [.agg [.int .i64 ((at' .lit a0.lits v22.toNat).var), .int .i64 ((at' .lit a0.lits v22.toNat).op), .int .i64 ((at' .lit a0.lits v22.toNat).n)], .int .i64 (at' .int a1 (((at' .lit a0.lits v22.toNat).var).toNat))] .bool fun c23 =>
 sel c23
 (R (.bool true))
 (cordonref_ConHolds_I15_2 a0 a1 R n15_2 (w64 (v22 + 1))))
 (R (.bool false))) := by kernel_rfl
theorem cordonref_ConHolds_I0_eq (a0 : ConD) (a1 : List Int) (R : D → Prop) (n0 : Nat) (v1 : Int) (l2 : List Int) : cordonref_ConHolds_I0 a0 a1 R (n0 + 1) v1 l2 =
 (sel (decide (v1 < (a0.vars.length : Int)))
 (inb v1 a0.vars.length = true ∧
 inb (at' .int a0.vars v1.toNat) a1.length = true ∧
 room .int (l2.length + ([at' .int a1 ((at' .int a0.vars v1.toNat).toNat)]).length) = true ∧
 cordonref_ConHolds_I0 a0 a1 R n0 (w64 (v1 + 1)) (l2 ++ ([at' .int a1 ((at' .int a0.vars v1.toNat).toNat)])))
 (sel (decide (a0.kind ≤ 3))
 (∃ n2, cordonref_ConHolds_I2 a0 a1 R l2 n2 0 0)
 (sel (decide (a0.kind = 1))
 (R (.bool (decide (0 ≤ a0.n))))
 (sel (decide (a0.kind = 2))
 (R (.bool (decide (0 = a0.n))))
 (sel (decide (a0.kind = 3))
 (R (.bool (!decide (0 = a0.n))))
 (sel (decide (a0.kind = 4))
 (∃ n5_2, cordonref_ConHolds_I5_2 R l2 n5_2 0)
 (sel (decide (a0.kind = 5))
 (∃ n9_2, cordonref_ConHolds_I9_2 a0 R l2 n9_2 0)
 (sel (decide (a0.kind = 6))
 (∃ n11_2, cordonref_ConHolds_I11_2 a0 R l2 n11_2 0)
 (sel (decide (a0.kind = 7))
 (inb 0 l2.length = true ∧
 inb 1 l2.length = true ∧
 inb 2 l2.length = true ∧
 R (.bool (decide ((w64 ((at' .int l2 0) * (at' .int l2 1))) = (at' .int l2 2)))))
 (sel (decide (a0.kind = 8))
 (∃ n13_2, cordonref_ConHolds_I13_2 R l2 n13_2 false 1)
 (sel (decide (a0.kind = 9))
 (∃ n15_2, cordonref_ConHolds_I15_2 a0 a1 R n15_2 0)
 (inb 0 a0.lits.length = true ∧
 inb 0 a0.lits.length = true ∧
 inb ((at' .lit a0.lits 0).var) a1.length = true ∧
 Call1 Tryz.prog f_cordonref_LitHolds [.agg [.int .i64 ((at' .lit a0.lits 0).var), .int .i64 ((at' .lit a0.lits 0).op), .int .i64 ((at' .lit a0.lits 0).n)], .int .i64 (at' .int a1 (((at' .lit a0.lits 0).var).toNat))] .bool fun c24 =>
 sel c24
 (inb 0 l2.length = true ∧
 R (.bool (decide ((at' .int l2 0) = 1))))
 (inb 0 l2.length = true ∧
 R (.bool (decide ((at' .int l2 0) = 0)))))))))))))))) := by kernel_rfl
theorem cordonref_ConHolds_eq (a0 : ConD) (a1 : List Int) (R : D → Prop) : fnD Tryz.prog Ev cordonref_ConHolds_A Tryz.f21.results.toList (bodyOf Tryz.f21) [.agg [.int .i64 a0.kind, .sl .int a0.vars, .sl .int a0.consts, .int .i64 a0.n, .sl (.list .int) a0.rows, .sl .lit a0.lits], .sl .int a1] R =
 (∃ n0, cordonref_ConHolds_I0 a0 a1 R n0 0 ([] : List Int)) := by kernel_rfl
theorem cordonref_ConHolds_sat {r : D} (a0 : ConD) (a1 : List Int) (h : (∀ d ∈ [.agg [.int .i64 a0.kind, .sl .int a0.vars, .sl .int a0.consts, .int .i64 a0.n, .sl (.list .int) a0.rows, .sl .lit a0.lits], .sl .int a1], okD d) → fnD Tryz.prog Ev cordonref_ConHolds_A Tryz.f21.results.toList (bodyOf Tryz.f21) [.agg [.int .i64 a0.kind, .sl .int a0.vars, .sl .int a0.consts, .int .i64 a0.n, .sl (.list .int) a0.rows, .sl .lit a0.lits], .sl .int a1] fun d => d = r) : Sat Tryz.prog f_cordonref_ConHolds [.agg [.int .i64 a0.kind, .sl .int a0.vars, .sl .int a0.consts, .int .i64 a0.n, .sl (.list .int) a0.rows, .sl .lit a0.lits], .sl .int a1] r := by
  have h2 := sat_of (r := r) (args := [.agg [.int .i64 a0.kind, .sl .int a0.vars, .sl .int a0.consts, .int .i64 a0.n, .sl (.list .int) a0.rows, .sl .lit a0.lits], .sl .int a1]) (A := cordonref_ConHolds_A) (fn := Tryz.f21) (body := bodyOf Tryz.f21) (f := f_cordonref_ConHolds) factsEv Tryz.func21 (by kernel_rfl) (by rw [Tryz.ntmps21]; rfl) (by rw [Tryz.ntmps21]; exact Nat.le_of_ble_eq_true rfl)
  with_reducible exact h2 h
/-! ### cordon/cordonref.AllHold -/
def cordonref_AllHold_A : Ann := { own := [], live := [(0, ([1, 2, 5], [])), (2, ([1, 2, 6], []))], n := 47, nils := [], pubs := [] }
def cordonref_AllHold_I2 (a0 : MdlD) (a1 : List Int) (R : D → Prop) (n2 : Nat) (i3 : Int) : Prop := iter (den Tryz.prog Ev cordonref_AllHold_A (sub [1, 1, 0, 1, 0, 0] (bodyOf Tryz.f22)) 2) cordonref_AllHold_A (liveOf cordonref_AllHold_A 2) n2 ⟨[(1, .sl .int a1), (2, .iptr [.sl .var a0.vars, .sl .con a0.cons, .int .i64 a0.goal, .int .i64 a0.var] 0), (6, .int .i64 i3)], []⟩ (blockK 2 (seqK Tryz.prog Ev cordonref_AllHold_A (sub [1, 1, 1] (bodyOf Tryz.f22)) 0 (endK Ev Tryz.f22.results.toList R)))
def cordonref_AllHold_I0 (a0 : MdlD) (a1 : List Int) (R : D → Prop) (n0 : Nat) (i1 : Int) : Prop := iter (den Tryz.prog Ev cordonref_AllHold_A (sub [1, 0, 1, 0, 0] (bodyOf Tryz.f22)) 0) cordonref_AllHold_A (liveOf cordonref_AllHold_A 0) n0 ⟨[(1, .sl .int a1), (2, .iptr [.sl .var a0.vars, .sl .con a0.cons, .int .i64 a0.goal, .int .i64 a0.var] 0), (5, .int .i64 i1)], []⟩ (blockK 0 (seqK Tryz.prog Ev cordonref_AllHold_A (sub [1, 1] (bodyOf Tryz.f22)) 0 (endK Ev Tryz.f22.results.toList R)))
theorem cordonref_AllHold_I2_eq (a0 : MdlD) (a1 : List Int) (R : D → Prop) (n2 : Nat) (i3 : Int) : cordonref_AllHold_I2 a0 a1 R (n2 + 1) i3 =
 (sel (decide (i3 < (a0.cons.length : Int)))
 (inb i3 a0.cons.length = true ∧
 Call1 Tryz.prog f_cordonref_ConHolds [.agg [.int .i64 ((at' .con a0.cons i3.toNat).kind), .sl .int ((at' .con a0.cons i3.toNat).vars), .sl .int ((at' .con a0.cons i3.toNat).consts), .int .i64 ((at' .con a0.cons i3.toNat).n), .sl (.list .int) ((at' .con a0.cons i3.toNat).rows), .sl .lit ((at' .con a0.cons i3.toNat).lits)], .sl .int a1] .bool fun c4 =>
 sel (!c4)
 (R (.bool false))
 (cordonref_AllHold_I2 a0 a1 R n2 (w64 (i3 + 1))))
 (R (.bool true))) := by kernel_rfl
theorem cordonref_AllHold_I0_eq (a0 : MdlD) (a1 : List Int) (R : D → Prop) (n0 : Nat) (i1 : Int) : cordonref_AllHold_I0 a0 a1 R (n0 + 1) i1 =
 (sel (decide (i1 < (a0.vars.length : Int)))
 (inb i1 a1.length = true ∧
 inb i1 a0.vars.length = true ∧
 inb i1 a0.vars.length = true ∧
 Call1 Tryz.prog f_cordonref_between [.int .i64 (at' .int a1 i1.toNat), .int .i64 ((at' .var a0.vars i1.toNat).lo), .int .i64 ((at' .var a0.vars i1.toNat).hi)] .bool fun c2 =>
 sel (!c2)
 (R (.bool false))
 (cordonref_AllHold_I0 a0 a1 R n0 (w64 (i1 + 1))))
 (∃ n2, cordonref_AllHold_I2 a0 a1 R n2 0)) := by kernel_rfl
theorem cordonref_AllHold_eq (a0 : MdlD) (a1 : List Int) (R : D → Prop) : fnD Tryz.prog Ev cordonref_AllHold_A Tryz.f22.results.toList (bodyOf Tryz.f22) [.agg [.sl .var a0.vars, .sl .con a0.cons, .int .i64 a0.goal, .int .i64 a0.var], .sl .int a1] R =
 (∃ n0, cordonref_AllHold_I0 a0 a1 R n0 0) := by kernel_rfl
theorem cordonref_AllHold_sat {r : D} (a0 : MdlD) (a1 : List Int) (h : (∀ d ∈ [.agg [.sl .var a0.vars, .sl .con a0.cons, .int .i64 a0.goal, .int .i64 a0.var], .sl .int a1], okD d) → fnD Tryz.prog Ev cordonref_AllHold_A Tryz.f22.results.toList (bodyOf Tryz.f22) [.agg [.sl .var a0.vars, .sl .con a0.cons, .int .i64 a0.goal, .int .i64 a0.var], .sl .int a1] fun d => d = r) : Sat Tryz.prog f_cordonref_AllHold [.agg [.sl .var a0.vars, .sl .con a0.cons, .int .i64 a0.goal, .int .i64 a0.var], .sl .int a1] r := by
  have h2 := sat_of (r := r) (args := [.agg [.sl .var a0.vars, .sl .con a0.cons, .int .i64 a0.goal, .int .i64 a0.var], .sl .int a1]) (A := cordonref_AllHold_A) (fn := Tryz.f22) (body := bodyOf Tryz.f22) (f := f_cordonref_AllHold) factsEv Tryz.func22 (by kernel_rfl) (by rw [Tryz.ntmps22]; rfl) (by rw [Tryz.ntmps22]; exact Nat.le_of_ble_eq_true rfl)
  with_reducible exact h2 h
/-! ### cordon/cordonref.between -/
def cordonref_between_A : Ann := { own := [], live := [], n := 15, nils := [], pubs := [] }
theorem cordonref_between_eq (a0 : Int) (a1 : Int) (a2 : Int) (R : D → Prop) : fnD Tryz.prog Ev cordonref_between_A Tryz.f30.results.toList (bodyOf Tryz.f30) [.int .i64 a0, .int .i64 a1, .int .i64 a2] R =
 (sel (decide (a1 ≤ a0))
 (R (.bool (decide (a0 ≤ a2))))
 (R (.bool false))) := by kernel_rfl
theorem cordonref_between_sat {r : D} (a0 : Int) (a1 : Int) (a2 : Int) (h : (∀ d ∈ [.int .i64 a0, .int .i64 a1, .int .i64 a2], okD d) → fnD Tryz.prog Ev cordonref_between_A Tryz.f30.results.toList (bodyOf Tryz.f30) [.int .i64 a0, .int .i64 a1, .int .i64 a2] fun d => d = r) : Sat Tryz.prog f_cordonref_between [.int .i64 a0, .int .i64 a1, .int .i64 a2] r := by
  have h2 := sat_of (r := r) (args := [.int .i64 a0, .int .i64 a1, .int .i64 a2]) (A := cordonref_between_A) (fn := Tryz.f30) (body := bodyOf Tryz.f30) (f := f_cordonref_between) factsEv Tryz.func30 (by kernel_rfl) (by rw [Tryz.ntmps30]; rfl) (by rw [Tryz.ntmps30]; exact Nat.le_of_ble_eq_true rfl)
  with_reducible exact h2 h
/-! ### cordon/cordonref.checkCon -/
def cordonref_checkCon_A : Ann := { own := [], live := [(0, ([2, 3, 5], [])), (2, ([2, 3, 6], [])), (4, ([2, 3, 7], [])), (6, ([2, 3, 8], [])), (8, ([2, 3, 8, 9], [])), (10, ([2, 3, 10], []))], n := 140, nils := [], pubs := [] }
def cordonref_checkCon_I8 (a0 : MdlD) (a1 : ConD) (R : D → Prop) (n6 : Nat) (v10 : Int) (n8 : Nat) (v11 : Int) : Prop := iter (den Tryz.prog Ev cordonref_checkCon_A (sub [1, 1, 1, 1, 1, 1, 1, 1, 0, 1, 0, 0, 1, 0, 0, 1, 0, 0] (bodyOf Tryz.f31)) 8) cordonref_checkCon_A (liveOf cordonref_checkCon_A 8) n8 ⟨[(2, .iptr [.sl .var a0.vars, .sl .con a0.cons, .int .i64 a0.goal, .int .i64 a0.var] 0), (3, .iptr [.int .i64 a1.kind, .sl .int a1.vars, .sl .int a1.consts, .int .i64 a1.n, .sl (.list .int) a1.rows, .sl .lit a1.lits] 0), (8, .int .i64 v10), (9, .int .i64 v11)], []⟩ (blockK 8 (blockK 7 (seqK Tryz.prog Ev cordonref_checkCon_A (sub [1, 1, 1, 1, 1, 1, 1, 1, 0, 1, 0, 0, 1, 1] (bodyOf Tryz.f31)) 6 (iterK (den Tryz.prog Ev cordonref_checkCon_A (sub [1, 1, 1, 1, 1, 1, 1, 1, 0, 1, 0, 0] (bodyOf Tryz.f31)) 6) cordonref_checkCon_A (liveOf cordonref_checkCon_A 6) n6 (blockK 6 (seqK Tryz.prog Ev cordonref_checkCon_A (sub [1, 1, 1, 1, 1, 1, 1, 1, 1] (bodyOf Tryz.f31)) 0 (endK Ev Tryz.f31.results.toList R)))))))
def cordonref_checkCon_I10 (a0 : MdlD) (a1 : ConD) (R : D → Prop) (n10 : Nat) (v13 : Int) : Prop := iter (den Tryz.prog Ev cordonref_checkCon_A (sub [1, 1, 1, 1, 1, 1, 1, 1, 1, 0, 1, 0, 0] (bodyOf Tryz.f31)) 10) cordonref_checkCon_A (liveOf cordonref_checkCon_A 10) n10 ⟨[(2, .iptr [.sl .var a0.vars, .sl .con a0.cons, .int .i64 a0.goal, .int .i64 a0.var] 0), (3, .iptr [.int .i64 a1.kind, .sl .int a1.vars, .sl .int a1.consts, .int .i64 a1.n, .sl (.list .int) a1.rows, .sl .lit a1.lits] 0), (10, .int .i64 v13)], []⟩ (blockK 10 (seqK Tryz.prog Ev cordonref_checkCon_A (sub [1, 1, 1, 1, 1, 1, 1, 1, 1, 1] (bodyOf Tryz.f31)) 0 (endK Ev Tryz.f31.results.toList R)))
def cordonref_checkCon_I6 (a0 : MdlD) (a1 : ConD) (R : D → Prop) (n6 : Nat) (v10 : Int) : Prop := iter (den Tryz.prog Ev cordonref_checkCon_A (sub [1, 1, 1, 1, 1, 1, 1, 1, 0, 1, 0, 0] (bodyOf Tryz.f31)) 6) cordonref_checkCon_A (liveOf cordonref_checkCon_A 6) n6 ⟨[(2, .iptr [.sl .var a0.vars, .sl .con a0.cons, .int .i64 a0.goal, .int .i64 a0.var] 0), (3, .iptr [.int .i64 a1.kind, .sl .int a1.vars, .sl .int a1.consts, .int .i64 a1.n, .sl (.list .int) a1.rows, .sl .lit a1.lits] 0), (8, .int .i64 v10)], []⟩ (blockK 6 (seqK Tryz.prog Ev cordonref_checkCon_A (sub [1, 1, 1, 1, 1, 1, 1, 1, 1] (bodyOf Tryz.f31)) 0 (endK Ev Tryz.f31.results.toList R)))
def cordonref_checkCon_I4 (a0 : MdlD) (a1 : ConD) (R : D → Prop) (n4 : Nat) (v7 : Int) : Prop := iter (den Tryz.prog Ev cordonref_checkCon_A (sub [1, 1, 1, 1, 1, 1, 0, 1, 0, 0] (bodyOf Tryz.f31)) 4) cordonref_checkCon_A (liveOf cordonref_checkCon_A 4) n4 ⟨[(2, .iptr [.sl .var a0.vars, .sl .con a0.cons, .int .i64 a0.goal, .int .i64 a0.var] 0), (3, .iptr [.int .i64 a1.kind, .sl .int a1.vars, .sl .int a1.consts, .int .i64 a1.n, .sl (.list .int) a1.rows, .sl .lit a1.lits] 0), (7, .int .i64 v7)], []⟩ (blockK 4 (seqK Tryz.prog Ev cordonref_checkCon_A (sub [1, 1, 1, 1, 1, 1, 1] (bodyOf Tryz.f31)) 0 (endK Ev Tryz.f31.results.toList R)))
def cordonref_checkCon_I2 (a0 : MdlD) (a1 : ConD) (R : D → Prop) (n2 : Nat) (v5 : Int) : Prop := iter (den Tryz.prog Ev cordonref_checkCon_A (sub [1, 1, 1, 1, 1, 0, 1, 0, 0] (bodyOf Tryz.f31)) 2) cordonref_checkCon_A (liveOf cordonref_checkCon_A 2) n2 ⟨[(2, .iptr [.sl .var a0.vars, .sl .con a0.cons, .int .i64 a0.goal, .int .i64 a0.var] 0), (3, .iptr [.int .i64 a1.kind, .sl .int a1.vars, .sl .int a1.consts, .int .i64 a1.n, .sl (.list .int) a1.rows, .sl .lit a1.lits] 0), (6, .int .i64 v5)], []⟩ (blockK 2 (seqK Tryz.prog Ev cordonref_checkCon_A (sub [1, 1, 1, 1, 1, 1] (bodyOf Tryz.f31)) 0 (endK Ev Tryz.f31.results.toList R)))
def cordonref_checkCon_I0 (a0 : MdlD) (a1 : ConD) (R : D → Prop) (n0 : Nat) (v3 : Int) : Prop := iter (den Tryz.prog Ev cordonref_checkCon_A (sub [1, 1, 1, 1, 0, 1, 0, 0] (bodyOf Tryz.f31)) 0) cordonref_checkCon_A (liveOf cordonref_checkCon_A 0) n0 ⟨[(2, .iptr [.sl .var a0.vars, .sl .con a0.cons, .int .i64 a0.goal, .int .i64 a0.var] 0), (3, .iptr [.int .i64 a1.kind, .sl .int a1.vars, .sl .int a1.consts, .int .i64 a1.n, .sl (.list .int) a1.rows, .sl .lit a1.lits] 0), (5, .int .i64 v3)], []⟩ (blockK 0 (seqK Tryz.prog Ev cordonref_checkCon_A (sub [1, 1, 1, 1, 1] (bodyOf Tryz.f31)) 0 (endK Ev Tryz.f31.results.toList R)))
theorem cordonref_checkCon_I8_eq (a0 : MdlD) (a1 : ConD) (R : D → Prop) (n6 : Nat) (v10 : Int) (n8 : Nat) (v11 : Int) : cordonref_checkCon_I8 a0 a1 R n6 v10 (n8 + 1) v11 =
 (inb v10 a1.rows.length = true ∧
 sel (decide (v11 < ((at' (.list .int) a1.rows v10.toNat).length : Int)))
 (inb v10 a1.rows.length = true ∧
 inb v11 (at' (.list .int) a1.rows v10.toNat).length = true ∧
 Call1 Tryz.prog f_cordonref_inConst [.int .i64 (at' .int (at' (.list .int) a1.rows v10.toNat) v11.toNat)] .bool fun c12 =>
 sel (!c12)
 (R (.int .i64 3))
 (cordonref_checkCon_I8 a0 a1 R n6 v10 n8 (w64 (v11 + 1))))
 (cordonref_checkCon_I6 a0 a1 R n6 (w64 (v10 + 1)))) := by kernel_rfl
theorem cordonref_checkCon_I10_eq (a0 : MdlD) (a1 : ConD) (R : D → Prop) (n10 : Nat) (v13 : Int) : cordonref_checkCon_I10 a0 a1 R (n10 + 1) v13 =
 (sel (decide (v13 < (a1.lits.length : Int)))
 (inb v13 a1.lits.length = true ∧
 Call1 Tryz.prog f_cordonref_CheckLit [.agg [.sl .var a0.vars, .sl .con a0.cons, .int .i64 a0.goal, .int .i64 a0.var], .agg [.int .i64 ((at' .lit a1.lits v13.toNat).var), .int .i64 ((at' .lit a1.lits v13.toNat).op), .int .i64 ((at' .lit a1.lits v13.toNat).n)]] .int fun c14 =>
 sel (!decide (c14 = 0))
 (R (.int .i64 c14))
 (cordonref_checkCon_I10 a0 a1 R n10 (w64 (v13 + 1))))
 (R (.int .i64 0))) := by kernel_rfl
theorem cordonref_checkCon_I6_eq (a0 : MdlD) (a1 : ConD) (R : D → Prop) (n6 : Nat) (v10 : Int) : cordonref_checkCon_I6 a0 a1 R (n6 + 1) v10 =
 (sel (decide (v10 < (a1.rows.length : Int)))
 (∃ n8, cordonref_checkCon_I8 a0 a1 R n6 v10 n8 0)
 (∃ n10, cordonref_checkCon_I10 a0 a1 R n10 0)) := by kernel_rfl
theorem cordonref_checkCon_I4_eq (a0 : MdlD) (a1 : ConD) (R : D → Prop) (n4 : Nat) (v7 : Int) : cordonref_checkCon_I4 a0 a1 R (n4 + 1) v7 =
 (sel (decide (v7 < (a1.consts.length : Int)))
 (inb v7 a1.consts.length = true ∧
 Call1 Tryz.prog f_cordonref_inConst [.int .i64 (at' .int a1.consts v7.toNat)] .bool fun c8 =>
 sel (!c8)
 (R (.int .i64 3))
 (cordonref_checkCon_I4 a0 a1 R n4 (w64 (v7 + 1))))
 (Call1 Tryz.prog f_cordonref_inConst [.int .i64 a1.n] .bool fun c9 =>
 sel (!c9)
 (R (.int .i64 3))
 (∃ n6, cordonref_checkCon_I6 a0 a1 R n6 0))) := by kernel_rfl
theorem cordonref_checkCon_I2_eq (a0 : MdlD) (a1 : ConD) (R : D → Prop) (n2 : Nat) (v5 : Int) : cordonref_checkCon_I2 a0 a1 R (n2 + 1) v5 =
 (sel (decide (v5 < (a1.lits.length : Int)))
 (inb v5 a1.lits.length = true ∧
 Call1 Tryz.prog f_cordonref_between [.int .i64 ((at' .lit a1.lits v5.toNat).var), .int .i64 0, .int .i64 (w64 ((a0.vars.length : Int) - 1))] .bool fun c6 =>
 sel (!c6)
 (R (.int .i64 5))
 (cordonref_checkCon_I2 a0 a1 R n2 (w64 (v5 + 1))))
 (∃ n4, cordonref_checkCon_I4 a0 a1 R n4 0)) := by kernel_rfl
theorem cordonref_checkCon_I0_eq (a0 : MdlD) (a1 : ConD) (R : D → Prop) (n0 : Nat) (v3 : Int) : cordonref_checkCon_I0 a0 a1 R (n0 + 1) v3 =
 (sel (decide (v3 < (a1.vars.length : Int)))
 (inb v3 a1.vars.length = true ∧
 Call1 Tryz.prog f_cordonref_between [.int .i64 (at' .int a1.vars v3.toNat), .int .i64 0, .int .i64 (w64 ((a0.vars.length : Int) - 1))] .bool fun c4 =>
 sel (!c4)
 (R (.int .i64 5))
 (cordonref_checkCon_I0 a0 a1 R n0 (w64 (v3 + 1))))
 (∃ n2, cordonref_checkCon_I2 a0 a1 R n2 0)) := by kernel_rfl
theorem cordonref_checkCon_eq (a0 : MdlD) (a1 : ConD) (R : D → Prop) : fnD Tryz.prog Ev cordonref_checkCon_A Tryz.f31.results.toList (bodyOf Tryz.f31) [.agg [.sl .var a0.vars, .sl .con a0.cons, .int .i64 a0.goal, .int .i64 a0.var], .agg [.int .i64 a1.kind, .sl .int a1.vars, .sl .int a1.consts, .int .i64 a1.n, .sl (.list .int) a1.rows, .sl .lit a1.lits]] R =
 (Call1 Tryz.prog f_cordonref_between [.int .i64 a1.kind, .int .i64 1, .int .i64 10] .bool fun c1 =>
 sel (!c1)
 (R (.int .i64 7))
 (sel (decide (4 < (a1.vars.length : Int)))
 (R (.int .i64 2))
 (sel (decide (4 < (a1.lits.length : Int)))
 (R (.int .i64 2))
 (sel (decide (8 < (a1.consts.length : Int)))
 (R (.int .i64 2))
 (sel (decide (20 < (a1.rows.length : Int)))
 (R (.int .i64 2))
 (Call1 Tryz.prog f_cordonref_rightForm [.agg [.int .i64 a1.kind, .sl .int a1.vars, .sl .int a1.consts, .int .i64 a1.n, .sl (.list .int) a1.rows, .sl .lit a1.lits]] .bool fun c2 =>
 sel (!c2)
 (R (.int .i64 1))
 (∃ n0, cordonref_checkCon_I0 a0 a1 R n0 0))))))) := by kernel_rfl
theorem cordonref_checkCon_sat {r : D} (a0 : MdlD) (a1 : ConD) (h : (∀ d ∈ [.agg [.sl .var a0.vars, .sl .con a0.cons, .int .i64 a0.goal, .int .i64 a0.var], .agg [.int .i64 a1.kind, .sl .int a1.vars, .sl .int a1.consts, .int .i64 a1.n, .sl (.list .int) a1.rows, .sl .lit a1.lits]], okD d) → fnD Tryz.prog Ev cordonref_checkCon_A Tryz.f31.results.toList (bodyOf Tryz.f31) [.agg [.sl .var a0.vars, .sl .con a0.cons, .int .i64 a0.goal, .int .i64 a0.var], .agg [.int .i64 a1.kind, .sl .int a1.vars, .sl .int a1.consts, .int .i64 a1.n, .sl (.list .int) a1.rows, .sl .lit a1.lits]] fun d => d = r) : Sat Tryz.prog f_cordonref_checkCon [.agg [.sl .var a0.vars, .sl .con a0.cons, .int .i64 a0.goal, .int .i64 a0.var], .agg [.int .i64 a1.kind, .sl .int a1.vars, .sl .int a1.consts, .int .i64 a1.n, .sl (.list .int) a1.rows, .sl .lit a1.lits]] r := by
  have h2 := sat_of (r := r) (args := [.agg [.sl .var a0.vars, .sl .con a0.cons, .int .i64 a0.goal, .int .i64 a0.var], .agg [.int .i64 a1.kind, .sl .int a1.vars, .sl .int a1.consts, .int .i64 a1.n, .sl (.list .int) a1.rows, .sl .lit a1.lits]]) (A := cordonref_checkCon_A) (fn := Tryz.f31) (body := bodyOf Tryz.f31) (f := f_cordonref_checkCon) factsEv Tryz.func31 (by kernel_rfl) (by rw [Tryz.ntmps31]; rfl) (by rw [Tryz.ntmps31]; exact Nat.le_of_ble_eq_true rfl)
  with_reducible exact h2 h
/-! ### cordon/cordonref.CheckLit -/
def cordonref_CheckLit_A : Ann := { own := [], live := [], n := 21, nils := [], pubs := [] }
theorem cordonref_CheckLit_eq (a0 : MdlD) (a1 : LitD) (R : D → Prop) : fnD Tryz.prog Ev cordonref_CheckLit_A Tryz.f32.results.toList (bodyOf Tryz.f32) [.agg [.sl .var a0.vars, .sl .con a0.cons, .int .i64 a0.goal, .int .i64 a0.var], .agg [.int .i64 a1.var, .int .i64 a1.op, .int .i64 a1.n]] R =
 (Call1 Tryz.prog f_cordonref_between [.int .i64 a1.var, .int .i64 0, .int .i64 (w64 ((a0.vars.length : Int) - 1))] .bool fun c1 =>
 sel (!c1)
 (R (.int .i64 5))
 (Call1 Tryz.prog f_cordonref_between [.int .i64 a1.op, .int .i64 1, .int .i64 4] .bool fun c2 =>
 sel (!c2)
 (R (.int .i64 7))
 (Call1 Tryz.prog f_cordonref_inConst [.int .i64 a1.n] .bool fun c3 =>
 sel (!c3)
 (R (.int .i64 3))
 (R (.int .i64 0))))) := by kernel_rfl
theorem cordonref_CheckLit_sat {r : D} (a0 : MdlD) (a1 : LitD) (h : (∀ d ∈ [.agg [.sl .var a0.vars, .sl .con a0.cons, .int .i64 a0.goal, .int .i64 a0.var], .agg [.int .i64 a1.var, .int .i64 a1.op, .int .i64 a1.n]], okD d) → fnD Tryz.prog Ev cordonref_CheckLit_A Tryz.f32.results.toList (bodyOf Tryz.f32) [.agg [.sl .var a0.vars, .sl .con a0.cons, .int .i64 a0.goal, .int .i64 a0.var], .agg [.int .i64 a1.var, .int .i64 a1.op, .int .i64 a1.n]] fun d => d = r) : Sat Tryz.prog f_cordonref_CheckLit [.agg [.sl .var a0.vars, .sl .con a0.cons, .int .i64 a0.goal, .int .i64 a0.var], .agg [.int .i64 a1.var, .int .i64 a1.op, .int .i64 a1.n]] r := by
  have h2 := sat_of (r := r) (args := [.agg [.sl .var a0.vars, .sl .con a0.cons, .int .i64 a0.goal, .int .i64 a0.var], .agg [.int .i64 a1.var, .int .i64 a1.op, .int .i64 a1.n]]) (A := cordonref_CheckLit_A) (fn := Tryz.f32) (body := bodyOf Tryz.f32) (f := f_cordonref_CheckLit) factsEv Tryz.func32 (by kernel_rfl) (by rw [Tryz.ntmps32]; rfl) (by rw [Tryz.ntmps32]; exact Nat.le_of_ble_eq_true rfl)
  with_reducible exact h2 h
/-! ### cordon/cordonref.LitHolds -/
def cordonref_LitHolds_A : Ann := { own := [], live := [], n := 47, nils := [], pubs := [] }
theorem cordonref_LitHolds_eq (a0 : LitD) (a1 : Int) (R : D → Prop) : fnD Tryz.prog Ev cordonref_LitHolds_A Tryz.f38.results.toList (bodyOf Tryz.f38) [.agg [.int .i64 a0.var, .int .i64 a0.op, .int .i64 a0.n], .int .i64 a1] R =
 (sel (decide (a0.op = 1))
 (sel (decide (a1 ≤ a0.n))
 (R (.bool true))
 (sel (decide (a0.op = 2))
 (sel (decide (a0.n ≤ a1))
 (R (.bool true))
 (sel (decide (a0.op = 3))
 (sel (decide (a1 = a0.n))
 (R (.bool true))
 (sel (decide (a0.op = 4))
 (R (.bool (!decide (a1 = a0.n))))
 (R (.bool false))))
 (sel (decide (a0.op = 4))
 (R (.bool (!decide (a1 = a0.n))))
 (R (.bool false)))))
 (sel (decide (a0.op = 3))
 (sel (decide (a1 = a0.n))
 (R (.bool true))
 (sel (decide (a0.op = 4))
 (R (.bool (!decide (a1 = a0.n))))
 (R (.bool false))))
 (sel (decide (a0.op = 4))
 (R (.bool (!decide (a1 = a0.n))))
 (R (.bool false))))))
 (sel (decide (a0.op = 2))
 (sel (decide (a0.n ≤ a1))
 (R (.bool true))
 (sel (decide (a0.op = 3))
 (sel (decide (a1 = a0.n))
 (R (.bool true))
 (sel (decide (a0.op = 4))
 (R (.bool (!decide (a1 = a0.n))))
 (R (.bool false))))
 (sel (decide (a0.op = 4))
 (R (.bool (!decide (a1 = a0.n))))
 (R (.bool false)))))
 (sel (decide (a0.op = 3))
 (sel (decide (a1 = a0.n))
 (R (.bool true))
 (sel (decide (a0.op = 4))
 (R (.bool (!decide (a1 = a0.n))))
 (R (.bool false))))
 (sel (decide (a0.op = 4))
 (R (.bool (!decide (a1 = a0.n))))
 (R (.bool false)))))) := by kernel_rfl
theorem cordonref_LitHolds_sat {r : D} (a0 : LitD) (a1 : Int) (h : (∀ d ∈ [.agg [.int .i64 a0.var, .int .i64 a0.op, .int .i64 a0.n], .int .i64 a1], okD d) → fnD Tryz.prog Ev cordonref_LitHolds_A Tryz.f38.results.toList (bodyOf Tryz.f38) [.agg [.int .i64 a0.var, .int .i64 a0.op, .int .i64 a0.n], .int .i64 a1] fun d => d = r) : Sat Tryz.prog f_cordonref_LitHolds [.agg [.int .i64 a0.var, .int .i64 a0.op, .int .i64 a0.n], .int .i64 a1] r := by
  have h2 := sat_of (r := r) (args := [.agg [.int .i64 a0.var, .int .i64 a0.op, .int .i64 a0.n], .int .i64 a1]) (A := cordonref_LitHolds_A) (fn := Tryz.f38) (body := bodyOf Tryz.f38) (f := f_cordonref_LitHolds) factsEv Tryz.func38 (by kernel_rfl) (by rw [Tryz.ntmps38]; rfl) (by rw [Tryz.ntmps38]; exact Nat.le_of_ble_eq_true rfl)
  with_reducible exact h2 h
/-! ### cordon/cordonref.SameInts -/
def cordonref_SameInts_A : Ann := { own := [], live := [(0, ([0, 1, 5], []))], n := 26, nils := [], pubs := [] }
def cordonref_SameInts_I0 (a0 : List Int) (a1 : List Int) (R : D → Prop) (n0 : Nat) (i1 : Int) : Prop := iter (den Tryz.prog Ev cordonref_SameInts_A (sub [1, 1, 0, 1, 0, 0] (bodyOf Tryz.f50)) 0) cordonref_SameInts_A (liveOf cordonref_SameInts_A 0) n0 ⟨[(0, .sl .int a0), (1, .sl .int a1), (5, .int .i64 i1)], []⟩ (blockK 0 (seqK Tryz.prog Ev cordonref_SameInts_A (sub [1, 1, 1] (bodyOf Tryz.f50)) 0 (endK Ev Tryz.f50.results.toList R)))
theorem cordonref_SameInts_I0_eq (a0 : List Int) (a1 : List Int) (R : D → Prop) (n0 : Nat) (i1 : Int) : cordonref_SameInts_I0 a0 a1 R (n0 + 1) i1 =
 (sel (decide (i1 < (a0.length : Int)))
 (inb i1 a0.length = true ∧
 inb i1 a1.length = true ∧
 sel (!decide ((at' .int a0 i1.toNat) = (at' .int a1 i1.toNat)))
 (R (.bool false))
 (cordonref_SameInts_I0 a0 a1 R n0 (w64 (i1 + 1))))
 (R (.bool true))) := by kernel_rfl
theorem cordonref_SameInts_eq (a0 : List Int) (a1 : List Int) (R : D → Prop) : fnD Tryz.prog Ev cordonref_SameInts_A Tryz.f50.results.toList (bodyOf Tryz.f50) [.sl .int a0, .sl .int a1] R =
 (sel (!decide ((a0.length : Int) = (a1.length : Int)))
 (R (.bool false))
 (∃ n0, cordonref_SameInts_I0 a0 a1 R n0 0)) := by kernel_rfl
theorem cordonref_SameInts_sat {r : D} (a0 : List Int) (a1 : List Int) (h : (∀ d ∈ [.sl .int a0, .sl .int a1], okD d) → fnD Tryz.prog Ev cordonref_SameInts_A Tryz.f50.results.toList (bodyOf Tryz.f50) [.sl .int a0, .sl .int a1] fun d => d = r) : Sat Tryz.prog f_cordonref_SameInts [.sl .int a0, .sl .int a1] r := by
  have h2 := sat_of (r := r) (args := [.sl .int a0, .sl .int a1]) (A := cordonref_SameInts_A) (fn := Tryz.f50) (body := bodyOf Tryz.f50) (f := f_cordonref_SameInts) factsEv Tryz.func50 (by kernel_rfl) (by rw [Tryz.ntmps50]; rfl) (by rw [Tryz.ntmps50]; exact Nat.le_of_ble_eq_true rfl)
  with_reducible exact h2 h
/-! ### cordon/cordonref.rightForm -/
def cordonref_rightForm_A : Ann := { own := [], live := [(1, ([1, 3, 4, 5, 6, 7], []))], n := 164, nils := [], pubs := [] }
def cordonref_rightForm_I1 (a0 : ConD) (R : D → Prop) (n1 : Nat) (v1 : Int) : Prop := iter (den Tryz.prog Ev cordonref_rightForm_A (sub [1, 1, 1, 0, 1, 0, 1, 1, 1, 1, 1, 1, 1, 0, 0, 1, 0, 0] (bodyOf Tryz.f65)) 1) cordonref_rightForm_A (liveOf cordonref_rightForm_A 1) n1 ⟨[(1, .iptr [.int .i64 a0.kind, .sl .int a0.vars, .sl .int a0.consts, .int .i64 a0.n, .sl (.list .int) a0.rows, .sl .lit a0.lits] 0), (3, .int .i64 (a0.vars.length : Int)), (4, .int .i64 (a0.consts.length : Int)), (5, .int .i64 (a0.rows.length : Int)), (6, .int .i64 (a0.lits.length : Int)), (7, .int .i64 v1)], []⟩ (blockK 1 (seqK Tryz.prog Ev cordonref_rightForm_A (sub [1, 1, 1, 0, 1, 0, 1, 1, 1, 1, 1, 1, 1, 0, 1] (bodyOf Tryz.f65)) 0 (blockK 0 (seqK Tryz.prog Ev cordonref_rightForm_A (sub [1, 1, 1, 1] (bodyOf Tryz.f65)) 0 (endK Ev Tryz.f65.results.toList R)))))
def cordonref_rightForm_I1_2 (a0 : ConD) (R : D → Prop) (n1_2 : Nat) (v2 : Int) : Prop := iter (den Tryz.prog Ev cordonref_rightForm_A (sub [1, 1, 1, 0, 1, 0, 1, 1, 1, 1, 1, 1, 1, 0, 0, 1, 0, 0] (bodyOf Tryz.f65)) 1) cordonref_rightForm_A (liveOf cordonref_rightForm_A 1) n1_2 ⟨[(1, .iptr [.int .i64 a0.kind, .sl .int a0.vars, .sl .int a0.consts, .int .i64 a0.n, .sl (.list .int) a0.rows, .sl .lit a0.lits] 0), (3, .int .i64 (a0.vars.length : Int)), (4, .int .i64 (a0.consts.length : Int)), (5, .int .i64 (a0.rows.length : Int)), (6, .int .i64 (a0.lits.length : Int)), (7, .int .i64 v2)], []⟩ (blockK 1 (seqK Tryz.prog Ev cordonref_rightForm_A (sub [1, 1, 1, 0, 1, 0, 1, 1, 1, 1, 1, 1, 1, 0, 1] (bodyOf Tryz.f65)) 0 (blockK 0 (seqK Tryz.prog Ev cordonref_rightForm_A (sub [1, 1, 1, 1] (bodyOf Tryz.f65)) 0 (endK Ev Tryz.f65.results.toList R)))))
theorem cordonref_rightForm_I1_eq (a0 : ConD) (R : D → Prop) (n1 : Nat) (v1 : Int) : cordonref_rightForm_I1 a0 R (n1 + 1) v1 =
 (sel (decide (v1 < (a0.rows.length : Int)))
 (inb v1 a0.rows.length = true ∧
 sel (!decide (((at' (.list .int) a0.rows v1.toNat).length : Int) = (a0.vars.length : Int)))
 (R (.bool false))
 (cordonref_rightForm_I1 a0 R n1 (w64 (v1 + 1))))
 (sel (decide (1 ≤ (a0.vars.length : Int)))
 (sel (decide ((a0.consts.length : Int) = 0))
 (R (.bool (decide ((a0.lits.length : Int) = 0))))
 (R (.bool false)))
 (R (.bool false)))) := by kernel_rfl
theorem cordonref_rightForm_eq (a0 : ConD) (R : D → Prop) : fnD Tryz.prog Ev cordonref_rightForm_A Tryz.f65.results.toList (bodyOf Tryz.f65) [.agg [.int .i64 a0.kind, .sl .int a0.vars, .sl .int a0.consts, .int .i64 a0.n, .sl (.list .int) a0.rows, .sl .lit a0.lits]] R =
 (sel (decide (3 < a0.kind))
 (sel (!decide (a0.n = 0))
 (R (.bool false))
 (sel (decide (a0.kind = 1))
 (sel (decide (1 ≤ (a0.vars.length : Int)))
 (sel (decide ((a0.consts.length : Int) = (a0.vars.length : Int)))
 (sel (decide ((a0.rows.length : Int) = 0))
 (R (.bool (decide ((a0.lits.length : Int) = 0))))
 (R (.bool false)))
 (R (.bool false)))
 (R (.bool false)))
 (sel (decide (a0.kind = 2))
 (sel (decide (1 ≤ (a0.vars.length : Int)))
 (sel (decide ((a0.consts.length : Int) = (a0.vars.length : Int)))
 (sel (decide ((a0.rows.length : Int) = 0))
 (R (.bool (decide ((a0.lits.length : Int) = 0))))
 (R (.bool false)))
 (R (.bool false)))
 (R (.bool false)))
 (sel (decide (a0.kind = 3))
 (sel (decide (1 ≤ (a0.vars.length : Int)))
 (sel (decide ((a0.consts.length : Int) = (a0.vars.length : Int)))
 (sel (decide ((a0.rows.length : Int) = 0))
 (R (.bool (decide ((a0.lits.length : Int) = 0))))
 (R (.bool false)))
 (R (.bool false)))
 (R (.bool false)))
 (sel (decide (a0.kind = 4))
 (sel (decide (1 ≤ (a0.vars.length : Int)))
 (sel (decide ((a0.consts.length : Int) = 0))
 (sel (decide ((a0.rows.length : Int) = 0))
 (R (.bool (decide ((a0.lits.length : Int) = 0))))
 (R (.bool false)))
 (R (.bool false)))
 (R (.bool false)))
 (sel (decide (a0.kind = 5))
 (sel (decide ((a0.vars.length : Int) = 2))
 (sel (decide (1 ≤ (a0.consts.length : Int)))
 (sel (decide ((a0.rows.length : Int) = 0))
 (R (.bool (decide ((a0.lits.length : Int) = 0))))
 (R (.bool false)))
 (R (.bool false)))
 (R (.bool false)))
 (sel (decide (a0.kind = 6))
 (∃ n1, cordonref_rightForm_I1 a0 R n1 0)
 (sel (decide (a0.kind = 7))
 (sel (decide ((a0.vars.length : Int) = 3))
 (sel (decide ((a0.consts.length : Int) = 0))
 (sel (decide ((a0.rows.length : Int) = 0))
 (R (.bool (decide ((a0.lits.length : Int) = 0))))
 (R (.bool false)))
 (R (.bool false)))
 (R (.bool false)))
 (sel (decide (a0.kind = 8))
 (sel (decide (2 ≤ (a0.vars.length : Int)))
 (sel (decide ((a0.consts.length : Int) = 0))
 (sel (decide ((a0.rows.length : Int) = 0))
 (R (.bool (decide ((a0.lits.length : Int) = 0))))
 (R (.bool false)))
 (R (.bool false)))
 (R (.bool false)))
 (sel (decide (a0.kind = 9))
 (sel (decide ((a0.vars.length : Int) = 0))
 (sel (decide ((a0.consts.length : Int) = 0))
 (R (.bool (decide ((a0.rows.length : Int) = 0))))
 (R (.bool false)))
 (R (.bool false)))
 (sel (decide ((a0.vars.length : Int) = 1))
 (sel (decide ((a0.consts.length : Int) = 0))
 (sel (decide ((a0.rows.length : Int) = 0))
 (R (.bool (decide ((a0.lits.length : Int) = 1))))
 (R (.bool false)))
 (R (.bool false)))
 (R (.bool false)))))))))))))
 (sel (decide (a0.kind = 1))
 (sel (decide (1 ≤ (a0.vars.length : Int)))
 (sel (decide ((a0.consts.length : Int) = (a0.vars.length : Int)))
 (sel (decide ((a0.rows.length : Int) = 0))
 (R (.bool (decide ((a0.lits.length : Int) = 0))))
 (R (.bool false)))
 (R (.bool false)))
 (R (.bool false)))
 (sel (decide (a0.kind = 2))
 (sel (decide (1 ≤ (a0.vars.length : Int)))
 (sel (decide ((a0.consts.length : Int) = (a0.vars.length : Int)))
 (sel (decide ((a0.rows.length : Int) = 0))
 (R (.bool (decide ((a0.lits.length : Int) = 0))))
 (R (.bool false)))
 (R (.bool false)))
 (R (.bool false)))
 (sel (decide (a0.kind = 3))
 (sel (decide (1 ≤ (a0.vars.length : Int)))
 (sel (decide ((a0.consts.length : Int) = (a0.vars.length : Int)))
 (sel (decide ((a0.rows.length : Int) = 0))
 (R (.bool (decide ((a0.lits.length : Int) = 0))))
 (R (.bool false)))
 (R (.bool false)))
 (R (.bool false)))
 (sel (decide (a0.kind = 4))
 (sel (decide (1 ≤ (a0.vars.length : Int)))
 (sel (decide ((a0.consts.length : Int) = 0))
 (sel (decide ((a0.rows.length : Int) = 0))
 (R (.bool (decide ((a0.lits.length : Int) = 0))))
 (R (.bool false)))
 (R (.bool false)))
 (R (.bool false)))
 (sel (decide (a0.kind = 5))
 (sel (decide ((a0.vars.length : Int) = 2))
 (sel (decide (1 ≤ (a0.consts.length : Int)))
 (sel (decide ((a0.rows.length : Int) = 0))
 (R (.bool (decide ((a0.lits.length : Int) = 0))))
 (R (.bool false)))
 (R (.bool false)))
 (R (.bool false)))
 (sel (decide (a0.kind = 6))
 (∃ n1_2, cordonref_rightForm_I1_2 a0 R n1_2 0)
 (sel (decide (a0.kind = 7))
 (sel (decide ((a0.vars.length : Int) = 3))
 (sel (decide ((a0.consts.length : Int) = 0))
 (sel (decide ((a0.rows.length : Int) = 0))
 (R (.bool (decide ((a0.lits.length : Int) = 0))))
 (R (.bool false)))
 (R (.bool false)))
 (R (.bool false)))
 (sel (decide (a0.kind = 8))
 (sel (decide (2 ≤ (a0.vars.length : Int)))
 (sel (decide ((a0.consts.length : Int) = 0))
 (sel (decide ((a0.rows.length : Int) = 0))
 (R (.bool (decide ((a0.lits.length : Int) = 0))))
 (R (.bool false)))
 (R (.bool false)))
 (R (.bool false)))
 (sel (decide (a0.kind = 9))
 (sel (decide ((a0.vars.length : Int) = 0))
 (sel (decide ((a0.consts.length : Int) = 0))
 (R (.bool (decide ((a0.rows.length : Int) = 0))))
 (R (.bool false)))
 (R (.bool false)))
 (sel (decide ((a0.vars.length : Int) = 1))
 (sel (decide ((a0.consts.length : Int) = 0))
 (sel (decide ((a0.rows.length : Int) = 0))
 (R (.bool (decide ((a0.lits.length : Int) = 1))))
 (R (.bool false)))
 (R (.bool false)))
 (R (.bool false))))))))))))) := by kernel_rfl
theorem cordonref_rightForm_sat {r : D} (a0 : ConD) (h : (∀ d ∈ [.agg [.int .i64 a0.kind, .sl .int a0.vars, .sl .int a0.consts, .int .i64 a0.n, .sl (.list .int) a0.rows, .sl .lit a0.lits]], okD d) → fnD Tryz.prog Ev cordonref_rightForm_A Tryz.f65.results.toList (bodyOf Tryz.f65) [.agg [.int .i64 a0.kind, .sl .int a0.vars, .sl .int a0.consts, .int .i64 a0.n, .sl (.list .int) a0.rows, .sl .lit a0.lits]] fun d => d = r) : Sat Tryz.prog f_cordonref_rightForm [.agg [.int .i64 a0.kind, .sl .int a0.vars, .sl .int a0.consts, .int .i64 a0.n, .sl (.list .int) a0.rows, .sl .lit a0.lits]] r := by
  have h2 := sat_of (r := r) (args := [.agg [.int .i64 a0.kind, .sl .int a0.vars, .sl .int a0.consts, .int .i64 a0.n, .sl (.list .int) a0.rows, .sl .lit a0.lits]]) (A := cordonref_rightForm_A) (fn := Tryz.f65) (body := bodyOf Tryz.f65) (f := f_cordonref_rightForm) factsEv Tryz.func65 (by kernel_rfl) (by rw [Tryz.ntmps65]; rfl) (by rw [Tryz.ntmps65]; exact Nat.le_of_ble_eq_true rfl)
  with_reducible exact h2 h
/-! ### cordon/cordonref.inConst -/
def cordonref_inConst_A : Ann := { own := [], live := [], n := 5, nils := [], pubs := [] }
theorem cordonref_inConst_eq (a0 : Int) (R : D → Prop) : fnD Tryz.prog Ev cordonref_inConst_A Tryz.f66.results.toList (bodyOf Tryz.f66) [.int .i64 a0] R =
 (Call1 Tryz.prog f_cordonref_between [.int .i64 a0, .int .i64 (-1000), .int .i64 1000] .bool fun c1 =>
 R (.bool c1)) := by kernel_rfl
theorem cordonref_inConst_sat {r : D} (a0 : Int) (h : (∀ d ∈ [.int .i64 a0], okD d) → fnD Tryz.prog Ev cordonref_inConst_A Tryz.f66.results.toList (bodyOf Tryz.f66) [.int .i64 a0] fun d => d = r) : Sat Tryz.prog f_cordonref_inConst [.int .i64 a0] r := by
  have h2 := sat_of (r := r) (args := [.int .i64 a0]) (A := cordonref_inConst_A) (fn := Tryz.f66) (body := bodyOf Tryz.f66) (f := f_cordonref_inConst) factsEv Tryz.func66 (by kernel_rfl) (by rw [Tryz.ntmps66]; rfl) (by rw [Tryz.ntmps66]; exact Nat.le_of_ble_eq_true rfl)
  with_reducible exact h2 h
end Go.Proofs.YtonkbljpcgadlaaGreat
