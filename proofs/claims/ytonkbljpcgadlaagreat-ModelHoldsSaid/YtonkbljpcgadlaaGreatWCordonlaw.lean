/- What the functions of a package do, as equations of plain propositions: printed by a program that carries the code out on symbols. -/
import Derived.Test.YtonkbljpcgadlaaGreatWEv
namespace Go.Proofs.YtonkbljpcgadlaaGreat
open Go.RowKit
set_option linter.unusedVariables false
set_option maxRecDepth 100000
/-! ### cordon/cordonlaw.ModelHolds -/
def cordonlaw_ModelHolds_A : Ann := { own := [], live := [], n := 105, nils := [], pubs := [] }
theorem cordonlaw_ModelHolds_eq (a0 : MdlD) (a1 : Int) (a2 : List Int) (R : D → Prop) : fnD Tryz.prog Ev cordonlaw_ModelHolds_A Tryz.f4.results.toList (bodyOf Tryz.f4) [.agg [.sl .var a0.vars, .sl .con a0.cons, .int .i64 a0.goal, .int .i64 a0.var], .int .i64 a1, .sl .int a2] R =
 (Call2 Tryz.prog f_model_Holds [.agg [.sl .var a0.vars, .sl .con a0.cons, .int .i64 a0.goal, .int .i64 a0.var], .int .i64 a1, .sl .int a2] .bool .int fun m1 m2 =>
 Call2 Tryz.prog f_model_All [.agg [.sl .var a0.vars, .sl .con a0.cons, .int .i64 a0.goal, .int .i64 a0.var], .sl .int a2] .bool .int fun m3 m4 =>
 Call1 Tryz.prog f_cordonref_CheckModel [.agg [.sl .var a0.vars, .sl .con a0.cons, .int .i64 a0.goal, .int .i64 a0.var]] .int fun c5 =>
 sel (decide (c5 = 0))
 (sel (decide (a1 < 0))
 (sel (decide ((5 : Int) = 0))
 (sel (!decide ((a2.length : Int) = (a0.vars.length : Int)))
 (sel (decide ((1 : Int) = 0))
 (Call1 Tryz.prog f_cordonlaw_far [.sl .int a2] .bool fun c6 =>
 sel c6
 (sel (decide (c5 = 0))
 (sel (!decide ((a2.length : Int) = (a0.vars.length : Int)))
 (Call1 Tryz.prog f_cordonlaw_modelBegun [] .bool fun c7 =>
 sel c7
 (sel (decide (m2 = 3))
 (sel (decide ((3 : Int) = 0))
 (inb a1 a0.cons.length = true ∧
 Call1 Tryz.prog f_cordonref_ConHolds [.agg [.int .i64 ((at' .con a0.cons a1.toNat).kind), .sl .int ((at' .con a0.cons a1.toNat).vars), .sl .int ((at' .con a0.cons a1.toNat).consts), .int .i64 ((at' .con a0.cons a1.toNat).n), .sl (.list .int) ((at' .con a0.cons a1.toNat).rows), .sl .lit ((at' .con a0.cons a1.toNat).lits)], .sl .int a2] .bool fun c8 =>
 sel (m1 == c8)
 (sel (decide (m4 = 1))
 (sel (decide ((1 : Int) = 0))
 (Call1 Tryz.prog f_cordonref_AllHold [.agg [.sl .var a0.vars, .sl .con a0.cons, .int .i64 a0.goal, .int .i64 a0.var], .sl .int a2] .bool fun c9 =>
 R (.bool (m3 == c9)))
 (R (.bool (m3 == false))))
 (R (.bool false)))
 (R (.bool false)))
 (sel (m1 == false)
 (sel (decide (m4 = 1))
 (sel (decide ((1 : Int) = 0))
 (Call1 Tryz.prog f_cordonref_AllHold [.agg [.sl .var a0.vars, .sl .con a0.cons, .int .i64 a0.goal, .int .i64 a0.var], .sl .int a2] .bool fun c10 =>
 R (.bool (m3 == c10)))
 (R (.bool (m3 == false))))
 (R (.bool false)))
 (R (.bool false))))
 (R (.bool false)))
 (R (.bool false)))
 (Call1 Tryz.prog f_cordonlaw_modelBegun [] .bool fun c11 =>
 sel c11
 (sel (decide (m2 = 3))
 (sel (decide ((3 : Int) = 0))
 (inb a1 a0.cons.length = true ∧
 Call1 Tryz.prog f_cordonref_ConHolds [.agg [.int .i64 ((at' .con a0.cons a1.toNat).kind), .sl .int ((at' .con a0.cons a1.toNat).vars), .sl .int ((at' .con a0.cons a1.toNat).consts), .int .i64 ((at' .con a0.cons a1.toNat).n), .sl (.list .int) ((at' .con a0.cons a1.toNat).rows), .sl .lit ((at' .con a0.cons a1.toNat).lits)], .sl .int a2] .bool fun c12 =>
 sel (m1 == c12)
 (sel (decide (m4 = c5))
 (sel (decide (c5 = 0))
 (Call1 Tryz.prog f_cordonref_AllHold [.agg [.sl .var a0.vars, .sl .con a0.cons, .int .i64 a0.goal, .int .i64 a0.var], .sl .int a2] .bool fun c13 =>
 R (.bool (m3 == c13)))
 (R (.bool (m3 == false))))
 (R (.bool false)))
 (R (.bool false)))
 (sel (m1 == false)
 (sel (decide (m4 = c5))
 (sel (decide (c5 = 0))
 (Call1 Tryz.prog f_cordonref_AllHold [.agg [.sl .var a0.vars, .sl .con a0.cons, .int .i64 a0.goal, .int .i64 a0.var], .sl .int a2] .bool fun c14 =>
 R (.bool (m3 == c14)))
 (R (.bool (m3 == false))))
 (R (.bool false)))
 (R (.bool false))))
 (R (.bool false)))
 (R (.bool false))))
 (Call1 Tryz.prog f_cordonlaw_modelBegun [] .bool fun c15 =>
 sel c15
 (sel (decide (m2 = 3))
 (sel (decide ((3 : Int) = 0))
 (inb a1 a0.cons.length = true ∧
 Call1 Tryz.prog f_cordonref_ConHolds [.agg [.int .i64 ((at' .con a0.cons a1.toNat).kind), .sl .int ((at' .con a0.cons a1.toNat).vars), .sl .int ((at' .con a0.cons a1.toNat).consts), .int .i64 ((at' .con a0.cons a1.toNat).n), .sl (.list .int) ((at' .con a0.cons a1.toNat).rows), .sl .lit ((at' .con a0.cons a1.toNat).lits)], .sl .int a2] .bool fun c16 =>
 sel (m1 == c16)
 (sel (decide (m4 = c5))
 (sel (decide (c5 = 0))
 (Call1 Tryz.prog f_cordonref_AllHold [.agg [.sl .var a0.vars, .sl .con a0.cons, .int .i64 a0.goal, .int .i64 a0.var], .sl .int a2] .bool fun c17 =>
 R (.bool (m3 == c17)))
 (R (.bool (m3 == false))))
 (R (.bool false)))
 (R (.bool false)))
 (sel (m1 == false)
 (sel (decide (m4 = c5))
 (sel (decide (c5 = 0))
 (Call1 Tryz.prog f_cordonref_AllHold [.agg [.sl .var a0.vars, .sl .con a0.cons, .int .i64 a0.goal, .int .i64 a0.var], .sl .int a2] .bool fun c18 =>
 R (.bool (m3 == c18)))
 (R (.bool (m3 == false))))
 (R (.bool false)))
 (R (.bool false))))
 (R (.bool false)))
 (R (.bool false))))
 (sel (decide (c5 = 0))
 (sel (!decide ((a2.length : Int) = (a0.vars.length : Int)))
 (Call1 Tryz.prog f_cordonlaw_modelBegun [] .bool fun c19 =>
 sel c19
 (sel (decide (m2 = 1))
 (sel (decide ((1 : Int) = 0))
 (inb a1 a0.cons.length = true ∧
 Call1 Tryz.prog f_cordonref_ConHolds [.agg [.int .i64 ((at' .con a0.cons a1.toNat).kind), .sl .int ((at' .con a0.cons a1.toNat).vars), .sl .int ((at' .con a0.cons a1.toNat).consts), .int .i64 ((at' .con a0.cons a1.toNat).n), .sl (.list .int) ((at' .con a0.cons a1.toNat).rows), .sl .lit ((at' .con a0.cons a1.toNat).lits)], .sl .int a2] .bool fun c20 =>
 sel (m1 == c20)
 (sel (decide (m4 = 1))
 (sel (decide ((1 : Int) = 0))
 (Call1 Tryz.prog f_cordonref_AllHold [.agg [.sl .var a0.vars, .sl .con a0.cons, .int .i64 a0.goal, .int .i64 a0.var], .sl .int a2] .bool fun c21 =>
 R (.bool (m3 == c21)))
 (R (.bool (m3 == false))))
 (R (.bool false)))
 (R (.bool false)))
 (sel (m1 == false)
 (sel (decide (m4 = 1))
 (sel (decide ((1 : Int) = 0))
 (Call1 Tryz.prog f_cordonref_AllHold [.agg [.sl .var a0.vars, .sl .con a0.cons, .int .i64 a0.goal, .int .i64 a0.var], .sl .int a2] .bool fun c22 =>
 R (.bool (m3 == c22)))
 (R (.bool (m3 == false))))
 (R (.bool false)))
 (R (.bool false))))
 (R (.bool false)))
 (R (.bool false)))
 (Call1 Tryz.prog f_cordonlaw_modelBegun [] .bool fun c23 =>
 sel c23
 (sel (decide (m2 = 1))
 (sel (decide ((1 : Int) = 0))
 (inb a1 a0.cons.length = true ∧
 Call1 Tryz.prog f_cordonref_ConHolds [.agg [.int .i64 ((at' .con a0.cons a1.toNat).kind), .sl .int ((at' .con a0.cons a1.toNat).vars), .sl .int ((at' .con a0.cons a1.toNat).consts), .int .i64 ((at' .con a0.cons a1.toNat).n), .sl (.list .int) ((at' .con a0.cons a1.toNat).rows), .sl .lit ((at' .con a0.cons a1.toNat).lits)], .sl .int a2] .bool fun c24 =>
 sel (m1 == c24)
 (sel (decide (m4 = c5))
 (sel (decide (c5 = 0))
 (Call1 Tryz.prog f_cordonref_AllHold [.agg [.sl .var a0.vars, .sl .con a0.cons, .int .i64 a0.goal, .int .i64 a0.var], .sl .int a2] .bool fun c25 =>
 R (.bool (m3 == c25)))
 (R (.bool (m3 == false))))
 (R (.bool false)))
 (R (.bool false)))
 (sel (m1 == false)
 (sel (decide (m4 = c5))
 (sel (decide (c5 = 0))
 (Call1 Tryz.prog f_cordonref_AllHold [.agg [.sl .var a0.vars, .sl .con a0.cons, .int .i64 a0.goal, .int .i64 a0.var], .sl .int a2] .bool fun c26 =>
 R (.bool (m3 == c26)))
 (R (.bool (m3 == false))))
 (R (.bool false)))
 (R (.bool false))))
 (R (.bool false)))
 (R (.bool false))))
 (Call1 Tryz.prog f_cordonlaw_modelBegun [] .bool fun c27 =>
 sel c27
 (sel (decide (m2 = 1))
 (sel (decide ((1 : Int) = 0))
 (inb a1 a0.cons.length = true ∧
 Call1 Tryz.prog f_cordonref_ConHolds [.agg [.int .i64 ((at' .con a0.cons a1.toNat).kind), .sl .int ((at' .con a0.cons a1.toNat).vars), .sl .int ((at' .con a0.cons a1.toNat).consts), .int .i64 ((at' .con a0.cons a1.toNat).n), .sl (.list .int) ((at' .con a0.cons a1.toNat).rows), .sl .lit ((at' .con a0.cons a1.toNat).lits)], .sl .int a2] .bool fun c28 =>
 sel (m1 == c28)
 (sel (decide (m4 = c5))
 (sel (decide (c5 = 0))
 (Call1 Tryz.prog f_cordonref_AllHold [.agg [.sl .var a0.vars, .sl .con a0.cons, .int .i64 a0.goal, .int .i64 a0.var], .sl .int a2] .bool fun c29 =>
 R (.bool (m3 == c29)))
 (R (.bool (m3 == false))))
 (R (.bool false)))
 (R (.bool false)))
 (sel (m1 == false)
 (sel (decide (m4 = c5))
 (sel (decide (c5 = 0))
 (Call1 Tryz.prog f_cordonref_AllHold [.agg [.sl .var a0.vars, .sl .con a0.cons, .int .i64 a0.goal, .int .i64 a0.var], .sl .int a2] .bool fun c30 =>
 R (.bool (m3 == c30)))
 (R (.bool (m3 == false))))
 (R (.bool false)))
 (R (.bool false))))
 (R (.bool false)))
 (R (.bool false)))))
 (sel (decide (c5 = 0))
 (sel (!decide ((a2.length : Int) = (a0.vars.length : Int)))
 (Call1 Tryz.prog f_cordonlaw_modelBegun [] .bool fun c31 =>
 sel c31
 (sel (decide (m2 = 1))
 (sel (decide ((1 : Int) = 0))
 (inb a1 a0.cons.length = true ∧
 Call1 Tryz.prog f_cordonref_ConHolds [.agg [.int .i64 ((at' .con a0.cons a1.toNat).kind), .sl .int ((at' .con a0.cons a1.toNat).vars), .sl .int ((at' .con a0.cons a1.toNat).consts), .int .i64 ((at' .con a0.cons a1.toNat).n), .sl (.list .int) ((at' .con a0.cons a1.toNat).rows), .sl .lit ((at' .con a0.cons a1.toNat).lits)], .sl .int a2] .bool fun c32 =>
 sel (m1 == c32)
 (sel (decide (m4 = 1))
 (sel (decide ((1 : Int) = 0))
 (Call1 Tryz.prog f_cordonref_AllHold [.agg [.sl .var a0.vars, .sl .con a0.cons, .int .i64 a0.goal, .int .i64 a0.var], .sl .int a2] .bool fun c33 =>
 R (.bool (m3 == c33)))
 (R (.bool (m3 == false))))
 (R (.bool false)))
 (R (.bool false)))
 (sel (m1 == false)
 (sel (decide (m4 = 1))
 (sel (decide ((1 : Int) = 0))
 (Call1 Tryz.prog f_cordonref_AllHold [.agg [.sl .var a0.vars, .sl .con a0.cons, .int .i64 a0.goal, .int .i64 a0.var], .sl .int a2] .bool fun c34 =>
 R (.bool (m3 == c34)))
 (R (.bool (m3 == false))))
 (R (.bool false)))
 (R (.bool false))))
 (R (.bool false)))
 (R (.bool false)))
 (Call1 Tryz.prog f_cordonlaw_modelBegun [] .bool fun c35 =>
 sel c35
 (sel (decide (m2 = 1))
 (sel (decide ((1 : Int) = 0))
 (inb a1 a0.cons.length = true ∧
 Call1 Tryz.prog f_cordonref_ConHolds [.agg [.int .i64 ((at' .con a0.cons a1.toNat).kind), .sl .int ((at' .con a0.cons a1.toNat).vars), .sl .int ((at' .con a0.cons a1.toNat).consts), .int .i64 ((at' .con a0.cons a1.toNat).n), .sl (.list .int) ((at' .con a0.cons a1.toNat).rows), .sl .lit ((at' .con a0.cons a1.toNat).lits)], .sl .int a2] .bool fun c36 =>
 sel (m1 == c36)
 (sel (decide (m4 = c5))
 (sel (decide (c5 = 0))
 (Call1 Tryz.prog f_cordonref_AllHold [.agg [.sl .var a0.vars, .sl .con a0.cons, .int .i64 a0.goal, .int .i64 a0.var], .sl .int a2] .bool fun c37 =>
 R (.bool (m3 == c37)))
 (R (.bool (m3 == false))))
 (R (.bool false)))
 (R (.bool false)))
 (sel (m1 == false)
 (sel (decide (m4 = c5))
 (sel (decide (c5 = 0))
 (Call1 Tryz.prog f_cordonref_AllHold [.agg [.sl .var a0.vars, .sl .con a0.cons, .int .i64 a0.goal, .int .i64 a0.var], .sl .int a2] .bool fun c38 =>
 R (.bool (m3 == c38)))
 (R (.bool (m3 == false))))
 (R (.bool false)))
 (R (.bool false))))
 (R (.bool false)))
 (R (.bool false))))
 (Call1 Tryz.prog f_cordonlaw_modelBegun [] .bool fun c39 =>
 sel c39
 (sel (decide (m2 = 1))
 (sel (decide ((1 : Int) = 0))
 (inb a1 a0.cons.length = true ∧
 Call1 Tryz.prog f_cordonref_ConHolds [.agg [.int .i64 ((at' .con a0.cons a1.toNat).kind), .sl .int ((at' .con a0.cons a1.toNat).vars), .sl .int ((at' .con a0.cons a1.toNat).consts), .int .i64 ((at' .con a0.cons a1.toNat).n), .sl (.list .int) ((at' .con a0.cons a1.toNat).rows), .sl .lit ((at' .con a0.cons a1.toNat).lits)], .sl .int a2] .bool fun c40 =>
 sel (m1 == c40)
 (sel (decide (m4 = c5))
 (sel (decide (c5 = 0))
 (Call1 Tryz.prog f_cordonref_AllHold [.agg [.sl .var a0.vars, .sl .con a0.cons, .int .i64 a0.goal, .int .i64 a0.var], .sl .int a2] .bool fun c41 =>
 R (.bool (m3 == c41)))
 (R (.bool (m3 == false))))
 (R (.bool false)))
 (R (.bool false)))
 (sel (m1 == false)
 (sel (decide (m4 = c5))
 (sel (decide (c5 = 0))
 (Call1 Tryz.prog f_cordonref_AllHold [.agg [.sl .var a0.vars, .sl .con a0.cons, .int .i64 a0.goal, .int .i64 a0.var], .sl .int a2] .bool fun c42 =>
 R (.bool (m3 == c42)))
 (R (.bool (m3 == false))))
 (R (.bool false)))
 (R (.bool false))))
 (R (.bool false)))
 (R (.bool false)))))
 (sel (decide ((5 : Int) = 0))
 (Call1 Tryz.prog f_cordonlaw_far [.sl .int a2] .bool fun c43 =>
 sel c43
 (sel (decide (c5 = 0))
 (sel (!decide ((a2.length : Int) = (a0.vars.length : Int)))
 (Call1 Tryz.prog f_cordonlaw_modelBegun [] .bool fun c44 =>
 sel c44
 (sel (decide (m2 = 3))
 (sel (decide ((3 : Int) = 0))
 (inb a1 a0.cons.length = true ∧
 Call1 Tryz.prog f_cordonref_ConHolds [.agg [.int .i64 ((at' .con a0.cons a1.toNat).kind), .sl .int ((at' .con a0.cons a1.toNat).vars), .sl .int ((at' .con a0.cons a1.toNat).consts), .int .i64 ((at' .con a0.cons a1.toNat).n), .sl (.list .int) ((at' .con a0.cons a1.toNat).rows), .sl .lit ((at' .con a0.cons a1.toNat).lits)], .sl .int a2] .bool fun c45 =>
 sel (m1 == c45)
 (sel (decide (m4 = 1))
 (sel (decide ((1 : Int) = 0))
 (Call1 Tryz.prog f_cordonref_AllHold [.agg [.sl .var a0.vars, .sl .con a0.cons, .int .i64 a0.goal, .int .i64 a0.var], .sl .int a2] .bool fun c46 =>
 R (.bool (m3 == c46)))
 (R (.bool (m3 == false))))
 (R (.bool false)))
 (R (.bool false)))
 (sel (m1 == false)
 (sel (decide (m4 = 1))
 (sel (decide ((1 : Int) = 0))
 (Call1 Tryz.prog f_cordonref_AllHold [.agg [.sl .var a0.vars, .sl .con a0.cons, .int .i64 a0.goal, .int .i64 a0.var], .sl .int a2] .bool fun c47 =>
 R (.bool (m3 == c47)))
 (R (.bool (m3 == false))))
 (R (.bool false)))
 (R (.bool false))))
 (R (.bool false)))
 (R (.bool false)))
 (Call1 Tryz.prog f_cordonlaw_modelBegun [] .bool fun c48 =>
 sel c48
 (sel (decide (m2 = 3))
 (sel (decide ((3 : Int) = 0))
 (inb a1 a0.cons.length = true ∧
 Call1 Tryz.prog f_cordonref_ConHolds [.agg [.int .i64 ((at' .con a0.cons a1.toNat).kind), .sl .int ((at' .con a0.cons a1.toNat).vars), .sl .int ((at' .con a0.cons a1.toNat).consts), .int .i64 ((at' .con a0.cons a1.toNat).n), .sl (.list .int) ((at' .con a0.cons a1.toNat).rows), .sl .lit ((at' .con a0.cons a1.toNat).lits)], .sl .int a2] .bool fun c49 =>
 sel (m1 == c49)
 (sel (decide (m4 = c5))
 (sel (decide (c5 = 0))
 (Call1 Tryz.prog f_cordonref_AllHold [.agg [.sl .var a0.vars, .sl .con a0.cons, .int .i64 a0.goal, .int .i64 a0.var], .sl .int a2] .bool fun c50 =>
 R (.bool (m3 == c50)))
 (R (.bool (m3 == false))))
 (R (.bool false)))
 (R (.bool false)))
 (sel (m1 == false)
 (sel (decide (m4 = c5))
 (sel (decide (c5 = 0))
 (Call1 Tryz.prog f_cordonref_AllHold [.agg [.sl .var a0.vars, .sl .con a0.cons, .int .i64 a0.goal, .int .i64 a0.var], .sl .int a2] .bool fun c51 =>
 R (.bool (m3 == c51)))
 (R (.bool (m3 == false))))
 (R (.bool false)))
 (R (.bool false))))
 (R (.bool false)))
 (R (.bool false))))
 (Call1 Tryz.prog f_cordonlaw_modelBegun [] .bool fun c52 =>
 sel c52
 (sel (decide (m2 = 3))
 (sel (decide ((3 : Int) = 0))
 (inb a1 a0.cons.length = true ∧
 Call1 Tryz.prog f_cordonref_ConHolds [.agg [.int .i64 ((at' .con a0.cons a1.toNat).kind), .sl .int ((at' .con a0.cons a1.toNat).vars), .sl .int ((at' .con a0.cons a1.toNat).consts), .int .i64 ((at' .con a0.cons a1.toNat).n), .sl (.list .int) ((at' .con a0.cons a1.toNat).rows), .sl .lit ((at' .con a0.cons a1.toNat).lits)], .sl .int a2] .bool fun c53 =>
 sel (m1 == c53)
 (sel (decide (m4 = c5))
 (sel (decide (c5 = 0))
 (Call1 Tryz.prog f_cordonref_AllHold [.agg [.sl .var a0.vars, .sl .con a0.cons, .int .i64 a0.goal, .int .i64 a0.var], .sl .int a2] .bool fun c54 =>
 R (.bool (m3 == c54)))
 (R (.bool (m3 == false))))
 (R (.bool false)))
 (R (.bool false)))
 (sel (m1 == false)
 (sel (decide (m4 = c5))
 (sel (decide (c5 = 0))
 (Call1 Tryz.prog f_cordonref_AllHold [.agg [.sl .var a0.vars, .sl .con a0.cons, .int .i64 a0.goal, .int .i64 a0.var], .sl .int a2] .bool fun c55 =>
 R (.bool (m3 == c55)))
 (R (.bool (m3 == false))))
 (R (.bool false)))
 (R (.bool false))))
 (R (.bool false)))
 (R (.bool false))))
 (sel (decide (c5 = 0))
 (sel (!decide ((a2.length : Int) = (a0.vars.length : Int)))
 (Call1 Tryz.prog f_cordonlaw_modelBegun [] .bool fun c56 =>
 sel c56
 (sel (decide (m2 = 5))
 (sel (decide ((5 : Int) = 0))
 (inb a1 a0.cons.length = true ∧
 Call1 Tryz.prog f_cordonref_ConHolds [.agg [.int .i64 ((at' .con a0.cons a1.toNat).kind), .sl .int ((at' .con a0.cons a1.toNat).vars), .sl .int ((at' .con a0.cons a1.toNat).consts), .int .i64 ((at' .con a0.cons a1.toNat).n), .sl (.list .int) ((at' .con a0.cons a1.toNat).rows), .sl .lit ((at' .con a0.cons a1.toNat).lits)], .sl .int a2] .bool fun c57 =>
 sel (m1 == c57)
 (sel (decide (m4 = 1))
 (sel (decide ((1 : Int) = 0))
 (Call1 Tryz.prog f_cordonref_AllHold [.agg [.sl .var a0.vars, .sl .con a0.cons, .int .i64 a0.goal, .int .i64 a0.var], .sl .int a2] .bool fun c58 =>
 R (.bool (m3 == c58)))
 (R (.bool (m3 == false))))
 (R (.bool false)))
 (R (.bool false)))
 (sel (m1 == false)
 (sel (decide (m4 = 1))
 (sel (decide ((1 : Int) = 0))
 (Call1 Tryz.prog f_cordonref_AllHold [.agg [.sl .var a0.vars, .sl .con a0.cons, .int .i64 a0.goal, .int .i64 a0.var], .sl .int a2] .bool fun c59 =>
 R (.bool (m3 == c59)))
 (R (.bool (m3 == false))))
 (R (.bool false)))
 (R (.bool false))))
 (R (.bool false)))
 (R (.bool false)))
 (Call1 Tryz.prog f_cordonlaw_modelBegun [] .bool fun c60 =>
 sel c60
 (sel (decide (m2 = 5))
 (sel (decide ((5 : Int) = 0))
 (inb a1 a0.cons.length = true ∧
 Call1 Tryz.prog f_cordonref_ConHolds [.agg [.int .i64 ((at' .con a0.cons a1.toNat).kind), .sl .int ((at' .con a0.cons a1.toNat).vars), .sl .int ((at' .con a0.cons a1.toNat).consts), .int .i64 ((at' .con a0.cons a1.toNat).n), .sl (.list .int) ((at' .con a0.cons a1.toNat).rows), .sl .lit ((at' .con a0.cons a1.toNat).lits)], .sl .int a2] .bool fun c61 =>
 sel (m1 == c61)
 (sel (decide (m4 = c5))
 (sel (decide (c5 = 0))
 (Call1 Tryz.prog f_cordonref_AllHold [.agg [.sl .var a0.vars, .sl .con a0.cons, .int .i64 a0.goal, .int .i64 a0.var], .sl .int a2] .bool fun c62 =>
 R (.bool (m3 == c62)))
 (R (.bool (m3 == false))))
 (R (.bool false)))
 (R (.bool false)))
 (sel (m1 == false)
 (sel (decide (m4 = c5))
 (sel (decide (c5 = 0))
 (Call1 Tryz.prog f_cordonref_AllHold [.agg [.sl .var a0.vars, .sl .con a0.cons, .int .i64 a0.goal, .int .i64 a0.var], .sl .int a2] .bool fun c63 =>
 R (.bool (m3 == c63)))
 (R (.bool (m3 == false))))
 (R (.bool false)))
 (R (.bool false))))
 (R (.bool false)))
 (R (.bool false))))
 (Call1 Tryz.prog f_cordonlaw_modelBegun [] .bool fun c64 =>
 sel c64
 (sel (decide (m2 = 5))
 (sel (decide ((5 : Int) = 0))
 (inb a1 a0.cons.length = true ∧
 Call1 Tryz.prog f_cordonref_ConHolds [.agg [.int .i64 ((at' .con a0.cons a1.toNat).kind), .sl .int ((at' .con a0.cons a1.toNat).vars), .sl .int ((at' .con a0.cons a1.toNat).consts), .int .i64 ((at' .con a0.cons a1.toNat).n), .sl (.list .int) ((at' .con a0.cons a1.toNat).rows), .sl .lit ((at' .con a0.cons a1.toNat).lits)], .sl .int a2] .bool fun c65 =>
 sel (m1 == c65)
 (sel (decide (m4 = c5))
 (sel (decide (c5 = 0))
 (Call1 Tryz.prog f_cordonref_AllHold [.agg [.sl .var a0.vars, .sl .con a0.cons, .int .i64 a0.goal, .int .i64 a0.var], .sl .int a2] .bool fun c66 =>
 R (.bool (m3 == c66)))
 (R (.bool (m3 == false))))
 (R (.bool false)))
 (R (.bool false)))
 (sel (m1 == false)
 (sel (decide (m4 = c5))
 (sel (decide (c5 = 0))
 (Call1 Tryz.prog f_cordonref_AllHold [.agg [.sl .var a0.vars, .sl .con a0.cons, .int .i64 a0.goal, .int .i64 a0.var], .sl .int a2] .bool fun c67 =>
 R (.bool (m3 == c67)))
 (R (.bool (m3 == false))))
 (R (.bool false)))
 (R (.bool false))))
 (R (.bool false)))
 (R (.bool false)))))
 (sel (decide (c5 = 0))
 (sel (!decide ((a2.length : Int) = (a0.vars.length : Int)))
 (Call1 Tryz.prog f_cordonlaw_modelBegun [] .bool fun c68 =>
 sel c68
 (sel (decide (m2 = 5))
 (sel (decide ((5 : Int) = 0))
 (inb a1 a0.cons.length = true ∧
 Call1 Tryz.prog f_cordonref_ConHolds [.agg [.int .i64 ((at' .con a0.cons a1.toNat).kind), .sl .int ((at' .con a0.cons a1.toNat).vars), .sl .int ((at' .con a0.cons a1.toNat).consts), .int .i64 ((at' .con a0.cons a1.toNat).n), .sl (.list .int) ((at' .con a0.cons a1.toNat).rows), .sl .lit ((at' .con a0.cons a1.toNat).lits)], .sl .int a2] .bool fun c69 =>
 sel (m1 == c69)
 (sel (decide (m4 = 1))
 (sel (decide ((1 : Int) = 0))
 (Call1 Tryz.prog f_cordonref_AllHold [.agg [.sl .var a0.vars, .sl .con a0.cons, .int .i64 a0.goal, .int .i64 a0.var], .sl .int a2] .bool fun c70 =>
 R (.bool (m3 == c70)))
 (R (.bool (m3 == false))))
 (R (.bool false)))
 (R (.bool false)))
 (sel (m1 == false)
 (sel (decide (m4 = 1))
 (sel (decide ((1 : Int) = 0))
 (Call1 Tryz.prog f_cordonref_AllHold [.agg [.sl .var a0.vars, .sl .con a0.cons, .int .i64 a0.goal, .int .i64 a0.var], .sl .int a2] .bool fun c71 =>
 R (.bool (m3 == c71)))
 (R (.bool (m3 == false))))
 (R (.bool false)))
 (R (.bool false))))
 (R (.bool false)))
 (R (.bool false)))
 (Call1 Tryz.prog f_cordonlaw_modelBegun [] .bool fun c72 =>
 sel c72
 (sel (decide (m2 = 5))
 (sel (decide ((5 : Int) = 0))
 (inb a1 a0.cons.length = true ∧
 Call1 Tryz.prog f_cordonref_ConHolds [.agg [.int .i64 ((at' .con a0.cons a1.toNat).kind), .sl .int ((at' .con a0.cons a1.toNat).vars), .sl .int ((at' .con a0.cons a1.toNat).consts), .int .i64 ((at' .con a0.cons a1.toNat).n), .sl (.list .int) ((at' .con a0.cons a1.toNat).rows), .sl .lit ((at' .con a0.cons a1.toNat).lits)], .sl .int a2] .bool fun c73 =>
 sel (m1 == c73)
 (sel (decide (m4 = c5))
 (sel (decide (c5 = 0))
 (Call1 Tryz.prog f_cordonref_AllHold [.agg [.sl .var a0.vars, .sl .con a0.cons, .int .i64 a0.goal, .int .i64 a0.var], .sl .int a2] .bool fun c74 =>
 R (.bool (m3 == c74)))
 (R (.bool (m3 == false))))
 (R (.bool false)))
 (R (.bool false)))
 (sel (m1 == false)
 (sel (decide (m4 = c5))
 (sel (decide (c5 = 0))
 (Call1 Tryz.prog f_cordonref_AllHold [.agg [.sl .var a0.vars, .sl .con a0.cons, .int .i64 a0.goal, .int .i64 a0.var], .sl .int a2] .bool fun c75 =>
 R (.bool (m3 == c75)))
 (R (.bool (m3 == false))))
 (R (.bool false)))
 (R (.bool false))))
 (R (.bool false)))
 (R (.bool false))))
 (Call1 Tryz.prog f_cordonlaw_modelBegun [] .bool fun c76 =>
 sel c76
 (sel (decide (m2 = 5))
 (sel (decide ((5 : Int) = 0))
 (inb a1 a0.cons.length = true ∧
 Call1 Tryz.prog f_cordonref_ConHolds [.agg [.int .i64 ((at' .con a0.cons a1.toNat).kind), .sl .int ((at' .con a0.cons a1.toNat).vars), .sl .int ((at' .con a0.cons a1.toNat).consts), .int .i64 ((at' .con a0.cons a1.toNat).n), .sl (.list .int) ((at' .con a0.cons a1.toNat).rows), .sl .lit ((at' .con a0.cons a1.toNat).lits)], .sl .int a2] .bool fun c77 =>
 sel (m1 == c77)
 (sel (decide (m4 = c5))
 (sel (decide (c5 = 0))
 (Call1 Tryz.prog f_cordonref_AllHold [.agg [.sl .var a0.vars, .sl .con a0.cons, .int .i64 a0.goal, .int .i64 a0.var], .sl .int a2] .bool fun c78 =>
 R (.bool (m3 == c78)))
 (R (.bool (m3 == false))))
 (R (.bool false)))
 (R (.bool false)))
 (sel (m1 == false)
 (sel (decide (m4 = c5))
 (sel (decide (c5 = 0))
 (Call1 Tryz.prog f_cordonref_AllHold [.agg [.sl .var a0.vars, .sl .con a0.cons, .int .i64 a0.goal, .int .i64 a0.var], .sl .int a2] .bool fun c79 =>
 R (.bool (m3 == c79)))
 (R (.bool (m3 == false))))
 (R (.bool false)))
 (R (.bool false))))
 (R (.bool false)))
 (R (.bool false))))))
 (sel (decide ((5 : Int) = 0))
 (Call1 Tryz.prog f_cordonlaw_far [.sl .int a2] .bool fun c80 =>
 sel c80
 (sel (decide (c5 = 0))
 (sel (!decide ((a2.length : Int) = (a0.vars.length : Int)))
 (Call1 Tryz.prog f_cordonlaw_modelBegun [] .bool fun c81 =>
 sel c81
 (sel (decide (m2 = 3))
 (sel (decide ((3 : Int) = 0))
 (inb a1 a0.cons.length = true ∧
 Call1 Tryz.prog f_cordonref_ConHolds [.agg [.int .i64 ((at' .con a0.cons a1.toNat).kind), .sl .int ((at' .con a0.cons a1.toNat).vars), .sl .int ((at' .con a0.cons a1.toNat).consts), .int .i64 ((at' .con a0.cons a1.toNat).n), .sl (.list .int) ((at' .con a0.cons a1.toNat).rows), .sl .lit ((at' .con a0.cons a1.toNat).lits)], .sl .int a2] .bool fun c82 =>
 sel (m1 == c82)
 (sel (decide (m4 = 1))
 (sel (decide ((1 : Int) = 0))
 (Call1 Tryz.prog f_cordonref_AllHold [.agg [.sl .var a0.vars, .sl .con a0.cons, .int .i64 a0.goal, .int .i64 a0.var], .sl .int a2] .bool fun c83 =>
 R (.bool (m3 == c83)))
 (R (.bool (m3 == false))))
 (R (.bool false)))
 (R (.bool false)))
 (sel (m1 == false)
 (sel (decide (m4 = 1))
 (sel (decide ((1 : Int) = 0))
 (Call1 Tryz.prog f_cordonref_AllHold [.agg [.sl .var a0.vars, .sl .con a0.cons, .int .i64 a0.goal, .int .i64 a0.var], .sl .int a2] .bool fun c84 =>
 R (.bool (m3 == c84)))
 (R (.bool (m3 == false))))
 (R (.bool false)))
 (R (.bool false))))
 (R (.bool false)))
 (R (.bool false)))
 (Call1 Tryz.prog f_cordonlaw_modelBegun [] .bool fun c85 =>
 sel c85
 (sel (decide (m2 = 3))
 (sel (decide ((3 : Int) = 0))
 (inb a1 a0.cons.length = true ∧
 Call1 Tryz.prog f_cordonref_ConHolds [.agg [.int .i64 ((at' .con a0.cons a1.toNat).kind), .sl .int ((at' .con a0.cons a1.toNat).vars), .sl .int ((at' .con a0.cons a1.toNat).consts), .int .i64 ((at' .con a0.cons a1.toNat).n), .sl (.list .int) ((at' .con a0.cons a1.toNat).rows), .sl .lit ((at' .con a0.cons a1.toNat).lits)], .sl .int a2] .bool fun c86 =>
 sel (m1 == c86)
 (sel (decide (m4 = c5))
 (sel (decide (c5 = 0))
 (Call1 Tryz.prog f_cordonref_AllHold [.agg [.sl .var a0.vars, .sl .con a0.cons, .int .i64 a0.goal, .int .i64 a0.var], .sl .int a2] .bool fun c87 =>
 R (.bool (m3 == c87)))
 (R (.bool (m3 == false))))
 (R (.bool false)))
 (R (.bool false)))
 (sel (m1 == false)
 (sel (decide (m4 = c5))
 (sel (decide (c5 = 0))
 (Call1 Tryz.prog f_cordonref_AllHold [.agg [.sl .var a0.vars, .sl .con a0.cons, .int .i64 a0.goal, .int .i64 a0.var], .sl .int a2] .bool fun c88 =>
 R (.bool (m3 == c88)))
 (R (.bool (m3 == false))))
 (R (.bool false)))
 (R (.bool false))))
 (R (.bool false)))
 (R (.bool false))))
 (Call1 Tryz.prog f_cordonlaw_modelBegun [] .bool fun c89 =>
 sel c89
 (sel (decide (m2 = 3))
 (sel (decide ((3 : Int) = 0))
 (inb a1 a0.cons.length = true ∧
 Call1 Tryz.prog f_cordonref_ConHolds [.agg [.int .i64 ((at' .con a0.cons a1.toNat).kind), .sl .int ((at' .con a0.cons a1.toNat).vars), .sl .int ((at' .con a0.cons a1.toNat).consts), .int .i64 ((at' .con a0.cons a1.toNat).n), .sl (.list .int) ((at' .con a0.cons a1.toNat).rows), .sl .lit ((at' .con a0.cons a1.toNat).lits)], .sl .int a2] .bool fun c90 =>
 sel (m1 == c90)
 (sel (decide (m4 = c5))
 (sel (decide (c5 = 0))
 (Call1 Tryz.prog f_cordonref_AllHold [.agg [.sl .var a0.vars, .sl .con a0.cons, .int .i64 a0.goal, .int .i64 a0.var], .sl .int a2] .bool fun c91 =>
 R (.bool (m3 == c91)))
 (R (.bool (m3 == false))))
 (R (.bool false)))
 (R (.bool false)))
 (sel (m1 == false)
 (sel (decide (m4 = c5))
 (sel (decide (c5 = 0))
 (Call1 Tryz.prog f_cordonref_AllHold [.agg [.sl .var a0.vars, .sl .con a0.cons, .int .i64 a0.goal, .int .i64 a0.var], .sl .int a2] .bool fun c92 =>
 R (.bool (m3 == c92)))
 (R (.bool (m3 == false))))
 (R (.bool false)))
 (R (.bool false))))
 (R (.bool false)))
 (R (.bool false))))
 (sel (decide (c5 = 0))
 (sel (!decide ((a2.length : Int) = (a0.vars.length : Int)))
 (Call1 Tryz.prog f_cordonlaw_modelBegun [] .bool fun c93 =>
 sel c93
 (sel (decide (m2 = 5))
 (sel (decide ((5 : Int) = 0))
 (inb a1 a0.cons.length = true ∧
 Call1 Tryz.prog f_cordonref_ConHolds [.agg [.int .i64 ((at' .con a0.cons a1.toNat).kind), .sl .int ((at' .con a0.cons a1.toNat).vars), .sl .int ((at' .con a0.cons a1.toNat).consts), .int .i64 ((at' .con a0.cons a1.toNat).n), .sl (.list .int) ((at' .con a0.cons a1.toNat).rows), .sl .lit ((at' .con a0.cons a1.toNat).lits)], .sl .int a2] .bool fun c94 =>
 sel (m1 == c94)
 (sel (decide (m4 = 1))
 (sel (decide ((1 : Int) = 0))
 (Call1 Tryz.prog f_cordonref_AllHold [.agg [.sl .var a0.vars, .sl .con a0.cons, .int .i64 a0.goal, .int .i64 a0.var], .sl .int a2] .bool fun c95 =>
 R (.bool (m3 == c95)))
 (R (.bool (m3 == false))))
 (R (.bool false)))
 (R (.bool false)))
 (sel (m1 == false)
 (sel (decide (m4 = 1))
 (sel (decide ((1 : Int) = 0))
 (Call1 Tryz.prog f_cordonref_AllHold [.agg [.sl .var a0.vars, .sl .con a0.cons, .int .i64 a0.goal, .int .i64 a0.var], .sl .int a2] .bool fun c96 =>
 R (.bool (m3 == c96)))
 (R (.bool (m3 == false))))
 (R (.bool false)))
 (R (.bool false))))
 (R (.bool false)))
 (R (.bool false)))
 (Call1 Tryz.prog f_cordonlaw_modelBegun [] .bool fun c97 =>
 sel c97
 (sel (decide (m2 = 5))
 (sel (decide ((5 : Int) = 0))
 (inb a1 a0.cons.length = true ∧
 Call1 Tryz.prog f_cordonref_ConHolds [.agg [.int .i64 ((at' .con a0.cons a1.toNat).kind), .sl .int ((at' .con a0.cons a1.toNat).vars), .sl .int ((at' .con a0.cons a1.toNat).consts), .int .i64 ((at' .con a0.cons a1.toNat).n), .sl (.list .int) ((at' .con a0.cons a1.toNat).rows), .sl .lit ((at' .con a0.cons a1.toNat).lits)], .sl .int a2] .bool fun c98 =>
 sel (m1 == c98)
 (sel (decide (m4 = c5))
 (sel (decide (c5 = 0))
 (Call1 Tryz.prog f_cordonref_AllHold [.agg [.sl .var a0.vars, .sl .con a0.cons, .int .i64 a0.goal, .int .i64 a0.var], .sl .int a2] .bool fun c99 =>
 R (.bool (m3 == c99)))
 (R (.bool (m3 == false))))
 (R (.bool false)))
 (R (.bool false)))
 (sel (m1 == false)
 (sel (decide (m4 = c5))
 (sel (decide (c5 = 0))
 (Call1 Tryz.prog f_cordonref_AllHold [.agg [.sl .var a0.vars, .sl .con a0.cons, .int .i64 a0.goal, .int .i64 a0.var], .sl .int a2] .bool fun c100 =>
 R (.bool (m3 == c100)))
 (R (.bool (m3 == false))))
 (R (.bool false)))
 (R (.bool false))))
 (R (.bool false)))
 (R (.bool false))))
 (Call1 Tryz.prog f_cordonlaw_modelBegun [] .bool fun c101 =>
 sel c101
 (sel (decide (m2 = 5))
 (sel (decide ((5 : Int) = 0))
 (inb a1 a0.cons.length = true ∧
 Call1 Tryz.prog f_cordonref_ConHolds [.agg [.int .i64 ((at' .con a0.cons a1.toNat).kind), .sl .int ((at' .con a0.cons a1.toNat).vars), .sl .int ((at' .con a0.cons a1.toNat).consts), .int .i64 ((at' .con a0.cons a1.toNat).n), .sl (.list .int) ((at' .con a0.cons a1.toNat).rows), .sl .lit ((at' .con a0.cons a1.toNat).lits)], .sl .int a2] .bool fun c102 =>
 sel (m1 == c102)
 (sel (decide (m4 = c5))
 (sel (decide (c5 = 0))
 (Call1 Tryz.prog f_cordonref_AllHold [.agg [.sl .var a0.vars, .sl .con a0.cons, .int .i64 a0.goal, .int .i64 a0.var], .sl .int a2] .bool fun c103 =>
 R (.bool (m3 == c103)))
 (R (.bool (m3 == false))))
 (R (.bool false)))
 (R (.bool false)))
 (sel (m1 == false)
 (sel (decide (m4 = c5))
 (sel (decide (c5 = 0))
 (Call1 Tryz.prog f_cordonref_AllHold [.agg [.sl .var a0.vars, .sl .con a0.cons, .int .i64 a0.goal, .int .i64 a0.var], .sl .int a2] .bool fun c104 =>
 R (.bool (m3 == c104)))
 (R (.bool (m3 == false))))
 (R (.bool false)))
 (R (.bool false))))
 (R (.bool false)))
 (R (.bool false)))))
 (sel (decide (c5 = 0))
 (sel (!decide ((a2.length : Int) = (a0.vars.length : Int)))
 (Call1 Tryz.prog f_cordonlaw_modelBegun [] .bool fun c105 =>
 sel c105
 (sel (decide (m2 = 5))
 (sel (decide ((5 : Int) = 0))
 (inb a1 a0.cons.length = true ∧
 Call1 Tryz.prog f_cordonref_ConHolds [.agg [.int .i64 ((at' .con a0.cons a1.toNat).kind), .sl .int ((at' .con a0.cons a1.toNat).vars), .sl .int ((at' .con a0.cons a1.toNat).consts), .int .i64 ((at' .con a0.cons a1.toNat).n), .sl (.list .int) ((at' .con a0.cons a1.toNat).rows), .sl .lit ((at' .con a0.cons a1.toNat).lits)], .sl .int a2] .bool fun c106 =>
 sel (m1 == c106)
 (sel (decide (m4 = 1))
 (sel (decide ((1 : Int) = 0))
 (Call1 Tryz.prog f_cordonref_AllHold [.agg [.sl .var a0.vars, .sl .con a0.cons, .int .i64 a0.goal, .int .i64 a0.var], .sl .int a2] .bool fun c107 =>
 R (.bool (m3 == c107)))
 (R (.bool (m3 == false))))
 (R (.bool false)))
 (R (.bool false)))
 (sel (m1 == false)
 (sel (decide (m4 = 1))
 (sel (decide ((1 : Int) = 0))
 (Call1 Tryz.prog f_cordonref_AllHold [.agg [.sl .var a0.vars, .sl .con a0.cons, .int .i64 a0.goal, .int .i64 a0.var], .sl .int a2] .bool fun c108 =>
 R (.bool (m3 == c108)))
 (R (.bool (m3 == false))))
 (R (.bool false)))
 (R (.bool false))))
 (R (.bool false)))
 (R (.bool false)))
 (Call1 Tryz.prog f_cordonlaw_modelBegun [] .bool fun c109 =>
 sel c109
 (sel (decide (m2 = 5))
 (sel (decide ((5 : Int) = 0))
 (inb a1 a0.cons.length = true ∧
 Call1 Tryz.prog f_cordonref_ConHolds [.agg [.int .i64 ((at' .con a0.cons a1.toNat).kind), .sl .int ((at' .con a0.cons a1.toNat).vars), .sl .int ((at' .con a0.cons a1.toNat).consts), .int .i64 ((at' .con a0.cons a1.toNat).n), .sl (.list .int) ((at' .con a0.cons a1.toNat).rows), .sl .lit ((at' .con a0.cons a1.toNat).lits)], .sl .int a2] .bool fun c110 =>
 sel (m1 == c110)
 (sel (decide (m4 = c5))
 (sel (decide (c5 = 0))
 (Call1 Tryz.prog f_cordonref_AllHold [.agg [.sl .var a0.vars, .sl .con a0.cons, .int .i64 a0.goal, .int .i64 a0.var], .sl .int a2] .bool fun c111 =>
 R (.bool (m3 == c111)))
 (R (.bool (m3 == false))))
 (R (.bool false)))
 (R (.bool false)))
 (sel (m1 == false)
 (sel (decide (m4 = c5))
 (sel (decide (c5 = 0))
 (Call1 Tryz.prog f_cordonref_AllHold [.agg [.sl .var a0.vars, .sl .con a0.cons, .int .i64 a0.goal, .int .i64 a0.var], .sl .int a2] .bool fun c112 =>
 R (.bool (m3 == c112)))
 (R (.bool (m3 == false))))
 (R (.bool false)))
 (R (.bool false))))
 (R (.bool false)))
 (R (.bool false))))
 (Call1 Tryz.prog f_cordonlaw_modelBegun [] .bool fun c113 =>
 sel c113
 (sel (decide (m2 = 5))
 (sel (decide ((5 : Int) = 0))
 (inb a1 a0.cons.length = true ∧
 Call1 Tryz.prog f_cordonref_ConHolds [.agg [.int .i64 ((at' .con a0.cons a1.toNat).kind), .sl .int ((at' .con a0.cons a1.toNat).vars), .sl .int ((at' .con a0.cons a1.toNat).consts), .int .i64 ((at' .con a0.cons a1.toNat).n), .sl (.list .int) ((at' .con a0.cons a1.toNat).rows), .sl .lit ((at' .con a0.cons a1.toNat).lits)], .sl .int a2] .bool fun c114 =>
 sel (m1 == c114)
 (sel (decide (m4 = c5))
 (sel (decide (c5 = 0))
 (Call1 Tryz.prog f_cordonref_AllHold [.agg [.sl .var a0.vars, .sl .con a0.cons, .int .i64 a0.goal, .int .i64 a0.var], .sl .int a2] .bool fun c115 =>
 R (.bool (m3 == c115)))
 (R (.bool (m3 == false))))
 (R (.bool false)))
 (R (.bool false)))
 (sel (m1 == false)
 (sel (decide (m4 = c5))
 (sel (decide (c5 = 0))
 (Call1 Tryz.prog f_cordonref_AllHold [.agg [.sl .var a0.vars, .sl .con a0.cons, .int .i64 a0.goal, .int .i64 a0.var], .sl .int a2] .bool fun c116 =>
 R (.bool (m3 == c116)))
 (R (.bool (m3 == false))))
 (R (.bool false)))
 (R (.bool false))))
 (R (.bool false)))
 (R (.bool false))))))
 (sel (decide ((a0.cons.length : Int) ≤ a1))
 (sel (decide ((5 : Int) = 0))
 (sel (!decide ((a2.length : Int) = (a0.vars.length : Int)))
 (sel (decide ((1 : Int) = 0))
 (Call1 Tryz.prog f_cordonlaw_far [.sl .int a2] .bool fun c117 =>
 sel c117
 (sel (decide (c5 = 0))
 (sel (!decide ((a2.length : Int) = (a0.vars.length : Int)))
 (Call1 Tryz.prog f_cordonlaw_modelBegun [] .bool fun c118 =>
 sel c118
 (sel (decide (m2 = 3))
 (sel (decide ((3 : Int) = 0))
 (inb a1 a0.cons.length = true ∧
 Call1 Tryz.prog f_cordonref_ConHolds [.agg [.int .i64 ((at' .con a0.cons a1.toNat).kind), .sl .int ((at' .con a0.cons a1.toNat).vars), .sl .int ((at' .con a0.cons a1.toNat).consts), .int .i64 ((at' .con a0.cons a1.toNat).n), .sl (.list .int) ((at' .con a0.cons a1.toNat).rows), .sl .lit ((at' .con a0.cons a1.toNat).lits)], .sl .int a2] .bool fun c119 =>
 sel (m1 == c119)
 (sel (decide (m4 = 1))
 (sel (decide ((1 : Int) = 0))
 (Call1 Tryz.prog f_cordonref_AllHold [.agg [.sl .var a0.vars, .sl .con a0.cons, .int .i64 a0.goal, .int .i64 a0.var], .sl .int a2] .bool fun c120 =>
 R (.bool (m3 == c120)))
 (R (.bool (m3 == false))))
 (R (.bool false)))
 (R (.bool false)))
 (sel (m1 == false)
 (sel (decide (m4 = 1))
 (sel (decide ((1 : Int) = 0))
 (Call1 Tryz.prog f_cordonref_AllHold [.agg [.sl .var a0.vars, .sl .con a0.cons, .int .i64 a0.goal, .int .i64 a0.var], .sl .int a2] .bool fun c121 =>
 R (.bool (m3 == c121)))
 (R (.bool (m3 == false))))
 (R (.bool false)))
 (R (.bool false))))
 (R (.bool false)))
 (R (.bool false)))
 (Call1 Tryz.prog f_cordonlaw_modelBegun [] .bool fun c122 =>
 sel c122
 (sel (decide (m2 = 3))
 (sel (decide ((3 : Int) = 0))
 (inb a1 a0.cons.length = true ∧
 Call1 Tryz.prog f_cordonref_ConHolds [.agg [.int .i64 ((at' .con a0.cons a1.toNat).kind), .sl .int ((at' .con a0.cons a1.toNat).vars), .sl .int ((at' .con a0.cons a1.toNat).consts), .int .i64 ((at' .con a0.cons a1.toNat).n), .sl (.list .int) ((at' .con a0.cons a1.toNat).rows), .sl .lit ((at' .con a0.cons a1.toNat).lits)], .sl .int a2] .bool fun c123 =>
 sel (m1 == c123)
 (sel (decide (m4 = c5))
 (sel (decide (c5 = 0))
 (Call1 Tryz.prog f_cordonref_AllHold [.agg [.sl .var a0.vars, .sl .con a0.cons, .int .i64 a0.goal, .int .i64 a0.var], .sl .int a2] .bool fun c124 =>
 R (.bool (m3 == c124)))
 (R (.bool (m3 == false))))
 (R (.bool false)))
 (R (.bool false)))
 (sel (m1 == false)
 (sel (decide (m4 = c5))
 (sel (decide (c5 = 0))
 (Call1 Tryz.prog f_cordonref_AllHold [.agg [.sl .var a0.vars, .sl .con a0.cons, .int .i64 a0.goal, .int .i64 a0.var], .sl .int a2] .bool fun c125 =>
 R (.bool (m3 == c125)))
 (R (.bool (m3 == false))))
 (R (.bool false)))
 (R (.bool false))))
 (R (.bool false)))
 (R (.bool false))))
 (Call1 Tryz.prog f_cordonlaw_modelBegun [] .bool fun c126 =>
 sel c126
 (sel (decide (m2 = 3))
 (sel (decide ((3 : Int) = 0))
 (inb a1 a0.cons.length = true ∧
 Call1 Tryz.prog f_cordonref_ConHolds [.agg [.int .i64 ((at' .con a0.cons a1.toNat).kind), .sl .int ((at' .con a0.cons a1.toNat).vars), .sl .int ((at' .con a0.cons a1.toNat).consts), .int .i64 ((at' .con a0.cons a1.toNat).n), .sl (.list .int) ((at' .con a0.cons a1.toNat).rows), .sl .lit ((at' .con a0.cons a1.toNat).lits)], .sl .int a2] .bool fun c127 =>
 sel (m1 == c127)
 (sel (decide (m4 = c5))
 (sel (decide (c5 = 0))
 (Call1 Tryz.prog f_cordonref_AllHold [.agg [.sl .var a0.vars, .sl .con a0.cons, .int .i64 a0.goal, .int .i64 a0.var], .sl .int a2] .bool fun c128 =>
 R (.bool (m3 == c128)))
 (R (.bool (m3 == false))))
 (R (.bool false)))
 (R (.bool false)))
 (sel (m1 == false)
 (sel (decide (m4 = c5))
 (sel (decide (c5 = 0))
 (Call1 Tryz.prog f_cordonref_AllHold [.agg [.sl .var a0.vars, .sl .con a0.cons, .int .i64 a0.goal, .int .i64 a0.var], .sl .int a2] .bool fun c129 =>
 R (.bool (m3 == c129)))
 (R (.bool (m3 == false))))
 (R (.bool false)))
 (R (.bool false))))
 (R (.bool false)))
 (R (.bool false))))
 (sel (decide (c5 = 0))
 (sel (!decide ((a2.length : Int) = (a0.vars.length : Int)))
 (Call1 Tryz.prog f_cordonlaw_modelBegun [] .bool fun c130 =>
 sel c130
 (sel (decide (m2 = 1))
 (sel (decide ((1 : Int) = 0))
 (inb a1 a0.cons.length = true ∧
 Call1 Tryz.prog f_cordonref_ConHolds [.agg [.int .i64 ((at' .con a0.cons a1.toNat).kind), .sl .int ((at' .con a0.cons a1.toNat).vars), .sl .int ((at' .con a0.cons a1.toNat).consts), .int .i64 ((at' .con a0.cons a1.toNat).n), .sl (.list .int) ((at' .con a0.cons a1.toNat).rows), .sl .lit ((at' .con a0.cons a1.toNat).lits)], .sl .int a2] .bool fun c131 =>
 sel (m1 == c131)
 (sel (decide (m4 = 1))
 (sel (decide ((1 : Int) = 0))
 (Call1 Tryz.prog f_cordonref_AllHold [.agg [.sl .var a0.vars, .sl .con a0.cons, .int .i64 a0.goal, .int .i64 a0.var], .sl .int a2] .bool fun c132 =>
 R (.bool (m3 == c132)))
 (R (.bool (m3 == false))))
 (R (.bool false)))
 (R (.bool false)))
 (sel (m1 == false)
 (sel (decide (m4 = 1))
 (sel (decide ((1 : Int) = 0))
 (Call1 Tryz.prog f_cordonref_AllHold [.agg [.sl .var a0.vars, .sl .con a0.cons, .int .i64 a0.goal, .int .i64 a0.var], .sl .int a2] .bool fun c133 =>
 R (.bool (m3 == c133)))
 (R (.bool (m3 == false))))
 (R (.bool false)))
 (R (.bool false))))
 (R (.bool false)))
 (R (.bool false)))
 (Call1 Tryz.prog f_cordonlaw_modelBegun [] .bool fun c134 =>
 sel c134
 (sel (decide (m2 = 1))
 (sel (decide ((1 : Int) = 0))
 (inb a1 a0.cons.length = true ∧
 Call1 Tryz.prog f_cordonref_ConHolds [.agg [.int .i64 ((at' .con a0.cons a1.toNat).kind), .sl .int ((at' .con a0.cons a1.toNat).vars), .sl .int ((at' .con a0.cons a1.toNat).consts), .int .i64 ((at' .con a0.cons a1.toNat).n), .sl (.list .int) ((at' .con a0.cons a1.toNat).rows), .sl .lit ((at' .con a0.cons a1.toNat).lits)], .sl .int a2] .bool fun c135 =>
 sel (m1 == c135)
 (sel (decide (m4 = c5))
 (sel (decide (c5 = 0))
 (Call1 Tryz.prog f_cordonref_AllHold [.agg [.sl .var a0.vars, .sl .con a0.cons, .int .i64 a0.goal, .int .i64 a0.var], .sl .int a2] .bool fun c136 =>
 R (.bool (m3 == c136)))
 (R (.bool (m3 == false))))
 (R (.bool false)))
 (R (.bool false)))
 (sel (m1 == false)
 (sel (decide (m4 = c5))
 (sel (decide (c5 = 0))
 (Call1 Tryz.prog f_cordonref_AllHold [.agg [.sl .var a0.vars, .sl .con a0.cons, .int .i64 a0.goal, .int .i64 a0.var], .sl .int a2] .bool fun c137 =>
 R (.bool (m3 == c137)))
 (R (.bool (m3 == false))))
 (R (.bool false)))
 (R (.bool false))))
 (R (.bool false)))
 (R (.bool false))))
 (Call1 Tryz.prog f_cordonlaw_modelBegun [] .bool fun c138 =>
 sel c138
 (sel (decide (m2 = 1))
 (sel (decide ((1 : Int) = 0))
 (inb a1 a0.cons.length = true ∧
 Call1 Tryz.prog f_cordonref_ConHolds [.agg [.int .i64 ((at' .con a0.cons a1.toNat).kind), .sl .int ((at' .con a0.cons a1.toNat).vars), .sl .int ((at' .con a0.cons a1.toNat).consts), .int .i64 ((at' .con a0.cons a1.toNat).n), .sl (.list .int) ((at' .con a0.cons a1.toNat).rows), .sl .lit ((at' .con a0.cons a1.toNat).lits)], .sl .int a2] .bool fun c139 =>
 sel (m1 == c139)
 (sel (decide (m4 = c5))
 (sel (decide (c5 = 0))
 (Call1 Tryz.prog f_cordonref_AllHold [.agg [.sl .var a0.vars, .sl .con a0.cons, .int .i64 a0.goal, .int .i64 a0.var], .sl .int a2] .bool fun c140 =>
 R (.bool (m3 == c140)))
 (R (.bool (m3 == false))))
 (R (.bool false)))
 (R (.bool false)))
 (sel (m1 == false)
 (sel (decide (m4 = c5))
 (sel (decide (c5 = 0))
 (Call1 Tryz.prog f_cordonref_AllHold [.agg [.sl .var a0.vars, .sl .con a0.cons, .int .i64 a0.goal, .int .i64 a0.var], .sl .int a2] .bool fun c141 =>
 R (.bool (m3 == c141)))
 (R (.bool (m3 == false))))
 (R (.bool false)))
 (R (.bool false))))
 (R (.bool false)))
 (R (.bool false)))))
 (sel (decide (c5 = 0))
 (sel (!decide ((a2.length : Int) = (a0.vars.length : Int)))
 (Call1 Tryz.prog f_cordonlaw_modelBegun [] .bool fun c142 =>
 sel c142
 (sel (decide (m2 = 1))
 (sel (decide ((1 : Int) = 0))
 (inb a1 a0.cons.length = true ∧
 Call1 Tryz.prog f_cordonref_ConHolds [.agg [.int .i64 ((at' .con a0.cons a1.toNat).kind), .sl .int ((at' .con a0.cons a1.toNat).vars), .sl .int ((at' .con a0.cons a1.toNat).consts), .int .i64 ((at' .con a0.cons a1.toNat).n), .sl (.list .int) ((at' .con a0.cons a1.toNat).rows), .sl .lit ((at' .con a0.cons a1.toNat).lits)], .sl .int a2] .bool fun c143 =>
 sel (m1 == c143)
 (sel (decide (m4 = 1))
 (sel (decide ((1 : Int) = 0))
 (Call1 Tryz.prog f_cordonref_AllHold [.agg [.sl .var a0.vars, .sl .con a0.cons, .int .i64 a0.goal, .int .i64 a0.var], .sl .int a2] .bool fun c144 =>
 R (.bool (m3 == c144)))
 (R (.bool (m3 == false))))
 (R (.bool false)))
 (R (.bool false)))
 (sel (m1 == false)
 (sel (decide (m4 = 1))
 (sel (decide ((1 : Int) = 0))
 (Call1 Tryz.prog f_cordonref_AllHold [.agg [.sl .var a0.vars, .sl .con a0.cons, .int .i64 a0.goal, .int .i64 a0.var], .sl .int a2] .bool fun c145 =>
 R (.bool (m3 == c145)))
 (R (.bool (m3 == false))))
 (R (.bool false)))
 (R (.bool false))))
 (R (.bool false)))
 (R (.bool false)))
 (Call1 Tryz.prog f_cordonlaw_modelBegun [] .bool fun c146 =>
 sel c146
 (sel (decide (m2 = 1))
 (sel (decide ((1 : Int) = 0))
 (inb a1 a0.cons.length = true ∧
 Call1 Tryz.prog f_cordonref_ConHolds [.agg [.int .i64 ((at' .con a0.cons a1.toNat).kind), .sl .int ((at' .con a0.cons a1.toNat).vars), .sl .int ((at' .con a0.cons a1.toNat).consts), .int .i64 ((at' .con a0.cons a1.toNat).n), .sl (.list .int) ((at' .con a0.cons a1.toNat).rows), .sl .lit ((at' .con a0.cons a1.toNat).lits)], .sl .int a2] .bool fun c147 =>
 sel (m1 == c147)
 (sel (decide (m4 = c5))
 (sel (decide (c5 = 0))
 (Call1 Tryz.prog f_cordonref_AllHold [.agg [.sl .var a0.vars, .sl .con a0.cons, .int .i64 a0.goal, .int .i64 a0.var], .sl .int a2] .bool fun c148 =>
 R (.bool (m3 == c148)))
 (R (.bool (m3 == false))))
 (R (.bool false)))
 (R (.bool false)))
 (sel (m1 == false)
 (sel (decide (m4 = c5))
 (sel (decide (c5 = 0))
 (Call1 Tryz.prog f_cordonref_AllHold [.agg [.sl .var a0.vars, .sl .con a0.cons, .int .i64 a0.goal, .int .i64 a0.var], .sl .int a2] .bool fun c149 =>
 R (.bool (m3 == c149)))
 (R (.bool (m3 == false))))
 (R (.bool false)))
 (R (.bool false))))
 (R (.bool false)))
 (R (.bool false))))
 (Call1 Tryz.prog f_cordonlaw_modelBegun [] .bool fun c150 =>
 sel c150
 (sel (decide (m2 = 1))
 (sel (decide ((1 : Int) = 0))
 (inb a1 a0.cons.length = true ∧
 Call1 Tryz.prog f_cordonref_ConHolds [.agg [.int .i64 ((at' .con a0.cons a1.toNat).kind), .sl .int ((at' .con a0.cons a1.toNat).vars), .sl .int ((at' .con a0.cons a1.toNat).consts), .int .i64 ((at' .con a0.cons a1.toNat).n), .sl (.list .int) ((at' .con a0.cons a1.toNat).rows), .sl .lit ((at' .con a0.cons a1.toNat).lits)], .sl .int a2] .bool fun c151 =>
 sel (m1 == c151)
 (sel (decide (m4 = c5))
 (sel (decide (c5 = 0))
 (Call1 Tryz.prog f_cordonref_AllHold [.agg [.sl .var a0.vars, .sl .con a0.cons, .int .i64 a0.goal, .int .i64 a0.var], .sl .int a2] .bool fun c152 =>
 R (.bool (m3 == c152)))
 (R (.bool (m3 == false))))
 (R (.bool false)))
 (R (.bool false)))
 (sel (m1 == false)
 (sel (decide (m4 = c5))
 (sel (decide (c5 = 0))
 (Call1 Tryz.prog f_cordonref_AllHold [.agg [.sl .var a0.vars, .sl .con a0.cons, .int .i64 a0.goal, .int .i64 a0.var], .sl .int a2] .bool fun c153 =>
 R (.bool (m3 == c153)))
 (R (.bool (m3 == false))))
 (R (.bool false)))
 (R (.bool false))))
 (R (.bool false)))
 (R (.bool false)))))
 (sel (decide ((5 : Int) = 0))
 (Call1 Tryz.prog f_cordonlaw_far [.sl .int a2] .bool fun c154 =>
 sel c154
 (sel (decide (c5 = 0))
 (sel (!decide ((a2.length : Int) = (a0.vars.length : Int)))
 (Call1 Tryz.prog f_cordonlaw_modelBegun [] .bool fun c155 =>
 sel c155
 (sel (decide (m2 = 3))
 (sel (decide ((3 : Int) = 0))
 (inb a1 a0.cons.length = true ∧
 Call1 Tryz.prog f_cordonref_ConHolds [.agg [.int .i64 ((at' .con a0.cons a1.toNat).kind), .sl .int ((at' .con a0.cons a1.toNat).vars), .sl .int ((at' .con a0.cons a1.toNat).consts), .int .i64 ((at' .con a0.cons a1.toNat).n), .sl (.list .int) ((at' .con a0.cons a1.toNat).rows), .sl .lit ((at' .con a0.cons a1.toNat).lits)], .sl .int a2] .bool fun c156 =>
 sel (m1 == c156)
 (sel (decide (m4 = 1))
 (sel (decide ((1 : Int) = 0))
 (Call1 Tryz.prog f_cordonref_AllHold [.agg [.sl .var a0.vars, .sl .con a0.cons, .int .i64 a0.goal, .int .i64 a0.var], .sl .int a2] .bool fun c157 =>
 R (.bool (m3 == c157)))
 (R (.bool (m3 == false))))
 (R (.bool false)))
 (R (.bool false)))
 (sel (m1 == false)
 (sel (decide (m4 = 1))
 (sel (decide ((1 : Int) = 0))
 (Call1 Tryz.prog f_cordonref_AllHold [.agg [.sl .var a0.vars, .sl .con a0.cons, .int .i64 a0.goal, .int .i64 a0.var], .sl .int a2] .bool fun c158 =>
 R (.bool (m3 == c158)))
 (R (.bool (m3 == false))))
 (R (.bool false)))
 (R (.bool false))))
 (R (.bool false)))
 (R (.bool false)))
 (Call1 Tryz.prog f_cordonlaw_modelBegun [] .bool fun c159 =>
 sel c159
 (sel (decide (m2 = 3))
 (sel (decide ((3 : Int) = 0))
 (inb a1 a0.cons.length = true ∧
 Call1 Tryz.prog f_cordonref_ConHolds [.agg [.int .i64 ((at' .con a0.cons a1.toNat).kind), .sl .int ((at' .con a0.cons a1.toNat).vars), .sl .int ((at' .con a0.cons a1.toNat).consts), .int .i64 ((at' .con a0.cons a1.toNat).n), .sl (.list .int) ((at' .con a0.cons a1.toNat).rows), .sl .lit ((at' .con a0.cons a1.toNat).lits)], .sl .int a2] .bool fun c160 =>
 sel (m1 == c160)
 (sel (decide (m4 = c5))
 (sel (decide (c5 = 0))
 (Call1 Tryz.prog f_cordonref_AllHold [.agg [.sl .var a0.vars, .sl .con a0.cons, .int .i64 a0.goal, .int .i64 a0.var], .sl .int a2] .bool fun c161 =>
 R (.bool (m3 == c161)))
 (R (.bool (m3 == false))))
 (R (.bool false)))
 (R (.bool false)))
 (sel (m1 == false)
 (sel (decide (m4 = c5))
 (sel (decide (c5 = 0))
 (Call1 Tryz.prog f_cordonref_AllHold [.agg [.sl .var a0.vars, .sl .con a0.cons, .int .i64 a0.goal, .int .i64 a0.var], .sl .int a2] .bool fun c162 =>
 R (.bool (m3 == c162)))
 (R (.bool (m3 == false))))
 (R (.bool false)))
 (R (.bool false))))
 (R (.bool false)))
 (R (.bool false))))
 (Call1 Tryz.prog f_cordonlaw_modelBegun [] .bool fun c163 =>
 sel c163
 (sel (decide (m2 = 3))
 (sel (decide ((3 : Int) = 0))
 (inb a1 a0.cons.length = true ∧
 Call1 Tryz.prog f_cordonref_ConHolds [.agg [.int .i64 ((at' .con a0.cons a1.toNat).kind), .sl .int ((at' .con a0.cons a1.toNat).vars), .sl .int ((at' .con a0.cons a1.toNat).consts), .int .i64 ((at' .con a0.cons a1.toNat).n), .sl (.list .int) ((at' .con a0.cons a1.toNat).rows), .sl .lit ((at' .con a0.cons a1.toNat).lits)], .sl .int a2] .bool fun c164 =>
 sel (m1 == c164)
 (sel (decide (m4 = c5))
 (sel (decide (c5 = 0))
 (Call1 Tryz.prog f_cordonref_AllHold [.agg [.sl .var a0.vars, .sl .con a0.cons, .int .i64 a0.goal, .int .i64 a0.var], .sl .int a2] .bool fun c165 =>
 R (.bool (m3 == c165)))
 (R (.bool (m3 == false))))
 (R (.bool false)))
 (R (.bool false)))
 (sel (m1 == false)
 (sel (decide (m4 = c5))
 (sel (decide (c5 = 0))
 (Call1 Tryz.prog f_cordonref_AllHold [.agg [.sl .var a0.vars, .sl .con a0.cons, .int .i64 a0.goal, .int .i64 a0.var], .sl .int a2] .bool fun c166 =>
 R (.bool (m3 == c166)))
 (R (.bool (m3 == false))))
 (R (.bool false)))
 (R (.bool false))))
 (R (.bool false)))
 (R (.bool false))))
 (sel (decide (c5 = 0))
 (sel (!decide ((a2.length : Int) = (a0.vars.length : Int)))
 (Call1 Tryz.prog f_cordonlaw_modelBegun [] .bool fun c167 =>
 sel c167
 (sel (decide (m2 = 5))
 (sel (decide ((5 : Int) = 0))
 (inb a1 a0.cons.length = true ∧
 Call1 Tryz.prog f_cordonref_ConHolds [.agg [.int .i64 ((at' .con a0.cons a1.toNat).kind), .sl .int ((at' .con a0.cons a1.toNat).vars), .sl .int ((at' .con a0.cons a1.toNat).consts), .int .i64 ((at' .con a0.cons a1.toNat).n), .sl (.list .int) ((at' .con a0.cons a1.toNat).rows), .sl .lit ((at' .con a0.cons a1.toNat).lits)], .sl .int a2] .bool fun c168 =>
 sel (m1 == c168)
 (sel (decide (m4 = 1))
 (sel (decide ((1 : Int) = 0))
 (Call1 Tryz.prog f_cordonref_AllHold [.agg [.sl .var a0.vars, .sl .con a0.cons, .int .i64 a0.goal, .int .i64 a0.var], .sl .int a2] .bool fun c169 =>
 R (.bool (m3 == c169)))
 (R (.bool (m3 == false))))
 (R (.bool false)))
 (R (.bool false)))
 (sel (m1 == false)
 (sel (decide (m4 = 1))
 (sel (decide ((1 : Int) = 0))
 (Call1 Tryz.prog f_cordonref_AllHold [.agg [.sl .var a0.vars, .sl .con a0.cons, .int .i64 a0.goal, .int .i64 a0.var], .sl .int a2] .bool fun c170 =>
 R (.bool (m3 == c170)))
 (R (.bool (m3 == false))))
 (R (.bool false)))
 (R (.bool false))))
 (R (.bool false)))
 (R (.bool false)))
 (Call1 Tryz.prog f_cordonlaw_modelBegun [] .bool fun c171 =>
 sel c171
 (sel (decide (m2 = 5))
 (sel (decide ((5 : Int) = 0))
 (inb a1 a0.cons.length = true ∧
 Call1 Tryz.prog f_cordonref_ConHolds [.agg [.int .i64 ((at' .con a0.cons a1.toNat).kind), .sl .int ((at' .con a0.cons a1.toNat).vars), .sl .int ((at' .con a0.cons a1.toNat).consts), .int .i64 ((at' .con a0.cons a1.toNat).n), .sl (.list .int) ((at' .con a0.cons a1.toNat).rows), .sl .lit ((at' .con a0.cons a1.toNat).lits)], .sl .int a2] .bool fun c172 =>
 sel (m1 == c172)
 (sel (decide (m4 = c5))
 (sel (decide (c5 = 0))
 (Call1 Tryz.prog f_cordonref_AllHold [.agg [.sl .var a0.vars, .sl .con a0.cons, .int .i64 a0.goal, .int .i64 a0.var], .sl .int a2] .bool fun c173 =>
 R (.bool (m3 == c173)))
 (R (.bool (m3 == false))))
 (R (.bool false)))
 (R (.bool false)))
 (sel (m1 == false)
 (sel (decide (m4 = c5))
 (sel (decide (c5 = 0))
 (Call1 Tryz.prog f_cordonref_AllHold [.agg [.sl .var a0.vars, .sl .con a0.cons, .int .i64 a0.goal, .int .i64 a0.var], .sl .int a2] .bool fun c174 =>
 R (.bool (m3 == c174)))
 (R (.bool (m3 == false))))
 (R (.bool false)))
 (R (.bool false))))
 (R (.bool false)))
 (R (.bool false))))
 (Call1 Tryz.prog f_cordonlaw_modelBegun [] .bool fun c175 =>
 sel c175
 (sel (decide (m2 = 5))
 (sel (decide ((5 : Int) = 0))
 (inb a1 a0.cons.length = true ∧
 Call1 Tryz.prog f_cordonref_ConHolds [.agg [.int .i64 ((at' .con a0.cons a1.toNat).kind), .sl .int ((at' .con a0.cons a1.toNat).vars), .sl .int ((at' .con a0.cons a1.toNat).consts), .int .i64 ((at' .con a0.cons a1.toNat).n), .sl (.list .int) ((at' .con a0.cons a1.toNat).rows), .sl .lit ((at' .con a0.cons a1.toNat).lits)], .sl .int a2] .bool fun c176 =>
 sel (m1 == c176)
 (sel (decide (m4 = c5))
 (sel (decide (c5 = 0))
 (Call1 Tryz.prog f_cordonref_AllHold [.agg [.sl .var a0.vars, .sl .con a0.cons, .int .i64 a0.goal, .int .i64 a0.var], .sl .int a2] .bool fun c177 =>
 R (.bool (m3 == c177)))
 (R (.bool (m3 == false))))
 (R (.bool false)))
 (R (.bool false)))
 (sel (m1 == false)
 (sel (decide (m4 = c5))
 (sel (decide (c5 = 0))
 (Call1 Tryz.prog f_cordonref_AllHold [.agg [.sl .var a0.vars, .sl .con a0.cons, .int .i64 a0.goal, .int .i64 a0.var], .sl .int a2] .bool fun c178 =>
 R (.bool (m3 == c178)))
 (R (.bool (m3 == false))))
 (R (.bool false)))
 (R (.bool false))))
 (R (.bool false)))
 (R (.bool false)))))
 (sel (decide (c5 = 0))
 (sel (!decide ((a2.length : Int) = (a0.vars.length : Int)))
 (Call1 Tryz.prog f_cordonlaw_modelBegun [] .bool fun c179 =>
 sel c179
 (sel (decide (m2 = 5))
 (sel (decide ((5 : Int) = 0))
 (inb a1 a0.cons.length = true ∧
 Call1 Tryz.prog f_cordonref_ConHolds [.agg [.int .i64 ((at' .con a0.cons a1.toNat).kind), .sl .int ((at' .con a0.cons a1.toNat).vars), .sl .int ((at' .con a0.cons a1.toNat).consts), .int .i64 ((at' .con a0.cons a1.toNat).n), .sl (.list .int) ((at' .con a0.cons a1.toNat).rows), .sl .lit ((at' .con a0.cons a1.toNat).lits)], .sl .int a2] .bool fun c180 =>
 sel (m1 == c180)
 (sel (decide (m4 = 1))
 (sel (decide ((1 : Int) = 0))
 (Call1 Tryz.prog f_cordonref_AllHold [.agg [.sl .var a0.vars, .sl .con a0.cons, .int .i64 a0.goal, .int .i64 a0.var], .sl .int a2] .bool fun c181 =>
 R (.bool (m3 == c181)))
 (R (.bool (m3 == false))))
 (R (.bool false)))
 (R (.bool false)))
 (sel (m1 == false)
 (sel (decide (m4 = 1))
 (sel (decide ((1 : Int) = 0))
 (Call1 Tryz.prog f_cordonref_AllHold [.agg [.sl .var a0.vars, .sl .con a0.cons, .int .i64 a0.goal, .int .i64 a0.var], .sl .int a2] .bool fun c182 =>
 R (.bool (m3 == c182)))
 (R (.bool (m3 == false))))
 (R (.bool false)))
 (R (.bool false))))
 (R (.bool false)))
 (R (.bool false)))
 (Call1 Tryz.prog f_cordonlaw_modelBegun [] .bool fun c183 =>
 sel c183
 (sel (decide (m2 = 5))
 (sel (decide ((5 : Int) = 0))
 (inb a1 a0.cons.length = true ∧
 Call1 Tryz.prog f_cordonref_ConHolds [.agg [.int .i64 ((at' .con a0.cons a1.toNat).kind), .sl .int ((at' .con a0.cons a1.toNat).vars), .sl .int ((at' .con a0.cons a1.toNat).consts), .int .i64 ((at' .con a0.cons a1.toNat).n), .sl (.list .int) ((at' .con a0.cons a1.toNat).rows), .sl .lit ((at' .con a0.cons a1.toNat).lits)], .sl .int a2] .bool fun c184 =>
 sel (m1 == c184)
 (sel (decide (m4 = c5))
 (sel (decide (c5 = 0))
 (Call1 Tryz.prog f_cordonref_AllHold [.agg [.sl .var a0.vars, .sl .con a0.cons, .int .i64 a0.goal, .int .i64 a0.var], .sl .int a2] .bool fun c185 =>
 R (.bool (m3 == c185)))
 (R (.bool (m3 == false))))
 (R (.bool false)))
 (R (.bool false)))
 (sel (m1 == false)
 (sel (decide (m4 = c5))
 (sel (decide (c5 = 0))
 (Call1 Tryz.prog f_cordonref_AllHold [.agg [.sl .var a0.vars, .sl .con a0.cons, .int .i64 a0.goal, .int .i64 a0.var], .sl .int a2] .bool fun c186 =>
 R (.bool (m3 == c186)))
 (R (.bool (m3 == false))))
 (R (.bool false)))
 (R (.bool false))))
 (R (.bool false)))
 (R (.bool false))))
 (Call1 Tryz.prog f_cordonlaw_modelBegun [] .bool fun c187 =>
 sel c187
 (sel (decide (m2 = 5))
 (sel (decide ((5 : Int) = 0))
 (inb a1 a0.cons.length = true ∧
 Call1 Tryz.prog f_cordonref_ConHolds [.agg [.int .i64 ((at' .con a0.cons a1.toNat).kind), .sl .int ((at' .con a0.cons a1.toNat).vars), .sl .int ((at' .con a0.cons a1.toNat).consts), .int .i64 ((at' .con a0.cons a1.toNat).n), .sl (.list .int) ((at' .con a0.cons a1.toNat).rows), .sl .lit ((at' .con a0.cons a1.toNat).lits)], .sl .int a2] .bool fun c188 =>
 sel (m1 == c188)
 (sel (decide (m4 = c5))
 (sel (decide (c5 = 0))
 (Call1 Tryz.prog f_cordonref_AllHold [.agg [.sl .var a0.vars, .sl .con a0.cons, .int .i64 a0.goal, .int .i64 a0.var], .sl .int a2] .bool fun c189 =>
 R (.bool (m3 == c189)))
 (R (.bool (m3 == false))))
 (R (.bool false)))
 (R (.bool false)))
 (sel (m1 == false)
 (sel (decide (m4 = c5))
 (sel (decide (c5 = 0))
 (Call1 Tryz.prog f_cordonref_AllHold [.agg [.sl .var a0.vars, .sl .con a0.cons, .int .i64 a0.goal, .int .i64 a0.var], .sl .int a2] .bool fun c190 =>
 R (.bool (m3 == c190)))
 (R (.bool (m3 == false))))
 (R (.bool false)))
 (R (.bool false))))
 (R (.bool false)))
 (R (.bool false))))))
 (sel (decide ((5 : Int) = 0))
 (Call1 Tryz.prog f_cordonlaw_far [.sl .int a2] .bool fun c191 =>
 sel c191
 (sel (decide (c5 = 0))
 (sel (!decide ((a2.length : Int) = (a0.vars.length : Int)))
 (Call1 Tryz.prog f_cordonlaw_modelBegun [] .bool fun c192 =>
 sel c192
 (sel (decide (m2 = 3))
 (sel (decide ((3 : Int) = 0))
 (inb a1 a0.cons.length = true ∧
 Call1 Tryz.prog f_cordonref_ConHolds [.agg [.int .i64 ((at' .con a0.cons a1.toNat).kind), .sl .int ((at' .con a0.cons a1.toNat).vars), .sl .int ((at' .con a0.cons a1.toNat).consts), .int .i64 ((at' .con a0.cons a1.toNat).n), .sl (.list .int) ((at' .con a0.cons a1.toNat).rows), .sl .lit ((at' .con a0.cons a1.toNat).lits)], .sl .int a2] .bool fun c193 =>
 sel (m1 == c193)
 (sel (decide (m4 = 1))
 (sel (decide ((1 : Int) = 0))
 (Call1 Tryz.prog f_cordonref_AllHold [.agg [.sl .var a0.vars, .sl .con a0.cons, .int .i64 a0.goal, .int .i64 a0.var], .sl .int a2] .bool fun c194 =>
 R (.bool (m3 == c194)))
 (R (.bool (m3 == false))))
 (R (.bool false)))
 (R (.bool false)))
 (sel (m1 == false)
 (sel (decide (m4 = 1))
 (sel (decide ((1 : Int) = 0))
 (Call1 Tryz.prog f_cordonref_AllHold [.agg [.sl .var a0.vars, .sl .con a0.cons, .int .i64 a0.goal, .int .i64 a0.var], .sl .int a2] .bool fun c195 =>
 R (.bool (m3 == c195)))
 (R (.bool (m3 == false))))
 (R (.bool false)))
 (R (.bool false))))
 (R (.bool false)))
 (R (.bool false)))
 (Call1 Tryz.prog f_cordonlaw_modelBegun [] .bool fun c196 =>
 sel c196
 (sel (decide (m2 = 3))
 (sel (decide ((3 : Int) = 0))
 (inb a1 a0.cons.length = true ∧
 Call1 Tryz.prog f_cordonref_ConHolds [.agg [.int .i64 ((at' .con a0.cons a1.toNat).kind), .sl .int ((at' .con a0.cons a1.toNat).vars), .sl .int ((at' .con a0.cons a1.toNat).consts), .int .i64 ((at' .con a0.cons a1.toNat).n), .sl (.list .int) ((at' .con a0.cons a1.toNat).rows), .sl .lit ((at' .con a0.cons a1.toNat).lits)], .sl .int a2] .bool fun c197 =>
 sel (m1 == c197)
 (sel (decide (m4 = c5))
 (sel (decide (c5 = 0))
 (Call1 Tryz.prog f_cordonref_AllHold [.agg [.sl .var a0.vars, .sl .con a0.cons, .int .i64 a0.goal, .int .i64 a0.var], .sl .int a2] .bool fun c198 =>
 R (.bool (m3 == c198)))
 (R (.bool (m3 == false))))
 (R (.bool false)))
 (R (.bool false)))
 (sel (m1 == false)
 (sel (decide (m4 = c5))
 (sel (decide (c5 = 0))
 (Call1 Tryz.prog f_cordonref_AllHold [.agg [.sl .var a0.vars, .sl .con a0.cons, .int .i64 a0.goal, .int .i64 a0.var], .sl .int a2] .bool fun c199 =>
 R (.bool (m3 == c199)))
 (R (.bool (m3 == false))))
 (R (.bool false)))
 (R (.bool false))))
 (R (.bool false)))
 (R (.bool false))))
 (Call1 Tryz.prog f_cordonlaw_modelBegun [] .bool fun c200 =>
 sel c200
 (sel (decide (m2 = 3))
 (sel (decide ((3 : Int) = 0))
 (inb a1 a0.cons.length = true ∧
 Call1 Tryz.prog f_cordonref_ConHolds [.agg [.int .i64 ((at' .con a0.cons a1.toNat).kind), .sl .int ((at' .con a0.cons a1.toNat).vars), .sl .int ((at' .con a0.cons a1.toNat).consts), .int .i64 ((at' .con a0.cons a1.toNat).n), .sl (.list .int) ((at' .con a0.cons a1.toNat).rows), .sl .lit ((at' .con a0.cons a1.toNat).lits)], .sl .int a2] .bool fun c201 =>
 sel (m1 == c201)
 (sel (decide (m4 = c5))
 (sel (decide (c5 = 0))
 (Call1 Tryz.prog f_cordonref_AllHold [.agg [.sl .var a0.vars, .sl .con a0.cons, .int .i64 a0.goal, .int .i64 a0.var], .sl .int a2] .bool fun c202 =>
 R (.bool (m3 == c202)))
 (R (.bool (m3 == false))))
 (R (.bool false)))
 (R (.bool false)))
 (sel (m1 == false)
 (sel (decide (m4 = c5))
 (sel (decide (c5 = 0))
 (Call1 Tryz.prog f_cordonref_AllHold [.agg [.sl .var a0.vars, .sl .con a0.cons, .int .i64 a0.goal, .int .i64 a0.var], .sl .int a2] .bool fun c203 =>
 R (.bool (m3 == c203)))
 (R (.bool (m3 == false))))
 (R (.bool false)))
 (R (.bool false))))
 (R (.bool false)))
 (R (.bool false))))
 (sel (decide (c5 = 0))
 (sel (!decide ((a2.length : Int) = (a0.vars.length : Int)))
 (Call1 Tryz.prog f_cordonlaw_modelBegun [] .bool fun c204 =>
 sel c204
 (sel (decide (m2 = 5))
 (sel (decide ((5 : Int) = 0))
 (inb a1 a0.cons.length = true ∧
 Call1 Tryz.prog f_cordonref_ConHolds [.agg [.int .i64 ((at' .con a0.cons a1.toNat).kind), .sl .int ((at' .con a0.cons a1.toNat).vars), .sl .int ((at' .con a0.cons a1.toNat).consts), .int .i64 ((at' .con a0.cons a1.toNat).n), .sl (.list .int) ((at' .con a0.cons a1.toNat).rows), .sl .lit ((at' .con a0.cons a1.toNat).lits)], .sl .int a2] .bool fun c205 =>
 sel (m1 == c205)
 (sel (decide (m4 = 1))
 (sel (decide ((1 : Int) = 0))
 (Call1 Tryz.prog f_cordonref_AllHold [.agg [.sl .var a0.vars, .sl .con a0.cons, .int .i64 a0.goal, .int .i64 a0.var], .sl .int a2] .bool fun c206 =>
 R (.bool (m3 == c206)))
 (R (.bool (m3 == false))))
 (R (.bool false)))
 (R (.bool false)))
 (sel (m1 == false)
 (sel (decide (m4 = 1))
 (sel (decide ((1 : Int) = 0))
 (Call1 Tryz.prog f_cordonref_AllHold [.agg [.sl .var a0.vars, .sl .con a0.cons, .int .i64 a0.goal, .int .i64 a0.var], .sl .int a2] .bool fun c207 =>
 R (.bool (m3 == c207)))
 (R (.bool (m3 == false))))
 (R (.bool false)))
 (R (.bool false))))
 (R (.bool false)))
 (R (.bool false)))
 (Call1 Tryz.prog f_cordonlaw_modelBegun [] .bool fun c208 =>
 sel c208
 (sel (decide (m2 = 5))
 (sel (decide ((5 : Int) = 0))
 (inb a1 a0.cons.length = true ∧
 Call1 Tryz.prog f_cordonref_ConHolds [.agg [.int .i64 ((at' .con a0.cons a1.toNat).kind), .sl .int ((at' .con a0.cons a1.toNat).vars), .sl .int ((at' .con a0.cons a1.toNat).consts), .int .i64 ((at' .con a0.cons a1.toNat).n), .sl (.list .int) ((at' .con a0.cons a1.toNat).rows), .sl .lit ((at' .con a0.cons a1.toNat).lits)], .sl .int a2] .bool fun c209 =>
 sel (m1 == c209)
 (sel (decide (m4 = c5))
 (sel (decide (c5 = 0))
 (Call1 Tryz.prog f_cordonref_AllHold [.agg [.sl .var a0.vars, .sl .con a0.cons, .int .i64 a0.goal, .int .i64 a0.var], .sl .int a2] .bool fun c210 =>
 R (.bool (m3 == c210)))
 (R (.bool (m3 == false))))
 (R (.bool false)))
 (R (.bool false)))
 (sel (m1 == false)
 (sel (decide (m4 = c5))
 (sel (decide (c5 = 0))
 (Call1 Tryz.prog f_cordonref_AllHold [.agg [.sl .var a0.vars, .sl .con a0.cons, .int .i64 a0.goal, .int .i64 a0.var], .sl .int a2] .bool fun c211 =>
 R (.bool (m3 == c211)))
 (R (.bool (m3 == false))))
 (R (.bool false)))
 (R (.bool false))))
 (R (.bool false)))
 (R (.bool false))))
 (Call1 Tryz.prog f_cordonlaw_modelBegun [] .bool fun c212 =>
 sel c212
 (sel (decide (m2 = 5))
 (sel (decide ((5 : Int) = 0))
 (inb a1 a0.cons.length = true ∧
 Call1 Tryz.prog f_cordonref_ConHolds [.agg [.int .i64 ((at' .con a0.cons a1.toNat).kind), .sl .int ((at' .con a0.cons a1.toNat).vars), .sl .int ((at' .con a0.cons a1.toNat).consts), .int .i64 ((at' .con a0.cons a1.toNat).n), .sl (.list .int) ((at' .con a0.cons a1.toNat).rows), .sl .lit ((at' .con a0.cons a1.toNat).lits)], .sl .int a2] .bool fun c213 =>
 sel (m1 == c213)
 (sel (decide (m4 = c5))
 (sel (decide (c5 = 0))
 (Call1 Tryz.prog f_cordonref_AllHold [.agg [.sl .var a0.vars, .sl .con a0.cons, .int .i64 a0.goal, .int .i64 a0.var], .sl .int a2] .bool fun c214 =>
 R (.bool (m3 == c214)))
 (R (.bool (m3 == false))))
 (R (.bool false)))
 (R (.bool false)))
 (sel (m1 == false)
 (sel (decide (m4 = c5))
 (sel (decide (c5 = 0))
 (Call1 Tryz.prog f_cordonref_AllHold [.agg [.sl .var a0.vars, .sl .con a0.cons, .int .i64 a0.goal, .int .i64 a0.var], .sl .int a2] .bool fun c215 =>
 R (.bool (m3 == c215)))
 (R (.bool (m3 == false))))
 (R (.bool false)))
 (R (.bool false))))
 (R (.bool false)))
 (R (.bool false)))))
 (sel (decide (c5 = 0))
 (sel (!decide ((a2.length : Int) = (a0.vars.length : Int)))
 (Call1 Tryz.prog f_cordonlaw_modelBegun [] .bool fun c216 =>
 sel c216
 (sel (decide (m2 = 5))
 (sel (decide ((5 : Int) = 0))
 (inb a1 a0.cons.length = true ∧
 Call1 Tryz.prog f_cordonref_ConHolds [.agg [.int .i64 ((at' .con a0.cons a1.toNat).kind), .sl .int ((at' .con a0.cons a1.toNat).vars), .sl .int ((at' .con a0.cons a1.toNat).consts), .int .i64 ((at' .con a0.cons a1.toNat).n), .sl (.list .int) ((at' .con a0.cons a1.toNat).rows), .sl .lit ((at' .con a0.cons a1.toNat).lits)], .sl .int a2] .bool fun c217 =>
 sel (m1 == c217)
 (sel (decide (m4 = 1))
 (sel (decide ((1 : Int) = 0))
 (Call1 Tryz.prog f_cordonref_AllHold [.agg [.sl .var a0.vars, .sl .con a0.cons, .int .i64 a0.goal, .int .i64 a0.var], .sl .int a2] .bool fun c218 =>
 R (.bool (m3 == c218)))
 (R (.bool (m3 == false))))
 (R (.bool false)))
 (R (.bool false)))
 (sel (m1 == false)
 (sel (decide (m4 = 1))
 (sel (decide ((1 : Int) = 0))
 (Call1 Tryz.prog f_cordonref_AllHold [.agg [.sl .var a0.vars, .sl .con a0.cons, .int .i64 a0.goal, .int .i64 a0.var], .sl .int a2] .bool fun c219 =>
 R (.bool (m3 == c219)))
 (R (.bool (m3 == false))))
 (R (.bool false)))
 (R (.bool false))))
 (R (.bool false)))
 (R (.bool false)))
 (Call1 Tryz.prog f_cordonlaw_modelBegun [] .bool fun c220 =>
 sel c220
 (sel (decide (m2 = 5))
 (sel (decide ((5 : Int) = 0))
 (inb a1 a0.cons.length = true ∧
 Call1 Tryz.prog f_cordonref_ConHolds [.agg [.int .i64 ((at' .con a0.cons a1.toNat).kind), .sl .int ((at' .con a0.cons a1.toNat).vars), .sl .int ((at' .con a0.cons a1.toNat).consts), .int .i64 ((at' .con a0.cons a1.toNat).n), .sl (.list .int) ((at' .con a0.cons a1.toNat).rows), .sl .lit ((at' .con a0.cons a1.toNat).lits)], .sl .int a2] .bool fun c221 =>
 sel (m1 == c221)
 (sel (decide (m4 = c5))
 (sel (decide (c5 = 0))
 (Call1 Tryz.prog f_cordonref_AllHold [.agg [.sl .var a0.vars, .sl .con a0.cons, .int .i64 a0.goal, .int .i64 a0.var], .sl .int a2] .bool fun c222 =>
 R (.bool (m3 == c222)))
 (R (.bool (m3 == false))))
 (R (.bool false)))
 (R (.bool false)))
 (sel (m1 == false)
 (sel (decide (m4 = c5))
 (sel (decide (c5 = 0))
 (Call1 Tryz.prog f_cordonref_AllHold [.agg [.sl .var a0.vars, .sl .con a0.cons, .int .i64 a0.goal, .int .i64 a0.var], .sl .int a2] .bool fun c223 =>
 R (.bool (m3 == c223)))
 (R (.bool (m3 == false))))
 (R (.bool false)))
 (R (.bool false))))
 (R (.bool false)))
 (R (.bool false))))
 (Call1 Tryz.prog f_cordonlaw_modelBegun [] .bool fun c224 =>
 sel c224
 (sel (decide (m2 = 5))
 (sel (decide ((5 : Int) = 0))
 (inb a1 a0.cons.length = true ∧
 Call1 Tryz.prog f_cordonref_ConHolds [.agg [.int .i64 ((at' .con a0.cons a1.toNat).kind), .sl .int ((at' .con a0.cons a1.toNat).vars), .sl .int ((at' .con a0.cons a1.toNat).consts), .int .i64 ((at' .con a0.cons a1.toNat).n), .sl (.list .int) ((at' .con a0.cons a1.toNat).rows), .sl .lit ((at' .con a0.cons a1.toNat).lits)], .sl .int a2] .bool fun c225 =>
 sel (m1 == c225)
 (sel (decide (m4 = c5))
 (sel (decide (c5 = 0))
 (Call1 Tryz.prog f_cordonref_AllHold [.agg [.sl .var a0.vars, .sl .con a0.cons, .int .i64 a0.goal, .int .i64 a0.var], .sl .int a2] .bool fun c226 =>
 R (.bool (m3 == c226)))
 (R (.bool (m3 == false))))
 (R (.bool false)))
 (R (.bool false)))
 (sel (m1 == false)
 (sel (decide (m4 = c5))
 (sel (decide (c5 = 0))
 (Call1 Tryz.prog f_cordonref_AllHold [.agg [.sl .var a0.vars, .sl .con a0.cons, .int .i64 a0.goal, .int .i64 a0.var], .sl .int a2] .bool fun c227 =>
 R (.bool (m3 == c227)))
 (R (.bool (m3 == false))))
 (R (.bool false)))
 (R (.bool false))))
 (R (.bool false)))
 (R (.bool false))))))
 (sel (decide (c5 = 0))
 (sel (!decide ((a2.length : Int) = (a0.vars.length : Int)))
 (sel (decide ((1 : Int) = 0))
 (Call1 Tryz.prog f_cordonlaw_far [.sl .int a2] .bool fun c228 =>
 sel c228
 (sel (decide (c5 = 0))
 (sel (!decide ((a2.length : Int) = (a0.vars.length : Int)))
 (Call1 Tryz.prog f_cordonlaw_modelBegun [] .bool fun c229 =>
 sel c229
 (sel (decide (m2 = 3))
 (sel (decide ((3 : Int) = 0))
 (inb a1 a0.cons.length = true ∧
 Call1 Tryz.prog f_cordonref_ConHolds [.agg [.int .i64 ((at' .con a0.cons a1.toNat).kind), .sl .int ((at' .con a0.cons a1.toNat).vars), .sl .int ((at' .con a0.cons a1.toNat).consts), .int .i64 ((at' .con a0.cons a1.toNat).n), .sl (.list .int) ((at' .con a0.cons a1.toNat).rows), .sl .lit ((at' .con a0.cons a1.toNat).lits)], .sl .int a2] .bool fun c230 =>
 sel (m1 == c230)
 (sel (decide (m4 = 1))
 (sel (decide ((1 : Int) = 0))
 (Call1 Tryz.prog f_cordonref_AllHold [.agg [.sl .var a0.vars, .sl .con a0.cons, .int .i64 a0.goal, .int .i64 a0.var], .sl .int a2] .bool fun c231 =>
 R (.bool (m3 == c231)))
 (R (.bool (m3 == false))))
 (R (.bool false)))
 (R (.bool false)))
 (sel (m1 == false)
 (sel (decide (m4 = 1))
 (sel (decide ((1 : Int) = 0))
 (Call1 Tryz.prog f_cordonref_AllHold [.agg [.sl .var a0.vars, .sl .con a0.cons, .int .i64 a0.goal, .int .i64 a0.var], .sl .int a2] .bool fun c232 =>
 R (.bool (m3 == c232)))
 (R (.bool (m3 == false))))
 (R (.bool false)))
 (R (.bool false))))
 (R (.bool false)))
 (R (.bool false)))
 (Call1 Tryz.prog f_cordonlaw_modelBegun [] .bool fun c233 =>
 sel c233
 (sel (decide (m2 = 3))
 (sel (decide ((3 : Int) = 0))
 (inb a1 a0.cons.length = true ∧
 Call1 Tryz.prog f_cordonref_ConHolds [.agg [.int .i64 ((at' .con a0.cons a1.toNat).kind), .sl .int ((at' .con a0.cons a1.toNat).vars), .sl .int ((at' .con a0.cons a1.toNat).consts), .int .i64 ((at' .con a0.cons a1.toNat).n), .sl (.list .int) ((at' .con a0.cons a1.toNat).rows), .sl .lit ((at' .con a0.cons a1.toNat).lits)], .sl .int a2] .bool fun c234 =>
 sel (m1 == c234)
 (sel (decide (m4 = c5))
 (sel (decide (c5 = 0))
 (Call1 Tryz.prog f_cordonref_AllHold [.agg [.sl .var a0.vars, .sl .con a0.cons, .int .i64 a0.goal, .int .i64 a0.var], .sl .int a2] .bool fun c235 =>
 R (.bool (m3 == c235)))
 (R (.bool (m3 == false))))
 (R (.bool false)))
 (R (.bool false)))
 (sel (m1 == false)
 (sel (decide (m4 = c5))
 (sel (decide (c5 = 0))
 (Call1 Tryz.prog f_cordonref_AllHold [.agg [.sl .var a0.vars, .sl .con a0.cons, .int .i64 a0.goal, .int .i64 a0.var], .sl .int a2] .bool fun c236 =>
 R (.bool (m3 == c236)))
 (R (.bool (m3 == false))))
 (R (.bool false)))
 (R (.bool false))))
 (R (.bool false)))
 (R (.bool false))))
 (Call1 Tryz.prog f_cordonlaw_modelBegun [] .bool fun c237 =>
 sel c237
 (sel (decide (m2 = 3))
 (sel (decide ((3 : Int) = 0))
 (inb a1 a0.cons.length = true ∧
 Call1 Tryz.prog f_cordonref_ConHolds [.agg [.int .i64 ((at' .con a0.cons a1.toNat).kind), .sl .int ((at' .con a0.cons a1.toNat).vars), .sl .int ((at' .con a0.cons a1.toNat).consts), .int .i64 ((at' .con a0.cons a1.toNat).n), .sl (.list .int) ((at' .con a0.cons a1.toNat).rows), .sl .lit ((at' .con a0.cons a1.toNat).lits)], .sl .int a2] .bool fun c238 =>
 sel (m1 == c238)
 (sel (decide (m4 = c5))
 (sel (decide (c5 = 0))
 (Call1 Tryz.prog f_cordonref_AllHold [.agg [.sl .var a0.vars, .sl .con a0.cons, .int .i64 a0.goal, .int .i64 a0.var], .sl .int a2] .bool fun c239 =>
 R (.bool (m3 == c239)))
 (R (.bool (m3 == false))))
 (R (.bool false)))
 (R (.bool false)))
 (sel (m1 == false)
 (sel (decide (m4 = c5))
 (sel (decide (c5 = 0))
 (Call1 Tryz.prog f_cordonref_AllHold [.agg [.sl .var a0.vars, .sl .con a0.cons, .int .i64 a0.goal, .int .i64 a0.var], .sl .int a2] .bool fun c240 =>
 R (.bool (m3 == c240)))
 (R (.bool (m3 == false))))
 (R (.bool false)))
 (R (.bool false))))
 (R (.bool false)))
 (R (.bool false))))
 (sel (decide (c5 = 0))
 (sel (!decide ((a2.length : Int) = (a0.vars.length : Int)))
 (Call1 Tryz.prog f_cordonlaw_modelBegun [] .bool fun c241 =>
 sel c241
 (sel (decide (m2 = 1))
 (sel (decide ((1 : Int) = 0))
 (inb a1 a0.cons.length = true ∧
 Call1 Tryz.prog f_cordonref_ConHolds [.agg [.int .i64 ((at' .con a0.cons a1.toNat).kind), .sl .int ((at' .con a0.cons a1.toNat).vars), .sl .int ((at' .con a0.cons a1.toNat).consts), .int .i64 ((at' .con a0.cons a1.toNat).n), .sl (.list .int) ((at' .con a0.cons a1.toNat).rows), .sl .lit ((at' .con a0.cons a1.toNat).lits)], .sl .int a2] .bool fun c242 =>
 sel (m1 == c242)
 (sel (decide (m4 = 1))
 (sel (decide ((1 : Int) = 0))
 (Call1 Tryz.prog f_cordonref_AllHold [.agg [.sl .var a0.vars, .sl .con a0.cons, .int .i64 a0.goal, .int .i64 a0.var], .sl .int a2] .bool fun c243 =>
 R (.bool (m3 == c243)))
 (R (.bool (m3 == false))))
 (R (.bool false)))
 (R (.bool false)))
 (sel (m1 == false)
 (sel (decide (m4 = 1))
 (sel (decide ((1 : Int) = 0))
 (Call1 Tryz.prog f_cordonref_AllHold [.agg [.sl .var a0.vars, .sl .con a0.cons, .int .i64 a0.goal, .int .i64 a0.var], .sl .int a2] .bool fun c244 =>
 R (.bool (m3 == c244)))
 (R (.bool (m3 == false))))
 (R (.bool false)))
 (R (.bool false))))
 (R (.bool false)))
 (R (.bool false)))
 (Call1 Tryz.prog f_cordonlaw_modelBegun [] .bool fun c245 =>
 sel c245
 (sel (decide (m2 = 1))
 (sel (decide ((1 : Int) = 0))
 (inb a1 a0.cons.length = true ∧
 Call1 Tryz.prog f_cordonref_ConHolds [.agg [.int .i64 ((at' .con a0.cons a1.toNat).kind), .sl .int ((at' .con a0.cons a1.toNat).vars), .sl .int ((at' .con a0.cons a1.toNat).consts), .int .i64 ((at' .con a0.cons a1.toNat).n), .sl (.list .int) ((at' .con a0.cons a1.toNat).rows), .sl .lit ((at' .con a0.cons a1.toNat).lits)], .sl .int a2] .bool fun c246 =>
 sel (m1 == c246)
 (sel (decide (m4 = c5))
 (sel (decide (c5 = 0))
 (Call1 Tryz.prog f_cordonref_AllHold [.agg [.sl .var a0.vars, .sl .con a0.cons, .int .i64 a0.goal, .int .i64 a0.var], .sl .int a2] .bool fun c247 =>
 R (.bool (m3 == c247)))
 (R (.bool (m3 == false))))
 (R (.bool false)))
 (R (.bool false)))
 (sel (m1 == false)
 (sel (decide (m4 = c5))
 (sel (decide (c5 = 0))
 (Call1 Tryz.prog f_cordonref_AllHold [.agg [.sl .var a0.vars, .sl .con a0.cons, .int .i64 a0.goal, .int .i64 a0.var], .sl .int a2] .bool fun c248 =>
 R (.bool (m3 == c248)))
 (R (.bool (m3 == false))))
 (R (.bool false)))
 (R (.bool false))))
 (R (.bool false)))
 (R (.bool false))))
 (Call1 Tryz.prog f_cordonlaw_modelBegun [] .bool fun c249 =>
 sel c249
 (sel (decide (m2 = 1))
 (sel (decide ((1 : Int) = 0))
 (inb a1 a0.cons.length = true ∧
 Call1 Tryz.prog f_cordonref_ConHolds [.agg [.int .i64 ((at' .con a0.cons a1.toNat).kind), .sl .int ((at' .con a0.cons a1.toNat).vars), .sl .int ((at' .con a0.cons a1.toNat).consts), .int .i64 ((at' .con a0.cons a1.toNat).n), .sl (.list .int) ((at' .con a0.cons a1.toNat).rows), .sl .lit ((at' .con a0.cons a1.toNat).lits)], .sl .int a2] .bool fun c250 =>
 sel (m1 == c250)
 (sel (decide (m4 = c5))
 (sel (decide (c5 = 0))
 (Call1 Tryz.prog f_cordonref_AllHold [.agg [.sl .var a0.vars, .sl .con a0.cons, .int .i64 a0.goal, .int .i64 a0.var], .sl .int a2] .bool fun c251 =>
 R (.bool (m3 == c251)))
 (R (.bool (m3 == false))))
 (R (.bool false)))
 (R (.bool false)))
 (sel (m1 == false)
 (sel (decide (m4 = c5))
 (sel (decide (c5 = 0))
 (Call1 Tryz.prog f_cordonref_AllHold [.agg [.sl .var a0.vars, .sl .con a0.cons, .int .i64 a0.goal, .int .i64 a0.var], .sl .int a2] .bool fun c252 =>
 R (.bool (m3 == c252)))
 (R (.bool (m3 == false))))
 (R (.bool false)))
 (R (.bool false))))
 (R (.bool false)))
 (R (.bool false)))))
 (sel (decide (c5 = 0))
 (sel (!decide ((a2.length : Int) = (a0.vars.length : Int)))
 (Call1 Tryz.prog f_cordonlaw_modelBegun [] .bool fun c253 =>
 sel c253
 (sel (decide (m2 = 1))
 (sel (decide ((1 : Int) = 0))
 (inb a1 a0.cons.length = true ∧
 Call1 Tryz.prog f_cordonref_ConHolds [.agg [.int .i64 ((at' .con a0.cons a1.toNat).kind), .sl .int ((at' .con a0.cons a1.toNat).vars), .sl .int ((at' .con a0.cons a1.toNat).consts), .int .i64 ((at' .con a0.cons a1.toNat).n), .sl (.list .int) ((at' .con a0.cons a1.toNat).rows), .sl .lit ((at' .con a0.cons a1.toNat).lits)], .sl .int a2] .bool fun c254 =>
 sel (m1 == c254)
 (sel (decide (m4 = 1))
 (sel (decide ((1 : Int) = 0))
 (Call1 Tryz.prog f_cordonref_AllHold [.agg [.sl .var a0.vars, .sl .con a0.cons, .int .i64 a0.goal, .int .i64 a0.var], .sl .int a2] .bool fun c255 =>
 R (.bool (m3 == c255)))
 (R (.bool (m3 == false))))
 (R (.bool false)))
 (R (.bool false)))
 (sel (m1 == false)
 (sel (decide (m4 = 1))
 (sel (decide ((1 : Int) = 0))
 (Call1 Tryz.prog f_cordonref_AllHold [.agg [.sl .var a0.vars, .sl .con a0.cons, .int .i64 a0.goal, .int .i64 a0.var], .sl .int a2] .bool fun c256 =>
 R (.bool (m3 == c256)))
 (R (.bool (m3 == false))))
 (R (.bool false)))
 (R (.bool false))))
 (R (.bool false)))
 (R (.bool false)))
 (Call1 Tryz.prog f_cordonlaw_modelBegun [] .bool fun c257 =>
 sel c257
 (sel (decide (m2 = 1))
 (sel (decide ((1 : Int) = 0))
 (inb a1 a0.cons.length = true ∧
 Call1 Tryz.prog f_cordonref_ConHolds [.agg [.int .i64 ((at' .con a0.cons a1.toNat).kind), .sl .int ((at' .con a0.cons a1.toNat).vars), .sl .int ((at' .con a0.cons a1.toNat).consts), .int .i64 ((at' .con a0.cons a1.toNat).n), .sl (.list .int) ((at' .con a0.cons a1.toNat).rows), .sl .lit ((at' .con a0.cons a1.toNat).lits)], .sl .int a2] .bool fun c258 =>
 sel (m1 == c258)
 (sel (decide (m4 = c5))
 (sel (decide (c5 = 0))
 (Call1 Tryz.prog f_cordonref_AllHold [.agg [.sl .var a0.vars, .sl .con a0.cons, .int .i64 a0.goal, .int .i64 a0.var], .sl .int a2] .bool fun c259 =>
 R (.bool (m3 == c259)))
 (R (.bool (m3 == false))))
 (R (.bool false)))
 (R (.bool false)))
 (sel (m1 == false)
 (sel (decide (m4 = c5))
 (sel (decide (c5 = 0))
 (Call1 Tryz.prog f_cordonref_AllHold [.agg [.sl .var a0.vars, .sl .con a0.cons, .int .i64 a0.goal, .int .i64 a0.var], .sl .int a2] .bool fun c260 =>
 R (.bool (m3 == c260)))
 (R (.bool (m3 == false))))
 (R (.bool false)))
 (R (.bool false))))
 (R (.bool false)))
 (R (.bool false))))
 (Call1 Tryz.prog f_cordonlaw_modelBegun [] .bool fun c261 =>
 sel c261
 (sel (decide (m2 = 1))
 (sel (decide ((1 : Int) = 0))
 (inb a1 a0.cons.length = true ∧
 Call1 Tryz.prog f_cordonref_ConHolds [.agg [.int .i64 ((at' .con a0.cons a1.toNat).kind), .sl .int ((at' .con a0.cons a1.toNat).vars), .sl .int ((at' .con a0.cons a1.toNat).consts), .int .i64 ((at' .con a0.cons a1.toNat).n), .sl (.list .int) ((at' .con a0.cons a1.toNat).rows), .sl .lit ((at' .con a0.cons a1.toNat).lits)], .sl .int a2] .bool fun c262 =>
 sel (m1 == c262)
 (sel (decide (m4 = c5))
 (sel (decide (c5 = 0))
 (Call1 Tryz.prog f_cordonref_AllHold [.agg [.sl .var a0.vars, .sl .con a0.cons, .int .i64 a0.goal, .int .i64 a0.var], .sl .int a2] .bool fun c263 =>
 R (.bool (m3 == c263)))
 (R (.bool (m3 == false))))
 (R (.bool false)))
 (R (.bool false)))
 (sel (m1 == false)
 (sel (decide (m4 = c5))
 (sel (decide (c5 = 0))
 (Call1 Tryz.prog f_cordonref_AllHold [.agg [.sl .var a0.vars, .sl .con a0.cons, .int .i64 a0.goal, .int .i64 a0.var], .sl .int a2] .bool fun c264 =>
 R (.bool (m3 == c264)))
 (R (.bool (m3 == false))))
 (R (.bool false)))
 (R (.bool false))))
 (R (.bool false)))
 (R (.bool false)))))
 (sel (decide (c5 = 0))
 (Call1 Tryz.prog f_cordonlaw_far [.sl .int a2] .bool fun c265 =>
 sel c265
 (sel (decide (c5 = 0))
 (sel (!decide ((a2.length : Int) = (a0.vars.length : Int)))
 (Call1 Tryz.prog f_cordonlaw_modelBegun [] .bool fun c266 =>
 sel c266
 (sel (decide (m2 = 3))
 (sel (decide ((3 : Int) = 0))
 (inb a1 a0.cons.length = true ∧
 Call1 Tryz.prog f_cordonref_ConHolds [.agg [.int .i64 ((at' .con a0.cons a1.toNat).kind), .sl .int ((at' .con a0.cons a1.toNat).vars), .sl .int ((at' .con a0.cons a1.toNat).consts), .int .i64 ((at' .con a0.cons a1.toNat).n), .sl (.list .int) ((at' .con a0.cons a1.toNat).rows), .sl .lit ((at' .con a0.cons a1.toNat).lits)], .sl .int a2] .bool fun c267 =>
 sel (m1 == c267)
 (sel (decide (m4 = 1))
 (sel (decide ((1 : Int) = 0))
 (Call1 Tryz.prog f_cordonref_AllHold [.agg [.sl .var a0.vars, .sl .con a0.cons, .int .i64 a0.goal, .int .i64 a0.var], .sl .int a2] .bool fun c268 =>
 R (.bool (m3 == c268)))
 (R (.bool (m3 == false))))
 (R (.bool false)))
 (R (.bool false)))
 (sel (m1 == false)
 (sel (decide (m4 = 1))
 (sel (decide ((1 : Int) = 0))
 (Call1 Tryz.prog f_cordonref_AllHold [.agg [.sl .var a0.vars, .sl .con a0.cons, .int .i64 a0.goal, .int .i64 a0.var], .sl .int a2] .bool fun c269 =>
 R (.bool (m3 == c269)))
 (R (.bool (m3 == false))))
 (R (.bool false)))
 (R (.bool false))))
 (R (.bool false)))
 (R (.bool false)))
 (Call1 Tryz.prog f_cordonlaw_modelBegun [] .bool fun c270 =>
 sel c270
 (sel (decide (m2 = 3))
 (sel (decide ((3 : Int) = 0))
 (inb a1 a0.cons.length = true ∧
 Call1 Tryz.prog f_cordonref_ConHolds [.agg [.int .i64 ((at' .con a0.cons a1.toNat).kind), .sl .int ((at' .con a0.cons a1.toNat).vars), .sl .int ((at' .con a0.cons a1.toNat).consts), .int .i64 ((at' .con a0.cons a1.toNat).n), .sl (.list .int) ((at' .con a0.cons a1.toNat).rows), .sl .lit ((at' .con a0.cons a1.toNat).lits)], .sl .int a2] .bool fun c271 =>
 sel (m1 == c271)
 (sel (decide (m4 = c5))
 (sel (decide (c5 = 0))
 (Call1 Tryz.prog f_cordonref_AllHold [.agg [.sl .var a0.vars, .sl .con a0.cons, .int .i64 a0.goal, .int .i64 a0.var], .sl .int a2] .bool fun c272 =>
 R (.bool (m3 == c272)))
 (R (.bool (m3 == false))))
 (R (.bool false)))
 (R (.bool false)))
 (sel (m1 == false)
 (sel (decide (m4 = c5))
 (sel (decide (c5 = 0))
 (Call1 Tryz.prog f_cordonref_AllHold [.agg [.sl .var a0.vars, .sl .con a0.cons, .int .i64 a0.goal, .int .i64 a0.var], .sl .int a2] .bool fun c273 =>
 R (.bool (m3 == c273)))
 (R (.bool (m3 == false))))
 (R (.bool false)))
 (R (.bool false))))
 (R (.bool false)))
 (R (.bool false))))
 (Call1 Tryz.prog f_cordonlaw_modelBegun [] .bool fun c274 =>
 sel c274
 (sel (decide (m2 = 3))
 (sel (decide ((3 : Int) = 0))
 (inb a1 a0.cons.length = true ∧
 Call1 Tryz.prog f_cordonref_ConHolds [.agg [.int .i64 ((at' .con a0.cons a1.toNat).kind), .sl .int ((at' .con a0.cons a1.toNat).vars), .sl .int ((at' .con a0.cons a1.toNat).consts), .int .i64 ((at' .con a0.cons a1.toNat).n), .sl (.list .int) ((at' .con a0.cons a1.toNat).rows), .sl .lit ((at' .con a0.cons a1.toNat).lits)], .sl .int a2] .bool fun c275 =>
 sel (m1 == c275)
 (sel (decide (m4 = c5))
 (sel (decide (c5 = 0))
 (Call1 Tryz.prog f_cordonref_AllHold [.agg [.sl .var a0.vars, .sl .con a0.cons, .int .i64 a0.goal, .int .i64 a0.var], .sl .int a2] .bool fun c276 =>
 R (.bool (m3 == c276)))
 (R (.bool (m3 == false))))
 (R (.bool false)))
 (R (.bool false)))
 (sel (m1 == false)
 (sel (decide (m4 = c5))
 (sel (decide (c5 = 0))
 (Call1 Tryz.prog f_cordonref_AllHold [.agg [.sl .var a0.vars, .sl .con a0.cons, .int .i64 a0.goal, .int .i64 a0.var], .sl .int a2] .bool fun c277 =>
 R (.bool (m3 == c277)))
 (R (.bool (m3 == false))))
 (R (.bool false)))
 (R (.bool false))))
 (R (.bool false)))
 (R (.bool false))))
 (sel (decide (c5 = 0))
 (sel (!decide ((a2.length : Int) = (a0.vars.length : Int)))
 (Call1 Tryz.prog f_cordonlaw_modelBegun [] .bool fun c278 =>
 sel c278
 (sel (decide (m2 = c5))
 (sel (decide (c5 = 0))
 (inb a1 a0.cons.length = true ∧
 Call1 Tryz.prog f_cordonref_ConHolds [.agg [.int .i64 ((at' .con a0.cons a1.toNat).kind), .sl .int ((at' .con a0.cons a1.toNat).vars), .sl .int ((at' .con a0.cons a1.toNat).consts), .int .i64 ((at' .con a0.cons a1.toNat).n), .sl (.list .int) ((at' .con a0.cons a1.toNat).rows), .sl .lit ((at' .con a0.cons a1.toNat).lits)], .sl .int a2] .bool fun c279 =>
 sel (m1 == c279)
 (sel (decide (m4 = 1))
 (sel (decide ((1 : Int) = 0))
 (Call1 Tryz.prog f_cordonref_AllHold [.agg [.sl .var a0.vars, .sl .con a0.cons, .int .i64 a0.goal, .int .i64 a0.var], .sl .int a2] .bool fun c280 =>
 R (.bool (m3 == c280)))
 (R (.bool (m3 == false))))
 (R (.bool false)))
 (R (.bool false)))
 (sel (m1 == false)
 (sel (decide (m4 = 1))
 (sel (decide ((1 : Int) = 0))
 (Call1 Tryz.prog f_cordonref_AllHold [.agg [.sl .var a0.vars, .sl .con a0.cons, .int .i64 a0.goal, .int .i64 a0.var], .sl .int a2] .bool fun c281 =>
 R (.bool (m3 == c281)))
 (R (.bool (m3 == false))))
 (R (.bool false)))
 (R (.bool false))))
 (R (.bool false)))
 (R (.bool false)))
 (Call1 Tryz.prog f_cordonlaw_modelBegun [] .bool fun c282 =>
 sel c282
 (sel (decide (m2 = c5))
 (sel (decide (c5 = 0))
 (inb a1 a0.cons.length = true ∧
 Call1 Tryz.prog f_cordonref_ConHolds [.agg [.int .i64 ((at' .con a0.cons a1.toNat).kind), .sl .int ((at' .con a0.cons a1.toNat).vars), .sl .int ((at' .con a0.cons a1.toNat).consts), .int .i64 ((at' .con a0.cons a1.toNat).n), .sl (.list .int) ((at' .con a0.cons a1.toNat).rows), .sl .lit ((at' .con a0.cons a1.toNat).lits)], .sl .int a2] .bool fun c283 =>
 sel (m1 == c283)
 (sel (decide (m4 = c5))
 (sel (decide (c5 = 0))
 (Call1 Tryz.prog f_cordonref_AllHold [.agg [.sl .var a0.vars, .sl .con a0.cons, .int .i64 a0.goal, .int .i64 a0.var], .sl .int a2] .bool fun c284 =>
 R (.bool (m3 == c284)))
 (R (.bool (m3 == false))))
 (R (.bool false)))
 (R (.bool false)))
 (sel (m1 == false)
 (sel (decide (m4 = c5))
 (sel (decide (c5 = 0))
 (Call1 Tryz.prog f_cordonref_AllHold [.agg [.sl .var a0.vars, .sl .con a0.cons, .int .i64 a0.goal, .int .i64 a0.var], .sl .int a2] .bool fun c285 =>
 R (.bool (m3 == c285)))
 (R (.bool (m3 == false))))
 (R (.bool false)))
 (R (.bool false))))
 (R (.bool false)))
 (R (.bool false))))
 (Call1 Tryz.prog f_cordonlaw_modelBegun [] .bool fun c286 =>
 sel c286
 (sel (decide (m2 = c5))
 (sel (decide (c5 = 0))
 (inb a1 a0.cons.length = true ∧
 Call1 Tryz.prog f_cordonref_ConHolds [.agg [.int .i64 ((at' .con a0.cons a1.toNat).kind), .sl .int ((at' .con a0.cons a1.toNat).vars), .sl .int ((at' .con a0.cons a1.toNat).consts), .int .i64 ((at' .con a0.cons a1.toNat).n), .sl (.list .int) ((at' .con a0.cons a1.toNat).rows), .sl .lit ((at' .con a0.cons a1.toNat).lits)], .sl .int a2] .bool fun c287 =>
 sel (m1 == c287)
 (sel (decide (m4 = c5))
 (sel (decide (c5 = 0))
 (Call1 Tryz.prog f_cordonref_AllHold [.agg [.sl .var a0.vars, .sl .con a0.cons, .int .i64 a0.goal, .int .i64 a0.var], .sl .int a2] .bool fun c288 =>
 R (.bool (m3 == c288)))
 (R (.bool (m3 == false))))
 (R (.bool false)))
 (R (.bool false)))
 (sel (m1 == false)
 (sel (decide (m4 = c5))
 (sel (decide (c5 = 0))
 (Call1 Tryz.prog f_cordonref_AllHold [.agg [.sl .var a0.vars, .sl .con a0.cons, .int .i64 a0.goal, .int .i64 a0.var], .sl .int a2] .bool fun c289 =>
 R (.bool (m3 == c289)))
 (R (.bool (m3 == false))))
 (R (.bool false)))
 (R (.bool false))))
 (R (.bool false)))
 (R (.bool false)))))
 (sel (decide (c5 = 0))
 (sel (!decide ((a2.length : Int) = (a0.vars.length : Int)))
 (Call1 Tryz.prog f_cordonlaw_modelBegun [] .bool fun c290 =>
 sel c290
 (sel (decide (m2 = c5))
 (sel (decide (c5 = 0))
 (inb a1 a0.cons.length = true ∧
 Call1 Tryz.prog f_cordonref_ConHolds [.agg [.int .i64 ((at' .con a0.cons a1.toNat).kind), .sl .int ((at' .con a0.cons a1.toNat).vars), .sl .int ((at' .con a0.cons a1.toNat).consts), .int .i64 ((at' .con a0.cons a1.toNat).n), .sl (.list .int) ((at' .con a0.cons a1.toNat).rows), .sl .lit ((at' .con a0.cons a1.toNat).lits)], .sl .int a2] .bool fun c291 =>
 sel (m1 == c291)
 (sel (decide (m4 = 1))
 (sel (decide ((1 : Int) = 0))
 (Call1 Tryz.prog f_cordonref_AllHold [.agg [.sl .var a0.vars, .sl .con a0.cons, .int .i64 a0.goal, .int .i64 a0.var], .sl .int a2] .bool fun c292 =>
 R (.bool (m3 == c292)))
 (R (.bool (m3 == false))))
 (R (.bool false)))
 (R (.bool false)))
 (sel (m1 == false)
 (sel (decide (m4 = 1))
 (sel (decide ((1 : Int) = 0))
 (Call1 Tryz.prog f_cordonref_AllHold [.agg [.sl .var a0.vars, .sl .con a0.cons, .int .i64 a0.goal, .int .i64 a0.var], .sl .int a2] .bool fun c293 =>
 R (.bool (m3 == c293)))
 (R (.bool (m3 == false))))
 (R (.bool false)))
 (R (.bool false))))
 (R (.bool false)))
 (R (.bool false)))
 (Call1 Tryz.prog f_cordonlaw_modelBegun [] .bool fun c294 =>
 sel c294
 (sel (decide (m2 = c5))
 (sel (decide (c5 = 0))
 (inb a1 a0.cons.length = true ∧
 Call1 Tryz.prog f_cordonref_ConHolds [.agg [.int .i64 ((at' .con a0.cons a1.toNat).kind), .sl .int ((at' .con a0.cons a1.toNat).vars), .sl .int ((at' .con a0.cons a1.toNat).consts), .int .i64 ((at' .con a0.cons a1.toNat).n), .sl (.list .int) ((at' .con a0.cons a1.toNat).rows), .sl .lit ((at' .con a0.cons a1.toNat).lits)], .sl .int a2] .bool fun c295 =>
 sel (m1 == c295)
 (sel (decide (m4 = c5))
 (sel (decide (c5 = 0))
 (Call1 Tryz.prog f_cordonref_AllHold [.agg [.sl .var a0.vars, .sl .con a0.cons, .int .i64 a0.goal, .int .i64 a0.var], .sl .int a2] .bool fun c296 =>
 R (.bool (m3 == c296)))
 (R (.bool (m3 == false))))
 (R (.bool false)))
 (R (.bool false)))
 (sel (m1 == false)
 (sel (decide (m4 = c5))
 (sel (decide (c5 = 0))
 (Call1 Tryz.prog f_cordonref_AllHold [.agg [.sl .var a0.vars, .sl .con a0.cons, .int .i64 a0.goal, .int .i64 a0.var], .sl .int a2] .bool fun c297 =>
 R (.bool (m3 == c297)))
 (R (.bool (m3 == false))))
 (R (.bool false)))
 (R (.bool false))))
 (R (.bool false)))
 (R (.bool false))))
 (Call1 Tryz.prog f_cordonlaw_modelBegun [] .bool fun c298 =>
 sel c298
 (sel (decide (m2 = c5))
 (sel (decide (c5 = 0))
 (inb a1 a0.cons.length = true ∧
 Call1 Tryz.prog f_cordonref_ConHolds [.agg [.int .i64 ((at' .con a0.cons a1.toNat).kind), .sl .int ((at' .con a0.cons a1.toNat).vars), .sl .int ((at' .con a0.cons a1.toNat).consts), .int .i64 ((at' .con a0.cons a1.toNat).n), .sl (.list .int) ((at' .con a0.cons a1.toNat).rows), .sl .lit ((at' .con a0.cons a1.toNat).lits)], .sl .int a2] .bool fun c299 =>
 sel (m1 == c299)
 (sel (decide (m4 = c5))
 (sel (decide (c5 = 0))
 (Call1 Tryz.prog f_cordonref_AllHold [.agg [.sl .var a0.vars, .sl .con a0.cons, .int .i64 a0.goal, .int .i64 a0.var], .sl .int a2] .bool fun c300 =>
 R (.bool (m3 == c300)))
 (R (.bool (m3 == false))))
 (R (.bool false)))
 (R (.bool false)))
 (sel (m1 == false)
 (sel (decide (m4 = c5))
 (sel (decide (c5 = 0))
 (Call1 Tryz.prog f_cordonref_AllHold [.agg [.sl .var a0.vars, .sl .con a0.cons, .int .i64 a0.goal, .int .i64 a0.var], .sl .int a2] .bool fun c301 =>
 R (.bool (m3 == c301)))
 (R (.bool (m3 == false))))
 (R (.bool false)))
 (R (.bool false))))
 (R (.bool false)))
 (R (.bool false))))))
 (sel (decide (c5 = 0))
 (Call1 Tryz.prog f_cordonlaw_far [.sl .int a2] .bool fun c302 =>
 sel c302
 (sel (decide (c5 = 0))
 (sel (!decide ((a2.length : Int) = (a0.vars.length : Int)))
 (Call1 Tryz.prog f_cordonlaw_modelBegun [] .bool fun c303 =>
 sel c303
 (sel (decide (m2 = 3))
 (sel (decide ((3 : Int) = 0))
 (inb a1 a0.cons.length = true ∧
 Call1 Tryz.prog f_cordonref_ConHolds [.agg [.int .i64 ((at' .con a0.cons a1.toNat).kind), .sl .int ((at' .con a0.cons a1.toNat).vars), .sl .int ((at' .con a0.cons a1.toNat).consts), .int .i64 ((at' .con a0.cons a1.toNat).n), .sl (.list .int) ((at' .con a0.cons a1.toNat).rows), .sl .lit ((at' .con a0.cons a1.toNat).lits)], .sl .int a2] .bool fun c304 =>
 sel (m1 == c304)
 (sel (decide (m4 = 1))
 (sel (decide ((1 : Int) = 0))
 (Call1 Tryz.prog f_cordonref_AllHold [.agg [.sl .var a0.vars, .sl .con a0.cons, .int .i64 a0.goal, .int .i64 a0.var], .sl .int a2] .bool fun c305 =>
 R (.bool (m3 == c305)))
 (R (.bool (m3 == false))))
 (R (.bool false)))
 (R (.bool false)))
 (sel (m1 == false)
 (sel (decide (m4 = 1))
 (sel (decide ((1 : Int) = 0))
 (Call1 Tryz.prog f_cordonref_AllHold [.agg [.sl .var a0.vars, .sl .con a0.cons, .int .i64 a0.goal, .int .i64 a0.var], .sl .int a2] .bool fun c306 =>
 R (.bool (m3 == c306)))
 (R (.bool (m3 == false))))
 (R (.bool false)))
 (R (.bool false))))
 (R (.bool false)))
 (R (.bool false)))
 (Call1 Tryz.prog f_cordonlaw_modelBegun [] .bool fun c307 =>
 sel c307
 (sel (decide (m2 = 3))
 (sel (decide ((3 : Int) = 0))
 (inb a1 a0.cons.length = true ∧
 Call1 Tryz.prog f_cordonref_ConHolds [.agg [.int .i64 ((at' .con a0.cons a1.toNat).kind), .sl .int ((at' .con a0.cons a1.toNat).vars), .sl .int ((at' .con a0.cons a1.toNat).consts), .int .i64 ((at' .con a0.cons a1.toNat).n), .sl (.list .int) ((at' .con a0.cons a1.toNat).rows), .sl .lit ((at' .con a0.cons a1.toNat).lits)], .sl .int a2] .bool fun c308 =>
 sel (m1 == c308)
 (sel (decide (m4 = c5))
 (sel (decide (c5 = 0))
 (Call1 Tryz.prog f_cordonref_AllHold [.agg [.sl .var a0.vars, .sl .con a0.cons, .int .i64 a0.goal, .int .i64 a0.var], .sl .int a2] .bool fun c309 =>
 R (.bool (m3 == c309)))
 (R (.bool (m3 == false))))
 (R (.bool false)))
 (R (.bool false)))
 (sel (m1 == false)
 (sel (decide (m4 = c5))
 (sel (decide (c5 = 0))
 (Call1 Tryz.prog f_cordonref_AllHold [.agg [.sl .var a0.vars, .sl .con a0.cons, .int .i64 a0.goal, .int .i64 a0.var], .sl .int a2] .bool fun c310 =>
 R (.bool (m3 == c310)))
 (R (.bool (m3 == false))))
 (R (.bool false)))
 (R (.bool false))))
 (R (.bool false)))
 (R (.bool false))))
 (Call1 Tryz.prog f_cordonlaw_modelBegun [] .bool fun c311 =>
 sel c311
 (sel (decide (m2 = 3))
 (sel (decide ((3 : Int) = 0))
 (inb a1 a0.cons.length = true ∧
 Call1 Tryz.prog f_cordonref_ConHolds [.agg [.int .i64 ((at' .con a0.cons a1.toNat).kind), .sl .int ((at' .con a0.cons a1.toNat).vars), .sl .int ((at' .con a0.cons a1.toNat).consts), .int .i64 ((at' .con a0.cons a1.toNat).n), .sl (.list .int) ((at' .con a0.cons a1.toNat).rows), .sl .lit ((at' .con a0.cons a1.toNat).lits)], .sl .int a2] .bool fun c312 =>
 sel (m1 == c312)
 (sel (decide (m4 = c5))
 (sel (decide (c5 = 0))
 (Call1 Tryz.prog f_cordonref_AllHold [.agg [.sl .var a0.vars, .sl .con a0.cons, .int .i64 a0.goal, .int .i64 a0.var], .sl .int a2] .bool fun c313 =>
 R (.bool (m3 == c313)))
 (R (.bool (m3 == false))))
 (R (.bool false)))
 (R (.bool false)))
 (sel (m1 == false)
 (sel (decide (m4 = c5))
 (sel (decide (c5 = 0))
 (Call1 Tryz.prog f_cordonref_AllHold [.agg [.sl .var a0.vars, .sl .con a0.cons, .int .i64 a0.goal, .int .i64 a0.var], .sl .int a2] .bool fun c314 =>
 R (.bool (m3 == c314)))
 (R (.bool (m3 == false))))
 (R (.bool false)))
 (R (.bool false))))
 (R (.bool false)))
 (R (.bool false))))
 (sel (decide (c5 = 0))
 (sel (!decide ((a2.length : Int) = (a0.vars.length : Int)))
 (Call1 Tryz.prog f_cordonlaw_modelBegun [] .bool fun c315 =>
 sel c315
 (sel (decide (m2 = c5))
 (sel (decide (c5 = 0))
 (inb a1 a0.cons.length = true ∧
 Call1 Tryz.prog f_cordonref_ConHolds [.agg [.int .i64 ((at' .con a0.cons a1.toNat).kind), .sl .int ((at' .con a0.cons a1.toNat).vars), .sl .int ((at' .con a0.cons a1.toNat).consts), .int .i64 ((at' .con a0.cons a1.toNat).n), .sl (.list .int) ((at' .con a0.cons a1.toNat).rows), .sl .lit ((at' .con a0.cons a1.toNat).lits)], .sl .int a2] .bool fun c316 =>
 sel (m1 == c316)
 (sel (decide (m4 = 1))
 (sel (decide ((1 : Int) = 0))
 (Call1 Tryz.prog f_cordonref_AllHold [.agg [.sl .var a0.vars, .sl .con a0.cons, .int .i64 a0.goal, .int .i64 a0.var], .sl .int a2] .bool fun c317 =>
 R (.bool (m3 == c317)))
 (R (.bool (m3 == false))))
 (R (.bool false)))
 (R (.bool false)))
 (sel (m1 == false)
 (sel (decide (m4 = 1))
 (sel (decide ((1 : Int) = 0))
 (Call1 Tryz.prog f_cordonref_AllHold [.agg [.sl .var a0.vars, .sl .con a0.cons, .int .i64 a0.goal, .int .i64 a0.var], .sl .int a2] .bool fun c318 =>
 R (.bool (m3 == c318)))
 (R (.bool (m3 == false))))
 (R (.bool false)))
 (R (.bool false))))
 (R (.bool false)))
 (R (.bool false)))
 (Call1 Tryz.prog f_cordonlaw_modelBegun [] .bool fun c319 =>
 sel c319
 (sel (decide (m2 = c5))
 (sel (decide (c5 = 0))
 (inb a1 a0.cons.length = true ∧
 Call1 Tryz.prog f_cordonref_ConHolds [.agg [.int .i64 ((at' .con a0.cons a1.toNat).kind), .sl .int ((at' .con a0.cons a1.toNat).vars), .sl .int ((at' .con a0.cons a1.toNat).consts), .int .i64 ((at' .con a0.cons a1.toNat).n), .sl (.list .int) ((at' .con a0.cons a1.toNat).rows), .sl .lit ((at' .con a0.cons a1.toNat).lits)], .sl .int a2] .bool fun c320 =>
 sel (m1 == c320)
 (sel (decide (m4 = c5))
 (sel (decide (c5 = 0))
 (Call1 Tryz.prog f_cordonref_AllHold [.agg [.sl .var a0.vars, .sl .con a0.cons, .int .i64 a0.goal, .int .i64 a0.var], .sl .int a2] .bool fun c321 =>
 R (.bool (m3 == c321)))
 (R (.bool (m3 == false))))
 (R (.bool false)))
 (R (.bool false)))
 (sel (m1 == false)
 (sel (decide (m4 = c5))
 (sel (decide (c5 = 0))
 (Call1 Tryz.prog f_cordonref_AllHold [.agg [.sl .var a0.vars, .sl .con a0.cons, .int .i64 a0.goal, .int .i64 a0.var], .sl .int a2] .bool fun c322 =>
 R (.bool (m3 == c322)))
 (R (.bool (m3 == false))))
 (R (.bool false)))
 (R (.bool false))))
 (R (.bool false)))
 (R (.bool false))))
 (Call1 Tryz.prog f_cordonlaw_modelBegun [] .bool fun c323 =>
 sel c323
 (sel (decide (m2 = c5))
 (sel (decide (c5 = 0))
 (inb a1 a0.cons.length = true ∧
 Call1 Tryz.prog f_cordonref_ConHolds [.agg [.int .i64 ((at' .con a0.cons a1.toNat).kind), .sl .int ((at' .con a0.cons a1.toNat).vars), .sl .int ((at' .con a0.cons a1.toNat).consts), .int .i64 ((at' .con a0.cons a1.toNat).n), .sl (.list .int) ((at' .con a0.cons a1.toNat).rows), .sl .lit ((at' .con a0.cons a1.toNat).lits)], .sl .int a2] .bool fun c324 =>
 sel (m1 == c324)
 (sel (decide (m4 = c5))
 (sel (decide (c5 = 0))
 (Call1 Tryz.prog f_cordonref_AllHold [.agg [.sl .var a0.vars, .sl .con a0.cons, .int .i64 a0.goal, .int .i64 a0.var], .sl .int a2] .bool fun c325 =>
 R (.bool (m3 == c325)))
 (R (.bool (m3 == false))))
 (R (.bool false)))
 (R (.bool false)))
 (sel (m1 == false)
 (sel (decide (m4 = c5))
 (sel (decide (c5 = 0))
 (Call1 Tryz.prog f_cordonref_AllHold [.agg [.sl .var a0.vars, .sl .con a0.cons, .int .i64 a0.goal, .int .i64 a0.var], .sl .int a2] .bool fun c326 =>
 R (.bool (m3 == c326)))
 (R (.bool (m3 == false))))
 (R (.bool false)))
 (R (.bool false))))
 (R (.bool false)))
 (R (.bool false)))))
 (sel (decide (c5 = 0))
 (sel (!decide ((a2.length : Int) = (a0.vars.length : Int)))
 (Call1 Tryz.prog f_cordonlaw_modelBegun [] .bool fun c327 =>
 sel c327
 (sel (decide (m2 = c5))
 (sel (decide (c5 = 0))
 (inb a1 a0.cons.length = true ∧
 Call1 Tryz.prog f_cordonref_ConHolds [.agg [.int .i64 ((at' .con a0.cons a1.toNat).kind), .sl .int ((at' .con a0.cons a1.toNat).vars), .sl .int ((at' .con a0.cons a1.toNat).consts), .int .i64 ((at' .con a0.cons a1.toNat).n), .sl (.list .int) ((at' .con a0.cons a1.toNat).rows), .sl .lit ((at' .con a0.cons a1.toNat).lits)], .sl .int a2] .bool fun c328 =>
 sel (m1 == c328)
 (sel (decide (m4 = 1))
 (sel (decide ((1 : Int) = 0))
 (Call1 Tryz.prog f_cordonref_AllHold [.agg [.sl .var a0.vars, .sl .con a0.cons, .int .i64 a0.goal, .int .i64 a0.var], .sl .int a2] .bool fun c329 =>
 R (.bool (m3 == c329)))
 (R (.bool (m3 == false))))
 (R (.bool false)))
 (R (.bool false)))
 (sel (m1 == false)
 (sel (decide (m4 = 1))
 (sel (decide ((1 : Int) = 0))
 (Call1 Tryz.prog f_cordonref_AllHold [.agg [.sl .var a0.vars, .sl .con a0.cons, .int .i64 a0.goal, .int .i64 a0.var], .sl .int a2] .bool fun c330 =>
 R (.bool (m3 == c330)))
 (R (.bool (m3 == false))))
 (R (.bool false)))
 (R (.bool false))))
 (R (.bool false)))
 (R (.bool false)))
 (Call1 Tryz.prog f_cordonlaw_modelBegun [] .bool fun c331 =>
 sel c331
 (sel (decide (m2 = c5))
 (sel (decide (c5 = 0))
 (inb a1 a0.cons.length = true ∧
 Call1 Tryz.prog f_cordonref_ConHolds [.agg [.int .i64 ((at' .con a0.cons a1.toNat).kind), .sl .int ((at' .con a0.cons a1.toNat).vars), .sl .int ((at' .con a0.cons a1.toNat).consts), .int .i64 ((at' .con a0.cons a1.toNat).n), .sl (.list .int) ((at' .con a0.cons a1.toNat).rows), .sl .lit ((at' .con a0.cons a1.toNat).lits)], .sl .int a2] .bool fun c332 =>
 sel (m1 == c332)
 (sel (decide (m4 = c5))
 (sel (decide (c5 = 0))
 (Call1 Tryz.prog f_cordonref_AllHold [.agg [.sl .var a0.vars, .sl .con a0.cons, .int .i64 a0.goal, .int .i64 a0.var], .sl .int a2] .bool fun c333 =>
 R (.bool (m3 == c333)))
 (R (.bool (m3 == false))))
 (R (.bool false)))
 (R (.bool false)))
 (sel (m1 == false)
 (sel (decide (m4 = c5))
 (sel (decide (c5 = 0))
 (Call1 Tryz.prog f_cordonref_AllHold [.agg [.sl .var a0.vars, .sl .con a0.cons, .int .i64 a0.goal, .int .i64 a0.var], .sl .int a2] .bool fun c334 =>
 R (.bool (m3 == c334)))
 (R (.bool (m3 == false))))
 (R (.bool false)))
 (R (.bool false))))
 (R (.bool false)))
 (R (.bool false))))
 (Call1 Tryz.prog f_cordonlaw_modelBegun [] .bool fun c335 =>
 sel c335
 (sel (decide (m2 = c5))
 (sel (decide (c5 = 0))
 (inb a1 a0.cons.length = true ∧
 Call1 Tryz.prog f_cordonref_ConHolds [.agg [.int .i64 ((at' .con a0.cons a1.toNat).kind), .sl .int ((at' .con a0.cons a1.toNat).vars), .sl .int ((at' .con a0.cons a1.toNat).consts), .int .i64 ((at' .con a0.cons a1.toNat).n), .sl (.list .int) ((at' .con a0.cons a1.toNat).rows), .sl .lit ((at' .con a0.cons a1.toNat).lits)], .sl .int a2] .bool fun c336 =>
 sel (m1 == c336)
 (sel (decide (m4 = c5))
 (sel (decide (c5 = 0))
 (Call1 Tryz.prog f_cordonref_AllHold [.agg [.sl .var a0.vars, .sl .con a0.cons, .int .i64 a0.goal, .int .i64 a0.var], .sl .int a2] .bool fun c337 =>
 R (.bool (m3 == c337)))
 (R (.bool (m3 == false))))
 (R (.bool false)))
 (R (.bool false)))
 (sel (m1 == false)
 (sel (decide (m4 = c5))
 (sel (decide (c5 = 0))
 (Call1 Tryz.prog f_cordonref_AllHold [.agg [.sl .var a0.vars, .sl .con a0.cons, .int .i64 a0.goal, .int .i64 a0.var], .sl .int a2] .bool fun c338 =>
 R (.bool (m3 == c338)))
 (R (.bool (m3 == false))))
 (R (.bool false)))
 (R (.bool false))))
 (R (.bool false)))
 (R (.bool false))))))))
 (sel (decide (c5 = 0))
 (sel (!decide ((a2.length : Int) = (a0.vars.length : Int)))
 (sel (decide ((1 : Int) = 0))
 (Call1 Tryz.prog f_cordonlaw_far [.sl .int a2] .bool fun c339 =>
 sel c339
 (sel (decide (c5 = 0))
 (sel (!decide ((a2.length : Int) = (a0.vars.length : Int)))
 (Call1 Tryz.prog f_cordonlaw_modelBegun [] .bool fun c340 =>
 sel c340
 (sel (decide (m2 = 3))
 (sel (decide ((3 : Int) = 0))
 (inb a1 a0.cons.length = true ∧
 Call1 Tryz.prog f_cordonref_ConHolds [.agg [.int .i64 ((at' .con a0.cons a1.toNat).kind), .sl .int ((at' .con a0.cons a1.toNat).vars), .sl .int ((at' .con a0.cons a1.toNat).consts), .int .i64 ((at' .con a0.cons a1.toNat).n), .sl (.list .int) ((at' .con a0.cons a1.toNat).rows), .sl .lit ((at' .con a0.cons a1.toNat).lits)], .sl .int a2] .bool fun c341 =>
 sel (m1 == c341)
 (sel (decide (m4 = 1))
 (sel (decide ((1 : Int) = 0))
 (Call1 Tryz.prog f_cordonref_AllHold [.agg [.sl .var a0.vars, .sl .con a0.cons, .int .i64 a0.goal, .int .i64 a0.var], .sl .int a2] .bool fun c342 =>
 R (.bool (m3 == c342)))
 (R (.bool (m3 == false))))
 (R (.bool false)))
 (R (.bool false)))
 (sel (m1 == false)
 (sel (decide (m4 = 1))
 (sel (decide ((1 : Int) = 0))
 (Call1 Tryz.prog f_cordonref_AllHold [.agg [.sl .var a0.vars, .sl .con a0.cons, .int .i64 a0.goal, .int .i64 a0.var], .sl .int a2] .bool fun c343 =>
 R (.bool (m3 == c343)))
 (R (.bool (m3 == false))))
 (R (.bool false)))
 (R (.bool false))))
 (R (.bool false)))
 (R (.bool false)))
 (Call1 Tryz.prog f_cordonlaw_modelBegun [] .bool fun c344 =>
 sel c344
 (sel (decide (m2 = 3))
 (sel (decide ((3 : Int) = 0))
 (inb a1 a0.cons.length = true ∧
 Call1 Tryz.prog f_cordonref_ConHolds [.agg [.int .i64 ((at' .con a0.cons a1.toNat).kind), .sl .int ((at' .con a0.cons a1.toNat).vars), .sl .int ((at' .con a0.cons a1.toNat).consts), .int .i64 ((at' .con a0.cons a1.toNat).n), .sl (.list .int) ((at' .con a0.cons a1.toNat).rows), .sl .lit ((at' .con a0.cons a1.toNat).lits)], .sl .int a2] .bool fun c345 =>
 sel (m1 == c345)
 (sel (decide (m4 = c5))
 (sel (decide (c5 = 0))
 (Call1 Tryz.prog f_cordonref_AllHold [.agg [.sl .var a0.vars, .sl .con a0.cons, .int .i64 a0.goal, .int .i64 a0.var], .sl .int a2] .bool fun c346 =>
 R (.bool (m3 == c346)))
 (R (.bool (m3 == false))))
 (R (.bool false)))
 (R (.bool false)))
 (sel (m1 == false)
 (sel (decide (m4 = c5))
 (sel (decide (c5 = 0))
 (Call1 Tryz.prog f_cordonref_AllHold [.agg [.sl .var a0.vars, .sl .con a0.cons, .int .i64 a0.goal, .int .i64 a0.var], .sl .int a2] .bool fun c347 =>
 R (.bool (m3 == c347)))
 (R (.bool (m3 == false))))
 (R (.bool false)))
 (R (.bool false))))
 (R (.bool false)))
 (R (.bool false))))
 (Call1 Tryz.prog f_cordonlaw_modelBegun [] .bool fun c348 =>
 sel c348
 (sel (decide (m2 = 3))
 (sel (decide ((3 : Int) = 0))
 (inb a1 a0.cons.length = true ∧
 Call1 Tryz.prog f_cordonref_ConHolds [.agg [.int .i64 ((at' .con a0.cons a1.toNat).kind), .sl .int ((at' .con a0.cons a1.toNat).vars), .sl .int ((at' .con a0.cons a1.toNat).consts), .int .i64 ((at' .con a0.cons a1.toNat).n), .sl (.list .int) ((at' .con a0.cons a1.toNat).rows), .sl .lit ((at' .con a0.cons a1.toNat).lits)], .sl .int a2] .bool fun c349 =>
 sel (m1 == c349)
 (sel (decide (m4 = c5))
 (sel (decide (c5 = 0))
 (Call1 Tryz.prog f_cordonref_AllHold [.agg [.sl .var a0.vars, .sl .con a0.cons, .int .i64 a0.goal, .int .i64 a0.var], .sl .int a2] .bool fun c350 =>
 R (.bool (m3 == c350)))
 (R (.bool (m3 == false))))
 (R (.bool false)))
 (R (.bool false)))
 (sel (m1 == false)
 (sel (decide (m4 = c5))
 (sel (decide (c5 = 0))
 (Call1 Tryz.prog f_cordonref_AllHold [.agg [.sl .var a0.vars, .sl .con a0.cons, .int .i64 a0.goal, .int .i64 a0.var], .sl .int a2] .bool fun c351 =>
 R (.bool (m3 == c351)))
 (R (.bool (m3 == false))))
 (R (.bool false)))
 (R (.bool false))))
 (R (.bool false)))
 (R (.bool false))))
 (sel (decide (c5 = 0))
 (sel (!decide ((a2.length : Int) = (a0.vars.length : Int)))
 (Call1 Tryz.prog f_cordonlaw_modelBegun [] .bool fun c352 =>
 sel c352
 (sel (decide (m2 = 1))
 (sel (decide ((1 : Int) = 0))
 (inb a1 a0.cons.length = true ∧
 Call1 Tryz.prog f_cordonref_ConHolds [.agg [.int .i64 ((at' .con a0.cons a1.toNat).kind), .sl .int ((at' .con a0.cons a1.toNat).vars), .sl .int ((at' .con a0.cons a1.toNat).consts), .int .i64 ((at' .con a0.cons a1.toNat).n), .sl (.list .int) ((at' .con a0.cons a1.toNat).rows), .sl .lit ((at' .con a0.cons a1.toNat).lits)], .sl .int a2] .bool fun c353 =>
 sel (m1 == c353)
 (sel (decide (m4 = 1))
 (sel (decide ((1 : Int) = 0))
 (Call1 Tryz.prog f_cordonref_AllHold [.agg [.sl .var a0.vars, .sl .con a0.cons, .int .i64 a0.goal, .int .i64 a0.var], .sl .int a2] .bool fun c354 =>
 R (.bool (m3 == c354)))
 (R (.bool (m3 == false))))
 (R (.bool false)))
 (R (.bool false)))
 (sel (m1 == false)
 (sel (decide (m4 = 1))
 (sel (decide ((1 : Int) = 0))
 (Call1 Tryz.prog f_cordonref_AllHold [.agg [.sl .var a0.vars, .sl .con a0.cons, .int .i64 a0.goal, .int .i64 a0.var], .sl .int a2] .bool fun c355 =>
 R (.bool (m3 == c355)))
 (R (.bool (m3 == false))))
 (R (.bool false)))
 (R (.bool false))))
 (R (.bool false)))
 (R (.bool false)))
 (Call1 Tryz.prog f_cordonlaw_modelBegun [] .bool fun c356 =>
 sel c356
 (sel (decide (m2 = 1))
 (sel (decide ((1 : Int) = 0))
 (inb a1 a0.cons.length = true ∧
 Call1 Tryz.prog f_cordonref_ConHolds [.agg [.int .i64 ((at' .con a0.cons a1.toNat).kind), .sl .int ((at' .con a0.cons a1.toNat).vars), .sl .int ((at' .con a0.cons a1.toNat).consts), .int .i64 ((at' .con a0.cons a1.toNat).n), .sl (.list .int) ((at' .con a0.cons a1.toNat).rows), .sl .lit ((at' .con a0.cons a1.toNat).lits)], .sl .int a2] .bool fun c357 =>
 sel (m1 == c357)
 (sel (decide (m4 = c5))
 (sel (decide (c5 = 0))
 (Call1 Tryz.prog f_cordonref_AllHold [.agg [.sl .var a0.vars, .sl .con a0.cons, .int .i64 a0.goal, .int .i64 a0.var], .sl .int a2] .bool fun c358 =>
 R (.bool (m3 == c358)))
 (R (.bool (m3 == false))))
 (R (.bool false)))
 (R (.bool false)))
 (sel (m1 == false)
 (sel (decide (m4 = c5))
 (sel (decide (c5 = 0))
 (Call1 Tryz.prog f_cordonref_AllHold [.agg [.sl .var a0.vars, .sl .con a0.cons, .int .i64 a0.goal, .int .i64 a0.var], .sl .int a2] .bool fun c359 =>
 R (.bool (m3 == c359)))
 (R (.bool (m3 == false))))
 (R (.bool false)))
 (R (.bool false))))
 (R (.bool false)))
 (R (.bool false))))
 (Call1 Tryz.prog f_cordonlaw_modelBegun [] .bool fun c360 =>
 sel c360
 (sel (decide (m2 = 1))
 (sel (decide ((1 : Int) = 0))
 (inb a1 a0.cons.length = true ∧
 Call1 Tryz.prog f_cordonref_ConHolds [.agg [.int .i64 ((at' .con a0.cons a1.toNat).kind), .sl .int ((at' .con a0.cons a1.toNat).vars), .sl .int ((at' .con a0.cons a1.toNat).consts), .int .i64 ((at' .con a0.cons a1.toNat).n), .sl (.list .int) ((at' .con a0.cons a1.toNat).rows), .sl .lit ((at' .con a0.cons a1.toNat).lits)], .sl .int a2] .bool fun c361 =>
 sel (m1 == c361)
 (sel (decide (m4 = c5))
 (sel (decide (c5 = 0))
 (Call1 Tryz.prog f_cordonref_AllHold [.agg [.sl .var a0.vars, .sl .con a0.cons, .int .i64 a0.goal, .int .i64 a0.var], .sl .int a2] .bool fun c362 =>
 R (.bool (m3 == c362)))
 (R (.bool (m3 == false))))
 (R (.bool false)))
 (R (.bool false)))
 (sel (m1 == false)
 (sel (decide (m4 = c5))
 (sel (decide (c5 = 0))
 (Call1 Tryz.prog f_cordonref_AllHold [.agg [.sl .var a0.vars, .sl .con a0.cons, .int .i64 a0.goal, .int .i64 a0.var], .sl .int a2] .bool fun c363 =>
 R (.bool (m3 == c363)))
 (R (.bool (m3 == false))))
 (R (.bool false)))
 (R (.bool false))))
 (R (.bool false)))
 (R (.bool false)))))
 (sel (decide (c5 = 0))
 (sel (!decide ((a2.length : Int) = (a0.vars.length : Int)))
 (Call1 Tryz.prog f_cordonlaw_modelBegun [] .bool fun c364 =>
 sel c364
 (sel (decide (m2 = 1))
 (sel (decide ((1 : Int) = 0))
 (inb a1 a0.cons.length = true ∧
 Call1 Tryz.prog f_cordonref_ConHolds [.agg [.int .i64 ((at' .con a0.cons a1.toNat).kind), .sl .int ((at' .con a0.cons a1.toNat).vars), .sl .int ((at' .con a0.cons a1.toNat).consts), .int .i64 ((at' .con a0.cons a1.toNat).n), .sl (.list .int) ((at' .con a0.cons a1.toNat).rows), .sl .lit ((at' .con a0.cons a1.toNat).lits)], .sl .int a2] .bool fun c365 =>
 sel (m1 == c365)
 (sel (decide (m4 = 1))
 (sel (decide ((1 : Int) = 0))
 (Call1 Tryz.prog f_cordonref_AllHold [.agg [.sl .var a0.vars, .sl .con a0.cons, .int .i64 a0.goal, .int .i64 a0.var], .sl .int a2] .bool fun c366 =>
 R (.bool (m3 == c366)))
 (R (.bool (m3 == false))))
 (R (.bool false)))
 (R (.bool false)))
 (sel (m1 == false)
 (sel (decide (m4 = 1))
 (sel (decide ((1 : Int) = 0))
 (Call1 Tryz.prog f_cordonref_AllHold [.agg [.sl .var a0.vars, .sl .con a0.cons, .int .i64 a0.goal, .int .i64 a0.var], .sl .int a2] .bool fun c367 =>
 R (.bool (m3 == c367)))
 (R (.bool (m3 == false))))
 (R (.bool false)))
 (R (.bool false))))
 (R (.bool false)))
 (R (.bool false)))
 (Call1 Tryz.prog f_cordonlaw_modelBegun [] .bool fun c368 =>
 sel c368
 (sel (decide (m2 = 1))
 (sel (decide ((1 : Int) = 0))
 (inb a1 a0.cons.length = true ∧
 Call1 Tryz.prog f_cordonref_ConHolds [.agg [.int .i64 ((at' .con a0.cons a1.toNat).kind), .sl .int ((at' .con a0.cons a1.toNat).vars), .sl .int ((at' .con a0.cons a1.toNat).consts), .int .i64 ((at' .con a0.cons a1.toNat).n), .sl (.list .int) ((at' .con a0.cons a1.toNat).rows), .sl .lit ((at' .con a0.cons a1.toNat).lits)], .sl .int a2] .bool fun c369 =>
 sel (m1 == c369)
 (sel (decide (m4 = c5))
 (sel (decide (c5 = 0))
 (Call1 Tryz.prog f_cordonref_AllHold [.agg [.sl .var a0.vars, .sl .con a0.cons, .int .i64 a0.goal, .int .i64 a0.var], .sl .int a2] .bool fun c370 =>
 R (.bool (m3 == c370)))
 (R (.bool (m3 == false))))
 (R (.bool false)))
 (R (.bool false)))
 (sel (m1 == false)
 (sel (decide (m4 = c5))
 (sel (decide (c5 = 0))
 (Call1 Tryz.prog f_cordonref_AllHold [.agg [.sl .var a0.vars, .sl .con a0.cons, .int .i64 a0.goal, .int .i64 a0.var], .sl .int a2] .bool fun c371 =>
 R (.bool (m3 == c371)))
 (R (.bool (m3 == false))))
 (R (.bool false)))
 (R (.bool false))))
 (R (.bool false)))
 (R (.bool false))))
 (Call1 Tryz.prog f_cordonlaw_modelBegun [] .bool fun c372 =>
 sel c372
 (sel (decide (m2 = 1))
 (sel (decide ((1 : Int) = 0))
 (inb a1 a0.cons.length = true ∧
 Call1 Tryz.prog f_cordonref_ConHolds [.agg [.int .i64 ((at' .con a0.cons a1.toNat).kind), .sl .int ((at' .con a0.cons a1.toNat).vars), .sl .int ((at' .con a0.cons a1.toNat).consts), .int .i64 ((at' .con a0.cons a1.toNat).n), .sl (.list .int) ((at' .con a0.cons a1.toNat).rows), .sl .lit ((at' .con a0.cons a1.toNat).lits)], .sl .int a2] .bool fun c373 =>
 sel (m1 == c373)
 (sel (decide (m4 = c5))
 (sel (decide (c5 = 0))
 (Call1 Tryz.prog f_cordonref_AllHold [.agg [.sl .var a0.vars, .sl .con a0.cons, .int .i64 a0.goal, .int .i64 a0.var], .sl .int a2] .bool fun c374 =>
 R (.bool (m3 == c374)))
 (R (.bool (m3 == false))))
 (R (.bool false)))
 (R (.bool false)))
 (sel (m1 == false)
 (sel (decide (m4 = c5))
 (sel (decide (c5 = 0))
 (Call1 Tryz.prog f_cordonref_AllHold [.agg [.sl .var a0.vars, .sl .con a0.cons, .int .i64 a0.goal, .int .i64 a0.var], .sl .int a2] .bool fun c375 =>
 R (.bool (m3 == c375)))
 (R (.bool (m3 == false))))
 (R (.bool false)))
 (R (.bool false))))
 (R (.bool false)))
 (R (.bool false)))))
 (sel (decide (c5 = 0))
 (Call1 Tryz.prog f_cordonlaw_far [.sl .int a2] .bool fun c376 =>
 sel c376
 (sel (decide (c5 = 0))
 (sel (!decide ((a2.length : Int) = (a0.vars.length : Int)))
 (Call1 Tryz.prog f_cordonlaw_modelBegun [] .bool fun c377 =>
 sel c377
 (sel (decide (m2 = 3))
 (sel (decide ((3 : Int) = 0))
 (inb a1 a0.cons.length = true ∧
 Call1 Tryz.prog f_cordonref_ConHolds [.agg [.int .i64 ((at' .con a0.cons a1.toNat).kind), .sl .int ((at' .con a0.cons a1.toNat).vars), .sl .int ((at' .con a0.cons a1.toNat).consts), .int .i64 ((at' .con a0.cons a1.toNat).n), .sl (.list .int) ((at' .con a0.cons a1.toNat).rows), .sl .lit ((at' .con a0.cons a1.toNat).lits)], .sl .int a2] .bool fun c378 =>
 sel (m1 == c378)
 (sel (decide (m4 = 1))
 (sel (decide ((1 : Int) = 0))
 (Call1 Tryz.prog f_cordonref_AllHold [.agg [.sl .var a0.vars, .sl .con a0.cons, .int .i64 a0.goal, .int .i64 a0.var], .sl .int a2] .bool fun c379 =>
 R (.bool (m3 == c379)))
 (R (.bool (m3 == false))))
 (R (.bool false)))
 (R (.bool false)))
 (sel (m1 == false)
 (sel (decide (m4 = 1))
 (sel (decide ((1 : Int) = 0))
 (Call1 Tryz.prog f_cordonref_AllHold [.agg [.sl .var a0.vars, .sl .con a0.cons, .int .i64 a0.goal, .int .i64 a0.var], .sl .int a2] .bool fun c380 =>
 R (.bool (m3 == c380)))
 (R (.bool (m3 == false))))
 (R (.bool false)))
 (R (.bool false))))
 (R (.bool false)))
 (R (.bool false)))
 (Call1 Tryz.prog f_cordonlaw_modelBegun [] .bool fun c381 =>
 sel c381
 (sel (decide (m2 = 3))
 (sel (decide ((3 : Int) = 0))
 (inb a1 a0.cons.length = true ∧
 Call1 Tryz.prog f_cordonref_ConHolds [.agg [.int .i64 ((at' .con a0.cons a1.toNat).kind), .sl .int ((at' .con a0.cons a1.toNat).vars), .sl .int ((at' .con a0.cons a1.toNat).consts), .int .i64 ((at' .con a0.cons a1.toNat).n), .sl (.list .int) ((at' .con a0.cons a1.toNat).rows), .sl .lit ((at' .con a0.cons a1.toNat).lits)], .sl .int a2] .bool fun c382 =>
 sel (m1 == c382)
 (sel (decide (m4 = c5))
 (sel (decide (c5 = 0))
 (Call1 Tryz.prog f_cordonref_AllHold [.agg [.sl .var a0.vars, .sl .con a0.cons, .int .i64 a0.goal, .int .i64 a0.var], .sl .int a2] .bool fun c383 =>
 R (.bool (m3 == c383)))
 (R (.bool (m3 == false))))
 (R (.bool false)))
 (R (.bool false)))
 (sel (m1 == false)
 (sel (decide (m4 = c5))
 (sel (decide (c5 = 0))
 (Call1 Tryz.prog f_cordonref_AllHold [.agg [.sl .var a0.vars, .sl .con a0.cons, .int .i64 a0.goal, .int .i64 a0.var], .sl .int a2] .bool fun c384 =>
 R (.bool (m3 == c384)))
 (R (.bool (m3 == false))))
 (R (.bool false)))
 (R (.bool false))))
 (R (.bool false)))
 (R (.bool false))))
 (Call1 Tryz.prog f_cordonlaw_modelBegun [] .bool fun c385 =>
 sel c385
 (sel (decide (m2 = 3))
 (sel (decide ((3 : Int) = 0))
 (inb a1 a0.cons.length = true ∧
 Call1 Tryz.prog f_cordonref_ConHolds [.agg [.int .i64 ((at' .con a0.cons a1.toNat).kind), .sl .int ((at' .con a0.cons a1.toNat).vars), .sl .int ((at' .con a0.cons a1.toNat).consts), .int .i64 ((at' .con a0.cons a1.toNat).n), .sl (.list .int) ((at' .con a0.cons a1.toNat).rows), .sl .lit ((at' .con a0.cons a1.toNat).lits)], .sl .int a2] .bool fun c386 =>
 sel (m1 == c386)
 (sel (decide (m4 = c5))
 (sel (decide (c5 = 0))
 (Call1 Tryz.prog f_cordonref_AllHold [.agg [.sl .var a0.vars, .sl .con a0.cons, .int .i64 a0.goal, .int .i64 a0.var], .sl .int a2] .bool fun c387 =>
 R (.bool (m3 == c387)))
 (R (.bool (m3 == false))))
 (R (.bool false)))
 (R (.bool false)))
 (sel (m1 == false)
 (sel (decide (m4 = c5))
 (sel (decide (c5 = 0))
 (Call1 Tryz.prog f_cordonref_AllHold [.agg [.sl .var a0.vars, .sl .con a0.cons, .int .i64 a0.goal, .int .i64 a0.var], .sl .int a2] .bool fun c388 =>
 R (.bool (m3 == c388)))
 (R (.bool (m3 == false))))
 (R (.bool false)))
 (R (.bool false))))
 (R (.bool false)))
 (R (.bool false))))
 (sel (decide (c5 = 0))
 (sel (!decide ((a2.length : Int) = (a0.vars.length : Int)))
 (Call1 Tryz.prog f_cordonlaw_modelBegun [] .bool fun c389 =>
 sel c389
 (sel (decide (m2 = c5))
 (sel (decide (c5 = 0))
 (inb a1 a0.cons.length = true ∧
 Call1 Tryz.prog f_cordonref_ConHolds [.agg [.int .i64 ((at' .con a0.cons a1.toNat).kind), .sl .int ((at' .con a0.cons a1.toNat).vars), .sl .int ((at' .con a0.cons a1.toNat).consts), .int .i64 ((at' .con a0.cons a1.toNat).n), .sl (.list .int) ((at' .con a0.cons a1.toNat).rows), .sl .lit ((at' .con a0.cons a1.toNat).lits)], .sl .int a2] .bool fun c390 =>
 sel (m1 == c390)
 (sel (decide (m4 = 1))
 (sel (decide ((1 : Int) = 0))
 (Call1 Tryz.prog f_cordonref_AllHold [.agg [.sl .var a0.vars, .sl .con a0.cons, .int .i64 a0.goal, .int .i64 a0.var], .sl .int a2] .bool fun c391 =>
 R (.bool (m3 == c391)))
 (R (.bool (m3 == false))))
 (R (.bool false)))
 (R (.bool false)))
 (sel (m1 == false)
 (sel (decide (m4 = 1))
 (sel (decide ((1 : Int) = 0))
 (Call1 Tryz.prog f_cordonref_AllHold [.agg [.sl .var a0.vars, .sl .con a0.cons, .int .i64 a0.goal, .int .i64 a0.var], .sl .int a2] .bool fun c392 =>
 R (.bool (m3 == c392)))
 (R (.bool (m3 == false))))
 (R (.bool false)))
 (R (.bool false))))
 (R (.bool false)))
 (R (.bool false)))
 (Call1 Tryz.prog f_cordonlaw_modelBegun [] .bool fun c393 =>
 sel c393
 (sel (decide (m2 = c5))
 (sel (decide (c5 = 0))
 (inb a1 a0.cons.length = true ∧
 Call1 Tryz.prog f_cordonref_ConHolds [.agg [.int .i64 ((at' .con a0.cons a1.toNat).kind), .sl .int ((at' .con a0.cons a1.toNat).vars), .sl .int ((at' .con a0.cons a1.toNat).consts), .int .i64 ((at' .con a0.cons a1.toNat).n), .sl (.list .int) ((at' .con a0.cons a1.toNat).rows), .sl .lit ((at' .con a0.cons a1.toNat).lits)], .sl .int a2] .bool fun c394 =>
 sel (m1 == c394)
 (sel (decide (m4 = c5))
 (sel (decide (c5 = 0))
 (Call1 Tryz.prog f_cordonref_AllHold [.agg [.sl .var a0.vars, .sl .con a0.cons, .int .i64 a0.goal, .int .i64 a0.var], .sl .int a2] .bool fun c395 =>
 R (.bool (m3 == c395)))
 (R (.bool (m3 == false))))
 (R (.bool false)))
 (R (.bool false)))
 (sel (m1 == false)
 (sel (decide (m4 = c5))
 (sel (decide (c5 = 0))
 (Call1 Tryz.prog f_cordonref_AllHold [.agg [.sl .var a0.vars, .sl .con a0.cons, .int .i64 a0.goal, .int .i64 a0.var], .sl .int a2] .bool fun c396 =>
 R (.bool (m3 == c396)))
 (R (.bool (m3 == false))))
 (R (.bool false)))
 (R (.bool false))))
 (R (.bool false)))
 (R (.bool false))))
 (Call1 Tryz.prog f_cordonlaw_modelBegun [] .bool fun c397 =>
 sel c397
 (sel (decide (m2 = c5))
 (sel (decide (c5 = 0))
 (inb a1 a0.cons.length = true ∧
 Call1 Tryz.prog f_cordonref_ConHolds [.agg [.int .i64 ((at' .con a0.cons a1.toNat).kind), .sl .int ((at' .con a0.cons a1.toNat).vars), .sl .int ((at' .con a0.cons a1.toNat).consts), .int .i64 ((at' .con a0.cons a1.toNat).n), .sl (.list .int) ((at' .con a0.cons a1.toNat).rows), .sl .lit ((at' .con a0.cons a1.toNat).lits)], .sl .int a2] .bool fun c398 =>
 sel (m1 == c398)
 (sel (decide (m4 = c5))
 (sel (decide (c5 = 0))
 (Call1 Tryz.prog f_cordonref_AllHold [.agg [.sl .var a0.vars, .sl .con a0.cons, .int .i64 a0.goal, .int .i64 a0.var], .sl .int a2] .bool fun c399 =>
 R (.bool (m3 == c399)))
 (R (.bool (m3 == false))))
 (R (.bool false)))
 (R (.bool false)))
 (sel (m1 == false)
 (sel (decide (m4 = c5))
 (sel (decide (c5 = 0))
 (Call1 Tryz.prog f_cordonref_AllHold [.agg [.sl .var a0.vars, .sl .con a0.cons, .int .i64 a0.goal, .int .i64 a0.var], .sl .int a2] .bool fun c400 =>
 R (.bool (m3 == c400)))
 (R (.bool (m3 == false))))
 (R (.bool false)))
 (R (.bool false))))
 (R (.bool false)))
 (R (.bool false)))))
 (sel (decide (c5 = 0))
 (sel (!decide ((a2.length : Int) = (a0.vars.length : Int)))
 (Call1 Tryz.prog f_cordonlaw_modelBegun [] .bool fun c401 =>
 sel c401
 (sel (decide (m2 = c5))
 (sel (decide (c5 = 0))
 (inb a1 a0.cons.length = true ∧
 Call1 Tryz.prog f_cordonref_ConHolds [.agg [.int .i64 ((at' .con a0.cons a1.toNat).kind), .sl .int ((at' .con a0.cons a1.toNat).vars), .sl .int ((at' .con a0.cons a1.toNat).consts), .int .i64 ((at' .con a0.cons a1.toNat).n), .sl (.list .int) ((at' .con a0.cons a1.toNat).rows), .sl .lit ((at' .con a0.cons a1.toNat).lits)], .sl .int a2] .bool fun c402 =>
 sel (m1 == c402)
 (sel (decide (m4 = 1))
 (sel (decide ((1 : Int) = 0))
 (Call1 Tryz.prog f_cordonref_AllHold [.agg [.sl .var a0.vars, .sl .con a0.cons, .int .i64 a0.goal, .int .i64 a0.var], .sl .int a2] .bool fun c403 =>
 R (.bool (m3 == c403)))
 (R (.bool (m3 == false))))
 (R (.bool false)))
 (R (.bool false)))
 (sel (m1 == false)
 (sel (decide (m4 = 1))
 (sel (decide ((1 : Int) = 0))
 (Call1 Tryz.prog f_cordonref_AllHold [.agg [.sl .var a0.vars, .sl .con a0.cons, .int .i64 a0.goal, .int .i64 a0.var], .sl .int a2] .bool fun c404 =>
 R (.bool (m3 == c404)))
 (R (.bool (m3 == false))))
 (R (.bool false)))
 (R (.bool false))))
 (R (.bool false)))
 (R (.bool false)))
 (Call1 Tryz.prog f_cordonlaw_modelBegun [] .bool fun c405 =>
 sel c405
 (sel (decide (m2 = c5))
 (sel (decide (c5 = 0))
 (inb a1 a0.cons.length = true ∧
 Call1 Tryz.prog f_cordonref_ConHolds [.agg [.int .i64 ((at' .con a0.cons a1.toNat).kind), .sl .int ((at' .con a0.cons a1.toNat).vars), .sl .int ((at' .con a0.cons a1.toNat).consts), .int .i64 ((at' .con a0.cons a1.toNat).n), .sl (.list .int) ((at' .con a0.cons a1.toNat).rows), .sl .lit ((at' .con a0.cons a1.toNat).lits)], .sl .int a2] .bool fun c406 =>
 sel (m1 == c406)
 (sel (decide (m4 = c5))
 (sel (decide (c5 = 0))
 (Call1 Tryz.prog f_cordonref_AllHold [.agg [.sl .var a0.vars, .sl .con a0.cons, .int .i64 a0.goal, .int .i64 a0.var], .sl .int a2] .bool fun c407 =>
 R (.bool (m3 == c407)))
 (R (.bool (m3 == false))))
 (R (.bool false)))
 (R (.bool false)))
 (sel (m1 == false)
 (sel (decide (m4 = c5))
 (sel (decide (c5 = 0))
 (Call1 Tryz.prog f_cordonref_AllHold [.agg [.sl .var a0.vars, .sl .con a0.cons, .int .i64 a0.goal, .int .i64 a0.var], .sl .int a2] .bool fun c408 =>
 R (.bool (m3 == c408)))
 (R (.bool (m3 == false))))
 (R (.bool false)))
 (R (.bool false))))
 (R (.bool false)))
 (R (.bool false))))
 (Call1 Tryz.prog f_cordonlaw_modelBegun [] .bool fun c409 =>
 sel c409
 (sel (decide (m2 = c5))
 (sel (decide (c5 = 0))
 (inb a1 a0.cons.length = true ∧
 Call1 Tryz.prog f_cordonref_ConHolds [.agg [.int .i64 ((at' .con a0.cons a1.toNat).kind), .sl .int ((at' .con a0.cons a1.toNat).vars), .sl .int ((at' .con a0.cons a1.toNat).consts), .int .i64 ((at' .con a0.cons a1.toNat).n), .sl (.list .int) ((at' .con a0.cons a1.toNat).rows), .sl .lit ((at' .con a0.cons a1.toNat).lits)], .sl .int a2] .bool fun c410 =>
 sel (m1 == c410)
 (sel (decide (m4 = c5))
 (sel (decide (c5 = 0))
 (Call1 Tryz.prog f_cordonref_AllHold [.agg [.sl .var a0.vars, .sl .con a0.cons, .int .i64 a0.goal, .int .i64 a0.var], .sl .int a2] .bool fun c411 =>
 R (.bool (m3 == c411)))
 (R (.bool (m3 == false))))
 (R (.bool false)))
 (R (.bool false)))
 (sel (m1 == false)
 (sel (decide (m4 = c5))
 (sel (decide (c5 = 0))
 (Call1 Tryz.prog f_cordonref_AllHold [.agg [.sl .var a0.vars, .sl .con a0.cons, .int .i64 a0.goal, .int .i64 a0.var], .sl .int a2] .bool fun c412 =>
 R (.bool (m3 == c412)))
 (R (.bool (m3 == false))))
 (R (.bool false)))
 (R (.bool false))))
 (R (.bool false)))
 (R (.bool false))))))
 (sel (decide (c5 = 0))
 (Call1 Tryz.prog f_cordonlaw_far [.sl .int a2] .bool fun c413 =>
 sel c413
 (sel (decide (c5 = 0))
 (sel (!decide ((a2.length : Int) = (a0.vars.length : Int)))
 (Call1 Tryz.prog f_cordonlaw_modelBegun [] .bool fun c414 =>
 sel c414
 (sel (decide (m2 = 3))
 (sel (decide ((3 : Int) = 0))
 (inb a1 a0.cons.length = true ∧
 Call1 Tryz.prog f_cordonref_ConHolds [.agg [.int .i64 ((at' .con a0.cons a1.toNat).kind), .sl .int ((at' .con a0.cons a1.toNat).vars), .sl .int ((at' .con a0.cons a1.toNat).consts), .int .i64 ((at' .con a0.cons a1.toNat).n), .sl (.list .int) ((at' .con a0.cons a1.toNat).rows), .sl .lit ((at' .con a0.cons a1.toNat).lits)], .sl .int a2] .bool fun c415 =>
 sel (m1 == c415)
 (sel (decide (m4 = 1))
 (sel (decide ((1 : Int) = 0))
 (Call1 Tryz.prog f_cordonref_AllHold [.agg [.sl .var a0.vars, .sl .con a0.cons, .int .i64 a0.goal, .int .i64 a0.var], .sl .int a2] .bool fun c416 =>
 R (.bool (m3 == c416)))
 (R (.bool (m3 == false))))
 (R (.bool false)))
 (R (.bool false)))
 (sel (m1 == false)
 (sel (decide (m4 = 1))
 (sel (decide ((1 : Int) = 0))
 (Call1 Tryz.prog f_cordonref_AllHold [.agg [.sl .var a0.vars, .sl .con a0.cons, .int .i64 a0.goal, .int .i64 a0.var], .sl .int a2] .bool fun c417 =>
 R (.bool (m3 == c417)))
 (R (.bool (m3 == false))))
 (R (.bool false)))
 (R (.bool false))))
 (R (.bool false)))
 (R (.bool false)))
 (Call1 Tryz.prog f_cordonlaw_modelBegun [] .bool fun c418 =>
 sel c418
 (sel (decide (m2 = 3))
 (sel (decide ((3 : Int) = 0))
 (inb a1 a0.cons.length = true ∧
 Call1 Tryz.prog f_cordonref_ConHolds [.agg [.int .i64 ((at' .con a0.cons a1.toNat).kind), .sl .int ((at' .con a0.cons a1.toNat).vars), .sl .int ((at' .con a0.cons a1.toNat).consts), .int .i64 ((at' .con a0.cons a1.toNat).n), .sl (.list .int) ((at' .con a0.cons a1.toNat).rows), .sl .lit ((at' .con a0.cons a1.toNat).lits)], .sl .int a2] .bool fun c419 =>
 sel (m1 == c419)
 (sel (decide (m4 = c5))
 (sel (decide (c5 = 0))
 (Call1 Tryz.prog f_cordonref_AllHold [.agg [.sl .var a0.vars, .sl .con a0.cons, .int .i64 a0.goal, .int .i64 a0.var], .sl .int a2] .bool fun c420 =>
 R (.bool (m3 == c420)))
 (R (.bool (m3 == false))))
 (R (.bool false)))
 (R (.bool false)))
 (sel (m1 == false)
 (sel (decide (m4 = c5))
 (sel (decide (c5 = 0))
 (Call1 Tryz.prog f_cordonref_AllHold [.agg [.sl .var a0.vars, .sl .con a0.cons, .int .i64 a0.goal, .int .i64 a0.var], .sl .int a2] .bool fun c421 =>
 R (.bool (m3 == c421)))
 (R (.bool (m3 == false))))
 (R (.bool false)))
 (R (.bool false))))
 (R (.bool false)))
 (R (.bool false))))
 (Call1 Tryz.prog f_cordonlaw_modelBegun [] .bool fun c422 =>
 sel c422
 (sel (decide (m2 = 3))
 (sel (decide ((3 : Int) = 0))
 (inb a1 a0.cons.length = true ∧
 Call1 Tryz.prog f_cordonref_ConHolds [.agg [.int .i64 ((at' .con a0.cons a1.toNat).kind), .sl .int ((at' .con a0.cons a1.toNat).vars), .sl .int ((at' .con a0.cons a1.toNat).consts), .int .i64 ((at' .con a0.cons a1.toNat).n), .sl (.list .int) ((at' .con a0.cons a1.toNat).rows), .sl .lit ((at' .con a0.cons a1.toNat).lits)], .sl .int a2] .bool fun c423 =>
 sel (m1 == c423)
 (sel (decide (m4 = c5))
 (sel (decide (c5 = 0))
 (Call1 Tryz.prog f_cordonref_AllHold [.agg [.sl .var a0.vars, .sl .con a0.cons, .int .i64 a0.goal, .int .i64 a0.var], .sl .int a2] .bool fun c424 =>
 R (.bool (m3 == c424)))
 (R (.bool (m3 == false))))
 (R (.bool false)))
 (R (.bool false)))
 (sel (m1 == false)
 (sel (decide (m4 = c5))
 (sel (decide (c5 = 0))
 (Call1 Tryz.prog f_cordonref_AllHold [.agg [.sl .var a0.vars, .sl .con a0.cons, .int .i64 a0.goal, .int .i64 a0.var], .sl .int a2] .bool fun c425 =>
 R (.bool (m3 == c425)))
 (R (.bool (m3 == false))))
 (R (.bool false)))
 (R (.bool false))))
 (R (.bool false)))
 (R (.bool false))))
 (sel (decide (c5 = 0))
 (sel (!decide ((a2.length : Int) = (a0.vars.length : Int)))
 (Call1 Tryz.prog f_cordonlaw_modelBegun [] .bool fun c426 =>
 sel c426
 (sel (decide (m2 = c5))
 (sel (decide (c5 = 0))
 (inb a1 a0.cons.length = true ∧
 Call1 Tryz.prog f_cordonref_ConHolds [.agg [.int .i64 ((at' .con a0.cons a1.toNat).kind), .sl .int ((at' .con a0.cons a1.toNat).vars), .sl .int ((at' .con a0.cons a1.toNat).consts), .int .i64 ((at' .con a0.cons a1.toNat).n), .sl (.list .int) ((at' .con a0.cons a1.toNat).rows), .sl .lit ((at' .con a0.cons a1.toNat).lits)], .sl .int a2] .bool fun c427 =>
 sel (m1 == c427)
 (sel (decide (m4 = 1))
 (sel (decide ((1 : Int) = 0))
 (Call1 Tryz.prog f_cordonref_AllHold [.agg [.sl .var a0.vars, .sl .con a0.cons, .int .i64 a0.goal, .int .i64 a0.var], .sl .int a2] .bool fun c428 =>
 R (.bool (m3 == c428)))
 (R (.bool (m3 == false))))
 (R (.bool false)))
 (R (.bool false)))
 (sel (m1 == false)
 (sel (decide (m4 = 1))
 (sel (decide ((1 : Int) = 0))
 (Call1 Tryz.prog f_cordonref_AllHold [.agg [.sl .var a0.vars, .sl .con a0.cons, .int .i64 a0.goal, .int .i64 a0.var], .sl .int a2] .bool fun c429 =>
 R (.bool (m3 == c429)))
 (R (.bool (m3 == false))))
 (R (.bool false)))
 (R (.bool false))))
 (R (.bool false)))
 (R (.bool false)))
 (Call1 Tryz.prog f_cordonlaw_modelBegun [] .bool fun c430 =>
 sel c430
 (sel (decide (m2 = c5))
 (sel (decide (c5 = 0))
 (inb a1 a0.cons.length = true ∧
 Call1 Tryz.prog f_cordonref_ConHolds [.agg [.int .i64 ((at' .con a0.cons a1.toNat).kind), .sl .int ((at' .con a0.cons a1.toNat).vars), .sl .int ((at' .con a0.cons a1.toNat).consts), .int .i64 ((at' .con a0.cons a1.toNat).n), .sl (.list .int) ((at' .con a0.cons a1.toNat).rows), .sl .lit ((at' .con a0.cons a1.toNat).lits)], .sl .int a2] .bool fun c431 =>
 sel (m1 == c431)
 (sel (decide (m4 = c5))
 (sel (decide (c5 = 0))
 (Call1 Tryz.prog f_cordonref_AllHold [.agg [.sl .var a0.vars, .sl .con a0.cons, .int .i64 a0.goal, .int .i64 a0.var], .sl .int a2] .bool fun c432 =>
 R (.bool (m3 == c432)))
 (R (.bool (m3 == false))))
 (R (.bool false)))
 (R (.bool false)))
 (sel (m1 == false)
 (sel (decide (m4 = c5))
 (sel (decide (c5 = 0))
 (Call1 Tryz.prog f_cordonref_AllHold [.agg [.sl .var a0.vars, .sl .con a0.cons, .int .i64 a0.goal, .int .i64 a0.var], .sl .int a2] .bool fun c433 =>
 R (.bool (m3 == c433)))
 (R (.bool (m3 == false))))
 (R (.bool false)))
 (R (.bool false))))
 (R (.bool false)))
 (R (.bool false))))
 (Call1 Tryz.prog f_cordonlaw_modelBegun [] .bool fun c434 =>
 sel c434
 (sel (decide (m2 = c5))
 (sel (decide (c5 = 0))
 (inb a1 a0.cons.length = true ∧
 Call1 Tryz.prog f_cordonref_ConHolds [.agg [.int .i64 ((at' .con a0.cons a1.toNat).kind), .sl .int ((at' .con a0.cons a1.toNat).vars), .sl .int ((at' .con a0.cons a1.toNat).consts), .int .i64 ((at' .con a0.cons a1.toNat).n), .sl (.list .int) ((at' .con a0.cons a1.toNat).rows), .sl .lit ((at' .con a0.cons a1.toNat).lits)], .sl .int a2] .bool fun c435 =>
 sel (m1 == c435)
 (sel (decide (m4 = c5))
 (sel (decide (c5 = 0))
 (Call1 Tryz.prog f_cordonref_AllHold [.agg [.sl .var a0.vars, .sl .con a0.cons, .int .i64 a0.goal, .int .i64 a0.var], .sl .int a2] .bool fun c436 =>
 R (.bool (m3 == c436)))
 (R (.bool (m3 == false))))
 (R (.bool false)))
 (R (.bool false)))
 (sel (m1 == false)
 (sel (decide (m4 = c5))
 (sel (decide (c5 = 0))
 (Call1 Tryz.prog f_cordonref_AllHold [.agg [.sl .var a0.vars, .sl .con a0.cons, .int .i64 a0.goal, .int .i64 a0.var], .sl .int a2] .bool fun c437 =>
 R (.bool (m3 == c437)))
 (R (.bool (m3 == false))))
 (R (.bool false)))
 (R (.bool false))))
 (R (.bool false)))
 (R (.bool false)))))
 (sel (decide (c5 = 0))
 (sel (!decide ((a2.length : Int) = (a0.vars.length : Int)))
 (Call1 Tryz.prog f_cordonlaw_modelBegun [] .bool fun c438 =>
 sel c438
 (sel (decide (m2 = c5))
 (sel (decide (c5 = 0))
 (inb a1 a0.cons.length = true ∧
 Call1 Tryz.prog f_cordonref_ConHolds [.agg [.int .i64 ((at' .con a0.cons a1.toNat).kind), .sl .int ((at' .con a0.cons a1.toNat).vars), .sl .int ((at' .con a0.cons a1.toNat).consts), .int .i64 ((at' .con a0.cons a1.toNat).n), .sl (.list .int) ((at' .con a0.cons a1.toNat).rows), .sl .lit ((at' .con a0.cons a1.toNat).lits)], .sl .int a2] .bool fun c439 =>
 sel (m1 == c439)
 (sel (decide (m4 = 1))
 (sel (decide ((1 : Int) = 0))
 (Call1 Tryz.prog f_cordonref_AllHold [.agg [.sl .var a0.vars, .sl .con a0.cons, .int .i64 a0.goal, .int .i64 a0.var], .sl .int a2] .bool fun c440 =>
 R (.bool (m3 == c440)))
 (R (.bool (m3 == false))))
 (R (.bool false)))
 (R (.bool false)))
 (sel (m1 == false)
 (sel (decide (m4 = 1))
 (sel (decide ((1 : Int) = 0))
 (Call1 Tryz.prog f_cordonref_AllHold [.agg [.sl .var a0.vars, .sl .con a0.cons, .int .i64 a0.goal, .int .i64 a0.var], .sl .int a2] .bool fun c441 =>
 R (.bool (m3 == c441)))
 (R (.bool (m3 == false))))
 (R (.bool false)))
 (R (.bool false))))
 (R (.bool false)))
 (R (.bool false)))
 (Call1 Tryz.prog f_cordonlaw_modelBegun [] .bool fun c442 =>
 sel c442
 (sel (decide (m2 = c5))
 (sel (decide (c5 = 0))
 (inb a1 a0.cons.length = true ∧
 Call1 Tryz.prog f_cordonref_ConHolds [.agg [.int .i64 ((at' .con a0.cons a1.toNat).kind), .sl .int ((at' .con a0.cons a1.toNat).vars), .sl .int ((at' .con a0.cons a1.toNat).consts), .int .i64 ((at' .con a0.cons a1.toNat).n), .sl (.list .int) ((at' .con a0.cons a1.toNat).rows), .sl .lit ((at' .con a0.cons a1.toNat).lits)], .sl .int a2] .bool fun c443 =>
 sel (m1 == c443)
 (sel (decide (m4 = c5))
 (sel (decide (c5 = 0))
 (Call1 Tryz.prog f_cordonref_AllHold [.agg [.sl .var a0.vars, .sl .con a0.cons, .int .i64 a0.goal, .int .i64 a0.var], .sl .int a2] .bool fun c444 =>
 R (.bool (m3 == c444)))
 (R (.bool (m3 == false))))
 (R (.bool false)))
 (R (.bool false)))
 (sel (m1 == false)
 (sel (decide (m4 = c5))
 (sel (decide (c5 = 0))
 (Call1 Tryz.prog f_cordonref_AllHold [.agg [.sl .var a0.vars, .sl .con a0.cons, .int .i64 a0.goal, .int .i64 a0.var], .sl .int a2] .bool fun c445 =>
 R (.bool (m3 == c445)))
 (R (.bool (m3 == false))))
 (R (.bool false)))
 (R (.bool false))))
 (R (.bool false)))
 (R (.bool false))))
 (Call1 Tryz.prog f_cordonlaw_modelBegun [] .bool fun c446 =>
 sel c446
 (sel (decide (m2 = c5))
 (sel (decide (c5 = 0))
 (inb a1 a0.cons.length = true ∧
 Call1 Tryz.prog f_cordonref_ConHolds [.agg [.int .i64 ((at' .con a0.cons a1.toNat).kind), .sl .int ((at' .con a0.cons a1.toNat).vars), .sl .int ((at' .con a0.cons a1.toNat).consts), .int .i64 ((at' .con a0.cons a1.toNat).n), .sl (.list .int) ((at' .con a0.cons a1.toNat).rows), .sl .lit ((at' .con a0.cons a1.toNat).lits)], .sl .int a2] .bool fun c447 =>
 sel (m1 == c447)
 (sel (decide (m4 = c5))
 (sel (decide (c5 = 0))
 (Call1 Tryz.prog f_cordonref_AllHold [.agg [.sl .var a0.vars, .sl .con a0.cons, .int .i64 a0.goal, .int .i64 a0.var], .sl .int a2] .bool fun c448 =>
 R (.bool (m3 == c448)))
 (R (.bool (m3 == false))))
 (R (.bool false)))
 (R (.bool false)))
 (sel (m1 == false)
 (sel (decide (m4 = c5))
 (sel (decide (c5 = 0))
 (Call1 Tryz.prog f_cordonref_AllHold [.agg [.sl .var a0.vars, .sl .con a0.cons, .int .i64 a0.goal, .int .i64 a0.var], .sl .int a2] .bool fun c449 =>
 R (.bool (m3 == c449)))
 (R (.bool (m3 == false))))
 (R (.bool false)))
 (R (.bool false))))
 (R (.bool false)))
 (R (.bool false))))))) := by kernel_rfl
theorem cordonlaw_ModelHolds_sat {r : D} (a0 : MdlD) (a1 : Int) (a2 : List Int) (h : (∀ d ∈ [.agg [.sl .var a0.vars, .sl .con a0.cons, .int .i64 a0.goal, .int .i64 a0.var], .int .i64 a1, .sl .int a2], okD d) → fnD Tryz.prog Ev cordonlaw_ModelHolds_A Tryz.f4.results.toList (bodyOf Tryz.f4) [.agg [.sl .var a0.vars, .sl .con a0.cons, .int .i64 a0.goal, .int .i64 a0.var], .int .i64 a1, .sl .int a2] fun d => d = r) : Sat Tryz.prog f_cordonlaw_ModelHolds [.agg [.sl .var a0.vars, .sl .con a0.cons, .int .i64 a0.goal, .int .i64 a0.var], .int .i64 a1, .sl .int a2] r := by
  have h2 := sat_of (r := r) (args := [.agg [.sl .var a0.vars, .sl .con a0.cons, .int .i64 a0.goal, .int .i64 a0.var], .int .i64 a1, .sl .int a2]) (A := cordonlaw_ModelHolds_A) (fn := Tryz.f4) (body := bodyOf Tryz.f4) (f := f_cordonlaw_ModelHolds) factsEv Tryz.func4 (by kernel_rfl) (by rw [Tryz.ntmps4]; rfl) (by rw [Tryz.ntmps4]; exact Nat.le_of_ble_eq_true rfl)
  with_reducible exact h2 h
/-! ### cordon/cordonlaw.far -/
def cordonlaw_far_A : Ann := { own := [], live := [(0, ([0, 3], []))], n := 22, nils := [], pubs := [] }
def cordonlaw_far_I0 (a0 : List Int) (R : D → Prop) (n0 : Nat) (i1 : Int) : Prop := iter (den Tryz.prog Ev cordonlaw_far_A (sub [1, 0, 1, 0, 0] (bodyOf Tryz.f19)) 0) cordonlaw_far_A (liveOf cordonlaw_far_A 0) n0 ⟨[(0, .sl .int a0), (3, .int .i64 i1)], []⟩ (blockK 0 (seqK Tryz.prog Ev cordonlaw_far_A (sub [1, 1] (bodyOf Tryz.f19)) 0 (endK Ev Tryz.f19.results.toList R)))
theorem cordonlaw_far_I0_eq (a0 : List Int) (R : D → Prop) (n0 : Nat) (i1 : Int) : cordonlaw_far_I0 a0 R (n0 + 1) i1 =
 (sel (decide (i1 < (a0.length : Int)))
 (inb i1 a0.length = true ∧
 sel (decide ((at' .int a0 i1.toNat) < (-50)))
 (R (.bool true))
 (inb i1 a0.length = true ∧
 sel (decide (50 < (at' .int a0 i1.toNat)))
 (R (.bool true))
 (cordonlaw_far_I0 a0 R n0 (w64 (i1 + 1)))))
 (R (.bool false))) := by kernel_rfl
theorem cordonlaw_far_eq (a0 : List Int) (R : D → Prop) : fnD Tryz.prog Ev cordonlaw_far_A Tryz.f19.results.toList (bodyOf Tryz.f19) [.sl .int a0] R =
 (∃ n0, cordonlaw_far_I0 a0 R n0 0) := by kernel_rfl
theorem cordonlaw_far_sat {r : D} (a0 : List Int) (h : (∀ d ∈ [.sl .int a0], okD d) → fnD Tryz.prog Ev cordonlaw_far_A Tryz.f19.results.toList (bodyOf Tryz.f19) [.sl .int a0] fun d => d = r) : Sat Tryz.prog f_cordonlaw_far [.sl .int a0] r := by
  have h2 := sat_of (r := r) (args := [.sl .int a0]) (A := cordonlaw_far_A) (fn := Tryz.f19) (body := bodyOf Tryz.f19) (f := f_cordonlaw_far) factsEv Tryz.func19 (by kernel_rfl) (by rw [Tryz.ntmps19]; rfl) (by rw [Tryz.ntmps19]; exact Nat.le_of_ble_eq_true rfl)
  with_reducible exact h2 h
/-! ### cordon/cordonlaw.modelBegun -/
def cordonlaw_modelBegun_A : Ann := { own := [], live := [], n := 51, nils := [], pubs := [] }
theorem cordonlaw_modelBegun_eq  (R : D → Prop) : fnD Tryz.prog Ev cordonlaw_modelBegun_A Tryz.f20.results.toList (bodyOf Tryz.f20) [] R =
 (Call1 Tryz.prog f_cordonlaw_two [] .mdl fun c1 =>
 Call2 Tryz.prog f_model_Holds [.agg [.sl .var c1.vars, .sl .con c1.cons, .int .i64 c1.goal, .int .i64 c1.var], .int .i64 0, .sl .int ([0, 1])] .bool .int fun m2 m3 =>
 Call1 Tryz.prog f_cordonlaw_two [] .mdl fun c4 =>
 Call2 Tryz.prog f_model_All [.agg [.sl .var c4.vars, .sl .con c4.cons, .int .i64 c4.goal, .int .i64 c4.var], .sl .int ([2, 1])] .bool .int fun m5 m6 =>
 Call1 Tryz.prog f_cordonlaw_two [] .mdl fun c7 =>
 Call2 Tryz.prog f_model_Scope [.agg [.sl .var c7.vars, .sl .con c7.cons, .int .i64 c7.goal, .int .i64 c7.var], .int .i64 0] (.list .int) .int fun m8 m9 =>
 Call1 Tryz.prog f_cordonlaw_two [] .mdl fun c10 =>
 Call1 Tryz.prog f_model_Check [.agg [.sl .var c10.vars, .sl .con c10.cons, .int .i64 c10.goal, .int .i64 c10.var]] .int fun m11 =>
 sel (decide (m11 = 0))
 (sel (decide (m3 = 0))
 (sel (decide (m6 = 0))
 (sel (decide (m9 = 0))
 (sel m2
 (sel (!m5)
 (Call1 Tryz.prog f_cordonref_SameInts [.sl .int m8, .sl .int ([0, 1])] .bool fun c12 =>
 R (.bool c12))
 (R (.bool false)))
 (R (.bool false)))
 (R (.bool false)))
 (R (.bool false)))
 (R (.bool false)))
 (R (.bool false))) := by kernel_rfl
theorem cordonlaw_modelBegun_sat {r : D}  (h : (∀ d ∈ [], okD d) → fnD Tryz.prog Ev cordonlaw_modelBegun_A Tryz.f20.results.toList (bodyOf Tryz.f20) [] fun d => d = r) : Sat Tryz.prog f_cordonlaw_modelBegun [] r := by
  have h2 := sat_of (r := r) (args := []) (A := cordonlaw_modelBegun_A) (fn := Tryz.f20) (body := bodyOf Tryz.f20) (f := f_cordonlaw_modelBegun) factsEv Tryz.func20 (by kernel_rfl) (by rw [Tryz.ntmps20]; rfl) (by rw [Tryz.ntmps20]; exact Nat.le_of_ble_eq_true rfl)
  with_reducible exact h2 h
/-! ### cordon/cordonlaw.two -/
def cordonlaw_two_A : Ann := { own := [0], live := [], n := 9, nils := [], pubs := [] }
theorem cordonlaw_two_eq  (R : D → Prop) : fnD Tryz.prog Ev cordonlaw_two_A Tryz.f39.results.toList (bodyOf Tryz.f39) [] R =
 (R (.agg [.sl .var ([(⟨(⟨#[120]⟩ : ByteArray), 0, 2⟩ : VarD), (⟨(⟨#[121]⟩ : ByteArray), 0, 2⟩ : VarD)]), .sl .con ([(⟨1, [0, 1], [1, -1], -1, ([] : List (List Int)), ([] : List LitD)⟩ : ConD)]), .int .i64 1, .int .i64 1])) := by kernel_rfl
theorem cordonlaw_two_sat {r : D}  (h : (∀ d ∈ [], okD d) → fnD Tryz.prog Ev cordonlaw_two_A Tryz.f39.results.toList (bodyOf Tryz.f39) [] fun d => d = r) : Sat Tryz.prog f_cordonlaw_two [] r := by
  have h2 := sat_of (r := r) (args := []) (A := cordonlaw_two_A) (fn := Tryz.f39) (body := bodyOf Tryz.f39) (f := f_cordonlaw_two) factsEv Tryz.func39 (by kernel_rfl) (by rw [Tryz.ntmps39]; rfl) (by rw [Tryz.ntmps39]; exact Nat.le_of_ble_eq_true rfl)
  with_reducible exact h2 h
end Go.Proofs.YtonkbljpcgadlaaGreat
