/- What the functions of a package do, as equations of plain propositions: printed by a program that carries the code out on symbols. -/
import Derived.Test.YtonkbljpcgadlaaGreatWEv
namespace Go.Proofs.YtonkbljpcgadlaaGreat
open Go.RowKit
set_option linter.unusedVariables false
set_option maxRecDepth 100000
/-! ### cordon/cordonlaw.ClauseTells -/
def cordonlaw_ClauseTells_A : Ann := { own := [], live := [], n := 113, nils := [], pubs := [] }
theorem cordonlaw_ClauseTells_eq (a0 : MdlD) (a1 : List (List Int)) (a2 : List LitD) (a3 : List Int) (R : D → Prop) : fnD Tryz.prog Ev cordonlaw_ClauseTells_A Tryz.f3.results.toList (bodyOf Tryz.f3) [.agg [.sl .var a0.vars, .sl .con a0.cons, .int .i64 a0.goal, .int .i64 a0.var], .sl (.list .int) a1, .sl .lit a2, .sl .int a3] R =
 (Call2 Tryz.prog f_clause_Holds [.agg [.sl .var a0.vars, .sl .con a0.cons, .int .i64 a0.goal, .int .i64 a0.var], .sl .lit a2, .sl .int a3] .bool .int fun c1 c2 =>
 Call2 Tryz.prog f_clause_Unit [.agg [.sl .var a0.vars, .sl .con a0.cons, .int .i64 a0.goal, .int .i64 a0.var], .sl (.list .int) a1, .sl .lit a2] (.list (.list .int)) .int fun c3 c4 =>
 Call2 Tryz.prog f_clause_Deny [.agg [.sl .var a0.vars, .sl .con a0.cons, .int .i64 a0.goal, .int .i64 a0.var], .sl (.list .int) a1, .sl .lit a2] (.list (.list .int)) .int fun c5 c6 =>
 Call1 Tryz.prog f_cordonref_CheckModel [.agg [.sl .var a0.vars, .sl .con a0.cons, .int .i64 a0.goal, .int .i64 a0.var]] .int fun c7 =>
 sel (decide (c7 = 0))
 (Call1 Tryz.prog f_cordonref_CheckClause [.agg [.sl .var a0.vars, .sl .con a0.cons, .int .i64 a0.goal, .int .i64 a0.var], .sl .lit a2] .int fun c8 =>
 sel (decide (c8 = 0))
 (sel (!decide ((a3.length : Int) = (a0.vars.length : Int)))
 (Call1 Tryz.prog f_cordonlaw_checkStore [.agg [.sl .var a0.vars, .sl .con a0.cons, .int .i64 a0.goal, .int .i64 a0.var], .sl (.list .int) a1] .int fun c9 =>
 sel (decide (c9 = 0))
 (Call1 Tryz.prog f_cordonref_CheckClause [.agg [.sl .var a0.vars, .sl .con a0.cons, .int .i64 a0.goal, .int .i64 a0.var], .sl .lit a2] .int fun c10 =>
 sel (decide (c10 = 0))
 (Call1 Tryz.prog f_cordonref_UnitOf [.sl (.list .int) a1, .sl .lit a2] (.list (.list .int)) fun c11 =>
 Call1 Tryz.prog f_cordonref_DenyOf [.sl (.list .int) a1, .sl .lit a2] (.list (.list .int)) fun c12 =>
 Call1 Tryz.prog f_cordonlaw_clauseBegun [] .bool fun c13 =>
 sel c13
 (Call1 Tryz.prog f_clause_Check [.agg [.sl .var a0.vars, .sl .con a0.cons, .int .i64 a0.goal, .int .i64 a0.var], .sl .lit a2] .int fun c14 =>
 sel (decide (c14 = c8))
 (sel (decide (c2 = 1))
 (sel (decide ((1 : Int) = 0))
 (Call1 Tryz.prog f_cordonref_ClauseHolds [.sl .lit a2, .sl .int a3] .bool fun c15 =>
 sel (c1 == c15)
 (Call1 Tryz.prog f_cordonlaw_storeIs [.sl (.list .int) c3, .int .i64 c4, .int .i64 c10, .sl (.list .int) c11] .bool fun c16 =>
 sel c16
 (Call1 Tryz.prog f_cordonlaw_storeIs [.sl (.list .int) c5, .int .i64 c6, .int .i64 c10, .sl (.list .int) c12] .bool fun c17 =>
 R (.bool c17))
 (R (.bool false)))
 (R (.bool false)))
 (sel (c1 == false)
 (Call1 Tryz.prog f_cordonlaw_storeIs [.sl (.list .int) c3, .int .i64 c4, .int .i64 c10, .sl (.list .int) c11] .bool fun c18 =>
 sel c18
 (Call1 Tryz.prog f_cordonlaw_storeIs [.sl (.list .int) c5, .int .i64 c6, .int .i64 c10, .sl (.list .int) c12] .bool fun c19 =>
 R (.bool c19))
 (R (.bool false)))
 (R (.bool false))))
 (R (.bool false)))
 (R (.bool false)))
 (R (.bool false)))
 (Call1 Tryz.prog f_cordonlaw_clauseBegun [] .bool fun c20 =>
 sel c20
 (Call1 Tryz.prog f_clause_Check [.agg [.sl .var a0.vars, .sl .con a0.cons, .int .i64 a0.goal, .int .i64 a0.var], .sl .lit a2] .int fun c21 =>
 sel (decide (c21 = c8))
 (sel (decide (c2 = 1))
 (sel (decide ((1 : Int) = 0))
 (Call1 Tryz.prog f_cordonref_ClauseHolds [.sl .lit a2, .sl .int a3] .bool fun c22 =>
 sel (c1 == c22)
 (Call1 Tryz.prog f_cordonlaw_storeIs [.sl (.list .int) c3, .int .i64 c4, .int .i64 c10, .sl (.list .int) ([] : List (List Int))] .bool fun c23 =>
 sel c23
 (Call1 Tryz.prog f_cordonlaw_storeIs [.sl (.list .int) c5, .int .i64 c6, .int .i64 c10, .sl (.list .int) ([] : List (List Int))] .bool fun c24 =>
 R (.bool c24))
 (R (.bool false)))
 (R (.bool false)))
 (sel (c1 == false)
 (Call1 Tryz.prog f_cordonlaw_storeIs [.sl (.list .int) c3, .int .i64 c4, .int .i64 c10, .sl (.list .int) ([] : List (List Int))] .bool fun c25 =>
 sel c25
 (Call1 Tryz.prog f_cordonlaw_storeIs [.sl (.list .int) c5, .int .i64 c6, .int .i64 c10, .sl (.list .int) ([] : List (List Int))] .bool fun c26 =>
 R (.bool c26))
 (R (.bool false)))
 (R (.bool false))))
 (R (.bool false)))
 (R (.bool false)))
 (R (.bool false))))
 (sel (decide (c9 = 0))
 (Call1 Tryz.prog f_cordonref_UnitOf [.sl (.list .int) a1, .sl .lit a2] (.list (.list .int)) fun c27 =>
 Call1 Tryz.prog f_cordonref_DenyOf [.sl (.list .int) a1, .sl .lit a2] (.list (.list .int)) fun c28 =>
 Call1 Tryz.prog f_cordonlaw_clauseBegun [] .bool fun c29 =>
 sel c29
 (Call1 Tryz.prog f_clause_Check [.agg [.sl .var a0.vars, .sl .con a0.cons, .int .i64 a0.goal, .int .i64 a0.var], .sl .lit a2] .int fun c30 =>
 sel (decide (c30 = c8))
 (sel (decide (c2 = 1))
 (sel (decide ((1 : Int) = 0))
 (Call1 Tryz.prog f_cordonref_ClauseHolds [.sl .lit a2, .sl .int a3] .bool fun c31 =>
 sel (c1 == c31)
 (Call1 Tryz.prog f_cordonlaw_storeIs [.sl (.list .int) c3, .int .i64 c4, .int .i64 c9, .sl (.list .int) c27] .bool fun c32 =>
 sel c32
 (Call1 Tryz.prog f_cordonlaw_storeIs [.sl (.list .int) c5, .int .i64 c6, .int .i64 c9, .sl (.list .int) c28] .bool fun c33 =>
 R (.bool c33))
 (R (.bool false)))
 (R (.bool false)))
 (sel (c1 == false)
 (Call1 Tryz.prog f_cordonlaw_storeIs [.sl (.list .int) c3, .int .i64 c4, .int .i64 c9, .sl (.list .int) c27] .bool fun c34 =>
 sel c34
 (Call1 Tryz.prog f_cordonlaw_storeIs [.sl (.list .int) c5, .int .i64 c6, .int .i64 c9, .sl (.list .int) c28] .bool fun c35 =>
 R (.bool c35))
 (R (.bool false)))
 (R (.bool false))))
 (R (.bool false)))
 (R (.bool false)))
 (R (.bool false)))
 (Call1 Tryz.prog f_cordonlaw_clauseBegun [] .bool fun c36 =>
 sel c36
 (Call1 Tryz.prog f_clause_Check [.agg [.sl .var a0.vars, .sl .con a0.cons, .int .i64 a0.goal, .int .i64 a0.var], .sl .lit a2] .int fun c37 =>
 sel (decide (c37 = c8))
 (sel (decide (c2 = 1))
 (sel (decide ((1 : Int) = 0))
 (Call1 Tryz.prog f_cordonref_ClauseHolds [.sl .lit a2, .sl .int a3] .bool fun c38 =>
 sel (c1 == c38)
 (Call1 Tryz.prog f_cordonlaw_storeIs [.sl (.list .int) c3, .int .i64 c4, .int .i64 c9, .sl (.list .int) ([] : List (List Int))] .bool fun c39 =>
 sel c39
 (Call1 Tryz.prog f_cordonlaw_storeIs [.sl (.list .int) c5, .int .i64 c6, .int .i64 c9, .sl (.list .int) ([] : List (List Int))] .bool fun c40 =>
 R (.bool c40))
 (R (.bool false)))
 (R (.bool false)))
 (sel (c1 == false)
 (Call1 Tryz.prog f_cordonlaw_storeIs [.sl (.list .int) c3, .int .i64 c4, .int .i64 c9, .sl (.list .int) ([] : List (List Int))] .bool fun c41 =>
 sel c41
 (Call1 Tryz.prog f_cordonlaw_storeIs [.sl (.list .int) c5, .int .i64 c6, .int .i64 c9, .sl (.list .int) ([] : List (List Int))] .bool fun c42 =>
 R (.bool c42))
 (R (.bool false)))
 (R (.bool false))))
 (R (.bool false)))
 (R (.bool false)))
 (R (.bool false)))))
 (Call1 Tryz.prog f_cordonlaw_checkStore [.agg [.sl .var a0.vars, .sl .con a0.cons, .int .i64 a0.goal, .int .i64 a0.var], .sl (.list .int) a1] .int fun c43 =>
 sel (decide (c43 = 0))
 (Call1 Tryz.prog f_cordonref_CheckClause [.agg [.sl .var a0.vars, .sl .con a0.cons, .int .i64 a0.goal, .int .i64 a0.var], .sl .lit a2] .int fun c44 =>
 sel (decide (c44 = 0))
 (Call1 Tryz.prog f_cordonref_UnitOf [.sl (.list .int) a1, .sl .lit a2] (.list (.list .int)) fun c45 =>
 Call1 Tryz.prog f_cordonref_DenyOf [.sl (.list .int) a1, .sl .lit a2] (.list (.list .int)) fun c46 =>
 Call1 Tryz.prog f_cordonlaw_clauseBegun [] .bool fun c47 =>
 sel c47
 (Call1 Tryz.prog f_clause_Check [.agg [.sl .var a0.vars, .sl .con a0.cons, .int .i64 a0.goal, .int .i64 a0.var], .sl .lit a2] .int fun c48 =>
 sel (decide (c48 = c8))
 (sel (decide (c2 = c8))
 (sel (decide (c8 = 0))
 (Call1 Tryz.prog f_cordonref_ClauseHolds [.sl .lit a2, .sl .int a3] .bool fun c49 =>
 sel (c1 == c49)
 (Call1 Tryz.prog f_cordonlaw_storeIs [.sl (.list .int) c3, .int .i64 c4, .int .i64 c44, .sl (.list .int) c45] .bool fun c50 =>
 sel c50
 (Call1 Tryz.prog f_cordonlaw_storeIs [.sl (.list .int) c5, .int .i64 c6, .int .i64 c44, .sl (.list .int) c46] .bool fun c51 =>
 R (.bool c51))
 (R (.bool false)))
 (R (.bool false)))
 (sel (c1 == false)
 (Call1 Tryz.prog f_cordonlaw_storeIs [.sl (.list .int) c3, .int .i64 c4, .int .i64 c44, .sl (.list .int) c45] .bool fun c52 =>
 sel c52
 (Call1 Tryz.prog f_cordonlaw_storeIs [.sl (.list .int) c5, .int .i64 c6, .int .i64 c44, .sl (.list .int) c46] .bool fun c53 =>
 R (.bool c53))
 (R (.bool false)))
 (R (.bool false))))
 (R (.bool false)))
 (R (.bool false)))
 (R (.bool false)))
 (Call1 Tryz.prog f_cordonlaw_clauseBegun [] .bool fun c54 =>
 sel c54
 (Call1 Tryz.prog f_clause_Check [.agg [.sl .var a0.vars, .sl .con a0.cons, .int .i64 a0.goal, .int .i64 a0.var], .sl .lit a2] .int fun c55 =>
 sel (decide (c55 = c8))
 (sel (decide (c2 = c8))
 (sel (decide (c8 = 0))
 (Call1 Tryz.prog f_cordonref_ClauseHolds [.sl .lit a2, .sl .int a3] .bool fun c56 =>
 sel (c1 == c56)
 (Call1 Tryz.prog f_cordonlaw_storeIs [.sl (.list .int) c3, .int .i64 c4, .int .i64 c44, .sl (.list .int) ([] : List (List Int))] .bool fun c57 =>
 sel c57
 (Call1 Tryz.prog f_cordonlaw_storeIs [.sl (.list .int) c5, .int .i64 c6, .int .i64 c44, .sl (.list .int) ([] : List (List Int))] .bool fun c58 =>
 R (.bool c58))
 (R (.bool false)))
 (R (.bool false)))
 (sel (c1 == false)
 (Call1 Tryz.prog f_cordonlaw_storeIs [.sl (.list .int) c3, .int .i64 c4, .int .i64 c44, .sl (.list .int) ([] : List (List Int))] .bool fun c59 =>
 sel c59
 (Call1 Tryz.prog f_cordonlaw_storeIs [.sl (.list .int) c5, .int .i64 c6, .int .i64 c44, .sl (.list .int) ([] : List (List Int))] .bool fun c60 =>
 R (.bool c60))
 (R (.bool false)))
 (R (.bool false))))
 (R (.bool false)))
 (R (.bool false)))
 (R (.bool false))))
 (sel (decide (c43 = 0))
 (Call1 Tryz.prog f_cordonref_UnitOf [.sl (.list .int) a1, .sl .lit a2] (.list (.list .int)) fun c61 =>
 Call1 Tryz.prog f_cordonref_DenyOf [.sl (.list .int) a1, .sl .lit a2] (.list (.list .int)) fun c62 =>
 Call1 Tryz.prog f_cordonlaw_clauseBegun [] .bool fun c63 =>
 sel c63
 (Call1 Tryz.prog f_clause_Check [.agg [.sl .var a0.vars, .sl .con a0.cons, .int .i64 a0.goal, .int .i64 a0.var], .sl .lit a2] .int fun c64 =>
 sel (decide (c64 = c8))
 (sel (decide (c2 = c8))
 (sel (decide (c8 = 0))
 (Call1 Tryz.prog f_cordonref_ClauseHolds [.sl .lit a2, .sl .int a3] .bool fun c65 =>
 sel (c1 == c65)
 (Call1 Tryz.prog f_cordonlaw_storeIs [.sl (.list .int) c3, .int .i64 c4, .int .i64 c43, .sl (.list .int) c61] .bool fun c66 =>
 sel c66
 (Call1 Tryz.prog f_cordonlaw_storeIs [.sl (.list .int) c5, .int .i64 c6, .int .i64 c43, .sl (.list .int) c62] .bool fun c67 =>
 R (.bool c67))
 (R (.bool false)))
 (R (.bool false)))
 (sel (c1 == false)
 (Call1 Tryz.prog f_cordonlaw_storeIs [.sl (.list .int) c3, .int .i64 c4, .int .i64 c43, .sl (.list .int) c61] .bool fun c68 =>
 sel c68
 (Call1 Tryz.prog f_cordonlaw_storeIs [.sl (.list .int) c5, .int .i64 c6, .int .i64 c43, .sl (.list .int) c62] .bool fun c69 =>
 R (.bool c69))
 (R (.bool false)))
 (R (.bool false))))
 (R (.bool false)))
 (R (.bool false)))
 (R (.bool false)))
 (Call1 Tryz.prog f_cordonlaw_clauseBegun [] .bool fun c70 =>
 sel c70
 (Call1 Tryz.prog f_clause_Check [.agg [.sl .var a0.vars, .sl .con a0.cons, .int .i64 a0.goal, .int .i64 a0.var], .sl .lit a2] .int fun c71 =>
 sel (decide (c71 = c8))
 (sel (decide (c2 = c8))
 (sel (decide (c8 = 0))
 (Call1 Tryz.prog f_cordonref_ClauseHolds [.sl .lit a2, .sl .int a3] .bool fun c72 =>
 sel (c1 == c72)
 (Call1 Tryz.prog f_cordonlaw_storeIs [.sl (.list .int) c3, .int .i64 c4, .int .i64 c43, .sl (.list .int) ([] : List (List Int))] .bool fun c73 =>
 sel c73
 (Call1 Tryz.prog f_cordonlaw_storeIs [.sl (.list .int) c5, .int .i64 c6, .int .i64 c43, .sl (.list .int) ([] : List (List Int))] .bool fun c74 =>
 R (.bool c74))
 (R (.bool false)))
 (R (.bool false)))
 (sel (c1 == false)
 (Call1 Tryz.prog f_cordonlaw_storeIs [.sl (.list .int) c3, .int .i64 c4, .int .i64 c43, .sl (.list .int) ([] : List (List Int))] .bool fun c75 =>
 sel c75
 (Call1 Tryz.prog f_cordonlaw_storeIs [.sl (.list .int) c5, .int .i64 c6, .int .i64 c43, .sl (.list .int) ([] : List (List Int))] .bool fun c76 =>
 R (.bool c76))
 (R (.bool false)))
 (R (.bool false))))
 (R (.bool false)))
 (R (.bool false)))
 (R (.bool false))))))
 (Call1 Tryz.prog f_cordonlaw_checkStore [.agg [.sl .var a0.vars, .sl .con a0.cons, .int .i64 a0.goal, .int .i64 a0.var], .sl (.list .int) a1] .int fun c77 =>
 sel (decide (c77 = 0))
 (Call1 Tryz.prog f_cordonref_CheckClause [.agg [.sl .var a0.vars, .sl .con a0.cons, .int .i64 a0.goal, .int .i64 a0.var], .sl .lit a2] .int fun c78 =>
 sel (decide (c78 = 0))
 (Call1 Tryz.prog f_cordonref_UnitOf [.sl (.list .int) a1, .sl .lit a2] (.list (.list .int)) fun c79 =>
 Call1 Tryz.prog f_cordonref_DenyOf [.sl (.list .int) a1, .sl .lit a2] (.list (.list .int)) fun c80 =>
 Call1 Tryz.prog f_cordonlaw_clauseBegun [] .bool fun c81 =>
 sel c81
 (Call1 Tryz.prog f_clause_Check [.agg [.sl .var a0.vars, .sl .con a0.cons, .int .i64 a0.goal, .int .i64 a0.var], .sl .lit a2] .int fun c82 =>
 sel (decide (c82 = c8))
 (sel (decide (c2 = c8))
 (sel (decide (c8 = 0))
 (Call1 Tryz.prog f_cordonref_ClauseHolds [.sl .lit a2, .sl .int a3] .bool fun c83 =>
 sel (c1 == c83)
 (Call1 Tryz.prog f_cordonlaw_storeIs [.sl (.list .int) c3, .int .i64 c4, .int .i64 c78, .sl (.list .int) c79] .bool fun c84 =>
 sel c84
 (Call1 Tryz.prog f_cordonlaw_storeIs [.sl (.list .int) c5, .int .i64 c6, .int .i64 c78, .sl (.list .int) c80] .bool fun c85 =>
 R (.bool c85))
 (R (.bool false)))
 (R (.bool false)))
 (sel (c1 == false)
 (Call1 Tryz.prog f_cordonlaw_storeIs [.sl (.list .int) c3, .int .i64 c4, .int .i64 c78, .sl (.list .int) c79] .bool fun c86 =>
 sel c86
 (Call1 Tryz.prog f_cordonlaw_storeIs [.sl (.list .int) c5, .int .i64 c6, .int .i64 c78, .sl (.list .int) c80] .bool fun c87 =>
 R (.bool c87))
 (R (.bool false)))
 (R (.bool false))))
 (R (.bool false)))
 (R (.bool false)))
 (R (.bool false)))
 (Call1 Tryz.prog f_cordonlaw_clauseBegun [] .bool fun c88 =>
 sel c88
 (Call1 Tryz.prog f_clause_Check [.agg [.sl .var a0.vars, .sl .con a0.cons, .int .i64 a0.goal, .int .i64 a0.var], .sl .lit a2] .int fun c89 =>
 sel (decide (c89 = c8))
 (sel (decide (c2 = c8))
 (sel (decide (c8 = 0))
 (Call1 Tryz.prog f_cordonref_ClauseHolds [.sl .lit a2, .sl .int a3] .bool fun c90 =>
 sel (c1 == c90)
 (Call1 Tryz.prog f_cordonlaw_storeIs [.sl (.list .int) c3, .int .i64 c4, .int .i64 c78, .sl (.list .int) ([] : List (List Int))] .bool fun c91 =>
 sel c91
 (Call1 Tryz.prog f_cordonlaw_storeIs [.sl (.list .int) c5, .int .i64 c6, .int .i64 c78, .sl (.list .int) ([] : List (List Int))] .bool fun c92 =>
 R (.bool c92))
 (R (.bool false)))
 (R (.bool false)))
 (sel (c1 == false)
 (Call1 Tryz.prog f_cordonlaw_storeIs [.sl (.list .int) c3, .int .i64 c4, .int .i64 c78, .sl (.list .int) ([] : List (List Int))] .bool fun c93 =>
 sel c93
 (Call1 Tryz.prog f_cordonlaw_storeIs [.sl (.list .int) c5, .int .i64 c6, .int .i64 c78, .sl (.list .int) ([] : List (List Int))] .bool fun c94 =>
 R (.bool c94))
 (R (.bool false)))
 (R (.bool false))))
 (R (.bool false)))
 (R (.bool false)))
 (R (.bool false))))
 (sel (decide (c77 = 0))
 (Call1 Tryz.prog f_cordonref_UnitOf [.sl (.list .int) a1, .sl .lit a2] (.list (.list .int)) fun c95 =>
 Call1 Tryz.prog f_cordonref_DenyOf [.sl (.list .int) a1, .sl .lit a2] (.list (.list .int)) fun c96 =>
 Call1 Tryz.prog f_cordonlaw_clauseBegun [] .bool fun c97 =>
 sel c97
 (Call1 Tryz.prog f_clause_Check [.agg [.sl .var a0.vars, .sl .con a0.cons, .int .i64 a0.goal, .int .i64 a0.var], .sl .lit a2] .int fun c98 =>
 sel (decide (c98 = c8))
 (sel (decide (c2 = c8))
 (sel (decide (c8 = 0))
 (Call1 Tryz.prog f_cordonref_ClauseHolds [.sl .lit a2, .sl .int a3] .bool fun c99 =>
 sel (c1 == c99)
 (Call1 Tryz.prog f_cordonlaw_storeIs [.sl (.list .int) c3, .int .i64 c4, .int .i64 c77, .sl (.list .int) c95] .bool fun c100 =>
 sel c100
 (Call1 Tryz.prog f_cordonlaw_storeIs [.sl (.list .int) c5, .int .i64 c6, .int .i64 c77, .sl (.list .int) c96] .bool fun c101 =>
 R (.bool c101))
 (R (.bool false)))
 (R (.bool false)))
 (sel (c1 == false)
 (Call1 Tryz.prog f_cordonlaw_storeIs [.sl (.list .int) c3, .int .i64 c4, .int .i64 c77, .sl (.list .int) c95] .bool fun c102 =>
 sel c102
 (Call1 Tryz.prog f_cordonlaw_storeIs [.sl (.list .int) c5, .int .i64 c6, .int .i64 c77, .sl (.list .int) c96] .bool fun c103 =>
 R (.bool c103))
 (R (.bool false)))
 (R (.bool false))))
 (R (.bool false)))
 (R (.bool false)))
 (R (.bool false)))
 (Call1 Tryz.prog f_cordonlaw_clauseBegun [] .bool fun c104 =>
 sel c104
 (Call1 Tryz.prog f_clause_Check [.agg [.sl .var a0.vars, .sl .con a0.cons, .int .i64 a0.goal, .int .i64 a0.var], .sl .lit a2] .int fun c105 =>
 sel (decide (c105 = c8))
 (sel (decide (c2 = c8))
 (sel (decide (c8 = 0))
 (Call1 Tryz.prog f_cordonref_ClauseHolds [.sl .lit a2, .sl .int a3] .bool fun c106 =>
 sel (c1 == c106)
 (Call1 Tryz.prog f_cordonlaw_storeIs [.sl (.list .int) c3, .int .i64 c4, .int .i64 c77, .sl (.list .int) ([] : List (List Int))] .bool fun c107 =>
 sel c107
 (Call1 Tryz.prog f_cordonlaw_storeIs [.sl (.list .int) c5, .int .i64 c6, .int .i64 c77, .sl (.list .int) ([] : List (List Int))] .bool fun c108 =>
 R (.bool c108))
 (R (.bool false)))
 (R (.bool false)))
 (sel (c1 == false)
 (Call1 Tryz.prog f_cordonlaw_storeIs [.sl (.list .int) c3, .int .i64 c4, .int .i64 c77, .sl (.list .int) ([] : List (List Int))] .bool fun c109 =>
 sel c109
 (Call1 Tryz.prog f_cordonlaw_storeIs [.sl (.list .int) c5, .int .i64 c6, .int .i64 c77, .sl (.list .int) ([] : List (List Int))] .bool fun c110 =>
 R (.bool c110))
 (R (.bool false)))
 (R (.bool false))))
 (R (.bool false)))
 (R (.bool false)))
 (R (.bool false))))))
 (sel (decide (c7 = 0))
 (sel (!decide ((a3.length : Int) = (a0.vars.length : Int)))
 (Call1 Tryz.prog f_cordonlaw_checkStore [.agg [.sl .var a0.vars, .sl .con a0.cons, .int .i64 a0.goal, .int .i64 a0.var], .sl (.list .int) a1] .int fun c111 =>
 sel (decide (c111 = 0))
 (Call1 Tryz.prog f_cordonref_CheckClause [.agg [.sl .var a0.vars, .sl .con a0.cons, .int .i64 a0.goal, .int .i64 a0.var], .sl .lit a2] .int fun c112 =>
 sel (decide (c112 = 0))
 (Call1 Tryz.prog f_cordonref_UnitOf [.sl (.list .int) a1, .sl .lit a2] (.list (.list .int)) fun c113 =>
 Call1 Tryz.prog f_cordonref_DenyOf [.sl (.list .int) a1, .sl .lit a2] (.list (.list .int)) fun c114 =>
 Call1 Tryz.prog f_cordonlaw_clauseBegun [] .bool fun c115 =>
 sel c115
 (Call1 Tryz.prog f_clause_Check [.agg [.sl .var a0.vars, .sl .con a0.cons, .int .i64 a0.goal, .int .i64 a0.var], .sl .lit a2] .int fun c116 =>
 sel (decide (c116 = c7))
 (sel (decide (c2 = 1))
 (sel (decide ((1 : Int) = 0))
 (Call1 Tryz.prog f_cordonref_ClauseHolds [.sl .lit a2, .sl .int a3] .bool fun c117 =>
 sel (c1 == c117)
 (Call1 Tryz.prog f_cordonlaw_storeIs [.sl (.list .int) c3, .int .i64 c4, .int .i64 c112, .sl (.list .int) c113] .bool fun c118 =>
 sel c118
 (Call1 Tryz.prog f_cordonlaw_storeIs [.sl (.list .int) c5, .int .i64 c6, .int .i64 c112, .sl (.list .int) c114] .bool fun c119 =>
 R (.bool c119))
 (R (.bool false)))
 (R (.bool false)))
 (sel (c1 == false)
 (Call1 Tryz.prog f_cordonlaw_storeIs [.sl (.list .int) c3, .int .i64 c4, .int .i64 c112, .sl (.list .int) c113] .bool fun c120 =>
 sel c120
 (Call1 Tryz.prog f_cordonlaw_storeIs [.sl (.list .int) c5, .int .i64 c6, .int .i64 c112, .sl (.list .int) c114] .bool fun c121 =>
 R (.bool c121))
 (R (.bool false)))
 (R (.bool false))))
 (R (.bool false)))
 (R (.bool false)))
 (R (.bool false)))
 (Call1 Tryz.prog f_cordonlaw_clauseBegun [] .bool fun c122 =>
 sel c122
 (Call1 Tryz.prog f_clause_Check [.agg [.sl .var a0.vars, .sl .con a0.cons, .int .i64 a0.goal, .int .i64 a0.var], .sl .lit a2] .int fun c123 =>
 sel (decide (c123 = c7))
 (sel (decide (c2 = 1))
 (sel (decide ((1 : Int) = 0))
 (Call1 Tryz.prog f_cordonref_ClauseHolds [.sl .lit a2, .sl .int a3] .bool fun c124 =>
 sel (c1 == c124)
 (Call1 Tryz.prog f_cordonlaw_storeIs [.sl (.list .int) c3, .int .i64 c4, .int .i64 c112, .sl (.list .int) ([] : List (List Int))] .bool fun c125 =>
 sel c125
 (Call1 Tryz.prog f_cordonlaw_storeIs [.sl (.list .int) c5, .int .i64 c6, .int .i64 c112, .sl (.list .int) ([] : List (List Int))] .bool fun c126 =>
 R (.bool c126))
 (R (.bool false)))
 (R (.bool false)))
 (sel (c1 == false)
 (Call1 Tryz.prog f_cordonlaw_storeIs [.sl (.list .int) c3, .int .i64 c4, .int .i64 c112, .sl (.list .int) ([] : List (List Int))] .bool fun c127 =>
 sel c127
 (Call1 Tryz.prog f_cordonlaw_storeIs [.sl (.list .int) c5, .int .i64 c6, .int .i64 c112, .sl (.list .int) ([] : List (List Int))] .bool fun c128 =>
 R (.bool c128))
 (R (.bool false)))
 (R (.bool false))))
 (R (.bool false)))
 (R (.bool false)))
 (R (.bool false))))
 (sel (decide (c111 = 0))
 (Call1 Tryz.prog f_cordonref_UnitOf [.sl (.list .int) a1, .sl .lit a2] (.list (.list .int)) fun c129 =>
 Call1 Tryz.prog f_cordonref_DenyOf [.sl (.list .int) a1, .sl .lit a2] (.list (.list .int)) fun c130 =>
 Call1 Tryz.prog f_cordonlaw_clauseBegun [] .bool fun c131 =>
 sel c131
 (Call1 Tryz.prog f_clause_Check [.agg [.sl .var a0.vars, .sl .con a0.cons, .int .i64 a0.goal, .int .i64 a0.var], .sl .lit a2] .int fun c132 =>
 sel (decide (c132 = c7))
 (sel (decide (c2 = 1))
 (sel (decide ((1 : Int) = 0))
 (Call1 Tryz.prog f_cordonref_ClauseHolds [.sl .lit a2, .sl .int a3] .bool fun c133 =>
 sel (c1 == c133)
 (Call1 Tryz.prog f_cordonlaw_storeIs [.sl (.list .int) c3, .int .i64 c4, .int .i64 c111, .sl (.list .int) c129] .bool fun c134 =>
 sel c134
 (Call1 Tryz.prog f_cordonlaw_storeIs [.sl (.list .int) c5, .int .i64 c6, .int .i64 c111, .sl (.list .int) c130] .bool fun c135 =>
 R (.bool c135))
 (R (.bool false)))
 (R (.bool false)))
 (sel (c1 == false)
 (Call1 Tryz.prog f_cordonlaw_storeIs [.sl (.list .int) c3, .int .i64 c4, .int .i64 c111, .sl (.list .int) c129] .bool fun c136 =>
 sel c136
 (Call1 Tryz.prog f_cordonlaw_storeIs [.sl (.list .int) c5, .int .i64 c6, .int .i64 c111, .sl (.list .int) c130] .bool fun c137 =>
 R (.bool c137))
 (R (.bool false)))
 (R (.bool false))))
 (R (.bool false)))
 (R (.bool false)))
 (R (.bool false)))
 (Call1 Tryz.prog f_cordonlaw_clauseBegun [] .bool fun c138 =>
 sel c138
 (Call1 Tryz.prog f_clause_Check [.agg [.sl .var a0.vars, .sl .con a0.cons, .int .i64 a0.goal, .int .i64 a0.var], .sl .lit a2] .int fun c139 =>
 sel (decide (c139 = c7))
 (sel (decide (c2 = 1))
 (sel (decide ((1 : Int) = 0))
 (Call1 Tryz.prog f_cordonref_ClauseHolds [.sl .lit a2, .sl .int a3] .bool fun c140 =>
 sel (c1 == c140)
 (Call1 Tryz.prog f_cordonlaw_storeIs [.sl (.list .int) c3, .int .i64 c4, .int .i64 c111, .sl (.list .int) ([] : List (List Int))] .bool fun c141 =>
 sel c141
 (Call1 Tryz.prog f_cordonlaw_storeIs [.sl (.list .int) c5, .int .i64 c6, .int .i64 c111, .sl (.list .int) ([] : List (List Int))] .bool fun c142 =>
 R (.bool c142))
 (R (.bool false)))
 (R (.bool false)))
 (sel (c1 == false)
 (Call1 Tryz.prog f_cordonlaw_storeIs [.sl (.list .int) c3, .int .i64 c4, .int .i64 c111, .sl (.list .int) ([] : List (List Int))] .bool fun c143 =>
 sel c143
 (Call1 Tryz.prog f_cordonlaw_storeIs [.sl (.list .int) c5, .int .i64 c6, .int .i64 c111, .sl (.list .int) ([] : List (List Int))] .bool fun c144 =>
 R (.bool c144))
 (R (.bool false)))
 (R (.bool false))))
 (R (.bool false)))
 (R (.bool false)))
 (R (.bool false)))))
 (Call1 Tryz.prog f_cordonlaw_checkStore [.agg [.sl .var a0.vars, .sl .con a0.cons, .int .i64 a0.goal, .int .i64 a0.var], .sl (.list .int) a1] .int fun c145 =>
 sel (decide (c145 = 0))
 (Call1 Tryz.prog f_cordonref_CheckClause [.agg [.sl .var a0.vars, .sl .con a0.cons, .int .i64 a0.goal, .int .i64 a0.var], .sl .lit a2] .int fun c146 =>
 sel (decide (c146 = 0))
 (Call1 Tryz.prog f_cordonref_UnitOf [.sl (.list .int) a1, .sl .lit a2] (.list (.list .int)) fun c147 =>
 Call1 Tryz.prog f_cordonref_DenyOf [.sl (.list .int) a1, .sl .lit a2] (.list (.list .int)) fun c148 =>
 Call1 Tryz.prog f_cordonlaw_clauseBegun [] .bool fun c149 =>
 sel c149
 (Call1 Tryz.prog f_clause_Check [.agg [.sl .var a0.vars, .sl .con a0.cons, .int .i64 a0.goal, .int .i64 a0.var], .sl .lit a2] .int fun c150 =>
 sel (decide (c150 = c7))
 (sel (decide (c2 = c7))
 (sel (decide (c7 = 0))
 (Call1 Tryz.prog f_cordonref_ClauseHolds [.sl .lit a2, .sl .int a3] .bool fun c151 =>
 sel (c1 == c151)
 (Call1 Tryz.prog f_cordonlaw_storeIs [.sl (.list .int) c3, .int .i64 c4, .int .i64 c146, .sl (.list .int) c147] .bool fun c152 =>
 sel c152
 (Call1 Tryz.prog f_cordonlaw_storeIs [.sl (.list .int) c5, .int .i64 c6, .int .i64 c146, .sl (.list .int) c148] .bool fun c153 =>
 R (.bool c153))
 (R (.bool false)))
 (R (.bool false)))
 (sel (c1 == false)
 (Call1 Tryz.prog f_cordonlaw_storeIs [.sl (.list .int) c3, .int .i64 c4, .int .i64 c146, .sl (.list .int) c147] .bool fun c154 =>
 sel c154
 (Call1 Tryz.prog f_cordonlaw_storeIs [.sl (.list .int) c5, .int .i64 c6, .int .i64 c146, .sl (.list .int) c148] .bool fun c155 =>
 R (.bool c155))
 (R (.bool false)))
 (R (.bool false))))
 (R (.bool false)))
 (R (.bool false)))
 (R (.bool false)))
 (Call1 Tryz.prog f_cordonlaw_clauseBegun [] .bool fun c156 =>
 sel c156
 (Call1 Tryz.prog f_clause_Check [.agg [.sl .var a0.vars, .sl .con a0.cons, .int .i64 a0.goal, .int .i64 a0.var], .sl .lit a2] .int fun c157 =>
 sel (decide (c157 = c7))
 (sel (decide (c2 = c7))
 (sel (decide (c7 = 0))
 (Call1 Tryz.prog f_cordonref_ClauseHolds [.sl .lit a2, .sl .int a3] .bool fun c158 =>
 sel (c1 == c158)
 (Call1 Tryz.prog f_cordonlaw_storeIs [.sl (.list .int) c3, .int .i64 c4, .int .i64 c146, .sl (.list .int) ([] : List (List Int))] .bool fun c159 =>
 sel c159
 (Call1 Tryz.prog f_cordonlaw_storeIs [.sl (.list .int) c5, .int .i64 c6, .int .i64 c146, .sl (.list .int) ([] : List (List Int))] .bool fun c160 =>
 R (.bool c160))
 (R (.bool false)))
 (R (.bool false)))
 (sel (c1 == false)
 (Call1 Tryz.prog f_cordonlaw_storeIs [.sl (.list .int) c3, .int .i64 c4, .int .i64 c146, .sl (.list .int) ([] : List (List Int))] .bool fun c161 =>
 sel c161
 (Call1 Tryz.prog f_cordonlaw_storeIs [.sl (.list .int) c5, .int .i64 c6, .int .i64 c146, .sl (.list .int) ([] : List (List Int))] .bool fun c162 =>
 R (.bool c162))
 (R (.bool false)))
 (R (.bool false))))
 (R (.bool false)))
 (R (.bool false)))
 (R (.bool false))))
 (sel (decide (c145 = 0))
 (Call1 Tryz.prog f_cordonref_UnitOf [.sl (.list .int) a1, .sl .lit a2] (.list (.list .int)) fun c163 =>
 Call1 Tryz.prog f_cordonref_DenyOf [.sl (.list .int) a1, .sl .lit a2] (.list (.list .int)) fun c164 =>
 Call1 Tryz.prog f_cordonlaw_clauseBegun [] .bool fun c165 =>
 sel c165
 (Call1 Tryz.prog f_clause_Check [.agg [.sl .var a0.vars, .sl .con a0.cons, .int .i64 a0.goal, .int .i64 a0.var], .sl .lit a2] .int fun c166 =>
 sel (decide (c166 = c7))
 (sel (decide (c2 = c7))
 (sel (decide (c7 = 0))
 (Call1 Tryz.prog f_cordonref_ClauseHolds [.sl .lit a2, .sl .int a3] .bool fun c167 =>
 sel (c1 == c167)
 (Call1 Tryz.prog f_cordonlaw_storeIs [.sl (.list .int) c3, .int .i64 c4, .int .i64 c145, .sl (.list .int) c163] .bool fun c168 =>
 sel c168
 (Call1 Tryz.prog f_cordonlaw_storeIs [.sl (.list .int) c5, .int .i64 c6, .int .i64 c145, .sl (.list .int) c164] .bool fun c169 =>
 R (.bool c169))
 (R (.bool false)))
 (R (.bool false)))
 (sel (c1 == false)
 (Call1 Tryz.prog f_cordonlaw_storeIs [.sl (.list .int) c3, .int .i64 c4, .int .i64 c145, .sl (.list .int) c163] .bool fun c170 =>
 sel c170
 (Call1 Tryz.prog f_cordonlaw_storeIs [.sl (.list .int) c5, .int .i64 c6, .int .i64 c145, .sl (.list .int) c164] .bool fun c171 =>
 R (.bool c171))
 (R (.bool false)))
 (R (.bool false))))
 (R (.bool false)))
 (R (.bool false)))
 (R (.bool false)))
 (Call1 Tryz.prog f_cordonlaw_clauseBegun [] .bool fun c172 =>
 sel c172
 (Call1 Tryz.prog f_clause_Check [.agg [.sl .var a0.vars, .sl .con a0.cons, .int .i64 a0.goal, .int .i64 a0.var], .sl .lit a2] .int fun c173 =>
 sel (decide (c173 = c7))
 (sel (decide (c2 = c7))
 (sel (decide (c7 = 0))
 (Call1 Tryz.prog f_cordonref_ClauseHolds [.sl .lit a2, .sl .int a3] .bool fun c174 =>
 sel (c1 == c174)
 (Call1 Tryz.prog f_cordonlaw_storeIs [.sl (.list .int) c3, .int .i64 c4, .int .i64 c145, .sl (.list .int) ([] : List (List Int))] .bool fun c175 =>
 sel c175
 (Call1 Tryz.prog f_cordonlaw_storeIs [.sl (.list .int) c5, .int .i64 c6, .int .i64 c145, .sl (.list .int) ([] : List (List Int))] .bool fun c176 =>
 R (.bool c176))
 (R (.bool false)))
 (R (.bool false)))
 (sel (c1 == false)
 (Call1 Tryz.prog f_cordonlaw_storeIs [.sl (.list .int) c3, .int .i64 c4, .int .i64 c145, .sl (.list .int) ([] : List (List Int))] .bool fun c177 =>
 sel c177
 (Call1 Tryz.prog f_cordonlaw_storeIs [.sl (.list .int) c5, .int .i64 c6, .int .i64 c145, .sl (.list .int) ([] : List (List Int))] .bool fun c178 =>
 R (.bool c178))
 (R (.bool false)))
 (R (.bool false))))
 (R (.bool false)))
 (R (.bool false)))
 (R (.bool false))))))
 (Call1 Tryz.prog f_cordonlaw_checkStore [.agg [.sl .var a0.vars, .sl .con a0.cons, .int .i64 a0.goal, .int .i64 a0.var], .sl (.list .int) a1] .int fun c179 =>
 sel (decide (c179 = 0))
 (Call1 Tryz.prog f_cordonref_CheckClause [.agg [.sl .var a0.vars, .sl .con a0.cons, .int .i64 a0.goal, .int .i64 a0.var], .sl .lit a2] .int fun c180 =>
 sel (decide (c180 = 0))
 (Call1 Tryz.prog f_cordonref_UnitOf [.sl (.list .int) a1, .sl .lit a2] (.list (.list .int)) fun c181 =>
 Call1 Tryz.prog f_cordonref_DenyOf [.sl (.list .int) a1, .sl .lit a2] (.list (.list .int)) fun c182 =>
 Call1 Tryz.prog f_cordonlaw_clauseBegun [] .bool fun c183 =>
 sel c183
 (Call1 Tryz.prog f_clause_Check [.agg [.sl .var a0.vars, .sl .con a0.cons, .int .i64 a0.goal, .int .i64 a0.var], .sl .lit a2] .int fun c184 =>
 sel (decide (c184 = c7))
 (sel (decide (c2 = c7))
 (sel (decide (c7 = 0))
 (Call1 Tryz.prog f_cordonref_ClauseHolds [.sl .lit a2, .sl .int a3] .bool fun c185 =>
 sel (c1 == c185)
 (Call1 Tryz.prog f_cordonlaw_storeIs [.sl (.list .int) c3, .int .i64 c4, .int .i64 c180, .sl (.list .int) c181] .bool fun c186 =>
 sel c186
 (Call1 Tryz.prog f_cordonlaw_storeIs [.sl (.list .int) c5, .int .i64 c6, .int .i64 c180, .sl (.list .int) c182] .bool fun c187 =>
 R (.bool c187))
 (R (.bool false)))
 (R (.bool false)))
 (sel (c1 == false)
 (Call1 Tryz.prog f_cordonlaw_storeIs [.sl (.list .int) c3, .int .i64 c4, .int .i64 c180, .sl (.list .int) c181] .bool fun c188 =>
 sel c188
 (Call1 Tryz.prog f_cordonlaw_storeIs [.sl (.list .int) c5, .int .i64 c6, .int .i64 c180, .sl (.list .int) c182] .bool fun c189 =>
 R (.bool c189))
 (R (.bool false)))
 (R (.bool false))))
 (R (.bool false)))
 (R (.bool false)))
 (R (.bool false)))
 (Call1 Tryz.prog f_cordonlaw_clauseBegun [] .bool fun c190 =>
 sel c190
 (Call1 Tryz.prog f_clause_Check [.agg [.sl .var a0.vars, .sl .con a0.cons, .int .i64 a0.goal, .int .i64 a0.var], .sl .lit a2] .int fun c191 =>
 sel (decide (c191 = c7))
 (sel (decide (c2 = c7))
 (sel (decide (c7 = 0))
 (Call1 Tryz.prog f_cordonref_ClauseHolds [.sl .lit a2, .sl .int a3] .bool fun c192 =>
 sel (c1 == c192)
 (Call1 Tryz.prog f_cordonlaw_storeIs [.sl (.list .int) c3, .int .i64 c4, .int .i64 c180, .sl (.list .int) ([] : List (List Int))] .bool fun c193 =>
 sel c193
 (Call1 Tryz.prog f_cordonlaw_storeIs [.sl (.list .int) c5, .int .i64 c6, .int .i64 c180, .sl (.list .int) ([] : List (List Int))] .bool fun c194 =>
 R (.bool c194))
 (R (.bool false)))
 (R (.bool false)))
 (sel (c1 == false)
 (Call1 Tryz.prog f_cordonlaw_storeIs [.sl (.list .int) c3, .int .i64 c4, .int .i64 c180, .sl (.list .int) ([] : List (List Int))] .bool fun c195 =>
 sel c195
 (Call1 Tryz.prog f_cordonlaw_storeIs [.sl (.list .int) c5, .int .i64 c6, .int .i64 c180, .sl (.list .int) ([] : List (List Int))] .bool fun c196 =>
 R (.bool c196))
 (R (.bool false)))
 (R (.bool false))))
 (R (.bool false)))
 (R (.bool false)))
 (R (.bool false))))
 (sel (decide (c179 = 0))
 (Call1 Tryz.prog f_cordonref_UnitOf [.sl (.list .int) a1, .sl .lit a2] (.list (.list .int)) fun c197 =>
 Call1 Tryz.prog f_cordonref_DenyOf [.sl (.list .int) a1, .sl .lit a2] (.list (.list .int)) fun c198 =>
 Call1 Tryz.prog f_cordonlaw_clauseBegun [] .bool fun c199 =>
 sel c199
 (Call1 Tryz.prog f_clause_Check [.agg [.sl .var a0.vars, .sl .con a0.cons, .int .i64 a0.goal, .int .i64 a0.var], .sl .lit a2] .int fun c200 =>
 sel (decide (c200 = c7))
 (sel (decide (c2 = c7))
 (sel (decide (c7 = 0))
 (Call1 Tryz.prog f_cordonref_ClauseHolds [.sl .lit a2, .sl .int a3] .bool fun c201 =>
 sel (c1 == c201)
 (Call1 Tryz.prog f_cordonlaw_storeIs [.sl (.list .int) c3, .int .i64 c4, .int .i64 c179, .sl (.list .int) c197] .bool fun c202 =>
 sel c202
 (Call1 Tryz.prog f_cordonlaw_storeIs [.sl (.list .int) c5, .int .i64 c6, .int .i64 c179, .sl (.list .int) c198] .bool fun c203 =>
 R (.bool c203))
 (R (.bool false)))
 (R (.bool false)))
 (sel (c1 == false)
 (Call1 Tryz.prog f_cordonlaw_storeIs [.sl (.list .int) c3, .int .i64 c4, .int .i64 c179, .sl (.list .int) c197] .bool fun c204 =>
 sel c204
 (Call1 Tryz.prog f_cordonlaw_storeIs [.sl (.list .int) c5, .int .i64 c6, .int .i64 c179, .sl (.list .int) c198] .bool fun c205 =>
 R (.bool c205))
 (R (.bool false)))
 (R (.bool false))))
 (R (.bool false)))
 (R (.bool false)))
 (R (.bool false)))
 (Call1 Tryz.prog f_cordonlaw_clauseBegun [] .bool fun c206 =>
 sel c206
 (Call1 Tryz.prog f_clause_Check [.agg [.sl .var a0.vars, .sl .con a0.cons, .int .i64 a0.goal, .int .i64 a0.var], .sl .lit a2] .int fun c207 =>
 sel (decide (c207 = c7))
 (sel (decide (c2 = c7))
 (sel (decide (c7 = 0))
 (Call1 Tryz.prog f_cordonref_ClauseHolds [.sl .lit a2, .sl .int a3] .bool fun c208 =>
 sel (c1 == c208)
 (Call1 Tryz.prog f_cordonlaw_storeIs [.sl (.list .int) c3, .int .i64 c4, .int .i64 c179, .sl (.list .int) ([] : List (List Int))] .bool fun c209 =>
 sel c209
 (Call1 Tryz.prog f_cordonlaw_storeIs [.sl (.list .int) c5, .int .i64 c6, .int .i64 c179, .sl (.list .int) ([] : List (List Int))] .bool fun c210 =>
 R (.bool c210))
 (R (.bool false)))
 (R (.bool false)))
 (sel (c1 == false)
 (Call1 Tryz.prog f_cordonlaw_storeIs [.sl (.list .int) c3, .int .i64 c4, .int .i64 c179, .sl (.list .int) ([] : List (List Int))] .bool fun c211 =>
 sel c211
 (Call1 Tryz.prog f_cordonlaw_storeIs [.sl (.list .int) c5, .int .i64 c6, .int .i64 c179, .sl (.list .int) ([] : List (List Int))] .bool fun c212 =>
 R (.bool c212))
 (R (.bool false)))
 (R (.bool false))))
 (R (.bool false)))
 (R (.bool false)))
 (R (.bool false))))))) := by kernel_rfl
theorem cordonlaw_ClauseTells_sat {r : D} (a0 : MdlD) (a1 : List (List Int)) (a2 : List LitD) (a3 : List Int) (h : (∀ d ∈ [.agg [.sl .var a0.vars, .sl .con a0.cons, .int .i64 a0.goal, .int .i64 a0.var], .sl (.list .int) a1, .sl .lit a2, .sl .int a3], okD d) → fnD Tryz.prog Ev cordonlaw_ClauseTells_A Tryz.f3.results.toList (bodyOf Tryz.f3) [.agg [.sl .var a0.vars, .sl .con a0.cons, .int .i64 a0.goal, .int .i64 a0.var], .sl (.list .int) a1, .sl .lit a2, .sl .int a3] fun d => d = r) : Sat Tryz.prog f_cordonlaw_ClauseTells [.agg [.sl .var a0.vars, .sl .con a0.cons, .int .i64 a0.goal, .int .i64 a0.var], .sl (.list .int) a1, .sl .lit a2, .sl .int a3] r := by
  have h2 := sat_of (r := r) (args := [.agg [.sl .var a0.vars, .sl .con a0.cons, .int .i64 a0.goal, .int .i64 a0.var], .sl (.list .int) a1, .sl .lit a2, .sl .int a3]) (A := cordonlaw_ClauseTells_A) (fn := Tryz.f3) (body := bodyOf Tryz.f3) (f := f_cordonlaw_ClauseTells) factsEv Tryz.func3 (by kernel_rfl) (by rw [Tryz.ntmps3]; rfl) (by rw [Tryz.ntmps3]; exact Nat.le_of_ble_eq_true rfl)
  with_reducible exact h2 h
/-! ### cordon/cordonlaw.checkStore -/
def cordonlaw_checkStore_A : Ann := { own := [], live := [], n := 14, nils := [], pubs := [] }
theorem cordonlaw_checkStore_eq (a0 : MdlD) (a1 : List (List Int)) (R : D → Prop) : fnD Tryz.prog Ev cordonlaw_checkStore_A Tryz.f10.results.toList (bodyOf Tryz.f10) [.agg [.sl .var a0.vars, .sl .con a0.cons, .int .i64 a0.goal, .int .i64 a0.var], .sl (.list .int) a1] R =
 (Call1 Tryz.prog f_cordonref_CheckModel [.agg [.sl .var a0.vars, .sl .con a0.cons, .int .i64 a0.goal, .int .i64 a0.var]] .int fun c1 =>
 sel (decide (c1 = 0))
 (Call1 Tryz.prog f_cordonref_CheckStore [.agg [.sl .var a0.vars, .sl .con a0.cons, .int .i64 a0.goal, .int .i64 a0.var], .sl (.list .int) a1] .int fun c2 =>
 R (.int .i64 c2))
 (R (.int .i64 c1))) := by kernel_rfl
theorem cordonlaw_checkStore_sat {r : D} (a0 : MdlD) (a1 : List (List Int)) (h : (∀ d ∈ [.agg [.sl .var a0.vars, .sl .con a0.cons, .int .i64 a0.goal, .int .i64 a0.var], .sl (.list .int) a1], okD d) → fnD Tryz.prog Ev cordonlaw_checkStore_A Tryz.f10.results.toList (bodyOf Tryz.f10) [.agg [.sl .var a0.vars, .sl .con a0.cons, .int .i64 a0.goal, .int .i64 a0.var], .sl (.list .int) a1] fun d => d = r) : Sat Tryz.prog f_cordonlaw_checkStore [.agg [.sl .var a0.vars, .sl .con a0.cons, .int .i64 a0.goal, .int .i64 a0.var], .sl (.list .int) a1] r := by
  have h2 := sat_of (r := r) (args := [.agg [.sl .var a0.vars, .sl .con a0.cons, .int .i64 a0.goal, .int .i64 a0.var], .sl (.list .int) a1]) (A := cordonlaw_checkStore_A) (fn := Tryz.f10) (body := bodyOf Tryz.f10) (f := f_cordonlaw_checkStore) factsEv Tryz.func10 (by kernel_rfl) (by rw [Tryz.ntmps10]; rfl) (by rw [Tryz.ntmps10]; exact Nat.le_of_ble_eq_true rfl)
  with_reducible exact h2 h
/-! ### cordon/cordonlaw.clauseBegun -/
def cordonlaw_clauseBegun_A : Ann := { own := [], live := [], n := 69, nils := [], pubs := [] }
theorem cordonlaw_clauseBegun_eq  (R : D → Prop) : fnD Tryz.prog Ev cordonlaw_clauseBegun_A Tryz.f13.results.toList (bodyOf Tryz.f13) [] R =
 (Call1 Tryz.prog f_cordonlaw_two [] .mdl fun c1 =>
 Call2 Tryz.prog f_clause_Holds [.agg [.sl .var c1.vars, .sl .con c1.cons, .int .i64 c1.goal, .int .i64 c1.var], .sl .lit ([(⟨0, 3, 2⟩ : LitD), (⟨1, 2, 1⟩ : LitD)]), .sl .int ([0, 1])] .bool .int fun c2 c3 =>
 Call1 Tryz.prog f_cordonlaw_two [] .mdl fun c4 =>
 Call2 Tryz.prog f_clause_Unit [.agg [.sl .var c4.vars, .sl .con c4.cons, .int .i64 c4.goal, .int .i64 c4.var], .sl (.list .int) ([[0, 1], [0, 1, 2]]), .sl .lit ([(⟨0, 3, 2⟩ : LitD), (⟨1, 2, 1⟩ : LitD)])] (.list (.list .int)) .int fun c5 c6 =>
 Call1 Tryz.prog f_cordonlaw_two [] .mdl fun c7 =>
 Call2 Tryz.prog f_clause_Deny [.agg [.sl .var c7.vars, .sl .con c7.cons, .int .i64 c7.goal, .int .i64 c7.var], .sl (.list .int) ([[0, 1], [0, 1, 2]]), .sl .lit ([(⟨0, 3, 2⟩ : LitD), (⟨1, 2, 1⟩ : LitD)])] (.list (.list .int)) .int fun c8 c9 =>
 Call1 Tryz.prog f_cordonlaw_two [] .mdl fun c10 =>
 Call1 Tryz.prog f_clause_Check [.agg [.sl .var c10.vars, .sl .con c10.cons, .int .i64 c10.goal, .int .i64 c10.var], .sl .lit ([(⟨0, 3, 2⟩ : LitD), (⟨1, 2, 1⟩ : LitD)])] .int fun c11 =>
 sel (decide (c11 = 0))
 (sel (decide (c3 = 0))
 (sel (decide (c6 = 0))
 (sel (decide (c9 = 0))
 (sel c2
 (Call1 Tryz.prog f_cordonref_SameStore [.sl (.list .int) c5, .sl (.list .int) ([[0, 1], [1, 2]])] .bool fun c12 =>
 sel c12
 (Call1 Tryz.prog f_cordonref_SameStore [.sl (.list .int) c8, .sl (.list .int) ([[0, 1], [0]])] .bool fun c13 =>
 R (.bool c13))
 (R (.bool false)))
 (R (.bool false)))
 (R (.bool false)))
 (R (.bool false)))
 (R (.bool false)))
 (R (.bool false))) := by kernel_rfl
theorem cordonlaw_clauseBegun_sat {r : D}  (h : (∀ d ∈ [], okD d) → fnD Tryz.prog Ev cordonlaw_clauseBegun_A Tryz.f13.results.toList (bodyOf Tryz.f13) [] fun d => d = r) : Sat Tryz.prog f_cordonlaw_clauseBegun [] r := by
  have h2 := sat_of (r := r) (args := []) (A := cordonlaw_clauseBegun_A) (fn := Tryz.f13) (body := bodyOf Tryz.f13) (f := f_cordonlaw_clauseBegun) factsEv Tryz.func13 (by kernel_rfl) (by rw [Tryz.ntmps13]; rfl) (by rw [Tryz.ntmps13]; exact Nat.le_of_ble_eq_true rfl)
  with_reducible exact h2 h
/-! ### cordon/cordonlaw.storeIs -/
def cordonlaw_storeIs_A : Ann := { own := [], live := [], n := 19, nils := [], pubs := [] }
theorem cordonlaw_storeIs_eq (a0 : List (List Int)) (a1 : Int) (a2 : Int) (a3 : List (List Int)) (R : D → Prop) : fnD Tryz.prog Ev cordonlaw_storeIs_A Tryz.f16.results.toList (bodyOf Tryz.f16) [.sl (.list .int) a0, .int .i64 a1, .int .i64 a2, .sl (.list .int) a3] R =
 (sel (!decide (a2 = 0))
 (sel (decide (a1 = a2))
 (Call1 Tryz.prog f_cordonref_SameStore [.sl (.list .int) a0, .sl (.list .int) ([] : List (List Int))] .bool fun c1 =>
 R (.bool c1))
 (R (.bool false)))
 (sel (decide (a1 = a2))
 (Call1 Tryz.prog f_cordonref_SameStore [.sl (.list .int) a0, .sl (.list .int) a3] .bool fun c2 =>
 R (.bool c2))
 (R (.bool false)))) := by kernel_rfl
theorem cordonlaw_storeIs_sat {r : D} (a0 : List (List Int)) (a1 : Int) (a2 : Int) (a3 : List (List Int)) (h : (∀ d ∈ [.sl (.list .int) a0, .int .i64 a1, .int .i64 a2, .sl (.list .int) a3], okD d) → fnD Tryz.prog Ev cordonlaw_storeIs_A Tryz.f16.results.toList (bodyOf Tryz.f16) [.sl (.list .int) a0, .int .i64 a1, .int .i64 a2, .sl (.list .int) a3] fun d => d = r) : Sat Tryz.prog f_cordonlaw_storeIs [.sl (.list .int) a0, .int .i64 a1, .int .i64 a2, .sl (.list .int) a3] r := by
  have h2 := sat_of (r := r) (args := [.sl (.list .int) a0, .int .i64 a1, .int .i64 a2, .sl (.list .int) a3]) (A := cordonlaw_storeIs_A) (fn := Tryz.f16) (body := bodyOf Tryz.f16) (f := f_cordonlaw_storeIs) factsEv Tryz.func16 (by kernel_rfl) (by rw [Tryz.ntmps16]; rfl) (by rw [Tryz.ntmps16]; exact Nat.le_of_ble_eq_true rfl)
  with_reducible exact h2 h
/-! ### cordon/cordonlaw.two -/
def cordonlaw_two_A : Ann := { own := [0], live := [], n := 9, nils := [], pubs := [] }
theorem cordonlaw_two_eq  (R : D → Prop) : fnD Tryz.prog Ev cordonlaw_two_A Tryz.f39.results.toList (bodyOf Tryz.f39) [] R =
 (R (.agg [.sl .var ([(⟨(⟨#[120]⟩ : ByteArray), 0, 2⟩ : VarD), (⟨(⟨#[121]⟩ : ByteArray), 0, 2⟩ : VarD)]), .sl .con ([(⟨1, [0, 1], [1, -1], -1, ([] : List (List Int)), ([] : List LitD)⟩ : ConD)]), .int .i64 1, .int .i64 1])) := by kernel_rfl
theorem cordonlaw_two_sat {r : D}  (h : (∀ d ∈ [], okD d) → fnD Tryz.prog Ev cordonlaw_two_A Tryz.f39.results.toList (bodyOf Tryz.f39) [] fun d => d = r) : Sat Tryz.prog f_cordonlaw_two [] r := by
  have h2 := sat_of (r := r) (args := []) (A := cordonlaw_two_A) (fn := Tryz.f39) (body := bodyOf Tryz.f39) (f := f_cordonlaw_two) factsEv Tryz.func39 (by kernel_rfl) (by rw [Tryz.ntmps39]; rfl) (by rw [Tryz.ntmps39]; exact Nat.le_of_ble_eq_true rfl)
  with_reducible exact h2 h
end Go.Proofs.YtonkbljpcgadlaaGreat
