/- What the functions of a package do, as equations of plain propositions: printed by a program that carries the code out on symbols. -/
import Derived.Test.YtonkbljpcgadlaaWEv
namespace Go.Proofs.Ytonkbljpcgadlaa
open Go.RowKit
set_option linter.unusedVariables false
set_option maxRecDepth 100000
/-! ### cordon/cordonlaw.StoreTells -/
def cordonlaw_StoreTells_A : Ann := { own := [], live := [], n := 116, nils := [], pubs := [] }
theorem cordonlaw_StoreTells_eq (a0 : MdlD) (a1 : List (List Int)) (a2 : List (List Int)) (R : D → Prop) : fnD Try.prog Ev cordonlaw_StoreTells_A Try.f7.results.toList (bodyOf Try.f7) [.agg [.sl .var a0.vars, .sl .con a0.cons, .int .i64 a0.goal, .int .i64 a0.var], .sl (.list .int) a1, .sl (.list .int) a2] R =
 (Call2 Try.prog f_store_Begin [.agg [.sl .var a0.vars, .sl .con a0.cons, .int .i64 a0.goal, .int .i64 a0.var]] (.list (.list .int)) .int fun s1 s2 =>
 Call2 Try.prog f_store_Meet [.agg [.sl .var a0.vars, .sl .con a0.cons, .int .i64 a0.goal, .int .i64 a0.var], .sl (.list .int) a1, .sl (.list .int) a2] (.list (.list .int)) .int fun s3 s4 =>
 Call2 Try.prog f_store_Within [.agg [.sl .var a0.vars, .sl .con a0.cons, .int .i64 a0.goal, .int .i64 a0.var], .sl (.list .int) a1, .sl (.list .int) a2] .bool .int fun s5 s6 =>
 Call2 Try.prog f_store_Failed [.agg [.sl .var a0.vars, .sl .con a0.cons, .int .i64 a0.goal, .int .i64 a0.var], .sl (.list .int) a1] .bool .int fun s7 s8 =>
 Call1 Try.prog f_cordonref_CheckModel [.agg [.sl .var a0.vars, .sl .con a0.cons, .int .i64 a0.goal, .int .i64 a0.var]] .int fun c9 =>
 Call1 Try.prog f_cordonlaw_checkStore [.agg [.sl .var a0.vars, .sl .con a0.cons, .int .i64 a0.goal, .int .i64 a0.var], .sl (.list .int) a1] .int fun c10 =>
 sel (decide (c10 = 0))
 (Call1 Try.prog f_cordonref_CheckStore [.agg [.sl .var a0.vars, .sl .con a0.cons, .int .i64 a0.goal, .int .i64 a0.var], .sl (.list .int) a2] .int fun c11 =>
 sel (decide (c9 = 0))
 (Call1 Try.prog f_cordonref_BeginOf [.agg [.sl .var a0.vars, .sl .con a0.cons, .int .i64 a0.goal, .int .i64 a0.var]] (.list (.list .int)) fun c12 =>
 sel (decide (c10 = 0))
 (Call1 Try.prog f_cordonref_HasFailed [.sl (.list .int) a1] .bool fun c13 =>
 sel (decide (c11 = 0))
 (Call1 Try.prog f_cordonref_MeetOf [.sl (.list .int) a1, .sl (.list .int) a2] (.list (.list .int)) fun c14 =>
 Call1 Try.prog f_cordonref_IsWithin [.sl (.list .int) a1, .sl (.list .int) a2] .bool fun c15 =>
 Call1 Try.prog f_cordonlaw_storeBegun [] .bool fun c16 =>
 sel c16
 (Call1 Try.prog f_cordonlaw_storeIs [.sl (.list .int) s1, .int .i64 s2, .int .i64 c9, .sl (.list .int) c12] .bool fun c17 =>
 sel c17
 (Call1 Try.prog f_cordonlaw_storeIs [.sl (.list .int) s3, .int .i64 s4, .int .i64 c11, .sl (.list .int) c14] .bool fun c18 =>
 sel c18
 (sel (decide (s6 = c11))
 (sel (s5 == c15)
 (sel (decide (s8 = c10))
 (sel (s7 == c13)
 (Call1 Try.prog f_store_Check [.agg [.sl .var a0.vars, .sl .con a0.cons, .int .i64 a0.goal, .int .i64 a0.var], .sl (.list .int) a1] .int fun s19 =>
 R (.bool (decide (s19 = c10))))
 (R (.bool false)))
 (R (.bool false)))
 (R (.bool false)))
 (R (.bool false)))
 (R (.bool false)))
 (R (.bool false)))
 (R (.bool false)))
 (Call1 Try.prog f_cordonlaw_storeBegun [] .bool fun c20 =>
 sel c20
 (Call1 Try.prog f_cordonlaw_storeIs [.sl (.list .int) s1, .int .i64 s2, .int .i64 c9, .sl (.list .int) c12] .bool fun c21 =>
 sel c21
 (Call1 Try.prog f_cordonlaw_storeIs [.sl (.list .int) s3, .int .i64 s4, .int .i64 c11, .sl (.list .int) ([] : List (List Int))] .bool fun c22 =>
 sel c22
 (sel (decide (s6 = c11))
 (sel (s5 == false)
 (sel (decide (s8 = c10))
 (sel (s7 == c13)
 (Call1 Try.prog f_store_Check [.agg [.sl .var a0.vars, .sl .con a0.cons, .int .i64 a0.goal, .int .i64 a0.var], .sl (.list .int) a1] .int fun s23 =>
 R (.bool (decide (s23 = c10))))
 (R (.bool false)))
 (R (.bool false)))
 (R (.bool false)))
 (R (.bool false)))
 (R (.bool false)))
 (R (.bool false)))
 (R (.bool false))))
 (sel (decide (c11 = 0))
 (Call1 Try.prog f_cordonref_MeetOf [.sl (.list .int) a1, .sl (.list .int) a2] (.list (.list .int)) fun c24 =>
 Call1 Try.prog f_cordonref_IsWithin [.sl (.list .int) a1, .sl (.list .int) a2] .bool fun c25 =>
 Call1 Try.prog f_cordonlaw_storeBegun [] .bool fun c26 =>
 sel c26
 (Call1 Try.prog f_cordonlaw_storeIs [.sl (.list .int) s1, .int .i64 s2, .int .i64 c9, .sl (.list .int) c12] .bool fun c27 =>
 sel c27
 (Call1 Try.prog f_cordonlaw_storeIs [.sl (.list .int) s3, .int .i64 s4, .int .i64 c11, .sl (.list .int) c24] .bool fun c28 =>
 sel c28
 (sel (decide (s6 = c11))
 (sel (s5 == c25)
 (sel (decide (s8 = c10))
 (sel (s7 == false)
 (Call1 Try.prog f_store_Check [.agg [.sl .var a0.vars, .sl .con a0.cons, .int .i64 a0.goal, .int .i64 a0.var], .sl (.list .int) a1] .int fun s29 =>
 R (.bool (decide (s29 = c10))))
 (R (.bool false)))
 (R (.bool false)))
 (R (.bool false)))
 (R (.bool false)))
 (R (.bool false)))
 (R (.bool false)))
 (R (.bool false)))
 (Call1 Try.prog f_cordonlaw_storeBegun [] .bool fun c30 =>
 sel c30
 (Call1 Try.prog f_cordonlaw_storeIs [.sl (.list .int) s1, .int .i64 s2, .int .i64 c9, .sl (.list .int) c12] .bool fun c31 =>
 sel c31
 (Call1 Try.prog f_cordonlaw_storeIs [.sl (.list .int) s3, .int .i64 s4, .int .i64 c11, .sl (.list .int) ([] : List (List Int))] .bool fun c32 =>
 sel c32
 (sel (decide (s6 = c11))
 (sel (s5 == false)
 (sel (decide (s8 = c10))
 (sel (s7 == false)
 (Call1 Try.prog f_store_Check [.agg [.sl .var a0.vars, .sl .con a0.cons, .int .i64 a0.goal, .int .i64 a0.var], .sl (.list .int) a1] .int fun s33 =>
 R (.bool (decide (s33 = c10))))
 (R (.bool false)))
 (R (.bool false)))
 (R (.bool false)))
 (R (.bool false)))
 (R (.bool false)))
 (R (.bool false)))
 (R (.bool false)))))
 (sel (decide (c10 = 0))
 (Call1 Try.prog f_cordonref_HasFailed [.sl (.list .int) a1] .bool fun c34 =>
 sel (decide (c11 = 0))
 (Call1 Try.prog f_cordonref_MeetOf [.sl (.list .int) a1, .sl (.list .int) a2] (.list (.list .int)) fun c35 =>
 Call1 Try.prog f_cordonref_IsWithin [.sl (.list .int) a1, .sl (.list .int) a2] .bool fun c36 =>
 Call1 Try.prog f_cordonlaw_storeBegun [] .bool fun c37 =>
 sel c37
 (Call1 Try.prog f_cordonlaw_storeIs [.sl (.list .int) s1, .int .i64 s2, .int .i64 c9, .sl (.list .int) ([] : List (List Int))] .bool fun c38 =>
 sel c38
 (Call1 Try.prog f_cordonlaw_storeIs [.sl (.list .int) s3, .int .i64 s4, .int .i64 c11, .sl (.list .int) c35] .bool fun c39 =>
 sel c39
 (sel (decide (s6 = c11))
 (sel (s5 == c36)
 (sel (decide (s8 = c10))
 (sel (s7 == c34)
 (Call1 Try.prog f_store_Check [.agg [.sl .var a0.vars, .sl .con a0.cons, .int .i64 a0.goal, .int .i64 a0.var], .sl (.list .int) a1] .int fun s40 =>
 R (.bool (decide (s40 = c10))))
 (R (.bool false)))
 (R (.bool false)))
 (R (.bool false)))
 (R (.bool false)))
 (R (.bool false)))
 (R (.bool false)))
 (R (.bool false)))
 (Call1 Try.prog f_cordonlaw_storeBegun [] .bool fun c41 =>
 sel c41
 (Call1 Try.prog f_cordonlaw_storeIs [.sl (.list .int) s1, .int .i64 s2, .int .i64 c9, .sl (.list .int) ([] : List (List Int))] .bool fun c42 =>
 sel c42
 (Call1 Try.prog f_cordonlaw_storeIs [.sl (.list .int) s3, .int .i64 s4, .int .i64 c11, .sl (.list .int) ([] : List (List Int))] .bool fun c43 =>
 sel c43
 (sel (decide (s6 = c11))
 (sel (s5 == false)
 (sel (decide (s8 = c10))
 (sel (s7 == c34)
 (Call1 Try.prog f_store_Check [.agg [.sl .var a0.vars, .sl .con a0.cons, .int .i64 a0.goal, .int .i64 a0.var], .sl (.list .int) a1] .int fun s44 =>
 R (.bool (decide (s44 = c10))))
 (R (.bool false)))
 (R (.bool false)))
 (R (.bool false)))
 (R (.bool false)))
 (R (.bool false)))
 (R (.bool false)))
 (R (.bool false))))
 (sel (decide (c11 = 0))
 (Call1 Try.prog f_cordonref_MeetOf [.sl (.list .int) a1, .sl (.list .int) a2] (.list (.list .int)) fun c45 =>
 Call1 Try.prog f_cordonref_IsWithin [.sl (.list .int) a1, .sl (.list .int) a2] .bool fun c46 =>
 Call1 Try.prog f_cordonlaw_storeBegun [] .bool fun c47 =>
 sel c47
 (Call1 Try.prog f_cordonlaw_storeIs [.sl (.list .int) s1, .int .i64 s2, .int .i64 c9, .sl (.list .int) ([] : List (List Int))] .bool fun c48 =>
 sel c48
 (Call1 Try.prog f_cordonlaw_storeIs [.sl (.list .int) s3, .int .i64 s4, .int .i64 c11, .sl (.list .int) c45] .bool fun c49 =>
 sel c49
 (sel (decide (s6 = c11))
 (sel (s5 == c46)
 (sel (decide (s8 = c10))
 (sel (s7 == false)
 (Call1 Try.prog f_store_Check [.agg [.sl .var a0.vars, .sl .con a0.cons, .int .i64 a0.goal, .int .i64 a0.var], .sl (.list .int) a1] .int fun s50 =>
 R (.bool (decide (s50 = c10))))
 (R (.bool false)))
 (R (.bool false)))
 (R (.bool false)))
 (R (.bool false)))
 (R (.bool false)))
 (R (.bool false)))
 (R (.bool false)))
 (Call1 Try.prog f_cordonlaw_storeBegun [] .bool fun c51 =>
 sel c51
 (Call1 Try.prog f_cordonlaw_storeIs [.sl (.list .int) s1, .int .i64 s2, .int .i64 c9, .sl (.list .int) ([] : List (List Int))] .bool fun c52 =>
 sel c52
 (Call1 Try.prog f_cordonlaw_storeIs [.sl (.list .int) s3, .int .i64 s4, .int .i64 c11, .sl (.list .int) ([] : List (List Int))] .bool fun c53 =>
 sel c53
 (sel (decide (s6 = c11))
 (sel (s5 == false)
 (sel (decide (s8 = c10))
 (sel (s7 == false)
 (Call1 Try.prog f_store_Check [.agg [.sl .var a0.vars, .sl .con a0.cons, .int .i64 a0.goal, .int .i64 a0.var], .sl (.list .int) a1] .int fun s54 =>
 R (.bool (decide (s54 = c10))))
 (R (.bool false)))
 (R (.bool false)))
 (R (.bool false)))
 (R (.bool false)))
 (R (.bool false)))
 (R (.bool false)))
 (R (.bool false))))))
 (sel (decide (c9 = 0))
 (Call1 Try.prog f_cordonref_BeginOf [.agg [.sl .var a0.vars, .sl .con a0.cons, .int .i64 a0.goal, .int .i64 a0.var]] (.list (.list .int)) fun c55 =>
 sel (decide (c10 = 0))
 (Call1 Try.prog f_cordonref_HasFailed [.sl (.list .int) a1] .bool fun c56 =>
 sel (decide (c10 = 0))
 (Call1 Try.prog f_cordonref_MeetOf [.sl (.list .int) a1, .sl (.list .int) a2] (.list (.list .int)) fun c57 =>
 Call1 Try.prog f_cordonref_IsWithin [.sl (.list .int) a1, .sl (.list .int) a2] .bool fun c58 =>
 Call1 Try.prog f_cordonlaw_storeBegun [] .bool fun c59 =>
 sel c59
 (Call1 Try.prog f_cordonlaw_storeIs [.sl (.list .int) s1, .int .i64 s2, .int .i64 c9, .sl (.list .int) c55] .bool fun c60 =>
 sel c60
 (Call1 Try.prog f_cordonlaw_storeIs [.sl (.list .int) s3, .int .i64 s4, .int .i64 c10, .sl (.list .int) c57] .bool fun c61 =>
 sel c61
 (sel (decide (s6 = c10))
 (sel (s5 == c58)
 (sel (decide (s8 = c10))
 (sel (s7 == c56)
 (Call1 Try.prog f_store_Check [.agg [.sl .var a0.vars, .sl .con a0.cons, .int .i64 a0.goal, .int .i64 a0.var], .sl (.list .int) a1] .int fun s62 =>
 R (.bool (decide (s62 = c10))))
 (R (.bool false)))
 (R (.bool false)))
 (R (.bool false)))
 (R (.bool false)))
 (R (.bool false)))
 (R (.bool false)))
 (R (.bool false)))
 (Call1 Try.prog f_cordonlaw_storeBegun [] .bool fun c63 =>
 sel c63
 (Call1 Try.prog f_cordonlaw_storeIs [.sl (.list .int) s1, .int .i64 s2, .int .i64 c9, .sl (.list .int) c55] .bool fun c64 =>
 sel c64
 (Call1 Try.prog f_cordonlaw_storeIs [.sl (.list .int) s3, .int .i64 s4, .int .i64 c10, .sl (.list .int) ([] : List (List Int))] .bool fun c65 =>
 sel c65
 (sel (decide (s6 = c10))
 (sel (s5 == false)
 (sel (decide (s8 = c10))
 (sel (s7 == c56)
 (Call1 Try.prog f_store_Check [.agg [.sl .var a0.vars, .sl .con a0.cons, .int .i64 a0.goal, .int .i64 a0.var], .sl (.list .int) a1] .int fun s66 =>
 R (.bool (decide (s66 = c10))))
 (R (.bool false)))
 (R (.bool false)))
 (R (.bool false)))
 (R (.bool false)))
 (R (.bool false)))
 (R (.bool false)))
 (R (.bool false))))
 (sel (decide (c10 = 0))
 (Call1 Try.prog f_cordonref_MeetOf [.sl (.list .int) a1, .sl (.list .int) a2] (.list (.list .int)) fun c67 =>
 Call1 Try.prog f_cordonref_IsWithin [.sl (.list .int) a1, .sl (.list .int) a2] .bool fun c68 =>
 Call1 Try.prog f_cordonlaw_storeBegun [] .bool fun c69 =>
 sel c69
 (Call1 Try.prog f_cordonlaw_storeIs [.sl (.list .int) s1, .int .i64 s2, .int .i64 c9, .sl (.list .int) c55] .bool fun c70 =>
 sel c70
 (Call1 Try.prog f_cordonlaw_storeIs [.sl (.list .int) s3, .int .i64 s4, .int .i64 c10, .sl (.list .int) c67] .bool fun c71 =>
 sel c71
 (sel (decide (s6 = c10))
 (sel (s5 == c68)
 (sel (decide (s8 = c10))
 (sel (s7 == false)
 (Call1 Try.prog f_store_Check [.agg [.sl .var a0.vars, .sl .con a0.cons, .int .i64 a0.goal, .int .i64 a0.var], .sl (.list .int) a1] .int fun s72 =>
 R (.bool (decide (s72 = c10))))
 (R (.bool false)))
 (R (.bool false)))
 (R (.bool false)))
 (R (.bool false)))
 (R (.bool false)))
 (R (.bool false)))
 (R (.bool false)))
 (Call1 Try.prog f_cordonlaw_storeBegun [] .bool fun c73 =>
 sel c73
 (Call1 Try.prog f_cordonlaw_storeIs [.sl (.list .int) s1, .int .i64 s2, .int .i64 c9, .sl (.list .int) c55] .bool fun c74 =>
 sel c74
 (Call1 Try.prog f_cordonlaw_storeIs [.sl (.list .int) s3, .int .i64 s4, .int .i64 c10, .sl (.list .int) ([] : List (List Int))] .bool fun c75 =>
 sel c75
 (sel (decide (s6 = c10))
 (sel (s5 == false)
 (sel (decide (s8 = c10))
 (sel (s7 == false)
 (Call1 Try.prog f_store_Check [.agg [.sl .var a0.vars, .sl .con a0.cons, .int .i64 a0.goal, .int .i64 a0.var], .sl (.list .int) a1] .int fun s76 =>
 R (.bool (decide (s76 = c10))))
 (R (.bool false)))
 (R (.bool false)))
 (R (.bool false)))
 (R (.bool false)))
 (R (.bool false)))
 (R (.bool false)))
 (R (.bool false)))))
 (sel (decide (c10 = 0))
 (Call1 Try.prog f_cordonref_HasFailed [.sl (.list .int) a1] .bool fun c77 =>
 sel (decide (c10 = 0))
 (Call1 Try.prog f_cordonref_MeetOf [.sl (.list .int) a1, .sl (.list .int) a2] (.list (.list .int)) fun c78 =>
 Call1 Try.prog f_cordonref_IsWithin [.sl (.list .int) a1, .sl (.list .int) a2] .bool fun c79 =>
 Call1 Try.prog f_cordonlaw_storeBegun [] .bool fun c80 =>
 sel c80
 (Call1 Try.prog f_cordonlaw_storeIs [.sl (.list .int) s1, .int .i64 s2, .int .i64 c9, .sl (.list .int) ([] : List (List Int))] .bool fun c81 =>
 sel c81
 (Call1 Try.prog f_cordonlaw_storeIs [.sl (.list .int) s3, .int .i64 s4, .int .i64 c10, .sl (.list .int) c78] .bool fun c82 =>
 sel c82
 (sel (decide (s6 = c10))
 (sel (s5 == c79)
 (sel (decide (s8 = c10))
 (sel (s7 == c77)
 (Call1 Try.prog f_store_Check [.agg [.sl .var a0.vars, .sl .con a0.cons, .int .i64 a0.goal, .int .i64 a0.var], .sl (.list .int) a1] .int fun s83 =>
 R (.bool (decide (s83 = c10))))
 (R (.bool false)))
 (R (.bool false)))
 (R (.bool false)))
 (R (.bool false)))
 (R (.bool false)))
 (R (.bool false)))
 (R (.bool false)))
 (Call1 Try.prog f_cordonlaw_storeBegun [] .bool fun c84 =>
 sel c84
 (Call1 Try.prog f_cordonlaw_storeIs [.sl (.list .int) s1, .int .i64 s2, .int .i64 c9, .sl (.list .int) ([] : List (List Int))] .bool fun c85 =>
 sel c85
 (Call1 Try.prog f_cordonlaw_storeIs [.sl (.list .int) s3, .int .i64 s4, .int .i64 c10, .sl (.list .int) ([] : List (List Int))] .bool fun c86 =>
 sel c86
 (sel (decide (s6 = c10))
 (sel (s5 == false)
 (sel (decide (s8 = c10))
 (sel (s7 == c77)
 (Call1 Try.prog f_store_Check [.agg [.sl .var a0.vars, .sl .con a0.cons, .int .i64 a0.goal, .int .i64 a0.var], .sl (.list .int) a1] .int fun s87 =>
 R (.bool (decide (s87 = c10))))
 (R (.bool false)))
 (R (.bool false)))
 (R (.bool false)))
 (R (.bool false)))
 (R (.bool false)))
 (R (.bool false)))
 (R (.bool false))))
 (sel (decide (c10 = 0))
 (Call1 Try.prog f_cordonref_MeetOf [.sl (.list .int) a1, .sl (.list .int) a2] (.list (.list .int)) fun c88 =>
 Call1 Try.prog f_cordonref_IsWithin [.sl (.list .int) a1, .sl (.list .int) a2] .bool fun c89 =>
 Call1 Try.prog f_cordonlaw_storeBegun [] .bool fun c90 =>
 sel c90
 (Call1 Try.prog f_cordonlaw_storeIs [.sl (.list .int) s1, .int .i64 s2, .int .i64 c9, .sl (.list .int) ([] : List (List Int))] .bool fun c91 =>
 sel c91
 (Call1 Try.prog f_cordonlaw_storeIs [.sl (.list .int) s3, .int .i64 s4, .int .i64 c10, .sl (.list .int) c88] .bool fun c92 =>
 sel c92
 (sel (decide (s6 = c10))
 (sel (s5 == c89)
 (sel (decide (s8 = c10))
 (sel (s7 == false)
 (Call1 Try.prog f_store_Check [.agg [.sl .var a0.vars, .sl .con a0.cons, .int .i64 a0.goal, .int .i64 a0.var], .sl (.list .int) a1] .int fun s93 =>
 R (.bool (decide (s93 = c10))))
 (R (.bool false)))
 (R (.bool false)))
 (R (.bool false)))
 (R (.bool false)))
 (R (.bool false)))
 (R (.bool false)))
 (R (.bool false)))
 (Call1 Try.prog f_cordonlaw_storeBegun [] .bool fun c94 =>
 sel c94
 (Call1 Try.prog f_cordonlaw_storeIs [.sl (.list .int) s1, .int .i64 s2, .int .i64 c9, .sl (.list .int) ([] : List (List Int))] .bool fun c95 =>
 sel c95
 (Call1 Try.prog f_cordonlaw_storeIs [.sl (.list .int) s3, .int .i64 s4, .int .i64 c10, .sl (.list .int) ([] : List (List Int))] .bool fun c96 =>
 sel c96
 (sel (decide (s6 = c10))
 (sel (s5 == false)
 (sel (decide (s8 = c10))
 (sel (s7 == false)
 (Call1 Try.prog f_store_Check [.agg [.sl .var a0.vars, .sl .con a0.cons, .int .i64 a0.goal, .int .i64 a0.var], .sl (.list .int) a1] .int fun s97 =>
 R (.bool (decide (s97 = c10))))
 (R (.bool false)))
 (R (.bool false)))
 (R (.bool false)))
 (R (.bool false)))
 (R (.bool false)))
 (R (.bool false)))
 (R (.bool false))))))) := by kernel_rfl
theorem cordonlaw_StoreTells_sat {r : D} (a0 : MdlD) (a1 : List (List Int)) (a2 : List (List Int)) (h : (∀ d ∈ [.agg [.sl .var a0.vars, .sl .con a0.cons, .int .i64 a0.goal, .int .i64 a0.var], .sl (.list .int) a1, .sl (.list .int) a2], okD d) → fnD Try.prog Ev cordonlaw_StoreTells_A Try.f7.results.toList (bodyOf Try.f7) [.agg [.sl .var a0.vars, .sl .con a0.cons, .int .i64 a0.goal, .int .i64 a0.var], .sl (.list .int) a1, .sl (.list .int) a2] fun d => d = r) : Sat Try.prog f_cordonlaw_StoreTells [.agg [.sl .var a0.vars, .sl .con a0.cons, .int .i64 a0.goal, .int .i64 a0.var], .sl (.list .int) a1, .sl (.list .int) a2] r := by
  have h2 := sat_of (r := r) (args := [.agg [.sl .var a0.vars, .sl .con a0.cons, .int .i64 a0.goal, .int .i64 a0.var], .sl (.list .int) a1, .sl (.list .int) a2]) (A := cordonlaw_StoreTells_A) (fn := Try.f7) (body := bodyOf Try.f7) (f := f_cordonlaw_StoreTells) factsEv Try.func7 (by kernel_rfl) (by rw [Try.ntmps7]; rfl) (by rw [Try.ntmps7]; exact Nat.le_of_ble_eq_true rfl)
  with_reducible exact h2 h
/-! ### cordon/cordonlaw.StoreMeets -/
def cordonlaw_StoreMeets_A : Ann := { own := [], live := [], n := 106, nils := [], pubs := [] }
theorem cordonlaw_StoreMeets_eq (a0 : MdlD) (a1 : List (List Int)) (a2 : List (List Int)) (a3 : List (List Int)) (R : D → Prop) : fnD Try.prog Ev cordonlaw_StoreMeets_A Try.f8.results.toList (bodyOf Try.f8) [.agg [.sl .var a0.vars, .sl .con a0.cons, .int .i64 a0.goal, .int .i64 a0.var], .sl (.list .int) a1, .sl (.list .int) a2, .sl (.list .int) a3] R =
 (Call2 Try.prog f_store_Meet [.agg [.sl .var a0.vars, .sl .con a0.cons, .int .i64 a0.goal, .int .i64 a0.var], .sl (.list .int) a1, .sl (.list .int) a2] (.list (.list .int)) .int fun s1 s2 =>
 Call1 Try.prog f_cordonlaw_storeBegun [] .bool fun c3 =>
 sel (!c3)
 (R (.bool false))
 (sel (!decide (s2 = 0))
 (R (.bool (decide ((s1.length : Int) = 0))))
 (Call2 Try.prog f_store_Within [.agg [.sl .var a0.vars, .sl .con a0.cons, .int .i64 a0.goal, .int .i64 a0.var], .sl (.list .int) s1, .sl (.list .int) a1] .bool .int fun s4 s5 =>
 Call2 Try.prog f_store_Within [.agg [.sl .var a0.vars, .sl .con a0.cons, .int .i64 a0.goal, .int .i64 a0.var], .sl (.list .int) s1, .sl (.list .int) a2] .bool .int fun s6 s7 =>
 sel (!decide (s5 = 0))
 (R (.bool false))
 (sel (!decide (s7 = 0))
 (R (.bool false))
 (sel (!s4)
 (R (.bool false))
 (sel (!s6)
 (R (.bool false))
 (Call2 Try.prog f_store_Within [.agg [.sl .var a0.vars, .sl .con a0.cons, .int .i64 a0.goal, .int .i64 a0.var], .sl (.list .int) a3, .sl (.list .int) a1] .bool .int fun s8 s9 =>
 Call2 Try.prog f_store_Within [.agg [.sl .var a0.vars, .sl .con a0.cons, .int .i64 a0.goal, .int .i64 a0.var], .sl (.list .int) a3, .sl (.list .int) a2] .bool .int fun s10 s11 =>
 Call2 Try.prog f_store_Within [.agg [.sl .var a0.vars, .sl .con a0.cons, .int .i64 a0.goal, .int .i64 a0.var], .sl (.list .int) a3, .sl (.list .int) s1] .bool .int fun s12 s13 =>
 sel (!decide (s9 = 0))
 (sel (decide (s11 = s9))
 (R (.bool (decide (s13 = s9))))
 (R (.bool false)))
 (sel (decide (s11 = 0))
 (sel (decide (s13 = 0))
 (sel s8
 (R (.bool (s12 == s10)))
 (R (.bool (s12 == false))))
 (R (.bool false)))
 (R (.bool false)))))))))) := by kernel_rfl
theorem cordonlaw_StoreMeets_sat {r : D} (a0 : MdlD) (a1 : List (List Int)) (a2 : List (List Int)) (a3 : List (List Int)) (h : (∀ d ∈ [.agg [.sl .var a0.vars, .sl .con a0.cons, .int .i64 a0.goal, .int .i64 a0.var], .sl (.list .int) a1, .sl (.list .int) a2, .sl (.list .int) a3], okD d) → fnD Try.prog Ev cordonlaw_StoreMeets_A Try.f8.results.toList (bodyOf Try.f8) [.agg [.sl .var a0.vars, .sl .con a0.cons, .int .i64 a0.goal, .int .i64 a0.var], .sl (.list .int) a1, .sl (.list .int) a2, .sl (.list .int) a3] fun d => d = r) : Sat Try.prog f_cordonlaw_StoreMeets [.agg [.sl .var a0.vars, .sl .con a0.cons, .int .i64 a0.goal, .int .i64 a0.var], .sl (.list .int) a1, .sl (.list .int) a2, .sl (.list .int) a3] r := by
  have h2 := sat_of (r := r) (args := [.agg [.sl .var a0.vars, .sl .con a0.cons, .int .i64 a0.goal, .int .i64 a0.var], .sl (.list .int) a1, .sl (.list .int) a2, .sl (.list .int) a3]) (A := cordonlaw_StoreMeets_A) (fn := Try.f8) (body := bodyOf Try.f8) (f := f_cordonlaw_StoreMeets) factsEv Try.func8 (by kernel_rfl) (by rw [Try.ntmps8]; rfl) (by rw [Try.ntmps8]; exact Nat.le_of_ble_eq_true rfl)
  with_reducible exact h2 h
/-! ### cordon/cordonlaw.LitTells -/
def cordonlaw_LitTells_A : Ann := { own := [11, 19], live := [], n := 135, nils := [], pubs := [] }
theorem cordonlaw_LitTells_eq (a0 : MdlD) (a1 : List (List Int)) (a2 : LitD) (a3 : Int) (R : D → Prop) : fnD Try.prog Ev cordonlaw_LitTells_A Try.f9.results.toList (bodyOf Try.f9) [.agg [.sl .var a0.vars, .sl .con a0.cons, .int .i64 a0.goal, .int .i64 a0.var], .sl (.list .int) a1, .agg [.int .i64 a2.var, .int .i64 a2.op, .int .i64 a2.n], .int .i64 a3] R =
 (Call2 Try.prog f_lit_Holds [.agg [.sl .var a0.vars, .sl .con a0.cons, .int .i64 a0.goal, .int .i64 a0.var], .agg [.int .i64 a2.var, .int .i64 a2.op, .int .i64 a2.n], .int .i64 a3] .bool .int fun l1 l2 =>
 Call2 Try.prog f_lit_Not [.agg [.sl .var a0.vars, .sl .con a0.cons, .int .i64 a0.goal, .int .i64 a0.var], .agg [.int .i64 a2.var, .int .i64 a2.op, .int .i64 a2.n]] .lit .int fun l3 l4 =>
 Call2 Try.prog f_lit_Told [.agg [.sl .var a0.vars, .sl .con a0.cons, .int .i64 a0.goal, .int .i64 a0.var], .sl (.list .int) a1, .agg [.int .i64 a2.var, .int .i64 a2.op, .int .i64 a2.n]] .int .int fun l5 l6 =>
 Call2 Try.prog f_lit_Put [.agg [.sl .var a0.vars, .sl .con a0.cons, .int .i64 a0.goal, .int .i64 a0.var], .sl (.list .int) a1, .agg [.int .i64 a2.var, .int .i64 a2.op, .int .i64 a2.n]] (.list (.list .int)) .int fun l7 l8 =>
 Call1 Try.prog f_cordonref_CheckModel [.agg [.sl .var a0.vars, .sl .con a0.cons, .int .i64 a0.goal, .int .i64 a0.var]] .int fun c9 =>
 sel (decide (c9 = 0))
 (Call1 Try.prog f_cordonref_CheckLit [.agg [.sl .var a0.vars, .sl .con a0.cons, .int .i64 a0.goal, .int .i64 a0.var], .agg [.int .i64 a2.var, .int .i64 a2.op, .int .i64 a2.n]] .int fun c10 =>
 sel (decide (c10 = 0))
 (Call1 Try.prog f_cordonref_OppositeOf [.agg [.int .i64 a2.var, .int .i64 a2.op, .int .i64 a2.n]] .lit fun c11 =>
 Call1 Try.prog f_cordonref_CheckLit [.agg [.sl .var a0.vars, .sl .con a0.cons, .int .i64 a0.goal, .int .i64 a0.var], .agg [.int .i64 c11.var, .int .i64 c11.op, .int .i64 c11.n]] .int fun c12 =>
 sel (!decide (c12 = 0))
 (Call1 Try.prog f_cordonlaw_checkStore [.agg [.sl .var a0.vars, .sl .con a0.cons, .int .i64 a0.goal, .int .i64 a0.var], .sl (.list .int) a1] .int fun c13 =>
 sel (decide (c13 = 0))
 (Call1 Try.prog f_cordonref_CheckLit [.agg [.sl .var a0.vars, .sl .con a0.cons, .int .i64 a0.goal, .int .i64 a0.var], .agg [.int .i64 a2.var, .int .i64 a2.op, .int .i64 a2.n]] .int fun c14 =>
 sel (decide (c14 = 0))
 (Call1 Try.prog f_cordonref_ToldOf [.sl (.list .int) a1, .agg [.int .i64 a2.var, .int .i64 a2.op, .int .i64 a2.n]] .int fun c15 =>
 Call1 Try.prog f_cordonref_PutOf [.sl (.list .int) a1, .agg [.int .i64 a2.var, .int .i64 a2.op, .int .i64 a2.n]] (.list (.list .int)) fun c16 =>
 Call1 Try.prog f_cordonlaw_litBegun [] .bool fun c17 =>
 sel c17
 (Call1 Try.prog f_lit_Check [.agg [.sl .var a0.vars, .sl .con a0.cons, .int .i64 a0.goal, .int .i64 a0.var], .agg [.int .i64 a2.var, .int .i64 a2.op, .int .i64 a2.n]] .int fun l18 =>
 sel (decide (l18 = c10))
 (sel (decide (l2 = c10))
 (sel (decide (c10 = 0))
 (Call1 Try.prog f_cordonref_LitHolds [.agg [.int .i64 a2.var, .int .i64 a2.op, .int .i64 a2.n], .int .i64 a3] .bool fun c19 =>
 sel (l1 == c19)
 (sel (decide (l4 = c12))
 (sel (decide (l3 = (⟨0, 0, 0⟩ : LitD)))
 (sel (decide (l6 = c14))
 (sel (decide (l5 = c15))
 (Call1 Try.prog f_cordonlaw_storeIs [.sl (.list .int) l7, .int .i64 l8, .int .i64 c14, .sl (.list .int) c16] .bool fun c20 =>
 R (.bool c20))
 (R (.bool false)))
 (R (.bool false)))
 (R (.bool false)))
 (R (.bool false)))
 (R (.bool false)))
 (sel (l1 == false)
 (sel (decide (l4 = c12))
 (sel (decide (l3 = (⟨0, 0, 0⟩ : LitD)))
 (sel (decide (l6 = c14))
 (sel (decide (l5 = c15))
 (Call1 Try.prog f_cordonlaw_storeIs [.sl (.list .int) l7, .int .i64 l8, .int .i64 c14, .sl (.list .int) c16] .bool fun c21 =>
 R (.bool c21))
 (R (.bool false)))
 (R (.bool false)))
 (R (.bool false)))
 (R (.bool false)))
 (R (.bool false))))
 (R (.bool false)))
 (R (.bool false)))
 (R (.bool false)))
 (Call1 Try.prog f_cordonlaw_litBegun [] .bool fun c22 =>
 sel c22
 (Call1 Try.prog f_lit_Check [.agg [.sl .var a0.vars, .sl .con a0.cons, .int .i64 a0.goal, .int .i64 a0.var], .agg [.int .i64 a2.var, .int .i64 a2.op, .int .i64 a2.n]] .int fun l23 =>
 sel (decide (l23 = c10))
 (sel (decide (l2 = c10))
 (sel (decide (c10 = 0))
 (Call1 Try.prog f_cordonref_LitHolds [.agg [.int .i64 a2.var, .int .i64 a2.op, .int .i64 a2.n], .int .i64 a3] .bool fun c24 =>
 sel (l1 == c24)
 (sel (decide (l4 = c12))
 (sel (decide (l3 = (⟨0, 0, 0⟩ : LitD)))
 (sel (decide (l6 = c14))
 (sel (decide (l5 = 0))
 (Call1 Try.prog f_cordonlaw_storeIs [.sl (.list .int) l7, .int .i64 l8, .int .i64 c14, .sl (.list .int) ([] : List (List Int))] .bool fun c25 =>
 R (.bool c25))
 (R (.bool false)))
 (R (.bool false)))
 (R (.bool false)))
 (R (.bool false)))
 (R (.bool false)))
 (sel (l1 == false)
 (sel (decide (l4 = c12))
 (sel (decide (l3 = (⟨0, 0, 0⟩ : LitD)))
 (sel (decide (l6 = c14))
 (sel (decide (l5 = 0))
 (Call1 Try.prog f_cordonlaw_storeIs [.sl (.list .int) l7, .int .i64 l8, .int .i64 c14, .sl (.list .int) ([] : List (List Int))] .bool fun c26 =>
 R (.bool c26))
 (R (.bool false)))
 (R (.bool false)))
 (R (.bool false)))
 (R (.bool false)))
 (R (.bool false))))
 (R (.bool false)))
 (R (.bool false)))
 (R (.bool false))))
 (sel (decide (c13 = 0))
 (Call1 Try.prog f_cordonref_ToldOf [.sl (.list .int) a1, .agg [.int .i64 a2.var, .int .i64 a2.op, .int .i64 a2.n]] .int fun c27 =>
 Call1 Try.prog f_cordonref_PutOf [.sl (.list .int) a1, .agg [.int .i64 a2.var, .int .i64 a2.op, .int .i64 a2.n]] (.list (.list .int)) fun c28 =>
 Call1 Try.prog f_cordonlaw_litBegun [] .bool fun c29 =>
 sel c29
 (Call1 Try.prog f_lit_Check [.agg [.sl .var a0.vars, .sl .con a0.cons, .int .i64 a0.goal, .int .i64 a0.var], .agg [.int .i64 a2.var, .int .i64 a2.op, .int .i64 a2.n]] .int fun l30 =>
 sel (decide (l30 = c10))
 (sel (decide (l2 = c10))
 (sel (decide (c10 = 0))
 (Call1 Try.prog f_cordonref_LitHolds [.agg [.int .i64 a2.var, .int .i64 a2.op, .int .i64 a2.n], .int .i64 a3] .bool fun c31 =>
 sel (l1 == c31)
 (sel (decide (l4 = c12))
 (sel (decide (l3 = (⟨0, 0, 0⟩ : LitD)))
 (sel (decide (l6 = c13))
 (sel (decide (l5 = c27))
 (Call1 Try.prog f_cordonlaw_storeIs [.sl (.list .int) l7, .int .i64 l8, .int .i64 c13, .sl (.list .int) c28] .bool fun c32 =>
 R (.bool c32))
 (R (.bool false)))
 (R (.bool false)))
 (R (.bool false)))
 (R (.bool false)))
 (R (.bool false)))
 (sel (l1 == false)
 (sel (decide (l4 = c12))
 (sel (decide (l3 = (⟨0, 0, 0⟩ : LitD)))
 (sel (decide (l6 = c13))
 (sel (decide (l5 = c27))
 (Call1 Try.prog f_cordonlaw_storeIs [.sl (.list .int) l7, .int .i64 l8, .int .i64 c13, .sl (.list .int) c28] .bool fun c33 =>
 R (.bool c33))
 (R (.bool false)))
 (R (.bool false)))
 (R (.bool false)))
 (R (.bool false)))
 (R (.bool false))))
 (R (.bool false)))
 (R (.bool false)))
 (R (.bool false)))
 (Call1 Try.prog f_cordonlaw_litBegun [] .bool fun c34 =>
 sel c34
 (Call1 Try.prog f_lit_Check [.agg [.sl .var a0.vars, .sl .con a0.cons, .int .i64 a0.goal, .int .i64 a0.var], .agg [.int .i64 a2.var, .int .i64 a2.op, .int .i64 a2.n]] .int fun l35 =>
 sel (decide (l35 = c10))
 (sel (decide (l2 = c10))
 (sel (decide (c10 = 0))
 (Call1 Try.prog f_cordonref_LitHolds [.agg [.int .i64 a2.var, .int .i64 a2.op, .int .i64 a2.n], .int .i64 a3] .bool fun c36 =>
 sel (l1 == c36)
 (sel (decide (l4 = c12))
 (sel (decide (l3 = (⟨0, 0, 0⟩ : LitD)))
 (sel (decide (l6 = c13))
 (sel (decide (l5 = 0))
 (Call1 Try.prog f_cordonlaw_storeIs [.sl (.list .int) l7, .int .i64 l8, .int .i64 c13, .sl (.list .int) ([] : List (List Int))] .bool fun c37 =>
 R (.bool c37))
 (R (.bool false)))
 (R (.bool false)))
 (R (.bool false)))
 (R (.bool false)))
 (R (.bool false)))
 (sel (l1 == false)
 (sel (decide (l4 = c12))
 (sel (decide (l3 = (⟨0, 0, 0⟩ : LitD)))
 (sel (decide (l6 = c13))
 (sel (decide (l5 = 0))
 (Call1 Try.prog f_cordonlaw_storeIs [.sl (.list .int) l7, .int .i64 l8, .int .i64 c13, .sl (.list .int) ([] : List (List Int))] .bool fun c38 =>
 R (.bool c38))
 (R (.bool false)))
 (R (.bool false)))
 (R (.bool false)))
 (R (.bool false)))
 (R (.bool false))))
 (R (.bool false)))
 (R (.bool false)))
 (R (.bool false)))))
 (Call1 Try.prog f_cordonlaw_checkStore [.agg [.sl .var a0.vars, .sl .con a0.cons, .int .i64 a0.goal, .int .i64 a0.var], .sl (.list .int) a1] .int fun c39 =>
 sel (decide (c39 = 0))
 (Call1 Try.prog f_cordonref_CheckLit [.agg [.sl .var a0.vars, .sl .con a0.cons, .int .i64 a0.goal, .int .i64 a0.var], .agg [.int .i64 a2.var, .int .i64 a2.op, .int .i64 a2.n]] .int fun c40 =>
 sel (decide (c40 = 0))
 (Call1 Try.prog f_cordonref_ToldOf [.sl (.list .int) a1, .agg [.int .i64 a2.var, .int .i64 a2.op, .int .i64 a2.n]] .int fun c41 =>
 Call1 Try.prog f_cordonref_PutOf [.sl (.list .int) a1, .agg [.int .i64 a2.var, .int .i64 a2.op, .int .i64 a2.n]] (.list (.list .int)) fun c42 =>
 Call1 Try.prog f_cordonlaw_litBegun [] .bool fun c43 =>
 sel c43
 (Call1 Try.prog f_lit_Check [.agg [.sl .var a0.vars, .sl .con a0.cons, .int .i64 a0.goal, .int .i64 a0.var], .agg [.int .i64 a2.var, .int .i64 a2.op, .int .i64 a2.n]] .int fun l44 =>
 sel (decide (l44 = c10))
 (sel (decide (l2 = c10))
 (sel (decide (c10 = 0))
 (Call1 Try.prog f_cordonref_LitHolds [.agg [.int .i64 a2.var, .int .i64 a2.op, .int .i64 a2.n], .int .i64 a3] .bool fun c45 =>
 sel (l1 == c45)
 (sel (decide (l4 = c12))
 (sel (decide (l3 = c11))
 (sel (decide (l6 = c40))
 (sel (decide (l5 = c41))
 (Call1 Try.prog f_cordonlaw_storeIs [.sl (.list .int) l7, .int .i64 l8, .int .i64 c40, .sl (.list .int) c42] .bool fun c46 =>
 R (.bool c46))
 (R (.bool false)))
 (R (.bool false)))
 (R (.bool false)))
 (R (.bool false)))
 (R (.bool false)))
 (sel (l1 == false)
 (sel (decide (l4 = c12))
 (sel (decide (l3 = c11))
 (sel (decide (l6 = c40))
 (sel (decide (l5 = c41))
 (Call1 Try.prog f_cordonlaw_storeIs [.sl (.list .int) l7, .int .i64 l8, .int .i64 c40, .sl (.list .int) c42] .bool fun c47 =>
 R (.bool c47))
 (R (.bool false)))
 (R (.bool false)))
 (R (.bool false)))
 (R (.bool false)))
 (R (.bool false))))
 (R (.bool false)))
 (R (.bool false)))
 (R (.bool false)))
 (Call1 Try.prog f_cordonlaw_litBegun [] .bool fun c48 =>
 sel c48
 (Call1 Try.prog f_lit_Check [.agg [.sl .var a0.vars, .sl .con a0.cons, .int .i64 a0.goal, .int .i64 a0.var], .agg [.int .i64 a2.var, .int .i64 a2.op, .int .i64 a2.n]] .int fun l49 =>
 sel (decide (l49 = c10))
 (sel (decide (l2 = c10))
 (sel (decide (c10 = 0))
 (Call1 Try.prog f_cordonref_LitHolds [.agg [.int .i64 a2.var, .int .i64 a2.op, .int .i64 a2.n], .int .i64 a3] .bool fun c50 =>
 sel (l1 == c50)
 (sel (decide (l4 = c12))
 (sel (decide (l3 = c11))
 (sel (decide (l6 = c40))
 (sel (decide (l5 = 0))
 (Call1 Try.prog f_cordonlaw_storeIs [.sl (.list .int) l7, .int .i64 l8, .int .i64 c40, .sl (.list .int) ([] : List (List Int))] .bool fun c51 =>
 R (.bool c51))
 (R (.bool false)))
 (R (.bool false)))
 (R (.bool false)))
 (R (.bool false)))
 (R (.bool false)))
 (sel (l1 == false)
 (sel (decide (l4 = c12))
 (sel (decide (l3 = c11))
 (sel (decide (l6 = c40))
 (sel (decide (l5 = 0))
 (Call1 Try.prog f_cordonlaw_storeIs [.sl (.list .int) l7, .int .i64 l8, .int .i64 c40, .sl (.list .int) ([] : List (List Int))] .bool fun c52 =>
 R (.bool c52))
 (R (.bool false)))
 (R (.bool false)))
 (R (.bool false)))
 (R (.bool false)))
 (R (.bool false))))
 (R (.bool false)))
 (R (.bool false)))
 (R (.bool false))))
 (sel (decide (c39 = 0))
 (Call1 Try.prog f_cordonref_ToldOf [.sl (.list .int) a1, .agg [.int .i64 a2.var, .int .i64 a2.op, .int .i64 a2.n]] .int fun c53 =>
 Call1 Try.prog f_cordonref_PutOf [.sl (.list .int) a1, .agg [.int .i64 a2.var, .int .i64 a2.op, .int .i64 a2.n]] (.list (.list .int)) fun c54 =>
 Call1 Try.prog f_cordonlaw_litBegun [] .bool fun c55 =>
 sel c55
 (Call1 Try.prog f_lit_Check [.agg [.sl .var a0.vars, .sl .con a0.cons, .int .i64 a0.goal, .int .i64 a0.var], .agg [.int .i64 a2.var, .int .i64 a2.op, .int .i64 a2.n]] .int fun l56 =>
 sel (decide (l56 = c10))
 (sel (decide (l2 = c10))
 (sel (decide (c10 = 0))
 (Call1 Try.prog f_cordonref_LitHolds [.agg [.int .i64 a2.var, .int .i64 a2.op, .int .i64 a2.n], .int .i64 a3] .bool fun c57 =>
 sel (l1 == c57)
 (sel (decide (l4 = c12))
 (sel (decide (l3 = c11))
 (sel (decide (l6 = c39))
 (sel (decide (l5 = c53))
 (Call1 Try.prog f_cordonlaw_storeIs [.sl (.list .int) l7, .int .i64 l8, .int .i64 c39, .sl (.list .int) c54] .bool fun c58 =>
 R (.bool c58))
 (R (.bool false)))
 (R (.bool false)))
 (R (.bool false)))
 (R (.bool false)))
 (R (.bool false)))
 (sel (l1 == false)
 (sel (decide (l4 = c12))
 (sel (decide (l3 = c11))
 (sel (decide (l6 = c39))
 (sel (decide (l5 = c53))
 (Call1 Try.prog f_cordonlaw_storeIs [.sl (.list .int) l7, .int .i64 l8, .int .i64 c39, .sl (.list .int) c54] .bool fun c59 =>
 R (.bool c59))
 (R (.bool false)))
 (R (.bool false)))
 (R (.bool false)))
 (R (.bool false)))
 (R (.bool false))))
 (R (.bool false)))
 (R (.bool false)))
 (R (.bool false)))
 (Call1 Try.prog f_cordonlaw_litBegun [] .bool fun c60 =>
 sel c60
 (Call1 Try.prog f_lit_Check [.agg [.sl .var a0.vars, .sl .con a0.cons, .int .i64 a0.goal, .int .i64 a0.var], .agg [.int .i64 a2.var, .int .i64 a2.op, .int .i64 a2.n]] .int fun l61 =>
 sel (decide (l61 = c10))
 (sel (decide (l2 = c10))
 (sel (decide (c10 = 0))
 (Call1 Try.prog f_cordonref_LitHolds [.agg [.int .i64 a2.var, .int .i64 a2.op, .int .i64 a2.n], .int .i64 a3] .bool fun c62 =>
 sel (l1 == c62)
 (sel (decide (l4 = c12))
 (sel (decide (l3 = c11))
 (sel (decide (l6 = c39))
 (sel (decide (l5 = 0))
 (Call1 Try.prog f_cordonlaw_storeIs [.sl (.list .int) l7, .int .i64 l8, .int .i64 c39, .sl (.list .int) ([] : List (List Int))] .bool fun c63 =>
 R (.bool c63))
 (R (.bool false)))
 (R (.bool false)))
 (R (.bool false)))
 (R (.bool false)))
 (R (.bool false)))
 (sel (l1 == false)
 (sel (decide (l4 = c12))
 (sel (decide (l3 = c11))
 (sel (decide (l6 = c39))
 (sel (decide (l5 = 0))
 (Call1 Try.prog f_cordonlaw_storeIs [.sl (.list .int) l7, .int .i64 l8, .int .i64 c39, .sl (.list .int) ([] : List (List Int))] .bool fun c64 =>
 R (.bool c64))
 (R (.bool false)))
 (R (.bool false)))
 (R (.bool false)))
 (R (.bool false)))
 (R (.bool false))))
 (R (.bool false)))
 (R (.bool false)))
 (R (.bool false))))))
 (sel (!decide (c10 = 0))
 (Call1 Try.prog f_cordonlaw_checkStore [.agg [.sl .var a0.vars, .sl .con a0.cons, .int .i64 a0.goal, .int .i64 a0.var], .sl (.list .int) a1] .int fun c65 =>
 sel (decide (c65 = 0))
 (Call1 Try.prog f_cordonref_CheckLit [.agg [.sl .var a0.vars, .sl .con a0.cons, .int .i64 a0.goal, .int .i64 a0.var], .agg [.int .i64 a2.var, .int .i64 a2.op, .int .i64 a2.n]] .int fun c66 =>
 sel (decide (c66 = 0))
 (Call1 Try.prog f_cordonref_ToldOf [.sl (.list .int) a1, .agg [.int .i64 a2.var, .int .i64 a2.op, .int .i64 a2.n]] .int fun c67 =>
 Call1 Try.prog f_cordonref_PutOf [.sl (.list .int) a1, .agg [.int .i64 a2.var, .int .i64 a2.op, .int .i64 a2.n]] (.list (.list .int)) fun c68 =>
 Call1 Try.prog f_cordonlaw_litBegun [] .bool fun c69 =>
 sel c69
 (Call1 Try.prog f_lit_Check [.agg [.sl .var a0.vars, .sl .con a0.cons, .int .i64 a0.goal, .int .i64 a0.var], .agg [.int .i64 a2.var, .int .i64 a2.op, .int .i64 a2.n]] .int fun l70 =>
 sel (decide (l70 = c10))
 (sel (decide (l2 = c10))
 (sel (decide (c10 = 0))
 (Call1 Try.prog f_cordonref_LitHolds [.agg [.int .i64 a2.var, .int .i64 a2.op, .int .i64 a2.n], .int .i64 a3] .bool fun c71 =>
 sel (l1 == c71)
 (sel (decide (l4 = c10))
 (sel (decide (l3 = (⟨0, 0, 0⟩ : LitD)))
 (sel (decide (l6 = c66))
 (sel (decide (l5 = c67))
 (Call1 Try.prog f_cordonlaw_storeIs [.sl (.list .int) l7, .int .i64 l8, .int .i64 c66, .sl (.list .int) c68] .bool fun c72 =>
 R (.bool c72))
 (R (.bool false)))
 (R (.bool false)))
 (R (.bool false)))
 (R (.bool false)))
 (R (.bool false)))
 (sel (l1 == false)
 (sel (decide (l4 = c10))
 (sel (decide (l3 = (⟨0, 0, 0⟩ : LitD)))
 (sel (decide (l6 = c66))
 (sel (decide (l5 = c67))
 (Call1 Try.prog f_cordonlaw_storeIs [.sl (.list .int) l7, .int .i64 l8, .int .i64 c66, .sl (.list .int) c68] .bool fun c73 =>
 R (.bool c73))
 (R (.bool false)))
 (R (.bool false)))
 (R (.bool false)))
 (R (.bool false)))
 (R (.bool false))))
 (R (.bool false)))
 (R (.bool false)))
 (R (.bool false)))
 (Call1 Try.prog f_cordonlaw_litBegun [] .bool fun c74 =>
 sel c74
 (Call1 Try.prog f_lit_Check [.agg [.sl .var a0.vars, .sl .con a0.cons, .int .i64 a0.goal, .int .i64 a0.var], .agg [.int .i64 a2.var, .int .i64 a2.op, .int .i64 a2.n]] .int fun l75 =>
 sel (decide (l75 = c10))
 (sel (decide (l2 = c10))
 (sel (decide (c10 = 0))
 (Call1 Try.prog f_cordonref_LitHolds [.agg [.int .i64 a2.var, .int .i64 a2.op, .int .i64 a2.n], .int .i64 a3] .bool fun c76 =>
 sel (l1 == c76)
 (sel (decide (l4 = c10))
 (sel (decide (l3 = (⟨0, 0, 0⟩ : LitD)))
 (sel (decide (l6 = c66))
 (sel (decide (l5 = 0))
 (Call1 Try.prog f_cordonlaw_storeIs [.sl (.list .int) l7, .int .i64 l8, .int .i64 c66, .sl (.list .int) ([] : List (List Int))] .bool fun c77 =>
 R (.bool c77))
 (R (.bool false)))
 (R (.bool false)))
 (R (.bool false)))
 (R (.bool false)))
 (R (.bool false)))
 (sel (l1 == false)
 (sel (decide (l4 = c10))
 (sel (decide (l3 = (⟨0, 0, 0⟩ : LitD)))
 (sel (decide (l6 = c66))
 (sel (decide (l5 = 0))
 (Call1 Try.prog f_cordonlaw_storeIs [.sl (.list .int) l7, .int .i64 l8, .int .i64 c66, .sl (.list .int) ([] : List (List Int))] .bool fun c78 =>
 R (.bool c78))
 (R (.bool false)))
 (R (.bool false)))
 (R (.bool false)))
 (R (.bool false)))
 (R (.bool false))))
 (R (.bool false)))
 (R (.bool false)))
 (R (.bool false))))
 (sel (decide (c65 = 0))
 (Call1 Try.prog f_cordonref_ToldOf [.sl (.list .int) a1, .agg [.int .i64 a2.var, .int .i64 a2.op, .int .i64 a2.n]] .int fun c79 =>
 Call1 Try.prog f_cordonref_PutOf [.sl (.list .int) a1, .agg [.int .i64 a2.var, .int .i64 a2.op, .int .i64 a2.n]] (.list (.list .int)) fun c80 =>
 Call1 Try.prog f_cordonlaw_litBegun [] .bool fun c81 =>
 sel c81
 (Call1 Try.prog f_lit_Check [.agg [.sl .var a0.vars, .sl .con a0.cons, .int .i64 a0.goal, .int .i64 a0.var], .agg [.int .i64 a2.var, .int .i64 a2.op, .int .i64 a2.n]] .int fun l82 =>
 sel (decide (l82 = c10))
 (sel (decide (l2 = c10))
 (sel (decide (c10 = 0))
 (Call1 Try.prog f_cordonref_LitHolds [.agg [.int .i64 a2.var, .int .i64 a2.op, .int .i64 a2.n], .int .i64 a3] .bool fun c83 =>
 sel (l1 == c83)
 (sel (decide (l4 = c10))
 (sel (decide (l3 = (⟨0, 0, 0⟩ : LitD)))
 (sel (decide (l6 = c65))
 (sel (decide (l5 = c79))
 (Call1 Try.prog f_cordonlaw_storeIs [.sl (.list .int) l7, .int .i64 l8, .int .i64 c65, .sl (.list .int) c80] .bool fun c84 =>
 R (.bool c84))
 (R (.bool false)))
 (R (.bool false)))
 (R (.bool false)))
 (R (.bool false)))
 (R (.bool false)))
 (sel (l1 == false)
 (sel (decide (l4 = c10))
 (sel (decide (l3 = (⟨0, 0, 0⟩ : LitD)))
 (sel (decide (l6 = c65))
 (sel (decide (l5 = c79))
 (Call1 Try.prog f_cordonlaw_storeIs [.sl (.list .int) l7, .int .i64 l8, .int .i64 c65, .sl (.list .int) c80] .bool fun c85 =>
 R (.bool c85))
 (R (.bool false)))
 (R (.bool false)))
 (R (.bool false)))
 (R (.bool false)))
 (R (.bool false))))
 (R (.bool false)))
 (R (.bool false)))
 (R (.bool false)))
 (Call1 Try.prog f_cordonlaw_litBegun [] .bool fun c86 =>
 sel c86
 (Call1 Try.prog f_lit_Check [.agg [.sl .var a0.vars, .sl .con a0.cons, .int .i64 a0.goal, .int .i64 a0.var], .agg [.int .i64 a2.var, .int .i64 a2.op, .int .i64 a2.n]] .int fun l87 =>
 sel (decide (l87 = c10))
 (sel (decide (l2 = c10))
 (sel (decide (c10 = 0))
 (Call1 Try.prog f_cordonref_LitHolds [.agg [.int .i64 a2.var, .int .i64 a2.op, .int .i64 a2.n], .int .i64 a3] .bool fun c88 =>
 sel (l1 == c88)
 (sel (decide (l4 = c10))
 (sel (decide (l3 = (⟨0, 0, 0⟩ : LitD)))
 (sel (decide (l6 = c65))
 (sel (decide (l5 = 0))
 (Call1 Try.prog f_cordonlaw_storeIs [.sl (.list .int) l7, .int .i64 l8, .int .i64 c65, .sl (.list .int) ([] : List (List Int))] .bool fun c89 =>
 R (.bool c89))
 (R (.bool false)))
 (R (.bool false)))
 (R (.bool false)))
 (R (.bool false)))
 (R (.bool false)))
 (sel (l1 == false)
 (sel (decide (l4 = c10))
 (sel (decide (l3 = (⟨0, 0, 0⟩ : LitD)))
 (sel (decide (l6 = c65))
 (sel (decide (l5 = 0))
 (Call1 Try.prog f_cordonlaw_storeIs [.sl (.list .int) l7, .int .i64 l8, .int .i64 c65, .sl (.list .int) ([] : List (List Int))] .bool fun c90 =>
 R (.bool c90))
 (R (.bool false)))
 (R (.bool false)))
 (R (.bool false)))
 (R (.bool false)))
 (R (.bool false))))
 (R (.bool false)))
 (R (.bool false)))
 (R (.bool false)))))
 (Call1 Try.prog f_cordonlaw_checkStore [.agg [.sl .var a0.vars, .sl .con a0.cons, .int .i64 a0.goal, .int .i64 a0.var], .sl (.list .int) a1] .int fun c91 =>
 sel (decide (c91 = 0))
 (Call1 Try.prog f_cordonref_CheckLit [.agg [.sl .var a0.vars, .sl .con a0.cons, .int .i64 a0.goal, .int .i64 a0.var], .agg [.int .i64 a2.var, .int .i64 a2.op, .int .i64 a2.n]] .int fun c92 =>
 sel (decide (c92 = 0))
 (Call1 Try.prog f_cordonref_ToldOf [.sl (.list .int) a1, .agg [.int .i64 a2.var, .int .i64 a2.op, .int .i64 a2.n]] .int fun c93 =>
 Call1 Try.prog f_cordonref_PutOf [.sl (.list .int) a1, .agg [.int .i64 a2.var, .int .i64 a2.op, .int .i64 a2.n]] (.list (.list .int)) fun c94 =>
 Call1 Try.prog f_cordonlaw_litBegun [] .bool fun c95 =>
 sel c95
 (Call1 Try.prog f_lit_Check [.agg [.sl .var a0.vars, .sl .con a0.cons, .int .i64 a0.goal, .int .i64 a0.var], .agg [.int .i64 a2.var, .int .i64 a2.op, .int .i64 a2.n]] .int fun l96 =>
 sel (decide (l96 = c10))
 (sel (decide (l2 = c10))
 (sel (decide (c10 = 0))
 (Call1 Try.prog f_cordonref_LitHolds [.agg [.int .i64 a2.var, .int .i64 a2.op, .int .i64 a2.n], .int .i64 a3] .bool fun c97 =>
 sel (l1 == c97)
 (sel (decide (l4 = c10))
 (sel (decide (l3 = (⟨0, 0, 0⟩ : LitD)))
 (sel (decide (l6 = c92))
 (sel (decide (l5 = c93))
 (Call1 Try.prog f_cordonlaw_storeIs [.sl (.list .int) l7, .int .i64 l8, .int .i64 c92, .sl (.list .int) c94] .bool fun c98 =>
 R (.bool c98))
 (R (.bool false)))
 (R (.bool false)))
 (R (.bool false)))
 (R (.bool false)))
 (R (.bool false)))
 (sel (l1 == false)
 (sel (decide (l4 = c10))
 (sel (decide (l3 = (⟨0, 0, 0⟩ : LitD)))
 (sel (decide (l6 = c92))
 (sel (decide (l5 = c93))
 (Call1 Try.prog f_cordonlaw_storeIs [.sl (.list .int) l7, .int .i64 l8, .int .i64 c92, .sl (.list .int) c94] .bool fun c99 =>
 R (.bool c99))
 (R (.bool false)))
 (R (.bool false)))
 (R (.bool false)))
 (R (.bool false)))
 (R (.bool false))))
 (R (.bool false)))
 (R (.bool false)))
 (R (.bool false)))
 (Call1 Try.prog f_cordonlaw_litBegun [] .bool fun c100 =>
 sel c100
 (Call1 Try.prog f_lit_Check [.agg [.sl .var a0.vars, .sl .con a0.cons, .int .i64 a0.goal, .int .i64 a0.var], .agg [.int .i64 a2.var, .int .i64 a2.op, .int .i64 a2.n]] .int fun l101 =>
 sel (decide (l101 = c10))
 (sel (decide (l2 = c10))
 (sel (decide (c10 = 0))
 (Call1 Try.prog f_cordonref_LitHolds [.agg [.int .i64 a2.var, .int .i64 a2.op, .int .i64 a2.n], .int .i64 a3] .bool fun c102 =>
 sel (l1 == c102)
 (sel (decide (l4 = c10))
 (sel (decide (l3 = (⟨0, 0, 0⟩ : LitD)))
 (sel (decide (l6 = c92))
 (sel (decide (l5 = 0))
 (Call1 Try.prog f_cordonlaw_storeIs [.sl (.list .int) l7, .int .i64 l8, .int .i64 c92, .sl (.list .int) ([] : List (List Int))] .bool fun c103 =>
 R (.bool c103))
 (R (.bool false)))
 (R (.bool false)))
 (R (.bool false)))
 (R (.bool false)))
 (R (.bool false)))
 (sel (l1 == false)
 (sel (decide (l4 = c10))
 (sel (decide (l3 = (⟨0, 0, 0⟩ : LitD)))
 (sel (decide (l6 = c92))
 (sel (decide (l5 = 0))
 (Call1 Try.prog f_cordonlaw_storeIs [.sl (.list .int) l7, .int .i64 l8, .int .i64 c92, .sl (.list .int) ([] : List (List Int))] .bool fun c104 =>
 R (.bool c104))
 (R (.bool false)))
 (R (.bool false)))
 (R (.bool false)))
 (R (.bool false)))
 (R (.bool false))))
 (R (.bool false)))
 (R (.bool false)))
 (R (.bool false))))
 (sel (decide (c91 = 0))
 (Call1 Try.prog f_cordonref_ToldOf [.sl (.list .int) a1, .agg [.int .i64 a2.var, .int .i64 a2.op, .int .i64 a2.n]] .int fun c105 =>
 Call1 Try.prog f_cordonref_PutOf [.sl (.list .int) a1, .agg [.int .i64 a2.var, .int .i64 a2.op, .int .i64 a2.n]] (.list (.list .int)) fun c106 =>
 Call1 Try.prog f_cordonlaw_litBegun [] .bool fun c107 =>
 sel c107
 (Call1 Try.prog f_lit_Check [.agg [.sl .var a0.vars, .sl .con a0.cons, .int .i64 a0.goal, .int .i64 a0.var], .agg [.int .i64 a2.var, .int .i64 a2.op, .int .i64 a2.n]] .int fun l108 =>
 sel (decide (l108 = c10))
 (sel (decide (l2 = c10))
 (sel (decide (c10 = 0))
 (Call1 Try.prog f_cordonref_LitHolds [.agg [.int .i64 a2.var, .int .i64 a2.op, .int .i64 a2.n], .int .i64 a3] .bool fun c109 =>
 sel (l1 == c109)
 (sel (decide (l4 = c10))
 (sel (decide (l3 = (⟨0, 0, 0⟩ : LitD)))
 (sel (decide (l6 = c91))
 (sel (decide (l5 = c105))
 (Call1 Try.prog f_cordonlaw_storeIs [.sl (.list .int) l7, .int .i64 l8, .int .i64 c91, .sl (.list .int) c106] .bool fun c110 =>
 R (.bool c110))
 (R (.bool false)))
 (R (.bool false)))
 (R (.bool false)))
 (R (.bool false)))
 (R (.bool false)))
 (sel (l1 == false)
 (sel (decide (l4 = c10))
 (sel (decide (l3 = (⟨0, 0, 0⟩ : LitD)))
 (sel (decide (l6 = c91))
 (sel (decide (l5 = c105))
 (Call1 Try.prog f_cordonlaw_storeIs [.sl (.list .int) l7, .int .i64 l8, .int .i64 c91, .sl (.list .int) c106] .bool fun c111 =>
 R (.bool c111))
 (R (.bool false)))
 (R (.bool false)))
 (R (.bool false)))
 (R (.bool false)))
 (R (.bool false))))
 (R (.bool false)))
 (R (.bool false)))
 (R (.bool false)))
 (Call1 Try.prog f_cordonlaw_litBegun [] .bool fun c112 =>
 sel c112
 (Call1 Try.prog f_lit_Check [.agg [.sl .var a0.vars, .sl .con a0.cons, .int .i64 a0.goal, .int .i64 a0.var], .agg [.int .i64 a2.var, .int .i64 a2.op, .int .i64 a2.n]] .int fun l113 =>
 sel (decide (l113 = c10))
 (sel (decide (l2 = c10))
 (sel (decide (c10 = 0))
 (Call1 Try.prog f_cordonref_LitHolds [.agg [.int .i64 a2.var, .int .i64 a2.op, .int .i64 a2.n], .int .i64 a3] .bool fun c114 =>
 sel (l1 == c114)
 (sel (decide (l4 = c10))
 (sel (decide (l3 = (⟨0, 0, 0⟩ : LitD)))
 (sel (decide (l6 = c91))
 (sel (decide (l5 = 0))
 (Call1 Try.prog f_cordonlaw_storeIs [.sl (.list .int) l7, .int .i64 l8, .int .i64 c91, .sl (.list .int) ([] : List (List Int))] .bool fun c115 =>
 R (.bool c115))
 (R (.bool false)))
 (R (.bool false)))
 (R (.bool false)))
 (R (.bool false)))
 (R (.bool false)))
 (sel (l1 == false)
 (sel (decide (l4 = c10))
 (sel (decide (l3 = (⟨0, 0, 0⟩ : LitD)))
 (sel (decide (l6 = c91))
 (sel (decide (l5 = 0))
 (Call1 Try.prog f_cordonlaw_storeIs [.sl (.list .int) l7, .int .i64 l8, .int .i64 c91, .sl (.list .int) ([] : List (List Int))] .bool fun c116 =>
 R (.bool c116))
 (R (.bool false)))
 (R (.bool false)))
 (R (.bool false)))
 (R (.bool false)))
 (R (.bool false))))
 (R (.bool false)))
 (R (.bool false)))
 (R (.bool false)))))))
 (sel (decide (c9 = 0))
 (Call1 Try.prog f_cordonref_OppositeOf [.agg [.int .i64 a2.var, .int .i64 a2.op, .int .i64 a2.n]] .lit fun c117 =>
 Call1 Try.prog f_cordonref_CheckLit [.agg [.sl .var a0.vars, .sl .con a0.cons, .int .i64 a0.goal, .int .i64 a0.var], .agg [.int .i64 c117.var, .int .i64 c117.op, .int .i64 c117.n]] .int fun c118 =>
 sel (!decide (c118 = 0))
 (Call1 Try.prog f_cordonlaw_checkStore [.agg [.sl .var a0.vars, .sl .con a0.cons, .int .i64 a0.goal, .int .i64 a0.var], .sl (.list .int) a1] .int fun c119 =>
 sel (decide (c119 = 0))
 (Call1 Try.prog f_cordonref_CheckLit [.agg [.sl .var a0.vars, .sl .con a0.cons, .int .i64 a0.goal, .int .i64 a0.var], .agg [.int .i64 a2.var, .int .i64 a2.op, .int .i64 a2.n]] .int fun c120 =>
 sel (decide (c120 = 0))
 (Call1 Try.prog f_cordonref_ToldOf [.sl (.list .int) a1, .agg [.int .i64 a2.var, .int .i64 a2.op, .int .i64 a2.n]] .int fun c121 =>
 Call1 Try.prog f_cordonref_PutOf [.sl (.list .int) a1, .agg [.int .i64 a2.var, .int .i64 a2.op, .int .i64 a2.n]] (.list (.list .int)) fun c122 =>
 Call1 Try.prog f_cordonlaw_litBegun [] .bool fun c123 =>
 sel c123
 (Call1 Try.prog f_lit_Check [.agg [.sl .var a0.vars, .sl .con a0.cons, .int .i64 a0.goal, .int .i64 a0.var], .agg [.int .i64 a2.var, .int .i64 a2.op, .int .i64 a2.n]] .int fun l124 =>
 sel (decide (l124 = c9))
 (sel (decide (l2 = c9))
 (sel (decide (c9 = 0))
 (Call1 Try.prog f_cordonref_LitHolds [.agg [.int .i64 a2.var, .int .i64 a2.op, .int .i64 a2.n], .int .i64 a3] .bool fun c125 =>
 sel (l1 == c125)
 (sel (decide (l4 = c118))
 (sel (decide (l3 = (⟨0, 0, 0⟩ : LitD)))
 (sel (decide (l6 = c120))
 (sel (decide (l5 = c121))
 (Call1 Try.prog f_cordonlaw_storeIs [.sl (.list .int) l7, .int .i64 l8, .int .i64 c120, .sl (.list .int) c122] .bool fun c126 =>
 R (.bool c126))
 (R (.bool false)))
 (R (.bool false)))
 (R (.bool false)))
 (R (.bool false)))
 (R (.bool false)))
 (sel (l1 == false)
 (sel (decide (l4 = c118))
 (sel (decide (l3 = (⟨0, 0, 0⟩ : LitD)))
 (sel (decide (l6 = c120))
 (sel (decide (l5 = c121))
 (Call1 Try.prog f_cordonlaw_storeIs [.sl (.list .int) l7, .int .i64 l8, .int .i64 c120, .sl (.list .int) c122] .bool fun c127 =>
 R (.bool c127))
 (R (.bool false)))
 (R (.bool false)))
 (R (.bool false)))
 (R (.bool false)))
 (R (.bool false))))
 (R (.bool false)))
 (R (.bool false)))
 (R (.bool false)))
 (Call1 Try.prog f_cordonlaw_litBegun [] .bool fun c128 =>
 sel c128
 (Call1 Try.prog f_lit_Check [.agg [.sl .var a0.vars, .sl .con a0.cons, .int .i64 a0.goal, .int .i64 a0.var], .agg [.int .i64 a2.var, .int .i64 a2.op, .int .i64 a2.n]] .int fun l129 =>
 sel (decide (l129 = c9))
 (sel (decide (l2 = c9))
 (sel (decide (c9 = 0))
 (Call1 Try.prog f_cordonref_LitHolds [.agg [.int .i64 a2.var, .int .i64 a2.op, .int .i64 a2.n], .int .i64 a3] .bool fun c130 =>
 sel (l1 == c130)
 (sel (decide (l4 = c118))
 (sel (decide (l3 = (⟨0, 0, 0⟩ : LitD)))
 (sel (decide (l6 = c120))
 (sel (decide (l5 = 0))
 (Call1 Try.prog f_cordonlaw_storeIs [.sl (.list .int) l7, .int .i64 l8, .int .i64 c120, .sl (.list .int) ([] : List (List Int))] .bool fun c131 =>
 R (.bool c131))
 (R (.bool false)))
 (R (.bool false)))
 (R (.bool false)))
 (R (.bool false)))
 (R (.bool false)))
 (sel (l1 == false)
 (sel (decide (l4 = c118))
 (sel (decide (l3 = (⟨0, 0, 0⟩ : LitD)))
 (sel (decide (l6 = c120))
 (sel (decide (l5 = 0))
 (Call1 Try.prog f_cordonlaw_storeIs [.sl (.list .int) l7, .int .i64 l8, .int .i64 c120, .sl (.list .int) ([] : List (List Int))] .bool fun c132 =>
 R (.bool c132))
 (R (.bool false)))
 (R (.bool false)))
 (R (.bool false)))
 (R (.bool false)))
 (R (.bool false))))
 (R (.bool false)))
 (R (.bool false)))
 (R (.bool false))))
 (sel (decide (c119 = 0))
 (Call1 Try.prog f_cordonref_ToldOf [.sl (.list .int) a1, .agg [.int .i64 a2.var, .int .i64 a2.op, .int .i64 a2.n]] .int fun c133 =>
 Call1 Try.prog f_cordonref_PutOf [.sl (.list .int) a1, .agg [.int .i64 a2.var, .int .i64 a2.op, .int .i64 a2.n]] (.list (.list .int)) fun c134 =>
 Call1 Try.prog f_cordonlaw_litBegun [] .bool fun c135 =>
 sel c135
 (Call1 Try.prog f_lit_Check [.agg [.sl .var a0.vars, .sl .con a0.cons, .int .i64 a0.goal, .int .i64 a0.var], .agg [.int .i64 a2.var, .int .i64 a2.op, .int .i64 a2.n]] .int fun l136 =>
 sel (decide (l136 = c9))
 (sel (decide (l2 = c9))
 (sel (decide (c9 = 0))
 (Call1 Try.prog f_cordonref_LitHolds [.agg [.int .i64 a2.var, .int .i64 a2.op, .int .i64 a2.n], .int .i64 a3] .bool fun c137 =>
 sel (l1 == c137)
 (sel (decide (l4 = c118))
 (sel (decide (l3 = (⟨0, 0, 0⟩ : LitD)))
 (sel (decide (l6 = c119))
 (sel (decide (l5 = c133))
 (Call1 Try.prog f_cordonlaw_storeIs [.sl (.list .int) l7, .int .i64 l8, .int .i64 c119, .sl (.list .int) c134] .bool fun c138 =>
 R (.bool c138))
 (R (.bool false)))
 (R (.bool false)))
 (R (.bool false)))
 (R (.bool false)))
 (R (.bool false)))
 (sel (l1 == false)
 (sel (decide (l4 = c118))
 (sel (decide (l3 = (⟨0, 0, 0⟩ : LitD)))
 (sel (decide (l6 = c119))
 (sel (decide (l5 = c133))
 (Call1 Try.prog f_cordonlaw_storeIs [.sl (.list .int) l7, .int .i64 l8, .int .i64 c119, .sl (.list .int) c134] .bool fun c139 =>
 R (.bool c139))
 (R (.bool false)))
 (R (.bool false)))
 (R (.bool false)))
 (R (.bool false)))
 (R (.bool false))))
 (R (.bool false)))
 (R (.bool false)))
 (R (.bool false)))
 (Call1 Try.prog f_cordonlaw_litBegun [] .bool fun c140 =>
 sel c140
 (Call1 Try.prog f_lit_Check [.agg [.sl .var a0.vars, .sl .con a0.cons, .int .i64 a0.goal, .int .i64 a0.var], .agg [.int .i64 a2.var, .int .i64 a2.op, .int .i64 a2.n]] .int fun l141 =>
 sel (decide (l141 = c9))
 (sel (decide (l2 = c9))
 (sel (decide (c9 = 0))
 (Call1 Try.prog f_cordonref_LitHolds [.agg [.int .i64 a2.var, .int .i64 a2.op, .int .i64 a2.n], .int .i64 a3] .bool fun c142 =>
 sel (l1 == c142)
 (sel (decide (l4 = c118))
 (sel (decide (l3 = (⟨0, 0, 0⟩ : LitD)))
 (sel (decide (l6 = c119))
 (sel (decide (l5 = 0))
 (Call1 Try.prog f_cordonlaw_storeIs [.sl (.list .int) l7, .int .i64 l8, .int .i64 c119, .sl (.list .int) ([] : List (List Int))] .bool fun c143 =>
 R (.bool c143))
 (R (.bool false)))
 (R (.bool false)))
 (R (.bool false)))
 (R (.bool false)))
 (R (.bool false)))
 (sel (l1 == false)
 (sel (decide (l4 = c118))
 (sel (decide (l3 = (⟨0, 0, 0⟩ : LitD)))
 (sel (decide (l6 = c119))
 (sel (decide (l5 = 0))
 (Call1 Try.prog f_cordonlaw_storeIs [.sl (.list .int) l7, .int .i64 l8, .int .i64 c119, .sl (.list .int) ([] : List (List Int))] .bool fun c144 =>
 R (.bool c144))
 (R (.bool false)))
 (R (.bool false)))
 (R (.bool false)))
 (R (.bool false)))
 (R (.bool false))))
 (R (.bool false)))
 (R (.bool false)))
 (R (.bool false)))))
 (Call1 Try.prog f_cordonlaw_checkStore [.agg [.sl .var a0.vars, .sl .con a0.cons, .int .i64 a0.goal, .int .i64 a0.var], .sl (.list .int) a1] .int fun c145 =>
 sel (decide (c145 = 0))
 (Call1 Try.prog f_cordonref_CheckLit [.agg [.sl .var a0.vars, .sl .con a0.cons, .int .i64 a0.goal, .int .i64 a0.var], .agg [.int .i64 a2.var, .int .i64 a2.op, .int .i64 a2.n]] .int fun c146 =>
 sel (decide (c146 = 0))
 (Call1 Try.prog f_cordonref_ToldOf [.sl (.list .int) a1, .agg [.int .i64 a2.var, .int .i64 a2.op, .int .i64 a2.n]] .int fun c147 =>
 Call1 Try.prog f_cordonref_PutOf [.sl (.list .int) a1, .agg [.int .i64 a2.var, .int .i64 a2.op, .int .i64 a2.n]] (.list (.list .int)) fun c148 =>
 Call1 Try.prog f_cordonlaw_litBegun [] .bool fun c149 =>
 sel c149
 (Call1 Try.prog f_lit_Check [.agg [.sl .var a0.vars, .sl .con a0.cons, .int .i64 a0.goal, .int .i64 a0.var], .agg [.int .i64 a2.var, .int .i64 a2.op, .int .i64 a2.n]] .int fun l150 =>
 sel (decide (l150 = c9))
 (sel (decide (l2 = c9))
 (sel (decide (c9 = 0))
 (Call1 Try.prog f_cordonref_LitHolds [.agg [.int .i64 a2.var, .int .i64 a2.op, .int .i64 a2.n], .int .i64 a3] .bool fun c151 =>
 sel (l1 == c151)
 (sel (decide (l4 = c118))
 (sel (decide (l3 = c117))
 (sel (decide (l6 = c146))
 (sel (decide (l5 = c147))
 (Call1 Try.prog f_cordonlaw_storeIs [.sl (.list .int) l7, .int .i64 l8, .int .i64 c146, .sl (.list .int) c148] .bool fun c152 =>
 R (.bool c152))
 (R (.bool false)))
 (R (.bool false)))
 (R (.bool false)))
 (R (.bool false)))
 (R (.bool false)))
 (sel (l1 == false)
 (sel (decide (l4 = c118))
 (sel (decide (l3 = c117))
 (sel (decide (l6 = c146))
 (sel (decide (l5 = c147))
 (Call1 Try.prog f_cordonlaw_storeIs [.sl (.list .int) l7, .int .i64 l8, .int .i64 c146, .sl (.list .int) c148] .bool fun c153 =>
 R (.bool c153))
 (R (.bool false)))
 (R (.bool false)))
 (R (.bool false)))
 (R (.bool false)))
 (R (.bool false))))
 (R (.bool false)))
 (R (.bool false)))
 (R (.bool false)))
 (Call1 Try.prog f_cordonlaw_litBegun [] .bool fun c154 =>
 sel c154
 (Call1 Try.prog f_lit_Check [.agg [.sl .var a0.vars, .sl .con a0.cons, .int .i64 a0.goal, .int .i64 a0.var], .agg [.int .i64 a2.var, .int .i64 a2.op, .int .i64 a2.n]] .int fun l155 =>
 sel (decide (l155 = c9))
 (sel (decide (l2 = c9))
 (sel (decide (c9 = 0))
 (Call1 Try.prog f_cordonref_LitHolds [.agg [.int .i64 a2.var, .int .i64 a2.op, .int .i64 a2.n], .int .i64 a3] .bool fun c156 =>
 sel (l1 == c156)
 (sel (decide (l4 = c118))
 (sel (decide (l3 = c117))
 (sel (decide (l6 = c146))
 (sel (decide (l5 = 0))
 (Call1 Try.prog f_cordonlaw_storeIs [.sl (.list .int) l7, .int .i64 l8, .int .i64 c146, .sl (.list .int) ([] : List (List Int))] .bool fun c157 =>
 R (.bool c157))
 (R (.bool false)))
 (R (.bool false)))
 (R (.bool false)))
 (R (.bool false)))
 (R (.bool false)))
 (sel (l1 == false)
 (sel (decide (l4 = c118))
 (sel (decide (l3 = c117))
 (sel (decide (l6 = c146))
 (sel (decide (l5 = 0))
 (Call1 Try.prog f_cordonlaw_storeIs [.sl (.list .int) l7, .int .i64 l8, .int .i64 c146, .sl (.list .int) ([] : List (List Int))] .bool fun c158 =>
 R (.bool c158))
 (R (.bool false)))
 (R (.bool false)))
 (R (.bool false)))
 (R (.bool false)))
 (R (.bool false))))
 (R (.bool false)))
 (R (.bool false)))
 (R (.bool false))))
 (sel (decide (c145 = 0))
 (Call1 Try.prog f_cordonref_ToldOf [.sl (.list .int) a1, .agg [.int .i64 a2.var, .int .i64 a2.op, .int .i64 a2.n]] .int fun c159 =>
 Call1 Try.prog f_cordonref_PutOf [.sl (.list .int) a1, .agg [.int .i64 a2.var, .int .i64 a2.op, .int .i64 a2.n]] (.list (.list .int)) fun c160 =>
 Call1 Try.prog f_cordonlaw_litBegun [] .bool fun c161 =>
 sel c161
 (Call1 Try.prog f_lit_Check [.agg [.sl .var a0.vars, .sl .con a0.cons, .int .i64 a0.goal, .int .i64 a0.var], .agg [.int .i64 a2.var, .int .i64 a2.op, .int .i64 a2.n]] .int fun l162 =>
 sel (decide (l162 = c9))
 (sel (decide (l2 = c9))
 (sel (decide (c9 = 0))
 (Call1 Try.prog f_cordonref_LitHolds [.agg [.int .i64 a2.var, .int .i64 a2.op, .int .i64 a2.n], .int .i64 a3] .bool fun c163 =>
 sel (l1 == c163)
 (sel (decide (l4 = c118))
 (sel (decide (l3 = c117))
 (sel (decide (l6 = c145))
 (sel (decide (l5 = c159))
 (Call1 Try.prog f_cordonlaw_storeIs [.sl (.list .int) l7, .int .i64 l8, .int .i64 c145, .sl (.list .int) c160] .bool fun c164 =>
 R (.bool c164))
 (R (.bool false)))
 (R (.bool false)))
 (R (.bool false)))
 (R (.bool false)))
 (R (.bool false)))
 (sel (l1 == false)
 (sel (decide (l4 = c118))
 (sel (decide (l3 = c117))
 (sel (decide (l6 = c145))
 (sel (decide (l5 = c159))
 (Call1 Try.prog f_cordonlaw_storeIs [.sl (.list .int) l7, .int .i64 l8, .int .i64 c145, .sl (.list .int) c160] .bool fun c165 =>
 R (.bool c165))
 (R (.bool false)))
 (R (.bool false)))
 (R (.bool false)))
 (R (.bool false)))
 (R (.bool false))))
 (R (.bool false)))
 (R (.bool false)))
 (R (.bool false)))
 (Call1 Try.prog f_cordonlaw_litBegun [] .bool fun c166 =>
 sel c166
 (Call1 Try.prog f_lit_Check [.agg [.sl .var a0.vars, .sl .con a0.cons, .int .i64 a0.goal, .int .i64 a0.var], .agg [.int .i64 a2.var, .int .i64 a2.op, .int .i64 a2.n]] .int fun l167 =>
 sel (decide (l167 = c9))
 (sel (decide (l2 = c9))
 (sel (decide (c9 = 0))
 (Call1 Try.prog f_cordonref_LitHolds [.agg [.int .i64 a2.var, .int .i64 a2.op, .int .i64 a2.n], .int .i64 a3] .bool fun c168 =>
 sel (l1 == c168)
 (sel (decide (l4 = c118))
 (sel (decide (l3 = c117))
 (sel (decide (l6 = c145))
 (sel (decide (l5 = 0))
 (Call1 Try.prog f_cordonlaw_storeIs [.sl (.list .int) l7, .int .i64 l8, .int .i64 c145, .sl (.list .int) ([] : List (List Int))] .bool fun c169 =>
 R (.bool c169))
 (R (.bool false)))
 (R (.bool false)))
 (R (.bool false)))
 (R (.bool false)))
 (R (.bool false)))
 (sel (l1 == false)
 (sel (decide (l4 = c118))
 (sel (decide (l3 = c117))
 (sel (decide (l6 = c145))
 (sel (decide (l5 = 0))
 (Call1 Try.prog f_cordonlaw_storeIs [.sl (.list .int) l7, .int .i64 l8, .int .i64 c145, .sl (.list .int) ([] : List (List Int))] .bool fun c170 =>
 R (.bool c170))
 (R (.bool false)))
 (R (.bool false)))
 (R (.bool false)))
 (R (.bool false)))
 (R (.bool false))))
 (R (.bool false)))
 (R (.bool false)))
 (R (.bool false))))))
 (sel (!decide (c9 = 0))
 (Call1 Try.prog f_cordonlaw_checkStore [.agg [.sl .var a0.vars, .sl .con a0.cons, .int .i64 a0.goal, .int .i64 a0.var], .sl (.list .int) a1] .int fun c171 =>
 sel (decide (c171 = 0))
 (Call1 Try.prog f_cordonref_CheckLit [.agg [.sl .var a0.vars, .sl .con a0.cons, .int .i64 a0.goal, .int .i64 a0.var], .agg [.int .i64 a2.var, .int .i64 a2.op, .int .i64 a2.n]] .int fun c172 =>
 sel (decide (c172 = 0))
 (Call1 Try.prog f_cordonref_ToldOf [.sl (.list .int) a1, .agg [.int .i64 a2.var, .int .i64 a2.op, .int .i64 a2.n]] .int fun c173 =>
 Call1 Try.prog f_cordonref_PutOf [.sl (.list .int) a1, .agg [.int .i64 a2.var, .int .i64 a2.op, .int .i64 a2.n]] (.list (.list .int)) fun c174 =>
 Call1 Try.prog f_cordonlaw_litBegun [] .bool fun c175 =>
 sel c175
 (Call1 Try.prog f_lit_Check [.agg [.sl .var a0.vars, .sl .con a0.cons, .int .i64 a0.goal, .int .i64 a0.var], .agg [.int .i64 a2.var, .int .i64 a2.op, .int .i64 a2.n]] .int fun l176 =>
 sel (decide (l176 = c9))
 (sel (decide (l2 = c9))
 (sel (decide (c9 = 0))
 (Call1 Try.prog f_cordonref_LitHolds [.agg [.int .i64 a2.var, .int .i64 a2.op, .int .i64 a2.n], .int .i64 a3] .bool fun c177 =>
 sel (l1 == c177)
 (sel (decide (l4 = c9))
 (sel (decide (l3 = (⟨0, 0, 0⟩ : LitD)))
 (sel (decide (l6 = c172))
 (sel (decide (l5 = c173))
 (Call1 Try.prog f_cordonlaw_storeIs [.sl (.list .int) l7, .int .i64 l8, .int .i64 c172, .sl (.list .int) c174] .bool fun c178 =>
 R (.bool c178))
 (R (.bool false)))
 (R (.bool false)))
 (R (.bool false)))
 (R (.bool false)))
 (R (.bool false)))
 (sel (l1 == false)
 (sel (decide (l4 = c9))
 (sel (decide (l3 = (⟨0, 0, 0⟩ : LitD)))
 (sel (decide (l6 = c172))
 (sel (decide (l5 = c173))
 (Call1 Try.prog f_cordonlaw_storeIs [.sl (.list .int) l7, .int .i64 l8, .int .i64 c172, .sl (.list .int) c174] .bool fun c179 =>
 R (.bool c179))
 (R (.bool false)))
 (R (.bool false)))
 (R (.bool false)))
 (R (.bool false)))
 (R (.bool false))))
 (R (.bool false)))
 (R (.bool false)))
 (R (.bool false)))
 (Call1 Try.prog f_cordonlaw_litBegun [] .bool fun c180 =>
 sel c180
 (Call1 Try.prog f_lit_Check [.agg [.sl .var a0.vars, .sl .con a0.cons, .int .i64 a0.goal, .int .i64 a0.var], .agg [.int .i64 a2.var, .int .i64 a2.op, .int .i64 a2.n]] .int fun l181 =>
 sel (decide (l181 = c9))
 (sel (decide (l2 = c9))
 (sel (decide (c9 = 0))
 (Call1 Try.prog f_cordonref_LitHolds [.agg [.int .i64 a2.var, .int .i64 a2.op, .int .i64 a2.n], .int .i64 a3] .bool fun c182 =>
 sel (l1 == c182)
 (sel (decide (l4 = c9))
 (sel (decide (l3 = (⟨0, 0, 0⟩ : LitD)))
 (sel (decide (l6 = c172))
 (sel (decide (l5 = 0))
 (Call1 Try.prog f_cordonlaw_storeIs [.sl (.list .int) l7, .int .i64 l8, .int .i64 c172, .sl (.list .int) ([] : List (List Int))] .bool fun c183 =>
 R (.bool c183))
 (R (.bool false)))
 (R (.bool false)))
 (R (.bool false)))
 (R (.bool false)))
 (R (.bool false)))
 (sel (l1 == false)
 (sel (decide (l4 = c9))
 (sel (decide (l3 = (⟨0, 0, 0⟩ : LitD)))
 (sel (decide (l6 = c172))
 (sel (decide (l5 = 0))
 (Call1 Try.prog f_cordonlaw_storeIs [.sl (.list .int) l7, .int .i64 l8, .int .i64 c172, .sl (.list .int) ([] : List (List Int))] .bool fun c184 =>
 R (.bool c184))
 (R (.bool false)))
 (R (.bool false)))
 (R (.bool false)))
 (R (.bool false)))
 (R (.bool false))))
 (R (.bool false)))
 (R (.bool false)))
 (R (.bool false))))
 (sel (decide (c171 = 0))
 (Call1 Try.prog f_cordonref_ToldOf [.sl (.list .int) a1, .agg [.int .i64 a2.var, .int .i64 a2.op, .int .i64 a2.n]] .int fun c185 =>
 Call1 Try.prog f_cordonref_PutOf [.sl (.list .int) a1, .agg [.int .i64 a2.var, .int .i64 a2.op, .int .i64 a2.n]] (.list (.list .int)) fun c186 =>
 Call1 Try.prog f_cordonlaw_litBegun [] .bool fun c187 =>
 sel c187
 (Call1 Try.prog f_lit_Check [.agg [.sl .var a0.vars, .sl .con a0.cons, .int .i64 a0.goal, .int .i64 a0.var], .agg [.int .i64 a2.var, .int .i64 a2.op, .int .i64 a2.n]] .int fun l188 =>
 sel (decide (l188 = c9))
 (sel (decide (l2 = c9))
 (sel (decide (c9 = 0))
 (Call1 Try.prog f_cordonref_LitHolds [.agg [.int .i64 a2.var, .int .i64 a2.op, .int .i64 a2.n], .int .i64 a3] .bool fun c189 =>
 sel (l1 == c189)
 (sel (decide (l4 = c9))
 (sel (decide (l3 = (⟨0, 0, 0⟩ : LitD)))
 (sel (decide (l6 = c171))
 (sel (decide (l5 = c185))
 (Call1 Try.prog f_cordonlaw_storeIs [.sl (.list .int) l7, .int .i64 l8, .int .i64 c171, .sl (.list .int) c186] .bool fun c190 =>
 R (.bool c190))
 (R (.bool false)))
 (R (.bool false)))
 (R (.bool false)))
 (R (.bool false)))
 (R (.bool false)))
 (sel (l1 == false)
 (sel (decide (l4 = c9))
 (sel (decide (l3 = (⟨0, 0, 0⟩ : LitD)))
 (sel (decide (l6 = c171))
 (sel (decide (l5 = c185))
 (Call1 Try.prog f_cordonlaw_storeIs [.sl (.list .int) l7, .int .i64 l8, .int .i64 c171, .sl (.list .int) c186] .bool fun c191 =>
 R (.bool c191))
 (R (.bool false)))
 (R (.bool false)))
 (R (.bool false)))
 (R (.bool false)))
 (R (.bool false))))
 (R (.bool false)))
 (R (.bool false)))
 (R (.bool false)))
 (Call1 Try.prog f_cordonlaw_litBegun [] .bool fun c192 =>
 sel c192
 (Call1 Try.prog f_lit_Check [.agg [.sl .var a0.vars, .sl .con a0.cons, .int .i64 a0.goal, .int .i64 a0.var], .agg [.int .i64 a2.var, .int .i64 a2.op, .int .i64 a2.n]] .int fun l193 =>
 sel (decide (l193 = c9))
 (sel (decide (l2 = c9))
 (sel (decide (c9 = 0))
 (Call1 Try.prog f_cordonref_LitHolds [.agg [.int .i64 a2.var, .int .i64 a2.op, .int .i64 a2.n], .int .i64 a3] .bool fun c194 =>
 sel (l1 == c194)
 (sel (decide (l4 = c9))
 (sel (decide (l3 = (⟨0, 0, 0⟩ : LitD)))
 (sel (decide (l6 = c171))
 (sel (decide (l5 = 0))
 (Call1 Try.prog f_cordonlaw_storeIs [.sl (.list .int) l7, .int .i64 l8, .int .i64 c171, .sl (.list .int) ([] : List (List Int))] .bool fun c195 =>
 R (.bool c195))
 (R (.bool false)))
 (R (.bool false)))
 (R (.bool false)))
 (R (.bool false)))
 (R (.bool false)))
 (sel (l1 == false)
 (sel (decide (l4 = c9))
 (sel (decide (l3 = (⟨0, 0, 0⟩ : LitD)))
 (sel (decide (l6 = c171))
 (sel (decide (l5 = 0))
 (Call1 Try.prog f_cordonlaw_storeIs [.sl (.list .int) l7, .int .i64 l8, .int .i64 c171, .sl (.list .int) ([] : List (List Int))] .bool fun c196 =>
 R (.bool c196))
 (R (.bool false)))
 (R (.bool false)))
 (R (.bool false)))
 (R (.bool false)))
 (R (.bool false))))
 (R (.bool false)))
 (R (.bool false)))
 (R (.bool false)))))
 (Call1 Try.prog f_cordonlaw_checkStore [.agg [.sl .var a0.vars, .sl .con a0.cons, .int .i64 a0.goal, .int .i64 a0.var], .sl (.list .int) a1] .int fun c197 =>
 sel (decide (c197 = 0))
 (Call1 Try.prog f_cordonref_CheckLit [.agg [.sl .var a0.vars, .sl .con a0.cons, .int .i64 a0.goal, .int .i64 a0.var], .agg [.int .i64 a2.var, .int .i64 a2.op, .int .i64 a2.n]] .int fun c198 =>
 sel (decide (c198 = 0))
 (Call1 Try.prog f_cordonref_ToldOf [.sl (.list .int) a1, .agg [.int .i64 a2.var, .int .i64 a2.op, .int .i64 a2.n]] .int fun c199 =>
 Call1 Try.prog f_cordonref_PutOf [.sl (.list .int) a1, .agg [.int .i64 a2.var, .int .i64 a2.op, .int .i64 a2.n]] (.list (.list .int)) fun c200 =>
 Call1 Try.prog f_cordonlaw_litBegun [] .bool fun c201 =>
 sel c201
 (Call1 Try.prog f_lit_Check [.agg [.sl .var a0.vars, .sl .con a0.cons, .int .i64 a0.goal, .int .i64 a0.var], .agg [.int .i64 a2.var, .int .i64 a2.op, .int .i64 a2.n]] .int fun l202 =>
 sel (decide (l202 = c9))
 (sel (decide (l2 = c9))
 (sel (decide (c9 = 0))
 (Call1 Try.prog f_cordonref_LitHolds [.agg [.int .i64 a2.var, .int .i64 a2.op, .int .i64 a2.n], .int .i64 a3] .bool fun c203 =>
 sel (l1 == c203)
 (sel (decide (l4 = c9))
 (sel (decide (l3 = (⟨0, 0, 0⟩ : LitD)))
 (sel (decide (l6 = c198))
 (sel (decide (l5 = c199))
 (Call1 Try.prog f_cordonlaw_storeIs [.sl (.list .int) l7, .int .i64 l8, .int .i64 c198, .sl (.list .int) c200] .bool fun c204 =>
 R (.bool c204))
 (R (.bool false)))
 (R (.bool false)))
 (R (.bool false)))
 (R (.bool false)))
 (R (.bool false)))
 (sel (l1 == false)
 (sel (decide (l4 = c9))
 (sel (decide (l3 = (⟨0, 0, 0⟩ : LitD)))
 (sel (decide (l6 = c198))
 (sel (decide (l5 = c199))
 (Call1 Try.prog f_cordonlaw_storeIs [.sl (.list .int) l7, .int .i64 l8, .int .i64 c198, .sl (.list .int) c200] .bool fun c205 =>
 R (.bool c205))
 (R (.bool false)))
 (R (.bool false)))
 (R (.bool false)))
 (R (.bool false)))
 (R (.bool false))))
 (R (.bool false)))
 (R (.bool false)))
 (R (.bool false)))
 (Call1 Try.prog f_cordonlaw_litBegun [] .bool fun c206 =>
 sel c206
 (Call1 Try.prog f_lit_Check [.agg [.sl .var a0.vars, .sl .con a0.cons, .int .i64 a0.goal, .int .i64 a0.var], .agg [.int .i64 a2.var, .int .i64 a2.op, .int .i64 a2.n]] .int fun l207 =>
 sel (decide (l207 = c9))
 (sel (decide (l2 = c9))
 (sel (decide (c9 = 0))
 (Call1 Try.prog f_cordonref_LitHolds [.agg [.int .i64 a2.var, .int .i64 a2.op, .int .i64 a2.n], .int .i64 a3] .bool fun c208 =>
 sel (l1 == c208)
 (sel (decide (l4 = c9))
 (sel (decide (l3 = (⟨0, 0, 0⟩ : LitD)))
 (sel (decide (l6 = c198))
 (sel (decide (l5 = 0))
 (Call1 Try.prog f_cordonlaw_storeIs [.sl (.list .int) l7, .int .i64 l8, .int .i64 c198, .sl (.list .int) ([] : List (List Int))] .bool fun c209 =>
 R (.bool c209))
 (R (.bool false)))
 (R (.bool false)))
 (R (.bool false)))
 (R (.bool false)))
 (R (.bool false)))
 (sel (l1 == false)
 (sel (decide (l4 = c9))
 (sel (decide (l3 = (⟨0, 0, 0⟩ : LitD)))
 (sel (decide (l6 = c198))
 (sel (decide (l5 = 0))
 (Call1 Try.prog f_cordonlaw_storeIs [.sl (.list .int) l7, .int .i64 l8, .int .i64 c198, .sl (.list .int) ([] : List (List Int))] .bool fun c210 =>
 R (.bool c210))
 (R (.bool false)))
 (R (.bool false)))
 (R (.bool false)))
 (R (.bool false)))
 (R (.bool false))))
 (R (.bool false)))
 (R (.bool false)))
 (R (.bool false))))
 (sel (decide (c197 = 0))
 (Call1 Try.prog f_cordonref_ToldOf [.sl (.list .int) a1, .agg [.int .i64 a2.var, .int .i64 a2.op, .int .i64 a2.n]] .int fun c211 =>
 Call1 Try.prog f_cordonref_PutOf [.sl (.list .int) a1, .agg [.int .i64 a2.var, .int .i64 a2.op, .int .i64 a2.n]] (.list (.list .int)) fun c212 =>
 Call1 Try.prog f_cordonlaw_litBegun [] .bool fun c213 =>
 sel c213
 (Call1 Try.prog f_lit_Check [.agg [.sl .var a0.vars, .sl .con a0.cons, .int .i64 a0.goal, .int .i64 a0.var], .agg [.int .i64 a2.var, .int .i64 a2.op, .int .i64 a2.n]] .int fun l214 =>
 sel (decide (l214 = c9))
 (sel (decide (l2 = c9))
 (sel (decide (c9 = 0))
 (Call1 Try.prog f_cordonref_LitHolds [.agg [.int .i64 a2.var, .int .i64 a2.op, .int .i64 a2.n], .int .i64 a3] .bool fun c215 =>
 sel (l1 == c215)
 (sel (decide (l4 = c9))
 (sel (decide (l3 = (⟨0, 0, 0⟩ : LitD)))
 (sel (decide (l6 = c197))
 (sel (decide (l5 = c211))
 (Call1 Try.prog f_cordonlaw_storeIs [.sl (.list .int) l7, .int .i64 l8, .int .i64 c197, .sl (.list .int) c212] .bool fun c216 =>
 R (.bool c216))
 (R (.bool false)))
 (R (.bool false)))
 (R (.bool false)))
 (R (.bool false)))
 (R (.bool false)))
 (sel (l1 == false)
 (sel (decide (l4 = c9))
 (sel (decide (l3 = (⟨0, 0, 0⟩ : LitD)))
 (sel (decide (l6 = c197))
 (sel (decide (l5 = c211))
 (Call1 Try.prog f_cordonlaw_storeIs [.sl (.list .int) l7, .int .i64 l8, .int .i64 c197, .sl (.list .int) c212] .bool fun c217 =>
 R (.bool c217))
 (R (.bool false)))
 (R (.bool false)))
 (R (.bool false)))
 (R (.bool false)))
 (R (.bool false))))
 (R (.bool false)))
 (R (.bool false)))
 (R (.bool false)))
 (Call1 Try.prog f_cordonlaw_litBegun [] .bool fun c218 =>
 sel c218
 (Call1 Try.prog f_lit_Check [.agg [.sl .var a0.vars, .sl .con a0.cons, .int .i64 a0.goal, .int .i64 a0.var], .agg [.int .i64 a2.var, .int .i64 a2.op, .int .i64 a2.n]] .int fun l219 =>
 sel (decide (l219 = c9))
 (sel (decide (l2 = c9))
 (sel (decide (c9 = 0))
 (Call1 Try.prog f_cordonref_LitHolds [.agg [.int .i64 a2.var, .int .i64 a2.op, .int .i64 a2.n], .int .i64 a3] .bool fun c220 =>
 sel (l1 == c220)
 (sel (decide (l4 = c9))
 (sel (decide (l3 = (⟨0, 0, 0⟩ : LitD)))
 (sel (decide (l6 = c197))
 (sel (decide (l5 = 0))
 (Call1 Try.prog f_cordonlaw_storeIs [.sl (.list .int) l7, .int .i64 l8, .int .i64 c197, .sl (.list .int) ([] : List (List Int))] .bool fun c221 =>
 R (.bool c221))
 (R (.bool false)))
 (R (.bool false)))
 (R (.bool false)))
 (R (.bool false)))
 (R (.bool false)))
 (sel (l1 == false)
 (sel (decide (l4 = c9))
 (sel (decide (l3 = (⟨0, 0, 0⟩ : LitD)))
 (sel (decide (l6 = c197))
 (sel (decide (l5 = 0))
 (Call1 Try.prog f_cordonlaw_storeIs [.sl (.list .int) l7, .int .i64 l8, .int .i64 c197, .sl (.list .int) ([] : List (List Int))] .bool fun c222 =>
 R (.bool c222))
 (R (.bool false)))
 (R (.bool false)))
 (R (.bool false)))
 (R (.bool false)))
 (R (.bool false))))
 (R (.bool false)))
 (R (.bool false)))
 (R (.bool false)))))))) := by kernel_rfl
theorem cordonlaw_LitTells_sat {r : D} (a0 : MdlD) (a1 : List (List Int)) (a2 : LitD) (a3 : Int) (h : (∀ d ∈ [.agg [.sl .var a0.vars, .sl .con a0.cons, .int .i64 a0.goal, .int .i64 a0.var], .sl (.list .int) a1, .agg [.int .i64 a2.var, .int .i64 a2.op, .int .i64 a2.n], .int .i64 a3], okD d) → fnD Try.prog Ev cordonlaw_LitTells_A Try.f9.results.toList (bodyOf Try.f9) [.agg [.sl .var a0.vars, .sl .con a0.cons, .int .i64 a0.goal, .int .i64 a0.var], .sl (.list .int) a1, .agg [.int .i64 a2.var, .int .i64 a2.op, .int .i64 a2.n], .int .i64 a3] fun d => d = r) : Sat Try.prog f_cordonlaw_LitTells [.agg [.sl .var a0.vars, .sl .con a0.cons, .int .i64 a0.goal, .int .i64 a0.var], .sl (.list .int) a1, .agg [.int .i64 a2.var, .int .i64 a2.op, .int .i64 a2.n], .int .i64 a3] r := by
  have h2 := sat_of (r := r) (args := [.agg [.sl .var a0.vars, .sl .con a0.cons, .int .i64 a0.goal, .int .i64 a0.var], .sl (.list .int) a1, .agg [.int .i64 a2.var, .int .i64 a2.op, .int .i64 a2.n], .int .i64 a3]) (A := cordonlaw_LitTells_A) (fn := Try.f9) (body := bodyOf Try.f9) (f := f_cordonlaw_LitTells) factsEv Try.func9 (by kernel_rfl) (by rw [Try.ntmps9]; rfl) (by rw [Try.ntmps9]; exact Nat.le_of_ble_eq_true rfl)
  with_reducible exact h2 h
/-! ### cordon/cordonlaw.LitParts -/
def cordonlaw_LitParts_A : Ann := { own := [9], live := [], n := 182, nils := [], pubs := [] }
theorem cordonlaw_LitParts_eq (a0 : MdlD) (a1 : List (List Int)) (a2 : LitD) (a3 : Int) (R : D → Prop) : fnD Try.prog Ev cordonlaw_LitParts_A Try.f11.results.toList (bodyOf Try.f11) [.agg [.sl .var a0.vars, .sl .con a0.cons, .int .i64 a0.goal, .int .i64 a0.var], .sl (.list .int) a1, .agg [.int .i64 a2.var, .int .i64 a2.op, .int .i64 a2.n], .int .i64 a3] R =
 (Call1 Try.prog f_cordonlaw_litBegun [] .bool fun c1 =>
 sel (!c1)
 (R (.bool false))
 (Call1 Try.prog f_cordonlaw_storeBegun [] .bool fun c2 =>
 sel (!c2)
 (R (.bool false))
 (Call2 Try.prog f_lit_Not [.agg [.sl .var a0.vars, .sl .con a0.cons, .int .i64 a0.goal, .int .i64 a0.var], .agg [.int .i64 a2.var, .int .i64 a2.op, .int .i64 a2.n]] .lit .int fun l3 l4 =>
 sel (!decide (l4 = 0))
 (R (.bool (decide (l3 = (⟨0, 0, 0⟩ : LitD)))))
 (Call2 Try.prog f_lit_Holds [.agg [.sl .var a0.vars, .sl .con a0.cons, .int .i64 a0.goal, .int .i64 a0.var], .agg [.int .i64 a2.var, .int .i64 a2.op, .int .i64 a2.n], .int .i64 a3] .bool .int fun l5 l6 =>
 Call2 Try.prog f_lit_Holds [.agg [.sl .var a0.vars, .sl .con a0.cons, .int .i64 a0.goal, .int .i64 a0.var], .agg [.int .i64 l3.var, .int .i64 l3.op, .int .i64 l3.n], .int .i64 a3] .bool .int fun l7 l8 =>
 sel (!decide (l6 = 0))
 (R (.bool false))
 (sel (!decide (l8 = 0))
 (R (.bool false))
 (sel (l5 == l7)
 (R (.bool false))
 (Call2 Try.prog f_lit_Put [.agg [.sl .var a0.vars, .sl .con a0.cons, .int .i64 a0.goal, .int .i64 a0.var], .sl (.list .int) a1, .agg [.int .i64 a2.var, .int .i64 a2.op, .int .i64 a2.n]] (.list (.list .int)) .int fun l9 l10 =>
 Call2 Try.prog f_lit_Put [.agg [.sl .var a0.vars, .sl .con a0.cons, .int .i64 a0.goal, .int .i64 a0.var], .sl (.list .int) a1, .agg [.int .i64 l3.var, .int .i64 l3.op, .int .i64 l3.n]] (.list (.list .int)) .int fun l11 l12 =>
 sel (!decide (l10 = 0))
 (sel (decide (l10 = l12))
 (R (.bool (decide ((l9.length : Int) = 0))))
 (R (.bool false)))
 (Call2 Try.prog f_lit_Told [.agg [.sl .var a0.vars, .sl .con a0.cons, .int .i64 a0.goal, .int .i64 a0.var], .sl (.list .int) a1, .agg [.int .i64 a2.var, .int .i64 a2.op, .int .i64 a2.n]] .int .int fun l13 l14 =>
 Call2 Try.prog f_lit_Told [.agg [.sl .var a0.vars, .sl .con a0.cons, .int .i64 a0.goal, .int .i64 a0.var], .sl (.list .int) a1, .agg [.int .i64 l3.var, .int .i64 l3.op, .int .i64 l3.n]] .int .int fun l15 l16 =>
 sel (!decide (l12 = 0))
 (R (.bool false))
 (sel (!decide (l14 = 0))
 (R (.bool false))
 (sel (!decide (l16 = 0))
 (R (.bool false))
 (sel (!decide ((l9.length : Int) = (a1.length : Int)))
 (R (.bool false))
 (sel (!decide ((l11.length : Int) = (a1.length : Int)))
 (R (.bool false))
 (inb a2.var l9.length = true ∧
 inb a2.var l11.length = true ∧
 inb a2.var a1.length = true ∧
 sel (!decide ((w64 (((at' (.list .int) l9 a2.var.toNat).length : Int) + ((at' (.list .int) l11 a2.var.toNat).length : Int))) = ((at' (.list .int) a1 a2.var.toNat).length : Int)))
 (R (.bool false))
 (inb a2.var a1.length = true ∧
 sel (decide (((at' (.list .int) a1 a2.var.toNat).length : Int) = 0))
 (sel (decide (l13 = (-1)))
 (R (.bool (decide (l15 = (-1)))))
 (R (.bool false)))
 (sel (decide (l13 = (w64 (0 - l15))))
 (inb a2.var l11.length = true ∧
 sel ((decide (l13 = 1)) == (decide (((at' (.list .int) l11 a2.var.toNat).length : Int) = 0)))
 (inb a2.var l9.length = true ∧
 R (.bool ((decide (l15 = 1)) == (decide (((at' (.list .int) l9 a2.var.toNat).length : Int) = 0)))))
 (R (.bool false)))
 (R (.bool false))))))))))))))))) := by kernel_rfl
theorem cordonlaw_LitParts_sat {r : D} (a0 : MdlD) (a1 : List (List Int)) (a2 : LitD) (a3 : Int) (h : (∀ d ∈ [.agg [.sl .var a0.vars, .sl .con a0.cons, .int .i64 a0.goal, .int .i64 a0.var], .sl (.list .int) a1, .agg [.int .i64 a2.var, .int .i64 a2.op, .int .i64 a2.n], .int .i64 a3], okD d) → fnD Try.prog Ev cordonlaw_LitParts_A Try.f11.results.toList (bodyOf Try.f11) [.agg [.sl .var a0.vars, .sl .con a0.cons, .int .i64 a0.goal, .int .i64 a0.var], .sl (.list .int) a1, .agg [.int .i64 a2.var, .int .i64 a2.op, .int .i64 a2.n], .int .i64 a3] fun d => d = r) : Sat Try.prog f_cordonlaw_LitParts [.agg [.sl .var a0.vars, .sl .con a0.cons, .int .i64 a0.goal, .int .i64 a0.var], .sl (.list .int) a1, .agg [.int .i64 a2.var, .int .i64 a2.op, .int .i64 a2.n], .int .i64 a3] r := by
  have h2 := sat_of (r := r) (args := [.agg [.sl .var a0.vars, .sl .con a0.cons, .int .i64 a0.goal, .int .i64 a0.var], .sl (.list .int) a1, .agg [.int .i64 a2.var, .int .i64 a2.op, .int .i64 a2.n], .int .i64 a3]) (A := cordonlaw_LitParts_A) (fn := Try.f11) (body := bodyOf Try.f11) (f := f_cordonlaw_LitParts) factsEv Try.func11 (by kernel_rfl) (by rw [Try.ntmps11]; rfl) (by rw [Try.ntmps11]; exact Nat.le_of_ble_eq_true rfl)
  with_reducible exact h2 h
/-! ### cordon/cordonlaw.ModelTells -/
def cordonlaw_ModelTells_A : Ann := { own := [], live := [], n := 58, nils := [], pubs := [] }
theorem cordonlaw_ModelTells_eq (a0 : MdlD) (a1 : Int) (R : D → Prop) : fnD Try.prog Ev cordonlaw_ModelTells_A Try.f12.results.toList (bodyOf Try.f12) [.agg [.sl .var a0.vars, .sl .con a0.cons, .int .i64 a0.goal, .int .i64 a0.var], .int .i64 a1] R =
 (Call2 Try.prog f_model_Scope [.agg [.sl .var a0.vars, .sl .con a0.cons, .int .i64 a0.goal, .int .i64 a0.var], .int .i64 a1] (.list .int) .int fun m1 m2 =>
 Call1 Try.prog f_cordonref_CheckModel [.agg [.sl .var a0.vars, .sl .con a0.cons, .int .i64 a0.goal, .int .i64 a0.var]] .int fun c3 =>
 sel (decide (c3 = 0))
 (sel (decide (a1 < 0))
 (sel (decide ((5 : Int) = 0))
 (inb a1 a0.cons.length = true ∧
 Call1 Try.prog f_cordonref_ScopeOf [.agg [.sl .var a0.vars, .sl .con a0.cons, .int .i64 a0.goal, .int .i64 a0.var], .agg [.int .i64 ((at' .con a0.cons a1.toNat).kind), .sl .int ((at' .con a0.cons a1.toNat).vars), .sl .int ((at' .con a0.cons a1.toNat).consts), .int .i64 ((at' .con a0.cons a1.toNat).n), .sl (.list .int) ((at' .con a0.cons a1.toNat).rows), .sl .lit ((at' .con a0.cons a1.toNat).lits)]] (.list .int) fun c4 =>
 Call1 Try.prog f_cordonlaw_modelBegun [] .bool fun c5 =>
 sel c5
 (Call1 Try.prog f_model_Check [.agg [.sl .var a0.vars, .sl .con a0.cons, .int .i64 a0.goal, .int .i64 a0.var]] .int fun m6 =>
 sel (decide (m6 = c3))
 (sel (decide (m2 = 5))
 (Call1 Try.prog f_cordonref_SameInts [.sl .int m1, .sl .int c4] .bool fun c7 =>
 R (.bool c7))
 (R (.bool false)))
 (R (.bool false)))
 (R (.bool false)))
 (Call1 Try.prog f_cordonlaw_modelBegun [] .bool fun c8 =>
 sel c8
 (Call1 Try.prog f_model_Check [.agg [.sl .var a0.vars, .sl .con a0.cons, .int .i64 a0.goal, .int .i64 a0.var]] .int fun m9 =>
 sel (decide (m9 = c3))
 (sel (decide (m2 = 5))
 (Call1 Try.prog f_cordonref_SameInts [.sl .int m1, .sl .int ([] : List Int)] .bool fun c10 =>
 R (.bool c10))
 (R (.bool false)))
 (R (.bool false)))
 (R (.bool false))))
 (sel (decide ((a0.cons.length : Int) ≤ a1))
 (sel (decide ((5 : Int) = 0))
 (inb a1 a0.cons.length = true ∧
 Call1 Try.prog f_cordonref_ScopeOf [.agg [.sl .var a0.vars, .sl .con a0.cons, .int .i64 a0.goal, .int .i64 a0.var], .agg [.int .i64 ((at' .con a0.cons a1.toNat).kind), .sl .int ((at' .con a0.cons a1.toNat).vars), .sl .int ((at' .con a0.cons a1.toNat).consts), .int .i64 ((at' .con a0.cons a1.toNat).n), .sl (.list .int) ((at' .con a0.cons a1.toNat).rows), .sl .lit ((at' .con a0.cons a1.toNat).lits)]] (.list .int) fun c11 =>
 Call1 Try.prog f_cordonlaw_modelBegun [] .bool fun c12 =>
 sel c12
 (Call1 Try.prog f_model_Check [.agg [.sl .var a0.vars, .sl .con a0.cons, .int .i64 a0.goal, .int .i64 a0.var]] .int fun m13 =>
 sel (decide (m13 = c3))
 (sel (decide (m2 = 5))
 (Call1 Try.prog f_cordonref_SameInts [.sl .int m1, .sl .int c11] .bool fun c14 =>
 R (.bool c14))
 (R (.bool false)))
 (R (.bool false)))
 (R (.bool false)))
 (Call1 Try.prog f_cordonlaw_modelBegun [] .bool fun c15 =>
 sel c15
 (Call1 Try.prog f_model_Check [.agg [.sl .var a0.vars, .sl .con a0.cons, .int .i64 a0.goal, .int .i64 a0.var]] .int fun m16 =>
 sel (decide (m16 = c3))
 (sel (decide (m2 = 5))
 (Call1 Try.prog f_cordonref_SameInts [.sl .int m1, .sl .int ([] : List Int)] .bool fun c17 =>
 R (.bool c17))
 (R (.bool false)))
 (R (.bool false)))
 (R (.bool false))))
 (sel (decide (c3 = 0))
 (inb a1 a0.cons.length = true ∧
 Call1 Try.prog f_cordonref_ScopeOf [.agg [.sl .var a0.vars, .sl .con a0.cons, .int .i64 a0.goal, .int .i64 a0.var], .agg [.int .i64 ((at' .con a0.cons a1.toNat).kind), .sl .int ((at' .con a0.cons a1.toNat).vars), .sl .int ((at' .con a0.cons a1.toNat).consts), .int .i64 ((at' .con a0.cons a1.toNat).n), .sl (.list .int) ((at' .con a0.cons a1.toNat).rows), .sl .lit ((at' .con a0.cons a1.toNat).lits)]] (.list .int) fun c18 =>
 Call1 Try.prog f_cordonlaw_modelBegun [] .bool fun c19 =>
 sel c19
 (Call1 Try.prog f_model_Check [.agg [.sl .var a0.vars, .sl .con a0.cons, .int .i64 a0.goal, .int .i64 a0.var]] .int fun m20 =>
 sel (decide (m20 = c3))
 (sel (decide (m2 = c3))
 (Call1 Try.prog f_cordonref_SameInts [.sl .int m1, .sl .int c18] .bool fun c21 =>
 R (.bool c21))
 (R (.bool false)))
 (R (.bool false)))
 (R (.bool false)))
 (Call1 Try.prog f_cordonlaw_modelBegun [] .bool fun c22 =>
 sel c22
 (Call1 Try.prog f_model_Check [.agg [.sl .var a0.vars, .sl .con a0.cons, .int .i64 a0.goal, .int .i64 a0.var]] .int fun m23 =>
 sel (decide (m23 = c3))
 (sel (decide (m2 = c3))
 (Call1 Try.prog f_cordonref_SameInts [.sl .int m1, .sl .int ([] : List Int)] .bool fun c24 =>
 R (.bool c24))
 (R (.bool false)))
 (R (.bool false)))
 (R (.bool false))))))
 (sel (decide (c3 = 0))
 (inb a1 a0.cons.length = true ∧
 Call1 Try.prog f_cordonref_ScopeOf [.agg [.sl .var a0.vars, .sl .con a0.cons, .int .i64 a0.goal, .int .i64 a0.var], .agg [.int .i64 ((at' .con a0.cons a1.toNat).kind), .sl .int ((at' .con a0.cons a1.toNat).vars), .sl .int ((at' .con a0.cons a1.toNat).consts), .int .i64 ((at' .con a0.cons a1.toNat).n), .sl (.list .int) ((at' .con a0.cons a1.toNat).rows), .sl .lit ((at' .con a0.cons a1.toNat).lits)]] (.list .int) fun c25 =>
 Call1 Try.prog f_cordonlaw_modelBegun [] .bool fun c26 =>
 sel c26
 (Call1 Try.prog f_model_Check [.agg [.sl .var a0.vars, .sl .con a0.cons, .int .i64 a0.goal, .int .i64 a0.var]] .int fun m27 =>
 sel (decide (m27 = c3))
 (sel (decide (m2 = c3))
 (Call1 Try.prog f_cordonref_SameInts [.sl .int m1, .sl .int c25] .bool fun c28 =>
 R (.bool c28))
 (R (.bool false)))
 (R (.bool false)))
 (R (.bool false)))
 (Call1 Try.prog f_cordonlaw_modelBegun [] .bool fun c29 =>
 sel c29
 (Call1 Try.prog f_model_Check [.agg [.sl .var a0.vars, .sl .con a0.cons, .int .i64 a0.goal, .int .i64 a0.var]] .int fun m30 =>
 sel (decide (m30 = c3))
 (sel (decide (m2 = c3))
 (Call1 Try.prog f_cordonref_SameInts [.sl .int m1, .sl .int ([] : List Int)] .bool fun c31 =>
 R (.bool c31))
 (R (.bool false)))
 (R (.bool false)))
 (R (.bool false))))) := by kernel_rfl
theorem cordonlaw_ModelTells_sat {r : D} (a0 : MdlD) (a1 : Int) (h : (∀ d ∈ [.agg [.sl .var a0.vars, .sl .con a0.cons, .int .i64 a0.goal, .int .i64 a0.var], .int .i64 a1], okD d) → fnD Try.prog Ev cordonlaw_ModelTells_A Try.f12.results.toList (bodyOf Try.f12) [.agg [.sl .var a0.vars, .sl .con a0.cons, .int .i64 a0.goal, .int .i64 a0.var], .int .i64 a1] fun d => d = r) : Sat Try.prog f_cordonlaw_ModelTells [.agg [.sl .var a0.vars, .sl .con a0.cons, .int .i64 a0.goal, .int .i64 a0.var], .int .i64 a1] r := by
  have h2 := sat_of (r := r) (args := [.agg [.sl .var a0.vars, .sl .con a0.cons, .int .i64 a0.goal, .int .i64 a0.var], .int .i64 a1]) (A := cordonlaw_ModelTells_A) (fn := Try.f12) (body := bodyOf Try.f12) (f := f_cordonlaw_ModelTells) factsEv Try.func12 (by kernel_rfl) (by rw [Try.ntmps12]; rfl) (by rw [Try.ntmps12]; exact Nat.le_of_ble_eq_true rfl)
  with_reducible exact h2 h
/-! ### cordon/cordonlaw.checkStore -/
def cordonlaw_checkStore_A : Ann := { own := [], live := [], n := 14, nils := [], pubs := [] }
theorem cordonlaw_checkStore_eq (a0 : MdlD) (a1 : List (List Int)) (R : D → Prop) : fnD Try.prog Ev cordonlaw_checkStore_A Try.f24.results.toList (bodyOf Try.f24) [.agg [.sl .var a0.vars, .sl .con a0.cons, .int .i64 a0.goal, .int .i64 a0.var], .sl (.list .int) a1] R =
 (Call1 Try.prog f_cordonref_CheckModel [.agg [.sl .var a0.vars, .sl .con a0.cons, .int .i64 a0.goal, .int .i64 a0.var]] .int fun c1 =>
 sel (decide (c1 = 0))
 (Call1 Try.prog f_cordonref_CheckStore [.agg [.sl .var a0.vars, .sl .con a0.cons, .int .i64 a0.goal, .int .i64 a0.var], .sl (.list .int) a1] .int fun c2 =>
 R (.int .i64 c2))
 (R (.int .i64 c1))) := by kernel_rfl
theorem cordonlaw_checkStore_sat {r : D} (a0 : MdlD) (a1 : List (List Int)) (h : (∀ d ∈ [.agg [.sl .var a0.vars, .sl .con a0.cons, .int .i64 a0.goal, .int .i64 a0.var], .sl (.list .int) a1], okD d) → fnD Try.prog Ev cordonlaw_checkStore_A Try.f24.results.toList (bodyOf Try.f24) [.agg [.sl .var a0.vars, .sl .con a0.cons, .int .i64 a0.goal, .int .i64 a0.var], .sl (.list .int) a1] fun d => d = r) : Sat Try.prog f_cordonlaw_checkStore [.agg [.sl .var a0.vars, .sl .con a0.cons, .int .i64 a0.goal, .int .i64 a0.var], .sl (.list .int) a1] r := by
  have h2 := sat_of (r := r) (args := [.agg [.sl .var a0.vars, .sl .con a0.cons, .int .i64 a0.goal, .int .i64 a0.var], .sl (.list .int) a1]) (A := cordonlaw_checkStore_A) (fn := Try.f24) (body := bodyOf Try.f24) (f := f_cordonlaw_checkStore) factsEv Try.func24 (by kernel_rfl) (by rw [Try.ntmps24]; rfl) (by rw [Try.ntmps24]; exact Nat.le_of_ble_eq_true rfl)
  with_reducible exact h2 h
/-! ### cordon/cordonlaw.storeBegun -/
def cordonlaw_storeBegun_A : Ann := { own := [], live := [], n := 77, nils := [], pubs := [] }
theorem cordonlaw_storeBegun_eq  (R : D → Prop) : fnD Try.prog Ev cordonlaw_storeBegun_A Try.f30.results.toList (bodyOf Try.f30) [] R =
 (Call1 Try.prog f_cordonlaw_two [] .mdl fun c1 =>
 Call2 Try.prog f_store_Begin [.agg [.sl .var c1.vars, .sl .con c1.cons, .int .i64 c1.goal, .int .i64 c1.var]] (.list (.list .int)) .int fun s2 s3 =>
 Call1 Try.prog f_cordonlaw_two [] .mdl fun c4 =>
 Call2 Try.prog f_store_Meet [.agg [.sl .var c4.vars, .sl .con c4.cons, .int .i64 c4.goal, .int .i64 c4.var], .sl (.list .int) s2, .sl (.list .int) ([[1], [0, 2]])] (.list (.list .int)) .int fun s5 s6 =>
 Call1 Try.prog f_cordonlaw_two [] .mdl fun c7 =>
 Call2 Try.prog f_store_Within [.agg [.sl .var c7.vars, .sl .con c7.cons, .int .i64 c7.goal, .int .i64 c7.var], .sl (.list .int) s5, .sl (.list .int) s2] .bool .int fun s8 s9 =>
 Call1 Try.prog f_cordonlaw_two [] .mdl fun c10 =>
 Call2 Try.prog f_store_Failed [.agg [.sl .var c10.vars, .sl .con c10.cons, .int .i64 c10.goal, .int .i64 c10.var], .sl (.list .int) s2] .bool .int fun s11 s12 =>
 sel (decide (s3 = 0))
 (sel (decide (s6 = 0))
 (sel (decide (s9 = 0))
 (sel (decide (s12 = 0))
 (Call1 Try.prog f_cordonref_SameStore [.sl (.list .int) s2, .sl (.list .int) ([[0, 1, 2], [0, 1, 2]])] .bool fun c13 =>
 sel c13
 (Call1 Try.prog f_cordonref_SameStore [.sl (.list .int) s5, .sl (.list .int) ([[1], [0, 2]])] .bool fun c14 =>
 sel c14
 (sel s8
 (sel (!s11)
 (Call1 Try.prog f_cordonlaw_two [] .mdl fun c15 =>
 Call1 Try.prog f_store_Check [.agg [.sl .var c15.vars, .sl .con c15.cons, .int .i64 c15.goal, .int .i64 c15.var], .sl (.list .int) s5] .int fun s16 =>
 R (.bool (decide (s16 = 0))))
 (R (.bool false)))
 (R (.bool false)))
 (R (.bool false)))
 (R (.bool false)))
 (R (.bool false)))
 (R (.bool false)))
 (R (.bool false)))
 (R (.bool false))) := by kernel_rfl
theorem cordonlaw_storeBegun_sat {r : D}  (h : (∀ d ∈ [], okD d) → fnD Try.prog Ev cordonlaw_storeBegun_A Try.f30.results.toList (bodyOf Try.f30) [] fun d => d = r) : Sat Try.prog f_cordonlaw_storeBegun [] r := by
  have h2 := sat_of (r := r) (args := []) (A := cordonlaw_storeBegun_A) (fn := Try.f30) (body := bodyOf Try.f30) (f := f_cordonlaw_storeBegun) factsEv Try.func30 (by kernel_rfl) (by rw [Try.ntmps30]; rfl) (by rw [Try.ntmps30]; exact Nat.le_of_ble_eq_true rfl)
  with_reducible exact h2 h
/-! ### cordon/cordonlaw.storeIs -/
def cordonlaw_storeIs_A : Ann := { own := [], live := [], n := 19, nils := [], pubs := [] }
theorem cordonlaw_storeIs_eq (a0 : List (List Int)) (a1 : Int) (a2 : Int) (a3 : List (List Int)) (R : D → Prop) : fnD Try.prog Ev cordonlaw_storeIs_A Try.f31.results.toList (bodyOf Try.f31) [.sl (.list .int) a0, .int .i64 a1, .int .i64 a2, .sl (.list .int) a3] R =
 (sel (!decide (a2 = 0))
 (sel (decide (a1 = a2))
 (Call1 Try.prog f_cordonref_SameStore [.sl (.list .int) a0, .sl (.list .int) ([] : List (List Int))] .bool fun c1 =>
 R (.bool c1))
 (R (.bool false)))
 (sel (decide (a1 = a2))
 (Call1 Try.prog f_cordonref_SameStore [.sl (.list .int) a0, .sl (.list .int) a3] .bool fun c2 =>
 R (.bool c2))
 (R (.bool false)))) := by kernel_rfl
theorem cordonlaw_storeIs_sat {r : D} (a0 : List (List Int)) (a1 : Int) (a2 : Int) (a3 : List (List Int)) (h : (∀ d ∈ [.sl (.list .int) a0, .int .i64 a1, .int .i64 a2, .sl (.list .int) a3], okD d) → fnD Try.prog Ev cordonlaw_storeIs_A Try.f31.results.toList (bodyOf Try.f31) [.sl (.list .int) a0, .int .i64 a1, .int .i64 a2, .sl (.list .int) a3] fun d => d = r) : Sat Try.prog f_cordonlaw_storeIs [.sl (.list .int) a0, .int .i64 a1, .int .i64 a2, .sl (.list .int) a3] r := by
  have h2 := sat_of (r := r) (args := [.sl (.list .int) a0, .int .i64 a1, .int .i64 a2, .sl (.list .int) a3]) (A := cordonlaw_storeIs_A) (fn := Try.f31) (body := bodyOf Try.f31) (f := f_cordonlaw_storeIs) factsEv Try.func31 (by kernel_rfl) (by rw [Try.ntmps31]; rfl) (by rw [Try.ntmps31]; exact Nat.le_of_ble_eq_true rfl)
  with_reducible exact h2 h
/-! ### cordon/cordonlaw.litBegun -/
def cordonlaw_litBegun_A : Ann := { own := [1, 4], live := [], n := 80, nils := [], pubs := [] }
theorem cordonlaw_litBegun_eq  (R : D → Prop) : fnD Try.prog Ev cordonlaw_litBegun_A Try.f41.results.toList (bodyOf Try.f41) [] R =
 (Call1 Try.prog f_cordonlaw_two [] .mdl fun c1 =>
 Call2 Try.prog f_lit_Holds [.agg [.sl .var c1.vars, .sl .con c1.cons, .int .i64 c1.goal, .int .i64 c1.var], .agg [.int .i64 1, .int .i64 1, .int .i64 1], .int .i64 1] .bool .int fun l2 l3 =>
 Call1 Try.prog f_cordonlaw_two [] .mdl fun c4 =>
 (Call2 Try.prog f_lit_Not [.agg [.sl .var c4.vars, .sl .con c4.cons, .int .i64 c4.goal, .int .i64 c4.var], .agg [.int .i64 1, .int .i64 1, .int .i64 1]] .lit .int fun l5 l6 =>
 Call1 Try.prog f_cordonlaw_two [] .mdl fun c7 =>
 Call2 Try.prog f_lit_Told [.agg [.sl .var c7.vars, .sl .con c7.cons, .int .i64 c7.goal, .int .i64 c7.var], .sl (.list .int) ([[0, 1, 2], [0, 1, 2]]), .agg [.int .i64 1, .int .i64 1, .int .i64 1]] .int .int fun l8 l9 =>
 Call1 Try.prog f_cordonlaw_two [] .mdl fun c10 =>
 Call2 Try.prog f_lit_Put [.agg [.sl .var c10.vars, .sl .con c10.cons, .int .i64 c10.goal, .int .i64 c10.var], .sl (.list .int) ([[0, 1, 2], [0, 1, 2]]), .agg [.int .i64 1, .int .i64 1, .int .i64 1]] (.list (.list .int)) .int fun l11 l12 =>
 Call1 Try.prog f_cordonlaw_two [] .mdl fun c13 =>
 Call1 Try.prog f_lit_Check [.agg [.sl .var c13.vars, .sl .con c13.cons, .int .i64 c13.goal, .int .i64 c13.var], .agg [.int .i64 1, .int .i64 1, .int .i64 1]] .int fun l14 =>
 sel (decide (l14 = 0))
 (sel (decide (l3 = 0))
 (sel (decide (l6 = 0))
 (sel (decide (l9 = 0))
 (sel (decide (l12 = 0))
 (sel l2
 (sel (decide (l5 = (⟨1, 2, 2⟩ : LitD)))
 (sel (decide (l8 = 0))
 (Call1 Try.prog f_cordonref_SameStore [.sl (.list .int) l11, .sl (.list .int) ([[0, 1, 2], [0, 1]])] .bool fun c15 =>
 R (.bool c15))
 (R (.bool false)))
 (R (.bool false)))
 (R (.bool false)))
 (R (.bool false)))
 (R (.bool false)))
 (R (.bool false)))
 (R (.bool false)))
 (R (.bool false))) ∧
 Call2 Try.prog f_lit_Not [.agg [.sl .var c4.vars, .sl .con c4.cons, .int .i64 c4.goal, .int .i64 c4.var], .agg [.int .i64 1, .int .i64 1, .int .i64 1]] .lit .int fun l16 l17 =>
 Call1 Try.prog f_cordonlaw_two [] .mdl fun c18 =>
 Call2 Try.prog f_lit_Told [.agg [.sl .var c18.vars, .sl .con c18.cons, .int .i64 c18.goal, .int .i64 c18.var], .sl (.list .int) ([[0, 1, 2], [0, 1, 2]]), .agg [.int .i64 1, .int .i64 1, .int .i64 1]] .int .int fun l19 l20 =>
 Call1 Try.prog f_cordonlaw_two [] .mdl fun c21 =>
 Call2 Try.prog f_lit_Put [.agg [.sl .var c21.vars, .sl .con c21.cons, .int .i64 c21.goal, .int .i64 c21.var], .sl (.list .int) ([[0, 1, 2], [0, 1, 2]]), .agg [.int .i64 1, .int .i64 1, .int .i64 1]] (.list (.list .int)) .int fun l22 l23 =>
 Call1 Try.prog f_cordonlaw_two [] .mdl fun c24 =>
 Call1 Try.prog f_lit_Check [.agg [.sl .var c24.vars, .sl .con c24.cons, .int .i64 c24.goal, .int .i64 c24.var], .agg [.int .i64 1, .int .i64 1, .int .i64 1]] .int fun l25 =>
 sel (decide (l25 = 0))
 (sel (decide (l3 = 0))
 (sel (decide (l17 = 0))
 (sel (decide (l20 = 0))
 (sel (decide (l23 = 0))
 (sel l2
 (sel (decide (l16 = (⟨1, 2, 2⟩ : LitD)))
 (sel (decide (l19 = 0))
 (Call1 Try.prog f_cordonref_SameStore [.sl (.list .int) l22, .sl (.list .int) ([[0, 1, 2], [0, 1]])] .bool fun c26 =>
 R (.bool c26))
 (R (.bool false)))
 (R (.bool false)))
 (R (.bool false)))
 (R (.bool false)))
 (R (.bool false)))
 (R (.bool false)))
 (R (.bool false)))
 (R (.bool false))) := by kernel_rfl
theorem cordonlaw_litBegun_sat {r : D}  (h : (∀ d ∈ [], okD d) → fnD Try.prog Ev cordonlaw_litBegun_A Try.f41.results.toList (bodyOf Try.f41) [] fun d => d = r) : Sat Try.prog f_cordonlaw_litBegun [] r := by
  have h2 := sat_of (r := r) (args := []) (A := cordonlaw_litBegun_A) (fn := Try.f41) (body := bodyOf Try.f41) (f := f_cordonlaw_litBegun) factsEv Try.func41 (by kernel_rfl) (by rw [Try.ntmps41]; rfl) (by rw [Try.ntmps41]; exact Nat.le_of_ble_eq_true rfl)
  with_reducible exact h2 h
/-! ### cordon/cordonlaw.modelBegun -/
def cordonlaw_modelBegun_A : Ann := { own := [], live := [], n := 51, nils := [], pubs := [] }
theorem cordonlaw_modelBegun_eq  (R : D → Prop) : fnD Try.prog Ev cordonlaw_modelBegun_A Try.f51.results.toList (bodyOf Try.f51) [] R =
 (Call1 Try.prog f_cordonlaw_two [] .mdl fun c1 =>
 Call2 Try.prog f_model_Holds [.agg [.sl .var c1.vars, .sl .con c1.cons, .int .i64 c1.goal, .int .i64 c1.var], .int .i64 0, .sl .int ([0, 1])] .bool .int fun m2 m3 =>
 Call1 Try.prog f_cordonlaw_two [] .mdl fun c4 =>
 Call2 Try.prog f_model_All [.agg [.sl .var c4.vars, .sl .con c4.cons, .int .i64 c4.goal, .int .i64 c4.var], .sl .int ([2, 1])] .bool .int fun m5 m6 =>
 Call1 Try.prog f_cordonlaw_two [] .mdl fun c7 =>
 Call2 Try.prog f_model_Scope [.agg [.sl .var c7.vars, .sl .con c7.cons, .int .i64 c7.goal, .int .i64 c7.var], .int .i64 0] (.list .int) .int fun m8 m9 =>
 Call1 Try.prog f_cordonlaw_two [] .mdl fun c10 =>
 Call1 Try.prog f_model_Check [.agg [.sl .var c10.vars, .sl .con c10.cons, .int .i64 c10.goal, .int .i64 c10.var]] .int fun m11 =>
 sel (decide (m11 = 0))
 (sel (decide (m3 = 0))
 (sel (decide (m6 = 0))
 (sel (decide (m9 = 0))
 (sel m2
 (sel (!m5)
 (Call1 Try.prog f_cordonref_SameInts [.sl .int m8, .sl .int ([0, 1])] .bool fun c12 =>
 R (.bool c12))
 (R (.bool false)))
 (R (.bool false)))
 (R (.bool false)))
 (R (.bool false)))
 (R (.bool false)))
 (R (.bool false))) := by kernel_rfl
theorem cordonlaw_modelBegun_sat {r : D}  (h : (∀ d ∈ [], okD d) → fnD Try.prog Ev cordonlaw_modelBegun_A Try.f51.results.toList (bodyOf Try.f51) [] fun d => d = r) : Sat Try.prog f_cordonlaw_modelBegun [] r := by
  have h2 := sat_of (r := r) (args := []) (A := cordonlaw_modelBegun_A) (fn := Try.f51) (body := bodyOf Try.f51) (f := f_cordonlaw_modelBegun) factsEv Try.func51 (by kernel_rfl) (by rw [Try.ntmps51]; rfl) (by rw [Try.ntmps51]; exact Nat.le_of_ble_eq_true rfl)
  with_reducible exact h2 h
/-! ### cordon/cordonlaw.two -/
def cordonlaw_two_A : Ann := { own := [0], live := [], n := 9, nils := [], pubs := [] }
theorem cordonlaw_two_eq  (R : D → Prop) : fnD Try.prog Ev cordonlaw_two_A Try.f73.results.toList (bodyOf Try.f73) [] R =
 (R (.agg [.sl .var ([(⟨(⟨#[120]⟩ : ByteArray), 0, 2⟩ : VarD), (⟨(⟨#[121]⟩ : ByteArray), 0, 2⟩ : VarD)]), .sl .con ([(⟨1, [0, 1], [1, -1], -1, ([] : List (List Int)), ([] : List LitD)⟩ : ConD)]), .int .i64 1, .int .i64 1])) := by kernel_rfl
theorem cordonlaw_two_sat {r : D}  (h : (∀ d ∈ [], okD d) → fnD Try.prog Ev cordonlaw_two_A Try.f73.results.toList (bodyOf Try.f73) [] fun d => d = r) : Sat Try.prog f_cordonlaw_two [] r := by
  have h2 := sat_of (r := r) (args := []) (A := cordonlaw_two_A) (fn := Try.f73) (body := bodyOf Try.f73) (f := f_cordonlaw_two) factsEv Try.func73 (by kernel_rfl) (by rw [Try.ntmps73]; rfl) (by rw [Try.ntmps73]; exact Nat.le_of_ble_eq_true rfl)
  with_reducible exact h2 h
end Go.Proofs.Ytonkbljpcgadlaa
