/- What the functions of a package do, as equations of plain propositions: printed by a program that carries the code out on symbols. -/
import Derived.Test.YtonkbljpcgadlaaWEv
namespace Go.Proofs.Ytonkbljpcgadlaa
open Go.RowKit
set_option linter.unusedVariables false
set_option maxRecDepth 100000
/-! ### cordon/cordonlaw.StoreTells -/
def cordonlaw_StoreTells_A : Ann := { own := [], live := [], n := 116, nils := [], pubs := [] }
theorem cordonlaw_StoreTells_eq (a0 : MdlD) (a1 : List (List Int)) (a2 : List (List Int)) (R : D → Prop) : fnD Try.prog Ev cordonlaw_StoreTells_A Try.f7.results.toList (bodyOf Try.f7) [.agg [.sl .var a0.vars, .sl .con a0.cons, .int .i64 a0.goal, .int .i64 a0.var], .sl (.list .int) a1, .sl (.list .int) a2] R =
 (Call2 Try.prog f_store_Begin [.agg [.sl .var a0.vars, .sl .con a0.cons, .int .i64 a0.goal, .int .i64 a0.var]] (.list (.list .int)) .int fun s1 s2 =>
 Call2 Try.prog f_store_Meet [.agg [.sl .var a0.vars, .sl .con a0.cons, .int .i64 a0.goal, .int .i64 a0.var], .sl (.list .int) a1, .sl (.list .int) a2] (.list (.list .int)) .int fun s3 s4 =>
 Call2 Try.prog f_store_Within [.agg [.sl .var a0.vars, .sl .con a0.cons, .int .i64 a0.goal, .int .i64 a0.var], .sl (.list .int) a1, .sl (.list .int) a2] .bool .int fun s5 s6 =>
 Call2 Try.prog f_store_Failed [.agg [.sl .var a0.vars, .sl .con a0.cons, .int .i64 a0.goal, .int .i64 a0.var], .sl (.list .int) a1] .bool .int fun s7 s8 =>
 Call1 Try.prog f_cordonref_CheckModel [.agg [.sl .var a0.vars, .sl .con a0.cons, .int .i64 a0.goal, .int .i64 a0.var]] .int fun c9 =>
 Call1 Try.prog f_cordonlaw_checkStore [.agg [.sl .var a0.vars, .sl .con a0.cons, .int .i64 a0.goal, .int .i64 a0.var], .sl (.list .int) a1] .int fun c10 =>
 sel (decide (c10 = 0))
 (Call1 Try.prog f_cordonref_CheckStore [.agg [.sl .var a0.vars, .sl .con a0.cons, .int .i64 a0.goal, .int .i64 a0.var], .sl (.list .int) a2] .int fun c11 =>
 sel (decide (c9 = 0))
 (Call1 Try.prog f_cordonref_BeginOf [.agg [.sl .var a0.vars, .sl .con a0.cons, .int .i64 a0.goal, .int .i64 a0.var]] (.list (.list .int)) fun c12 =>
 sel (decide (c10 = 0))
 (Call1 Try.prog f_cordonref_HasFailed [.sl (.list .int) a1] .bool fun c13 =>
 sel (decide (c11 = 0))
 (Call1 Try.prog f_cordonref_MeetOf [.sl (.list .int) a1, .sl (.list .int) a2] (.list (.list .int)) fun c14 =>
 Call1 Try.prog f_cordonref_IsWithin [.sl (.list .int) a1, .sl (.list .int) a2] .bool fun c15 =>
 Call1 Try.prog f_cordonlaw_storeBegun [] .bool fun c16 =>
 sel c16
 (Call1 Try.prog f_cordonlaw_storeIs [.sl (.list .int) s1, .int .i64 s2, .int .i64 c9, .sl (.list .int) c12] .bool fun c17 =>
 sel c17
 (Call1 Try.prog f_cordonlaw_storeIs [.sl (.list .int) s3, .int .i64 s4, .int .i64 c11, .sl (.list .int) c14] .bool fun c18 =>
 sel c18
 (sel (decide (s6 = c11))
 (sel (s5 == c15)
 (sel (decide (s8 = c10))
 (sel (s7 == c13)
 (Call1 Try.prog f_store_Check [.agg [.sl .var a0.vars, .sl .con a0.cons, .int .i64 a0.goal, .int .i64 a0.var], .sl (.list .int) a1] .int fun s19 =>
 R (.bool (decide (s19 = c10))))
 (R (.bool false)))
 (R (.bool false)))
 (R (.bool false)))
 (R (.bool false)))
 (R (.bool false)))
 (R (.bool false)))
 (R (.bool false)))
 (Call1 Try.prog f_cordonlaw_storeBegun [] .bool fun c20 =>
 sel c20
 (Call1 Try.prog f_cordonlaw_storeIs [.sl (.list .int) s1, .int .i64 s2, .int .i64 c9, .sl (.list .int) c12] .bool fun c21 =>
 sel c21
 (Call1 Try.prog f_cordonlaw_storeIs [.sl (.list .int) s3, .int .i64 s4, .int .i64 c11, .sl (.list .int) ([] : List (List Int))] .bool fun c22 =>
 sel c22
 (sel (decide (s6 = c11))
 (sel (s5 == false)
 (sel (decide (s8 = c10))
 (sel (s7 == c13)
 (Call1 Try.prog f_store_Check [.agg [.sl .var a0.vars, .sl .con a0.cons, .int .i64 a0.goal, .int .i64 a0.var], .sl (.list .int) a1] .int fun s23 =>
 R (.bool (decide (s23 = c10))))
 (R (.bool false)))
 (R (.bool false)))
 (R (.bool false)))
 (R (.bool false)))
 (R (.bool false)))
 (R (.bool false)))
 (R (.bool false))))
 (sel (decide (c11 = 0))
 (Call1 Try.prog f_cordonref_MeetOf [.sl (.list .int) a1, .sl (.list .int) a2] (.list (.list .int)) fun c24 =>
 Call1 Try.prog f_cordonref_IsWithin [.sl (.list .int) a1, .sl (.list .int) a2] .bool fun c25 =>
 Call1 Try.prog f_cordonlaw_storeBegun [] .bool fun c26 =>
 sel c26
 (Call1 Try.prog f_cordonlaw_storeIs [.sl (.list .int) s1, .int .i64 s2, .int .i64 c9, .sl (.list .int) c12] .bool fun c27 =>
 sel c27
 (Call1 Try.prog f_cordonlaw_storeIs [.sl (.list .int) s3, .int .i64 s4, .int .i64 c11, .sl (.list .int) c24] .bool fun c28 =>
 sel c28
 (sel (decide (s6 = c11))
 (sel (s5 == c25)
 (sel (decide (s8 = c10))
 (sel (s7 == false)
 (Call1 Try.prog f_store_Check [.agg [.sl .var a0.vars, .sl .con a0.cons, .int .i64 a0.goal, .int .i64 a0.var], .sl (.list .int) a1] .int fun s29 =>
 R (.bool (decide (s29 = c10))))
 (R (.bool false)))
 (R (.bool false)))
 (R (.bool false)))
 (R (.bool false)))
 (R (.bool false)))
 (R (.bool false)))
 (R (.bool false)))
 (Call1 Try.prog f_cordonlaw_storeBegun [] .bool fun c30 =>
 sel c30
 (Call1 Try.prog f_cordonlaw_storeIs [.sl (.list .int) s1, .int .i64 s2, .int .i64 c9, .sl (.list .int) c12] .bool fun c31 =>
 sel c31
 (Call1 Try.prog f_cordonlaw_storeIs [.sl (.list .int) s3, .int .i64 s4, .int .i64 c11, .sl (.list .int) ([] : List (List Int))] .bool fun c32 =>
 sel c32
 (sel (decide (s6 = c11))
 (sel (s5 == false)
 (sel (decide (s8 = c10))
 (sel (s7 == false)
 (Call1 Try.prog f_store_Check [.agg [.sl .var a0.vars, .sl .con a0.cons, .int .i64 a0.goal, .int .i64 a0.var], .sl (.list .int) a1] .int fun s33 =>
 R (.bool (decide (s33 = c10))))
 (R (.bool false)))
 (R (.bool false)))
 (R (.bool false)))
 (R (.bool false)))
 (R (.bool false)))
 (R (.bool false)))
 (R (.bool false)))))
 (sel (decide (c10 = 0))
 (Call1 Try.prog f_cordonref_HasFailed [.sl (.list .int) a1] .bool fun c34 =>
 sel (decide (c11 = 0))
 (Call1 Try.prog f_cordonref_MeetOf [.sl (.list .int) a1, .sl (.list .int) a2] (.list (.list .int)) fun c35 =>
 Call1 Try.prog f_cordonref_IsWithin [.sl (.list .int) a1, .sl (.list .int) a2] .bool fun c36 =>
 Call1 Try.prog f_cordonlaw_storeBegun [] .bool fun c37 =>
 sel c37
 (Call1 Try.prog f_cordonlaw_storeIs [.sl (.list .int) s1, .int .i64 s2, .int .i64 c9, .sl (.list .int) ([] : List (List Int))] .bool fun c38 =>
 sel c38
 (Call1 Try.prog f_cordonlaw_storeIs [.sl (.list .int) s3, .int .i64 s4, .int .i64 c11, .sl (.list .int) c35] .bool fun c39 =>
 sel c39
 (sel (decide (s6 = c11))
 (sel (s5 == c36)
 (sel (decide (s8 = c10))
 (sel (s7 == c34)
 (Call1 Try.prog f_store_Check [.agg [.sl .var a0.vars, .sl .con a0.cons, .int .i64 a0.goal, .int .i64 a0.var], .sl (.list .int) a1] .int fun s40 =>
 R (.bool (decide (s40 = c10))))
 (R (.bool false)))
 (R (.bool false)))
 (R (.bool false)))
 (R (.bool false)))
 (R (.bool false)))
 (R (.bool false)))
 (R (.bool false)))
 (Call1 Try.prog f_cordonlaw_storeBegun [] .bool fun c41 =>
 sel c41
 (Call1 Try.prog f_cordonlaw_storeIs [.sl (.list .int) s1, .int .i64 s2, .int .i64 c9, .sl (.list .int) ([] : List (List Int))] .bool fun c42 =>
 sel c42
 (Call1 Try.prog f_cordonlaw_storeIs [.sl (.list .int) s3, .int .i64 s4, .int .i64 c11, .sl (.list .int) ([] : List (List Int))] .bool fun c43 =>
 sel c43
 (sel (decide (s6 = c11))
 (sel (s5 == false)
 (sel (decide (s8 = c10))
 (sel (s7 == c34)
 (Call1 Try.prog f_store_Check [.agg [.sl .var a0.vars, .sl .con a0.cons, .int .i64 a0.goal, .int .i64 a0.var], .sl (.list .int) a1] .int fun s44 =>
 R (.bool (decide (s44 = c10))))
 (R (.bool false)))
 (R (.bool false)))
 (R (.bool false)))
 (R (.bool false)))
 (R (.bool false)))
 (R (.bool false)))
 (R (.bool false))))
 (sel (decide (c11 = 0))
 (Call1 Try.prog f_cordonref_MeetOf [.sl (.list .int) a1, .sl (.list .int) a2] (.list (.list .int)) fun c45 =>
 Call1 Try.prog f_cordonref_IsWithin [.sl (.list .int) a1, .sl (.list .int) a2] .bool fun c46 =>
 Call1 Try.prog f_cordonlaw_storeBegun [] .bool fun c47 =>
 sel c47
 (Call1 Try.prog f_cordonlaw_storeIs [.sl (.list .int) s1, .int .i64 s2, .int .i64 c9, .sl (.list .int) ([] : List (List Int))] .bool fun c48 =>
 sel c48
 (Call1 Try.prog f_cordonlaw_storeIs [.sl (.list .int) s3, .int .i64 s4, .int .i64 c11, .sl (.list .int) c45] .bool fun c49 =>
 sel c49
 (sel (decide (s6 = c11))
 (sel (s5 == c46)
 (sel (decide (s8 = c10))
 (sel (s7 == false)
 (Call1 Try.prog f_store_Check [.agg [.sl .var a0.vars, .sl .con a0.cons, .int .i64 a0.goal, .int .i64 a0.var], .sl (.list .int) a1] .int fun s50 =>
 R (.bool (decide (s50 = c10))))
 (R (.bool false)))
 (R (.bool false)))
 (R (.bool false)))
 (R (.bool false)))
 (R (.bool false)))
 (R (.bool false)))
 (R (.bool false)))
 (Call1 Try.prog f_cordonlaw_storeBegun [] .bool fun c51 =>
 sel c51
 (Call1 Try.prog f_cordonlaw_storeIs [.sl (.list .int) s1, .int .i64 s2, .int .i64 c9, .sl (.list .int) ([] : List (List Int))] .bool fun c52 =>
 sel c52
 (Call1 Try.prog f_cordonlaw_storeIs [.sl (.list .int) s3, .int .i64 s4, .int .i64 c11, .sl (.list .int) ([] : List (List Int))] .bool fun c53 =>
 sel c53
 (sel (decide (s6 = c11))
 (sel (s5 == false)
 (sel (decide (s8 = c10))
 (sel (s7 == false)
 (Call1 Try.prog f_store_Check [.agg [.sl .var a0.vars, .sl .con a0.cons, .int .i64 a0.goal, .int .i64 a0.var], .sl (.list .int) a1] .int fun s54 =>
 R (.bool (decide (s54 = c10))))
 (R (.bool false)))
 (R (.bool false)))
 (R (.bool false)))
 (R (.bool false)))
 (R (.bool false)))
 (R (.bool false)))
 (R (.bool false))))))
 (sel (decide (c9 = 0))
 (Call1 Try.prog f_cordonref_BeginOf [.agg [.sl .var a0.vars, .sl .con a0.cons, .int .i64 a0.goal, .int .i64 a0.var]] (.list (.list .int)) fun c55 =>
 sel (decide (c10 = 0))
 (Call1 Try.prog f_cordonref_HasFailed [.sl (.list .int) a1] .bool fun c56 =>
 sel (decide (c10 = 0))
 (Call1 Try.prog f_cordonref_MeetOf [.sl (.list .int) a1, .sl (.list .int) a2] (.list (.list .int)) fun c57 =>
 Call1 Try.prog f_cordonref_IsWithin [.sl (.list .int) a1, .sl (.list .int) a2] .bool fun c58 =>
 Call1 Try.prog f_cordonlaw_storeBegun [] .bool fun c59 =>
 sel c59
 (Call1 Try.prog f_cordonlaw_storeIs [.sl (.list .int) s1, .int .i64 s2, .int .i64 c9, .sl (.list .int) c55] .bool fun c60 =>
 sel c60
 (Call1 Try.prog f_cordonlaw_storeIs [.sl (.list .int) s3, .int .i64 s4, .int .i64 c10, .sl (.list .int) c57] .bool fun c61 =>
 sel c61
 (sel (decide (s6 = c10))
 (sel (s5 == c58)
 (sel (decide (s8 = c10))
 (sel (s7 == c56)
 (Call1 Try.prog f_store_Check [.agg [.sl .var a0.vars, .sl .con a0.cons, .int .i64 a0.goal, .int .i64 a0.var], .sl (.list .int) a1] .int fun s62 =>
 R (.bool (decide (s62 = c10))))
 (R (.bool false)))
 (R (.bool false)))
 (R (.bool false)))
 (R (.bool false)))
 (R (.bool false)))
 (R (.bool false)))
 (R (.bool false)))
 (Call1 Try.prog f_cordonlaw_storeBegun [] .bool fun c63 =>
 sel c63
 (Call1 Try.prog f_cordonlaw_storeIs [.sl (.list .int) s1, .int .i64 s2, .int .i64 c9, .sl (.list .int) c55] .bool fun c64 =>
 sel c64
 (Call1 Try.prog f_cordonlaw_storeIs [.sl (.list .int) s3, .int .i64 s4, .int .i64 c10, .sl (.list .int) ([] : List (List Int))] .bool fun c65 =>
 sel c65
 (sel (decide (s6 = c10))
 (sel (s5 == false)
 (sel (decide (s8 = c10))
 (sel (s7 == c56)
 (Call1 Try.prog f_store_Check [.agg [.sl .var a0.vars, .sl .con a0.cons, .int .i64 a0.goal, .int .i64 a0.var], .sl (.list .int) a1] .int fun s66 =>
 R (.bool (decide (s66 = c10))))
 (R (.bool false)))
 (R (.bool false)))
 (R (.bool false)))
 (R (.bool false)))
 (R (.bool false)))
 (R (.bool false)))
 (R (.bool false))))
 (sel (decide (c10 = 0))
 (Call1 Try.prog f_cordonref_MeetOf [.sl (.list .int) a1, .sl (.list .int) a2] (.list (.list .int)) fun c67 =>
 Call1 Try.prog f_cordonref_IsWithin [.sl (.list .int) a1, .sl (.list .int) a2] .bool fun c68 =>
 Call1 Try.prog f_cordonlaw_storeBegun [] .bool fun c69 =>
 sel c69
 (Call1 Try.prog f_cordonlaw_storeIs [.sl (.list .int) s1, .int .i64 s2, .int .i64 c9, .sl (.list .int) c55] .bool fun c70 =>
 sel c70
 (Call1 Try.prog f_cordonlaw_storeIs [.sl (.list .int) s3, .int .i64 s4, .int .i64 c10, .sl (.list .int) c67] .bool fun c71 =>
 sel c71
 (sel (decide (s6 = c10))
 (sel (s5 == c68)
 (sel (decide (s8 = c10))
 (sel (s7 == false)
 (Call1 Try.prog f_store_Check [.agg [.sl .var a0.vars, .sl .con a0.cons, .int .i64 a0.goal, .int .i64 a0.var], .sl (.list .int) a1] .int fun s72 =>
 R (.bool (decide (s72 = c10))))
 (R (.bool false)))
 (R (.bool false)))
 (R (.bool false)))
 (R (.bool false)))
 (R (.bool false)))
 (R (.bool false)))
 (R (.bool false)))
 (Call1 Try.prog f_cordonlaw_storeBegun [] .bool fun c73 =>
 sel c73
 (Call1 Try.prog f_cordonlaw_storeIs [.sl (.list .int) s1, .int .i64 s2, .int .i64 c9, .sl (.list .int) c55] .bool fun c74 =>
 sel c74
 (Call1 Try.prog f_cordonlaw_storeIs [.sl (.list .int) s3, .int .i64 s4, .int .i64 c10, .sl (.list .int) ([] : List (List Int))] .bool fun c75 =>
 sel c75
 (sel (decide (s6 = c10))
 (sel (s5 == false)
 (sel (decide (s8 = c10))
 (sel (s7 == false)
 (Call1 Try.prog f_store_Check [.agg [.sl .var a0.vars, .sl .con a0.cons, .int .i64 a0.goal, .int .i64 a0.var], .sl (.list .int) a1] .int fun s76 =>
 R (.bool (decide (s76 = c10))))
 (R (.bool false)))
 (R (.bool false)))
 (R (.bool false)))
 (R (.bool false)))
 (R (.bool false)))
 (R (.bool false)))
 (R (.bool false)))))
 (sel (decide (c10 = 0))
 (Call1 Try.prog f_cordonref_HasFailed [.sl (.list .int) a1] .bool fun c77 =>
 sel (decide (c10 = 0))
 (Call1 Try.prog f_cordonref_MeetOf [.sl (.list .int) a1, .sl (.list .int) a2] (.list (.list .int)) fun c78 =>
 Call1 Try.prog f_cordonref_IsWithin [.sl (.list .int) a1, .sl (.list .int) a2] .bool fun c79 =>
 Call1 Try.prog f_cordonlaw_storeBegun [] .bool fun c80 =>
 sel c80
 (Call1 Try.prog f_cordonlaw_storeIs [.sl (.list .int) s1, .int .i64 s2, .int .i64 c9, .sl (.list .int) ([] : List (List Int))] .bool fun c81 =>
 sel c81
 (Call1 Try.prog f_cordonlaw_storeIs [.sl (.list .int) s3, .int .i64 s4, .int .i64 c10, .sl (.list .int) c78] .bool fun c82 =>
 sel c82
 (sel (decide (s6 = c10))
 (sel (s5 == c79)
 (sel (decide (s8 = c10))
 (sel (s7 == c77)
 (Call1 Try.prog f_store_Check [.agg [.sl .var a0.vars, .sl .con a0.cons, .int .i64 a0.goal, .int .i64 a0.var], .sl (.list .int) a1] .int fun s83 =>
 R (.bool (decide (s83 = c10))))
 (R (.bool false)))
 (R (.bool false)))
 (R (.bool false)))
 (R (.bool false)))
 (R (.bool false)))
 (R (.bool false)))
 (R (.bool false)))
 (Call1 Try.prog f_cordonlaw_storeBegun [] .bool fun c84 =>
 sel c84
 (Call1 Try.prog f_cordonlaw_storeIs [.sl (.list .int) s1, .int .i64 s2, .int .i64 c9, .sl (.list .int) ([] : List (List Int))] .bool fun c85 =>
 sel c85
 (Call1 Try.prog f_cordonlaw_storeIs [.sl (.list .int) s3, .int .i64 s4, .int .i64 c10, .sl (.list .int) ([] : List (List Int))] .bool fun c86 =>
 sel c86
 (sel (decide (s6 = c10))
 (sel (s5 == false)
 (sel (decide (s8 = c10))
 (sel (s7 == c77)
 (Call1 Try.prog f_store_Check [.agg [.sl .var a0.vars, .sl .con a0.cons, .int .i64 a0.goal, .int .i64 a0.var], .sl (.list .int) a1] .int fun s87 =>
 R (.bool (decide (s87 = c10))))
 (R (.bool false)))
 (R (.bool false)))
 (R (.bool false)))
 (R (.bool false)))
 (R (.bool false)))
 (R (.bool false)))
 (R (.bool false))))
 (sel (decide (c10 = 0))
 (Call1 Try.prog f_cordonref_MeetOf [.sl (.list .int) a1, .sl (.list .int) a2] (.list (.list .int)) fun c88 =>
 Call1 Try.prog f_cordonref_IsWithin [.sl (.list .int) a1, .sl (.list .int) a2] .bool fun c89 =>
 Call1 Try.prog f_cordonlaw_storeBegun [] .bool fun c90 =>
 sel c90
 (Call1 Try.prog f_cordonlaw_storeIs [.sl (.list .int) s1, .int .i64 s2, .int .i64 c9, .sl (.list .int) ([] : List (List Int))] .bool fun c91 =>
 sel c91
 (Call1 Try.prog f_cordonlaw_storeIs [.sl (.list .int) s3, .int .i64 s4, .int .i64 c10, .sl (.list .int) c88] .bool fun c92 =>
 sel c92
 (sel (decide (s6 = c10))
 (sel (s5 == c89)
 (sel (decide (s8 = c10))
 (sel (s7 == false)
 (Call1 Try.prog f_store_Check [.agg [.sl .var a0.vars, .sl .con a0.cons, .int .i64 a0.goal, .int .i64 a0.var], .sl (.list .int) a1] .int fun s93 =>
 R (.bool (decide (s93 = c10))))
 (R (.bool false)))
 (R (.bool false)))
 (R (.bool false)))
 (R (.bool false)))
 (R (.bool false)))
 (R (.bool false)))
 (R (.bool false)))
 (Call1 Try.prog f_cordonlaw_storeBegun [] .bool fun c94 =>
 sel c94
 (Call1 Try.prog f_cordonlaw_storeIs [.sl (.list .int) s1, .int .i64 s2, .int .i64 c9, .sl (.list .int) ([] : List (List Int))] .bool fun c95 =>
 sel c95
 (Call1 Try.prog f_cordonlaw_storeIs [.sl (.list .int) s3, .int .i64 s4, .int .i64 c10, .sl (.list .int) ([] : List (List Int))] .bool fun c96 =>
 sel c96
 (sel (decide (s6 = c10))
 (sel (s5 == false)
 (sel (decide (s8 = c10))
 (sel (s7 == false)
 (Call1 Try.prog f_store_Check [.agg [.sl .var a0.vars, .sl .con a0.cons, .int .i64 a0.goal, .int .i64 a0.var], .sl (.list .int) a1] .int fun s97 =>
 R (.bool (decide (s97 = c10))))
 (R (.bool false)))
 (R (.bool false)))
 (R (.bool false)))
 (R (.bool false)))
 (R (.bool false)))
 (R (.bool false)))
 (R (.bool false))))))) := by kernel_rfl
theorem cordonlaw_StoreTells_sat {r : D} (a0 : MdlD) (a1 : List (List Int)) (a2 : List (List Int)) (h : (∀ d ∈ [.agg [.sl .var a0.vars, .sl .con a0.cons, .int .i64 a0.goal, .int .i64 a0.var], .sl (.list .int) a1, .sl (.list .int) a2], okD d) → fnD Try.prog Ev cordonlaw_StoreTells_A Try.f7.results.toList (bodyOf Try.f7) [.agg [.sl .var a0.vars, .sl .con a0.cons, .int .i64 a0.goal, .int .i64 a0.var], .sl (.list .int) a1, .sl (.list .int) a2] fun d => d = r) : Sat Try.prog f_cordonlaw_StoreTells [.agg [.sl .var a0.vars, .sl .con a0.cons, .int .i64 a0.goal, .int .i64 a0.var], .sl (.list .int) a1, .sl (.list .int) a2] r := by
  have h2 := sat_of (r := r) (args := [.agg [.sl .var a0.vars, .sl .con a0.cons, .int .i64 a0.goal, .int .i64 a0.var], .sl (.list .int) a1, .sl (.list .int) a2]) (A := cordonlaw_StoreTells_A) (fn := Try.f7) (body := bodyOf Try.f7) (f := f_cordonlaw_StoreTells) factsEv Try.func7 (by kernel_rfl) (by rw [Try.ntmps7]; rfl) (by rw [Try.ntmps7]; exact Nat.le_of_ble_eq_true rfl)
  with_reducible exact h2 h
/-! ### cordon/cordonlaw.StoreMeets -/
def cordonlaw_StoreMeets_A : Ann := { own := [], live := [], n := 106, nils := [], pubs := [] }
theorem cordonlaw_StoreMeets_eq (a0 : MdlD) (a1 : List (List Int)) (a2 : List (List Int)) (a3 : List (List Int)) (R : D → Prop) : fnD Try.prog Ev cordonlaw_StoreMeets_A Try.f8.results.toList (bodyOf Try.f8) [.agg [.sl .var a0.vars, .sl .con a0.cons, .int .i64 a0.goal, .int .i64 a0.var], .sl (.list .int) a1, .sl (.list .int) a2, .sl (.list .int) a3] R =
 (Call2 Try.prog f_store_Meet [.agg [.sl .var a0.vars, .sl .con a0.cons, .int .i64 a0.goal, .int .i64 a0.var], .sl (.list .int) a1, .sl (.list .int) a2] (.list (.list .int)) .int fun s1 s2 =>
 Call1 Try.prog f_cordonlaw_storeBegun [] .bool fun c3 =>
 sel (!c3)
 (R (.bool false))
 (sel (!decide (s2 = 0))
 (R (.bool (decide ((s1.length : Int) = 0))))
 (Call2 Try.prog f_store_Within [.agg [.sl .var a0.vars, .sl .con a0.cons, .int .i64 a0.goal, .int .i64 a0.var], .sl (.list .int) s1, .sl (.list .int) a1] .bool .int fun s4 s5 =>
 Call2 Try.prog f_store_Within [.agg [.sl .var a0.vars, .sl .con a0.cons, .int .i64 a0.goal, .int .i64 a0.var], .sl (.list .int) s1, .sl (.list .int) a2] .bool .int fun s6 s7 =>
 sel (!decide (s5 = 0))
 (R (.bool false))
 (sel (!decide (s7 = 0))
 (R (.bool false))
 (sel (!s4)
 (R (.bool false))
 (sel (!s6)
 (R (.bool false))
 (Call2 Try.prog f_store_Within [.agg [.sl .var a0.vars, .sl .con a0.cons, .int .i64 a0.goal, .int .i64 a0.var], .sl (.list .int) a3, .sl (.list .int) a1] .bool .int fun s8 s9 =>
 Call2 Try.prog f_store_Within [.agg [.sl .var a0.vars, .sl .con a0.cons, .int .i64 a0.goal, .int .i64 a0.var], .sl (.list .int) a3, .sl (.list .int) a2] .bool .int fun s10 s11 =>
 Call2 Try.prog f_store_Within [.agg [.sl .var a0.vars, .sl .con a0.cons, .int .i64 a0.goal, .int .i64 a0.var], .sl (.list .int) a3, .sl (.list .int) s1] .bool .int fun s12 s13 =>
 sel (!decide (s9 = 0))
 (sel (decide (s11 = s9))
 (R (.bool (decide (s13 = s9))))
 (R (.bool false)))
 (sel (decide (s11 = 0))
 (sel (decide (s13 = 0))
 (sel s8
 (R (.bool (s12 == s10)))
 (R (.bool (s12 == false))))
 (R (.bool false)))
 (R (.bool false)))))))))) := by kernel_rfl
theorem cordonlaw_StoreMeets_sat {r : D} (a0 : MdlD) (a1 : List (List Int)) (a2 : List (List Int)) (a3 : List (List Int)) (h : (∀ d ∈ [.agg [.sl .var a0.vars, .sl .con a0.cons, .int .i64 a0.goal, .int .i64 a0.var], .sl (.list .int) a1, .sl (.list .int) a2, .sl (.list .int) a3], okD d) → fnD Try.prog Ev cordonlaw_StoreMeets_A Try.f8.results.toList (bodyOf Try.f8) [.agg [.sl .var a0.vars, .sl .con a0.cons, .int .i64 a0.goal, .int .i64 a0.var], .sl (.list .int) a1, .sl (.list .int) a2, .sl (.list .int) a3] fun d => d = r) : Sat Try.prog f_cordonlaw_StoreMeets [.agg [.sl .var a0.vars, .sl .con a0.cons, .int .i64 a0.goal, .int .i64 a0.var], .sl (.list .int) a1, .sl (.list .int) a2, .sl (.list .int) a3] r := by
  have h2 := sat_of (r := r) (args := [.agg [.sl .var a0.vars, .sl .con a0.cons, .int .i64 a0.goal, .int .i64 a0.var], .sl (.list .int) a1, .sl (.list .int) a2, .sl (.list .int) a3]) (A := cordonlaw_StoreMeets_A) (fn := Try.f8) (body := bodyOf Try.f8) (f := f_cordonlaw_StoreMeets) factsEv Try.func8 (by kernel_rfl) (by rw [Try.ntmps8]; rfl) (by rw [Try.ntmps8]; exact Nat.le_of_ble_eq_true rfl)
  with_reducible exact h2 h
/-! ### cordon/cordonlaw.checkStore -/
def cordonlaw_checkStore_A : Ann := { own := [], live := [], n := 14, nils := [], pubs := [] }
theorem cordonlaw_checkStore_eq (a0 : MdlD) (a1 : List (List Int)) (R : D → Prop) : fnD Try.prog Ev cordonlaw_checkStore_A Try.f24.results.toList (bodyOf Try.f24) [.agg [.sl .var a0.vars, .sl .con a0.cons, .int .i64 a0.goal, .int .i64 a0.var], .sl (.list .int) a1] R =
 (Call1 Try.prog f_cordonref_CheckModel [.agg [.sl .var a0.vars, .sl .con a0.cons, .int .i64 a0.goal, .int .i64 a0.var]] .int fun c1 =>
 sel (decide (c1 = 0))
 (Call1 Try.prog f_cordonref_CheckStore [.agg [.sl .var a0.vars, .sl .con a0.cons, .int .i64 a0.goal, .int .i64 a0.var], .sl (.list .int) a1] .int fun c2 =>
 R (.int .i64 c2))
 (R (.int .i64 c1))) := by kernel_rfl
theorem cordonlaw_checkStore_sat {r : D} (a0 : MdlD) (a1 : List (List Int)) (h : (∀ d ∈ [.agg [.sl .var a0.vars, .sl .con a0.cons, .int .i64 a0.goal, .int .i64 a0.var], .sl (.list .int) a1], okD d) → fnD Try.prog Ev cordonlaw_checkStore_A Try.f24.results.toList (bodyOf Try.f24) [.agg [.sl .var a0.vars, .sl .con a0.cons, .int .i64 a0.goal, .int .i64 a0.var], .sl (.list .int) a1] fun d => d = r) : Sat Try.prog f_cordonlaw_checkStore [.agg [.sl .var a0.vars, .sl .con a0.cons, .int .i64 a0.goal, .int .i64 a0.var], .sl (.list .int) a1] r := by
  have h2 := sat_of (r := r) (args := [.agg [.sl .var a0.vars, .sl .con a0.cons, .int .i64 a0.goal, .int .i64 a0.var], .sl (.list .int) a1]) (A := cordonlaw_checkStore_A) (fn := Try.f24) (body := bodyOf Try.f24) (f := f_cordonlaw_checkStore) factsEv Try.func24 (by kernel_rfl) (by rw [Try.ntmps24]; rfl) (by rw [Try.ntmps24]; exact Nat.le_of_ble_eq_true rfl)
  with_reducible exact h2 h
/-! ### cordon/cordonlaw.storeBegun -/
def cordonlaw_storeBegun_A : Ann := { own := [], live := [], n := 77, nils := [], pubs := [] }
theorem cordonlaw_storeBegun_eq  (R : D → Prop) : fnD Try.prog Ev cordonlaw_storeBegun_A Try.f30.results.toList (bodyOf Try.f30) [] R =
 (Call1 Try.prog f_cordonlaw_two [] .mdl fun c1 =>
 Call2 Try.prog f_store_Begin [.agg [.sl .var c1.vars, .sl .con c1.cons, .int .i64 c1.goal, .int .i64 c1.var]] (.list (.list .int)) .int fun s2 s3 =>
 Call1 Try.prog f_cordonlaw_two [] .mdl fun c4 =>
 Call2 Try.prog f_store_Meet [.agg [.sl .var c4.vars, .sl .con c4.cons, .int .i64 c4.goal, .int .i64 c4.var], .sl (.list .int) s2, .sl (.list .int) ([[1], [0, 2]])] (.list (.list .int)) .int fun s5 s6 =>
 Call1 Try.prog f_cordonlaw_two [] .mdl fun c7 =>
 Call2 Try.prog f_store_Within [.agg [.sl .var c7.vars, .sl .con c7.cons, .int .i64 c7.goal, .int .i64 c7.var], .sl (.list .int) s5, .sl (.list .int) s2] .bool .int fun s8 s9 =>
 Call1 Try.prog f_cordonlaw_two [] .mdl fun c10 =>
 Call2 Try.prog f_store_Failed [.agg [.sl .var c10.vars, .sl .con c10.cons, .int .i64 c10.goal, .int .i64 c10.var], .sl (.list .int) s2] .bool .int fun s11 s12 =>
 sel (decide (s3 = 0))
 (sel (decide (s6 = 0))
 (sel (decide (s9 = 0))
 (sel (decide (s12 = 0))
 (Call1 Try.prog f_cordonref_SameStore [.sl (.list .int) s2, .sl (.list .int) ([[0, 1, 2], [0, 1, 2]])] .bool fun c13 =>
 sel c13
 (Call1 Try.prog f_cordonref_SameStore [.sl (.list .int) s5, .sl (.list .int) ([[1], [0, 2]])] .bool fun c14 =>
 sel c14
 (sel s8
 (sel (!s11)
 (Call1 Try.prog f_cordonlaw_two [] .mdl fun c15 =>
 Call1 Try.prog f_store_Check [.agg [.sl .var c15.vars, .sl .con c15.cons, .int .i64 c15.goal, .int .i64 c15.var], .sl (.list .int) s5] .int fun s16 =>
 R (.bool (decide (s16 = 0))))
 (R (.bool false)))
 (R (.bool false)))
 (R (.bool false)))
 (R (.bool false)))
 (R (.bool false)))
 (R (.bool false)))
 (R (.bool false)))
 (R (.bool false))) := by kernel_rfl
theorem cordonlaw_storeBegun_sat {r : D}  (h : (∀ d ∈ [], okD d) → fnD Try.prog Ev cordonlaw_storeBegun_A Try.f30.results.toList (bodyOf Try.f30) [] fun d => d = r) : Sat Try.prog f_cordonlaw_storeBegun [] r := by
  have h2 := sat_of (r := r) (args := []) (A := cordonlaw_storeBegun_A) (fn := Try.f30) (body := bodyOf Try.f30) (f := f_cordonlaw_storeBegun) factsEv Try.func30 (by kernel_rfl) (by rw [Try.ntmps30]; rfl) (by rw [Try.ntmps30]; exact Nat.le_of_ble_eq_true rfl)
  with_reducible exact h2 h
/-! ### cordon/cordonlaw.storeIs -/
def cordonlaw_storeIs_A : Ann := { own := [], live := [], n := 19, nils := [], pubs := [] }
theorem cordonlaw_storeIs_eq (a0 : List (List Int)) (a1 : Int) (a2 : Int) (a3 : List (List Int)) (R : D → Prop) : fnD Try.prog Ev cordonlaw_storeIs_A Try.f31.results.toList (bodyOf Try.f31) [.sl (.list .int) a0, .int .i64 a1, .int .i64 a2, .sl (.list .int) a3] R =
 (sel (!decide (a2 = 0))
 (sel (decide (a1 = a2))
 (Call1 Try.prog f_cordonref_SameStore [.sl (.list .int) a0, .sl (.list .int) ([] : List (List Int))] .bool fun c1 =>
 R (.bool c1))
 (R (.bool false)))
 (sel (decide (a1 = a2))
 (Call1 Try.prog f_cordonref_SameStore [.sl (.list .int) a0, .sl (.list .int) a3] .bool fun c2 =>
 R (.bool c2))
 (R (.bool false)))) := by kernel_rfl
theorem cordonlaw_storeIs_sat {r : D} (a0 : List (List Int)) (a1 : Int) (a2 : Int) (a3 : List (List Int)) (h : (∀ d ∈ [.sl (.list .int) a0, .int .i64 a1, .int .i64 a2, .sl (.list .int) a3], okD d) → fnD Try.prog Ev cordonlaw_storeIs_A Try.f31.results.toList (bodyOf Try.f31) [.sl (.list .int) a0, .int .i64 a1, .int .i64 a2, .sl (.list .int) a3] fun d => d = r) : Sat Try.prog f_cordonlaw_storeIs [.sl (.list .int) a0, .int .i64 a1, .int .i64 a2, .sl (.list .int) a3] r := by
  have h2 := sat_of (r := r) (args := [.sl (.list .int) a0, .int .i64 a1, .int .i64 a2, .sl (.list .int) a3]) (A := cordonlaw_storeIs_A) (fn := Try.f31) (body := bodyOf Try.f31) (f := f_cordonlaw_storeIs) factsEv Try.func31 (by kernel_rfl) (by rw [Try.ntmps31]; rfl) (by rw [Try.ntmps31]; exact Nat.le_of_ble_eq_true rfl)
  with_reducible exact h2 h
/-! ### cordon/cordonlaw.two -/
def cordonlaw_two_A : Ann := { own := [0], live := [], n := 9, nils := [], pubs := [] }
theorem cordonlaw_two_eq  (R : D → Prop) : fnD Try.prog Ev cordonlaw_two_A Try.f73.results.toList (bodyOf Try.f73) [] R =
 (R (.agg [.sl .var ([(⟨(⟨#[120]⟩ : ByteArray), 0, 2⟩ : VarD), (⟨(⟨#[121]⟩ : ByteArray), 0, 2⟩ : VarD)]), .sl .con ([(⟨1, [0, 1], [1, -1], -1, ([] : List (List Int)), ([] : List LitD)⟩ : ConD)]), .int .i64 1, .int .i64 1])) := by kernel_rfl
theorem cordonlaw_two_sat {r : D}  (h : (∀ d ∈ [], okD d) → fnD Try.prog Ev cordonlaw_two_A Try.f73.results.toList (bodyOf Try.f73) [] fun d => d = r) : Sat Try.prog f_cordonlaw_two [] r := by
  have h2 := sat_of (r := r) (args := []) (A := cordonlaw_two_A) (fn := Try.f73) (body := bodyOf Try.f73) (f := f_cordonlaw_two) factsEv Try.func73 (by kernel_rfl) (by rw [Try.ntmps73]; rfl) (by rw [Try.ntmps73]; exact Nat.le_of_ble_eq_true rfl)
  with_reducible exact h2 h
end Go.Proofs.Ytonkbljpcgadlaa
