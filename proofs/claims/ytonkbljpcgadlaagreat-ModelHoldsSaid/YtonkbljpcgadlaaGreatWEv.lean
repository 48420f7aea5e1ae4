/- The types and the functions of the program that the walks need, read from its table: printed by a program. -/
import Derived.Test.YtonkbljpcgadlaaGreatProg
import Derived.Test.YtonkbljpcgadlaaGreatMD
namespace Go.Proofs.YtonkbljpcgadlaaGreat
open Go.RowKit
set_option linter.unusedVariables false
set_option maxRecDepth 100000
abbrev f_gosem_cut_init : FuncId := 2
abbrev f_cordonlaw_ClauseTells : FuncId := 3
abbrev f_cordonlaw_ModelHolds : FuncId := 4
abbrev f_clause_Holds : FuncId := 5
abbrev f_clause_Unit : FuncId := 6
abbrev f_clause_Deny : FuncId := 7
abbrev f_cordonref_CheckModel : FuncId := 8
abbrev f_cordonref_CheckClause : FuncId := 9
abbrev f_cordonlaw_checkStore : FuncId := 10
abbrev f_cordonref_UnitOf : FuncId := 11
abbrev f_cordonref_DenyOf : FuncId := 12
abbrev f_cordonlaw_clauseBegun : FuncId := 13
abbrev f_clause_Check : FuncId := 14
abbrev f_cordonref_ClauseHolds : FuncId := 15
abbrev f_cordonlaw_storeIs : FuncId := 16
abbrev f_model_Holds : FuncId := 17
abbrev f_model_All : FuncId := 18
abbrev f_cordonlaw_far : FuncId := 19
abbrev f_cordonlaw_modelBegun : FuncId := 20
abbrev f_cordonref_ConHolds : FuncId := 21
abbrev f_cordonref_AllHold : FuncId := 22
abbrev f_slices_ContainsFunc_api_Clause_api_Lit : FuncId := 23
abbrev f_clause_Holds_1 : FuncId := 24
abbrev f_model_Lit : FuncId := 25
abbrev f_clause_ready : FuncId := 26
abbrev f_clause_Put : FuncId := 27
abbrev f_clause_Without : FuncId := 28
abbrev f_cordonref_IsName : FuncId := 29
abbrev f_cordonref_between : FuncId := 30
abbrev f_cordonref_checkCon : FuncId := 31
abbrev f_cordonref_CheckLit : FuncId := 32
abbrev f_cordonref_CheckStore : FuncId := 33
abbrev f_cordonref_HasFailed : FuncId := 34
abbrev f_cordonref_ToldOf : FuncId := 35
abbrev f_cordonref_HasInt : FuncId := 36
abbrev f_cordonref_NoValues : FuncId := 37
abbrev f_cordonref_LitHolds : FuncId := 38
abbrev f_cordonlaw_two : FuncId := 39
abbrev f_cordonref_SameStore : FuncId := 40
abbrev f_model_Check : FuncId := 41
abbrev f_clause_Right : FuncId := 42
abbrev f_model_ready : FuncId := 43
abbrev f_slices_ContainsFunc_l_int_int : FuncId := 44
abbrev f_model_Holds_1 : FuncId := 45
abbrev f_model_within : FuncId := 46
abbrev f_model_True : FuncId := 47
abbrev f_model_Whole : FuncId := 48
abbrev f_model_Scope : FuncId := 49
abbrev f_cordonref_SameInts : FuncId := 50
abbrev f_slices_IndexFunc_api_Clause_api_Lit : FuncId := 51
abbrev f_store_Check : FuncId := 52
abbrev f_store_Empty : FuncId := 53
abbrev f_store_Own : FuncId := 54
abbrev f_lit_Says : FuncId := 55
abbrev f_store_Nothing : FuncId := 56
abbrev f_clause_Put_1 : FuncId := 57
abbrev f_clause_Put_1_1 : FuncId := 58
abbrev f_store_Keep : FuncId := 59
abbrev f_clause_Put_2 : FuncId := 60
abbrev f_clause_Without_1 : FuncId := 61
abbrev f_clause_Without_1_1 : FuncId := 62
abbrev f_cordonref_IsToken : FuncId := 63
abbrev f_cordonref_IsWord : FuncId := 64
abbrev f_cordonref_rightForm : FuncId := 65
abbrev f_cordonref_inConst : FuncId := 66
abbrev f_model_vars : FuncId := 67
abbrev f_model_con : FuncId := 68
abbrev f_lit_Right : FuncId := 69
abbrev f_slices_IndexFunc_l_int_int : FuncId := 70
abbrev f_model_True_1 : FuncId := 71
abbrev f_model_True_2 : FuncId := 72
abbrev f_model_Sum : FuncId := 73
abbrev f_slices_ContainsFunc_rows_int_int : FuncId := 74
abbrev f_model_True_3 : FuncId := 75
abbrev f_slices_Equal_l_int_int : FuncId := 76
abbrev f_slices_ContainsFunc_l_api_Lit_api_Lit : FuncId := 77
abbrev f_slices_ContainsFunc_l_api_Con_api_Con : FuncId := 78
abbrev f_model_Whole_1 : FuncId := 79
abbrev f_model_Vars : FuncId := 80
abbrev f_store_ready : FuncId := 81
abbrev f_slices_ContainsFunc_api_Store_int : FuncId := 82
abbrev f_store_Empty_1 : FuncId := 83
abbrev f_slices_Clone_l_int_int : FuncId := 84
abbrev f_cordonref_TokenAt : FuncId := 85
abbrev f_model_Name : FuncId := 86
abbrev f_slices_ContainsFunc_l_api_Var_api_Var : FuncId := 87
abbrev f_model_vars_1 : FuncId := 88
abbrev f_model_con_1 : FuncId := 89
abbrev f_model_con_2 : FuncId := 90
abbrev f_model_form : FuncId := 91
abbrev f_model_con_3 : FuncId := 92
abbrev f_model_con_4 : FuncId := 93
abbrev f_slices_IndexFunc_rows_int_int : FuncId := 94
abbrev f_slices_IndexFunc_l_api_Lit_api_Lit : FuncId := 95
abbrev f_slices_IndexFunc_l_api_Con_api_Con : FuncId := 96
abbrev f_slices_Sort_l_int_int : FuncId := 97
abbrev f_slices_Compact_l_int_int : FuncId := 98
abbrev f_store_right : FuncId := 99
abbrev f_slices_IndexFunc_api_Store_int : FuncId := 100
abbrev f_cordonref_isLetter : FuncId := 101
abbrev f_cordonref_isDigit : FuncId := 102
abbrev f_token_Name : FuncId := 103
abbrev f_slices_Contains_l_string_string : FuncId := 104
abbrev f_model_Words : FuncId := 105
abbrev f_slices_IndexFunc_l_api_Var_api_Var : FuncId := 106
abbrev f_model_of : FuncId := 107
abbrev f_model_is : FuncId := 108
abbrev f_model_form_1 : FuncId := 109
abbrev f_slices_pdqsortOrdered_int : FuncId := 110
abbrev f_math_bits_Len : FuncId := 111
abbrev f_store_right_1 : FuncId := 112
abbrev f_token_one : FuncId := 113
abbrev f_slices_Index_l_string_string : FuncId := 114
abbrev f_slices_insertionSortOrdered_int : FuncId := 115
abbrev f_slices_heapSortOrdered_int : FuncId := 116
abbrev f_slices_breakPatternsOrdered_int : FuncId := 117
abbrev f_slices_choosePivotOrdered_int : FuncId := 118
abbrev f_slices_reverseRangeOrdered_int : FuncId := 119
abbrev f_slices_partialInsertionSortOrdered_int : FuncId := 120
abbrev f_cmp_Less_int : FuncId := 121
abbrev f_slices_partitionEqualOrdered_int : FuncId := 122
abbrev f_slices_partitionOrdered_int : FuncId := 123
abbrev f_math_bits_Len32 : FuncId := 124
abbrev f_math_bits_Len64 : FuncId := 125
abbrev f_token_Scan : FuncId := 126
abbrev f_slices_siftDownOrdered_int : FuncId := 127
abbrev f_slices_nextPowerOfTwo : FuncId := 128
abbrev f_slices_xorshift_Next : FuncId := 129
abbrev f_slices_medianAdjacentOrdered_int : FuncId := 130
abbrev f_slices_medianOrdered_int : FuncId := 131
abbrev f_cmp_isNaN_int : FuncId := 132
abbrev f_token_scanner_skip : FuncId := 133
abbrev f_token_scanner_token : FuncId := 134
abbrev f_slices_order2Ordered_int : FuncId := 135
abbrev f_token_scanner_sign : FuncId := 136
abbrev f_token_letter : FuncId := 137
abbrev f_token_scanner_run : FuncId := 138
abbrev f_token_scanner_token_1 : FuncId := 139
abbrev f_token_digit : FuncId := 140
abbrev f_slices_ContainsFunc_l_string_string : FuncId := 141
abbrev f_token_pairs : FuncId := 142
abbrev f_token_scanner_token_2 : FuncId := 143
abbrev f_strings_HasPrefix : FuncId := 144
abbrev f_strings_IndexByte : FuncId := 145
abbrev f_slices_IndexFunc_l_string_string : FuncId := 146
abbrev f_internal_stringslite_HasPrefix : FuncId := 147
abbrev f_internal_stringslite_IndexByte : FuncId := 148
def Ev : TE where
  zs := [(3, (false, [.int .i64 0])), (9, (false, [.str (⟨#[]⟩)])), (22, (false, [.nil])), (23, (false, [.nil])), (25, (true, [.sl .var ([] : List VarD), .sl .con ([] : List ConD), .int .i64 0, .int .i64 0])), (26, (false, [.nil])), (27, (false, [.nil])), (28, (false, [.nil])), (29, (false, [.nil])), (30, (false, [.nil])), (49, (true, [.int .i64 0, .sl .int ([] : List Int), .sl .int ([] : List Int), .int .i64 0, .sl (.list .int) ([] : List (List Int)), .sl .lit ([] : List LitD)])), (54, (true, [.int .i64 0, .int .i64 0, .int .i64 0])), (59, (true, [.str (⟨#[]⟩), .int .i64 0, .int .i64 0])), (72, (false, [.undef])), (110, (true, [.int .i64 0, .int .i64 0, .int .i64 0, .int .i64 0, .int .i64 0])), (132, (true, [.int .i64 0, .int .i64 0, .str (⟨#[]⟩)])), (141, (true, [.str (⟨#[]⟩), .int .i64 0]))]
  sl := [(22, (59, .var)), (23, (49, .con)), (26, (30, .list .int)), (27, (30, .list .int)), (28, (54, .lit)), (29, (54, .lit)), (30, (3, .int)), (96, (9, .str)), (103, (27, .list (.list .int))), (128, (132, .tok))]
  fld := [(25, [(0, 1), (1, 1), (2, 1), (3, 1)]), (49, [(0, 1), (1, 1), (2, 1), (3, 1), (4, 1), (5, 1)]), (54, [(0, 1), (1, 1), (2, 1)]), (59, [(0, 1), (1, 1), (2, 1)]), (110, [(0, 1), (1, 1), (2, 1), (3, 1), (4, 1)]), (132, [(0, 1), (1, 1), (2, 1)]), (141, [(0, 1), (1, 1)])]
  strs := [9]
  ints := [(2, .i64), (3, .i64), (5, .u8), (6, .u8), (31, .i64), (117, .i64), (159, .u8), (160, .u8)]
  bools := [4]
  sig := [(f_clause_Holds, [.bool, .int]), (f_clause_Unit, [.list (.list .int), .int]), (f_clause_Deny, [.list (.list .int), .int]), (f_cordonref_CheckModel, [.int]), (f_cordonref_CheckClause, [.int]), (f_cordonlaw_checkStore, [.int]), (f_cordonref_UnitOf, [.list (.list .int)]), (f_cordonref_DenyOf, [.list (.list .int)]), (f_cordonlaw_clauseBegun, [.bool]), (f_clause_Check, [.int]), (f_cordonref_ClauseHolds, [.bool]), (f_cordonlaw_storeIs, [.bool]), (f_model_Holds, [.bool, .int]), (f_model_All, [.bool, .int]), (f_cordonlaw_far, [.bool]), (f_cordonlaw_modelBegun, [.bool]), (f_cordonref_ConHolds, [.bool]), (f_cordonref_AllHold, [.bool]), (f_slices_ContainsFunc_api_Clause_api_Lit, [.bool]), (f_model_Lit, [.bool]), (f_clause_ready, [.int]), (f_clause_Put, [.list (.list .int)]), (f_clause_Without, [.list (.list .int)]), (f_cordonref_IsName, [.bool]), (f_cordonref_between, [.bool]), (f_cordonref_checkCon, [.int]), (f_cordonref_CheckLit, [.int]), (f_cordonref_CheckStore, [.int]), (f_cordonref_HasFailed, [.bool]), (f_cordonref_ToldOf, [.int]), (f_cordonref_HasInt, [.bool]), (f_cordonref_NoValues, [.list (.list .int)]), (f_cordonref_LitHolds, [.bool]), (f_cordonlaw_two, [.mdl]), (f_cordonref_SameStore, [.bool]), (f_model_Check, [.int]), (f_clause_Right, [.int]), (f_model_ready, [.int]), (f_slices_ContainsFunc_l_int_int, [.bool]), (f_model_within, [.bool]), (f_model_True, [.bool]), (f_model_Whole, [.bool]), (f_model_Scope, [.list .int, .int]), (f_cordonref_SameInts, [.bool]), (f_slices_IndexFunc_api_Clause_api_Lit, [.int]), (f_store_Check, [.int]), (f_store_Empty, [.bool]), (f_store_Own, [.list (.list .int)]), (f_lit_Says, [.int]), (f_store_Nothing, [.list (.list .int)]), (f_store_Keep, [.list (.list .int)]), (f_cordonref_IsToken, [.bool]), (f_cordonref_IsWord, [.bool]), (f_cordonref_rightForm, [.bool]), (f_cordonref_inConst, [.bool]), (f_model_vars, [.int]), (f_model_con, [.int]), (f_lit_Right, [.int]), (f_slices_IndexFunc_l_int_int, [.int]), (f_model_True_1, [.int]), (f_model_True_2, [.bool]), (f_model_Sum, [.bool]), (f_slices_ContainsFunc_rows_int_int, [.bool]), (f_slices_Equal_l_int_int, [.bool]), (f_slices_ContainsFunc_l_api_Lit_api_Lit, [.bool]), (f_slices_ContainsFunc_l_api_Con_api_Con, [.bool]), (f_model_Vars, [.list .int]), (f_store_ready, [.int]), (f_slices_ContainsFunc_api_Store_int, [.bool]), (f_cordonref_TokenAt, [.int, .int]), (f_model_Name, [.bool]), (f_slices_ContainsFunc_l_api_Var_api_Var, [.bool]), (f_model_con_2, [.bool]), (f_model_form, [.bool]), (f_slices_IndexFunc_rows_int_int, [.int]), (f_slices_IndexFunc_l_api_Lit_api_Lit, [.int]), (f_slices_IndexFunc_l_api_Con_api_Con, [.int]), (f_store_right, [.int]), (f_slices_IndexFunc_api_Store_int, [.int]), (f_cordonref_isLetter, [.bool]), (f_cordonref_isDigit, [.bool]), (f_token_Name, [.bool]), (f_slices_Contains_l_string_string, [.bool]), (f_model_Words, [.list .str]), (f_slices_IndexFunc_l_api_Var_api_Var, [.int]), (f_model_of, [.pr .int (.pr .int (.pr .int (.pr .int .int)))]), (f_model_is, [.bool]), (f_token_one, [.bool]), (f_slices_Index_l_string_string, [.int]), (f_token_Scan, [.list .tok, .int, .int]), (f_token_scanner_skip, []), (f_token_scanner_token, [.tok, .int]), (f_slices_IndexFunc_l_string_string, [.int])]
  mps := [(86, (.int, .int))]
  sts := []
  hsig := [(f_slices_Clone_l_int_int, { tys := [.list .int], nils := [], datas := [], res := fun xs ob => match xs with | [.sl .int y0] => some (.own 3000, [(3000, .row 3 .int y0)]) | _ => none }),
    (f_slices_Sort_l_int_int, { tys := [.list .int], nils := [], datas := [], res := fun xs ob => match xs, ob 1000 with | [.sl .int y0], some o1000 => some (.tup [], [(1000, .row 3 .int y0)]) | _, _ => none }),
    (f_slices_Compact_l_int_int, { tys := [.list .int], nils := [], datas := [], res := fun xs ob => match xs, ob 1000 with | [y0], some o1000 => some (y0, []) | _, _ => none })]
  vals := []
  arr := []
theorem chkEv : Ev.chk Tryz.prog = true := by kernel_rfl
theorem sigEv : ∀ x ∈ Ev.sig, ∀ args w, (callFunc x.1 args).run Tryz.prog w = .ok (.enter x.1 args) w := by
  intro x hx args w
  simp only [Ev, List.mem_cons, List.not_mem_nil, or_false] at hx
  rcases hx with rfl | rfl | rfl | rfl | rfl | rfl | rfl | rfl | rfl | rfl | rfl | rfl | rfl | rfl | rfl | rfl | rfl | rfl | rfl | rfl | rfl | rfl | rfl | rfl | rfl | rfl | rfl | rfl | rfl | rfl | rfl | rfl | rfl | rfl | rfl | rfl | rfl | rfl | rfl | rfl | rfl | rfl | rfl | rfl | rfl | rfl | rfl | rfl | rfl | rfl | rfl | rfl | rfl | rfl | rfl | rfl | rfl | rfl | rfl | rfl | rfl | rfl | rfl | rfl | rfl | rfl | rfl | rfl | rfl | rfl | rfl | rfl | rfl | rfl | rfl | rfl | rfl | rfl | rfl | rfl | rfl | rfl | rfl | rfl | rfl | rfl | rfl | rfl | rfl | rfl | rfl | rfl | rfl
  · exact Tryz.call5 args w
  · exact Tryz.call6 args w
  · exact Tryz.call7 args w
  · exact Tryz.call8 args w
  · exact Tryz.call9 args w
  · exact Tryz.call10 args w
  · exact Tryz.call11 args w
  · exact Tryz.call12 args w
  · exact Tryz.call13 args w
  · exact Tryz.call14 args w
  · exact Tryz.call15 args w
  · exact Tryz.call16 args w
  · exact Tryz.call17 args w
  · exact Tryz.call18 args w
  · exact Tryz.call19 args w
  · exact Tryz.call20 args w
  · exact Tryz.call21 args w
  · exact Tryz.call22 args w
  · exact Tryz.call23 args w
  · exact Tryz.call25 args w
  · exact Tryz.call26 args w
  · exact Tryz.call27 args w
  · exact Tryz.call28 args w
  · exact Tryz.call29 args w
  · exact Tryz.call30 args w
  · exact Tryz.call31 args w
  · exact Tryz.call32 args w
  · exact Tryz.call33 args w
  · exact Tryz.call34 args w
  · exact Tryz.call35 args w
  · exact Tryz.call36 args w
  · exact Tryz.call37 args w
  · exact Tryz.call38 args w
  · exact Tryz.call39 args w
  · exact Tryz.call40 args w
  · exact Tryz.call41 args w
  · exact Tryz.call42 args w
  · exact Tryz.call43 args w
  · exact Tryz.call44 args w
  · exact Tryz.call46 args w
  · exact Tryz.call47 args w
  · exact Tryz.call48 args w
  · exact Tryz.call49 args w
  · exact Tryz.call50 args w
  · exact Tryz.call51 args w
  · exact Tryz.call52 args w
  · exact Tryz.call53 args w
  · exact Tryz.call54 args w
  · exact Tryz.call55 args w
  · exact Tryz.call56 args w
  · exact Tryz.call59 args w
  · exact Tryz.call63 args w
  · exact Tryz.call64 args w
  · exact Tryz.call65 args w
  · exact Tryz.call66 args w
  · exact Tryz.call67 args w
  · exact Tryz.call68 args w
  · exact Tryz.call69 args w
  · exact Tryz.call70 args w
  · exact Tryz.call71 args w
  · exact Tryz.call72 args w
  · exact Tryz.call73 args w
  · exact Tryz.call74 args w
  · exact Tryz.call76 args w
  · exact Tryz.call77 args w
  · exact Tryz.call78 args w
  · exact Tryz.call80 args w
  · exact Tryz.call81 args w
  · exact Tryz.call82 args w
  · exact Tryz.call85 args w
  · exact Tryz.call86 args w
  · exact Tryz.call87 args w
  · exact Tryz.call90 args w
  · exact Tryz.call91 args w
  · exact Tryz.call94 args w
  · exact Tryz.call95 args w
  · exact Tryz.call96 args w
  · exact Tryz.call99 args w
  · exact Tryz.call100 args w
  · exact Tryz.call101 args w
  · exact Tryz.call102 args w
  · exact Tryz.call103 args w
  · exact Tryz.call104 args w
  · exact Tryz.call105 args w
  · exact Tryz.call106 args w
  · exact Tryz.call107 args w
  · exact Tryz.call108 args w
  · exact Tryz.call113 args w
  · exact Tryz.call114 args w
  · exact Tryz.call126 args w
  · exact Tryz.call133 args w
  · exact Tryz.call134 args w
  · exact Tryz.call146 args w
theorem chkEv2 : Ev.chk2 Tryz.prog = true := by kernel_rfl
theorem hsigEv : ∀ x ∈ Ev.hsig, Ent Tryz.prog x.1 := by
  intro x hx args w
  simp only [Ev, List.mem_cons, List.not_mem_nil, or_false] at hx
  rcases hx with rfl | rfl | rfl
  · exact Tryz.call84 args w
  · exact Tryz.call97 args w
  · exact Tryz.call98 args w
theorem factsEv : Facts Tryz.prog Ev := facts_of (by kernel_rfl) chkEv chkEv2 sigEv hsigEv
end Go.Proofs.YtonkbljpcgadlaaGreat
