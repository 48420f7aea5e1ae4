/- The types and the functions of the program that the walks need, read from its table: printed by a program. -/
import Derived.Test.YtgnjdgafkjohaaaGreatProg
import Derived.Test.YtgnjdgafkjohaaaGreatMD
namespace Go.Proofs.YtgnjdgafkjohaaaGreat
open Go.RowKit
set_option linter.unusedVariables false
set_option maxRecDepth 100000
abbrev f_gosem_cut_init : FuncId := 2
abbrev f_cordonlaw_FilterFilters : FuncId := 3
abbrev f_cordonlaw_FilterAgain : FuncId := 4
abbrev f_cordonlaw_FilterKeeps : FuncId := 5
abbrev f_cordonlaw_FixTells : FuncId := 6
abbrev f_cordonlaw_FixAgain : FuncId := 7
abbrev f_cordonlaw_ProofSays : FuncId := 8
abbrev f_cordonlaw_ProofChecks : FuncId := 9
abbrev f_cordonlaw_FixKeeps : FuncId := 10
abbrev f_cordonlaw_ExplainHolds : FuncId := 11
abbrev f_cordonlaw_ProofSound : FuncId := 12
abbrev f_cordonlaw_ExplainReasons : FuncId := 13
abbrev f_cordonlaw_ExplainFailures : FuncId := 14
abbrev f_filter_Filter : FuncId := 15
abbrev f_cordonlaw_checkStore : FuncId := 16
abbrev f_cordonref_FilterOf : FuncId := 17
abbrev f_cordonlaw_filterBegun : FuncId := 18
abbrev f_cordonlaw_storeIs : FuncId := 19
abbrev f_cordonlaw_storeBegun : FuncId := 20
abbrev f_cordonref_SameStore : FuncId := 21
abbrev f_store_Meet : FuncId := 22
abbrev f_cordonref_HasFailed : FuncId := 23
abbrev f_store_Within : FuncId := 24
abbrev f_cordonlaw_modelBegun : FuncId := 25
abbrev f_model_Holds : FuncId := 26
abbrev f_cordonlaw_has : FuncId := 27
abbrev f_fix_Cons : FuncId := 28
abbrev f_fix_Units : FuncId := 29
abbrev f_fix_Both : FuncId := 30
abbrev f_cordonref_CheckClauses : FuncId := 31
abbrev f_cordonref_FixOf : FuncId := 32
abbrev f_cordonlaw_fixBegun : FuncId := 33
abbrev f_proof_Con : FuncId := 34
abbrev f_proof_Unit : FuncId := 35
abbrev f_cordonref_CheckModel : FuncId := 36
abbrev f_cordonref_CheckClause : FuncId := 37
abbrev f_cordonlaw_proofBegun : FuncId := 38
abbrev f_cordonref_ConSays : FuncId := 39
abbrev f_cordonref_UnitSays : FuncId := 40
abbrev f_proof_Check : FuncId := 41
abbrev f_cordonref_CheckSteps : FuncId := 42
abbrev f_cordonref_IsProof : FuncId := 43
abbrev f_cordonlaw_clauseBegun : FuncId := 44
abbrev f_model_All : FuncId := 45
abbrev f_cordonlaw_allClauses : FuncId := 46
abbrev f_cordonlaw_explainBegun : FuncId := 47
abbrev f_explain_Removed : FuncId := 48
abbrev f_explain_Failed : FuncId := 49
abbrev f_cordonref_BeginOf : FuncId := 50
abbrev f_clause_Holds : FuncId := 51
abbrev f_cordonlaw_litBegun : FuncId := 52
abbrev f_cordonref_HasInt : FuncId := 53
abbrev f_cordonlaw_reason : FuncId := 54
abbrev f_store_Check : FuncId := 55
abbrev f_filter_Raw : FuncId := 56
abbrev f_cordonref_CheckStore : FuncId := 57
abbrev f_cordonref_ScopeOf : FuncId := 58
abbrev f_cordonref_ConHolds : FuncId := 59
abbrev f_cordonref_NoValues : FuncId := 60
abbrev f_cordonref_Chosen : FuncId := 61
abbrev f_cordonref_hasLit : FuncId := 62
abbrev f_cordonlaw_two : FuncId := 63
abbrev f_store_Begin : FuncId := 64
abbrev f_store_Failed : FuncId := 65
abbrev f_cordonref_SameInts : FuncId := 66
abbrev f_store_ready : FuncId := 67
abbrev f_store_Keep : FuncId := 68
abbrev f_store_Meet_1 : FuncId := 69
abbrev f_slices_Contains_l_int_int : FuncId := 70
abbrev f_slices_ContainsFunc_l_int_int : FuncId := 71
abbrev f_store_Within_1 : FuncId := 72
abbrev f_model_Scope : FuncId := 73
abbrev f_model_Check : FuncId := 74
abbrev f_model_ready : FuncId := 75
abbrev f_model_Holds_1 : FuncId := 76
abbrev f_model_within : FuncId := 77
abbrev f_model_True : FuncId := 78
abbrev f_fix_ready : FuncId := 79
abbrev f_fix_Run : FuncId := 80
abbrev f_cordonref_UnitOf : FuncId := 81
abbrev f_clause_Right : FuncId := 82
abbrev f_proof_ByCon : FuncId := 83
abbrev f_fix_Rights : FuncId := 84
abbrev f_proof_ByUnit : FuncId := 85
abbrev f_cordonref_IsName : FuncId := 86
abbrev f_cordonref_between : FuncId := 87
abbrev f_cordonref_checkCon : FuncId := 88
abbrev f_cordonref_CheckLit : FuncId := 89
abbrev f_cordonref_DenyOf : FuncId := 90
abbrev f_proof_ready : FuncId := 91
abbrev f_proof_checker_step : FuncId := 92
abbrev f_cordonref_StepsRight : FuncId := 93
abbrev f_clause_Unit : FuncId := 94
abbrev f_clause_Deny : FuncId := 95
abbrev f_clause_Check : FuncId := 96
abbrev f_model_Whole : FuncId := 97
abbrev f_explain_ready : FuncId := 98
abbrev f_lit_Right : FuncId := 99
abbrev f_explain_Gone : FuncId := 100
abbrev f_explain_Empty : FuncId := 101
abbrev f_slices_ContainsFunc_api_Clause_api_Lit : FuncId := 102
abbrev f_clause_Holds_1 : FuncId := 103
abbrev f_model_Lit : FuncId := 104
abbrev f_lit_Holds : FuncId := 105
abbrev f_lit_Not : FuncId := 106
abbrev f_lit_Told : FuncId := 107
abbrev f_lit_Put : FuncId := 108
abbrev f_lit_Check : FuncId := 109
abbrev f_store_Empty : FuncId := 110
abbrev f_store_Own : FuncId := 111
abbrev f_model_Vars : FuncId := 112
abbrev f_store_Nothing : FuncId := 113
abbrev f_filter_each : FuncId := 114
abbrev f_filter_linear : FuncId := 115
abbrev f_filter_twice : FuncId := 116
abbrev f_filter_differ : FuncId := 117
abbrev f_filter_Raw_1 : FuncId := 118
abbrev f_cordonref_LitHolds : FuncId := 119
abbrev f_store_Full : FuncId := 120
abbrev f_store_right : FuncId := 121
abbrev f_slices_Index_l_int_int : FuncId := 122
abbrev f_slices_IndexFunc_l_int_int : FuncId := 123
abbrev f_model_vars : FuncId := 124
abbrev f_model_con : FuncId := 125
abbrev f_model_True_1 : FuncId := 126
abbrev f_model_True_2 : FuncId := 127
abbrev f_model_Sum : FuncId := 128
abbrev f_slices_ContainsFunc_rows_int_int : FuncId := 129
abbrev f_model_True_3 : FuncId := 130
abbrev f_slices_Equal_l_int_int : FuncId := 131
abbrev f_slices_ContainsFunc_l_api_Lit_api_Lit : FuncId := 132
abbrev f_clause_Put : FuncId := 133
abbrev f_fix_same : FuncId := 134
abbrev f_cordonref_ToldOf : FuncId := 135
abbrev f_clause_Without : FuncId := 136
abbrev f_cordonref_IsToken : FuncId := 137
abbrev f_cordonref_IsWord : FuncId := 138
abbrev f_cordonref_rightForm : FuncId := 139
abbrev f_cordonref_inConst : FuncId := 140
abbrev f_clause_ready : FuncId := 141
abbrev f_slices_ContainsFunc_l_api_Con_api_Con : FuncId := 142
abbrev f_model_Whole_1 : FuncId := 143
abbrev f_explain_fewest : FuncId := 144
abbrev f_explain_gone : FuncId := 145
abbrev f_slices_IndexFunc_api_Clause_api_Lit : FuncId := 146
abbrev f_lit_Turns : FuncId := 147
abbrev f_lit_Opposite : FuncId := 148
abbrev f_lit_ready : FuncId := 149
abbrev f_lit_Says : FuncId := 150
abbrev f_lit_Set : FuncId := 151
abbrev f_slices_ContainsFunc_api_Store_int : FuncId := 152
abbrev f_store_Empty_1 : FuncId := 153
abbrev f_slices_Clone_l_int_int : FuncId := 154
abbrev f_slices_Sort_l_int_int : FuncId := 155
abbrev f_slices_Compact_l_int_int : FuncId := 156
abbrev f_filter_walker_walk : FuncId := 157
abbrev f_filter_each_1 : FuncId := 158
abbrev f_filter_terms : FuncId := 159
abbrev f_filter_sums : FuncId := 160
abbrev f_filter_linear_1 : FuncId := 161
abbrev f_slices_IndexFunc_l_filter_term_filter_term : FuncId := 162
abbrev f_filter_linear_1_1 : FuncId := 163
abbrev f_filter_linear_1_2 : FuncId := 164
abbrev f_filter_differ_1 : FuncId := 165
abbrev f_slices_Clone_api_Store_int : FuncId := 166
abbrev f_filter_matcher_find : FuncId := 167
abbrev f_store_right_1 : FuncId := 168
abbrev f_model_Name : FuncId := 169
abbrev f_slices_ContainsFunc_l_api_Var_api_Var : FuncId := 170
abbrev f_model_vars_1 : FuncId := 171
abbrev f_model_con_1 : FuncId := 172
abbrev f_model_con_2 : FuncId := 173
abbrev f_model_form : FuncId := 174
abbrev f_model_con_3 : FuncId := 175
abbrev f_model_con_4 : FuncId := 176
abbrev f_slices_IndexFunc_rows_int_int : FuncId := 177
abbrev f_slices_IndexFunc_l_api_Lit_api_Lit : FuncId := 178
abbrev f_clause_Put_1 : FuncId := 179
abbrev f_clause_Put_1_1 : FuncId := 180
abbrev f_clause_Put_2 : FuncId := 181
abbrev f_slices_EqualFunc_api_Store_api_Store_int_int : FuncId := 182
abbrev f_fix_same_1 : FuncId := 183
abbrev f_clause_Without_1 : FuncId := 184
abbrev f_clause_Without_1_1 : FuncId := 185
abbrev f_cordonref_TokenAt : FuncId := 186
abbrev f_slices_IndexFunc_l_api_Con_api_Con : FuncId := 187
abbrev f_slices_Concat_api_Clause_api_Lit : FuncId := 188
abbrev f_lit_Set_1 : FuncId := 189
abbrev f_slices_IndexFunc_api_Store_int : FuncId := 190
abbrev f_slices_pdqsortOrdered_int : FuncId := 191
abbrev f_math_bits_Len : FuncId := 192
abbrev f_filter_terms_1 : FuncId := 193
abbrev f_token_Name : FuncId := 194
abbrev f_slices_Contains_l_string_string : FuncId := 195
abbrev f_model_Words : FuncId := 196
abbrev f_slices_IndexFunc_l_api_Var_api_Var : FuncId := 197
abbrev f_model_of : FuncId := 198
abbrev f_model_is : FuncId := 199
abbrev f_model_form_1 : FuncId := 200
abbrev f_cordonref_isLetter : FuncId := 201
abbrev f_cordonref_isDigit : FuncId := 202
abbrev f_slices_Grow_api_Clause_api_Lit : FuncId := 203
abbrev f_slices_insertionSortOrdered_int : FuncId := 204
abbrev f_slices_heapSortOrdered_int : FuncId := 205
abbrev f_slices_breakPatternsOrdered_int : FuncId := 206
abbrev f_slices_choosePivotOrdered_int : FuncId := 207
abbrev f_slices_reverseRangeOrdered_int : FuncId := 208
abbrev f_slices_partialInsertionSortOrdered_int : FuncId := 209
abbrev f_cmp_Less_int : FuncId := 210
abbrev f_slices_partitionEqualOrdered_int : FuncId := 211
abbrev f_slices_partitionOrdered_int : FuncId := 212
abbrev f_math_bits_Len32 : FuncId := 213
abbrev f_math_bits_Len64 : FuncId := 214
abbrev f_token_one : FuncId := 215
abbrev f_slices_Index_l_string_string : FuncId := 216
abbrev f_slices_siftDownOrdered_int : FuncId := 217
abbrev f_slices_nextPowerOfTwo : FuncId := 218
abbrev f_slices_xorshift_Next : FuncId := 219
abbrev f_slices_medianAdjacentOrdered_int : FuncId := 220
abbrev f_slices_medianOrdered_int : FuncId := 221
abbrev f_cmp_isNaN_int : FuncId := 222
abbrev f_token_Scan : FuncId := 223
abbrev f_slices_order2Ordered_int : FuncId := 224
abbrev f_token_scanner_skip : FuncId := 225
abbrev f_token_scanner_token : FuncId := 226
abbrev f_token_scanner_sign : FuncId := 227
abbrev f_token_letter : FuncId := 228
abbrev f_token_scanner_run : FuncId := 229
abbrev f_token_scanner_token_1 : FuncId := 230
abbrev f_token_digit : FuncId := 231
abbrev f_slices_ContainsFunc_l_string_string : FuncId := 232
abbrev f_token_pairs : FuncId := 233
abbrev f_token_scanner_token_2 : FuncId := 234
abbrev f_strings_HasPrefix : FuncId := 235
abbrev f_strings_IndexByte : FuncId := 236
abbrev f_slices_IndexFunc_l_string_string : FuncId := 237
abbrev f_internal_stringslite_HasPrefix : FuncId := 238
abbrev f_internal_stringslite_IndexByte : FuncId := 239
def Ev : TE where
  zs := [(3, (false, [dI 0])), (9, (false, [.str (⟨#[]⟩)])), (22, (false, [.nil])), (23, (false, [.nil])), (25, (true, [.sl .var ([] : List VarD), .sl .con ([] : List ConD), dI 0, dI 0])), (26, (false, [.nil])), (27, (false, [.nil])), (42, (false, [.nil])), (46, (false, [.nil])), (53, (false, [.nil])), (54, (false, [.nil])), (76, (true, [dI 0, dI 0, .sl .lit ([] : List LitD)])), (81, (true, [dI 0, dI 0, dI 0])), (85, (true, [dI 0, .sl .int ([] : List Int), .sl .int ([] : List Int), dI 0, dS ([] : List (List Int)), .sl .lit ([] : List LitD)])), (97, (false, [.undef])), (99, (false, [.undef])), (107, (true, [.str (⟨#[]⟩), dI 0, dI 0])), (113, (true, [.sl .var ([] : List VarD), .sl .con ([] : List ConD), dI 0, dI 0, .nil])), (140, (false, [.undef])), (157, (false, [.undef])), (158, (false, [.undef])), (160, (true, [dI 0, .sl .int ([] : List Int), .sl .int ([] : List Int), dI 0, dS ([] : List (List Int)), .sl .lit ([] : List LitD), dS ([] : List (List Int)), .sl .int ([] : List Int), .sl .int ([] : List Int), .undef])), (162, (true, [dI 0, dI 0])), (163, (false, [.nil])), (165, (false, [.undef])), (167, (true, [dI 0, dI 0])), (173, (true, [dS ([] : List (List Int)), .sl .int ([] : List Int), .undef, .undef, dI 0])), (193, (true, [dI 0, dI 0, dI 0, dI 0, dI 0])), (219, (true, [dI 0, dI 0, .str (⟨#[]⟩)])), (224, (true, [.str (⟨#[]⟩), dI 0]))]
  sl := [(22, (107, .var)), (23, (85, .con)), (26, (42, .list .int)), (27, (42, .list .int)), (42, (3, .int)), (46, (54, .list .lit)), (53, (81, .lit)), (54, (81, .lit)), (62, (76, .step)), (134, (27, .list (.list .int))), (163, (167, .term)), (181, (9, .str)), (215, (219, .tok))]
  fld := [(25, [(0, 1), (1, 1), (2, 1), (3, 1)]), (76, [(0, 1), (1, 1), (2, 1)]), (81, [(0, 1), (1, 1), (2, 1)]), (85, [(0, 1), (1, 1), (2, 1), (3, 1), (4, 1), (5, 1)]), (107, [(0, 1), (1, 1), (2, 1)]), (113, [(0, 4), (4, 1)]), (160, [(0, 6), (6, 1), (7, 1), (8, 1), (9, 1)]), (167, [(0, 1), (1, 1)]), (173, [(0, 1), (1, 1), (2, 1), (3, 1), (4, 1)]), (193, [(0, 1), (1, 1), (2, 1), (3, 1), (4, 1)]), (219, [(0, 1), (1, 1), (2, 1)]), (224, [(0, 1), (1, 1)])]
  strs := [9]
  ints := [(2, .i64), (3, .i64), (5, .u8), (6, .u8), (28, .i64), (198, .i64), (240, .u8), (241, .u8)]
  bools := [4]
  sig := [(f_filter_Filter, [.list (.list .int), .int]), (f_cordonlaw_checkStore, [.int]), (f_cordonref_FilterOf, [.list (.list .int)]), (f_cordonlaw_filterBegun, [.bool]), (f_cordonlaw_storeIs, [.bool]), (f_cordonlaw_storeBegun, [.bool]), (f_cordonref_SameStore, [.bool]), (f_store_Meet, [.list (.list .int), .int]), (f_cordonref_HasFailed, [.bool]), (f_store_Within, [.bool, .int]), (f_cordonlaw_modelBegun, [.bool]), (f_model_Holds, [.bool, .int]), (f_cordonlaw_has, [.bool]), (f_fix_Cons, [.list (.list .int), .int]), (f_fix_Units, [.list (.list .int), .int]), (f_fix_Both, [.list (.list .int), .int]), (f_cordonref_CheckClauses, [.int]), (f_cordonref_FixOf, [.list (.list .int)]), (f_cordonlaw_fixBegun, [.bool]), (f_proof_Con, [.bool, .int]), (f_proof_Unit, [.bool, .int]), (f_cordonref_CheckModel, [.int]), (f_cordonref_CheckClause, [.int]), (f_cordonlaw_proofBegun, [.bool]), (f_cordonref_ConSays, [.bool]), (f_cordonref_UnitSays, [.bool]), (f_proof_Check, [.bool, .int]), (f_cordonref_CheckSteps, [.int]), (f_cordonref_IsProof, [.bool]), (f_cordonlaw_clauseBegun, [.bool]), (f_model_All, [.bool, .int]), (f_cordonlaw_allClauses, [.bool]), (f_cordonlaw_explainBegun, [.bool]), (f_explain_Removed, [.list .lit, .bool, .int]), (f_explain_Failed, [.list .lit, .bool, .int]), (f_cordonref_BeginOf, [.list (.list .int)]), (f_clause_Holds, [.bool, .int]), (f_cordonlaw_litBegun, [.bool]), (f_cordonref_HasInt, [.bool]), (f_cordonlaw_reason, [.bool]), (f_store_Check, [.int]), (f_filter_Raw, [.list (.list .int)]), (f_cordonref_CheckStore, [.int]), (f_cordonref_ScopeOf, [.list .int]), (f_cordonref_ConHolds, [.bool]), (f_cordonref_NoValues, [.list (.list .int)]), (f_cordonref_hasLit, [.bool]), (f_cordonlaw_two, [.mdl]), (f_store_Begin, [.list (.list .int), .int]), (f_store_Failed, [.bool, .int]), (f_cordonref_SameInts, [.bool]), (f_store_ready, [.int]), (f_store_Keep, [.list (.list .int)]), (f_slices_Contains_l_int_int, [.bool]), (f_slices_ContainsFunc_l_int_int, [.bool]), (f_model_Scope, [.list .int, .int]), (f_model_Check, [.int]), (f_model_ready, [.int]), (f_model_within, [.bool]), (f_model_True, [.bool]), (f_fix_ready, [.int]), (f_fix_Run, [.list (.list .int)]), (f_cordonref_UnitOf, [.list (.list .int)]), (f_clause_Right, [.int]), (f_proof_ByCon, [.bool]), (f_fix_Rights, [.int]), (f_proof_ByUnit, [.bool]), (f_cordonref_IsName, [.bool]), (f_cordonref_between, [.bool]), (f_cordonref_checkCon, [.int]), (f_cordonref_CheckLit, [.int]), (f_cordonref_DenyOf, [.list (.list .int)]), (f_proof_ready, [.int]), (f_cordonref_StepsRight, [.bool]), (f_clause_Unit, [.list (.list .int), .int]), (f_clause_Deny, [.list (.list .int), .int]), (f_clause_Check, [.int]), (f_model_Whole, [.bool]), (f_explain_ready, [.int]), (f_lit_Right, [.int]), (f_explain_Gone, [.list .lit, .bool]), (f_explain_Empty, [.list .lit, .bool]), (f_slices_ContainsFunc_api_Clause_api_Lit, [.bool]), (f_model_Lit, [.bool]), (f_lit_Holds, [.bool, .int]), (f_lit_Not, [.lit, .int]), (f_lit_Told, [.int, .int]), (f_lit_Put, [.list (.list .int), .int]), (f_lit_Check, [.int]), (f_store_Empty, [.bool]), (f_store_Own, [.list (.list .int)]), (f_model_Vars, [.list .int]), (f_store_Nothing, [.list (.list .int)]), (f_filter_twice, [.bool]), (f_cordonref_LitHolds, [.bool]), (f_store_Full, [.list (.list .int)]), (f_store_right, [.int]), (f_slices_Index_l_int_int, [.int]), (f_slices_IndexFunc_l_int_int, [.int]), (f_model_vars, [.int]), (f_model_con, [.int]), (f_model_True_1, [.int]), (f_model_True_2, [.bool]), (f_model_Sum, [.bool]), (f_slices_ContainsFunc_rows_int_int, [.bool]), (f_slices_Equal_l_int_int, [.bool]), (f_slices_ContainsFunc_l_api_Lit_api_Lit, [.bool]), (f_clause_Put, [.list (.list .int)]), (f_fix_same, [.bool]), (f_cordonref_ToldOf, [.int]), (f_clause_Without, [.list (.list .int)]), (f_cordonref_IsToken, [.bool]), (f_cordonref_IsWord, [.bool]), (f_cordonref_rightForm, [.bool]), (f_cordonref_inConst, [.bool]), (f_clause_ready, [.int]), (f_slices_ContainsFunc_l_api_Con_api_Con, [.bool]), (f_explain_fewest, [.list .lit]), (f_explain_gone, [.list .lit]), (f_slices_IndexFunc_api_Clause_api_Lit, [.int]), (f_lit_Turns, [.int]), (f_lit_Opposite, [.lit]), (f_lit_ready, [.int]), (f_lit_Says, [.int]), (f_lit_Set, [.list (.list .int)]), (f_slices_ContainsFunc_api_Store_int, [.bool]), (f_filter_terms, [.list .term]), (f_filter_sums, [.list .int]), (f_slices_IndexFunc_l_filter_term_filter_term, [.int]), (f_model_Name, [.bool]), (f_slices_ContainsFunc_l_api_Var_api_Var, [.bool]), (f_model_con_2, [.bool]), (f_model_form, [.bool]), (f_slices_IndexFunc_rows_int_int, [.int]), (f_slices_IndexFunc_l_api_Lit_api_Lit, [.int]), (f_slices_EqualFunc_api_Store_api_Store_int_int, [.bool]), (f_cordonref_TokenAt, [.int, .int]), (f_slices_IndexFunc_l_api_Con_api_Con, [.int]), (f_slices_Concat_api_Clause_api_Lit, [.list .lit]), (f_slices_IndexFunc_api_Store_int, [.int]), (f_token_Name, [.bool]), (f_slices_Contains_l_string_string, [.bool]), (f_model_Words, [.list .str]), (f_slices_IndexFunc_l_api_Var_api_Var, [.int]), (f_model_of, [.pr .int (.pr .int (.pr .int (.pr .int .int)))]), (f_model_is, [.bool]), (f_cordonref_isLetter, [.bool]), (f_cordonref_isDigit, [.bool]), (f_token_one, [.bool]), (f_slices_Index_l_string_string, [.int]), (f_token_Scan, [.list .tok, .int, .int]), (f_token_scanner_skip, []), (f_token_scanner_token, [.tok, .int]), (f_slices_IndexFunc_l_string_string, [.int])]
  mps := [(140, (.int, .int)), (158, (.pr .int .int, .int)), (165, (.int, .list .int))]
  sts := [(81, .lit)]
  hsig := [(f_cordonref_Chosen, { tys := [.bool, .list .int], nils := [], datas := [], res := fun xs ob => match xs, ob 1000 with | [y0, .sl .int y1], some o1000 => some (y0, [(1000, .row 3 .int y1)]) | _, _ => none }),
    (f_proof_checker_step, { tys := [.bool, .list (.list .lit)], nils := [(0, (4, (54, .list .lit)))], datas := [], res := fun xs ob => match xs, ob 1000, ob 2000 with | [y0, .sl (.list .lit) y1], some o1000, some o2000 => some (y0, [(1000, o1000), (2000, .row 54 (.list .lit) y1)]) | _, _, _ => none }),
    (f_filter_each, { tys := [.con, .list (.list .int), .list .int, .list .int, .list (.pr (.pr .int .int) .int)], nils := [], datas := [], res := fun xs _ => match xs with | [.agg y0, y1, y2, y3, .sl (.pr (.pr .int .int) .int) y4] => some (.clo 158 none [.iptr [.iptr (y0 ++ [y1, y2, y3, .mp (.pr .int .int) .int y4]) 0] 0], []) | _ => none }),
    (f_filter_linear, { tys := [.list .term, .list (.pr .int (.list .int)), .con], nils := [], datas := [], res := fun xs _ => match xs with | [y0, .sl (.pr .int (.list .int)) y1, .agg y2] => some (.clo 161 none [.iptr [y0] 0, .iptr [.mp .int (.list .int) y1] 0, .iptr y2 0], []) | _ => none }),
    (f_filter_differ, { tys := [.list (.list .int), .con], nils := [], datas := [], res := fun xs _ => match xs with | [y0, .agg y1] => some (.clo 165 none [.iptr [y0] 0, .iptr y1 0], []) | _ => none }),
    (f_slices_Clone_l_int_int, { tys := [.list .int], nils := [], datas := [], res := fun xs ob => match xs with | [.sl .int y0] => some (.own 3000, [(3000, .row 3 .int y0)]) | _ => none }),
    (f_slices_Sort_l_int_int, { tys := [.list .int], nils := [], datas := [], res := fun xs ob => match xs, ob 1000 with | [.sl .int y0], some o1000 => some (.tup [], [(1000, .row 3 .int y0)]) | _, _ => none }),
    (f_slices_Compact_l_int_int, { tys := [.list .int], nils := [], datas := [], res := fun xs ob => match xs, ob 1000 with | [y0], some o1000 => some (y0, []) | _, _ => none }),
    (f_filter_walker_walk, { tys := [.list .int, .list (.pr (.pr .int .int) .int)], nils := [], datas := [], res := fun xs ob => match xs, ob 1000, ob 2000, ob 1001 with | [.sl .int y0, .sl (.pr (.pr .int .int) .int) y1], some o1000, some o2000, some o1001 => some (.tup [], [(1000, o1000), (2000, .row 3 .int y0), (1001, .mp (.pr .int .int) .int y1)]) | _, _, _, _ => none }),
    (f_slices_Clone_api_Store_int, { tys := [.list (.list .int)], nils := [], datas := [], res := fun xs ob => match xs with | [.sl (.list .int) y0] => some (.own 3000, [(3000, .row 42 (.list .int) y0)]) | _ => none }),
    (f_filter_matcher_find, { tys := [.bool, .list (.pr .int .int), .list (.pr .int .int)], nils := [], datas := [(0, 0)], res := fun xs ob => match xs, ob 1000, ob 1001, ob 1002 with | [y0, .sl (.pr .int .int) y1, .sl (.pr .int .int) y2], some o1000, some o1001, some o1002 => some (y0, [(1000, o1000), (1001, .mp .int .int y1), (1002, .mp .int .int y2)]) | _, _, _, _ => none }),
    (f_slices_Grow_api_Clause_api_Lit, { tys := [.list .lit], nils := [], datas := [], res := fun xs ob => match xs with | [.sl .lit y0] => some (.own 3000, [(3000, .row 81 .lit y0)]) | _ => none, raw := true })]
  vals := [113, 160, 173]
  arr := [162]
theorem chkEv : Ev.chk Tryz.prog = true := by kernel_rfl
theorem sigEv : ∀ x ∈ Ev.sig, ∀ args w, (callFunc x.1 args).run Tryz.prog w = .ok (.enter x.1 args) w := by
  intro x hx args w
  simp only [Ev, List.mem_cons, List.not_mem_nil, or_false] at hx
  rcases hx with rfl | rfl | rfl | rfl | rfl | rfl | rfl | rfl | rfl | rfl | rfl | rfl | rfl | rfl | rfl | rfl | rfl | rfl | rfl | rfl | rfl | rfl | rfl | rfl | rfl | rfl | rfl | rfl | rfl | rfl | rfl | rfl | rfl | rfl | rfl | rfl | rfl | rfl | rfl | rfl | rfl | rfl | rfl | rfl | rfl | rfl | rfl | rfl | rfl | rfl | rfl | rfl | rfl | rfl | rfl | rfl | rfl | rfl | rfl | rfl | rfl | rfl | rfl | rfl | rfl | rfl | rfl | rfl | rfl | rfl | rfl | rfl | rfl | rfl | rfl | rfl | rfl | rfl | rfl | rfl | rfl | rfl | rfl | rfl | rfl | rfl | rfl | rfl | rfl | rfl | rfl | rfl | rfl | rfl | rfl | rfl | rfl | rfl | rfl | rfl | rfl | rfl | rfl | rfl | rfl | rfl | rfl | rfl | rfl | rfl | rfl | rfl | rfl | rfl | rfl | rfl | rfl | rfl | rfl | rfl | rfl | rfl | rfl | rfl | rfl | rfl | rfl | rfl | rfl | rfl | rfl | rfl | rfl | rfl | rfl | rfl | rfl | rfl | rfl | rfl | rfl | rfl | rfl | rfl | rfl | rfl | rfl | rfl | rfl | rfl | rfl | rfl | rfl | rfl
  · exact Tryz.call15 args w
  · exact Tryz.call16 args w
  · exact Tryz.call17 args w
  · exact Tryz.call18 args w
  · exact Tryz.call19 args w
  · exact Tryz.call20 args w
  · exact Tryz.call21 args w
  · exact Tryz.call22 args w
  · exact Tryz.call23 args w
  · exact Tryz.call24 args w
  · exact Tryz.call25 args w
  · exact Tryz.call26 args w
  · exact Tryz.call27 args w
  · exact Tryz.call28 args w
  · exact Tryz.call29 args w
  · exact Tryz.call30 args w
  · exact Tryz.call31 args w
  · exact Tryz.call32 args w
  · exact Tryz.call33 args w
  · exact Tryz.call34 args w
  · exact Tryz.call35 args w
  · exact Tryz.call36 args w
  · exact Tryz.call37 args w
  · exact Tryz.call38 args w
  · exact Tryz.call39 args w
  · exact Tryz.call40 args w
  · exact Tryz.call41 args w
  · exact Tryz.call42 args w
  · exact Tryz.call43 args w
  · exact Tryz.call44 args w
  · exact Tryz.call45 args w
  · exact Tryz.call46 args w
  · exact Tryz.call47 args w
  · exact Tryz.call48 args w
  · exact Tryz.call49 args w
  · exact Tryz.call50 args w
  · exact Tryz.call51 args w
  · exact Tryz.call52 args w
  · exact Tryz.call53 args w
  · exact Tryz.call54 args w
  · exact Tryz.call55 args w
  · exact Tryz.call56 args w
  · exact Tryz.call57 args w
  · exact Tryz.call58 args w
  · exact Tryz.call59 args w
  · exact Tryz.call60 args w
  · exact Tryz.call62 args w
  · exact Tryz.call63 args w
  · exact Tryz.call64 args w
  · exact Tryz.call65 args w
  · exact Tryz.call66 args w
  · exact Tryz.call67 args w
  · exact Tryz.call68 args w
  · exact Tryz.call70 args w
  · exact Tryz.call71 args w
  · exact Tryz.call73 args w
  · exact Tryz.call74 args w
  · exact Tryz.call75 args w
  · exact Tryz.call77 args w
  · exact Tryz.call78 args w
  · exact Tryz.call79 args w
  · exact Tryz.call80 args w
  · exact Tryz.call81 args w
  · exact Tryz.call82 args w
  · exact Tryz.call83 args w
  · exact Tryz.call84 args w
  · exact Tryz.call85 args w
  · exact Tryz.call86 args w
  · exact Tryz.call87 args w
  · exact Tryz.call88 args w
  · exact Tryz.call89 args w
  · exact Tryz.call90 args w
  · exact Tryz.call91 args w
  · exact Tryz.call93 args w
  · exact Tryz.call94 args w
  · exact Tryz.call95 args w
  · exact Tryz.call96 args w
  · exact Tryz.call97 args w
  · exact Tryz.call98 args w
  · exact Tryz.call99 args w
  · exact Tryz.call100 args w
  · exact Tryz.call101 args w
  · exact Tryz.call102 args w
  · exact Tryz.call104 args w
  · exact Tryz.call105 args w
  · exact Tryz.call106 args w
  · exact Tryz.call107 args w
  · exact Tryz.call108 args w
  · exact Tryz.call109 args w
  · exact Tryz.call110 args w
  · exact Tryz.call111 args w
  · exact Tryz.call112 args w
  · exact Tryz.call113 args w
  · exact Tryz.call116 args w
  · exact Tryz.call119 args w
  · exact Tryz.call120 args w
  · exact Tryz.call121 args w
  · exact Tryz.call122 args w
  · exact Tryz.call123 args w
  · exact Tryz.call124 args w
  · exact Tryz.call125 args w
  · exact Tryz.call126 args w
  · exact Tryz.call127 args w
  · exact Tryz.call128 args w
  · exact Tryz.call129 args w
  · exact Tryz.call131 args w
  · exact Tryz.call132 args w
  · exact Tryz.call133 args w
  · exact Tryz.call134 args w
  · exact Tryz.call135 args w
  · exact Tryz.call136 args w
  · exact Tryz.call137 args w
  · exact Tryz.call138 args w
  · exact Tryz.call139 args w
  · exact Tryz.call140 args w
  · exact Tryz.call141 args w
  · exact Tryz.call142 args w
  · exact Tryz.call144 args w
  · exact Tryz.call145 args w
  · exact Tryz.call146 args w
  · exact Tryz.call147 args w
  · exact Tryz.call148 args w
  · exact Tryz.call149 args w
  · exact Tryz.call150 args w
  · exact Tryz.call151 args w
  · exact Tryz.call152 args w
  · exact Tryz.call159 args w
  · exact Tryz.call160 args w
  · exact Tryz.call162 args w
  · exact Tryz.call169 args w
  · exact Tryz.call170 args w
  · exact Tryz.call173 args w
  · exact Tryz.call174 args w
  · exact Tryz.call177 args w
  · exact Tryz.call178 args w
  · exact Tryz.call182 args w
  · exact Tryz.call186 args w
  · exact Tryz.call187 args w
  · exact Tryz.call188 args w
  · exact Tryz.call190 args w
  · exact Tryz.call194 args w
  · exact Tryz.call195 args w
  · exact Tryz.call196 args w
  · exact Tryz.call197 args w
  · exact Tryz.call198 args w
  · exact Tryz.call199 args w
  · exact Tryz.call201 args w
  · exact Tryz.call202 args w
  · exact Tryz.call215 args w
  · exact Tryz.call216 args w
  · exact Tryz.call223 args w
  · exact Tryz.call225 args w
  · exact Tryz.call226 args w
  · exact Tryz.call237 args w
theorem chkEv2 : Ev.chk2 Tryz.prog = true := by kernel_rfl
theorem hsigEv : ∀ x ∈ Ev.hsig, Ent Tryz.prog x.1 := by
  intro x hx args w
  simp only [Ev, List.mem_cons, List.not_mem_nil, or_false] at hx
  rcases hx with rfl | rfl | rfl | rfl | rfl | rfl | rfl | rfl | rfl | rfl | rfl | rfl
  · exact Tryz.call61 args w
  · exact Tryz.call92 args w
  · exact Tryz.call114 args w
  · exact Tryz.call115 args w
  · exact Tryz.call117 args w
  · exact Tryz.call154 args w
  · exact Tryz.call155 args w
  · exact Tryz.call156 args w
  · exact Tryz.call157 args w
  · exact Tryz.call166 args w
  · exact Tryz.call167 args w
  · exact Tryz.call203 args w
theorem factsEv : Facts Tryz.prog Ev := facts_of (by kernel_rfl) chkEv chkEv2 sigEv hsigEv
end Go.Proofs.YtgnjdgafkjohaaaGreat
