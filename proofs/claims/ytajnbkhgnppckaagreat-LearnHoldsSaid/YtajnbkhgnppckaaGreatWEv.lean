/- The types and the functions of the program that the walks need, read from its table: printed by a program. -/
import Derived.Test.YtajnbkhgnppckaaGreatProg
import Derived.Test.YtajnbkhgnppckaaGreatMD
namespace Go.Proofs.YtajnbkhgnppckaaGreat
open Go.RowKit
set_option linter.unusedVariables false
set_option maxRecDepth 100000
abbrev f_gosem_cut_init : FuncId := 2
abbrev f_cordonlaw_LearnLearns : FuncId := 3
abbrev f_cordonlaw_LearnSteps : FuncId := 4
abbrev f_cordonlaw_LearnHolds : FuncId := 5
abbrev f_cordonlaw_RestStores : FuncId := 6
abbrev f_learn_Learn : FuncId := 7
abbrev f_cordonlaw_checkLearn : FuncId := 8
abbrev f_cordonlaw_learnBegun : FuncId := 9
abbrev f_cordonref_Fails : FuncId := 10
abbrev f_cordonref_CheckClause : FuncId := 11
abbrev f_cordonlaw_opposites : FuncId := 12
abbrev f_cordonlaw_among : FuncId := 13
abbrev f_learn_Steps : FuncId := 14
abbrev f_cordonref_CheckSteps : FuncId := 15
abbrev f_cordonref_SameClause : FuncId := 16
abbrev f_cordonref_StepsRight : FuncId := 17
abbrev f_cordonlaw_modelBegun : FuncId := 18
abbrev f_cordonlaw_clauseBegun : FuncId := 19
abbrev f_model_All : FuncId := 20
abbrev f_cordonlaw_allClauses : FuncId := 21
abbrev f_clause_Holds : FuncId := 22
abbrev f_cordonlaw_storeBegun : FuncId := 23
abbrev f_cordonlaw_filterBegun : FuncId := 24
abbrev f_cordonlaw_fixBegun : FuncId := 25
abbrev f_cordonlaw_explainBegun : FuncId := 26
abbrev f_cordonlaw_copiedModel : FuncId := 27
abbrev f_cordonlaw_copiedStore : FuncId := 28
abbrev f_cordonlaw_copiedClauses : FuncId := 29
abbrev f_cordonlaw_checkStore : FuncId := 30
abbrev f_cordonref_CheckClauses : FuncId := 31
abbrev f_cordonref_FixOf : FuncId := 32
abbrev f_store_Begin : FuncId := 33
abbrev f_store_Meet : FuncId := 34
abbrev f_filter_Filter : FuncId := 35
abbrev f_clause_Unit : FuncId := 36
abbrev f_clause_Deny : FuncId := 37
abbrev f_fix_Both : FuncId := 38
abbrev f_fix_Cons : FuncId := 39
abbrev f_explain_Failed : FuncId := 40
abbrev f_cordonref_SameModel : FuncId := 41
abbrev f_cordonref_SameStore : FuncId := 42
abbrev f_cordonlaw_storeIs : FuncId := 43
abbrev f_cordonlaw_spoilStore : FuncId := 44
abbrev f_cordonlaw_spoilClause : FuncId := 45
abbrev f_cordonlaw_spoilSteps : FuncId := 46
abbrev f_learn_ready : FuncId := 47
abbrev f_learn_Fewest : FuncId := 48
abbrev f_learn_Nogood : FuncId := 49
abbrev f_cordonref_CheckModel : FuncId := 50
abbrev f_cordonref_CheckLit : FuncId := 51
abbrev f_cordonref_OppositeOf : FuncId := 52
abbrev f_cordonlaw_two : FuncId := 53
abbrev f_cordonref_HasFailed : FuncId := 54
abbrev f_cordonref_PutAll : FuncId := 55
abbrev f_learn_Trace : FuncId := 56
abbrev f_cordonref_between : FuncId := 57
abbrev f_cordonref_ConSays : FuncId := 58
abbrev f_cordonref_UnitSays : FuncId := 59
abbrev f_model_Holds : FuncId := 60
abbrev f_model_Scope : FuncId := 61
abbrev f_model_Check : FuncId := 62
abbrev f_cordonref_SameInts : FuncId := 63
abbrev f_clause_Check : FuncId := 64
abbrev f_model_Whole : FuncId := 65
abbrev f_slices_ContainsFunc_api_Clause_api_Lit : FuncId := 66
abbrev f_clause_Holds_1 : FuncId := 67
abbrev f_model_Lit : FuncId := 68
abbrev f_store_Within : FuncId := 69
abbrev f_store_Failed : FuncId := 70
abbrev f_store_Check : FuncId := 71
abbrev f_fix_Units : FuncId := 72
abbrev f_explain_Removed : FuncId := 73
abbrev f_cordonref_CheckStore : FuncId := 74
abbrev f_cordonref_UnitOf : FuncId := 75
abbrev f_cordonref_FilterOf : FuncId := 76
abbrev f_cordonref_NoValues : FuncId := 77
abbrev f_store_Full : FuncId := 78
abbrev f_store_ready : FuncId := 79
abbrev f_store_Keep : FuncId := 80
abbrev f_store_Meet_1 : FuncId := 81
abbrev f_slices_Contains_l_int_int : FuncId := 82
abbrev f_filter_Raw : FuncId := 83
abbrev f_clause_ready : FuncId := 84
abbrev f_clause_Put : FuncId := 85
abbrev f_clause_Without : FuncId := 86
abbrev f_fix_ready : FuncId := 87
abbrev f_fix_Run : FuncId := 88
abbrev f_explain_ready : FuncId := 89
abbrev f_explain_Empty : FuncId := 90
abbrev f_cordonref_sameCon : FuncId := 91
abbrev f_cordonlaw_spoilInts : FuncId := 92
abbrev f_fix_Rights : FuncId := 93
abbrev f_clause_Right : FuncId := 94
abbrev f_lit_Turns : FuncId := 95
abbrev f_learn_fails : FuncId := 96
abbrev f_slices_Clone_l_api_Lit_api_Lit : FuncId := 97
abbrev f_slices_Concat_l_api_Lit_api_Lit : FuncId := 98
abbrev f_lit_Opposite : FuncId := 99
abbrev f_cordonref_IsName : FuncId := 100
abbrev f_cordonref_checkCon : FuncId := 101
abbrev f_cordonref_inConst : FuncId := 102
abbrev f_cordonref_BeginOf : FuncId := 103
abbrev f_cordonref_PutOf : FuncId := 104
abbrev f_learn_put : FuncId := 105
abbrev f_learn_tracer_run : FuncId := 106
abbrev f_cordonref_DenyOf : FuncId := 107
abbrev f_model_ready : FuncId := 108
abbrev f_slices_ContainsFunc_l_int_int : FuncId := 109
abbrev f_model_Holds_1 : FuncId := 110
abbrev f_model_within : FuncId := 111
abbrev f_model_True : FuncId := 112
abbrev f_model_Vars : FuncId := 113
abbrev f_model_vars : FuncId := 114
abbrev f_model_con : FuncId := 115
abbrev f_slices_ContainsFunc_l_api_Con_api_Con : FuncId := 116
abbrev f_model_Whole_1 : FuncId := 117
abbrev f_slices_IndexFunc_api_Clause_api_Lit : FuncId := 118
abbrev f_store_Within_1 : FuncId := 119
abbrev f_store_Empty : FuncId := 120
abbrev f_lit_Right : FuncId := 121
abbrev f_explain_Gone : FuncId := 122
abbrev f_cordonref_ToldOf : FuncId := 123
abbrev f_cordonref_HasInt : FuncId := 124
abbrev f_cordonref_LitHolds : FuncId := 125
abbrev f_cordonref_ScopeOf : FuncId := 126
abbrev f_cordonref_ConHolds : FuncId := 127
abbrev f_cordonref_Chosen : FuncId := 128
abbrev f_cordonref_hasLit : FuncId := 129
abbrev f_store_right : FuncId := 130
abbrev f_slices_Index_l_int_int : FuncId := 131
abbrev f_store_Own : FuncId := 132
abbrev f_store_Nothing : FuncId := 133
abbrev f_filter_each : FuncId := 134
abbrev f_filter_linear : FuncId := 135
abbrev f_filter_twice : FuncId := 136
abbrev f_filter_differ : FuncId := 137
abbrev f_filter_Raw_1 : FuncId := 138
abbrev f_lit_Says : FuncId := 139
abbrev f_clause_Put_1 : FuncId := 140
abbrev f_clause_Put_1_1 : FuncId := 141
abbrev f_clause_Put_2 : FuncId := 142
abbrev f_clause_Without_1 : FuncId := 143
abbrev f_clause_Without_1_1 : FuncId := 144
abbrev f_fix_same : FuncId := 145
abbrev f_explain_fewest : FuncId := 146
abbrev f_explain_gone : FuncId := 147
abbrev f_cordonref_SameLists : FuncId := 148
abbrev f_slices_Grow_l_api_Lit_api_Lit : FuncId := 149
abbrev f_cordonref_IsToken : FuncId := 150
abbrev f_cordonref_IsWord : FuncId := 151
abbrev f_cordonref_rightForm : FuncId := 152
abbrev f_lit_Set : FuncId := 153
abbrev f_learn_tracer_con : FuncId := 154
abbrev f_slices_EqualFunc_api_Store_api_Store_int_int : FuncId := 155
abbrev f_slices_Equal_l_int_int : FuncId := 156
abbrev f_slices_IndexFunc_l_int_int : FuncId := 157
abbrev f_model_True_1 : FuncId := 158
abbrev f_model_True_2 : FuncId := 159
abbrev f_model_Sum : FuncId := 160
abbrev f_slices_ContainsFunc_rows_int_int : FuncId := 161
abbrev f_model_True_3 : FuncId := 162
abbrev f_slices_ContainsFunc_l_api_Lit_api_Lit : FuncId := 163
abbrev f_slices_Clone_l_int_int : FuncId := 164
abbrev f_slices_Sort_l_int_int : FuncId := 165
abbrev f_slices_Compact_l_int_int : FuncId := 166
abbrev f_model_Name : FuncId := 167
abbrev f_slices_ContainsFunc_l_api_Var_api_Var : FuncId := 168
abbrev f_model_vars_1 : FuncId := 169
abbrev f_model_con_1 : FuncId := 170
abbrev f_model_con_2 : FuncId := 171
abbrev f_model_form : FuncId := 172
abbrev f_model_con_3 : FuncId := 173
abbrev f_model_con_4 : FuncId := 174
abbrev f_slices_IndexFunc_l_api_Con_api_Con : FuncId := 175
abbrev f_slices_ContainsFunc_api_Store_int : FuncId := 176
abbrev f_store_Empty_1 : FuncId := 177
abbrev f_store_right_1 : FuncId := 178
abbrev f_filter_walker_walk : FuncId := 179
abbrev f_filter_each_1 : FuncId := 180
abbrev f_filter_terms : FuncId := 181
abbrev f_filter_sums : FuncId := 182
abbrev f_filter_linear_1 : FuncId := 183
abbrev f_slices_IndexFunc_l_filter_term_filter_term : FuncId := 184
abbrev f_filter_linear_1_1 : FuncId := 185
abbrev f_filter_linear_1_2 : FuncId := 186
abbrev f_filter_differ_1 : FuncId := 187
abbrev f_slices_Clone_api_Store_int : FuncId := 188
abbrev f_filter_matcher_find : FuncId := 189
abbrev f_fix_same_1 : FuncId := 190
abbrev f_slices_Concat_api_Clause_api_Lit : FuncId := 191
abbrev f_proof_ByCon : FuncId := 192
abbrev f_cordonref_TokenAt : FuncId := 193
abbrev f_lit_Set_1 : FuncId := 194
abbrev f_slices_IndexFunc_rows_int_int : FuncId := 195
abbrev f_slices_IndexFunc_l_api_Lit_api_Lit : FuncId := 196
abbrev f_slices_pdqsortOrdered_int : FuncId := 197
abbrev f_math_bits_Len : FuncId := 198
abbrev f_token_Name : FuncId := 199
abbrev f_slices_Contains_l_string_string : FuncId := 200
abbrev f_model_Words : FuncId := 201
abbrev f_slices_IndexFunc_l_api_Var_api_Var : FuncId := 202
abbrev f_model_of : FuncId := 203
abbrev f_model_is : FuncId := 204
abbrev f_model_form_1 : FuncId := 205
abbrev f_slices_IndexFunc_api_Store_int : FuncId := 206
abbrev f_filter_terms_1 : FuncId := 207
abbrev f_slices_Grow_api_Clause_api_Lit : FuncId := 208
abbrev f_cordonref_isLetter : FuncId := 209
abbrev f_cordonref_isDigit : FuncId := 210
abbrev f_slices_insertionSortOrdered_int : FuncId := 211
abbrev f_slices_heapSortOrdered_int : FuncId := 212
abbrev f_slices_breakPatternsOrdered_int : FuncId := 213
abbrev f_slices_choosePivotOrdered_int : FuncId := 214
abbrev f_slices_reverseRangeOrdered_int : FuncId := 215
abbrev f_slices_partialInsertionSortOrdered_int : FuncId := 216
abbrev f_cmp_Less_int : FuncId := 217
abbrev f_slices_partitionEqualOrdered_int : FuncId := 218
abbrev f_slices_partitionOrdered_int : FuncId := 219
abbrev f_math_bits_Len32 : FuncId := 220
abbrev f_math_bits_Len64 : FuncId := 221
abbrev f_token_one : FuncId := 222
abbrev f_slices_Index_l_string_string : FuncId := 223
abbrev f_slices_siftDownOrdered_int : FuncId := 224
abbrev f_slices_nextPowerOfTwo : FuncId := 225
abbrev f_slices_xorshift_Next : FuncId := 226
abbrev f_slices_medianAdjacentOrdered_int : FuncId := 227
abbrev f_slices_medianOrdered_int : FuncId := 228
abbrev f_cmp_isNaN_int : FuncId := 229
abbrev f_token_Scan : FuncId := 230
abbrev f_slices_order2Ordered_int : FuncId := 231
abbrev f_token_scanner_skip : FuncId := 232
abbrev f_token_scanner_token : FuncId := 233
abbrev f_token_scanner_sign : FuncId := 234
abbrev f_token_letter : FuncId := 235
abbrev f_token_scanner_run : FuncId := 236
abbrev f_token_scanner_token_1 : FuncId := 237
abbrev f_token_digit : FuncId := 238
abbrev f_slices_ContainsFunc_l_string_string : FuncId := 239
abbrev f_token_pairs : FuncId := 240
abbrev f_token_scanner_token_2 : FuncId := 241
abbrev f_strings_HasPrefix : FuncId := 242
abbrev f_strings_IndexByte : FuncId := 243
abbrev f_slices_IndexFunc_l_string_string : FuncId := 244
abbrev f_internal_stringslite_HasPrefix : FuncId := 245
abbrev f_internal_stringslite_IndexByte : FuncId := 246
def Ev : TE where
  zs := [(3, (false, [dI 0])), (9, (false, [.str (⟨#[]⟩)])), (22, (false, [.nil])), (23, (false, [.nil])), (25, (true, [.sl .var ([] : List VarD), .sl .con ([] : List ConD), dI 0, dI 0])), (26, (false, [.nil])), (27, (false, [.nil])), (28, (false, [.nil])), (38, (false, [.nil])), (44, (true, [dI 0, dI 0, .sl .lit ([] : List LitD)])), (46, (false, [.nil])), (52, (false, [.nil])), (53, (false, [.nil])), (82, (true, [dI 0, dI 0, dI 0])), (103, (true, [dI 0, .sl .int ([] : List Int), .sl .int ([] : List Int), dI 0, dS ([] : List (List Int)), .sl .lit ([] : List LitD)])), (111, (false, [.undef])), (119, (true, [.str (⟨#[]⟩), dI 0, dI 0])), (126, (false, [.undef])), (130, (true, [.sl .var ([] : List VarD), .sl .con ([] : List ConD), dI 0, dI 0, .sl (.list .lit) ([] : List (List LitD)), dS ([] : List (List Int)), .nil])), (157, (false, [.undef])), (165, (false, [.undef])), (166, (false, [.undef])), (168, (true, [dI 0, .sl .int ([] : List Int), .sl .int ([] : List Int), dI 0, dS ([] : List (List Int)), .sl .lit ([] : List LitD), dS ([] : List (List Int)), .sl .int ([] : List Int), .sl .int ([] : List Int), .undef])), (170, (true, [dI 0, dI 0])), (171, (false, [.nil])), (173, (false, [.undef])), (175, (true, [dI 0, dI 0])), (181, (true, [dS ([] : List (List Int)), .sl .int ([] : List Int), .undef, .undef, dI 0])), (195, (true, [dI 0, dI 0, dI 0, dI 0, dI 0])), (223, (true, [dI 0, dI 0, .str (⟨#[]⟩)])), (228, (true, [.str (⟨#[]⟩), dI 0]))]
  sl := [(22, (119, .var)), (23, (103, .con)), (26, (28, .list .lit)), (27, (82, .lit)), (28, (82, .lit)), (38, (44, .step)), (46, (3, .int)), (52, (46, .list .int)), (53, (46, .list .int)), (71, (53, .list (.list .int))), (150, (27, .list .lit)), (171, (175, .term)), (185, (9, .str)), (219, (223, .tok))]
  fld := [(25, [(0, 1), (1, 1), (2, 1), (3, 1)]), (44, [(0, 1), (1, 1), (2, 1)]), (82, [(0, 1), (1, 1), (2, 1)]), (103, [(0, 1), (1, 1), (2, 1), (3, 1), (4, 1), (5, 1)]), (119, [(0, 1), (1, 1), (2, 1)]), (130, [(0, 4), (4, 1), (5, 1), (6, 1)]), (168, [(0, 6), (6, 1), (7, 1), (8, 1), (9, 1)]), (175, [(0, 1), (1, 1)]), (181, [(0, 1), (1, 1), (2, 1), (3, 1), (4, 1)]), (195, [(0, 1), (1, 1), (2, 1), (3, 1), (4, 1)]), (223, [(0, 1), (1, 1), (2, 1)]), (228, [(0, 1), (1, 1)])]
  strs := [9]
  ints := [(2, .i64), (3, .i64), (5, .u8), (6, .u8), (29, .i64), (202, .i64), (244, .u8), (245, .u8)]
  bools := [4]
  sig := [(f_learn_Learn, [.list .lit, .bool, .int]), (f_cordonlaw_checkLearn, [.int]), (f_cordonlaw_learnBegun, [.bool]), (f_cordonref_Fails, [.bool]), (f_cordonref_CheckClause, [.int]), (f_cordonlaw_opposites, [.list .lit]), (f_cordonlaw_among, [.bool]), (f_learn_Steps, [.list .step, .bool, .int]), (f_cordonref_CheckSteps, [.int]), (f_cordonref_SameClause, [.bool]), (f_cordonref_StepsRight, [.bool]), (f_cordonlaw_modelBegun, [.bool]), (f_cordonlaw_clauseBegun, [.bool]), (f_model_All, [.bool, .int]), (f_cordonlaw_allClauses, [.bool]), (f_clause_Holds, [.bool, .int]), (f_cordonlaw_storeBegun, [.bool]), (f_cordonlaw_filterBegun, [.bool]), (f_cordonlaw_fixBegun, [.bool]), (f_cordonlaw_explainBegun, [.bool]), (f_cordonlaw_copiedModel, [.mdl]), (f_cordonlaw_copiedStore, [.list (.list .int)]), (f_cordonlaw_copiedClauses, [.list (.list .lit)]), (f_cordonlaw_checkStore, [.int]), (f_cordonref_CheckClauses, [.int]), (f_cordonref_FixOf, [.list (.list .int)]), (f_store_Begin, [.list (.list .int), .int]), (f_store_Meet, [.list (.list .int), .int]), (f_filter_Filter, [.list (.list .int), .int]), (f_clause_Unit, [.list (.list .int), .int]), (f_clause_Deny, [.list (.list .int), .int]), (f_fix_Both, [.list (.list .int), .int]), (f_fix_Cons, [.list (.list .int), .int]), (f_explain_Failed, [.list .lit, .bool, .int]), (f_cordonref_SameModel, [.bool]), (f_cordonref_SameStore, [.bool]), (f_cordonlaw_storeIs, [.bool]), (f_cordonlaw_spoilStore, []), (f_cordonlaw_spoilClause, []), (f_cordonlaw_spoilSteps, []), (f_learn_ready, [.int]), (f_learn_Fewest, [.list .lit, .bool]), (f_learn_Nogood, [.list .lit]), (f_cordonref_CheckModel, [.int]), (f_cordonref_CheckLit, [.int]), (f_cordonref_OppositeOf, [.lit]), (f_cordonlaw_two, [.mdl]), (f_cordonref_HasFailed, [.bool]), (f_cordonref_PutAll, [.list (.list .int)]), (f_learn_Trace, [.list .step]), (f_cordonref_between, [.bool]), (f_cordonref_ConSays, [.bool]), (f_cordonref_UnitSays, [.bool]), (f_model_Holds, [.bool, .int]), (f_model_Scope, [.list .int, .int]), (f_model_Check, [.int]), (f_cordonref_SameInts, [.bool]), (f_clause_Check, [.int]), (f_model_Whole, [.bool]), (f_slices_ContainsFunc_api_Clause_api_Lit, [.bool]), (f_model_Lit, [.bool]), (f_store_Within, [.bool, .int]), (f_store_Failed, [.bool, .int]), (f_store_Check, [.int]), (f_fix_Units, [.list (.list .int), .int]), (f_explain_Removed, [.list .lit, .bool, .int]), (f_cordonref_CheckStore, [.int]), (f_cordonref_UnitOf, [.list (.list .int)]), (f_cordonref_FilterOf, [.list (.list .int)]), (f_cordonref_NoValues, [.list (.list .int)]), (f_store_Full, [.list (.list .int)]), (f_store_ready, [.int]), (f_store_Keep, [.list (.list .int)]), (f_slices_Contains_l_int_int, [.bool]), (f_filter_Raw, [.list (.list .int)]), (f_clause_ready, [.int]), (f_clause_Put, [.list (.list .int)]), (f_clause_Without, [.list (.list .int)]), (f_fix_ready, [.int]), (f_fix_Run, [.list (.list .int)]), (f_explain_ready, [.int]), (f_explain_Empty, [.list .lit, .bool]), (f_cordonref_sameCon, [.bool]), (f_cordonlaw_spoilInts, []), (f_fix_Rights, [.int]), (f_clause_Right, [.int]), (f_lit_Turns, [.int]), (f_learn_fails, [.bool]), (f_slices_Concat_l_api_Lit_api_Lit, [.list .lit]), (f_lit_Opposite, [.lit]), (f_cordonref_IsName, [.bool]), (f_cordonref_checkCon, [.int]), (f_cordonref_inConst, [.bool]), (f_cordonref_BeginOf, [.list (.list .int)]), (f_cordonref_PutOf, [.list (.list .int)]), (f_learn_put, [.list (.list .int)]), (f_cordonref_DenyOf, [.list (.list .int)]), (f_model_ready, [.int]), (f_slices_ContainsFunc_l_int_int, [.bool]), (f_model_within, [.bool]), (f_model_True, [.bool]), (f_model_Vars, [.list .int]), (f_model_vars, [.int]), (f_model_con, [.int]), (f_slices_ContainsFunc_l_api_Con_api_Con, [.bool]), (f_slices_IndexFunc_api_Clause_api_Lit, [.int]), (f_store_Empty, [.bool]), (f_lit_Right, [.int]), (f_explain_Gone, [.list .lit, .bool]), (f_cordonref_ToldOf, [.int]), (f_cordonref_HasInt, [.bool]), (f_cordonref_LitHolds, [.bool]), (f_cordonref_ScopeOf, [.list .int]), (f_cordonref_ConHolds, [.bool]), (f_cordonref_hasLit, [.bool]), (f_store_right, [.int]), (f_slices_Index_l_int_int, [.int]), (f_store_Own, [.list (.list .int)]), (f_store_Nothing, [.list (.list .int)]), (f_filter_twice, [.bool]), (f_lit_Says, [.int]), (f_fix_same, [.bool]), (f_explain_fewest, [.list .lit]), (f_explain_gone, [.list .lit]), (f_cordonref_SameLists, [.bool]), (f_cordonref_IsToken, [.bool]), (f_cordonref_IsWord, [.bool]), (f_cordonref_rightForm, [.bool]), (f_lit_Set, [.list (.list .int)]), (f_slices_EqualFunc_api_Store_api_Store_int_int, [.bool]), (f_slices_Equal_l_int_int, [.bool]), (f_slices_IndexFunc_l_int_int, [.int]), (f_model_True_1, [.int]), (f_model_True_2, [.bool]), (f_model_Sum, [.bool]), (f_slices_ContainsFunc_rows_int_int, [.bool]), (f_slices_ContainsFunc_l_api_Lit_api_Lit, [.bool]), (f_model_Name, [.bool]), (f_slices_ContainsFunc_l_api_Var_api_Var, [.bool]), (f_model_con_2, [.bool]), (f_model_form, [.bool]), (f_slices_IndexFunc_l_api_Con_api_Con, [.int]), (f_slices_ContainsFunc_api_Store_int, [.bool]), (f_filter_terms, [.list .term]), (f_filter_sums, [.list .int]), (f_slices_IndexFunc_l_filter_term_filter_term, [.int]), (f_slices_Concat_api_Clause_api_Lit, [.list .lit]), (f_proof_ByCon, [.bool]), (f_cordonref_TokenAt, [.int, .int]), (f_slices_IndexFunc_rows_int_int, [.int]), (f_slices_IndexFunc_l_api_Lit_api_Lit, [.int]), (f_token_Name, [.bool]), (f_slices_Contains_l_string_string, [.bool]), (f_model_Words, [.list .str]), (f_slices_IndexFunc_l_api_Var_api_Var, [.int]), (f_model_of, [.pr .int (.pr .int (.pr .int (.pr .int .int)))]), (f_model_is, [.bool]), (f_slices_IndexFunc_api_Store_int, [.int]), (f_cordonref_isLetter, [.bool]), (f_cordonref_isDigit, [.bool]), (f_token_one, [.bool]), (f_slices_Index_l_string_string, [.int]), (f_token_Scan, [.list .tok, .int, .int]), (f_token_scanner_skip, []), (f_token_scanner_token, [.tok, .int]), (f_slices_IndexFunc_l_string_string, [.int])]
  mps := [(157, (.int, .int)), (166, (.pr .int .int, .int)), (173, (.int, .list .int))]
  sts := [(82, .lit), (119, .var)]
  hsig := [(f_slices_Clone_l_api_Lit_api_Lit, { tys := [.list .lit], nils := [], datas := [], res := fun xs ob => match xs with | [.sl .lit y0] => some (.own 3000, [(3000, .row 82 .lit y0)]) | _ => none }),
    (f_learn_tracer_run, { tys := [.list (.list .int), .list .step], nils := [(0, (6, (44, .step)))], datas := [], res := fun xs ob => match xs, ob 1000, ob 2000 with | [y0, .sl .step y1], some (.cells o1000), some o2000 => some (.tup [], [(1000, .cells (o1000.set 5 y0)), (2000, .row 44 .step y1)]) | _, _, _ => none }),
    (f_cordonref_Chosen, { tys := [.bool, .list .int], nils := [], datas := [], res := fun xs ob => match xs, ob 1000 with | [y0, .sl .int y1], some o1000 => some (y0, [(1000, .row 3 .int y1)]) | _, _ => none }),
    (f_filter_each, { tys := [.con, .list (.list .int), .list .int, .list .int, .list (.pr (.pr .int .int) .int)], nils := [], datas := [], res := fun xs _ => match xs with | [.agg y0, y1, y2, y3, .sl (.pr (.pr .int .int) .int) y4] => some (.clo 180 none [.iptr [.iptr (y0 ++ [y1, y2, y3, .mp (.pr .int .int) .int y4]) 0] 0], []) | _ => none }),
    (f_filter_linear, { tys := [.list .term, .list (.pr .int (.list .int)), .con], nils := [], datas := [], res := fun xs _ => match xs with | [y0, .sl (.pr .int (.list .int)) y1, .agg y2] => some (.clo 183 none [.iptr [y0] 0, .iptr [.mp .int (.list .int) y1] 0, .iptr y2 0], []) | _ => none }),
    (f_filter_differ, { tys := [.list (.list .int), .con], nils := [], datas := [], res := fun xs _ => match xs with | [y0, .agg y1] => some (.clo 187 none [.iptr [y0] 0, .iptr y1 0], []) | _ => none }),
    (f_slices_Grow_l_api_Lit_api_Lit, { tys := [.list .lit], nils := [], datas := [], res := fun xs ob => match xs with | [.sl .lit y0] => some (.own 3000, [(3000, .row 82 .lit y0)]) | _ => none, raw := true }),
    (f_learn_tracer_con, { tys := [.bool, .list (.list .int), .list .step], nils := [(0, (6, (44, .step)))], datas := [], res := fun xs ob => match xs, ob 1000, ob 2000 with | [y0, y1, .sl .step y2], some (.cells o1000), some o2000 => some (y0, [(1000, .cells (o1000.set 5 y1)), (2000, .row 44 .step y2)]) | _, _, _ => none }),
    (f_slices_Clone_l_int_int, { tys := [.list .int], nils := [], datas := [], res := fun xs ob => match xs with | [.sl .int y0] => some (.own 3000, [(3000, .row 3 .int y0)]) | _ => none }),
    (f_slices_Sort_l_int_int, { tys := [.list .int], nils := [], datas := [], res := fun xs ob => match xs, ob 1000 with | [.sl .int y0], some o1000 => some (.tup [], [(1000, .row 3 .int y0)]) | _, _ => none }),
    (f_slices_Compact_l_int_int, { tys := [.list .int], nils := [], datas := [], res := fun xs ob => match xs, ob 1000 with | [y0], some o1000 => some (y0, []) | _, _ => none }),
    (f_filter_walker_walk, { tys := [.list .int, .list (.pr (.pr .int .int) .int)], nils := [], datas := [], res := fun xs ob => match xs, ob 1000, ob 2000, ob 1001 with | [.sl .int y0, .sl (.pr (.pr .int .int) .int) y1], some o1000, some o2000, some o1001 => some (.tup [], [(1000, o1000), (2000, .row 3 .int y0), (1001, .mp (.pr .int .int) .int y1)]) | _, _, _, _ => none }),
    (f_slices_Clone_api_Store_int, { tys := [.list (.list .int)], nils := [], datas := [], res := fun xs ob => match xs with | [.sl (.list .int) y0] => some (.own 3000, [(3000, .row 46 (.list .int) y0)]) | _ => none }),
    (f_filter_matcher_find, { tys := [.bool, .list (.pr .int .int), .list (.pr .int .int)], nils := [], datas := [(0, 0)], res := fun xs ob => match xs, ob 1000, ob 1001, ob 1002 with | [y0, .sl (.pr .int .int) y1, .sl (.pr .int .int) y2], some o1000, some o1001, some o1002 => some (y0, [(1000, o1000), (1001, .mp .int .int y1), (1002, .mp .int .int y2)]) | _, _, _, _ => none }),
    (f_slices_Grow_api_Clause_api_Lit, { tys := [.list .lit], nils := [], datas := [], res := fun xs ob => match xs with | [.sl .lit y0] => some (.own 3000, [(3000, .row 82 .lit y0)]) | _ => none, raw := true })]
  vals := [130, 168, 181]
  arr := [170]
theorem chkEv : Ev.chk Tryz.prog = true := by kernel_rfl
theorem sigEv : ∀ x ∈ Ev.sig, ∀ args w, (callFunc x.1 args).run Tryz.prog w = .ok (.enter x.1 args) w := by
  intro x hx args w
  simp only [Ev, List.mem_cons, List.not_mem_nil, or_false] at hx
  rcases hx with rfl | rfl | rfl | rfl | rfl | rfl | rfl | rfl | rfl | rfl | rfl | rfl | rfl | rfl | rfl | rfl | rfl | rfl | rfl | rfl | rfl | rfl | rfl | rfl | rfl | rfl | rfl | rfl | rfl | rfl | rfl | rfl | rfl | rfl | rfl | rfl | rfl | rfl | rfl | rfl | rfl | rfl | rfl | rfl | rfl | rfl | rfl | rfl | rfl | rfl | rfl | rfl | rfl | rfl | rfl | rfl | rfl | rfl | rfl | rfl | rfl | rfl | rfl | rfl | rfl | rfl | rfl | rfl | rfl | rfl | rfl | rfl | rfl | rfl | rfl | rfl | rfl | rfl | rfl | rfl | rfl | rfl | rfl | rfl | rfl | rfl | rfl | rfl | rfl | rfl | rfl | rfl | rfl | rfl | rfl | rfl | rfl | rfl | rfl | rfl | rfl | rfl | rfl | rfl | rfl | rfl | rfl | rfl | rfl | rfl | rfl | rfl | rfl | rfl | rfl | rfl | rfl | rfl | rfl | rfl | rfl | rfl | rfl | rfl | rfl | rfl | rfl | rfl | rfl | rfl | rfl | rfl | rfl | rfl | rfl | rfl | rfl | rfl | rfl | rfl | rfl | rfl | rfl | rfl | rfl | rfl | rfl | rfl | rfl | rfl | rfl | rfl | rfl | rfl | rfl | rfl | rfl | rfl | rfl | rfl | rfl | rfl | rfl | rfl | rfl | rfl
  · exact Tryz.call7 args w
  · exact Tryz.call8 args w
  · exact Tryz.call9 args w
  · exact Tryz.call10 args w
  · exact Tryz.call11 args w
  · exact Tryz.call12 args w
  · exact Tryz.call13 args w
  · exact Tryz.call14 args w
  · exact Tryz.call15 args w
  · exact Tryz.call16 args w
  · exact Tryz.call17 args w
  · exact Tryz.call18 args w
  · exact Tryz.call19 args w
  · exact Tryz.call20 args w
  · exact Tryz.call21 args w
  · exact Tryz.call22 args w
  · exact Tryz.call23 args w
  · exact Tryz.call24 args w
  · exact Tryz.call25 args w
  · exact Tryz.call26 args w
  · exact Tryz.call27 args w
  · exact Tryz.call28 args w
  · exact Tryz.call29 args w
  · exact Tryz.call30 args w
  · exact Tryz.call31 args w
  · exact Tryz.call32 args w
  · exact Tryz.call33 args w
  · exact Tryz.call34 args w
  · exact Tryz.call35 args w
  · exact Tryz.call36 args w
  · exact Tryz.call37 args w
  · exact Tryz.call38 args w
  · exact Tryz.call39 args w
  · exact Tryz.call40 args w
  · exact Tryz.call41 args w
  · exact Tryz.call42 args w
  · exact Tryz.call43 args w
  · exact Tryz.call44 args w
  · exact Tryz.call45 args w
  · exact Tryz.call46 args w
  · exact Tryz.call47 args w
  · exact Tryz.call48 args w
  · exact Tryz.call49 args w
  · exact Tryz.call50 args w
  · exact Tryz.call51 args w
  · exact Tryz.call52 args w
  · exact Tryz.call53 args w
  · exact Tryz.call54 args w
  · exact Tryz.call55 args w
  · exact Tryz.call56 args w
  · exact Tryz.call57 args w
  · exact Tryz.call58 args w
  · exact Tryz.call59 args w
  · exact Tryz.call60 args w
  · exact Tryz.call61 args w
  · exact Tryz.call62 args w
  · exact Tryz.call63 args w
  · exact Tryz.call64 args w
  · exact Tryz.call65 args w
  · exact Tryz.call66 args w
  · exact Tryz.call68 args w
  · exact Tryz.call69 args w
  · exact Tryz.call70 args w
  · exact Tryz.call71 args w
  · exact Tryz.call72 args w
  · exact Tryz.call73 args w
  · exact Tryz.call74 args w
  · exact Tryz.call75 args w
  · exact Tryz.call76 args w
  · exact Tryz.call77 args w
  · exact Tryz.call78 args w
  · exact Tryz.call79 args w
  · exact Tryz.call80 args w
  · exact Tryz.call82 args w
  · exact Tryz.call83 args w
  · exact Tryz.call84 args w
  · exact Tryz.call85 args w
  · exact Tryz.call86 args w
  · exact Tryz.call87 args w
  · exact Tryz.call88 args w
  · exact Tryz.call89 args w
  · exact Tryz.call90 args w
  · exact Tryz.call91 args w
  · exact Tryz.call92 args w
  · exact Tryz.call93 args w
  · exact Tryz.call94 args w
  · exact Tryz.call95 args w
  · exact Tryz.call96 args w
  · exact Tryz.call98 args w
  · exact Tryz.call99 args w
  · exact Tryz.call100 args w
  · exact Tryz.call101 args w
  · exact Tryz.call102 args w
  · exact Tryz.call103 args w
  · exact Tryz.call104 args w
  · exact Tryz.call105 args w
  · exact Tryz.call107 args w
  · exact Tryz.call108 args w
  · exact Tryz.call109 args w
  · exact Tryz.call111 args w
  · exact Tryz.call112 args w
  · exact Tryz.call113 args w
  · exact Tryz.call114 args w
  · exact Tryz.call115 args w
  · exact Tryz.call116 args w
  · exact Tryz.call118 args w
  · exact Tryz.call120 args w
  · exact Tryz.call121 args w
  · exact Tryz.call122 args w
  · exact Tryz.call123 args w
  · exact Tryz.call124 args w
  · exact Tryz.call125 args w
  · exact Tryz.call126 args w
  · exact Tryz.call127 args w
  · exact Tryz.call129 args w
  · exact Tryz.call130 args w
  · exact Tryz.call131 args w
  · exact Tryz.call132 args w
  · exact Tryz.call133 args w
  · exact Tryz.call136 args w
  · exact Tryz.call139 args w
  · exact Tryz.call145 args w
  · exact Tryz.call146 args w
  · exact Tryz.call147 args w
  · exact Tryz.call148 args w
  · exact Tryz.call150 args w
  · exact Tryz.call151 args w
  · exact Tryz.call152 args w
  · exact Tryz.call153 args w
  · exact Tryz.call155 args w
  · exact Tryz.call156 args w
  · exact Tryz.call157 args w
  · exact Tryz.call158 args w
  · exact Tryz.call159 args w
  · exact Tryz.call160 args w
  · exact Tryz.call161 args w
  · exact Tryz.call163 args w
  · exact Tryz.call167 args w
  · exact Tryz.call168 args w
  · exact Tryz.call171 args w
  · exact Tryz.call172 args w
  · exact Tryz.call175 args w
  · exact Tryz.call176 args w
  · exact Tryz.call181 args w
  · exact Tryz.call182 args w
  · exact Tryz.call184 args w
  · exact Tryz.call191 args w
  · exact Tryz.call192 args w
  · exact Tryz.call193 args w
  · exact Tryz.call195 args w
  · exact Tryz.call196 args w
  · exact Tryz.call199 args w
  · exact Tryz.call200 args w
  · exact Tryz.call201 args w
  · exact Tryz.call202 args w
  · exact Tryz.call203 args w
  · exact Tryz.call204 args w
  · exact Tryz.call206 args w
  · exact Tryz.call209 args w
  · exact Tryz.call210 args w
  · exact Tryz.call222 args w
  · exact Tryz.call223 args w
  · exact Tryz.call230 args w
  · exact Tryz.call232 args w
  · exact Tryz.call233 args w
  · exact Tryz.call244 args w
theorem chkEv2 : Ev.chk2 Tryz.prog = true := by kernel_rfl
theorem hsigEv : ∀ x ∈ Ev.hsig, Ent Tryz.prog x.1 := by
  intro x hx args w
  simp only [Ev, List.mem_cons, List.not_mem_nil, or_false] at hx
  rcases hx with rfl | rfl | rfl | rfl | rfl | rfl | rfl | rfl | rfl | rfl | rfl | rfl | rfl | rfl | rfl
  · exact Tryz.call97 args w
  · exact Tryz.call106 args w
  · exact Tryz.call128 args w
  · exact Tryz.call134 args w
  · exact Tryz.call135 args w
  · exact Tryz.call137 args w
  · exact Tryz.call149 args w
  · exact Tryz.call154 args w
  · exact Tryz.call164 args w
  · exact Tryz.call165 args w
  · exact Tryz.call166 args w
  · exact Tryz.call179 args w
  · exact Tryz.call188 args w
  · exact Tryz.call189 args w
  · exact Tryz.call208 args w
theorem factsEv : Facts Tryz.prog Ev := facts_of (by kernel_rfl) chkEv chkEv2 sigEv hsigEv
end Go.Proofs.YtajnbkhgnppckaaGreat
