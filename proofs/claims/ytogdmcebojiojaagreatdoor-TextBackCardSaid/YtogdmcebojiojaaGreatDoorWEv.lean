/- The types and the functions of the program that the walks need, read from its table: printed by a program. -/
import Derived.Test.YtogdmcebojiojaaGreatDoorProg
import Derived.Test.YtogdmcebojiojaaGreatDoorMD
namespace Go.Proofs.YtogdmcebojiojaaGreatDoor
open Go.RowKit
set_option linter.unusedVariables false
set_option maxRecDepth 100000
abbrev f_cordonlaw_TextBack : FuncId := 5
abbrev f_text_Parse : FuncId := 10
abbrev f_cordonref_ParseOf : FuncId := 11
abbrev f_cordonlaw_textBegun : FuncId := 12
abbrev f_cordonref_SameModel : FuncId := 13
abbrev f_text_Print : FuncId := 14
abbrev f_cordonref_CheckModel : FuncId := 15
abbrev f_cordonref_PrintOf : FuncId := 16
abbrev f_report_Answer : FuncId := 17
abbrev f_cordonlaw_reportBegun : FuncId := 18
abbrev f_cordonlaw_bestBegun : FuncId := 19
abbrev f_cordonref_Digits : FuncId := 20
abbrev f_best_Best : FuncId := 21
abbrev f_cordonlaw_answerText : FuncId := 22
abbrev f_report_Verify : FuncId := 23
abbrev f_cordonlaw_checkBetter : FuncId := 24
abbrev f_cordonref_BetterOf : FuncId := 25
abbrev f_cordonref_CheckSteps : FuncId := 26
abbrev f_cordonref_IsProof : FuncId := 27
abbrev f_cordonref_AllHold : FuncId := 28
abbrev f_cordonlaw_modelBegun : FuncId := 29
abbrev f_model_All : FuncId := 30
abbrev f_cordonlaw_searchBegun : FuncId := 31
abbrev f_cordonlaw_proofBegun : FuncId := 32
abbrev f_cordonlaw_copiedModel : FuncId := 33
abbrev f_search_Solve : FuncId := 34
abbrev f_search_List : FuncId := 35
abbrev f_model_Scope : FuncId := 36
abbrev f_proof_Check : FuncId := 37
abbrev f_cordonref_SameInts : FuncId := 38
abbrev f_cordonlaw_spoilInts : FuncId := 39
abbrev f_cordonlaw_spoilSteps : FuncId := 40
abbrev f_token_Scan : FuncId := 41
abbrev f_text_parse : FuncId := 42
abbrev f_model_Check : FuncId := 43
abbrev f_cordonref_ScanOf : FuncId := 44
abbrev f_cordonref_Reader_Text : FuncId := 45
abbrev f_cordonref_Reader_Need : FuncId := 46
abbrev f_cordonref_IsName : FuncId := 47
abbrev f_cordonref_Reader_Wrong : FuncId := 48
abbrev f_cordonref_Reader_K : FuncId := 49
abbrev f_cordonref_Reader_Con : FuncId := 50
abbrev f_cordonref_Reader_Word : FuncId := 51
abbrev f_cordonref_Reader_V : FuncId := 52
abbrev f_cordonref_Reader_Here : FuncId := 53
abbrev f_cordonlaw_two : FuncId := 54
abbrev f_cordonref_sameCon : FuncId := 55
abbrev f_strings_Builder_WriteString : FuncId := 56
abbrev f_strconv_Itoa : FuncId := 57
abbrev f_text_printer_con : FuncId := 58
abbrev f_text_printer_v : FuncId := 59
abbrev f_strings_Builder_String : FuncId := 60
abbrev f_cordonref_between : FuncId := 61
abbrev f_cordonref_checkCon : FuncId := 62
abbrev f_cordonref_numbersText : FuncId := 63
abbrev f_cordonref_namesText : FuncId := 64
abbrev f_cordonref_Brackets : FuncId := 65
abbrev f_cordonref_litText : FuncId := 66
abbrev f_report_found : FuncId := 67
abbrev f_best_Better : FuncId := 68
abbrev f_cordonref_SameClause : FuncId := 69
abbrev f_search_Ready : FuncId := 70
abbrev f_search_New : FuncId := 71
abbrev f_best_bester_run : FuncId := 72
abbrev f_search_Searcher_Proof : FuncId := 73
abbrev f_model_Whole : FuncId := 74
abbrev f_cordonref_CheckClauses : FuncId := 75
abbrev f_cordonref_CheckClause : FuncId := 76
abbrev f_cordonref_StepsRight : FuncId := 77
abbrev f_cordonref_ConHolds : FuncId := 78
abbrev f_model_Holds : FuncId := 79
abbrev f_cordonref_SameLists : FuncId := 80
abbrev f_proof_Con : FuncId := 81
abbrev f_proof_Unit : FuncId := 82
abbrev f_search_Searcher_Go : FuncId := 83
abbrev f_search_lister_list : FuncId := 84
abbrev f_store_Full : FuncId := 85
abbrev f_model_ready : FuncId := 86
abbrev f_model_Vars : FuncId := 87
abbrev f_proof_ready : FuncId := 88
abbrev f_proof_checker_step : FuncId := 89
abbrev f_cordonlaw_spoilClause : FuncId := 90
abbrev f_token_scanner_skip : FuncId := 91
abbrev f_token_scanner_token : FuncId := 92
abbrev f_text_parser_model : FuncId := 94
abbrev f_model_vars : FuncId := 95
abbrev f_model_con : FuncId := 96
abbrev f_model_within : FuncId := 97
abbrev f_cordonref_TokenAt : FuncId := 98
abbrev f_cordonref_IsToken : FuncId := 99
abbrev f_cordonref_IsWord : FuncId := 100
abbrev f_cordonref_isDigit : FuncId := 101
abbrev f_cordonref_Reader_Ks : FuncId := 102
abbrev f_cordonref_Reader_Vs : FuncId := 103
abbrev f_cordonref_Reader_More : FuncId := 104
abbrev f_cordonref_Reader_Lit : FuncId := 105
abbrev f_strings_Builder_copyCheck : FuncId := 106
abbrev f_text_printer_con_1 : FuncId := 108
abbrev f_text_each_int : FuncId := 109
abbrev f_text_words : FuncId := 110
abbrev f_text_each_l_int : FuncId := 111
abbrev f_text_each_api_Lit : FuncId := 112
abbrev f_text_printer_lit : FuncId := 113
abbrev f_cordonref_rightForm : FuncId := 114
abbrev f_cordonref_inConst : FuncId := 115
abbrev f_cordonref_CheckLit : FuncId := 116
abbrev f_best_Than : FuncId := 117
abbrev f_slices_ContainsFunc_l_api_Con_api_Con : FuncId := 118
abbrev f_model_True : FuncId := 120
abbrev f_cordonref_ConSays : FuncId := 121
abbrev f_cordonref_UnitSays : FuncId := 122
abbrev f_cordonref_LitHolds : FuncId := 123
abbrev f_slices_ContainsFunc_l_int_int : FuncId := 124
abbrev f_clause_Right : FuncId := 126
abbrev f_proof_ByCon : FuncId := 127
abbrev f_fix_Rights : FuncId := 128
abbrev f_proof_ByUnit : FuncId := 129
abbrev f_search_Searcher_down : FuncId := 130
abbrev f_learn_Fewest : FuncId := 131
abbrev f_search_Searcher_all : FuncId := 132
abbrev f_search_Searcher_note : FuncId := 133
abbrev f_learn_Trace : FuncId := 134
abbrev f_learn_Nogood : FuncId := 135
abbrev f_fix_Run : FuncId := 136
abbrev f_store_Empty : FuncId := 137
abbrev f_search_open : FuncId := 138
abbrev f_store_Keep : FuncId := 139
abbrev f_slices_Clone_l_int_int : FuncId := 141
abbrev f_slices_Sort_l_int_int : FuncId := 142
abbrev f_slices_Compact_l_int_int : FuncId := 143
abbrev f_text_parser_take : FuncId := 154
abbrev f_text_parser_name : FuncId := 155
abbrev f_text_parser_need : FuncId := 156
abbrev f_text_parser_k : FuncId := 157
abbrev f_text_parser_con : FuncId := 158
abbrev f_text_parser_v : FuncId := 159
abbrev f_text_parser_fail : FuncId := 160
abbrev f_model_Name : FuncId := 161
abbrev f_slices_ContainsFunc_l_api_Var_api_Var : FuncId := 162
abbrev f_model_vars_1 : FuncId := 163
abbrev f_model_con_1 : FuncId := 164
abbrev f_model_con_2 : FuncId := 165
abbrev f_model_form : FuncId := 166
abbrev f_slices_ContainsFunc_l_api_Lit_api_Lit : FuncId := 167
abbrev f_model_con_3 : FuncId := 168
abbrev f_slices_ContainsFunc_rows_int_int : FuncId := 169
abbrev f_model_con_4 : FuncId := 170
abbrev f_cordonref_isLetter : FuncId := 171
abbrev f_strings_Join : FuncId := 174
abbrev f_slices_IndexFunc_l_api_Con_api_Con : FuncId := 175
abbrev f_model_True_1 : FuncId := 176
abbrev f_model_True_2 : FuncId := 177
abbrev f_model_Lit : FuncId := 178
abbrev f_model_Sum : FuncId := 179
abbrev f_slices_Equal_l_int_int : FuncId := 181
abbrev f_cordonref_HasFailed : FuncId := 182
abbrev f_cordonref_FilterOf : FuncId := 183
abbrev f_cordonref_DenyOf : FuncId := 184
abbrev f_cordonref_BeginOf : FuncId := 185
abbrev f_cordonref_FixOf : FuncId := 186
abbrev f_slices_IndexFunc_l_int_int : FuncId := 187
abbrev f_lit_Right : FuncId := 188
abbrev f_clause_Without : FuncId := 189
abbrev f_filter_Raw : FuncId := 190
abbrev f_learn_fails : FuncId := 192
abbrev f_slices_Clone_l_api_Lit_api_Lit : FuncId := 193
abbrev f_slices_Concat_l_api_Lit_api_Lit : FuncId := 194
abbrev f_search_key : FuncId := 195
abbrev f_learn_put : FuncId := 196
abbrev f_learn_tracer_run : FuncId := 197
abbrev f_lit_Opposite : FuncId := 198
abbrev f_store_Own : FuncId := 199
abbrev f_clause_Put : FuncId := 200
abbrev f_store_Nothing : FuncId := 201
abbrev f_fix_same : FuncId := 202
abbrev f_slices_ContainsFunc_api_Store_int : FuncId := 203
abbrev f_slices_IndexFunc_l_string_string : FuncId := 207
abbrev f_strconv_Atoi : FuncId := 210
abbrev f_text_list_int : FuncId := 211
abbrev f_text_parser_some : FuncId := 212
abbrev f_text_list_l_int : FuncId := 213
abbrev f_text_parser_con_1 : FuncId := 214
abbrev f_text_list_api_Lit : FuncId := 215
abbrev f_text_parser_lit : FuncId := 216
abbrev f_text_parser_here : FuncId := 217
abbrev f_token_Name : FuncId := 218
abbrev f_slices_Contains_l_string_string : FuncId := 219
abbrev f_model_Words : FuncId := 220
abbrev f_slices_IndexFunc_l_api_Var_api_Var : FuncId := 221
abbrev f_model_of : FuncId := 222
abbrev f_model_is : FuncId := 223
abbrev f_model_form_1 : FuncId := 224
abbrev f_slices_IndexFunc_l_api_Lit_api_Lit : FuncId := 225
abbrev f_slices_IndexFunc_rows_int_int : FuncId := 226
abbrev f_cordonref_ScopeOf : FuncId := 232
abbrev f_cordonref_NoValues : FuncId := 233
abbrev f_cordonref_Chosen : FuncId := 234
abbrev f_cordonref_hasLit : FuncId := 235
abbrev f_cordonref_HasInt : FuncId := 236
abbrev f_cordonref_UnitOf : FuncId := 237
abbrev f_cordonref_SameStore : FuncId := 238
abbrev f_slices_ContainsFunc_api_Clause_api_Lit : FuncId := 240
abbrev f_filter_each : FuncId := 242
abbrev f_filter_linear : FuncId := 243
abbrev f_filter_twice : FuncId := 244
abbrev f_filter_differ : FuncId := 245
abbrev f_slices_Contains_l_int_int : FuncId := 247
abbrev f_slices_Grow_l_api_Lit_api_Lit : FuncId := 248
abbrev f_lit_Set : FuncId := 249
abbrev f_learn_tracer_con : FuncId := 250
abbrev f_slices_EqualFunc_api_Store_api_Store_int_int : FuncId := 251
abbrev f_lit_Says : FuncId := 252
abbrev f_slices_IndexFunc_api_Store_int : FuncId := 257
abbrev f_token_one : FuncId := 272
abbrev f_slices_Index_l_string_string : FuncId := 273
abbrev f_cordonref_ToldOf : FuncId := 279
abbrev f_slices_IndexFunc_api_Clause_api_Lit : FuncId := 280
abbrev f_filter_walker_walk : FuncId := 281
abbrev f_filter_terms : FuncId := 283
abbrev f_filter_sums : FuncId := 284
abbrev f_slices_IndexFunc_l_filter_term_filter_term : FuncId := 286
abbrev f_slices_Clone_api_Store_int : FuncId := 290
abbrev f_filter_matcher_find : FuncId := 291
abbrev f_slices_Index_l_int_int : FuncId := 292
abbrev f_explain_Empty : FuncId := 294
abbrev f_explain_Gone : FuncId := 295
abbrev f_explain_fewest : FuncId := 311
abbrev f_explain_gone : FuncId := 312
abbrev f_slices_Concat_api_Clause_api_Lit : FuncId := 317
abbrev f_slices_Grow_api_Clause_api_Lit : FuncId := 320
def Ev : TE where
  zs := [(3, (false, [dI 0])), (9, (false, [.str (⟨#[]⟩)])), (22, (false, [.nil])), (23, (false, [.nil])), (25, (true, [.sl .var ([] : List VarD), .sl .con ([] : List ConD), dI 0, dI 0])), (26, (false, [dI 0])), (40, (false, [.nil])), (41, (false, [.nil])), (43, (true, [dI 0, .sl .int ([] : List Int), .sl .step ([] : List StepD)])), (50, (false, [.nil])), (52, (false, [.nil])), (53, (false, [.nil])), (62, (false, [.nil])), (72, (true, [.str (⟨#[]⟩), dI 0, dI 0])), (74, (true, [dI 0, .sl .int ([] : List Int), .sl .int ([] : List Int), dI 0, dS ([] : List (List Int)), .sl .lit ([] : List LitD)])), (76, (false, [.nil])), (80, (false, [.undef])), (81, (false, [.undef])), (83, (true, [.sl .tok ([] : List Tok), dI 0, dI 0, .nil, .nil, dI 0, dI 0, .undef])), (85, (true, [.sl .tok ([] : List Tok), dI 0, dI 0, dI 0, .nil, .nil, dI 0, dI 0])), (97, (false, [.nil])), (99, (true, [.ifc (.pointer none), .nil])), (101, (true, [.ifc (.pointer none), .nil, .sl .var ([] : List VarD), .sl .con ([] : List ConD), dI 0, dI 0])), (114, (true, [dI 0, dI 0, dI 0])), (120, (false, [.undef])), (123, (true, [.undef, .slN .int ([] : List Int) true])), (129, (true, [dI 0, dI 0, .sl .lit ([] : List LitD)])), (139, (true, [.sl .var ([] : List VarD), .sl .con ([] : List ConD), dI 0, dI 0, .nil])), (141, (false, [.nil])), (147, (true, [.sl .var ([] : List VarD), .sl .con ([] : List ConD), dI 0, dI 0, .nil])), (152, (true, [.str (⟨#[]⟩), dI 0])), (154, (true, [dI 0, dI 0, .str (⟨#[]⟩)])), (158, (true, [dI 0, dI 0])), (176, (false, [.undef])), (179, (true, [.sl .var ([] : List VarD), .sl .con ([] : List ConD), dI 0, dI 0, .sl (.list .lit) ([] : List (List LitD)), dI 0, .nil, .nil, .undef])), (195, (false, [.undef])), (217, (false, [.undef])), (229, (true, [.sl .var ([] : List VarD), .sl .con ([] : List ConD), dI 0, dI 0, .sl (.list .lit) ([] : List (List LitD)), dS ([] : List (List Int)), .nil])), (245, (true, [dI 0, dI 0, dI 0, dI 0, dI 0])), (284, (false, [.undef])), (285, (false, [.undef])), (287, (true, [dI 0, .sl .int ([] : List Int), .sl .int ([] : List Int), dI 0, dS ([] : List (List Int)), .sl .lit ([] : List LitD), dS ([] : List (List Int)), .sl .int ([] : List Int), .sl .int ([] : List Int), .undef])), (288, (true, [dI 0, dI 0])), (289, (false, [.nil])), (291, (false, [.undef])), (293, (true, [dI 0, dI 0])), (299, (true, [dS ([] : List (List Int)), .sl .int ([] : List Int), .undef, .undef, dI 0]))]
  sl := [(22, (72, .var)), (23, (74, .con)), (40, (3, .int)), (41, (129, .step)), (50, (53, .list .lit)), (52, (114, .lit)), (53, (114, .lit)), (62, (40, .list .int)), (76, (154, .tok)), (92, (9, .str)), (97, (5, .byte)), (141, (40, .list .int)), (263, (52, .list .lit)), (289, (293, .term))]
  fld := [(25, [(0, 1), (1, 1), (2, 1), (3, 1)]), (43, [(0, 1), (1, 1), (2, 1)]), (72, [(0, 1), (1, 1), (2, 1)]), (74, [(0, 1), (1, 1), (2, 1), (3, 1), (4, 1), (5, 1)]), (83, [(0, 1), (1, 1), (2, 1), (3, 4), (7, 1)]), (85, [(0, 1), (1, 1), (2, 1), (3, 1), (4, 4)]), (99, [(0, 1), (1, 1)]), (101, [(0, 2), (2, 4)]), (114, [(0, 1), (1, 1), (2, 1)]), (123, [(0, 1), (1, 1)]), (129, [(0, 1), (1, 1), (2, 1)]), (139, [(0, 4), (4, 1)]), (147, [(0, 4), (4, 1)]), (152, [(0, 1), (1, 1)]), (154, [(0, 1), (1, 1), (2, 1)]), (158, [(0, 1), (1, 1)]), (179, [(0, 4), (4, 1), (5, 1), (6, 1), (7, 1), (8, 1)]), (229, [(0, 4), (4, 1), (5, 1), (6, 1)]), (245, [(0, 1), (1, 1), (2, 1), (3, 1), (4, 1)]), (287, [(0, 6), (6, 1), (7, 1), (8, 1), (9, 1)]), (293, [(0, 1), (1, 1)]), (299, [(0, 1), (1, 1), (2, 1), (3, 1), (4, 1)])]
  strs := [9]
  ints := [(2, .i64), (3, .i64), (5, .u8), (6, .u8), (26, .i64), (270, .i64), (310, .i64), (340, .u8), (341, .u8)]
  bools := [4]
  sig := [(f_text_Parse, [.mdl, .int, .int]), (f_cordonref_ParseOf, [.mdl, .int, .int]), (f_cordonlaw_textBegun, [.bool]), (f_cordonref_SameModel, [.bool]), (f_text_Print, [.str, .int]), (f_cordonref_CheckModel, [.int]), (f_cordonref_PrintOf, [.str]), (f_report_Answer, [.str, .int]), (f_cordonlaw_reportBegun, [.bool]), (f_cordonlaw_bestBegun, [.bool]), (f_cordonref_Digits, [.str]), (f_best_Best, [.ans, .int]), (f_cordonlaw_answerText, [.str]), (f_report_Verify, [.bool, .int]), (f_cordonlaw_checkBetter, [.int]), (f_cordonref_BetterOf, [.list .lit]), (f_cordonref_CheckSteps, [.int]), (f_cordonref_IsProof, [.bool]), (f_cordonref_AllHold, [.bool]), (f_cordonlaw_modelBegun, [.bool]), (f_model_All, [.bool, .int]), (f_cordonlaw_searchBegun, [.bool]), (f_cordonlaw_proofBegun, [.bool]), (f_cordonlaw_copiedModel, [.mdl]), (f_search_Solve, [.ans, .int]), (f_search_List, [.list (.list .int), .bool, .int]), (f_model_Scope, [.list .int, .int]), (f_proof_Check, [.bool, .int]), (f_cordonref_SameInts, [.bool]), (f_cordonlaw_spoilInts, []), (f_cordonlaw_spoilSteps, []), (f_token_Scan, [.list .tok, .int, .int]), (f_model_Check, [.int]), (f_cordonref_ScanOf, [.list .tok, .int, .int]), (f_cordonref_IsName, [.bool]), (f_cordonlaw_two, [.mdl]), (f_cordonref_sameCon, [.bool]), (f_strconv_Itoa, [.str]), (f_cordonref_between, [.bool]), (f_cordonref_checkCon, [.int]), (f_cordonref_numbersText, [.str]), (f_cordonref_namesText, [.str]), (f_cordonref_Brackets, [.str]), (f_cordonref_litText, [.str]), (f_report_found, [.str]), (f_best_Better, [.list .lit, .int]), (f_cordonref_SameClause, [.bool]), (f_search_Ready, [.int]), (f_model_Whole, [.bool]), (f_cordonref_CheckClauses, [.int]), (f_cordonref_CheckClause, [.int]), (f_cordonref_StepsRight, [.bool]), (f_cordonref_ConHolds, [.bool]), (f_model_Holds, [.bool, .int]), (f_cordonref_SameLists, [.bool]), (f_proof_Con, [.bool, .int]), (f_proof_Unit, [.bool, .int]), (f_store_Full, [.list (.list .int)]), (f_model_ready, [.int]), (f_model_Vars, [.list .int]), (f_proof_ready, [.int]), (f_cordonlaw_spoilClause, []), (f_token_scanner_skip, []), (f_token_scanner_token, [.tok, .int]), (f_model_vars, [.int]), (f_model_con, [.int]), (f_model_within, [.bool]), (f_cordonref_TokenAt, [.int, .int]), (f_cordonref_IsToken, [.bool]), (f_cordonref_IsWord, [.bool]), (f_cordonref_isDigit, [.bool]), (f_text_printer_con_1, [.str]), (f_text_words, [.list .str]), (f_text_each_l_int, [.str]), (f_cordonref_rightForm, [.bool]), (f_cordonref_inConst, [.bool]), (f_cordonref_CheckLit, [.int]), (f_best_Than, [.list .lit]), (f_slices_ContainsFunc_l_api_Con_api_Con, [.bool]), (f_model_True, [.bool]), (f_cordonref_ConSays, [.bool]), (f_cordonref_UnitSays, [.bool]), (f_cordonref_LitHolds, [.bool]), (f_slices_ContainsFunc_l_int_int, [.bool]), (f_clause_Right, [.int]), (f_proof_ByCon, [.bool]), (f_fix_Rights, [.int]), (f_proof_ByUnit, [.bool]), (f_learn_Fewest, [.list .lit, .bool]), (f_learn_Trace, [.list .step]), (f_learn_Nogood, [.list .lit]), (f_fix_Run, [.list (.list .int)]), (f_store_Empty, [.bool]), (f_search_open, [.int]), (f_store_Keep, [.list (.list .int)]), (f_model_Name, [.bool]), (f_slices_ContainsFunc_l_api_Var_api_Var, [.bool]), (f_model_con_2, [.bool]), (f_model_form, [.bool]), (f_slices_ContainsFunc_l_api_Lit_api_Lit, [.bool]), (f_slices_ContainsFunc_rows_int_int, [.bool]), (f_cordonref_isLetter, [.bool]), (f_strings_Join, [.str]), (f_slices_IndexFunc_l_api_Con_api_Con, [.int]), (f_model_True_1, [.int]), (f_model_True_2, [.bool]), (f_model_Lit, [.bool]), (f_model_Sum, [.bool]), (f_slices_Equal_l_int_int, [.bool]), (f_cordonref_HasFailed, [.bool]), (f_cordonref_FilterOf, [.list (.list .int)]), (f_cordonref_DenyOf, [.list (.list .int)]), (f_cordonref_BeginOf, [.list (.list .int)]), (f_cordonref_FixOf, [.list (.list .int)]), (f_slices_IndexFunc_l_int_int, [.int]), (f_lit_Right, [.int]), (f_clause_Without, [.list (.list .int)]), (f_filter_Raw, [.list (.list .int)]), (f_learn_fails, [.bool]), (f_slices_Concat_l_api_Lit_api_Lit, [.list .lit]), (f_search_key, [.str]), (f_learn_put, [.list (.list .int)]), (f_lit_Opposite, [.lit]), (f_store_Own, [.list (.list .int)]), (f_clause_Put, [.list (.list .int)]), (f_store_Nothing, [.list (.list .int)]), (f_fix_same, [.bool]), (f_slices_ContainsFunc_api_Store_int, [.bool]), (f_slices_IndexFunc_l_string_string, [.int]), (f_token_Name, [.bool]), (f_slices_Contains_l_string_string, [.bool]), (f_model_Words, [.list .str]), (f_slices_IndexFunc_l_api_Var_api_Var, [.int]), (f_model_of, [.pr .int (.pr .int (.pr .int (.pr .int .int)))]), (f_model_is, [.bool]), (f_slices_IndexFunc_l_api_Lit_api_Lit, [.int]), (f_slices_IndexFunc_rows_int_int, [.int]), (f_cordonref_ScopeOf, [.list .int]), (f_cordonref_NoValues, [.list (.list .int)]), (f_cordonref_hasLit, [.bool]), (f_cordonref_HasInt, [.bool]), (f_cordonref_UnitOf, [.list (.list .int)]), (f_cordonref_SameStore, [.bool]), (f_slices_ContainsFunc_api_Clause_api_Lit, [.bool]), (f_filter_twice, [.bool]), (f_slices_Contains_l_int_int, [.bool]), (f_lit_Set, [.list (.list .int)]), (f_slices_EqualFunc_api_Store_api_Store_int_int, [.bool]), (f_lit_Says, [.int]), (f_slices_IndexFunc_api_Store_int, [.int]), (f_token_one, [.bool]), (f_slices_Index_l_string_string, [.int]), (f_cordonref_ToldOf, [.int]), (f_slices_IndexFunc_api_Clause_api_Lit, [.int]), (f_filter_terms, [.list .term]), (f_filter_sums, [.list .int]), (f_slices_IndexFunc_l_filter_term_filter_term, [.int]), (f_slices_Index_l_int_int, [.int]), (f_explain_Empty, [.list .lit, .bool]), (f_explain_Gone, [.list .lit, .bool]), (f_explain_fewest, [.list .lit]), (f_explain_gone, [.list .lit]), (f_slices_Concat_api_Clause_api_Lit, [.list .lit])]
  mps := [(81, (.str, .int)), (217, (.int, .int)), (285, (.pr .int .int, .int)), (291, (.int, .list .int))]
  sts := [(72, .var), (114, .lit)]
  hsig := [(f_text_parse, { tys := [.mdl, .int, .int], nils := [(0, (3, (72, .var))), (0, (4, (74, .con)))], datas := [], res := fun xs ob => match xs, ob 1000, ob 2000, ob 2001, ob 1001 with | [y0, y1, y2], some o1000, some o2000, some o2001, some o1001 => some (.tup [y0, y1, y2], []) | _, _, _, _, _ => none }),
    (f_cordonref_Reader_Text, { tys := [.str], nils := [(0, (4, (72, .var))), (0, (5, (74, .con)))], datas := [], res := fun xs ob => match xs, ob 1000, ob 2000, ob 2001 with | [y0], some o1000, some o2000, some o2001 => some (y0, [(1000, o1000), (2000, o2000), (2001, o2001)]) | _, _, _, _ => none }),
    (f_cordonref_Reader_Need, { tys := [.int, .int], nils := [(0, (4, (72, .var))), (0, (5, (74, .con)))], datas := [], res := fun xs ob => match xs, ob 1000, ob 2000, ob 2001 with | [y0, y1], some (.cells o1000), some o2000, some o2001 => some (.tup [], [(1000, .cells ((o1000.set 1 y0).set 3 y1)), (2000, o2000), (2001, o2001)]) | _, _, _, _ => none }),
    (f_cordonref_Reader_Wrong, { tys := [.int], nils := [(0, (4, (72, .var))), (0, (5, (74, .con)))], datas := [], res := fun xs ob => match xs, ob 1000, ob 2000, ob 2001 with | [y0], some (.cells o1000), some o2000, some o2001 => some (.tup [], [(1000, .cells (o1000.set 3 y0)), (2000, o2000), (2001, o2001)]) | _, _, _, _ => none }),
    (f_cordonref_Reader_K, { tys := [.int, .int, .int], nils := [(0, (4, (72, .var))), (0, (5, (74, .con)))], datas := [], res := fun xs ob => match xs, ob 1000, ob 2000, ob 2001 with | [y0, y1, y2], some (.cells o1000), some o2000, some o2001 => some (y2, [(1000, .cells ((o1000.set 1 y0).set 3 y1)), (2000, o2000), (2001, o2001)]) | _, _, _, _ => none }),
    (f_cordonref_Reader_Con, { tys := [.int, .int, .con], nils := [(0, (4, (72, .var))), (0, (5, (74, .con)))], datas := [], res := fun xs ob => match xs, ob 1000, ob 2000, ob 2001 with | [y0, y1, y2], some (.cells o1000), some o2000, some o2001 => some (y2, [(1000, .cells ((o1000.set 1 y0).set 3 y1)), (2000, o2000), (2001, o2001)]) | _, _, _, _ => none }),
    (f_cordonref_Reader_Word, { tys := [.int, .int, .int], nils := [(0, (4, (72, .var))), (0, (5, (74, .con)))], datas := [], res := fun xs ob => match xs, ob 1000, ob 2000, ob 2001 with | [y0, y1, y2], some (.cells o1000), some o2000, some o2001 => some (y2, [(1000, .cells ((o1000.set 1 y0).set 3 y1)), (2000, o2000), (2001, o2001)]) | _, _, _, _ => none }),
    (f_cordonref_Reader_V, { tys := [.int, .int, .int], nils := [(0, (4, (72, .var))), (0, (5, (74, .con)))], datas := [], res := fun xs ob => match xs, ob 1000, ob 2000, ob 2001 with | [y0, y1, y2], some (.cells o1000), some o2000, some o2001 => some (y2, [(1000, .cells ((o1000.set 1 y0).set 3 y1)), (2000, o2000), (2001, o2001)]) | _, _, _, _ => none }),
    (f_cordonref_Reader_Here, { tys := [.int], nils := [(0, (4, (72, .var))), (0, (5, (74, .con)))], datas := [], res := fun xs ob => match xs, ob 1000, ob 2000, ob 2001 with | [y0], some o1000, some o2000, some o2001 => some (y0, [(1000, o1000), (2000, o2000), (2001, o2001)]) | _, _, _, _ => none }),
    (f_strings_Builder_WriteString, { tys := [.int, .list .byte], nils := [(0, (0, (5, .byte))), (0, (1, (5, .byte)))], datas := [], res := fun xs ob => match xs, ob 1000, ob 2000 with | [y0, .sl .byte y1], some o, some _ => some (.tup [y0, .undef], [(1000, o), (2000, .row 5 .byte y1)]) | _, _, _ => none }),
    (f_text_printer_con, { tys := [.str], nils := [(0, (0, (5, .byte))), (0, (1, (5, .byte)))], datas := [], res := fun xs ob => match xs, ob 1000, ob 2000 with | [y0], some o1000, some o2000 => some (y0, [(1000, o1000), (2000, o2000)]) | _, _, _ => none }),
    (f_text_printer_v, { tys := [.str], nils := [(0, (0, (5, .byte))), (0, (1, (5, .byte)))], datas := [], res := fun xs ob => match xs, ob 1000, ob 2000 with | [y0], some o1000, some o2000 => some (y0, [(1000, o1000), (2000, o2000)]) | _, _, _ => none }),
    (f_strings_Builder_String, { tys := [.str], nils := [(0, (0, (5, .byte))), (0, (1, (5, .byte)))], datas := [], res := fun xs ob => match xs, ob 1000, ob 2000 with | [y0], some o1000, some o2000 => some (y0, []) | _, _, _ => none }),
    (f_search_New, { tys := [.mdl, .int], nils := [], datas := [], res := fun xs _ => match xs with | [.agg y0, y1] => some (.ptr 3000 0, [(3000, .cells (y0 ++ [.sl (.list .lit) [], y1, .nil, .nil, .own 3001])), (3001, .mp .str .int [])]) | _ => none }),
    (f_best_bester_run, { tys := [.int, .list .int, .bool, .list (.list .lit), .int, .list (.list .lit), .list .step, .list (.pr .str .int)], nils := [(1, (6, (53, .list .lit))), (1, (7, (129, .step)))], datas := [], res := fun xs ob => match xs, ob 1000, ob 1001, ob 2000, ob 2001, ob 1002 with | [y0, .sl .int y1, .bool y2, y3, y4, .sl (.list .lit) y5, .sl .step y6, .sl (.pr .str .int) y7], some (.cells o1000), some (.cells o1001), some o2000, some o2001, some o1002 => some (y0, [(1000, .cells (o1000.set 1 (.slN .int y1 y2))), (1001, .cells ((o1001.set 4 y3).set 5 y4)), (2000, .row 53 (.list .lit) y5), (2001, .row 129 .step y6), (1002, .mp .str .int y7)]) | _, _, _, _, _, _ => none }),
    (f_search_Searcher_Proof, { tys := [.list .step, .bool], nils := [(0, (6, (53, .list .lit))), (0, (7, (129, .step)))], datas := [], res := fun xs ob => match xs, ob 1000, ob 2000, ob 2001, ob 1001 with | [y0, y1], some (.cells o1000), some o2000, some o2001, some o1001 => some (.tup [y0, y1], [(1000, .cells (o1000.set 7 y0)), (2000, o2000), (1001, o1001)]) | _, _, _, _, _ => none }),
    (f_search_Searcher_Go, { tys := [.int, .list (.list .lit), .list .step, .list (.pr .str .int), .list .int, .int], nils := [(0, (6, (53, .list .lit))), (0, (7, (129, .step)))], datas := [], res := fun xs ob => match xs, ob 1000, ob 2000, ob 2001, ob 1001 with | [y0, .sl (.list .lit) y1, .sl .step y2, .sl (.pr .str .int) y3, y4, y5], some (.cells o1000), some o2000, some o2001, some o1001 => some (.tup [y4, y5], [(1000, .cells (o1000.set 5 y0)), (2000, .row 53 (.list .lit) y1), (2001, .row 129 .step y2), (1001, .mp .str .int y3)]) | _, _, _, _, _ => none }),
    (f_search_lister_list, { tys := [.bool, .list (.list .int)], nils := [(0, (4, (40, .list .int)))], datas := [], res := fun xs ob => match xs, ob 1000, ob 2000 with | [y0, .sl (.list .int) y1], some o1000, some o2000 => some (y0, [(1000, o1000), (2000, .row 40 (.list .int) y1)]) | _, _, _ => none }),
    (f_proof_checker_step, { tys := [.bool, .list (.list .lit)], nils := [(0, (4, (53, .list .lit)))], datas := [], res := fun xs ob => match xs, ob 1000, ob 2000 with | [y0, .sl (.list .lit) y1], some o1000, some o2000 => some (y0, [(1000, o1000), (2000, .row 53 (.list .lit) y1)]) | _, _, _ => none }),
    (f_text_parser_model, { tys := [.int, .list .var, .list .con, .int, .int, .list (.pr .str .int)], nils := [(0, (3, (72, .var))), (0, (4, (74, .con)))], datas := [], res := fun xs ob => match xs, ob 1000, ob 2000, ob 2001, ob 1001 with | [y0, .sl .var y1, .sl .con y2, y3, y4, .sl (.pr .str .int) y5], some (.cells o1000), some o2000, some o2001, some o1001 => some (.tup [], [(1000, .cells (((o1000.set 1 y0).set 5 y3).set 6 y4)), (2000, .row 72 .var y1), (2001, .row 74 .con y2), (1001, .mp .str .int y5)]) | _, _, _, _, _ => none }),
    (f_cordonref_Reader_Ks, { tys := [.int, .int, .list .int], nils := [(0, (4, (72, .var))), (0, (5, (74, .con)))], datas := [], res := fun xs ob => match xs, ob 1000, ob 2000, ob 2001 with | [y0, y1, y2], some (.cells o1000), some o2000, some o2001 => some (y2, [(1000, .cells ((o1000.set 1 y0).set 3 y1)), (2000, o2000), (2001, o2001)]) | _, _, _, _ => none }),
    (f_cordonref_Reader_Vs, { tys := [.int, .int, .list .int], nils := [(0, (4, (72, .var))), (0, (5, (74, .con)))], datas := [], res := fun xs ob => match xs, ob 1000, ob 2000, ob 2001 with | [y0, y1, y2], some (.cells o1000), some o2000, some o2001 => some (y2, [(1000, .cells ((o1000.set 1 y0).set 3 y1)), (2000, o2000), (2001, o2001)]) | _, _, _, _ => none }),
    (f_cordonref_Reader_More, { tys := [.int, .int, .bool], nils := [(0, (4, (72, .var))), (0, (5, (74, .con)))], datas := [], res := fun xs ob => match xs, ob 1000, ob 2000, ob 2001 with | [y0, y1, y2], some (.cells o1000), some o2000, some o2001 => some (y2, [(1000, .cells ((o1000.set 1 y0).set 3 y1)), (2000, o2000), (2001, o2001)]) | _, _, _, _ => none }),
    (f_cordonref_Reader_Lit, { tys := [.int, .int, .lit], nils := [(0, (4, (72, .var))), (0, (5, (74, .con)))], datas := [], res := fun xs ob => match xs, ob 1000, ob 2000, ob 2001 with | [y0, y1, y2], some (.cells o1000), some o2000, some o2001 => some (y2, [(1000, .cells ((o1000.set 1 y0).set 3 y1)), (2000, o2000), (2001, o2001)]) | _, _, _, _ => none }),
    (f_strings_Builder_copyCheck, { tys := [], nils := [(0, (0, (5, .byte))), (0, (1, (5, .byte)))], datas := [], res := fun xs ob => match xs, ob 1000, ob 2000 with | [], some o1000, some o2000 => some (.tup [], [(1000, o1000), (2000, o2000)]) | _, _, _ => none }),
    (f_text_each_int, { tys := [.str], nils := [], datas := [], res := fun xs ob => match xs, ob 1000, ob 2000 with | [y0], some o, some r => some (y0, [(1000, o), (2000, r)]) | [y0], none, none => some (y0, []) | _, _, _ => none }),
    (f_text_each_api_Lit, { tys := [.str], nils := [], datas := [], res := fun xs ob => match xs, ob 1000, ob 2000 with | [y0], some o, some r => some (y0, [(1000, o), (2000, r)]) | [y0], none, none => some (y0, []) | _, _, _ => none }),
    (f_text_printer_lit, { tys := [.str], nils := [(0, (0, (5, .byte))), (0, (1, (5, .byte)))], datas := [], res := fun xs ob => match xs, ob 1000, ob 2000 with | [y0], some o1000, some o2000 => some (y0, [(1000, o1000), (2000, o2000)]) | _, _, _ => none }),
    (f_search_Searcher_down, { tys := [.list .lit, .bool, .list .int], nils := [(0, (6, (53, .list .lit))), (0, (7, (129, .step)))], datas := [], res := fun xs ob => match xs, ob 1000, ob 2000, ob 2001, ob 1001 with | [.sl .lit y0, .bool y1, y2], some o1000, some o2000, some o2001, some o1001 => some (.tup [(.slN .lit y0 y1), y2], [(1000, o1000), (2000, o2000), (2001, o2001), (1001, o1001)]) | _, _, _, _, _ => none }),
    (f_search_Searcher_all, { tys := [.list (.list .lit)], nils := [(0, (6, (53, .list .lit))), (0, (7, (129, .step)))], datas := [], res := fun xs ob => match xs, ob 1000, ob 2000, ob 2001, ob 1001 with | [y0], some o1000, some o2000, some o2001, some o1001 => some (y0, [(1000, o1000), (2000, o2000), (2001, o2001), (1001, o1001)]) | _, _, _, _, _ => none }),
    (f_search_Searcher_note, { tys := [.list .step, .list (.pr .str .int)], nils := [(0, (6, (53, .list .lit))), (0, (7, (129, .step)))], datas := [], res := fun xs ob => match xs, ob 1000, ob 2000, ob 2001, ob 1001 with | [.sl .step y0, .sl (.pr .str .int) y1], some o1000, some o2000, some o2001, some o1001 => some (.tup [], [(1000, o1000), (2000, o2000), (2001, .row 129 .step y0), (1001, .mp .str .int y1)]) | _, _, _, _, _ => none }),
    (f_slices_Clone_l_int_int, { tys := [.list .int], nils := [], datas := [], res := fun xs ob => match xs with | [.sl .int y0] => some (.own 3000, [(3000, .row 3 .int y0)]) | _ => none }),
    (f_slices_Sort_l_int_int, { tys := [.list .int], nils := [], datas := [], res := fun xs ob => match xs, ob 1000 with | [.sl .int y0], some o1000 => some (.tup [], [(1000, .row 3 .int y0)]) | _, _ => none }),
    (f_slices_Compact_l_int_int, { tys := [.list .int], nils := [], datas := [], res := fun xs ob => match xs, ob 1000 with | [y0], some o1000 => some (y0, []) | _, _ => none }),
    (f_text_parser_take, { tys := [.int, .bool], nils := [(0, (3, (72, .var))), (0, (4, (74, .con)))], datas := [], res := fun xs ob => match xs, ob 1000, ob 2000, ob 2001, ob 1001 with | [y0, y1], some (.cells o1000), some o2000, some o2001, some o1001 => some (y1, [(1000, .cells (o1000.set 1 y0)), (2000, o2000), (2001, o2001), (1001, o1001)]) | _, _, _, _, _ => none }),
    (f_text_parser_name, { tys := [.str], nils := [(0, (3, (72, .var))), (0, (4, (74, .con)))], datas := [], res := fun xs ob => match xs, ob 1000, ob 2000, ob 2001, ob 1001 with | [y0], some o1000, some o2000, some o2001, some o1001 => some (y0, [(1000, o1000), (2000, o2000), (2001, o2001), (1001, o1001)]) | _, _, _, _, _ => none }),
    (f_text_parser_need, { tys := [.int], nils := [(0, (3, (72, .var))), (0, (4, (74, .con)))], datas := [], res := fun xs ob => match xs, ob 1000, ob 2000, ob 2001, ob 1001 with | [y0], some (.cells o1000), some o2000, some o2001, some o1001 => some (.tup [], [(1000, .cells (o1000.set 1 y0)), (2000, o2000), (2001, o2001), (1001, o1001)]) | _, _, _, _, _ => none }),
    (f_text_parser_k, { tys := [.int, .int], nils := [(0, (3, (72, .var))), (0, (4, (74, .con)))], datas := [], res := fun xs ob => match xs, ob 1000, ob 2000, ob 2001, ob 1001 with | [y0, y1], some (.cells o1000), some o2000, some o2001, some o1001 => some (y1, [(1000, .cells (o1000.set 1 y0)), (2000, o2000), (2001, o2001), (1001, o1001)]) | _, _, _, _, _ => none }),
    (f_text_parser_con, { tys := [.int, .con], nils := [(0, (3, (72, .var))), (0, (4, (74, .con)))], datas := [], res := fun xs ob => match xs, ob 1000, ob 2000, ob 2001, ob 1001 with | [y0, y1], some (.cells o1000), some o2000, some o2001, some o1001 => some (y1, [(1000, .cells (o1000.set 1 y0)), (2000, o2000), (2001, o2001), (1001, o1001)]) | _, _, _, _, _ => none }),
    (f_text_parser_v, { tys := [.int, .int], nils := [(0, (3, (72, .var))), (0, (4, (74, .con)))], datas := [], res := fun xs ob => match xs, ob 1000, ob 2000, ob 2001, ob 1001 with | [y0, y1], some (.cells o1000), some o2000, some o2001, some o1001 => some (y1, [(1000, .cells (o1000.set 1 y0)), (2000, o2000), (2001, o2001), (1001, o1001)]) | _, _, _, _, _ => none }),
    (f_text_parser_fail, { tys := [], nils := [(0, (3, (72, .var))), (0, (4, (74, .con)))], datas := [], res := fun xs ob => match xs, ob 1000, ob 2000, ob 2001, ob 1001 with | [], some o1000, some o2000, some o2001, some o1001 => some (.tup [], [(1000, o1000), (2000, o2000), (2001, o2001), (1001, o1001)]) | _, _, _, _, _ => none }),
    (f_slices_Clone_l_api_Lit_api_Lit, { tys := [.list .lit], nils := [], datas := [], res := fun xs ob => match xs with | [.sl .lit y0] => some (.own 3000, [(3000, .row 114 .lit y0)]) | _ => none }),
    (f_learn_tracer_run, { tys := [.list (.list .int), .list .step], nils := [(0, (6, (129, .step)))], datas := [], res := fun xs ob => match xs, ob 1000, ob 2000 with | [y0, .sl .step y1], some (.cells o1000), some o2000 => some (.tup [], [(1000, .cells (o1000.set 5 y0)), (2000, .row 129 .step y1)]) | _, _, _ => none }),
    (f_strconv_Atoi, { tys := [.int], nils := [], datas := [], res := fun xs _ => match xs with | [y0] => some (.tup [y0, .undef], []) | _ => none }),
    (f_text_list_int, { tys := [.int, .list .int], nils := [(0, (3, (72, .var))), (0, (4, (74, .con)))], datas := [], res := fun xs ob => match xs, ob 1000, ob 2000, ob 2001, ob 1001 with | [y0, y1], some (.cells o1000), some o2000, some o2001, some o1001 => some (y1, [(1000, .cells (o1000.set 1 y0)), (2000, o2000), (2001, o2001), (1001, o1001)]) | _, _, _, _, _ => none }),
    (f_text_parser_some, { tys := [.int, .list .int], nils := [(0, (3, (72, .var))), (0, (4, (74, .con)))], datas := [], res := fun xs ob => match xs, ob 1000, ob 2000, ob 2001, ob 1001 with | [y0, y1], some (.cells o1000), some o2000, some o2001, some o1001 => some (y1, [(1000, .cells (o1000.set 1 y0)), (2000, o2000), (2001, o2001), (1001, o1001)]) | _, _, _, _, _ => none }),
    (f_text_list_l_int, { tys := [.int, .list (.list .int)], nils := [(0, (3, (72, .var))), (0, (4, (74, .con)))], datas := [], res := fun xs ob => match xs, ob 1000, ob 2000, ob 2001, ob 1001, ob 1002 with | [y0, y1], some (.cells o1000), some o2000, some o2001, some o1001, some o1002 => some (y1, [(1000, .cells (o1000.set 1 y0)), (2000, o2000), (2001, o2001), (1001, o1001), (1002, o1002)]) | _, _, _, _, _, _ => none }),
    (f_text_parser_con_1, { tys := [.int, .list .int], nils := [(1, (3, (72, .var))), (1, (4, (74, .con)))], datas := [], res := fun xs ob => match xs, ob 1000, ob 1001, ob 2000, ob 2001, ob 1002 with | [y0, y1], some o1000, some (.cells o1001), some o2000, some o2001, some o1002 => some (y1, [(1000, o1000), (1001, .cells (o1001.set 1 y0)), (2000, o2000), (2001, o2001), (1002, o1002)]) | _, _, _, _, _, _ => none }),
    (f_text_list_api_Lit, { tys := [.int, .list .lit], nils := [(0, (3, (72, .var))), (0, (4, (74, .con)))], datas := [], res := fun xs ob => match xs, ob 1000, ob 2000, ob 2001, ob 1001 with | [y0, y1], some (.cells o1000), some o2000, some o2001, some o1001 => some (y1, [(1000, .cells (o1000.set 1 y0)), (2000, o2000), (2001, o2001), (1001, o1001)]) | _, _, _, _, _ => none }),
    (f_text_parser_lit, { tys := [.int, .lit], nils := [(0, (3, (72, .var))), (0, (4, (74, .con)))], datas := [], res := fun xs ob => match xs, ob 1000, ob 2000, ob 2001, ob 1001 with | [y0, y1], some (.cells o1000), some o2000, some o2001, some o1001 => some (y1, [(1000, .cells (o1000.set 1 y0)), (2000, o2000), (2001, o2001), (1001, o1001)]) | _, _, _, _, _ => none }),
    (f_text_parser_here, { tys := [.int], nils := [(0, (3, (72, .var))), (0, (4, (74, .con)))], datas := [], res := fun xs ob => match xs, ob 1000, ob 2000, ob 2001, ob 1001 with | [y0], some o1000, some o2000, some o2001, some o1001 => some (y0, [(1000, o1000), (2000, o2000), (2001, o2001), (1001, o1001)]) | _, _, _, _, _ => none }),
    (f_cordonref_Chosen, { tys := [.bool, .list .int], nils := [], datas := [], res := fun xs ob => match xs, ob 1000 with | [y0, .sl .int y1], some o1000 => some (y0, [(1000, .row 3 .int y1)]) | _, _ => none }),
    (f_filter_each, { tys := [.con, .list (.list .int), .list .int, .list .int, .list (.pr (.pr .int .int) .int)], nils := [], datas := [], res := fun xs _ => match xs with | [.agg y0, y1, y2, y3, .sl (.pr (.pr .int .int) .int) y4] => some (.clo 282 none [.iptr [.iptr (y0 ++ [y1, y2, y3, .mp (.pr .int .int) .int y4]) 0] 0], []) | _ => none }),
    (f_filter_linear, { tys := [.list .term, .list (.pr .int (.list .int)), .con], nils := [], datas := [], res := fun xs _ => match xs with | [y0, .sl (.pr .int (.list .int)) y1, .agg y2] => some (.clo 285 none [.iptr [y0] 0, .iptr [.mp .int (.list .int) y1] 0, .iptr y2 0], []) | _ => none }),
    (f_filter_differ, { tys := [.list (.list .int), .con], nils := [], datas := [], res := fun xs _ => match xs with | [y0, .agg y1] => some (.clo 289 none [.iptr [y0] 0, .iptr y1 0], []) | _ => none }),
    (f_slices_Grow_l_api_Lit_api_Lit, { tys := [.list .lit], nils := [], datas := [], res := fun xs ob => match xs with | [.sl .lit y0] => some (.own 3000, [(3000, .row 114 .lit y0)]) | _ => none, raw := true }),
    (f_learn_tracer_con, { tys := [.bool, .list (.list .int), .list .step], nils := [(0, (6, (129, .step)))], datas := [], res := fun xs ob => match xs, ob 1000, ob 2000 with | [y0, y1, .sl .step y2], some (.cells o1000), some o2000 => some (y0, [(1000, .cells (o1000.set 5 y1)), (2000, .row 129 .step y2)]) | _, _, _ => none }),
    (f_filter_walker_walk, { tys := [.list .int, .list (.pr (.pr .int .int) .int)], nils := [], datas := [], res := fun xs ob => match xs, ob 1000, ob 2000, ob 1001 with | [.sl .int y0, .sl (.pr (.pr .int .int) .int) y1], some o1000, some o2000, some o1001 => some (.tup [], [(1000, o1000), (2000, .row 3 .int y0), (1001, .mp (.pr .int .int) .int y1)]) | _, _, _, _ => none }),
    (f_slices_Clone_api_Store_int, { tys := [.list (.list .int)], nils := [], datas := [], res := fun xs ob => match xs with | [.sl (.list .int) y0] => some (.own 3000, [(3000, .row 40 (.list .int) y0)]) | _ => none }),
    (f_filter_matcher_find, { tys := [.bool, .list (.pr .int .int), .list (.pr .int .int)], nils := [], datas := [(0, 0)], res := fun xs ob => match xs, ob 1000, ob 1001, ob 1002 with | [y0, .sl (.pr .int .int) y1, .sl (.pr .int .int) y2], some o1000, some o1001, some o1002 => some (y0, [(1000, o1000), (1001, .mp .int .int y1), (1002, .mp .int .int y2)]) | _, _, _, _ => none }),
    (f_slices_Grow_api_Clause_api_Lit, { tys := [.list .lit], nils := [], datas := [], res := fun xs ob => match xs with | [.sl .lit y0] => some (.own 3000, [(3000, .row 114 .lit y0)]) | _ => none, raw := true })]
  vals := [83, 85, 101, 123, 139, 147, 179, 229, 287, 299]
  arr := [288]
  thr := [f_text_parser_model, f_text_parser_name, f_text_parser_need, f_text_parser_k, f_text_parser_con, f_text_parser_v, f_text_parser_fail, f_text_list_int, f_text_parser_some, f_text_list_l_int, f_text_parser_con_1, f_text_list_api_Lit, f_text_parser_lit]
theorem chkEv : Ev.chk Tryz.prog = true := by kernel_rfl
theorem sigEv : ∀ x ∈ Ev.sig, ∀ args w, (callFunc x.1 args).run Tryz.prog w = .ok (.enter x.1 args) w := by
  intro x hx args w
  simp only [Ev, List.mem_cons, List.not_mem_nil, or_false] at hx
  rcases hx with rfl | rfl | rfl | rfl | rfl | rfl | rfl | rfl | rfl | rfl | rfl | rfl | rfl | rfl | rfl | rfl | rfl | rfl | rfl | rfl | rfl | rfl | rfl | rfl | rfl | rfl | rfl | rfl | rfl | rfl | rfl | rfl | rfl | rfl | rfl | rfl | rfl | rfl | rfl | rfl | rfl | rfl | rfl | rfl | rfl | rfl | rfl | rfl | rfl | rfl | rfl | rfl | rfl | rfl | rfl | rfl | rfl | rfl | rfl | rfl | rfl | rfl | rfl | rfl | rfl | rfl | rfl | rfl | rfl | rfl | rfl | rfl | rfl | rfl | rfl | rfl | rfl | rfl | rfl | rfl | rfl | rfl | rfl | rfl | rfl | rfl | rfl | rfl | rfl | rfl | rfl | rfl | rfl | rfl | rfl | rfl | rfl | rfl | rfl | rfl | rfl | rfl | rfl | rfl | rfl | rfl | rfl | rfl | rfl | rfl | rfl | rfl | rfl | rfl | rfl | rfl | rfl | rfl | rfl | rfl | rfl | rfl | rfl | rfl | rfl | rfl | rfl | rfl | rfl | rfl | rfl | rfl | rfl | rfl | rfl | rfl | rfl | rfl | rfl | rfl | rfl | rfl | rfl | rfl | rfl | rfl | rfl | rfl | rfl | rfl | rfl | rfl | rfl | rfl | rfl | rfl | rfl | rfl | rfl | rfl | rfl | rfl | rfl
  · exact Tryz.call10 args w
  · exact Tryz.call11 args w
  · exact Tryz.call12 args w
  · exact Tryz.call13 args w
  · exact Tryz.call14 args w
  · exact Tryz.call15 args w
  · exact Tryz.call16 args w
  · exact Tryz.call17 args w
  · exact Tryz.call18 args w
  · exact Tryz.call19 args w
  · exact Tryz.call20 args w
  · exact Tryz.call21 args w
  · exact Tryz.call22 args w
  · exact Tryz.call23 args w
  · exact Tryz.call24 args w
  · exact Tryz.call25 args w
  · exact Tryz.call26 args w
  · exact Tryz.call27 args w
  · exact Tryz.call28 args w
  · exact Tryz.call29 args w
  · exact Tryz.call30 args w
  · exact Tryz.call31 args w
  · exact Tryz.call32 args w
  · exact Tryz.call33 args w
  · exact Tryz.call34 args w
  · exact Tryz.call35 args w
  · exact Tryz.call36 args w
  · exact Tryz.call37 args w
  · exact Tryz.call38 args w
  · exact Tryz.call39 args w
  · exact Tryz.call40 args w
  · exact Tryz.call41 args w
  · exact Tryz.call43 args w
  · exact Tryz.call44 args w
  · exact Tryz.call47 args w
  · exact Tryz.call54 args w
  · exact Tryz.call55 args w
  · exact Tryz.call57 args w
  · exact Tryz.call61 args w
  · exact Tryz.call62 args w
  · exact Tryz.call63 args w
  · exact Tryz.call64 args w
  · exact Tryz.call65 args w
  · exact Tryz.call66 args w
  · exact Tryz.call67 args w
  · exact Tryz.call68 args w
  · exact Tryz.call69 args w
  · exact Tryz.call70 args w
  · exact Tryz.call74 args w
  · exact Tryz.call75 args w
  · exact Tryz.call76 args w
  · exact Tryz.call77 args w
  · exact Tryz.call78 args w
  · exact Tryz.call79 args w
  · exact Tryz.call80 args w
  · exact Tryz.call81 args w
  · exact Tryz.call82 args w
  · exact Tryz.call85 args w
  · exact Tryz.call86 args w
  · exact Tryz.call87 args w
  · exact Tryz.call88 args w
  · exact Tryz.call90 args w
  · exact Tryz.call91 args w
  · exact Tryz.call92 args w
  · exact Tryz.call95 args w
  · exact Tryz.call96 args w
  · exact Tryz.call97 args w
  · exact Tryz.call98 args w
  · exact Tryz.call99 args w
  · exact Tryz.call100 args w
  · exact Tryz.call101 args w
  · exact Tryz.call108 args w
  · exact Tryz.call110 args w
  · exact Tryz.call111 args w
  · exact Tryz.call114 args w
  · exact Tryz.call115 args w
  · exact Tryz.call116 args w
  · exact Tryz.call117 args w
  · exact Tryz.call118 args w
  · exact Tryz.call120 args w
  · exact Tryz.call121 args w
  · exact Tryz.call122 args w
  · exact Tryz.call123 args w
  · exact Tryz.call124 args w
  · exact Tryz.call126 args w
  · exact Tryz.call127 args w
  · exact Tryz.call128 args w
  · exact Tryz.call129 args w
  · exact Tryz.call131 args w
  · exact Tryz.call134 args w
  · exact Tryz.call135 args w
  · exact Tryz.call136 args w
  · exact Tryz.call137 args w
  · exact Tryz.call138 args w
  · exact Tryz.call139 args w
  · exact Tryz.call161 args w
  · exact Tryz.call162 args w
  · exact Tryz.call165 args w
  · exact Tryz.call166 args w
  · exact Tryz.call167 args w
  · exact Tryz.call169 args w
  · exact Tryz.call171 args w
  · exact Tryz.call174 args w
  · exact Tryz.call175 args w
  · exact Tryz.call176 args w
  · exact Tryz.call177 args w
  · exact Tryz.call178 args w
  · exact Tryz.call179 args w
  · exact Tryz.call181 args w
  · exact Tryz.call182 args w
  · exact Tryz.call183 args w
  · exact Tryz.call184 args w
  · exact Tryz.call185 args w
  · exact Tryz.call186 args w
  · exact Tryz.call187 args w
  · exact Tryz.call188 args w
  · exact Tryz.call189 args w
  · exact Tryz.call190 args w
  · exact Tryz.call192 args w
  · exact Tryz.call194 args w
  · exact Tryz.call195 args w
  · exact Tryz.call196 args w
  · exact Tryz.call198 args w
  · exact Tryz.call199 args w
  · exact Tryz.call200 args w
  · exact Tryz.call201 args w
  · exact Tryz.call202 args w
  · exact Tryz.call203 args w
  · exact Tryz.call207 args w
  · exact Tryz.call218 args w
  · exact Tryz.call219 args w
  · exact Tryz.call220 args w
  · exact Tryz.call221 args w
  · exact Tryz.call222 args w
  · exact Tryz.call223 args w
  · exact Tryz.call225 args w
  · exact Tryz.call226 args w
  · exact Tryz.call232 args w
  · exact Tryz.call233 args w
  · exact Tryz.call235 args w
  · exact Tryz.call236 args w
  · exact Tryz.call237 args w
  · exact Tryz.call238 args w
  · exact Tryz.call240 args w
  · exact Tryz.call244 args w
  · exact Tryz.call247 args w
  · exact Tryz.call249 args w
  · exact Tryz.call251 args w
  · exact Tryz.call252 args w
  · exact Tryz.call257 args w
  · exact Tryz.call272 args w
  · exact Tryz.call273 args w
  · exact Tryz.call279 args w
  · exact Tryz.call280 args w
  · exact Tryz.call283 args w
  · exact Tryz.call284 args w
  · exact Tryz.call286 args w
  · exact Tryz.call292 args w
  · exact Tryz.call294 args w
  · exact Tryz.call295 args w
  · exact Tryz.call311 args w
  · exact Tryz.call312 args w
  · exact Tryz.call317 args w
theorem chkEv2 : Ev.chk2 Tryz.prog = true := by kernel_rfl
theorem hsigEv : ∀ x ∈ Ev.hsig, Ent Tryz.prog x.1 := by
  intro x hx args w
  simp only [Ev, List.mem_cons, List.not_mem_nil, or_false] at hx
  rcases hx with rfl | rfl | rfl | rfl | rfl | rfl | rfl | rfl | rfl | rfl | rfl | rfl | rfl | rfl | rfl | rfl | rfl | rfl | rfl | rfl | rfl | rfl | rfl | rfl | rfl | rfl | rfl | rfl | rfl | rfl | rfl | rfl | rfl | rfl | rfl | rfl | rfl | rfl | rfl | rfl | rfl | rfl | rfl | rfl | rfl | rfl | rfl | rfl | rfl | rfl | rfl | rfl | rfl | rfl | rfl | rfl | rfl | rfl | rfl | rfl | rfl
  · exact Tryz.call42 args w
  · exact Tryz.call45 args w
  · exact Tryz.call46 args w
  · exact Tryz.call48 args w
  · exact Tryz.call49 args w
  · exact Tryz.call50 args w
  · exact Tryz.call51 args w
  · exact Tryz.call52 args w
  · exact Tryz.call53 args w
  · exact Tryz.call56 args w
  · exact Tryz.call58 args w
  · exact Tryz.call59 args w
  · exact Tryz.call60 args w
  · exact Tryz.call71 args w
  · exact Tryz.call72 args w
  · exact Tryz.call73 args w
  · exact Tryz.call83 args w
  · exact Tryz.call84 args w
  · exact Tryz.call89 args w
  · exact Tryz.call94 args w
  · exact Tryz.call102 args w
  · exact Tryz.call103 args w
  · exact Tryz.call104 args w
  · exact Tryz.call105 args w
  · exact Tryz.call106 args w
  · exact Tryz.call109 args w
  · exact Tryz.call112 args w
  · exact Tryz.call113 args w
  · exact Tryz.call130 args w
  · exact Tryz.call132 args w
  · exact Tryz.call133 args w
  · exact Tryz.call141 args w
  · exact Tryz.call142 args w
  · exact Tryz.call143 args w
  · exact Tryz.call154 args w
  · exact Tryz.call155 args w
  · exact Tryz.call156 args w
  · exact Tryz.call157 args w
  · exact Tryz.call158 args w
  · exact Tryz.call159 args w
  · exact Tryz.call160 args w
  · exact Tryz.call193 args w
  · exact Tryz.call197 args w
  · exact Tryz.call210 args w
  · exact Tryz.call211 args w
  · exact Tryz.call212 args w
  · exact Tryz.call213 args w
  · exact Tryz.call214 args w
  · exact Tryz.call215 args w
  · exact Tryz.call216 args w
  · exact Tryz.call217 args w
  · exact Tryz.call234 args w
  · exact Tryz.call242 args w
  · exact Tryz.call243 args w
  · exact Tryz.call245 args w
  · exact Tryz.call248 args w
  · exact Tryz.call250 args w
  · exact Tryz.call281 args w
  · exact Tryz.call290 args w
  · exact Tryz.call291 args w
  · exact Tryz.call320 args w
theorem factsEv : Facts Tryz.prog Ev := facts_of (by kernel_rfl) chkEv chkEv2 sigEv hsigEv
abbrev FD (A : Ann) (fn : Func) (ds : List D) (R : D → Prop) : Prop := fnD Tryz.prog Ev A fn.results.toList (bodyOf fn) ds R
abbrev FH (A : Ann) (fn : Func) (ds : List D) (hp : List (Nat × HObj)) (roots : List D) (own : Bool) (R : D → List (Nat × HObj) → Prop) : Prop := fnH Tryz.prog Ev A fn.results.toList (bodyOf fn) ds hp roots own R
def SatI (A : Ann) (fn : Func) (f : FuncId) (ds : List D) : Prop := ∀ {r : D}, ((∀ d ∈ ds, okD d) → FD A fn ds fun d => d = r) → Sat Tryz.prog f ds r
def SatHI (A : Ann) (fn : Func) (f : FuncId) (ds : List D) (hp : List (Nat × HObj)) (roots : List D) (own : Bool) : Prop := ∀ {r : D} {h0 : List (Nat × HObj)}, ((∀ d ∈ ds, okD d) → (∀ k o, look k hp = some o → okO o) → FH A fn ds hp roots own fun d h1 => d = r ∧ h1 = h0) → SatH Tryz.prog f ds hp r h0
theorem satD {A : Ann} {fn : Func} {f : FuncId} {ds : List D} (hf : Tryz.prog.funcs[f]? = some fn) (hb : fn.body = some (bodyOf fn)) (hn : fn.ntmps = A.n) (hl : Nat.ble ds.length A.n = true) : SatI A fn f ds := fun h => sat_of factsEv hf hb hn.symm (by rw [hn]; exact Nat.le_of_ble_eq_true hl) h
theorem satHD {A : Ann} {fn : Func} {f : FuncId} {ds : List D} {hp : List (Nat × HObj)} {roots : List D} {own : Bool} (hf : Tryz.prog.funcs[f]? = some fn) (hb : fn.body = some (bodyOf fn)) (hn : fn.ntmps = A.n) (hl : Nat.ble ds.length A.n = true) : SatHI A fn f ds hp roots own := fun h => satH_of factsEv hf hb hn.symm (by rw [hn]; exact Nat.le_of_ble_eq_true hl) h
abbrev FX (A : Ann) (fn : Func) (ds : List D) (hp : List (Nat × HObj)) (roots : List D) (own : Bool) (R : D → List (Nat × HObj) → Prop) (T : Value → Prop) : Prop := fnX Tryz.prog Ev A fn.results.toList (bodyOf fn) ds hp roots own R T
def SatXI (A : Ann) (fn : Func) (f : FuncId) (ds : List D) (hp : List (Nat × HObj)) (roots : List D) (own : Bool) : Prop := ∀ {r : D} {h0 : List (Nat × HObj)}, ((∀ d ∈ ds, okD d) → (∀ k o, look k hp = some o → okO o) → FX A fn ds hp roots own (fun d h1 => d = r ∧ h1 = h0) fun _ => False) → SatH Tryz.prog f ds hp r h0
def SatTI (A : Ann) (fn : Func) (f : FuncId) (ds : List D) (hp : List (Nat × HObj)) (roots : List D) (own : Bool) : Prop := ∀ {u : Value}, ((∀ d ∈ ds, okD d) → (∀ k o, look k hp = some o → okO o) → FX A fn ds hp roots own (fun _ _ => False) fun v => v = u) → SatT Tryz.prog f ds hp u
theorem satXD {A : Ann} {fn : Func} {f : FuncId} {ds : List D} {hp : List (Nat × HObj)} {roots : List D} {own : Bool} (hf : Tryz.prog.funcs[f]? = some fn) (hb : fn.body = some (bodyOf fn)) (hn : fn.ntmps = A.n) (hl : Nat.ble ds.length A.n = true) : SatXI A fn f ds hp roots own := fun h => satHX_of factsEv hf hb hn.symm (by rw [hn]; exact Nat.le_of_ble_eq_true hl) h
theorem satTD {A : Ann} {fn : Func} {f : FuncId} {ds : List D} {hp : List (Nat × HObj)} {roots : List D} {own : Bool} (hf : Tryz.prog.funcs[f]? = some fn) (hb : fn.body = some (bodyOf fn)) (hn : fn.ntmps = A.n) (hl : Nat.ble ds.length A.n = true) : SatTI A fn f ds hp roots own := fun h => satT_of factsEv hf hb hn.symm (by rw [hn]; exact Nat.le_of_ble_eq_true hl) h
abbrev LP (A : Ann) (fn : Func) (path : List Nat) (cur n : Nat) (σ : St) (K : Ex → St → Prop) : Prop := iter (den Tryz.prog Ev A (sub path (bodyOf fn)) cur) A (liveOf A cur) n σ K
abbrev sK (A : Ann) (fn : Func) (path : List Nat) (cur : Nat) (K : Ex → St → Prop) := seqK Tryz.prog Ev A (sub path (bodyOf fn)) cur K
abbrev eK (fn : Func) (R : D → Prop) := endK Ev fn.results.toList R
abbrev eH (fn : Func) (roots : List D) (own : Bool) (R : D → List (Nat × HObj) → Prop) := endH Ev fn.results.toList roots own R
abbrev eX (fn : Func) (roots : List D) (own : Bool) (R : D → List (Nat × HObj) → Prop) (T : Value → Prop) := endX Ev fn.results.toList roots own R T
end Go.Proofs.YtogdmcebojiojaaGreatDoor
