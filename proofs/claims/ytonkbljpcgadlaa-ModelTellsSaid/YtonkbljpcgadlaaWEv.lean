/- The types and the functions of the program that the walks need, read from its table: printed by a program. -/
import Derived.Test.YtonkbljpcgadlaaProg
import Derived.Test.YtonkbljpcgadlaaMD
namespace Go.Proofs.Ytonkbljpcgadlaa
open Go.RowKit
set_option linter.unusedVariables false
set_option maxRecDepth 100000
abbrev f_gosem_cut_init : FuncId := 2
abbrev f_cordonlaw_TokenScans : FuncId := 3
abbrev f_cordonlaw_TokenJoins : FuncId := 4
abbrev f_cordonlaw_TokenBack : FuncId := 5
abbrev f_cordonlaw_TokenPlaces : FuncId := 6
abbrev f_cordonlaw_StoreTells : FuncId := 7
abbrev f_cordonlaw_StoreMeets : FuncId := 8
abbrev f_cordonlaw_LitTells : FuncId := 9
abbrev f_cordonlaw_ClauseKeeps : FuncId := 10
abbrev f_cordonlaw_LitParts : FuncId := 11
abbrev f_cordonlaw_ModelTells : FuncId := 12
abbrev f_token_Scan : FuncId := 13
abbrev f_cordonref_ScanOf : FuncId := 14
abbrev f_cordonlaw_tokenBegun : FuncId := 15
abbrev f_cordonref_SameTokens : FuncId := 16
abbrev f_token_Join : FuncId := 17
abbrev f_cordonref_JoinOf : FuncId := 18
abbrev f_store_Begin : FuncId := 19
abbrev f_store_Meet : FuncId := 20
abbrev f_store_Within : FuncId := 21
abbrev f_store_Failed : FuncId := 22
abbrev f_cordonref_CheckModel : FuncId := 23
abbrev f_cordonlaw_checkStore : FuncId := 24
abbrev f_cordonref_CheckStore : FuncId := 25
abbrev f_cordonref_BeginOf : FuncId := 26
abbrev f_cordonref_HasFailed : FuncId := 27
abbrev f_cordonref_MeetOf : FuncId := 28
abbrev f_cordonref_IsWithin : FuncId := 29
abbrev f_cordonlaw_storeBegun : FuncId := 30
abbrev f_cordonlaw_storeIs : FuncId := 31
abbrev f_store_Check : FuncId := 32
abbrev f_lit_Holds : FuncId := 33
abbrev f_lit_Not : FuncId := 34
abbrev f_lit_Told : FuncId := 35
abbrev f_lit_Put : FuncId := 36
abbrev f_cordonref_CheckLit : FuncId := 37
abbrev f_cordonref_OppositeOf : FuncId := 38
abbrev f_cordonref_ToldOf : FuncId := 39
abbrev f_cordonref_PutOf : FuncId := 40
abbrev f_cordonlaw_litBegun : FuncId := 41
abbrev f_lit_Check : FuncId := 42
abbrev f_cordonref_LitHolds : FuncId := 43
abbrev f_clause_Unit : FuncId := 44
abbrev f_clause_Deny : FuncId := 45
abbrev f_cordonlaw_clauseBegun : FuncId := 46
abbrev f_clause_Holds : FuncId := 47
abbrev f_cordonlaw_has : FuncId := 48
abbrev f_model_Scope : FuncId := 49
abbrev f_cordonref_ScopeOf : FuncId := 50
abbrev f_cordonlaw_modelBegun : FuncId := 51
abbrev f_model_Check : FuncId := 52
abbrev f_cordonref_SameInts : FuncId := 53
abbrev f_token_scanner_skip : FuncId := 54
abbrev f_token_scanner_token : FuncId := 55
abbrev f_cordonref_TokenAt : FuncId := 56
abbrev f_token_one : FuncId := 57
abbrev f_strings_Join : FuncId := 58
abbrev f_cordonref_IsToken : FuncId := 59
abbrev f_store_Full : FuncId := 60
abbrev f_store_ready : FuncId := 61
abbrev f_store_Keep : FuncId := 62
abbrev f_store_Meet_1 : FuncId := 63
abbrev f_slices_Contains_l_int_int : FuncId := 64
abbrev f_slices_ContainsFunc_l_int_int : FuncId := 65
abbrev f_store_Within_1 : FuncId := 66
abbrev f_store_Empty : FuncId := 67
abbrev f_cordonref_IsName : FuncId := 68
abbrev f_cordonref_between : FuncId := 69
abbrev f_cordonref_checkCon : FuncId := 70
abbrev f_cordonref_HasInt : FuncId := 71
abbrev f_cordonref_SameStore : FuncId := 72
abbrev f_cordonlaw_two : FuncId := 73
abbrev f_model_Lit : FuncId := 74
abbrev f_lit_Turns : FuncId := 75
abbrev f_lit_Opposite : FuncId := 76
abbrev f_lit_ready : FuncId := 77
abbrev f_lit_Says : FuncId := 78
abbrev f_lit_Set : FuncId := 79
abbrev f_cordonref_inConst : FuncId := 80
abbrev f_lit_Right : FuncId := 81
abbrev f_clause_ready : FuncId := 82
abbrev f_clause_Put : FuncId := 83
abbrev f_clause_Without : FuncId := 84
abbrev f_clause_Check : FuncId := 85
abbrev f_slices_ContainsFunc_api_Clause_api_Lit : FuncId := 86
abbrev f_clause_Holds_1 : FuncId := 87
abbrev f_model_ready : FuncId := 88
abbrev f_model_Vars : FuncId := 89
abbrev f_model_Holds : FuncId := 90
abbrev f_model_All : FuncId := 91
abbrev f_model_vars : FuncId := 92
abbrev f_model_con : FuncId := 93
abbrev f_model_within : FuncId := 94
abbrev f_token_scanner_sign : FuncId := 95
abbrev f_token_letter : FuncId := 96
abbrev f_token_scanner_run : FuncId := 97
abbrev f_token_scanner_token_1 : FuncId := 98
abbrev f_token_digit : FuncId := 99
abbrev f_slices_ContainsFunc_l_string_string : FuncId := 100
abbrev f_token_pairs : FuncId := 101
abbrev f_token_scanner_token_2 : FuncId := 102
abbrev f_strings_HasPrefix : FuncId := 103
abbrev f_strings_IndexByte : FuncId := 104
abbrev f_cordonref_isLetter : FuncId := 105
abbrev f_cordonref_isDigit : FuncId := 106
abbrev f_strings_Builder_Grow : FuncId := 107
abbrev f_strings_Builder_WriteString : FuncId := 108
abbrev f_strings_Builder_String : FuncId := 109
abbrev f_store_right : FuncId := 110
abbrev f_slices_Index_l_int_int : FuncId := 111
abbrev f_slices_IndexFunc_l_int_int : FuncId := 112
abbrev f_slices_ContainsFunc_api_Store_int : FuncId := 113
abbrev f_store_Empty_1 : FuncId := 114
abbrev f_cordonref_IsWord : FuncId := 115
abbrev f_cordonref_rightForm : FuncId := 116
abbrev f_lit_Set_1 : FuncId := 117
abbrev f_clause_Right : FuncId := 118
abbrev f_store_Own : FuncId := 119
abbrev f_store_Nothing : FuncId := 120
abbrev f_clause_Put_1 : FuncId := 121
abbrev f_clause_Put_1_1 : FuncId := 122
abbrev f_clause_Put_2 : FuncId := 123
abbrev f_clause_Without_1 : FuncId := 124
abbrev f_clause_Without_1_1 : FuncId := 125
abbrev f_slices_IndexFunc_api_Clause_api_Lit : FuncId := 126
abbrev f_slices_Clone_l_int_int : FuncId := 127
abbrev f_slices_Sort_l_int_int : FuncId := 128
abbrev f_slices_Compact_l_int_int : FuncId := 129
abbrev f_model_Holds_1 : FuncId := 130
abbrev f_model_True : FuncId := 131
abbrev f_model_Whole : FuncId := 132
abbrev f_model_Name : FuncId := 133
abbrev f_slices_ContainsFunc_l_api_Var_api_Var : FuncId := 134
abbrev f_model_vars_1 : FuncId := 135
abbrev f_model_con_1 : FuncId := 136
abbrev f_model_con_2 : FuncId := 137
abbrev f_model_form : FuncId := 138
abbrev f_slices_ContainsFunc_l_api_Lit_api_Lit : FuncId := 139
abbrev f_model_con_3 : FuncId := 140
abbrev f_slices_ContainsFunc_rows_int_int : FuncId := 141
abbrev f_model_con_4 : FuncId := 142
abbrev f_slices_IndexFunc_l_string_string : FuncId := 143
abbrev f_internal_stringslite_HasPrefix : FuncId := 144
abbrev f_internal_stringslite_IndexByte : FuncId := 145
abbrev f_strings_Builder_copyCheck : FuncId := 146
abbrev f_strings_Builder_grow : FuncId := 147
abbrev f_store_right_1 : FuncId := 148
abbrev f_slices_IndexFunc_api_Store_int : FuncId := 149
abbrev f_slices_pdqsortOrdered_int : FuncId := 150
abbrev f_math_bits_Len : FuncId := 151
abbrev f_model_True_1 : FuncId := 152
abbrev f_model_True_2 : FuncId := 153
abbrev f_model_Sum : FuncId := 154
abbrev f_model_True_3 : FuncId := 155
abbrev f_slices_Equal_l_int_int : FuncId := 156
abbrev f_slices_ContainsFunc_l_api_Con_api_Con : FuncId := 157
abbrev f_model_Whole_1 : FuncId := 158
abbrev f_token_Name : FuncId := 159
abbrev f_slices_Contains_l_string_string : FuncId := 160
abbrev f_model_Words : FuncId := 161
abbrev f_slices_IndexFunc_l_api_Var_api_Var : FuncId := 162
abbrev f_model_of : FuncId := 163
abbrev f_model_is : FuncId := 164
abbrev f_model_form_1 : FuncId := 165
abbrev f_slices_IndexFunc_l_api_Lit_api_Lit : FuncId := 166
abbrev f_slices_IndexFunc_rows_int_int : FuncId := 167
abbrev f_slices_insertionSortOrdered_int : FuncId := 171
abbrev f_slices_heapSortOrdered_int : FuncId := 172
abbrev f_slices_breakPatternsOrdered_int : FuncId := 173
abbrev f_slices_choosePivotOrdered_int : FuncId := 174
abbrev f_slices_reverseRangeOrdered_int : FuncId := 175
abbrev f_slices_partialInsertionSortOrdered_int : FuncId := 176
abbrev f_cmp_Less_int : FuncId := 177
abbrev f_slices_partitionEqualOrdered_int : FuncId := 178
abbrev f_slices_partitionOrdered_int : FuncId := 179
abbrev f_math_bits_Len32 : FuncId := 180
abbrev f_math_bits_Len64 : FuncId := 181
abbrev f_slices_IndexFunc_l_api_Con_api_Con : FuncId := 182
abbrev f_slices_Index_l_string_string : FuncId := 183
abbrev f_slices_siftDownOrdered_int : FuncId := 184
abbrev f_slices_nextPowerOfTwo : FuncId := 185
abbrev f_slices_xorshift_Next : FuncId := 186
abbrev f_slices_medianAdjacentOrdered_int : FuncId := 187
abbrev f_slices_medianOrdered_int : FuncId := 188
abbrev f_cmp_isNaN_int : FuncId := 189
abbrev f_slices_order2Ordered_int : FuncId := 190
def Ev : TE where
  zs := [(3, (false, [.int .i64 0])), (9, (false, [.str (⟨#[]⟩)])), (34, (true, [.int .i64 0, .int .i64 0, .str (⟨#[]⟩)])), (35, (false, [.nil])), (36, (false, [.nil])), (38, (true, [.sl .var ([] : List VarD), .sl .con ([] : List ConD), .int .i64 0, .int .i64 0])), (39, (false, [.nil])), (40, (false, [.nil])), (57, (true, [.int .i64 0, .int .i64 0, .int .i64 0])), (70, (false, [.nil])), (71, (false, [.nil])), (72, (false, [.nil])), (81, (true, [.int .i64 0, .sl .int ([] : List Int), .sl .int ([] : List Int), .int .i64 0, .sl (.list .int) ([] : List (List Int)), .sl .lit ([] : List LitD)])), (86, (true, [.str (⟨#[]⟩), .int .i64 0])), (99, (false, [.undef])), (101, (true, [.str (⟨#[]⟩), .int .i64 0, .int .i64 0])), (162, (true, [.int .i64 0, .int .i64 0, .int .i64 0, .int .i64 0, .int .i64 0]))]
  sl := [(22, (34, .tok)), (35, (101, .var)), (36, (81, .con)), (39, (72, .list .int)), (40, (72, .list .int)), (70, (57, .lit)), (71, (57, .lit)), (72, (3, .int)), (91, (9, .str)), (133, (40, .list (.list .int)))]
  fld := [(34, [(0, 1), (1, 1), (2, 1)]), (38, [(0, 1), (1, 1), (2, 1), (3, 1)]), (57, [(0, 1), (1, 1), (2, 1)]), (81, [(0, 1), (1, 1), (2, 1), (3, 1), (4, 1), (5, 1)]), (86, [(0, 1), (1, 1)]), (101, [(0, 1), (1, 1), (2, 1)]), (162, [(0, 1), (1, 1), (2, 1), (3, 1), (4, 1)])]
  strs := [9]
  ints := [(2, .i64), (3, .i64), (5, .u8), (6, .u8), (23, .i64), (170, .i64), (197, .u8), (198, .u8)]
  bools := [4]
  sig := [(f_token_Scan, [.list .tok, .int, .int]), (f_cordonref_ScanOf, [.list .tok, .int, .int]), (f_cordonlaw_tokenBegun, [.bool]), (f_cordonref_SameTokens, [.bool]), (f_token_Join, [.str, .int]), (f_cordonref_JoinOf, [.str, .int]), (f_store_Begin, [.list (.list .int), .int]), (f_store_Meet, [.list (.list .int), .int]), (f_store_Within, [.bool, .int]), (f_store_Failed, [.bool, .int]), (f_cordonref_CheckModel, [.int]), (f_cordonlaw_checkStore, [.int]), (f_cordonref_CheckStore, [.int]), (f_cordonref_BeginOf, [.list (.list .int)]), (f_cordonref_HasFailed, [.bool]), (f_cordonref_MeetOf, [.list (.list .int)]), (f_cordonref_IsWithin, [.bool]), (f_cordonlaw_storeBegun, [.bool]), (f_cordonlaw_storeIs, [.bool]), (f_store_Check, [.int]), (f_lit_Holds, [.bool, .int]), (f_lit_Not, [.lit, .int]), (f_lit_Told, [.int, .int]), (f_lit_Put, [.list (.list .int), .int]), (f_cordonref_CheckLit, [.int]), (f_cordonref_OppositeOf, [.lit]), (f_cordonref_ToldOf, [.int]), (f_cordonref_PutOf, [.list (.list .int)]), (f_cordonlaw_litBegun, [.bool]), (f_lit_Check, [.int]), (f_cordonref_LitHolds, [.bool]), (f_clause_Unit, [.list (.list .int), .int]), (f_clause_Deny, [.list (.list .int), .int]), (f_cordonlaw_clauseBegun, [.bool]), (f_clause_Holds, [.bool, .int]), (f_cordonlaw_has, [.bool]), (f_model_Scope, [.list .int, .int]), (f_cordonref_ScopeOf, [.list .int]), (f_cordonlaw_modelBegun, [.bool]), (f_model_Check, [.int]), (f_cordonref_SameInts, [.bool]), (f_token_scanner_skip, []), (f_token_scanner_token, [.tok, .int]), (f_cordonref_TokenAt, [.int, .int]), (f_token_one, [.bool]), (f_strings_Join, [.str]), (f_cordonref_IsToken, [.bool]), (f_store_Full, [.list (.list .int)]), (f_store_ready, [.int]), (f_store_Keep, [.list (.list .int)]), (f_slices_Contains_l_int_int, [.bool]), (f_slices_ContainsFunc_l_int_int, [.bool]), (f_store_Empty, [.bool]), (f_cordonref_IsName, [.bool]), (f_cordonref_between, [.bool]), (f_cordonref_checkCon, [.int]), (f_cordonref_HasInt, [.bool]), (f_cordonref_SameStore, [.bool]), (f_cordonlaw_two, [.mdl]), (f_model_Lit, [.bool]), (f_lit_Turns, [.int]), (f_lit_Opposite, [.lit]), (f_lit_ready, [.int]), (f_lit_Says, [.int]), (f_lit_Set, [.list (.list .int)]), (f_cordonref_inConst, [.bool]), (f_lit_Right, [.int]), (f_clause_ready, [.int]), (f_clause_Put, [.list (.list .int)]), (f_clause_Without, [.list (.list .int)]), (f_clause_Check, [.int]), (f_slices_ContainsFunc_api_Clause_api_Lit, [.bool]), (f_model_ready, [.int]), (f_model_Vars, [.list .int]), (f_model_Holds, [.bool, .int]), (f_model_All, [.bool, .int]), (f_model_vars, [.int]), (f_model_con, [.int]), (f_model_within, [.bool]), (f_cordonref_isLetter, [.bool]), (f_cordonref_isDigit, [.bool]), (f_store_right, [.int]), (f_slices_Index_l_int_int, [.int]), (f_slices_IndexFunc_l_int_int, [.int]), (f_slices_ContainsFunc_api_Store_int, [.bool]), (f_cordonref_IsWord, [.bool]), (f_cordonref_rightForm, [.bool]), (f_clause_Right, [.int]), (f_store_Own, [.list (.list .int)]), (f_store_Nothing, [.list (.list .int)]), (f_slices_IndexFunc_api_Clause_api_Lit, [.int]), (f_model_True, [.bool]), (f_model_Whole, [.bool]), (f_model_Name, [.bool]), (f_slices_ContainsFunc_l_api_Var_api_Var, [.bool]), (f_model_con_2, [.bool]), (f_model_form, [.bool]), (f_slices_ContainsFunc_l_api_Lit_api_Lit, [.bool]), (f_slices_ContainsFunc_rows_int_int, [.bool]), (f_slices_IndexFunc_l_string_string, [.int]), (f_slices_IndexFunc_api_Store_int, [.int]), (f_model_True_1, [.int]), (f_model_True_2, [.bool]), (f_model_Sum, [.bool]), (f_slices_Equal_l_int_int, [.bool]), (f_slices_ContainsFunc_l_api_Con_api_Con, [.bool]), (f_token_Name, [.bool]), (f_slices_Contains_l_string_string, [.bool]), (f_model_Words, [.list .str]), (f_slices_IndexFunc_l_api_Var_api_Var, [.int]), (f_model_of, [.pr .int (.pr .int (.pr .int (.pr .int .int)))]), (f_model_is, [.bool]), (f_slices_IndexFunc_l_api_Lit_api_Lit, [.int]), (f_slices_IndexFunc_rows_int_int, [.int]), (f_slices_IndexFunc_l_api_Con_api_Con, [.int]), (f_slices_Index_l_string_string, [.int])]
  mps := [(157, (.int, .int))]
  sts := [(34, .tok), (57, .lit)]
  hsig := [(f_slices_Clone_l_int_int, { tys := [.list .int], nils := [], datas := [], res := fun xs ob => match xs with | [.sl .int y0] => some (.own 3000, [(3000, .row 3 .int y0)]) | _ => none }),
    (f_slices_Sort_l_int_int, { tys := [.list .int], nils := [], datas := [], res := fun xs ob => match xs, ob 1000 with | [.sl .int y0], some o1000 => some (.tup [], [(1000, .row 3 .int y0)]) | _, _ => none }),
    (f_slices_Compact_l_int_int, { tys := [.list .int], nils := [], datas := [], res := fun xs ob => match xs, ob 1000 with | [y0], some o1000 => some (y0, []) | _, _ => none })]
  vals := []
  arr := []
theorem chkEv : Ev.chk Try.prog = true := by kernel_rfl
theorem sigEv : ∀ x ∈ Ev.sig, ∀ args w, (callFunc x.1 args).run Try.prog w = .ok (.enter x.1 args) w := by
  intro x hx args w
  simp only [Ev, List.mem_cons, List.not_mem_nil, or_false] at hx
  rcases hx with rfl | rfl | rfl | rfl | rfl | rfl | rfl | rfl | rfl | rfl | rfl | rfl | rfl | rfl | rfl | rfl | rfl | rfl | rfl | rfl | rfl | rfl | rfl | rfl | rfl | rfl | rfl | rfl | rfl | rfl | rfl | rfl | rfl | rfl | rfl | rfl | rfl | rfl | rfl | rfl | rfl | rfl | rfl | rfl | rfl | rfl | rfl | rfl | rfl | rfl | rfl | rfl | rfl | rfl | rfl | rfl | rfl | rfl | rfl | rfl | rfl | rfl | rfl | rfl | rfl | rfl | rfl | rfl | rfl | rfl | rfl | rfl | rfl | rfl | rfl | rfl | rfl | rfl | rfl | rfl | rfl | rfl | rfl | rfl | rfl | rfl | rfl | rfl | rfl | rfl | rfl | rfl | rfl | rfl | rfl | rfl | rfl | rfl | rfl | rfl | rfl | rfl | rfl | rfl | rfl | rfl | rfl | rfl | rfl | rfl | rfl | rfl | rfl | rfl | rfl | rfl
  · exact Try.call13 args w
  · exact Try.call14 args w
  · exact Try.call15 args w
  · exact Try.call16 args w
  · exact Try.call17 args w
  · exact Try.call18 args w
  · exact Try.call19 args w
  · exact Try.call20 args w
  · exact Try.call21 args w
  · exact Try.call22 args w
  · exact Try.call23 args w
  · exact Try.call24 args w
  · exact Try.call25 args w
  · exact Try.call26 args w
  · exact Try.call27 args w
  · exact Try.call28 args w
  · exact Try.call29 args w
  · exact Try.call30 args w
  · exact Try.call31 args w
  · exact Try.call32 args w
  · exact Try.call33 args w
  · exact Try.call34 args w
  · exact Try.call35 args w
  · exact Try.call36 args w
  · exact Try.call37 args w
  · exact Try.call38 args w
  · exact Try.call39 args w
  · exact Try.call40 args w
  · exact Try.call41 args w
  · exact Try.call42 args w
  · exact Try.call43 args w
  · exact Try.call44 args w
  · exact Try.call45 args w
  · exact Try.call46 args w
  · exact Try.call47 args w
  · exact Try.call48 args w
  · exact Try.call49 args w
  · exact Try.call50 args w
  · exact Try.call51 args w
  · exact Try.call52 args w
  · exact Try.call53 args w
  · exact Try.call54 args w
  · exact Try.call55 args w
  · exact Try.call56 args w
  · exact Try.call57 args w
  · exact Try.call58 args w
  · exact Try.call59 args w
  · exact Try.call60 args w
  · exact Try.call61 args w
  · exact Try.call62 args w
  · exact Try.call64 args w
  · exact Try.call65 args w
  · exact Try.call67 args w
  · exact Try.call68 args w
  · exact Try.call69 args w
  · exact Try.call70 args w
  · exact Try.call71 args w
  · exact Try.call72 args w
  · exact Try.call73 args w
  · exact Try.call74 args w
  · exact Try.call75 args w
  · exact Try.call76 args w
  · exact Try.call77 args w
  · exact Try.call78 args w
  · exact Try.call79 args w
  · exact Try.call80 args w
  · exact Try.call81 args w
  · exact Try.call82 args w
  · exact Try.call83 args w
  · exact Try.call84 args w
  · exact Try.call85 args w
  · exact Try.call86 args w
  · exact Try.call88 args w
  · exact Try.call89 args w
  · exact Try.call90 args w
  · exact Try.call91 args w
  · exact Try.call92 args w
  · exact Try.call93 args w
  · exact Try.call94 args w
  · exact Try.call105 args w
  · exact Try.call106 args w
  · exact Try.call110 args w
  · exact Try.call111 args w
  · exact Try.call112 args w
  · exact Try.call113 args w
  · exact Try.call115 args w
  · exact Try.call116 args w
  · exact Try.call118 args w
  · exact Try.call119 args w
  · exact Try.call120 args w
  · exact Try.call126 args w
  · exact Try.call131 args w
  · exact Try.call132 args w
  · exact Try.call133 args w
  · exact Try.call134 args w
  · exact Try.call137 args w
  · exact Try.call138 args w
  · exact Try.call139 args w
  · exact Try.call141 args w
  · exact Try.call143 args w
  · exact Try.call149 args w
  · exact Try.call152 args w
  · exact Try.call153 args w
  · exact Try.call154 args w
  · exact Try.call156 args w
  · exact Try.call157 args w
  · exact Try.call159 args w
  · exact Try.call160 args w
  · exact Try.call161 args w
  · exact Try.call162 args w
  · exact Try.call163 args w
  · exact Try.call164 args w
  · exact Try.call166 args w
  · exact Try.call167 args w
  · exact Try.call182 args w
  · exact Try.call183 args w
theorem chkEv2 : Ev.chk2 Try.prog = true := by kernel_rfl
theorem hsigEv : ∀ x ∈ Ev.hsig, Ent Try.prog x.1 := by
  intro x hx args w
  simp only [Ev, List.mem_cons, List.not_mem_nil, or_false] at hx
  rcases hx with rfl | rfl | rfl
  · exact Try.call127 args w
  · exact Try.call128 args w
  · exact Try.call129 args w
theorem factsEv : Facts Try.prog Ev := facts_of (by kernel_rfl) chkEv chkEv2 sigEv hsigEv
end Go.Proofs.Ytonkbljpcgadlaa
