/- The types and the functions of the program that the walks need, read from its table: printed by a program. -/
import Derived.Test.YtajnbkhgnppckaaGreatDoorProg
import Derived.Test.YtajnbkhgnppckaaGreatDoorMD
namespace Go.Proofs.YtajnbkhgnppckaaGreatDoor
open Go.RowKit
set_option linter.unusedVariables false
set_option maxRecDepth 100000
abbrev zDB : FuncId := 2
abbrev zEB : FuncId := 3
abbrev zFB : FuncId := 4
abbrev zGB : FuncId := 5
abbrev zHB : FuncId := 6
abbrev zql : FuncId := 7
abbrev zIB : FuncId := 8
abbrev zJB : FuncId := 9
abbrev zxr : FuncId := 10
abbrev zyr : FuncId := 11
abbrev zQc : FuncId := 12
abbrev zzr : FuncId := 13
abbrev zAr : FuncId := 14
abbrev z7e : FuncId := 15
abbrev zBr : FuncId := 16
abbrev zCr : FuncId := 17
abbrev zDd : FuncId := 18
abbrev zDr : FuncId := 19
abbrev zTb : FuncId := 20
abbrev zUb : FuncId := 21
abbrev z8e : FuncId := 22
abbrev zEd : FuncId := 23
abbrev zS : FuncId := 24
abbrev zVb : FuncId := 25
abbrev zT : FuncId := 26
abbrev zU : FuncId := 27
abbrev zWb : FuncId := 28
abbrev zEr : FuncId := 29
abbrev zFr : FuncId := 30
abbrev z9e : FuncId := 31
abbrev zaf : FuncId := 32
abbrev zbf : FuncId := 33
abbrev zRc : FuncId := 34
abbrev zFd : FuncId := 35
abbrev zGd : FuncId := 36
abbrev zGr : FuncId := 37
abbrev zoc : FuncId := 38
abbrev z2i : FuncId := 39
abbrev zy : FuncId := 40
abbrev zcf : FuncId := 41
abbrev zSc : FuncId := 42
abbrev zdf : FuncId := 43
abbrev zTc : FuncId := 44
abbrev zef : FuncId := 45
abbrev zHd : FuncId := 46
abbrev zff : FuncId := 47
abbrev zHr : FuncId := 48
abbrev zIr : FuncId := 49
abbrev zJr : FuncId := 50
abbrev zgf : FuncId := 51
abbrev zhf : FuncId := 52
abbrev zUc : FuncId := 53
abbrev zif : FuncId := 54
abbrev zjf : FuncId := 55
abbrev zId : FuncId := 56
abbrev zkf : FuncId := 57
abbrev zlf : FuncId := 58
abbrev zhb : FuncId := 59
abbrev zxb : FuncId := 60
abbrev zg : FuncId := 61
abbrev zmf : FuncId := 62
abbrev zO : FuncId := 63
abbrev zKB : FuncId := 64
abbrev zKr : FuncId := 65
abbrev zLr : FuncId := 66
abbrev znf : FuncId := 67
abbrev zpc : FuncId := 68
abbrev zVc : FuncId := 69
abbrev zyb : FuncId := 70
abbrev zof : FuncId := 71
abbrev zJd : FuncId := 72
abbrev zMr : FuncId := 73
abbrev zqc : FuncId := 74
abbrev zLB : FuncId := 75
abbrev zKd : FuncId := 76
abbrev zrc : FuncId := 77
abbrev zNr : FuncId := 78
abbrev zMB : FuncId := 79
abbrev zpf : FuncId := 80
abbrev zLd : FuncId := 81
abbrev zqf : FuncId := 82
abbrev zrf : FuncId := 83
abbrev zsf : FuncId := 84
abbrev zMd : FuncId := 85
abbrev ztf : FuncId := 86
abbrev zuf : FuncId := 87
abbrev z3i : FuncId := 88
abbrev zvf : FuncId := 89
abbrev zwf : FuncId := 90
abbrev zNd : FuncId := 91
abbrev zzb : FuncId := 92
abbrev zxf : FuncId := 93
abbrev zWc : FuncId := 94
abbrev zyf : FuncId := 95
abbrev znb : FuncId := 96
abbrev zzf : FuncId := 97
abbrev zXb : FuncId := 98
abbrev zYb : FuncId := 99
abbrev zsc : FuncId := 100
abbrev zV : FuncId := 101
abbrev zob : FuncId := 102
abbrev zAf : FuncId := 103
abbrev zBf : FuncId := 104
abbrev zOr : FuncId := 105
abbrev zF : FuncId := 106
abbrev ztc : FuncId := 107
abbrev zOd : FuncId := 108
abbrev zPd : FuncId := 109
abbrev zCf : FuncId := 110
abbrev zDf : FuncId := 111
abbrev zf : FuncId := 112
abbrev zAb : FuncId := 113
abbrev zZb : FuncId := 114
abbrev z0b : FuncId := 115
abbrev zEf : FuncId := 116
abbrev zib : FuncId := 117
abbrev zXc : FuncId := 118
abbrev zQd : FuncId := 119
abbrev zRd : FuncId := 120
abbrev zPr : FuncId := 121
abbrev z4i : FuncId := 122
abbrev zSd : FuncId := 123
abbrev zFf : FuncId := 124
abbrev zGf : FuncId := 125
abbrev zuc : FuncId := 126
abbrev zQr : FuncId := 127
abbrev zRr : FuncId := 128
abbrev zSr : FuncId := 129
abbrev zHf : FuncId := 130
abbrev zIf : FuncId := 131
abbrev zYc : FuncId := 132
abbrev z1b : FuncId := 133
abbrev zJf : FuncId := 134
abbrev zKf : FuncId := 135
abbrev zZc : FuncId := 136
abbrev zLf : FuncId := 137
abbrev zMf : FuncId := 138
abbrev zNf : FuncId := 139
abbrev zBb : FuncId := 140
abbrev z2b : FuncId := 141
abbrev zOf : FuncId := 142
abbrev z0c : FuncId := 143
abbrev zTd : FuncId := 144
abbrev zPf : FuncId := 145
abbrev zQf : FuncId := 146
abbrev z1c : FuncId := 147
abbrev zRf : FuncId := 148
abbrev zTr : FuncId := 149
abbrev zUr : FuncId := 150
abbrev zUd : FuncId := 151
abbrev z3b : FuncId := 152
abbrev zSf : FuncId := 153
abbrev zCb : FuncId := 154
abbrev zVd : FuncId := 155
abbrev zTf : FuncId := 156
abbrev zvc : FuncId := 157
abbrev zNB : FuncId := 158
abbrev zOB : FuncId := 159
abbrev zPB : FuncId := 160
abbrev zUf : FuncId := 161
abbrev zVf : FuncId := 162
abbrev zWf : FuncId := 163
abbrev zVr : FuncId := 164
abbrev zWr : FuncId := 165
abbrev zA : FuncId := 166
abbrev zi : FuncId := 167
abbrev zXf : FuncId := 168
abbrev zYf : FuncId := 169
abbrev zwc : FuncId := 170
abbrev zWd : FuncId := 171
abbrev zZf : FuncId := 172
abbrev z0f : FuncId := 173
abbrev zxc : FuncId := 174
abbrev z1f : FuncId := 175
abbrev z2c : FuncId := 176
abbrev z2f : FuncId := 177
abbrev z3f : FuncId := 178
abbrev z4f : FuncId := 179
abbrev zQB : FuncId := 180
abbrev zRB : FuncId := 181
abbrev zSB : FuncId := 182
abbrev zTB : FuncId := 183
abbrev zUB : FuncId := 184
abbrev zVB : FuncId := 185
abbrev zWB : FuncId := 186
abbrev zXB : FuncId := 187
abbrev zYB : FuncId := 188
abbrev zZB : FuncId := 189
abbrev z0B : FuncId := 190
abbrev z1B : FuncId := 191
abbrev zXd : FuncId := 192
abbrev zYd : FuncId := 193
abbrev zXr : FuncId := 194
abbrev z5f : FuncId := 195
abbrev z2B : FuncId := 196
abbrev z3B : FuncId := 197
abbrev z4B : FuncId := 198
abbrev z5B : FuncId := 199
abbrev z6B : FuncId := 200
abbrev z7B : FuncId := 201
abbrev z8B : FuncId := 202
abbrev z9B : FuncId := 203
abbrev zaC : FuncId := 204
abbrev zbC : FuncId := 205
abbrev z3c : FuncId := 206
abbrev z6f : FuncId := 207
abbrev zYr : FuncId := 208
abbrev zZr : FuncId := 209
abbrev zcC : FuncId := 210
abbrev zdC : FuncId := 211
abbrev zeC : FuncId := 212
abbrev zfC : FuncId := 213
abbrev zgC : FuncId := 214
abbrev z5i : FuncId := 215
abbrev z7f : FuncId := 216
abbrev zhC : FuncId := 217
abbrev ziC : FuncId := 218
abbrev zjC : FuncId := 219
abbrev zkC : FuncId := 220
abbrev zlC : FuncId := 221
abbrev zmC : FuncId := 222
abbrev znC : FuncId := 223
abbrev zoC : FuncId := 224
abbrev zpC : FuncId := 225
abbrev zqC : FuncId := 226
abbrev zrC : FuncId := 227
abbrev zsC : FuncId := 228
abbrev z8f : FuncId := 229
abbrev z9f : FuncId := 230
abbrev z0r : FuncId := 231
abbrev ztC : FuncId := 232
abbrev zuC : FuncId := 233
abbrev zvC : FuncId := 256
def Ev : TE where
 zs := [(3, (false, [dI 0])), (9, (false, [.str (⟨#[]⟩)])), (22, (false, [.nil])), (23, (false, [.nil])), (25, (true, [.sl .var ([] : List VarD), .sl .con ([] : List ConD), dI 0, dI 0])), (26, (false, [.nil])), (27, (false, [.nil])), (29, (true, [dI 0, .sl .int ([] : List Int), .sl .step ([] : List StepD)])), (37, (false, [.nil])), (46, (false, [.nil])), (47, (false, [.nil])), (55, (false, [.nil])), (63, (false, [.undef])), (71, (true, [dI 0, dI 0, .sl .lit ([] : List LitD)])), (74, (true, [.sl .var ([] : List VarD), .sl .con ([] : List ConD), dI 0, dI 0, .nil])), (76, (false, [.nil])), (79, (true, [.str (⟨#[]⟩), dI 0, dI 0])), (84, (true, [dI 0, .sl .int ([] : List Int), .sl .int ([] : List Int), dI 0, dS ([] : List (List Int)), .sl .lit ([] : List LitD)])), (86, (true, [dI 0, dI 0, dI 0])), (89, (true, [.undef, .slN .int ([] : List Int) true])), (97, (false, [.undef])), (99, (true, [.sl .var ([] : List VarD), .sl .con ([] : List ConD), dI 0, dI 0, .sl (.list .lit) ([] : List (List LitD)), dI 0, .nil, .nil, .undef])), (112, (false, [.undef])), (115, (false, [.undef])), (131, (true, [.sl .var ([] : List VarD), .sl .con ([] : List ConD), dI 0, dI 0, .sl (.list .lit) ([] : List (List LitD)), dS ([] : List (List Int)), .nil])), (151, (false, [.undef])), (164, (true, [dI 0, dI 0, dI 0, dI 0, dI 0])), (185, (false, [.undef])), (186, (false, [.undef])), (188, (true, [dI 0, .sl .int ([] : List Int), .sl .int ([] : List Int), dI 0, dS ([] : List (List Int)), .sl .lit ([] : List LitD), dS ([] : List (List Int)), .sl .int ([] : List Int), .sl .int ([] : List Int), .undef])), (190, (true, [dI 0, dI 0])), (191, (false, [.nil])), (193, (false, [.undef])), (195, (true, [dI 0, dI 0])), (201, (true, [dS ([] : List (List Int)), .sl .int ([] : List Int), .undef, .undef, dI 0])), (223, (true, [dI 0, dI 0, .str (⟨#[]⟩)])), (238, (true, [.str (⟨#[]⟩), dI 0]))]
 sl := [(22, (79, .var)), (23, (84, .con)), (26, (3, .int)), (27, (71, .step)), (37, (26, .list .int)), (46, (86, .lit)), (47, (86, .lit)), (55, (47, .list .lit)), (76, (26, .list .int)), (146, (9, .str)), (155, (46, .list .lit)), (191, (195, .term)), (219, (223, .tok))]
 fld := [(25, [(0, 1), (1, 1), (2, 1), (3, 1)]), (29, [(0, 1), (1, 1), (2, 1)]), (71, [(0, 1), (1, 1), (2, 1)]), (74, [(0, 4), (4, 1)]), (79, [(0, 1), (1, 1), (2, 1)]), (84, [(0, 1), (1, 1), (2, 1), (3, 1), (4, 1), (5, 1)]), (86, [(0, 1), (1, 1), (2, 1)]), (89, [(0, 1), (1, 1)]), (99, [(0, 4), (4, 1), (5, 1), (6, 1), (7, 1), (8, 1)]), (131, [(0, 4), (4, 1), (5, 1), (6, 1)]), (164, [(0, 1), (1, 1), (2, 1), (3, 1), (4, 1)]), (188, [(0, 6), (6, 1), (7, 1), (8, 1), (9, 1)]), (195, [(0, 1), (1, 1)]), (201, [(0, 1), (1, 1), (2, 1), (3, 1), (4, 1)]), (223, [(0, 1), (1, 1), (2, 1)]), (238, [(0, 1), (1, 1)])]
 strs := [9]
 ints := [(2, .i64), (3, .i64), (5, .u8), (6, .u8), (30, .i64), (205, .i64), (261, .u8), (262, .u8)]
 bools := [4]
 sig := [(zxr, [.ans, .int]), (zyr, [.bool]), (zQc, [.bool]), (zzr, [.bool]), (zAr, [.list (.list .int), .bool, .int]), (z7e, [.int]), (zBr, [.list (.list .int), .bool]), (zCr, [.bool]), (zDd, [.list .lit, .int]), (zDr, [.int]), (zTb, [.list .lit]), (zUb, [.bool]), (z8e, [.bool]), (zEd, [.ans, .int]), (zS, [.bool]), (zVb, [.bool]), (zT, [.int]), (zU, [.bool]), (zWb, [.int]), (zEr, [.bool]), (zFr, [.bool, .int]), (z9e, [.int]), (zFd, [.mdl]), (zGd, [.int]), (zoc, [.list (.list .int)]), (z2i, [.bool]), (zy, [.bool]), (zcf, [.int]), (zSc, [.list .lit]), (zTc, [.bool]), (zef, [.int]), (zHd, [.int]), (zff, [.bool]), (zHr, [.bool, .int]), (zIr, [.list .int, .int]), (zJr, [.bool]), (zhf, [.list .lit, .bool]), (zjf, [.list .step]), (zId, [.list .lit]), (zkf, [.int]), (zlf, [.int]), (zhb, [.bool]), (zxb, [.list (.list .int)]), (zg, [.bool]), (zmf, [.int]), (zO, [.list (.list .int)]), (zKr, [.bool]), (zLr, [.bool]), (znf, [.bool]), (zpc, [.bool]), (zVc, [.int]), (zyb, [.bool]), (zof, [.bool]), (zJd, [.bool]), (zMr, [.int]), (zqc, [.bool]), (zKd, [.bool]), (zrc, [.list .int]), (zNr, [.bool]), (zLd, [.bool]), (zrf, [.list .lit]), (zsf, [.str]), (zMd, [.list (.list .int)]), (zuf, [.lit]), (z3i, [.bool]), (zvf, [.bool]), (zzb, [.bool]), (zxf, [.bool]), (zWc, [.bool]), (znb, [.bool]), (zXb, [.list (.list .int)]), (zYb, [.list (.list .int)]), (zsc, [.list (.list .int)]), (zV, [.list (.list .int)]), (zob, [.bool]), (zAf, [.bool]), (zOr, [.int, .int]), (zF, [.bool]), (ztc, [.list (.list .int)]), (zOd, [.list (.list .int)]), (zPd, [.list (.list .int)]), (zCf, [.list (.list .int)]), (zDf, [.int]), (zf, [.int]), (zAb, [.bool]), (zZb, [.bool]), (z0b, [.bool]), (zib, [.bool]), (zPr, [.int]), (zSd, [.str]), (zFf, [.list (.list .int)]), (zuc, [.bool]), (zQr, [.bool]), (zRr, [.bool]), (zSr, [.list .str]), (zHf, [.int]), (zIf, [.pr .int (.pr .int (.pr .int (.pr .int .int)))]), (zYc, [.bool]), (zJf, [.int]), (zKf, [.int]), (zMf, [.bool]), (z2b, [.bool]), (zOf, [.int]), (zTd, [.bool]), (zRf, [.int]), (zTr, [.bool]), (zUr, [.bool]), (zUd, [.list .int]), (z3b, [.list (.list .int)]), (zCb, [.bool]), (zVd, [.bool]), (zTf, [.list (.list .int)]), (zvc, [.bool]), (zVf, [.list .lit, .bool]), (zWf, [.list .lit, .bool]), (zVr, [.bool]), (zWr, [.int]), (zXf, [.list .term]), (zYf, [.list .int]), (zWd, [.int]), (z2f, [.int]), (z3f, [.int]), (z4f, [.int]), (zXd, [.list .lit]), (zYd, [.list .lit]), (zXr, [.list .tok, .int, .int]), (z3c, [.list .lit]), (z6f, [.bool]), (zYr, []), (zZr, [.tok, .int]), (z7f, [.list (.list .int)]), (z0r, [.int])]
 mps := [(97, (.str, .int)), (151, (.int, .int)), (186, (.pr .int .int, .int)), (193, (.int, .list .int))]
 sts := [(86, .lit)]
 hsig := [(zaf, { tys := [.mdl, .int], nils := [], datas := [], res := fun xs _ => match xs with | [.agg y0, y1] => some (.ptr 3000 0, [(3000, .cells (y0 ++ [.sl (.list .lit) [], y1, .nil, .nil, .own 3001])), (3001, .mp .str .int [])]) | _ => none }),
  (zbf, { tys := [.int, .list (.list .lit), .list .step, .list (.pr .str .int), .list .int, .int], nils := [(0, (6, (47, .list .lit))), (0, (7, (71, .step)))], datas := [], res := fun xs ob => match xs, ob 1000, ob 2000, ob 2001, ob 1001 with | [y0, .sl (.list .lit) y1, .sl .step y2, .sl (.pr .str .int) y3, y4, y5], some (.cells o1000), some o2000, some o2001, some o1001 => some (.tup [y4, y5], [(1000, .cells (o1000.set 5 y0)), (2000, .row 47 (.list .lit) y1), (2001, .row 71 .step y2), (1001, .mp .str .int y3)]) | _, _, _, _, _ => none }),
  (zRc, { tys := [.list .step, .bool], nils := [(0, (6, (47, .list .lit))), (0, (7, (71, .step)))], datas := [], res := fun xs ob => match xs, ob 1000, ob 2000, ob 2001, ob 1001 with | [y0, y1], some (.cells o1000), some o2000, some o2001, some o1001 => some (.tup [y0, y1], [(1000, .cells (o1000.set 7 y0)), (2000, o2000), (1001, o1001)]) | _, _, _, _, _ => none }),
  (zGr, { tys := [.bool, .list (.list .int)], nils := [(0, (4, (26, .list .int)))], datas := [], res := fun xs ob => match xs, ob 1000, ob 2000 with | [y0, .sl (.list .int) y1], some o1000, some o2000 => some (y0, [(1000, o1000), (2000, .row 26 (.list .int) y1)]) | _, _, _ => none }),
  (zdf, { tys := [.int, .list .int, .bool, .list (.list .lit), .int, .list (.list .lit), .list .step, .list (.pr .str .int)], nils := [(1, (6, (47, .list .lit))), (1, (7, (71, .step)))], datas := [], res := fun xs ob => match xs, ob 1000, ob 1001, ob 2000, ob 2001, ob 1002 with | [y0, .sl .int y1, .bool y2, y3, y4, .sl (.list .lit) y5, .sl .step y6, .sl (.pr .str .int) y7], some (.cells o1000), some (.cells o1001), some o2000, some o2001, some o1002 => some (y0, [(1000, .cells (o1000.set 1 (.slN .int y1 y2))), (1001, .cells ((o1001.set 4 y3).set 5 y4)), (2000, .row 47 (.list .lit) y5), (2001, .row 71 .step y6), (1002, .mp .str .int y7)]) | _, _, _, _, _, _ => none }),
  (zgf, { tys := [.list .lit, .bool, .list .int], nils := [(0, (6, (47, .list .lit))), (0, (7, (71, .step)))], datas := [], res := fun xs ob => match xs, ob 1000, ob 2000, ob 2001, ob 1001 with | [.sl .lit y0, .bool y1, y2], some o1000, some o2000, some o2001, some o1001 => some (.tup [(.slN .lit y0 y1), y2], [(1000, o1000), (2000, o2000), (2001, o2001), (1001, o1001)]) | _, _, _, _, _ => none }),
  (zUc, { tys := [.list (.list .lit)], nils := [(0, (6, (47, .list .lit))), (0, (7, (71, .step)))], datas := [], res := fun xs ob => match xs, ob 1000, ob 2000, ob 2001, ob 1001 with | [y0], some o1000, some o2000, some o2001, some o1001 => some (y0, [(1000, o1000), (2000, o2000), (2001, o2001), (1001, o1001)]) | _, _, _, _, _ => none }),
  (zif, { tys := [.list .step, .list (.pr .str .int)], nils := [(0, (6, (47, .list .lit))), (0, (7, (71, .step)))], datas := [], res := fun xs ob => match xs, ob 1000, ob 2000, ob 2001, ob 1001 with | [.sl .step y0, .sl (.pr .str .int) y1], some o1000, some o2000, some o2001, some o1001 => some (.tup [], [(1000, o1000), (2000, o2000), (2001, .row 71 .step y0), (1001, .mp .str .int y1)]) | _, _, _, _, _ => none }),
  (zqf, { tys := [.list .lit], nils := [], datas := [], res := fun xs ob => match xs with | [.sl .lit y0] => some (.own 3000, [(3000, .row 86 .lit y0)]) | _ => none }),
  (ztf, { tys := [.list (.list .int), .list .step], nils := [(0, (6, (71, .step)))], datas := [], res := fun xs ob => match xs, ob 1000, ob 2000 with | [y0, .sl .step y1], some (.cells o1000), some o2000 => some (.tup [], [(1000, .cells (o1000.set 5 y0)), (2000, .row 71 .step y1)]) | _, _, _ => none }),
  (zXc, { tys := [.list .int], nils := [], datas := [], res := fun xs ob => match xs with | [.sl .int y0] => some (.own 3000, [(3000, .row 3 .int y0)]) | _ => none }),
  (zQd, { tys := [.list .int], nils := [], datas := [], res := fun xs ob => match xs, ob 1000 with | [.sl .int y0], some o1000 => some (.tup [], [(1000, .row 3 .int y0)]) | _, _ => none }),
  (zRd, { tys := [.list .int], nils := [], datas := [], res := fun xs ob => match xs, ob 1000 with | [y0], some o1000 => some (y0, []) | _, _ => none }),
  (z4i, { tys := [.list .lit], nils := [], datas := [], res := fun xs ob => match xs with | [.sl .lit y0] => some (.own 3000, [(3000, .row 86 .lit y0)]) | _ => none, raw := true }),
  (zGf, { tys := [.bool, .list (.list .int), .list .step], nils := [(0, (6, (71, .step)))], datas := [], res := fun xs ob => match xs, ob 1000, ob 2000 with | [y0, y1, .sl .step y2], some (.cells o1000), some o2000 => some (y0, [(1000, .cells (o1000.set 5 y1)), (2000, .row 71 .step y2)]) | _, _, _ => none }),
  (zZc, { tys := [.con, .list (.list .int), .list .int, .list .int, .list (.pr (.pr .int .int) .int)], nils := [], datas := [], res := fun xs _ => match xs with | [.agg y0, y1, y2, y3, .sl (.pr (.pr .int .int) .int) y4] => some (.clo 167 none [.iptr [.iptr (y0 ++ [y1, y2, y3, .mp (.pr .int .int) .int y4]) 0] 0], []) | _ => none }),
  (zLf, { tys := [.list .term, .list (.pr .int (.list .int)), .con], nils := [], datas := [], res := fun xs _ => match xs with | [y0, .sl (.pr .int (.list .int)) y1, .agg y2] => some (.clo 170 none [.iptr [y0] 0, .iptr [.mp .int (.list .int) y1] 0, .iptr y2 0], []) | _ => none }),
  (zNf, { tys := [.list (.list .int), .con], nils := [], datas := [], res := fun xs _ => match xs with | [y0, .agg y1] => some (.clo 174 none [.iptr [y0] 0, .iptr y1 0], []) | _ => none }),
  (zSf, { tys := [.bool, .list .int], nils := [], datas := [], res := fun xs ob => match xs, ob 1000 with | [y0, .sl .int y1], some o1000 => some (y0, [(1000, .row 3 .int y1)]) | _, _ => none }),
  (zA, { tys := [.list .int, .list (.pr (.pr .int .int) .int)], nils := [], datas := [], res := fun xs ob => match xs, ob 1000, ob 2000, ob 1001 with | [.sl .int y0, .sl (.pr (.pr .int .int) .int) y1], some o1000, some o2000, some o1001 => some (.tup [], [(1000, o1000), (2000, .row 3 .int y0), (1001, .mp (.pr .int .int) .int y1)]) | _, _, _, _ => none }),
  (z1f, { tys := [.list (.list .int)], nils := [], datas := [], res := fun xs ob => match xs with | [.sl (.list .int) y0] => some (.own 3000, [(3000, .row 26 (.list .int) y0)]) | _ => none }),
  (z2c, { tys := [.bool, .list (.pr .int .int), .list (.pr .int .int)], nils := [], datas := [(0, 0)], res := fun xs ob => match xs, ob 1000, ob 1001, ob 1002 with | [y0, .sl (.pr .int .int) y1, .sl (.pr .int .int) y2], some o1000, some o1001, some o1002 => some (y0, [(1000, o1000), (1001, .mp .int .int y1), (1002, .mp .int .int y2)]) | _, _, _, _ => none }),
  (z5i, { tys := [.list .lit], nils := [], datas := [], res := fun xs ob => match xs with | [.sl .lit y0] => some (.own 3000, [(3000, .row 86 .lit y0)]) | _ => none, raw := true })]
 vals := [74, 89, 99, 131, 188, 201]
 arr := [190]
theorem chkEv : Ev.chk Tryz.prog = true := by kernel_rfl
theorem sigEv : ∀ x ∈ Ev.sig, ∀ args w, (callFunc x.1 args).run Tryz.prog w = .ok (.enter x.1 args) w := by
 intro x hx args w
 simp only [Ev, List.mem_cons, List.not_mem_nil, or_false] at hx
 rcases hx with rfl | rfl | rfl | rfl | rfl | rfl | rfl | rfl | rfl | rfl | rfl | rfl | rfl | rfl | rfl | rfl | rfl | rfl | rfl | rfl | rfl | rfl | rfl | rfl | rfl | rfl | rfl | rfl | rfl | rfl | rfl | rfl | rfl | rfl | rfl | rfl | rfl | rfl | rfl | rfl | rfl | rfl | rfl | rfl | rfl | rfl | rfl | rfl | rfl | rfl | rfl | rfl | rfl | rfl | rfl | rfl | rfl | rfl | rfl | rfl | rfl | rfl | rfl | rfl | rfl | rfl | rfl | rfl | rfl | rfl | rfl | rfl | rfl | rfl | rfl | rfl | rfl | rfl | rfl | rfl | rfl | rfl | rfl | rfl | rfl | rfl | rfl | rfl | rfl | rfl | rfl | rfl | rfl | rfl | rfl | rfl | rfl | rfl | rfl | rfl | rfl | rfl | rfl | rfl | rfl | rfl | rfl | rfl | rfl | rfl | rfl | rfl | rfl | rfl | rfl | rfl | rfl | rfl | rfl | rfl | rfl | rfl | rfl | rfl | rfl | rfl | rfl | rfl | rfl | rfl | rfl | rfl
 ·exact Tryz.call10 args w
 ·exact Tryz.call11 args w
 ·exact Tryz.call12 args w
 ·exact Tryz.call13 args w
 ·exact Tryz.call14 args w
 ·exact Tryz.call15 args w
 ·exact Tryz.call16 args w
 ·exact Tryz.call17 args w
 ·exact Tryz.call18 args w
 ·exact Tryz.call19 args w
 ·exact Tryz.call20 args w
 ·exact Tryz.call21 args w
 ·exact Tryz.call22 args w
 ·exact Tryz.call23 args w
 ·exact Tryz.call24 args w
 ·exact Tryz.call25 args w
 ·exact Tryz.call26 args w
 ·exact Tryz.call27 args w
 ·exact Tryz.call28 args w
 ·exact Tryz.call29 args w
 ·exact Tryz.call30 args w
 ·exact Tryz.call31 args w
 ·exact Tryz.call35 args w
 ·exact Tryz.call36 args w
 ·exact Tryz.call38 args w
 ·exact Tryz.call39 args w
 ·exact Tryz.call40 args w
 ·exact Tryz.call41 args w
 ·exact Tryz.call42 args w
 ·exact Tryz.call44 args w
 ·exact Tryz.call45 args w
 ·exact Tryz.call46 args w
 ·exact Tryz.call47 args w
 ·exact Tryz.call48 args w
 ·exact Tryz.call49 args w
 ·exact Tryz.call50 args w
 ·exact Tryz.call52 args w
 ·exact Tryz.call55 args w
 ·exact Tryz.call56 args w
 ·exact Tryz.call57 args w
 ·exact Tryz.call58 args w
 ·exact Tryz.call59 args w
 ·exact Tryz.call60 args w
 ·exact Tryz.call61 args w
 ·exact Tryz.call62 args w
 ·exact Tryz.call63 args w
 ·exact Tryz.call65 args w
 ·exact Tryz.call66 args w
 ·exact Tryz.call67 args w
 ·exact Tryz.call68 args w
 ·exact Tryz.call69 args w
 ·exact Tryz.call70 args w
 ·exact Tryz.call71 args w
 ·exact Tryz.call72 args w
 ·exact Tryz.call73 args w
 ·exact Tryz.call74 args w
 ·exact Tryz.call76 args w
 ·exact Tryz.call77 args w
 ·exact Tryz.call78 args w
 ·exact Tryz.call81 args w
 ·exact Tryz.call83 args w
 ·exact Tryz.call84 args w
 ·exact Tryz.call85 args w
 ·exact Tryz.call87 args w
 ·exact Tryz.call88 args w
 ·exact Tryz.call89 args w
 ·exact Tryz.call92 args w
 ·exact Tryz.call93 args w
 ·exact Tryz.call94 args w
 ·exact Tryz.call96 args w
 ·exact Tryz.call98 args w
 ·exact Tryz.call99 args w
 ·exact Tryz.call100 args w
 ·exact Tryz.call101 args w
 ·exact Tryz.call102 args w
 ·exact Tryz.call103 args w
 ·exact Tryz.call105 args w
 ·exact Tryz.call106 args w
 ·exact Tryz.call107 args w
 ·exact Tryz.call108 args w
 ·exact Tryz.call109 args w
 ·exact Tryz.call110 args w
 ·exact Tryz.call111 args w
 ·exact Tryz.call112 args w
 ·exact Tryz.call113 args w
 ·exact Tryz.call114 args w
 ·exact Tryz.call115 args w
 ·exact Tryz.call117 args w
 ·exact Tryz.call121 args w
 ·exact Tryz.call123 args w
 ·exact Tryz.call124 args w
 ·exact Tryz.call126 args w
 ·exact Tryz.call127 args w
 ·exact Tryz.call128 args w
 ·exact Tryz.call129 args w
 ·exact Tryz.call130 args w
 ·exact Tryz.call131 args w
 ·exact Tryz.call132 args w
 ·exact Tryz.call134 args w
 ·exact Tryz.call135 args w
 ·exact Tryz.call138 args w
 ·exact Tryz.call141 args w
 ·exact Tryz.call142 args w
 ·exact Tryz.call144 args w
 ·exact Tryz.call148 args w
 ·exact Tryz.call149 args w
 ·exact Tryz.call150 args w
 ·exact Tryz.call151 args w
 ·exact Tryz.call152 args w
 ·exact Tryz.call154 args w
 ·exact Tryz.call155 args w
 ·exact Tryz.call156 args w
 ·exact Tryz.call157 args w
 ·exact Tryz.call162 args w
 ·exact Tryz.call163 args w
 ·exact Tryz.call164 args w
 ·exact Tryz.call165 args w
 ·exact Tryz.call168 args w
 ·exact Tryz.call169 args w
 ·exact Tryz.call171 args w
 ·exact Tryz.call177 args w
 ·exact Tryz.call178 args w
 ·exact Tryz.call179 args w
 ·exact Tryz.call192 args w
 ·exact Tryz.call193 args w
 ·exact Tryz.call194 args w
 ·exact Tryz.call206 args w
 ·exact Tryz.call207 args w
 ·exact Tryz.call208 args w
 ·exact Tryz.call209 args w
 ·exact Tryz.call216 args w
 ·exact Tryz.call231 args w
theorem chkEv2 : Ev.chk2 Tryz.prog = true := by kernel_rfl
theorem hsigEv : ∀ x ∈ Ev.hsig, Ent Tryz.prog x.1 := by
 intro x hx args w
 simp only [Ev, List.mem_cons, List.not_mem_nil, or_false] at hx
 rcases hx with rfl | rfl | rfl | rfl | rfl | rfl | rfl | rfl | rfl | rfl | rfl | rfl | rfl | rfl | rfl | rfl | rfl | rfl | rfl | rfl | rfl | rfl | rfl
 ·exact Tryz.call32 args w
 ·exact Tryz.call33 args w
 ·exact Tryz.call34 args w
 ·exact Tryz.call37 args w
 ·exact Tryz.call43 args w
 ·exact Tryz.call51 args w
 ·exact Tryz.call53 args w
 ·exact Tryz.call54 args w
 ·exact Tryz.call82 args w
 ·exact Tryz.call86 args w
 ·exact Tryz.call118 args w
 ·exact Tryz.call119 args w
 ·exact Tryz.call120 args w
 ·exact Tryz.call122 args w
 ·exact Tryz.call125 args w
 ·exact Tryz.call136 args w
 ·exact Tryz.call137 args w
 ·exact Tryz.call139 args w
 ·exact Tryz.call153 args w
 ·exact Tryz.call166 args w
 ·exact Tryz.call175 args w
 ·exact Tryz.call176 args w
 ·exact Tryz.call215 args w
theorem factsEv : Facts Tryz.prog Ev := zPq (by kernel_rfl) chkEv chkEv2 sigEv hsigEv
abbrev FD (A : Ann) (fn : Func) (ds : List D) (R : D → Prop) : Prop := fnD Tryz.prog Ev A fn.results.toList (bodyOf fn) ds R
abbrev FH (A : Ann) (fn : Func) (ds : List D) (hp : List (Nat × HObj)) (roots : List D) (own : Bool) (R : D → List (Nat × HObj) → Prop) : Prop := fnH Tryz.prog Ev A fn.results.toList (bodyOf fn) ds hp roots own R
def SatI (A : Ann) (fn : Func) (f : FuncId) (ds : List D) : Prop := ∀ {r : D}, ((∀ d ∈ ds, okD d) → FD A fn ds fun d => d = r) → Sat Tryz.prog f ds r
def SatHI (A : Ann) (fn : Func) (f : FuncId) (ds : List D) (hp : List (Nat × HObj)) (roots : List D) (own : Bool) : Prop := ∀ {r : D} {h0 : List (Nat × HObj)}, ((∀ d ∈ ds, okD d) → (∀ k o, look k hp = some o → okO o) → FH A fn ds hp roots own fun d h1 => d = r ∧ h1 = h0) → SatH Tryz.prog f ds hp r h0
theorem satD {A : Ann} {fn : Func} {f : FuncId} {ds : List D} (hf : Tryz.prog.funcs[f]? = some fn) (hb : fn.body = some (bodyOf fn)) (hn : fn.ntmps = A.n) (hl : Nat.ble ds.length A.n = true) : SatI A fn f ds := fun h => sat_of factsEv hf hb hn.symm (by rw [hn]; exact Nat.le_of_ble_eq_true hl) h
theorem satHD {A : Ann} {fn : Func} {f : FuncId} {ds : List D} {hp : List (Nat × HObj)} {roots : List D} {own : Bool} (hf : Tryz.prog.funcs[f]? = some fn) (hb : fn.body = some (bodyOf fn)) (hn : fn.ntmps = A.n) (hl : Nat.ble ds.length A.n = true) : SatHI A fn f ds hp roots own := fun h => satH_of factsEv hf hb hn.symm (by rw [hn]; exact Nat.le_of_ble_eq_true hl) h
abbrev LP (A : Ann) (fn : Func) (path : List Nat) (cur n : Nat) (σ : St) (K : Ex → St → Prop) : Prop := iter (den Tryz.prog Ev A (sub path (bodyOf fn)) cur) A (liveOf A cur) n σ K
abbrev sK (A : Ann) (fn : Func) (path : List Nat) (cur : Nat) (K : Ex → St → Prop) := seqK Tryz.prog Ev A (sub path (bodyOf fn)) cur K
abbrev iK (A : Ann) (fn : Func) (path : List Nat) (cur n : Nat) (K : Ex → St → Prop) := iterK (den Tryz.prog Ev A (sub path (bodyOf fn)) cur) A (liveOf A cur) n K
abbrev eK (fn : Func) (R : D → Prop) := endK Ev fn.results.toList R
abbrev eH (fn : Func) (roots : List D) (own : Bool) (R : D → List (Nat × HObj) → Prop) := endH Ev fn.results.toList roots own R
end Go.Proofs.YtajnbkhgnppckaaGreatDoor
