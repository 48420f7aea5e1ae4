/- The types and the functions of the program that the walks need, read from its table: printed by a program. -/
import Derived.Test.YtajnbkhgnppckaaGreatDoorProg
import Derived.Test.YtajnbkhgnppckaaGreatDoorMD
namespace Go.Proofs.YtajnbkhgnppckaaGreatDoor
open Go.RowKit
set_option linter.unusedVariables false
set_option maxRecDepth 100000
abbrev zGC : FuncId := 2
abbrev zHC : FuncId := 3
abbrev zIC : FuncId := 4
abbrev zJC : FuncId := 5
abbrev zKC : FuncId := 6
abbrev zLC : FuncId := 7
abbrev zAl : FuncId := 8
abbrev zMC : FuncId := 9
abbrev zWc : FuncId := 10
abbrev zTb : FuncId := 11
abbrev ztc : FuncId := 12
abbrev zTr : FuncId := 13
abbrev zMd : FuncId := 14
abbrev zjf : FuncId := 15
abbrev zUr : FuncId := 16
abbrev zNd : FuncId := 17
abbrev zVr : FuncId := 18
abbrev zWr : FuncId := 19
abbrev zXr : FuncId := 20
abbrev zYr : FuncId := 21
abbrev zZr : FuncId := 22
abbrev z0r : FuncId := 23
abbrev zU : FuncId := 24
abbrev zUb : FuncId := 25
abbrev zVb : FuncId := 26
abbrev zWb : FuncId := 27
abbrev zXb : FuncId := 28
abbrev zYb : FuncId := 29
abbrev zOd : FuncId := 30
abbrev zkf : FuncId := 31
abbrev zlf : FuncId := 32
abbrev zmf : FuncId := 33
abbrev znf : FuncId := 34
abbrev zzb : FuncId := 35
abbrev zAb : FuncId := 36
abbrev zPd : FuncId := 37
abbrev zZb : FuncId := 38
abbrev zgj : FuncId := 39
abbrev zF : FuncId := 40
abbrev zof : FuncId := 41
abbrev z1r : FuncId := 42
abbrev z2r : FuncId := 43
abbrev zXc : FuncId := 44
abbrev zpf : FuncId := 45
abbrev zQd : FuncId := 46
abbrev zqf : FuncId := 47
abbrev zRd : FuncId := 48
abbrev zSd : FuncId := 49
abbrev zrf : FuncId := 50
abbrev zsf : FuncId := 51
abbrev ztf : FuncId := 52
abbrev zYc : FuncId := 53
abbrev zuf : FuncId := 54
abbrev zvf : FuncId := 55
abbrev zTd : FuncId := 56
abbrev zwf : FuncId := 57
abbrev zxf : FuncId := 58
abbrev zV : FuncId := 59
abbrev zmb : FuncId := 60
abbrev zf : FuncId := 61
abbrev zUd : FuncId := 62
abbrev zG : FuncId := 63
abbrev zyf : FuncId := 64
abbrev z3r : FuncId := 65
abbrev z4r : FuncId := 66
abbrev zzf : FuncId := 67
abbrev zuc : FuncId := 68
abbrev zZc : FuncId := 69
abbrev zBb : FuncId := 70
abbrev zAf : FuncId := 71
abbrev zVd : FuncId := 72
abbrev zWd : FuncId := 73
abbrev z0b : FuncId := 74
abbrev zBf : FuncId := 75
abbrev zvc : FuncId := 76
abbrev z1b : FuncId := 77
abbrev zCf : FuncId := 78
abbrev zDf : FuncId := 79
abbrev zEf : FuncId := 80
abbrev zXd : FuncId := 81
abbrev zFf : FuncId := 82
abbrev zGf : FuncId := 83
abbrev zHf : FuncId := 84
abbrev zYd : FuncId := 85
abbrev zIf : FuncId := 86
abbrev zJf : FuncId := 87
abbrev zhj : FuncId := 88
abbrev zKf : FuncId := 89
abbrev zLf : FuncId := 90
abbrev zZd : FuncId := 91
abbrev zCb : FuncId := 92
abbrev zMf : FuncId := 93
abbrev z0c : FuncId := 94
abbrev zNf : FuncId := 95
abbrev znb : FuncId := 96
abbrev zOf : FuncId := 97
abbrev z2b : FuncId := 98
abbrev z3b : FuncId := 99
abbrev zwc : FuncId := 100
abbrev zW : FuncId := 101
abbrev zob : FuncId := 102
abbrev zPf : FuncId := 103
abbrev zQf : FuncId := 104
abbrev z5r : FuncId := 105
abbrev zK : FuncId := 106
abbrev zxc : FuncId := 107
abbrev z0d : FuncId := 108
abbrev z1d : FuncId := 109
abbrev zRf : FuncId := 110
abbrev zSf : FuncId := 111
abbrev zg : FuncId := 112
abbrev zDb : FuncId := 113
abbrev z4b : FuncId := 114
abbrev z5b : FuncId := 115
abbrev zTf : FuncId := 116
abbrev zhb : FuncId := 117
abbrev z1c : FuncId := 118
abbrev z2d : FuncId := 119
abbrev z3d : FuncId := 120
abbrev zUf : FuncId := 121
abbrev zij : FuncId := 122
abbrev z4d : FuncId := 123
abbrev zVf : FuncId := 124
abbrev zWf : FuncId := 125
abbrev zyc : FuncId := 126
abbrev z6r : FuncId := 127
abbrev z7r : FuncId := 128
abbrev z8r : FuncId := 129
abbrev zXf : FuncId := 130
abbrev zYf : FuncId := 131
abbrev z2c : FuncId := 132
abbrev z6b : FuncId := 133
abbrev zZf : FuncId := 134
abbrev z0f : FuncId := 135
abbrev z3c : FuncId := 136
abbrev z1f : FuncId := 137
abbrev z2f : FuncId := 138
abbrev z3f : FuncId := 139
abbrev zEb : FuncId := 140
abbrev z7b : FuncId := 141
abbrev z4f : FuncId := 142
abbrev z4c : FuncId := 143
abbrev z5d : FuncId := 144
abbrev z5f : FuncId := 145
abbrev z6f : FuncId := 146
abbrev z5c : FuncId := 147
abbrev z7f : FuncId := 148
abbrev z9r : FuncId := 149
abbrev zas : FuncId := 150
abbrev z6d : FuncId := 151
abbrev z8b : FuncId := 152
abbrev z8f : FuncId := 153
abbrev zFb : FuncId := 154
abbrev z7d : FuncId := 155
abbrev z9f : FuncId := 156
abbrev zzc : FuncId := 157
abbrev zNC : FuncId := 158
abbrev zOC : FuncId := 159
abbrev zPC : FuncId := 160
abbrev zag : FuncId := 161
abbrev zbg : FuncId := 162
abbrev zcg : FuncId := 163
abbrev zbs : FuncId := 164
abbrev zcs : FuncId := 165
abbrev zH : FuncId := 166
abbrev zi : FuncId := 167
abbrev zdg : FuncId := 168
abbrev zeg : FuncId := 169
abbrev zAc : FuncId := 170
abbrev z8d : FuncId := 171
abbrev zfg : FuncId := 172
abbrev zgg : FuncId := 173
abbrev zBc : FuncId := 174
abbrev zhg : FuncId := 175
abbrev z6c : FuncId := 176
abbrev zig : FuncId := 177
abbrev zjg : FuncId := 178
abbrev zkg : FuncId := 179
abbrev zQC : FuncId := 180
abbrev zRC : FuncId := 181
abbrev zSC : FuncId := 182
abbrev zTC : FuncId := 183
abbrev zUC : FuncId := 184
abbrev zVC : FuncId := 185
abbrev zWC : FuncId := 186
abbrev zXC : FuncId := 187
abbrev zYC : FuncId := 188
abbrev zZC : FuncId := 189
abbrev z0C : FuncId := 190
abbrev z1C : FuncId := 191
abbrev z9d : FuncId := 192
abbrev zae : FuncId := 193
abbrev zds : FuncId := 194
abbrev zlg : FuncId := 195
abbrev z2C : FuncId := 196
abbrev z3C : FuncId := 197
abbrev z4C : FuncId := 198
abbrev z5C : FuncId := 199
abbrev z6C : FuncId := 200
abbrev z7C : FuncId := 201
abbrev z8C : FuncId := 202
abbrev z9C : FuncId := 203
abbrev zaD : FuncId := 204
abbrev zbD : FuncId := 205
abbrev z7c : FuncId := 206
abbrev zmg : FuncId := 207
abbrev zes : FuncId := 208
abbrev zfs : FuncId := 209
abbrev zcD : FuncId := 210
abbrev zdD : FuncId := 211
abbrev zeD : FuncId := 212
abbrev zfD : FuncId := 213
abbrev zgD : FuncId := 214
abbrev zjj : FuncId := 215
abbrev zng : FuncId := 216
abbrev zhD : FuncId := 217
abbrev ziD : FuncId := 218
abbrev zjD : FuncId := 219
abbrev zkD : FuncId := 220
abbrev zlD : FuncId := 221
abbrev zmD : FuncId := 222
abbrev znD : FuncId := 223
abbrev zoD : FuncId := 224
abbrev zpD : FuncId := 225
abbrev zqD : FuncId := 226
abbrev zrD : FuncId := 227
abbrev zsD : FuncId := 228
abbrev zog : FuncId := 229
abbrev zpg : FuncId := 230
abbrev zgs : FuncId := 231
abbrev ztD : FuncId := 232
abbrev zuD : FuncId := 233
abbrev zvD : FuncId := 256
def Ev : TE where
 zs := [(3, (false, [dI 0])), (9, (false, [.str (⟨#[]⟩)])), (22, (false, [.nil])), (23, (false, [.nil])), (25, (true, [.sl .var ([] : List VarD), .sl .con ([] : List ConD), dI 0, dI 0])), (26, (false, [.nil])), (27, (false, [.nil])), (29, (true, [dI 0, .sl .int ([] : List Int), .sl .step ([] : List StepD)])), (37, (false, [.nil])), (46, (false, [.nil])), (47, (false, [.nil])), (55, (false, [.nil])), (63, (false, [.undef])), (71, (true, [dI 0, dI 0, .sl .lit ([] : List LitD)])), (74, (true, [.sl .var ([] : List VarD), .sl .con ([] : List ConD), dI 0, dI 0, .nil])), (76, (false, [.nil])), (79, (true, [.str (⟨#[]⟩), dI 0, dI 0])), (84, (true, [dI 0, .sl .int ([] : List Int), .sl .int ([] : List Int), dI 0, dS ([] : List (List Int)), .sl .lit ([] : List LitD)])), (86, (true, [dI 0, dI 0, dI 0])), (89, (true, [.undef, .slN .int ([] : List Int) true])), (97, (false, [.undef])), (99, (true, [.sl .var ([] : List VarD), .sl .con ([] : List ConD), dI 0, dI 0, .sl (.list .lit) ([] : List (List LitD)), dI 0, .nil, .nil, .undef])), (112, (false, [.undef])), (115, (false, [.undef])), (131, (true, [.sl .var ([] : List VarD), .sl .con ([] : List ConD), dI 0, dI 0, .sl (.list .lit) ([] : List (List LitD)), dS ([] : List (List Int)), .nil])), (151, (false, [.undef])), (164, (true, [dI 0, dI 0, dI 0, dI 0, dI 0])), (185, (false, [.undef])), (186, (false, [.undef])), (188, (true, [dI 0, .sl .int ([] : List Int), .sl .int ([] : List Int), dI 0, dS ([] : List (List Int)), .sl .lit ([] : List LitD), dS ([] : List (List Int)), .sl .int ([] : List Int), .sl .int ([] : List Int), .undef])), (190, (true, [dI 0, dI 0])), (191, (false, [.nil])), (193, (false, [.undef])), (195, (true, [dI 0, dI 0])), (201, (true, [dS ([] : List (List Int)), .sl .int ([] : List Int), .undef, .undef, dI 0])), (223, (true, [dI 0, dI 0, .str (⟨#[]⟩)])), (238, (true, [.str (⟨#[]⟩), dI 0]))]
 sl := [(22, (79, .var)), (23, (84, .con)), (26, (3, .int)), (27, (71, .step)), (37, (26, .list .int)), (46, (86, .lit)), (47, (86, .lit)), (55, (47, .list .lit)), (76, (26, .list .int)), (146, (9, .str)), (155, (46, .list .lit)), (191, (195, .term)), (219, (223, .tok))]
 fld := [(25, [(0, 1), (1, 1), (2, 1), (3, 1)]), (29, [(0, 1), (1, 1), (2, 1)]), (71, [(0, 1), (1, 1), (2, 1)]), (74, [(0, 4), (4, 1)]), (79, [(0, 1), (1, 1), (2, 1)]), (84, [(0, 1), (1, 1), (2, 1), (3, 1), (4, 1), (5, 1)]), (86, [(0, 1), (1, 1), (2, 1)]), (89, [(0, 1), (1, 1)]), (99, [(0, 4), (4, 1), (5, 1), (6, 1), (7, 1), (8, 1)]), (131, [(0, 4), (4, 1), (5, 1), (6, 1)]), (164, [(0, 1), (1, 1), (2, 1), (3, 1), (4, 1)]), (188, [(0, 6), (6, 1), (7, 1), (8, 1), (9, 1)]), (195, [(0, 1), (1, 1)]), (201, [(0, 1), (1, 1), (2, 1), (3, 1), (4, 1)]), (223, [(0, 1), (1, 1), (2, 1)]), (238, [(0, 1), (1, 1)])]
 strs := [9]
 ints := [(2, .i64), (3, .i64), (5, .u8), (6, .u8), (30, .i64), (205, .i64), (261, .u8), (262, .u8)]
 bools := [4]
 sig := [(zWc, [.ans, .int]), (zTb, [.bool]), (ztc, [.bool]), (zTr, [.bool]), (zMd, [.list (.list .int), .bool, .int]), (zjf, [.int]), (zUr, [.list (.list .int), .bool]), (zNd, [.bool]), (zVr, [.list .lit, .int]), (zWr, [.int]), (zXr, [.list .lit]), (zYr, [.bool]), (zZr, [.bool]), (z0r, [.ans, .int]), (zU, [.bool]), (zUb, [.bool]), (zVb, [.int]), (zWb, [.bool]), (zXb, [.int]), (zYb, [.bool]), (zOd, [.bool, .int]), (zkf, [.int]), (zzb, [.mdl]), (zAb, [.int]), (zZb, [.list (.list .int)]), (zgj, [.bool]), (zF, [.bool]), (zof, [.int]), (z1r, [.list .lit]), (zXc, [.bool]), (zpf, [.int]), (zQd, [.int]), (zqf, [.bool]), (zRd, [.bool, .int]), (zSd, [.list .int, .int]), (zrf, [.bool]), (ztf, [.list .lit, .bool]), (zvf, [.list .step]), (zTd, [.list .lit]), (zwf, [.int]), (zxf, [.int]), (zV, [.bool]), (zmb, [.list (.list .int)]), (zf, [.bool]), (zUd, [.int]), (zG, [.list (.list .int)]), (z3r, [.bool]), (z4r, [.bool]), (zzf, [.bool]), (zuc, [.bool]), (zZc, [.int]), (zBb, [.bool]), (zAf, [.bool]), (zVd, [.bool]), (zWd, [.int]), (z0b, [.bool]), (zvc, [.bool]), (z1b, [.list .int]), (zCf, [.bool]), (zXd, [.bool]), (zGf, [.list .lit]), (zHf, [.str]), (zYd, [.list (.list .int)]), (zJf, [.lit]), (zhj, [.bool]), (zKf, [.bool]), (zCb, [.bool]), (zMf, [.bool]), (z0c, [.bool]), (znb, [.bool]), (z2b, [.list (.list .int)]), (z3b, [.list (.list .int)]), (zwc, [.list (.list .int)]), (zW, [.list (.list .int)]), (zob, [.bool]), (zPf, [.bool]), (z5r, [.int, .int]), (zK, [.bool]), (zxc, [.list (.list .int)]), (z0d, [.list (.list .int)]), (z1d, [.list (.list .int)]), (zRf, [.list (.list .int)]), (zSf, [.int]), (zg, [.int]), (zDb, [.bool]), (z4b, [.bool]), (z5b, [.bool]), (zhb, [.bool]), (zUf, [.int]), (z4d, [.str]), (zVf, [.list (.list .int)]), (zyc, [.bool]), (z6r, [.bool]), (z7r, [.bool]), (z8r, [.list .str]), (zXf, [.int]), (zYf, [.pr .int (.pr .int (.pr .int (.pr .int .int)))]), (z2c, [.bool]), (zZf, [.int]), (z0f, [.int]), (z2f, [.bool]), (z7b, [.bool]), (z4f, [.int]), (z5d, [.bool]), (z7f, [.int]), (z9r, [.bool]), (zas, [.bool]), (z6d, [.list .int]), (z8b, [.list (.list .int)]), (zFb, [.bool]), (z7d, [.bool]), (z9f, [.list (.list .int)]), (zzc, [.bool]), (zbg, [.list .lit, .bool]), (zcg, [.list .lit, .bool]), (zbs, [.bool]), (zcs, [.int]), (zdg, [.list .term]), (zeg, [.list .int]), (z8d, [.int]), (zig, [.int]), (zjg, [.int]), (zkg, [.int]), (z9d, [.list .lit]), (zae, [.list .lit]), (zds, [.list .tok, .int, .int]), (z7c, [.list .lit]), (zmg, [.bool]), (zes, []), (zfs, [.tok, .int]), (zng, [.list (.list .int)]), (zgs, [.int])]
 mps := [(97, (.str, .int)), (151, (.int, .int)), (186, (.pr .int .int, .int)), (193, (.int, .list .int))]
 sts := [(86, .lit)]
 hsig := [(zlf, { tys := [.mdl, .int], nils := [], datas := [], res := fun xs _ => match xs with | [.agg y0, y1] => some (.ptr 3000 0, [(3000, .cells (y0 ++ [.sl (.list .lit) [], y1, .nil, .nil, .own 3001])), (3001, .mp .str .int [])]) | _ => none }),
  (zmf, { tys := [.int, .list (.list .lit), .list .step, .list (.pr .str .int), .list .int, .int], nils := [(0, (6, (47, .list .lit))), (0, (7, (71, .step)))], datas := [], res := fun xs ob => match xs, ob 1000, ob 2000, ob 2001, ob 1001 with | [y0, .sl (.list .lit) y1, .sl .step y2, .sl (.pr .str .int) y3, y4, y5], some (.cells o1000), some o2000, some o2001, some o1001 => some (.tup [y4, y5], [(1000, .cells (o1000.set 5 y0)), (2000, .row 47 (.list .lit) y1), (2001, .row 71 .step y2), (1001, .mp .str .int y3)]) | _, _, _, _, _ => none }),
  (znf, { tys := [.list .step, .bool], nils := [(0, (6, (47, .list .lit))), (0, (7, (71, .step)))], datas := [], res := fun xs ob => match xs, ob 1000, ob 2000, ob 2001, ob 1001 with | [y0, y1], some (.cells o1000), some o2000, some o2001, some o1001 => some (.tup [y0, y1], [(1000, .cells (o1000.set 7 y0)), (2000, o2000), (1001, o1001)]) | _, _, _, _, _ => none }),
  (zPd, { tys := [.bool, .list (.list .int)], nils := [(0, (4, (26, .list .int)))], datas := [], res := fun xs ob => match xs, ob 1000, ob 2000 with | [y0, .sl (.list .int) y1], some o1000, some o2000 => some (y0, [(1000, o1000), (2000, .row 26 (.list .int) y1)]) | _, _, _ => none }),
  (z2r, { tys := [.int, .list .int, .bool, .list (.list .lit), .int, .list (.list .lit), .list .step, .list (.pr .str .int)], nils := [(1, (6, (47, .list .lit))), (1, (7, (71, .step)))], datas := [], res := fun xs ob => match xs, ob 1000, ob 1001, ob 2000, ob 2001, ob 1002 with | [y0, .sl .int y1, .bool y2, y3, y4, .sl (.list .lit) y5, .sl .step y6, .sl (.pr .str .int) y7], some (.cells o1000), some (.cells o1001), some o2000, some o2001, some o1002 => some (y0, [(1000, .cells (o1000.set 1 (.slN .int y1 y2))), (1001, .cells ((o1001.set 4 y3).set 5 y4)), (2000, .row 47 (.list .lit) y5), (2001, .row 71 .step y6), (1002, .mp .str .int y7)]) | _, _, _, _, _, _ => none }),
  (zsf, { tys := [.list .lit, .bool, .list .int], nils := [(0, (6, (47, .list .lit))), (0, (7, (71, .step)))], datas := [], res := fun xs ob => match xs, ob 1000, ob 2000, ob 2001, ob 1001 with | [.sl .lit y0, .bool y1, y2], some o1000, some o2000, some o2001, some o1001 => some (.tup [(.slN .lit y0 y1), y2], [(1000, o1000), (2000, o2000), (2001, o2001), (1001, o1001)]) | _, _, _, _, _ => none }),
  (zYc, { tys := [.list (.list .lit)], nils := [(0, (6, (47, .list .lit))), (0, (7, (71, .step)))], datas := [], res := fun xs ob => match xs, ob 1000, ob 2000, ob 2001, ob 1001 with | [y0], some o1000, some o2000, some o2001, some o1001 => some (y0, [(1000, o1000), (2000, o2000), (2001, o2001), (1001, o1001)]) | _, _, _, _, _ => none }),
  (zuf, { tys := [.list .step, .list (.pr .str .int)], nils := [(0, (6, (47, .list .lit))), (0, (7, (71, .step)))], datas := [], res := fun xs ob => match xs, ob 1000, ob 2000, ob 2001, ob 1001 with | [.sl .step y0, .sl (.pr .str .int) y1], some o1000, some o2000, some o2001, some o1001 => some (.tup [], [(1000, o1000), (2000, o2000), (2001, .row 71 .step y0), (1001, .mp .str .int y1)]) | _, _, _, _, _ => none }),
  (zFf, { tys := [.list .lit], nils := [], datas := [], res := fun xs ob => match xs with | [.sl .lit y0] => some (.own 3000, [(3000, .row 86 .lit y0)]) | _ => none }),
  (zIf, { tys := [.list (.list .int), .list .step], nils := [(0, (6, (71, .step)))], datas := [], res := fun xs ob => match xs, ob 1000, ob 2000 with | [y0, .sl .step y1], some (.cells o1000), some o2000 => some (.tup [], [(1000, .cells (o1000.set 5 y0)), (2000, .row 71 .step y1)]) | _, _, _ => none }),
  (z1c, { tys := [.list .int], nils := [], datas := [], res := fun xs ob => match xs with | [.sl .int y0] => some (.own 3000, [(3000, .row 3 .int y0)]) | _ => none }),
  (z2d, { tys := [.list .int], nils := [], datas := [], res := fun xs ob => match xs, ob 1000 with | [.sl .int y0], some o1000 => some (.tup [], [(1000, .row 3 .int y0)]) | _, _ => none }),
  (z3d, { tys := [.list .int], nils := [], datas := [], res := fun xs ob => match xs, ob 1000 with | [y0], some o1000 => some (y0, []) | _, _ => none }),
  (zij, { tys := [.list .lit], nils := [], datas := [], res := fun xs ob => match xs with | [.sl .lit y0] => some (.own 3000, [(3000, .row 86 .lit y0)]) | _ => none, raw := true }),
  (zWf, { tys := [.bool, .list (.list .int), .list .step], nils := [(0, (6, (71, .step)))], datas := [], res := fun xs ob => match xs, ob 1000, ob 2000 with | [y0, y1, .sl .step y2], some (.cells o1000), some o2000 => some (y0, [(1000, .cells (o1000.set 5 y1)), (2000, .row 71 .step y2)]) | _, _, _ => none }),
  (z3c, { tys := [.con, .list (.list .int), .list .int, .list .int, .list (.pr (.pr .int .int) .int)], nils := [], datas := [], res := fun xs _ => match xs with | [.agg y0, y1, y2, y3, .sl (.pr (.pr .int .int) .int) y4] => some (.clo 167 none [.iptr [.iptr (y0 ++ [y1, y2, y3, .mp (.pr .int .int) .int y4]) 0] 0], []) | _ => none }),
  (z1f, { tys := [.list .term, .list (.pr .int (.list .int)), .con], nils := [], datas := [], res := fun xs _ => match xs with | [y0, .sl (.pr .int (.list .int)) y1, .agg y2] => some (.clo 170 none [.iptr [y0] 0, .iptr [.mp .int (.list .int) y1] 0, .iptr y2 0], []) | _ => none }),
  (z3f, { tys := [.list (.list .int), .con], nils := [], datas := [], res := fun xs _ => match xs with | [y0, .agg y1] => some (.clo 174 none [.iptr [y0] 0, .iptr y1 0], []) | _ => none }),
  (z8f, { tys := [.bool, .list .int], nils := [], datas := [], res := fun xs ob => match xs, ob 1000 with | [y0, .sl .int y1], some o1000 => some (y0, [(1000, .row 3 .int y1)]) | _, _ => none }),
  (zH, { tys := [.list .int, .list (.pr (.pr .int .int) .int)], nils := [], datas := [], res := fun xs ob => match xs, ob 1000, ob 2000, ob 1001 with | [.sl .int y0, .sl (.pr (.pr .int .int) .int) y1], some o1000, some o2000, some o1001 => some (.tup [], [(1000, o1000), (2000, .row 3 .int y0), (1001, .mp (.pr .int .int) .int y1)]) | _, _, _, _ => none }),
  (zhg, { tys := [.list (.list .int)], nils := [], datas := [], res := fun xs ob => match xs with | [.sl (.list .int) y0] => some (.own 3000, [(3000, .row 26 (.list .int) y0)]) | _ => none }),
  (z6c, { tys := [.bool, .list (.pr .int .int), .list (.pr .int .int)], nils := [], datas := [(0, 0)], res := fun xs ob => match xs, ob 1000, ob 1001, ob 1002 with | [y0, .sl (.pr .int .int) y1, .sl (.pr .int .int) y2], some o1000, some o1001, some o1002 => some (y0, [(1000, o1000), (1001, .mp .int .int y1), (1002, .mp .int .int y2)]) | _, _, _, _ => none }),
  (zjj, { tys := [.list .lit], nils := [], datas := [], res := fun xs ob => match xs with | [.sl .lit y0] => some (.own 3000, [(3000, .row 86 .lit y0)]) | _ => none, raw := true })]
 vals := [74, 89, 99, 131, 188, 201]
 arr := [190]
theorem chkEv : Ev.chk Tryz.prog = true := by kernel_rfl
theorem sigEv : ∀ x ∈ Ev.sig, ∀ args w, (callFunc x.1 args).run Tryz.prog w = .ok (.enter x.1 args) w := by
 intro x hx args w
 simp only [Ev, List.mem_cons, List.not_mem_nil, or_false] at hx
 rcases hx with rfl | rfl | rfl | rfl | rfl | rfl | rfl | rfl | rfl | rfl | rfl | rfl | rfl | rfl | rfl | rfl | rfl | rfl | rfl | rfl | rfl | rfl | rfl | rfl | rfl | rfl | rfl | rfl | rfl | rfl | rfl | rfl | rfl | rfl | rfl | rfl | rfl | rfl | rfl | rfl | rfl | rfl | rfl | rfl | rfl | rfl | rfl | rfl | rfl | rfl | rfl | rfl | rfl | rfl | rfl | rfl | rfl | rfl | rfl | rfl | rfl | rfl | rfl | rfl | rfl | rfl | rfl | rfl | rfl | rfl | rfl | rfl | rfl | rfl | rfl | rfl | rfl | rfl | rfl | rfl | rfl | rfl | rfl | rfl | rfl | rfl | rfl | rfl | rfl | rfl | rfl | rfl | rfl | rfl | rfl | rfl | rfl | rfl | rfl | rfl | rfl | rfl | rfl | rfl | rfl | rfl | rfl | rfl | rfl | rfl | rfl | rfl | rfl | rfl | rfl | rfl | rfl | rfl | rfl | rfl | rfl | rfl | rfl | rfl | rfl | rfl | rfl | rfl | rfl | rfl | rfl | rfl
 ·exact Tryz.call10 args w
 ·exact Tryz.call11 args w
 ·exact Tryz.call12 args w
 ·exact Tryz.call13 args w
 ·exact Tryz.call14 args w
 ·exact Tryz.call15 args w
 ·exact Tryz.call16 args w
 ·exact Tryz.call17 args w
 ·exact Tryz.call18 args w
 ·exact Tryz.call19 args w
 ·exact Tryz.call20 args w
 ·exact Tryz.call21 args w
 ·exact Tryz.call22 args w
 ·exact Tryz.call23 args w
 ·exact Tryz.call24 args w
 ·exact Tryz.call25 args w
 ·exact Tryz.call26 args w
 ·exact Tryz.call27 args w
 ·exact Tryz.call28 args w
 ·exact Tryz.call29 args w
 ·exact Tryz.call30 args w
 ·exact Tryz.call31 args w
 ·exact Tryz.call35 args w
 ·exact Tryz.call36 args w
 ·exact Tryz.call38 args w
 ·exact Tryz.call39 args w
 ·exact Tryz.call40 args w
 ·exact Tryz.call41 args w
 ·exact Tryz.call42 args w
 ·exact Tryz.call44 args w
 ·exact Tryz.call45 args w
 ·exact Tryz.call46 args w
 ·exact Tryz.call47 args w
 ·exact Tryz.call48 args w
 ·exact Tryz.call49 args w
 ·exact Tryz.call50 args w
 ·exact Tryz.call52 args w
 ·exact Tryz.call55 args w
 ·exact Tryz.call56 args w
 ·exact Tryz.call57 args w
 ·exact Tryz.call58 args w
 ·exact Tryz.call59 args w
 ·exact Tryz.call60 args w
 ·exact Tryz.call61 args w
 ·exact Tryz.call62 args w
 ·exact Tryz.call63 args w
 ·exact Tryz.call65 args w
 ·exact Tryz.call66 args w
 ·exact Tryz.call67 args w
 ·exact Tryz.call68 args w
 ·exact Tryz.call69 args w
 ·exact Tryz.call70 args w
 ·exact Tryz.call71 args w
 ·exact Tryz.call72 args w
 ·exact Tryz.call73 args w
 ·exact Tryz.call74 args w
 ·exact Tryz.call76 args w
 ·exact Tryz.call77 args w
 ·exact Tryz.call78 args w
 ·exact Tryz.call81 args w
 ·exact Tryz.call83 args w
 ·exact Tryz.call84 args w
 ·exact Tryz.call85 args w
 ·exact Tryz.call87 args w
 ·exact Tryz.call88 args w
 ·exact Tryz.call89 args w
 ·exact Tryz.call92 args w
 ·exact Tryz.call93 args w
 ·exact Tryz.call94 args w
 ·exact Tryz.call96 args w
 ·exact Tryz.call98 args w
 ·exact Tryz.call99 args w
 ·exact Tryz.call100 args w
 ·exact Tryz.call101 args w
 ·exact Tryz.call102 args w
 ·exact Tryz.call103 args w
 ·exact Tryz.call105 args w
 ·exact Tryz.call106 args w
 ·exact Tryz.call107 args w
 ·exact Tryz.call108 args w
 ·exact Tryz.call109 args w
 ·exact Tryz.call110 args w
 ·exact Tryz.call111 args w
 ·exact Tryz.call112 args w
 ·exact Tryz.call113 args w
 ·exact Tryz.call114 args w
 ·exact Tryz.call115 args w
 ·exact Tryz.call117 args w
 ·exact Tryz.call121 args w
 ·exact Tryz.call123 args w
 ·exact Tryz.call124 args w
 ·exact Tryz.call126 args w
 ·exact Tryz.call127 args w
 ·exact Tryz.call128 args w
 ·exact Tryz.call129 args w
 ·exact Tryz.call130 args w
 ·exact Tryz.call131 args w
 ·exact Tryz.call132 args w
 ·exact Tryz.call134 args w
 ·exact Tryz.call135 args w
 ·exact Tryz.call138 args w
 ·exact Tryz.call141 args w
 ·exact Tryz.call142 args w
 ·exact Tryz.call144 args w
 ·exact Tryz.call148 args w
 ·exact Tryz.call149 args w
 ·exact Tryz.call150 args w
 ·exact Tryz.call151 args w
 ·exact Tryz.call152 args w
 ·exact Tryz.call154 args w
 ·exact Tryz.call155 args w
 ·exact Tryz.call156 args w
 ·exact Tryz.call157 args w
 ·exact Tryz.call162 args w
 ·exact Tryz.call163 args w
 ·exact Tryz.call164 args w
 ·exact Tryz.call165 args w
 ·exact Tryz.call168 args w
 ·exact Tryz.call169 args w
 ·exact Tryz.call171 args w
 ·exact Tryz.call177 args w
 ·exact Tryz.call178 args w
 ·exact Tryz.call179 args w
 ·exact Tryz.call192 args w
 ·exact Tryz.call193 args w
 ·exact Tryz.call194 args w
 ·exact Tryz.call206 args w
 ·exact Tryz.call207 args w
 ·exact Tryz.call208 args w
 ·exact Tryz.call209 args w
 ·exact Tryz.call216 args w
 ·exact Tryz.call231 args w
theorem chkEv2 : Ev.chk2 Tryz.prog = true := by kernel_rfl
theorem hsigEv : ∀ x ∈ Ev.hsig, Ent Tryz.prog x.1 := by
 intro x hx args w
 simp only [Ev, List.mem_cons, List.not_mem_nil, or_false] at hx
 rcases hx with rfl | rfl | rfl | rfl | rfl | rfl | rfl | rfl | rfl | rfl | rfl | rfl | rfl | rfl | rfl | rfl | rfl | rfl | rfl | rfl | rfl | rfl | rfl
 ·exact Tryz.call32 args w
 ·exact Tryz.call33 args w
 ·exact Tryz.call34 args w
 ·exact Tryz.call37 args w
 ·exact Tryz.call43 args w
 ·exact Tryz.call51 args w
 ·exact Tryz.call53 args w
 ·exact Tryz.call54 args w
 ·exact Tryz.call82 args w
 ·exact Tryz.call86 args w
 ·exact Tryz.call118 args w
 ·exact Tryz.call119 args w
 ·exact Tryz.call120 args w
 ·exact Tryz.call122 args w
 ·exact Tryz.call125 args w
 ·exact Tryz.call136 args w
 ·exact Tryz.call137 args w
 ·exact Tryz.call139 args w
 ·exact Tryz.call153 args w
 ·exact Tryz.call166 args w
 ·exact Tryz.call175 args w
 ·exact Tryz.call176 args w
 ·exact Tryz.call215 args w
theorem factsEv : Facts Tryz.prog Ev := zbr (by kernel_rfl) chkEv chkEv2 sigEv hsigEv
abbrev FD (A : Ann) (fn : Func) (ds : List D) (R : D → Prop) : Prop := fnD Tryz.prog Ev A fn.results.toList (bodyOf fn) ds R
abbrev FH (A : Ann) (fn : Func) (ds : List D) (hp : List (Nat × HObj)) (roots : List D) (own : Bool) (R : D → List (Nat × HObj) → Prop) : Prop := fnH Tryz.prog Ev A fn.results.toList (bodyOf fn) ds hp roots own R
def SatI (A : Ann) (fn : Func) (f : FuncId) (ds : List D) : Prop := ∀ {r : D}, ((∀ d ∈ ds, okD d) → FD A fn ds fun d => d = r) → Sat Tryz.prog f ds r
def SatHI (A : Ann) (fn : Func) (f : FuncId) (ds : List D) (hp : List (Nat × HObj)) (roots : List D) (own : Bool) : Prop := ∀ {r : D} {h0 : List (Nat × HObj)}, ((∀ d ∈ ds, okD d) → (∀ k o, look k hp = some o → okO o) → FH A fn ds hp roots own fun d h1 => d = r ∧ h1 = h0) → SatH Tryz.prog f ds hp r h0
theorem satD {A : Ann} {fn : Func} {f : FuncId} {ds : List D} (hf : Tryz.prog.funcs[f]? = some fn) (hb : fn.body = some (bodyOf fn)) (hn : fn.ntmps = A.n) (hl : Nat.ble ds.length A.n = true) : SatI A fn f ds := fun h => sat_of factsEv hf hb hn.symm (by rw [hn]; exact Nat.le_of_ble_eq_true hl) h
theorem satHD {A : Ann} {fn : Func} {f : FuncId} {ds : List D} {hp : List (Nat × HObj)} {roots : List D} {own : Bool} (hf : Tryz.prog.funcs[f]? = some fn) (hb : fn.body = some (bodyOf fn)) (hn : fn.ntmps = A.n) (hl : Nat.ble ds.length A.n = true) : SatHI A fn f ds hp roots own := fun h => satH_of factsEv hf hb hn.symm (by rw [hn]; exact Nat.le_of_ble_eq_true hl) h
abbrev LP (A : Ann) (fn : Func) (path : List Nat) (cur n : Nat) (σ : St) (K : Ex → St → Prop) : Prop := iter (den Tryz.prog Ev A (sub path (bodyOf fn)) cur) A (liveOf A cur) n σ K
abbrev sK (A : Ann) (fn : Func) (path : List Nat) (cur : Nat) (K : Ex → St → Prop) := seqK Tryz.prog Ev A (sub path (bodyOf fn)) cur K
abbrev iK (A : Ann) (fn : Func) (path : List Nat) (cur n : Nat) (K : Ex → St → Prop) := iterK (den Tryz.prog Ev A (sub path (bodyOf fn)) cur) A (liveOf A cur) n K
abbrev eK (fn : Func) (R : D → Prop) := endK Ev fn.results.toList R
abbrev eH (fn : Func) (roots : List D) (own : Bool) (R : D → List (Nat × HObj) → Prop) := endH Ev fn.results.toList roots own R
end Go.Proofs.YtajnbkhgnppckaaGreatDoor
