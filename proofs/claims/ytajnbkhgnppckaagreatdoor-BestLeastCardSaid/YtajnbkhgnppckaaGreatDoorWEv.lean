/- The types and the functions of the program that the walks need, read from its table: printed by a program. -/
import Derived.Test.YtajnbkhgnppckaaGreatDoorProg
import Derived.Test.YtajnbkhgnppckaaGreatDoorMD
namespace Go.Proofs.YtajnbkhgnppckaaGreatDoor
open Go.RowKit
set_option linter.unusedVariables false
set_option maxRecDepth 100000
abbrev z9x : FuncId := 2
abbrev zay : FuncId := 3
abbrev zby : FuncId := 4
abbrev zcy : FuncId := 5
abbrev zdy : FuncId := 6
abbrev zey : FuncId := 7
abbrev zfy : FuncId := 8
abbrev zpj : FuncId := 9
abbrev zMo : FuncId := 10
abbrev zNo : FuncId := 11
abbrev zQc : FuncId := 12
abbrev zOo : FuncId := 13
abbrev zPo : FuncId := 14
abbrev zQo : FuncId := 15
abbrev zRo : FuncId := 16
abbrev zSo : FuncId := 17
abbrev zRc : FuncId := 18
abbrev zTo : FuncId := 19
abbrev zUo : FuncId := 20
abbrev z7d : FuncId := 21
abbrev z8d : FuncId := 22
abbrev zSc : FuncId := 23
abbrev zVo : FuncId := 24
abbrev zWo : FuncId := 25
abbrev zXo : FuncId := 26
abbrev zYo : FuncId := 27
abbrev zZo : FuncId := 28
abbrev z9d : FuncId := 29
abbrev zec : FuncId := 30
abbrev zae : FuncId := 31
abbrev zbe : FuncId := 32
abbrev zce : FuncId := 33
abbrev zfc : FuncId := 34
abbrev zcb : FuncId := 35
abbrev zdb : FuncId := 36
abbrev z0o : FuncId := 37
abbrev zRb : FuncId := 38
abbrev z1o : FuncId := 39
abbrev z2o : FuncId := 40
abbrev z3o : FuncId := 41
abbrev zgc : FuncId := 42
abbrev zde : FuncId := 43
abbrev z4o : FuncId := 44
abbrev z5o : FuncId := 45
abbrev z6o : FuncId := 46
abbrev z7o : FuncId := 47
abbrev zTc : FuncId := 48
abbrev zUc : FuncId := 49
abbrev zee : FuncId := 50
abbrev zfe : FuncId := 51
abbrev zge : FuncId := 52
abbrev zhc : FuncId := 53
abbrev zhe : FuncId := 54
abbrev zie : FuncId := 55
abbrev zVc : FuncId := 56
abbrev zje : FuncId := 57
abbrev zke : FuncId := 58
abbrev zF : FuncId := 59
abbrev zeb : FuncId := 60
abbrev zf : FuncId := 61
abbrev zle : FuncId := 62
abbrev zC : FuncId := 63
abbrev zgy : FuncId := 64
abbrev z8o : FuncId := 65
abbrev z9o : FuncId := 66
abbrev zap : FuncId := 67
abbrev zbp : FuncId := 68
abbrev zcp : FuncId := 69
abbrev zdp : FuncId := 70
abbrev zep : FuncId := 71
abbrev zfp : FuncId := 72
abbrev zWc : FuncId := 73
abbrev ztb : FuncId := 74
abbrev zme : FuncId := 75
abbrev zSb : FuncId := 76
abbrev zub : FuncId := 77
abbrev zne : FuncId := 78
abbrev zoe : FuncId := 79
abbrev zpe : FuncId := 80
abbrev zXc : FuncId := 81
abbrev zqe : FuncId := 82
abbrev zre : FuncId := 83
abbrev zse : FuncId := 84
abbrev zYc : FuncId := 85
abbrev zte : FuncId := 86
abbrev zue : FuncId := 87
abbrev zgh : FuncId := 88
abbrev zve : FuncId := 89
abbrev zwe : FuncId := 90
abbrev zZc : FuncId := 91
abbrev zfb : FuncId := 92
abbrev zxe : FuncId := 93
abbrev zic : FuncId := 94
abbrev zye : FuncId := 95
abbrev zW : FuncId := 96
abbrev zze : FuncId := 97
abbrev zvb : FuncId := 98
abbrev zwb : FuncId := 99
abbrev zTb : FuncId := 100
abbrev zG : FuncId := 101
abbrev zX : FuncId := 102
abbrev zAe : FuncId := 103
abbrev zBe : FuncId := 104
abbrev zgp : FuncId := 105
abbrev zhp : FuncId := 106
abbrev zip : FuncId := 107
abbrev zjp : FuncId := 108
abbrev zkp : FuncId := 109
abbrev zlp : FuncId := 110
abbrev zCe : FuncId := 111
abbrev ze : FuncId := 112
abbrev zgb : FuncId := 113
abbrev zxb : FuncId := 114
abbrev zyb : FuncId := 115
abbrev zDe : FuncId := 116
abbrev zS : FuncId := 117
abbrev zjc : FuncId := 118
abbrev z0c : FuncId := 119
abbrev z1c : FuncId := 120
abbrev zEe : FuncId := 121
abbrev zhh : FuncId := 122
abbrev z2c : FuncId := 123
abbrev zFe : FuncId := 124
abbrev zGe : FuncId := 125
abbrev zUb : FuncId := 126
abbrev zmp : FuncId := 127
abbrev znp : FuncId := 128
abbrev zop : FuncId := 129
abbrev zHe : FuncId := 130
abbrev zIe : FuncId := 131
abbrev zkc : FuncId := 132
abbrev zzb : FuncId := 133
abbrev zJe : FuncId := 134
abbrev zKe : FuncId := 135
abbrev zlc : FuncId := 136
abbrev zLe : FuncId := 137
abbrev zMe : FuncId := 138
abbrev zNe : FuncId := 139
abbrev zhb : FuncId := 140
abbrev zAb : FuncId := 141
abbrev zOe : FuncId := 142
abbrev zmc : FuncId := 143
abbrev z3c : FuncId := 144
abbrev zPe : FuncId := 145
abbrev zQe : FuncId := 146
abbrev znc : FuncId := 147
abbrev zRe : FuncId := 148
abbrev zpp : FuncId := 149
abbrev zqp : FuncId := 150
abbrev zrp : FuncId := 151
abbrev zsp : FuncId := 152
abbrev ztp : FuncId := 153
abbrev zup : FuncId := 154
abbrev zvp : FuncId := 155
abbrev zwp : FuncId := 156
abbrev zxp : FuncId := 157
abbrev zhy : FuncId := 158
abbrev ziy : FuncId := 159
abbrev zjy : FuncId := 160
abbrev zSe : FuncId := 161
abbrev zTe : FuncId := 162
abbrev zUe : FuncId := 163
abbrev zyp : FuncId := 164
abbrev zzp : FuncId := 165
abbrev zq : FuncId := 166
abbrev zh : FuncId := 167
abbrev zVe : FuncId := 168
abbrev zWe : FuncId := 169
abbrev zVb : FuncId := 170
abbrev z4c : FuncId := 171
abbrev zXe : FuncId := 172
abbrev zYe : FuncId := 173
abbrev zWb : FuncId := 174
abbrev zZe : FuncId := 175
abbrev zoc : FuncId := 176
abbrev z0e : FuncId := 177
abbrev z1e : FuncId := 178
abbrev zAp : FuncId := 179
abbrev zky : FuncId := 180
abbrev zly : FuncId := 181
abbrev zmy : FuncId := 182
abbrev zny : FuncId := 183
abbrev zoy : FuncId := 184
abbrev zpy : FuncId := 185
abbrev zqy : FuncId := 186
abbrev zry : FuncId := 187
abbrev zsy : FuncId := 188
abbrev zty : FuncId := 189
abbrev zuy : FuncId := 190
abbrev zvy : FuncId := 191
abbrev z5c : FuncId := 192
abbrev z6c : FuncId := 193
abbrev zBp : FuncId := 194
abbrev z2e : FuncId := 195
abbrev zwy : FuncId := 196
abbrev zxy : FuncId := 197
abbrev zyy : FuncId := 198
abbrev zzy : FuncId := 199
abbrev zAy : FuncId := 200
abbrev zBy : FuncId := 201
abbrev zCy : FuncId := 202
abbrev zDy : FuncId := 203
abbrev zEy : FuncId := 204
abbrev zFy : FuncId := 205
abbrev zpc : FuncId := 206
abbrev z3e : FuncId := 207
abbrev zCp : FuncId := 208
abbrev zDp : FuncId := 209
abbrev zGy : FuncId := 210
abbrev zHy : FuncId := 211
abbrev zIy : FuncId := 212
abbrev zJy : FuncId := 213
abbrev zKy : FuncId := 214
abbrev zih : FuncId := 215
abbrev z4e : FuncId := 216
abbrev zLy : FuncId := 217
abbrev zMy : FuncId := 218
abbrev zNy : FuncId := 219
abbrev zOy : FuncId := 220
abbrev zPy : FuncId := 221
abbrev zQy : FuncId := 222
abbrev zRy : FuncId := 223
abbrev zSy : FuncId := 224
abbrev zTy : FuncId := 225
abbrev zUy : FuncId := 226
abbrev zVy : FuncId := 227
abbrev zWy : FuncId := 228
abbrev z5e : FuncId := 229
abbrev z6e : FuncId := 230
abbrev zEp : FuncId := 231
abbrev zXy : FuncId := 232
abbrev zYy : FuncId := 233
abbrev zZy : FuncId := 256
def Ev : TE where
 zs := [(3, (false, [dI 0])), (9, (false, [.str (⟨#[]⟩)])), (22, (false, [.nil])), (23, (false, [.nil])), (25, (true, [.sl .var ([] : List VarD), .sl .con ([] : List ConD), dI 0, dI 0])), (26, (false, [.nil])), (27, (false, [.nil])), (29, (true, [dI 0, .sl .int ([] : List Int), .sl .step ([] : List StepD)])), (37, (false, [.nil])), (46, (false, [.nil])), (47, (false, [.nil])), (55, (false, [.nil])), (63, (false, [.undef])), (71, (true, [dI 0, dI 0, .sl .lit ([] : List LitD)])), (74, (true, [.sl .var ([] : List VarD), .sl .con ([] : List ConD), dI 0, dI 0, .nil])), (76, (false, [.nil])), (79, (true, [.str (⟨#[]⟩), dI 0, dI 0])), (84, (true, [dI 0, .sl .int ([] : List Int), .sl .int ([] : List Int), dI 0, dS ([] : List (List Int)), .sl .lit ([] : List LitD)])), (86, (true, [dI 0, dI 0, dI 0])), (89, (true, [.undef, .slN .int ([] : List Int) true])), (97, (false, [.undef])), (99, (true, [.sl .var ([] : List VarD), .sl .con ([] : List ConD), dI 0, dI 0, .sl (.list .lit) ([] : List (List LitD)), dI 0, .nil, .nil, .undef])), (112, (false, [.undef])), (115, (false, [.undef])), (131, (true, [.sl .var ([] : List VarD), .sl .con ([] : List ConD), dI 0, dI 0, .sl (.list .lit) ([] : List (List LitD)), dS ([] : List (List Int)), .nil])), (151, (false, [.undef])), (164, (true, [dI 0, dI 0, dI 0, dI 0, dI 0])), (185, (false, [.undef])), (186, (false, [.undef])), (188, (true, [dI 0, .sl .int ([] : List Int), .sl .int ([] : List Int), dI 0, dS ([] : List (List Int)), .sl .lit ([] : List LitD), dS ([] : List (List Int)), .sl .int ([] : List Int), .sl .int ([] : List Int), .undef])), (190, (true, [dI 0, dI 0])), (191, (false, [.nil])), (193, (false, [.undef])), (195, (true, [dI 0, dI 0])), (201, (true, [dS ([] : List (List Int)), .sl .int ([] : List Int), .undef, .undef, dI 0])), (223, (true, [dI 0, dI 0, .str (⟨#[]⟩)])), (238, (true, [.str (⟨#[]⟩), dI 0]))]
 sl := [(22, (79, .var)), (23, (84, .con)), (26, (3, .int)), (27, (71, .step)), (37, (26, .list .int)), (46, (86, .lit)), (47, (86, .lit)), (55, (47, .list .lit)), (76, (26, .list .int)), (146, (9, .str)), (155, (46, .list .lit)), (191, (195, .term)), (219, (223, .tok))]
 fld := [(25, [(0, 1), (1, 1), (2, 1), (3, 1)]), (29, [(0, 1), (1, 1), (2, 1)]), (71, [(0, 1), (1, 1), (2, 1)]), (74, [(0, 4), (4, 1)]), (79, [(0, 1), (1, 1), (2, 1)]), (84, [(0, 1), (1, 1), (2, 1), (3, 1), (4, 1), (5, 1)]), (86, [(0, 1), (1, 1), (2, 1)]), (89, [(0, 1), (1, 1)]), (99, [(0, 4), (4, 1), (5, 1), (6, 1), (7, 1), (8, 1)]), (131, [(0, 4), (4, 1), (5, 1), (6, 1)]), (164, [(0, 1), (1, 1), (2, 1), (3, 1), (4, 1)]), (188, [(0, 6), (6, 1), (7, 1), (8, 1), (9, 1)]), (195, [(0, 1), (1, 1)]), (201, [(0, 1), (1, 1), (2, 1), (3, 1), (4, 1)]), (223, [(0, 1), (1, 1), (2, 1)]), (238, [(0, 1), (1, 1)])]
 strs := [9]
 ints := [(2, .i64), (3, .i64), (5, .u8), (6, .u8), (30, .i64), (205, .i64), (261, .u8), (262, .u8)]
 bools := [4]
 sig := [(zMo, [.ans, .int]), (zNo, [.bool]), (zQc, [.bool]), (zOo, [.bool]), (zPo, [.list (.list .int), .bool, .int]), (zQo, [.int]), (zRo, [.list (.list .int), .bool]), (zSo, [.bool]), (zRc, [.list .lit, .int]), (zTo, [.int]), (zUo, [.list .lit]), (z7d, [.bool]), (z8d, [.bool]), (zSc, [.ans, .int]), (zVo, [.bool]), (zWo, [.bool]), (zXo, [.int]), (zYo, [.bool]), (zZo, [.int]), (z9d, [.bool]), (zec, [.bool, .int]), (zae, [.int]), (zcb, [.mdl]), (zdb, [.int]), (zRb, [.list (.list .int)]), (z1o, [.bool]), (z2o, [.bool]), (z3o, [.int]), (zgc, [.list .lit]), (z4o, [.bool]), (z5o, [.int]), (z6o, [.int]), (z7o, [.bool]), (zTc, [.bool, .int]), (zUc, [.list .int, .int]), (zee, [.bool]), (zge, [.list .lit, .bool]), (zie, [.list .step]), (zVc, [.list .lit]), (zje, [.int]), (zke, [.int]), (zF, [.bool]), (zeb, [.list (.list .int)]), (zf, [.bool]), (zle, [.int]), (zC, [.list (.list .int)]), (z8o, [.bool]), (z9o, [.bool]), (zap, [.bool]), (zbp, [.bool]), (zcp, [.int]), (zdp, [.bool]), (zep, [.bool]), (zfp, [.bool]), (zWc, [.int]), (ztb, [.bool]), (zSb, [.bool]), (zub, [.list .int]), (zne, [.bool]), (zXc, [.bool]), (zre, [.list .lit]), (zse, [.str]), (zYc, [.list (.list .int)]), (zue, [.lit]), (zgh, [.bool]), (zve, [.bool]), (zfb, [.bool]), (zxe, [.bool]), (zic, [.bool]), (zW, [.bool]), (zvb, [.list (.list .int)]), (zwb, [.list (.list .int)]), (zTb, [.list (.list .int)]), (zG, [.list (.list .int)]), (zX, [.bool]), (zAe, [.bool]), (zgp, [.int, .int]), (zhp, [.bool]), (zip, [.list (.list .int)]), (zjp, [.list (.list .int)]), (zkp, [.list (.list .int)]), (zlp, [.list (.list .int)]), (zCe, [.int]), (ze, [.int]), (zgb, [.bool]), (zxb, [.bool]), (zyb, [.bool]), (zS, [.bool]), (zEe, [.int]), (z2c, [.str]), (zFe, [.list (.list .int)]), (zUb, [.bool]), (zmp, [.bool]), (znp, [.bool]), (zop, [.list .str]), (zHe, [.int]), (zIe, [.pr .int (.pr .int (.pr .int (.pr .int .int)))]), (zkc, [.bool]), (zJe, [.int]), (zKe, [.int]), (zMe, [.bool]), (zAb, [.bool]), (zOe, [.int]), (z3c, [.bool]), (zRe, [.int]), (zpp, [.bool]), (zqp, [.bool]), (zrp, [.list .int]), (zsp, [.list (.list .int)]), (zup, [.bool]), (zvp, [.bool]), (zwp, [.list (.list .int)]), (zxp, [.bool]), (zTe, [.list .lit, .bool]), (zUe, [.list .lit, .bool]), (zyp, [.bool]), (zzp, [.int]), (zVe, [.list .term]), (zWe, [.list .int]), (z4c, [.int]), (z0e, [.int]), (z1e, [.int]), (zAp, [.int]), (z5c, [.list .lit]), (z6c, [.list .lit]), (zBp, [.list .tok, .int, .int]), (zpc, [.list .lit]), (z3e, [.bool]), (zCp, []), (zDp, [.tok, .int]), (z4e, [.list (.list .int)]), (zEp, [.int])]
 mps := [(97, (.str, .int)), (151, (.int, .int)), (186, (.pr .int .int, .int)), (193, (.int, .list .int))]
 sts := [(86, .lit)]
 hsig := [(zbe, { tys := [.mdl, .int], nils := [], datas := [], res := fun xs _ => match xs with | [.agg y0, y1] => some (.ptr 3000 0, [(3000, .cells (y0 ++ [.sl (.list .lit) [], y1, .nil, .nil, .own 3001])), (3001, .mp .str .int [])]) | _ => none }),
  (zce, { tys := [.int, .list (.list .lit), .list .step, .list (.pr .str .int), .list .int, .int], nils := [(0, (6, (47, .list .lit))), (0, (7, (71, .step)))], datas := [], res := fun xs ob => match xs, ob 1000, ob 2000, ob 2001, ob 1001 with | [y0, .sl (.list .lit) y1, .sl .step y2, .sl (.pr .str .int) y3, y4, y5], some (.cells o1000), some o2000, some o2001, some o1001 => some (.tup [y4, y5], [(1000, .cells (o1000.set 5 y0)), (2000, .row 47 (.list .lit) y1), (2001, .row 71 .step y2), (1001, .mp .str .int y3)]) | _, _, _, _, _ => none }),
  (zfc, { tys := [.list .step, .bool], nils := [(0, (6, (47, .list .lit))), (0, (7, (71, .step)))], datas := [], res := fun xs ob => match xs, ob 1000, ob 2000, ob 2001, ob 1001 with | [y0, y1], some (.cells o1000), some o2000, some o2001, some o1001 => some (.tup [y0, y1], [(1000, .cells (o1000.set 7 y0)), (2000, o2000), (1001, o1001)]) | _, _, _, _, _ => none }),
  (z0o, { tys := [.bool, .list (.list .int)], nils := [(0, (4, (26, .list .int)))], datas := [], res := fun xs ob => match xs, ob 1000, ob 2000 with | [y0, .sl (.list .int) y1], some o1000, some o2000 => some (y0, [(1000, o1000), (2000, .row 26 (.list .int) y1)]) | _, _, _ => none }),
  (zde, { tys := [.int, .list .int, .bool, .list (.list .lit), .int, .list (.list .lit), .list .step, .list (.pr .str .int)], nils := [(1, (6, (47, .list .lit))), (1, (7, (71, .step)))], datas := [], res := fun xs ob => match xs, ob 1000, ob 1001, ob 2000, ob 2001, ob 1002 with | [y0, .sl .int y1, .bool y2, y3, y4, .sl (.list .lit) y5, .sl .step y6, .sl (.pr .str .int) y7], some (.cells o1000), some (.cells o1001), some o2000, some o2001, some o1002 => some (y0, [(1000, .cells (o1000.set 1 (.slN .int y1 y2))), (1001, .cells ((o1001.set 4 y3).set 5 y4)), (2000, .row 47 (.list .lit) y5), (2001, .row 71 .step y6), (1002, .mp .str .int y7)]) | _, _, _, _, _, _ => none }),
  (zfe, { tys := [.list .lit, .bool, .list .int], nils := [(0, (6, (47, .list .lit))), (0, (7, (71, .step)))], datas := [], res := fun xs ob => match xs, ob 1000, ob 2000, ob 2001, ob 1001 with | [.sl .lit y0, .bool y1, y2], some o1000, some o2000, some o2001, some o1001 => some (.tup [(.slN .lit y0 y1), y2], [(1000, o1000), (2000, o2000), (2001, o2001), (1001, o1001)]) | _, _, _, _, _ => none }),
  (zhc, { tys := [.list (.list .lit)], nils := [(0, (6, (47, .list .lit))), (0, (7, (71, .step)))], datas := [], res := fun xs ob => match xs, ob 1000, ob 2000, ob 2001, ob 1001 with | [y0], some o1000, some o2000, some o2001, some o1001 => some (y0, [(1000, o1000), (2000, o2000), (2001, o2001), (1001, o1001)]) | _, _, _, _, _ => none }),
  (zhe, { tys := [.list .step, .list (.pr .str .int)], nils := [(0, (6, (47, .list .lit))), (0, (7, (71, .step)))], datas := [], res := fun xs ob => match xs, ob 1000, ob 2000, ob 2001, ob 1001 with | [.sl .step y0, .sl (.pr .str .int) y1], some o1000, some o2000, some o2001, some o1001 => some (.tup [], [(1000, o1000), (2000, o2000), (2001, .row 71 .step y0), (1001, .mp .str .int y1)]) | _, _, _, _, _ => none }),
  (zqe, { tys := [.list .lit], nils := [], datas := [], res := fun xs ob => match xs with | [.sl .lit y0] => some (.own 3000, [(3000, .row 86 .lit y0)]) | _ => none }),
  (zte, { tys := [.list (.list .int), .list .step], nils := [(0, (6, (71, .step)))], datas := [], res := fun xs ob => match xs, ob 1000, ob 2000 with | [y0, .sl .step y1], some (.cells o1000), some o2000 => some (.tup [], [(1000, .cells (o1000.set 5 y0)), (2000, .row 71 .step y1)]) | _, _, _ => none }),
  (zjc, { tys := [.list .int], nils := [], datas := [], res := fun xs ob => match xs with | [.sl .int y0] => some (.own 3000, [(3000, .row 3 .int y0)]) | _ => none }),
  (z0c, { tys := [.list .int], nils := [], datas := [], res := fun xs ob => match xs, ob 1000 with | [.sl .int y0], some o1000 => some (.tup [], [(1000, .row 3 .int y0)]) | _, _ => none }),
  (z1c, { tys := [.list .int], nils := [], datas := [], res := fun xs ob => match xs, ob 1000 with | [y0], some o1000 => some (y0, []) | _, _ => none }),
  (zhh, { tys := [.list .lit], nils := [], datas := [], res := fun xs ob => match xs with | [.sl .lit y0] => some (.own 3000, [(3000, .row 86 .lit y0)]) | _ => none, raw := true }),
  (zGe, { tys := [.bool, .list (.list .int), .list .step], nils := [(0, (6, (71, .step)))], datas := [], res := fun xs ob => match xs, ob 1000, ob 2000 with | [y0, y1, .sl .step y2], some (.cells o1000), some o2000 => some (y0, [(1000, .cells (o1000.set 5 y1)), (2000, .row 71 .step y2)]) | _, _, _ => none }),
  (zlc, { tys := [.con, .list (.list .int), .list .int, .list .int, .list (.pr (.pr .int .int) .int)], nils := [], datas := [], res := fun xs _ => match xs with | [.agg y0, y1, y2, y3, .sl (.pr (.pr .int .int) .int) y4] => some (.clo 167 none [.iptr [.iptr (y0 ++ [y1, y2, y3, .mp (.pr .int .int) .int y4]) 0] 0], []) | _ => none }),
  (zLe, { tys := [.list .term, .list (.pr .int (.list .int)), .con], nils := [], datas := [], res := fun xs _ => match xs with | [y0, .sl (.pr .int (.list .int)) y1, .agg y2] => some (.clo 170 none [.iptr [y0] 0, .iptr [.mp .int (.list .int) y1] 0, .iptr y2 0], []) | _ => none }),
  (zNe, { tys := [.list (.list .int), .con], nils := [], datas := [], res := fun xs _ => match xs with | [y0, .agg y1] => some (.clo 174 none [.iptr [y0] 0, .iptr y1 0], []) | _ => none }),
  (ztp, { tys := [.bool, .list .int], nils := [], datas := [], res := fun xs ob => match xs, ob 1000 with | [y0, .sl .int y1], some o1000 => some (y0, [(1000, .row 3 .int y1)]) | _, _ => none }),
  (zq, { tys := [.list .int, .list (.pr (.pr .int .int) .int)], nils := [], datas := [], res := fun xs ob => match xs, ob 1000, ob 2000, ob 1001 with | [.sl .int y0, .sl (.pr (.pr .int .int) .int) y1], some o1000, some o2000, some o1001 => some (.tup [], [(1000, o1000), (2000, .row 3 .int y0), (1001, .mp (.pr .int .int) .int y1)]) | _, _, _, _ => none }),
  (zZe, { tys := [.list (.list .int)], nils := [], datas := [], res := fun xs ob => match xs with | [.sl (.list .int) y0] => some (.own 3000, [(3000, .row 26 (.list .int) y0)]) | _ => none }),
  (zoc, { tys := [.bool, .list (.pr .int .int), .list (.pr .int .int)], nils := [], datas := [(0, 0)], res := fun xs ob => match xs, ob 1000, ob 1001, ob 1002 with | [y0, .sl (.pr .int .int) y1, .sl (.pr .int .int) y2], some o1000, some o1001, some o1002 => some (y0, [(1000, o1000), (1001, .mp .int .int y1), (1002, .mp .int .int y2)]) | _, _, _, _ => none }),
  (zih, { tys := [.list .lit], nils := [], datas := [], res := fun xs ob => match xs with | [.sl .lit y0] => some (.own 3000, [(3000, .row 86 .lit y0)]) | _ => none, raw := true })]
 vals := [74, 89, 99, 131, 188, 201]
 arr := [190]
theorem chkEv : Ev.chk Tryz.prog = true := by kernel_rfl
theorem sigEv : ∀ x ∈ Ev.sig, ∀ args w, (callFunc x.1 args).run Tryz.prog w = .ok (.enter x.1 args) w := by
 intro x hx args w
 simp only [Ev, List.mem_cons, List.not_mem_nil, or_false] at hx
 rcases hx with rfl | rfl | rfl | rfl | rfl | rfl | rfl | rfl | rfl | rfl | rfl | rfl | rfl | rfl | rfl | rfl | rfl | rfl | rfl | rfl | rfl | rfl | rfl | rfl | rfl | rfl | rfl | rfl | rfl | rfl | rfl | rfl | rfl | rfl | rfl | rfl | rfl | rfl | rfl | rfl | rfl | rfl | rfl | rfl | rfl | rfl | rfl | rfl | rfl | rfl | rfl | rfl | rfl | rfl | rfl | rfl | rfl | rfl | rfl | rfl | rfl | rfl | rfl | rfl | rfl | rfl | rfl | rfl | rfl | rfl | rfl | rfl | rfl | rfl | rfl | rfl | rfl | rfl | rfl | rfl | rfl | rfl | rfl | rfl | rfl | rfl | rfl | rfl | rfl | rfl | rfl | rfl | rfl | rfl | rfl | rfl | rfl | rfl | rfl | rfl | rfl | rfl | rfl | rfl | rfl | rfl | rfl | rfl | rfl | rfl | rfl | rfl | rfl | rfl | rfl | rfl | rfl | rfl | rfl | rfl | rfl | rfl | rfl | rfl | rfl | rfl | rfl | rfl | rfl | rfl | rfl | rfl
 ·exact Tryz.call10 args w
 ·exact Tryz.call11 args w
 ·exact Tryz.call12 args w
 ·exact Tryz.call13 args w
 ·exact Tryz.call14 args w
 ·exact Tryz.call15 args w
 ·exact Tryz.call16 args w
 ·exact Tryz.call17 args w
 ·exact Tryz.call18 args w
 ·exact Tryz.call19 args w
 ·exact Tryz.call20 args w
 ·exact Tryz.call21 args w
 ·exact Tryz.call22 args w
 ·exact Tryz.call23 args w
 ·exact Tryz.call24 args w
 ·exact Tryz.call25 args w
 ·exact Tryz.call26 args w
 ·exact Tryz.call27 args w
 ·exact Tryz.call28 args w
 ·exact Tryz.call29 args w
 ·exact Tryz.call30 args w
 ·exact Tryz.call31 args w
 ·exact Tryz.call35 args w
 ·exact Tryz.call36 args w
 ·exact Tryz.call38 args w
 ·exact Tryz.call39 args w
 ·exact Tryz.call40 args w
 ·exact Tryz.call41 args w
 ·exact Tryz.call42 args w
 ·exact Tryz.call44 args w
 ·exact Tryz.call45 args w
 ·exact Tryz.call46 args w
 ·exact Tryz.call47 args w
 ·exact Tryz.call48 args w
 ·exact Tryz.call49 args w
 ·exact Tryz.call50 args w
 ·exact Tryz.call52 args w
 ·exact Tryz.call55 args w
 ·exact Tryz.call56 args w
 ·exact Tryz.call57 args w
 ·exact Tryz.call58 args w
 ·exact Tryz.call59 args w
 ·exact Tryz.call60 args w
 ·exact Tryz.call61 args w
 ·exact Tryz.call62 args w
 ·exact Tryz.call63 args w
 ·exact Tryz.call65 args w
 ·exact Tryz.call66 args w
 ·exact Tryz.call67 args w
 ·exact Tryz.call68 args w
 ·exact Tryz.call69 args w
 ·exact Tryz.call70 args w
 ·exact Tryz.call71 args w
 ·exact Tryz.call72 args w
 ·exact Tryz.call73 args w
 ·exact Tryz.call74 args w
 ·exact Tryz.call76 args w
 ·exact Tryz.call77 args w
 ·exact Tryz.call78 args w
 ·exact Tryz.call81 args w
 ·exact Tryz.call83 args w
 ·exact Tryz.call84 args w
 ·exact Tryz.call85 args w
 ·exact Tryz.call87 args w
 ·exact Tryz.call88 args w
 ·exact Tryz.call89 args w
 ·exact Tryz.call92 args w
 ·exact Tryz.call93 args w
 ·exact Tryz.call94 args w
 ·exact Tryz.call96 args w
 ·exact Tryz.call98 args w
 ·exact Tryz.call99 args w
 ·exact Tryz.call100 args w
 ·exact Tryz.call101 args w
 ·exact Tryz.call102 args w
 ·exact Tryz.call103 args w
 ·exact Tryz.call105 args w
 ·exact Tryz.call106 args w
 ·exact Tryz.call107 args w
 ·exact Tryz.call108 args w
 ·exact Tryz.call109 args w
 ·exact Tryz.call110 args w
 ·exact Tryz.call111 args w
 ·exact Tryz.call112 args w
 ·exact Tryz.call113 args w
 ·exact Tryz.call114 args w
 ·exact Tryz.call115 args w
 ·exact Tryz.call117 args w
 ·exact Tryz.call121 args w
 ·exact Tryz.call123 args w
 ·exact Tryz.call124 args w
 ·exact Tryz.call126 args w
 ·exact Tryz.call127 args w
 ·exact Tryz.call128 args w
 ·exact Tryz.call129 args w
 ·exact Tryz.call130 args w
 ·exact Tryz.call131 args w
 ·exact Tryz.call132 args w
 ·exact Tryz.call134 args w
 ·exact Tryz.call135 args w
 ·exact Tryz.call138 args w
 ·exact Tryz.call141 args w
 ·exact Tryz.call142 args w
 ·exact Tryz.call144 args w
 ·exact Tryz.call148 args w
 ·exact Tryz.call149 args w
 ·exact Tryz.call150 args w
 ·exact Tryz.call151 args w
 ·exact Tryz.call152 args w
 ·exact Tryz.call154 args w
 ·exact Tryz.call155 args w
 ·exact Tryz.call156 args w
 ·exact Tryz.call157 args w
 ·exact Tryz.call162 args w
 ·exact Tryz.call163 args w
 ·exact Tryz.call164 args w
 ·exact Tryz.call165 args w
 ·exact Tryz.call168 args w
 ·exact Tryz.call169 args w
 ·exact Tryz.call171 args w
 ·exact Tryz.call177 args w
 ·exact Tryz.call178 args w
 ·exact Tryz.call179 args w
 ·exact Tryz.call192 args w
 ·exact Tryz.call193 args w
 ·exact Tryz.call194 args w
 ·exact Tryz.call206 args w
 ·exact Tryz.call207 args w
 ·exact Tryz.call208 args w
 ·exact Tryz.call209 args w
 ·exact Tryz.call216 args w
 ·exact Tryz.call231 args w
theorem chkEv2 : Ev.chk2 Tryz.prog = true := by kernel_rfl
theorem hsigEv : ∀ x ∈ Ev.hsig, Ent Tryz.prog x.1 := by
 intro x hx args w
 simp only [Ev, List.mem_cons, List.not_mem_nil, or_false] at hx
 rcases hx with rfl | rfl | rfl | rfl | rfl | rfl | rfl | rfl | rfl | rfl | rfl | rfl | rfl | rfl | rfl | rfl | rfl | rfl | rfl | rfl | rfl | rfl | rfl
 ·exact Tryz.call32 args w
 ·exact Tryz.call33 args w
 ·exact Tryz.call34 args w
 ·exact Tryz.call37 args w
 ·exact Tryz.call43 args w
 ·exact Tryz.call51 args w
 ·exact Tryz.call53 args w
 ·exact Tryz.call54 args w
 ·exact Tryz.call82 args w
 ·exact Tryz.call86 args w
 ·exact Tryz.call118 args w
 ·exact Tryz.call119 args w
 ·exact Tryz.call120 args w
 ·exact Tryz.call122 args w
 ·exact Tryz.call125 args w
 ·exact Tryz.call136 args w
 ·exact Tryz.call137 args w
 ·exact Tryz.call139 args w
 ·exact Tryz.call153 args w
 ·exact Tryz.call166 args w
 ·exact Tryz.call175 args w
 ·exact Tryz.call176 args w
 ·exact Tryz.call215 args w
theorem factsEv : Facts Tryz.prog Ev := z9n (by kernel_rfl) chkEv chkEv2 sigEv hsigEv
abbrev FD (A : Ann) (fn : Func) (ds : List D) (R : D → Prop) : Prop := fnD Tryz.prog Ev A fn.results.toList (bodyOf fn) ds R
abbrev FH (A : Ann) (fn : Func) (ds : List D) (hp : List (Nat × HObj)) (roots : List D) (own : Bool) (R : D → List (Nat × HObj) → Prop) : Prop := fnH Tryz.prog Ev A fn.results.toList (bodyOf fn) ds hp roots own R
def SatI (A : Ann) (fn : Func) (f : FuncId) (ds : List D) : Prop := ∀ {r : D}, ((∀ d ∈ ds, okD d) → FD A fn ds fun d => d = r) → Sat Tryz.prog f ds r
def SatHI (A : Ann) (fn : Func) (f : FuncId) (ds : List D) (hp : List (Nat × HObj)) (roots : List D) (own : Bool) : Prop := ∀ {r : D} {h0 : List (Nat × HObj)}, ((∀ d ∈ ds, okD d) → (∀ k o, look k hp = some o → okO o) → FH A fn ds hp roots own fun d h1 => d = r ∧ h1 = h0) → SatH Tryz.prog f ds hp r h0
theorem satD {A : Ann} {fn : Func} {f : FuncId} {ds : List D} (hf : Tryz.prog.funcs[f]? = some fn) (hb : fn.body = some (bodyOf fn)) (hn : fn.ntmps = A.n) (hl : Nat.ble ds.length A.n = true) : SatI A fn f ds := fun h => sat_of factsEv hf hb hn.symm (by rw [hn]; exact Nat.le_of_ble_eq_true hl) h
theorem satHD {A : Ann} {fn : Func} {f : FuncId} {ds : List D} {hp : List (Nat × HObj)} {roots : List D} {own : Bool} (hf : Tryz.prog.funcs[f]? = some fn) (hb : fn.body = some (bodyOf fn)) (hn : fn.ntmps = A.n) (hl : Nat.ble ds.length A.n = true) : SatHI A fn f ds hp roots own := fun h => satH_of factsEv hf hb hn.symm (by rw [hn]; exact Nat.le_of_ble_eq_true hl) h
abbrev LP (A : Ann) (fn : Func) (path : List Nat) (cur n : Nat) (σ : St) (K : Ex → St → Prop) : Prop := iter (den Tryz.prog Ev A (sub path (bodyOf fn)) cur) A (liveOf A cur) n σ K
abbrev sK (A : Ann) (fn : Func) (path : List Nat) (cur : Nat) (K : Ex → St → Prop) := seqK Tryz.prog Ev A (sub path (bodyOf fn)) cur K
abbrev iK (A : Ann) (fn : Func) (path : List Nat) (cur n : Nat) (K : Ex → St → Prop) := iterK (den Tryz.prog Ev A (sub path (bodyOf fn)) cur) A (liveOf A cur) n K
abbrev eK (fn : Func) (R : D → Prop) := endK Ev fn.results.toList R
abbrev eH (fn : Func) (roots : List D) (own : Bool) (R : D → List (Nat × HObj) → Prop) := endH Ev fn.results.toList roots own R
end Go.Proofs.YtajnbkhgnppckaaGreatDoor
