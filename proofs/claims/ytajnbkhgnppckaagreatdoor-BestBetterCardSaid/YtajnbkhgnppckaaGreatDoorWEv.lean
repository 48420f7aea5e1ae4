/- The types and the functions of the program that the walks need, read from its table: printed by a program. -/
import Derived.Test.YtajnbkhgnppckaaGreatDoorProg
import Derived.Test.YtajnbkhgnppckaaGreatDoorMD
namespace Go.Proofs.YtajnbkhgnppckaaGreatDoor
open Go.RowKit
set_option linter.unusedVariables false
set_option maxRecDepth 100000
abbrev zay : FuncId := 2
abbrev zby : FuncId := 3
abbrev zcy : FuncId := 4
abbrev zdy : FuncId := 5
abbrev zEj : FuncId := 6
abbrev zey : FuncId := 7
abbrev zfy : FuncId := 8
abbrev zgy : FuncId := 9
abbrev zap : FuncId := 10
abbrev zbp : FuncId := 11
abbrev z4d : FuncId := 12
abbrev zcp : FuncId := 13
abbrev zdp : FuncId := 14
abbrev z5d : FuncId := 15
abbrev zep : FuncId := 16
abbrev zfp : FuncId := 17
abbrev zic : FuncId := 18
abbrev z6d : FuncId := 19
abbrev z7d : FuncId := 20
abbrev zSc : FuncId := 21
abbrev zjc : FuncId := 22
abbrev z8d : FuncId := 23
abbrev zgp : FuncId := 24
abbrev zhp : FuncId := 25
abbrev zip : FuncId := 26
abbrev zjp : FuncId := 27
abbrev zkp : FuncId := 28
abbrev zlp : FuncId := 29
abbrev zmp : FuncId := 30
abbrev z9d : FuncId := 31
abbrev zae : FuncId := 32
abbrev zbe : FuncId := 33
abbrev zkc : FuncId := 34
abbrev zTc : FuncId := 35
abbrev zUc : FuncId := 36
abbrev znp : FuncId := 37
abbrev zVb : FuncId := 38
abbrev zmh : FuncId := 39
abbrev zA : FuncId := 40
abbrev zce : FuncId := 41
abbrev zlc : FuncId := 42
abbrev zde : FuncId := 43
abbrev zop : FuncId := 44
abbrev zpp : FuncId := 45
abbrev zqp : FuncId := 46
abbrev zrp : FuncId := 47
abbrev zsp : FuncId := 48
abbrev ztp : FuncId := 49
abbrev zup : FuncId := 50
abbrev zee : FuncId := 51
abbrev zfe : FuncId := 52
abbrev zmc : FuncId := 53
abbrev zge : FuncId := 54
abbrev zhe : FuncId := 55
abbrev zVc : FuncId := 56
abbrev zie : FuncId := 57
abbrev zje : FuncId := 58
abbrev zS : FuncId := 59
abbrev zbb : FuncId := 60
abbrev zf : FuncId := 61
abbrev zke : FuncId := 62
abbrev zC : FuncId := 63
abbrev zhy : FuncId := 64
abbrev zvp : FuncId := 65
abbrev zwp : FuncId := 66
abbrev zle : FuncId := 67
abbrev zWb : FuncId := 68
abbrev zme : FuncId := 69
abbrev zxp : FuncId := 70
abbrev zyp : FuncId := 71
abbrev zzp : FuncId := 72
abbrev zAp : FuncId := 73
abbrev zXb : FuncId := 74
abbrev ziy : FuncId := 75
abbrev zWc : FuncId := 76
abbrev zYb : FuncId := 77
abbrev zBp : FuncId := 78
abbrev zjy : FuncId := 79
abbrev zne : FuncId := 80
abbrev zXc : FuncId := 81
abbrev zoe : FuncId := 82
abbrev zpe : FuncId := 83
abbrev zqe : FuncId := 84
abbrev zYc : FuncId := 85
abbrev zre : FuncId := 86
abbrev zse : FuncId := 87
abbrev znh : FuncId := 88
abbrev zte : FuncId := 89
abbrev zue : FuncId := 90
abbrev zZc : FuncId := 91
abbrev zcb : FuncId := 92
abbrev zve : FuncId := 93
abbrev znc : FuncId := 94
abbrev zwe : FuncId := 95
abbrev zY : FuncId := 96
abbrev zxe : FuncId := 97
abbrev zvb : FuncId := 98
abbrev zwb : FuncId := 99
abbrev zZb : FuncId := 100
abbrev zG : FuncId := 101
abbrev zZ : FuncId := 102
abbrev zye : FuncId := 103
abbrev zze : FuncId := 104
abbrev zCp : FuncId := 105
abbrev zDp : FuncId := 106
abbrev zEp : FuncId := 107
abbrev zFp : FuncId := 108
abbrev zGp : FuncId := 109
abbrev zHp : FuncId := 110
abbrev zAe : FuncId := 111
abbrev ze : FuncId := 112
abbrev zdb : FuncId := 113
abbrev zxb : FuncId := 114
abbrev zyb : FuncId := 115
abbrev zBe : FuncId := 116
abbrev zT : FuncId := 117
abbrev zoc : FuncId := 118
abbrev z0c : FuncId := 119
abbrev z1c : FuncId := 120
abbrev zIp : FuncId := 121
abbrev zoh : FuncId := 122
abbrev z2c : FuncId := 123
abbrev zCe : FuncId := 124
abbrev zDe : FuncId := 125
abbrev z0b : FuncId := 126
abbrev zJp : FuncId := 127
abbrev zKp : FuncId := 128
abbrev zLp : FuncId := 129
abbrev zEe : FuncId := 130
abbrev zFe : FuncId := 131
abbrev zpc : FuncId := 132
abbrev zzb : FuncId := 133
abbrev zGe : FuncId := 134
abbrev zHe : FuncId := 135
abbrev zqc : FuncId := 136
abbrev zIe : FuncId := 137
abbrev zJe : FuncId := 138
abbrev zKe : FuncId := 139
abbrev zeb : FuncId := 140
abbrev zAb : FuncId := 141
abbrev zLe : FuncId := 142
abbrev zrc : FuncId := 143
abbrev z3c : FuncId := 144
abbrev zMe : FuncId := 145
abbrev zNe : FuncId := 146
abbrev zsc : FuncId := 147
abbrev zOe : FuncId := 148
abbrev zMp : FuncId := 149
abbrev zNp : FuncId := 150
abbrev zOp : FuncId := 151
abbrev zPp : FuncId := 152
abbrev zQp : FuncId := 153
abbrev zRp : FuncId := 154
abbrev zSp : FuncId := 155
abbrev zTp : FuncId := 156
abbrev zUp : FuncId := 157
abbrev zky : FuncId := 158
abbrev zly : FuncId := 159
abbrev zmy : FuncId := 160
abbrev zPe : FuncId := 161
abbrev zQe : FuncId := 162
abbrev zRe : FuncId := 163
abbrev zVp : FuncId := 164
abbrev zWp : FuncId := 165
abbrev zq : FuncId := 166
abbrev zh : FuncId := 167
abbrev zSe : FuncId := 168
abbrev zTe : FuncId := 169
abbrev z1b : FuncId := 170
abbrev z4c : FuncId := 171
abbrev zUe : FuncId := 172
abbrev zVe : FuncId := 173
abbrev z2b : FuncId := 174
abbrev zWe : FuncId := 175
abbrev ztc : FuncId := 176
abbrev zXe : FuncId := 177
abbrev zYe : FuncId := 178
abbrev zXp : FuncId := 179
abbrev zny : FuncId := 180
abbrev zoy : FuncId := 181
abbrev zpy : FuncId := 182
abbrev zqy : FuncId := 183
abbrev zry : FuncId := 184
abbrev zsy : FuncId := 185
abbrev zty : FuncId := 186
abbrev zuy : FuncId := 187
abbrev zvy : FuncId := 188
abbrev zwy : FuncId := 189
abbrev zxy : FuncId := 190
abbrev zyy : FuncId := 191
abbrev z5c : FuncId := 192
abbrev z6c : FuncId := 193
abbrev zYp : FuncId := 194
abbrev zZe : FuncId := 195
abbrev zzy : FuncId := 196
abbrev zAy : FuncId := 197
abbrev zBy : FuncId := 198
abbrev zCy : FuncId := 199
abbrev zDy : FuncId := 200
abbrev zEy : FuncId := 201
abbrev zFy : FuncId := 202
abbrev zGy : FuncId := 203
abbrev zHy : FuncId := 204
abbrev zIy : FuncId := 205
abbrev zuc : FuncId := 206
abbrev z0e : FuncId := 207
abbrev zZp : FuncId := 208
abbrev z0p : FuncId := 209
abbrev zJy : FuncId := 210
abbrev zKy : FuncId := 211
abbrev zLy : FuncId := 212
abbrev zMy : FuncId := 213
abbrev zNy : FuncId := 214
abbrev zph : FuncId := 215
abbrev z1e : FuncId := 216
abbrev zOy : FuncId := 217
abbrev zPy : FuncId := 218
abbrev zQy : FuncId := 219
abbrev zRy : FuncId := 220
abbrev zSy : FuncId := 221
abbrev zTy : FuncId := 222
abbrev zUy : FuncId := 223
abbrev zVy : FuncId := 224
abbrev zWy : FuncId := 225
abbrev zXy : FuncId := 226
abbrev zYy : FuncId := 227
abbrev zZy : FuncId := 228
abbrev z2e : FuncId := 229
abbrev z3e : FuncId := 230
abbrev z1p : FuncId := 231
abbrev z0y : FuncId := 232
abbrev z1y : FuncId := 233
abbrev z2y : FuncId := 256
def Ev : TE where
 zs := [(3, (false, [dI 0])), (9, (false, [.str (⟨#[]⟩)])), (22, (false, [.nil])), (23, (false, [.nil])), (25, (true, [.sl .var ([] : List VarD), .sl .con ([] : List ConD), dI 0, dI 0])), (26, (false, [.nil])), (27, (false, [.nil])), (29, (true, [dI 0, .sl .int ([] : List Int), .sl .step ([] : List StepD)])), (37, (false, [.nil])), (46, (false, [.nil])), (47, (false, [.nil])), (55, (false, [.nil])), (63, (false, [.undef])), (71, (true, [dI 0, dI 0, .sl .lit ([] : List LitD)])), (74, (true, [.sl .var ([] : List VarD), .sl .con ([] : List ConD), dI 0, dI 0, .nil])), (76, (false, [.nil])), (79, (true, [.str (⟨#[]⟩), dI 0, dI 0])), (84, (true, [dI 0, .sl .int ([] : List Int), .sl .int ([] : List Int), dI 0, dS ([] : List (List Int)), .sl .lit ([] : List LitD)])), (86, (true, [dI 0, dI 0, dI 0])), (89, (true, [.undef, .slN .int ([] : List Int) true])), (97, (false, [.undef])), (99, (true, [.sl .var ([] : List VarD), .sl .con ([] : List ConD), dI 0, dI 0, .sl (.list .lit) ([] : List (List LitD)), dI 0, .nil, .nil, .undef])), (112, (false, [.undef])), (115, (false, [.undef])), (131, (true, [.sl .var ([] : List VarD), .sl .con ([] : List ConD), dI 0, dI 0, .sl (.list .lit) ([] : List (List LitD)), dS ([] : List (List Int)), .nil])), (151, (false, [.undef])), (164, (true, [dI 0, dI 0, dI 0, dI 0, dI 0])), (185, (false, [.undef])), (186, (false, [.undef])), (188, (true, [dI 0, .sl .int ([] : List Int), .sl .int ([] : List Int), dI 0, dS ([] : List (List Int)), .sl .lit ([] : List LitD), dS ([] : List (List Int)), .sl .int ([] : List Int), .sl .int ([] : List Int), .undef])), (190, (true, [dI 0, dI 0])), (191, (false, [.nil])), (193, (false, [.undef])), (195, (true, [dI 0, dI 0])), (201, (true, [dS ([] : List (List Int)), .sl .int ([] : List Int), .undef, .undef, dI 0])), (223, (true, [dI 0, dI 0, .str (⟨#[]⟩)])), (238, (true, [.str (⟨#[]⟩), dI 0]))]
 sl := [(22, (79, .var)), (23, (84, .con)), (26, (3, .int)), (27, (71, .step)), (37, (26, .list .int)), (46, (86, .lit)), (47, (86, .lit)), (55, (47, .list .lit)), (76, (26, .list .int)), (146, (9, .str)), (155, (46, .list .lit)), (191, (195, .term)), (219, (223, .tok))]
 fld := [(25, [(0, 1), (1, 1), (2, 1), (3, 1)]), (29, [(0, 1), (1, 1), (2, 1)]), (71, [(0, 1), (1, 1), (2, 1)]), (74, [(0, 4), (4, 1)]), (79, [(0, 1), (1, 1), (2, 1)]), (84, [(0, 1), (1, 1), (2, 1), (3, 1), (4, 1), (5, 1)]), (86, [(0, 1), (1, 1), (2, 1)]), (89, [(0, 1), (1, 1)]), (99, [(0, 4), (4, 1), (5, 1), (6, 1), (7, 1), (8, 1)]), (131, [(0, 4), (4, 1), (5, 1), (6, 1)]), (164, [(0, 1), (1, 1), (2, 1), (3, 1), (4, 1)]), (188, [(0, 6), (6, 1), (7, 1), (8, 1), (9, 1)]), (195, [(0, 1), (1, 1)]), (201, [(0, 1), (1, 1), (2, 1), (3, 1), (4, 1)]), (223, [(0, 1), (1, 1), (2, 1)]), (238, [(0, 1), (1, 1)])]
 strs := [9]
 ints := [(2, .i64), (3, .i64), (5, .u8), (6, .u8), (30, .i64), (205, .i64), (261, .u8), (262, .u8)]
 bools := [4]
 sig := [(zap, [.ans, .int]), (zbp, [.bool]), (z4d, [.bool]), (zcp, [.bool]), (zdp, [.list (.list .int), .bool, .int]), (z5d, [.int]), (zep, [.list (.list .int), .bool]), (zfp, [.bool]), (zic, [.list .lit, .int]), (z6d, [.int]), (z7d, [.list .lit]), (zSc, [.bool]), (zjc, [.bool]), (z8d, [.ans, .int]), (zgp, [.bool]), (zhp, [.bool]), (zip, [.int]), (zjp, [.bool]), (zkp, [.int]), (zlp, [.bool]), (zmp, [.bool, .int]), (z9d, [.int]), (zTc, [.mdl]), (zUc, [.int]), (zVb, [.list (.list .int)]), (zmh, [.bool]), (zA, [.bool]), (zce, [.int]), (zlc, [.list .lit]), (zop, [.bool]), (zpp, [.int]), (zqp, [.int]), (zrp, [.bool]), (zsp, [.bool, .int]), (ztp, [.list .int, .int]), (zup, [.bool]), (zfe, [.list .lit, .bool]), (zhe, [.list .step]), (zVc, [.list .lit]), (zie, [.int]), (zje, [.int]), (zS, [.bool]), (zbb, [.list (.list .int)]), (zf, [.bool]), (zke, [.int]), (zC, [.list (.list .int)]), (zvp, [.bool]), (zwp, [.bool]), (zle, [.bool]), (zWb, [.bool]), (zme, [.int]), (zxp, [.bool]), (zyp, [.bool]), (zzp, [.bool]), (zAp, [.int]), (zXb, [.bool]), (zWc, [.bool]), (zYb, [.list .int]), (zBp, [.bool]), (zXc, [.bool]), (zpe, [.list .lit]), (zqe, [.str]), (zYc, [.list (.list .int)]), (zse, [.lit]), (znh, [.bool]), (zte, [.bool]), (zcb, [.bool]), (zve, [.bool]), (znc, [.bool]), (zY, [.bool]), (zvb, [.list (.list .int)]), (zwb, [.list (.list .int)]), (zZb, [.list (.list .int)]), (zG, [.list (.list .int)]), (zZ, [.bool]), (zye, [.bool]), (zCp, [.int, .int]), (zDp, [.bool]), (zEp, [.list (.list .int)]), (zFp, [.list (.list .int)]), (zGp, [.list (.list .int)]), (zHp, [.list (.list .int)]), (zAe, [.int]), (ze, [.int]), (zdb, [.bool]), (zxb, [.bool]), (zyb, [.bool]), (zT, [.bool]), (zIp, [.int]), (z2c, [.str]), (zCe, [.list (.list .int)]), (z0b, [.bool]), (zJp, [.bool]), (zKp, [.bool]), (zLp, [.list .str]), (zEe, [.int]), (zFe, [.pr .int (.pr .int (.pr .int (.pr .int .int)))]), (zpc, [.bool]), (zGe, [.int]), (zHe, [.int]), (zJe, [.bool]), (zAb, [.bool]), (zLe, [.int]), (z3c, [.bool]), (zOe, [.int]), (zMp, [.bool]), (zNp, [.bool]), (zOp, [.list .int]), (zPp, [.list (.list .int)]), (zRp, [.bool]), (zSp, [.bool]), (zTp, [.list (.list .int)]), (zUp, [.bool]), (zQe, [.list .lit, .bool]), (zRe, [.list .lit, .bool]), (zVp, [.bool]), (zWp, [.int]), (zSe, [.list .term]), (zTe, [.list .int]), (z4c, [.int]), (zXe, [.int]), (zYe, [.int]), (zXp, [.int]), (z5c, [.list .lit]), (z6c, [.list .lit]), (zYp, [.list .tok, .int, .int]), (zuc, [.list .lit]), (z0e, [.bool]), (zZp, []), (z0p, [.tok, .int]), (z1e, [.list (.list .int)]), (z1p, [.int])]
 mps := [(97, (.str, .int)), (151, (.int, .int)), (186, (.pr .int .int, .int)), (193, (.int, .list .int))]
 sts := [(86, .lit)]
 hsig := [(zae, { tys := [.mdl, .int], nils := [], datas := [], res := fun xs _ => match xs with | [.agg y0, y1] => some (.ptr 3000 0, [(3000, .cells (y0 ++ [.sl (.list .lit) [], y1, .nil, .nil, .own 3001])), (3001, .mp .str .int [])]) | _ => none }),
  (zbe, { tys := [.int, .list (.list .lit), .list .step, .list (.pr .str .int), .list .int, .int], nils := [(0, (6, (47, .list .lit))), (0, (7, (71, .step)))], datas := [], res := fun xs ob => match xs, ob 1000, ob 2000, ob 2001, ob 1001 with | [y0, .sl (.list .lit) y1, .sl .step y2, .sl (.pr .str .int) y3, y4, y5], some (.cells o1000), some o2000, some o2001, some o1001 => some (.tup [y4, y5], [(1000, .cells (o1000.set 5 y0)), (2000, .row 47 (.list .lit) y1), (2001, .row 71 .step y2), (1001, .mp .str .int y3)]) | _, _, _, _, _ => none }),
  (zkc, { tys := [.list .step, .bool], nils := [(0, (6, (47, .list .lit))), (0, (7, (71, .step)))], datas := [], res := fun xs ob => match xs, ob 1000, ob 2000, ob 2001, ob 1001 with | [y0, y1], some (.cells o1000), some o2000, some o2001, some o1001 => some (.tup [y0, y1], [(1000, .cells (o1000.set 7 y0)), (2000, o2000), (1001, o1001)]) | _, _, _, _, _ => none }),
  (znp, { tys := [.bool, .list (.list .int)], nils := [(0, (4, (26, .list .int)))], datas := [], res := fun xs ob => match xs, ob 1000, ob 2000 with | [y0, .sl (.list .int) y1], some o1000, some o2000 => some (y0, [(1000, o1000), (2000, .row 26 (.list .int) y1)]) | _, _, _ => none }),
  (zde, { tys := [.int, .list .int, .bool, .list (.list .lit), .int, .list (.list .lit), .list .step, .list (.pr .str .int)], nils := [(1, (6, (47, .list .lit))), (1, (7, (71, .step)))], datas := [], res := fun xs ob => match xs, ob 1000, ob 1001, ob 2000, ob 2001, ob 1002 with | [y0, .sl .int y1, .bool y2, y3, y4, .sl (.list .lit) y5, .sl .step y6, .sl (.pr .str .int) y7], some (.cells o1000), some (.cells o1001), some o2000, some o2001, some o1002 => some (y0, [(1000, .cells (o1000.set 1 (.slN .int y1 y2))), (1001, .cells ((o1001.set 4 y3).set 5 y4)), (2000, .row 47 (.list .lit) y5), (2001, .row 71 .step y6), (1002, .mp .str .int y7)]) | _, _, _, _, _, _ => none }),
  (zee, { tys := [.list .lit, .bool, .list .int], nils := [(0, (6, (47, .list .lit))), (0, (7, (71, .step)))], datas := [], res := fun xs ob => match xs, ob 1000, ob 2000, ob 2001, ob 1001 with | [.sl .lit y0, .bool y1, y2], some o1000, some o2000, some o2001, some o1001 => some (.tup [(.slN .lit y0 y1), y2], [(1000, o1000), (2000, o2000), (2001, o2001), (1001, o1001)]) | _, _, _, _, _ => none }),
  (zmc, { tys := [.list (.list .lit)], nils := [(0, (6, (47, .list .lit))), (0, (7, (71, .step)))], datas := [], res := fun xs ob => match xs, ob 1000, ob 2000, ob 2001, ob 1001 with | [y0], some o1000, some o2000, some o2001, some o1001 => some (y0, [(1000, o1000), (2000, o2000), (2001, o2001), (1001, o1001)]) | _, _, _, _, _ => none }),
  (zge, { tys := [.list .step, .list (.pr .str .int)], nils := [(0, (6, (47, .list .lit))), (0, (7, (71, .step)))], datas := [], res := fun xs ob => match xs, ob 1000, ob 2000, ob 2001, ob 1001 with | [.sl .step y0, .sl (.pr .str .int) y1], some o1000, some o2000, some o2001, some o1001 => some (.tup [], [(1000, o1000), (2000, o2000), (2001, .row 71 .step y0), (1001, .mp .str .int y1)]) | _, _, _, _, _ => none }),
  (zoe, { tys := [.list .lit], nils := [], datas := [], res := fun xs ob => match xs with | [.sl .lit y0] => some (.own 3000, [(3000, .row 86 .lit y0)]) | _ => none }),
  (zre, { tys := [.list (.list .int), .list .step], nils := [(0, (6, (71, .step)))], datas := [], res := fun xs ob => match xs, ob 1000, ob 2000 with | [y0, .sl .step y1], some (.cells o1000), some o2000 => some (.tup [], [(1000, .cells (o1000.set 5 y0)), (2000, .row 71 .step y1)]) | _, _, _ => none }),
  (zoc, { tys := [.list .int], nils := [], datas := [], res := fun xs ob => match xs with | [.sl .int y0] => some (.own 3000, [(3000, .row 3 .int y0)]) | _ => none }),
  (z0c, { tys := [.list .int], nils := [], datas := [], res := fun xs ob => match xs, ob 1000 with | [.sl .int y0], some o1000 => some (.tup [], [(1000, .row 3 .int y0)]) | _, _ => none }),
  (z1c, { tys := [.list .int], nils := [], datas := [], res := fun xs ob => match xs, ob 1000 with | [y0], some o1000 => some (y0, []) | _, _ => none }),
  (zoh, { tys := [.list .lit], nils := [], datas := [], res := fun xs ob => match xs with | [.sl .lit y0] => some (.own 3000, [(3000, .row 86 .lit y0)]) | _ => none, raw := true }),
  (zDe, { tys := [.bool, .list (.list .int), .list .step], nils := [(0, (6, (71, .step)))], datas := [], res := fun xs ob => match xs, ob 1000, ob 2000 with | [y0, y1, .sl .step y2], some (.cells o1000), some o2000 => some (y0, [(1000, .cells (o1000.set 5 y1)), (2000, .row 71 .step y2)]) | _, _, _ => none }),
  (zqc, { tys := [.con, .list (.list .int), .list .int, .list .int, .list (.pr (.pr .int .int) .int)], nils := [], datas := [], res := fun xs _ => match xs with | [.agg y0, y1, y2, y3, .sl (.pr (.pr .int .int) .int) y4] => some (.clo 167 none [.iptr [.iptr (y0 ++ [y1, y2, y3, .mp (.pr .int .int) .int y4]) 0] 0], []) | _ => none }),
  (zIe, { tys := [.list .term, .list (.pr .int (.list .int)), .con], nils := [], datas := [], res := fun xs _ => match xs with | [y0, .sl (.pr .int (.list .int)) y1, .agg y2] => some (.clo 170 none [.iptr [y0] 0, .iptr [.mp .int (.list .int) y1] 0, .iptr y2 0], []) | _ => none }),
  (zKe, { tys := [.list (.list .int), .con], nils := [], datas := [], res := fun xs _ => match xs with | [y0, .agg y1] => some (.clo 174 none [.iptr [y0] 0, .iptr y1 0], []) | _ => none }),
  (zQp, { tys := [.bool, .list .int], nils := [], datas := [], res := fun xs ob => match xs, ob 1000 with | [y0, .sl .int y1], some o1000 => some (y0, [(1000, .row 3 .int y1)]) | _, _ => none }),
  (zq, { tys := [.list .int, .list (.pr (.pr .int .int) .int)], nils := [], datas := [], res := fun xs ob => match xs, ob 1000, ob 2000, ob 1001 with | [.sl .int y0, .sl (.pr (.pr .int .int) .int) y1], some o1000, some o2000, some o1001 => some (.tup [], [(1000, o1000), (2000, .row 3 .int y0), (1001, .mp (.pr .int .int) .int y1)]) | _, _, _, _ => none }),
  (zWe, { tys := [.list (.list .int)], nils := [], datas := [], res := fun xs ob => match xs with | [.sl (.list .int) y0] => some (.own 3000, [(3000, .row 26 (.list .int) y0)]) | _ => none }),
  (ztc, { tys := [.bool, .list (.pr .int .int), .list (.pr .int .int)], nils := [], datas := [(0, 0)], res := fun xs ob => match xs, ob 1000, ob 1001, ob 1002 with | [y0, .sl (.pr .int .int) y1, .sl (.pr .int .int) y2], some o1000, some o1001, some o1002 => some (y0, [(1000, o1000), (1001, .mp .int .int y1), (1002, .mp .int .int y2)]) | _, _, _, _ => none }),
  (zph, { tys := [.list .lit], nils := [], datas := [], res := fun xs ob => match xs with | [.sl .lit y0] => some (.own 3000, [(3000, .row 86 .lit y0)]) | _ => none, raw := true })]
 vals := [74, 89, 99, 131, 188, 201]
 arr := [190]
theorem chkEv : Ev.chk Tryz.prog = true := by kernel_rfl
theorem sigEv : ∀ x ∈ Ev.sig, ∀ args w, (callFunc x.1 args).run Tryz.prog w = .ok (.enter x.1 args) w := by
 intro x hx args w
 simp only [Ev, List.mem_cons, List.not_mem_nil, or_false] at hx
 rcases hx with rfl | rfl | rfl | rfl | rfl | rfl | rfl | rfl | rfl | rfl | rfl | rfl | rfl | rfl | rfl | rfl | rfl | rfl | rfl | rfl | rfl | rfl | rfl | rfl | rfl | rfl | rfl | rfl | rfl | rfl | rfl | rfl | rfl | rfl | rfl | rfl | rfl | rfl | rfl | rfl | rfl | rfl | rfl | rfl | rfl | rfl | rfl | rfl | rfl | rfl | rfl | rfl | rfl | rfl | rfl | rfl | rfl | rfl | rfl | rfl | rfl | rfl | rfl | rfl | rfl | rfl | rfl | rfl | rfl | rfl | rfl | rfl | rfl | rfl | rfl | rfl | rfl | rfl | rfl | rfl | rfl | rfl | rfl | rfl | rfl | rfl | rfl | rfl | rfl | rfl | rfl | rfl | rfl | rfl | rfl | rfl | rfl | rfl | rfl | rfl | rfl | rfl | rfl | rfl | rfl | rfl | rfl | rfl | rfl | rfl | rfl | rfl | rfl | rfl | rfl | rfl | rfl | rfl | rfl | rfl | rfl | rfl | rfl | rfl | rfl | rfl | rfl | rfl | rfl | rfl | rfl | rfl
 ·exact Tryz.call10 args w
 ·exact Tryz.call11 args w
 ·exact Tryz.call12 args w
 ·exact Tryz.call13 args w
 ·exact Tryz.call14 args w
 ·exact Tryz.call15 args w
 ·exact Tryz.call16 args w
 ·exact Tryz.call17 args w
 ·exact Tryz.call18 args w
 ·exact Tryz.call19 args w
 ·exact Tryz.call20 args w
 ·exact Tryz.call21 args w
 ·exact Tryz.call22 args w
 ·exact Tryz.call23 args w
 ·exact Tryz.call24 args w
 ·exact Tryz.call25 args w
 ·exact Tryz.call26 args w
 ·exact Tryz.call27 args w
 ·exact Tryz.call28 args w
 ·exact Tryz.call29 args w
 ·exact Tryz.call30 args w
 ·exact Tryz.call31 args w
 ·exact Tryz.call35 args w
 ·exact Tryz.call36 args w
 ·exact Tryz.call38 args w
 ·exact Tryz.call39 args w
 ·exact Tryz.call40 args w
 ·exact Tryz.call41 args w
 ·exact Tryz.call42 args w
 ·exact Tryz.call44 args w
 ·exact Tryz.call45 args w
 ·exact Tryz.call46 args w
 ·exact Tryz.call47 args w
 ·exact Tryz.call48 args w
 ·exact Tryz.call49 args w
 ·exact Tryz.call50 args w
 ·exact Tryz.call52 args w
 ·exact Tryz.call55 args w
 ·exact Tryz.call56 args w
 ·exact Tryz.call57 args w
 ·exact Tryz.call58 args w
 ·exact Tryz.call59 args w
 ·exact Tryz.call60 args w
 ·exact Tryz.call61 args w
 ·exact Tryz.call62 args w
 ·exact Tryz.call63 args w
 ·exact Tryz.call65 args w
 ·exact Tryz.call66 args w
 ·exact Tryz.call67 args w
 ·exact Tryz.call68 args w
 ·exact Tryz.call69 args w
 ·exact Tryz.call70 args w
 ·exact Tryz.call71 args w
 ·exact Tryz.call72 args w
 ·exact Tryz.call73 args w
 ·exact Tryz.call74 args w
 ·exact Tryz.call76 args w
 ·exact Tryz.call77 args w
 ·exact Tryz.call78 args w
 ·exact Tryz.call81 args w
 ·exact Tryz.call83 args w
 ·exact Tryz.call84 args w
 ·exact Tryz.call85 args w
 ·exact Tryz.call87 args w
 ·exact Tryz.call88 args w
 ·exact Tryz.call89 args w
 ·exact Tryz.call92 args w
 ·exact Tryz.call93 args w
 ·exact Tryz.call94 args w
 ·exact Tryz.call96 args w
 ·exact Tryz.call98 args w
 ·exact Tryz.call99 args w
 ·exact Tryz.call100 args w
 ·exact Tryz.call101 args w
 ·exact Tryz.call102 args w
 ·exact Tryz.call103 args w
 ·exact Tryz.call105 args w
 ·exact Tryz.call106 args w
 ·exact Tryz.call107 args w
 ·exact Tryz.call108 args w
 ·exact Tryz.call109 args w
 ·exact Tryz.call110 args w
 ·exact Tryz.call111 args w
 ·exact Tryz.call112 args w
 ·exact Tryz.call113 args w
 ·exact Tryz.call114 args w
 ·exact Tryz.call115 args w
 ·exact Tryz.call117 args w
 ·exact Tryz.call121 args w
 ·exact Tryz.call123 args w
 ·exact Tryz.call124 args w
 ·exact Tryz.call126 args w
 ·exact Tryz.call127 args w
 ·exact Tryz.call128 args w
 ·exact Tryz.call129 args w
 ·exact Tryz.call130 args w
 ·exact Tryz.call131 args w
 ·exact Tryz.call132 args w
 ·exact Tryz.call134 args w
 ·exact Tryz.call135 args w
 ·exact Tryz.call138 args w
 ·exact Tryz.call141 args w
 ·exact Tryz.call142 args w
 ·exact Tryz.call144 args w
 ·exact Tryz.call148 args w
 ·exact Tryz.call149 args w
 ·exact Tryz.call150 args w
 ·exact Tryz.call151 args w
 ·exact Tryz.call152 args w
 ·exact Tryz.call154 args w
 ·exact Tryz.call155 args w
 ·exact Tryz.call156 args w
 ·exact Tryz.call157 args w
 ·exact Tryz.call162 args w
 ·exact Tryz.call163 args w
 ·exact Tryz.call164 args w
 ·exact Tryz.call165 args w
 ·exact Tryz.call168 args w
 ·exact Tryz.call169 args w
 ·exact Tryz.call171 args w
 ·exact Tryz.call177 args w
 ·exact Tryz.call178 args w
 ·exact Tryz.call179 args w
 ·exact Tryz.call192 args w
 ·exact Tryz.call193 args w
 ·exact Tryz.call194 args w
 ·exact Tryz.call206 args w
 ·exact Tryz.call207 args w
 ·exact Tryz.call208 args w
 ·exact Tryz.call209 args w
 ·exact Tryz.call216 args w
 ·exact Tryz.call231 args w
theorem chkEv2 : Ev.chk2 Tryz.prog = true := by kernel_rfl
theorem hsigEv : ∀ x ∈ Ev.hsig, Ent Tryz.prog x.1 := by
 intro x hx args w
 simp only [Ev, List.mem_cons, List.not_mem_nil, or_false] at hx
 rcases hx with rfl | rfl | rfl | rfl | rfl | rfl | rfl | rfl | rfl | rfl | rfl | rfl | rfl | rfl | rfl | rfl | rfl | rfl | rfl | rfl | rfl | rfl | rfl
 ·exact Tryz.call32 args w
 ·exact Tryz.call33 args w
 ·exact Tryz.call34 args w
 ·exact Tryz.call37 args w
 ·exact Tryz.call43 args w
 ·exact Tryz.call51 args w
 ·exact Tryz.call53 args w
 ·exact Tryz.call54 args w
 ·exact Tryz.call82 args w
 ·exact Tryz.call86 args w
 ·exact Tryz.call118 args w
 ·exact Tryz.call119 args w
 ·exact Tryz.call120 args w
 ·exact Tryz.call122 args w
 ·exact Tryz.call125 args w
 ·exact Tryz.call136 args w
 ·exact Tryz.call137 args w
 ·exact Tryz.call139 args w
 ·exact Tryz.call153 args w
 ·exact Tryz.call166 args w
 ·exact Tryz.call175 args w
 ·exact Tryz.call176 args w
 ·exact Tryz.call215 args w
theorem factsEv : Facts Tryz.prog Ev := zro (by kernel_rfl) chkEv chkEv2 sigEv hsigEv
abbrev FD (A : Ann) (fn : Func) (ds : List D) (R : D → Prop) : Prop := fnD Tryz.prog Ev A fn.results.toList (bodyOf fn) ds R
abbrev FH (A : Ann) (fn : Func) (ds : List D) (hp : List (Nat × HObj)) (roots : List D) (own : Bool) (R : D → List (Nat × HObj) → Prop) : Prop := fnH Tryz.prog Ev A fn.results.toList (bodyOf fn) ds hp roots own R
def SatI (A : Ann) (fn : Func) (f : FuncId) (ds : List D) : Prop := ∀ {r : D}, ((∀ d ∈ ds, okD d) → FD A fn ds fun d => d = r) → Sat Tryz.prog f ds r
def SatHI (A : Ann) (fn : Func) (f : FuncId) (ds : List D) (hp : List (Nat × HObj)) (roots : List D) (own : Bool) : Prop := ∀ {r : D} {h0 : List (Nat × HObj)}, ((∀ d ∈ ds, okD d) → (∀ k o, look k hp = some o → okO o) → FH A fn ds hp roots own fun d h1 => d = r ∧ h1 = h0) → SatH Tryz.prog f ds hp r h0
theorem satD {A : Ann} {fn : Func} {f : FuncId} {ds : List D} (hf : Tryz.prog.funcs[f]? = some fn) (hb : fn.body = some (bodyOf fn)) (hn : fn.ntmps = A.n) (hl : Nat.ble ds.length A.n = true) : SatI A fn f ds := fun h => sat_of factsEv hf hb hn.symm (by rw [hn]; exact Nat.le_of_ble_eq_true hl) h
theorem satHD {A : Ann} {fn : Func} {f : FuncId} {ds : List D} {hp : List (Nat × HObj)} {roots : List D} {own : Bool} (hf : Tryz.prog.funcs[f]? = some fn) (hb : fn.body = some (bodyOf fn)) (hn : fn.ntmps = A.n) (hl : Nat.ble ds.length A.n = true) : SatHI A fn f ds hp roots own := fun h => satH_of factsEv hf hb hn.symm (by rw [hn]; exact Nat.le_of_ble_eq_true hl) h
abbrev LP (A : Ann) (fn : Func) (path : List Nat) (cur n : Nat) (σ : St) (K : Ex → St → Prop) : Prop := iter (den Tryz.prog Ev A (sub path (bodyOf fn)) cur) A (liveOf A cur) n σ K
abbrev sK (A : Ann) (fn : Func) (path : List Nat) (cur : Nat) (K : Ex → St → Prop) := seqK Tryz.prog Ev A (sub path (bodyOf fn)) cur K
abbrev iK (A : Ann) (fn : Func) (path : List Nat) (cur n : Nat) (K : Ex → St → Prop) := iterK (den Tryz.prog Ev A (sub path (bodyOf fn)) cur) A (liveOf A cur) n K
abbrev eK (fn : Func) (R : D → Prop) := endK Ev fn.results.toList R
abbrev eH (fn : Func) (roots : List D) (own : Bool) (R : D → List (Nat × HObj) → Prop) := endH Ev fn.results.toList roots own R
end Go.Proofs.YtajnbkhgnppckaaGreatDoor
