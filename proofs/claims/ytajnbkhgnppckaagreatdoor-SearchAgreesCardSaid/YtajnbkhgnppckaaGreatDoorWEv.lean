/- The types and the functions of the program that the walks need, read from its table: printed by a program. -/
import Derived.Test.YtajnbkhgnppckaaGreatDoorProg
import Derived.Test.YtajnbkhgnppckaaGreatDoorMD
namespace Go.Proofs.YtajnbkhgnppckaaGreatDoor
open Go.RowKit
set_option linter.unusedVariables false
set_option maxRecDepth 100000
abbrev zvx : FuncId := 2
abbrev zwx : FuncId := 3
abbrev zxx : FuncId := 4
abbrev z6i : FuncId := 5
abbrev zyx : FuncId := 6
abbrev zzx : FuncId := 7
abbrev zAx : FuncId := 8
abbrev zBx : FuncId := 9
abbrev zcc : FuncId := 10
abbrev z4d : FuncId := 11
abbrev zPc : FuncId := 12
abbrev zqo : FuncId := 13
abbrev zdc : FuncId := 14
abbrev zro : FuncId := 15
abbrev zso : FuncId := 16
abbrev zQc : FuncId := 17
abbrev zto : FuncId := 18
abbrev zuo : FuncId := 19
abbrev zvo : FuncId := 20
abbrev zwo : FuncId := 21
abbrev zxo : FuncId := 22
abbrev zyo : FuncId := 23
abbrev zzo : FuncId := 24
abbrev zAo : FuncId := 25
abbrev zBo : FuncId := 26
abbrev zCo : FuncId := 27
abbrev zDo : FuncId := 28
abbrev zEo : FuncId := 29
abbrev zFo : FuncId := 30
abbrev z5d : FuncId := 31
abbrev z6d : FuncId := 32
abbrev z7d : FuncId := 33
abbrev z8d : FuncId := 34
abbrev zRc : FuncId := 35
abbrev zSc : FuncId := 36
abbrev zTc : FuncId := 37
abbrev zmb : FuncId := 38
abbrev zGo : FuncId := 39
abbrev zHo : FuncId := 40
abbrev zIo : FuncId := 41
abbrev zJo : FuncId := 42
abbrev zKo : FuncId := 43
abbrev zLo : FuncId := 44
abbrev zMo : FuncId := 45
abbrev zNo : FuncId := 46
abbrev zOo : FuncId := 47
abbrev zPo : FuncId := 48
abbrev zQo : FuncId := 49
abbrev zRo : FuncId := 50
abbrev z9d : FuncId := 51
abbrev zae : FuncId := 52
abbrev zec : FuncId := 53
abbrev zbe : FuncId := 54
abbrev zce : FuncId := 55
abbrev zUc : FuncId := 56
abbrev zde : FuncId := 57
abbrev zee : FuncId := 58
abbrev zP : FuncId := 59
abbrev zT : FuncId := 60
abbrev ze : FuncId := 61
abbrev zVc : FuncId := 62
abbrev zt : FuncId := 63
abbrev zfe : FuncId := 64
abbrev zSo : FuncId := 65
abbrev zTo : FuncId := 66
abbrev zUo : FuncId := 67
abbrev zVo : FuncId := 68
abbrev zWo : FuncId := 69
abbrev zXo : FuncId := 70
abbrev zYo : FuncId := 71
abbrev zZo : FuncId := 72
abbrev z0o : FuncId := 73
abbrev zKb : FuncId := 74
abbrev zCx : FuncId := 75
abbrev zWc : FuncId := 76
abbrev zLb : FuncId := 77
abbrev z1o : FuncId := 78
abbrev zDx : FuncId := 79
abbrev zge : FuncId := 80
abbrev zXc : FuncId := 81
abbrev zhe : FuncId := 82
abbrev zie : FuncId := 83
abbrev zje : FuncId := 84
abbrev zYc : FuncId := 85
abbrev zke : FuncId := 86
abbrev zle : FuncId := 87
abbrev zZg : FuncId := 88
abbrev zme : FuncId := 89
abbrev zne : FuncId := 90
abbrev zZc : FuncId := 91
abbrev zab : FuncId := 92
abbrev zoe : FuncId := 93
abbrev zfc : FuncId := 94
abbrev zpe : FuncId := 95
abbrev zU : FuncId := 96
abbrev zqe : FuncId := 97
abbrev znb : FuncId := 98
abbrev zob : FuncId := 99
abbrev zMb : FuncId := 100
abbrev zG : FuncId := 101
abbrev zV : FuncId := 102
abbrev zre : FuncId := 103
abbrev zse : FuncId := 104
abbrev z2o : FuncId := 105
abbrev z3o : FuncId := 106
abbrev z4o : FuncId := 107
abbrev z5o : FuncId := 108
abbrev z6o : FuncId := 109
abbrev z7o : FuncId := 110
abbrev zte : FuncId := 111
abbrev zf : FuncId := 112
abbrev zbb : FuncId := 113
abbrev zpb : FuncId := 114
abbrev zqb : FuncId := 115
abbrev zue : FuncId := 116
abbrev zQ : FuncId := 117
abbrev zgc : FuncId := 118
abbrev z0c : FuncId := 119
abbrev z1c : FuncId := 120
abbrev z8o : FuncId := 121
abbrev z0g : FuncId := 122
abbrev z2c : FuncId := 123
abbrev zve : FuncId := 124
abbrev zwe : FuncId := 125
abbrev zNb : FuncId := 126
abbrev z9o : FuncId := 127
abbrev zap : FuncId := 128
abbrev zbp : FuncId := 129
abbrev zxe : FuncId := 130
abbrev zye : FuncId := 131
abbrev zhc : FuncId := 132
abbrev zrb : FuncId := 133
abbrev zze : FuncId := 134
abbrev zAe : FuncId := 135
abbrev zic : FuncId := 136
abbrev zBe : FuncId := 137
abbrev zCe : FuncId := 138
abbrev zDe : FuncId := 139
abbrev zcb : FuncId := 140
abbrev zsb : FuncId := 141
abbrev zEe : FuncId := 142
abbrev zjc : FuncId := 143
abbrev z3c : FuncId := 144
abbrev zFe : FuncId := 145
abbrev zGe : FuncId := 146
abbrev zkc : FuncId := 147
abbrev zHe : FuncId := 148
abbrev zcp : FuncId := 149
abbrev zdp : FuncId := 150
abbrev zep : FuncId := 151
abbrev zfp : FuncId := 152
abbrev zgp : FuncId := 153
abbrev zhp : FuncId := 154
abbrev zip : FuncId := 155
abbrev zjp : FuncId := 156
abbrev zkp : FuncId := 157
abbrev zEx : FuncId := 158
abbrev zFx : FuncId := 159
abbrev zGx : FuncId := 160
abbrev zIe : FuncId := 161
abbrev zJe : FuncId := 162
abbrev zKe : FuncId := 163
abbrev zlp : FuncId := 164
abbrev zmp : FuncId := 165
abbrev zu : FuncId := 166
abbrev zh : FuncId := 167
abbrev zLe : FuncId := 168
abbrev zMe : FuncId := 169
abbrev zOb : FuncId := 170
abbrev z4c : FuncId := 171
abbrev zNe : FuncId := 172
abbrev zOe : FuncId := 173
abbrev zPb : FuncId := 174
abbrev zPe : FuncId := 175
abbrev zlc : FuncId := 176
abbrev zQe : FuncId := 177
abbrev zRe : FuncId := 178
abbrev znp : FuncId := 179
abbrev zHx : FuncId := 180
abbrev zIx : FuncId := 181
abbrev zJx : FuncId := 182
abbrev zKx : FuncId := 183
abbrev zLx : FuncId := 184
abbrev zMx : FuncId := 185
abbrev zNx : FuncId := 186
abbrev zOx : FuncId := 187
abbrev zPx : FuncId := 188
abbrev zQx : FuncId := 189
abbrev zRx : FuncId := 190
abbrev zSx : FuncId := 191
abbrev z5c : FuncId := 192
abbrev z6c : FuncId := 193
abbrev zop : FuncId := 194
abbrev zSe : FuncId := 195
abbrev zTx : FuncId := 196
abbrev zUx : FuncId := 197
abbrev zVx : FuncId := 198
abbrev zWx : FuncId := 199
abbrev zXx : FuncId := 200
abbrev zYx : FuncId := 201
abbrev zZx : FuncId := 202
abbrev z0x : FuncId := 203
abbrev z1x : FuncId := 204
abbrev z2x : FuncId := 205
abbrev zmc : FuncId := 206
abbrev zTe : FuncId := 207
abbrev zpp : FuncId := 208
abbrev zqp : FuncId := 209
abbrev z3x : FuncId := 210
abbrev z4x : FuncId := 211
abbrev z5x : FuncId := 212
abbrev z6x : FuncId := 213
abbrev z7x : FuncId := 214
abbrev z1g : FuncId := 215
abbrev zUe : FuncId := 216
abbrev z8x : FuncId := 217
abbrev z9x : FuncId := 218
abbrev zay : FuncId := 219
abbrev zby : FuncId := 220
abbrev zcy : FuncId := 221
abbrev zdy : FuncId := 222
abbrev zey : FuncId := 223
abbrev zfy : FuncId := 224
abbrev zgy : FuncId := 225
abbrev zhy : FuncId := 226
abbrev ziy : FuncId := 227
abbrev zjy : FuncId := 228
abbrev zVe : FuncId := 229
abbrev zWe : FuncId := 230
abbrev zrp : FuncId := 231
abbrev zky : FuncId := 232
abbrev zly : FuncId := 233
abbrev zmy : FuncId := 256
def Ev : TE where
 zs := [(3, (false, [dI 0])), (9, (false, [.str (⟨#[]⟩)])), (22, (false, [.nil])), (23, (false, [.nil])), (25, (true, [.sl .var ([] : List VarD), .sl .con ([] : List ConD), dI 0, dI 0])), (26, (false, [.nil])), (27, (false, [.nil])), (29, (true, [dI 0, .sl .int ([] : List Int), .sl .step ([] : List StepD)])), (37, (false, [.nil])), (46, (false, [.nil])), (47, (false, [.nil])), (55, (false, [.nil])), (63, (false, [.undef])), (71, (true, [dI 0, dI 0, .sl .lit ([] : List LitD)])), (74, (true, [.sl .var ([] : List VarD), .sl .con ([] : List ConD), dI 0, dI 0, .nil])), (76, (false, [.nil])), (79, (true, [.str (⟨#[]⟩), dI 0, dI 0])), (84, (true, [dI 0, .sl .int ([] : List Int), .sl .int ([] : List Int), dI 0, dS ([] : List (List Int)), .sl .lit ([] : List LitD)])), (86, (true, [dI 0, dI 0, dI 0])), (89, (true, [.undef, .slN .int ([] : List Int) true])), (97, (false, [.undef])), (99, (true, [.sl .var ([] : List VarD), .sl .con ([] : List ConD), dI 0, dI 0, .sl (.list .lit) ([] : List (List LitD)), dI 0, .nil, .nil, .undef])), (112, (false, [.undef])), (115, (false, [.undef])), (131, (true, [.sl .var ([] : List VarD), .sl .con ([] : List ConD), dI 0, dI 0, .sl (.list .lit) ([] : List (List LitD)), dS ([] : List (List Int)), .nil])), (151, (false, [.undef])), (164, (true, [dI 0, dI 0, dI 0, dI 0, dI 0])), (185, (false, [.undef])), (186, (false, [.undef])), (188, (true, [dI 0, .sl .int ([] : List Int), .sl .int ([] : List Int), dI 0, dS ([] : List (List Int)), .sl .lit ([] : List LitD), dS ([] : List (List Int)), .sl .int ([] : List Int), .sl .int ([] : List Int), .undef])), (190, (true, [dI 0, dI 0])), (191, (false, [.nil])), (193, (false, [.undef])), (195, (true, [dI 0, dI 0])), (201, (true, [dS ([] : List (List Int)), .sl .int ([] : List Int), .undef, .undef, dI 0])), (223, (true, [dI 0, dI 0, .str (⟨#[]⟩)])), (238, (true, [.str (⟨#[]⟩), dI 0]))]
 sl := [(22, (79, .var)), (23, (84, .con)), (26, (3, .int)), (27, (71, .step)), (37, (26, .list .int)), (46, (86, .lit)), (47, (86, .lit)), (55, (47, .list .lit)), (76, (26, .list .int)), (146, (9, .str)), (155, (46, .list .lit)), (191, (195, .term)), (219, (223, .tok))]
 fld := [(25, [(0, 1), (1, 1), (2, 1), (3, 1)]), (29, [(0, 1), (1, 1), (2, 1)]), (71, [(0, 1), (1, 1), (2, 1)]), (74, [(0, 4), (4, 1)]), (79, [(0, 1), (1, 1), (2, 1)]), (84, [(0, 1), (1, 1), (2, 1), (3, 1), (4, 1), (5, 1)]), (86, [(0, 1), (1, 1), (2, 1)]), (89, [(0, 1), (1, 1)]), (99, [(0, 4), (4, 1), (5, 1), (6, 1), (7, 1), (8, 1)]), (131, [(0, 4), (4, 1), (5, 1), (6, 1)]), (164, [(0, 1), (1, 1), (2, 1), (3, 1), (4, 1)]), (188, [(0, 6), (6, 1), (7, 1), (8, 1), (9, 1)]), (195, [(0, 1), (1, 1)]), (201, [(0, 1), (1, 1), (2, 1), (3, 1), (4, 1)]), (223, [(0, 1), (1, 1), (2, 1)]), (238, [(0, 1), (1, 1)])]
 strs := [9]
 ints := [(2, .i64), (3, .i64), (5, .u8), (6, .u8), (30, .i64), (205, .i64), (261, .u8), (262, .u8)]
 bools := [4]
 sig := [(zcc, [.ans, .int]), (z4d, [.bool]), (zPc, [.bool]), (zqo, [.bool]), (zdc, [.list (.list .int), .bool, .int]), (zro, [.int]), (zso, [.list (.list .int), .bool]), (zQc, [.bool]), (zto, [.list .lit, .int]), (zuo, [.int]), (zvo, [.list .lit]), (zwo, [.bool]), (zxo, [.bool]), (zyo, [.ans, .int]), (zzo, [.bool]), (zAo, [.bool]), (zBo, [.int]), (zCo, [.bool]), (zDo, [.int]), (zEo, [.bool]), (zFo, [.bool, .int]), (z5d, [.int]), (zRc, [.mdl]), (zSc, [.int]), (zmb, [.list (.list .int)]), (zGo, [.bool]), (zHo, [.bool]), (zIo, [.int]), (zJo, [.list .lit]), (zLo, [.bool]), (zMo, [.int]), (zNo, [.int]), (zOo, [.bool]), (zPo, [.bool, .int]), (zQo, [.list .int, .int]), (zRo, [.bool]), (zae, [.list .lit, .bool]), (zce, [.list .step]), (zUc, [.list .lit]), (zde, [.int]), (zee, [.int]), (zP, [.bool]), (zT, [.list (.list .int)]), (ze, [.bool]), (zVc, [.int]), (zt, [.list (.list .int)]), (zSo, [.bool]), (zTo, [.bool]), (zUo, [.bool]), (zVo, [.bool]), (zWo, [.int]), (zXo, [.bool]), (zYo, [.bool]), (zZo, [.bool]), (z0o, [.int]), (zKb, [.bool]), (zWc, [.bool]), (zLb, [.list .int]), (z1o, [.bool]), (zXc, [.bool]), (zie, [.list .lit]), (zje, [.str]), (zYc, [.list (.list .int)]), (zle, [.lit]), (zZg, [.bool]), (zme, [.bool]), (zab, [.bool]), (zoe, [.bool]), (zfc, [.bool]), (zU, [.bool]), (znb, [.list (.list .int)]), (zob, [.list (.list .int)]), (zMb, [.list (.list .int)]), (zG, [.list (.list .int)]), (zV, [.bool]), (zre, [.bool]), (z2o, [.int, .int]), (z3o, [.bool]), (z4o, [.list (.list .int)]), (z5o, [.list (.list .int)]), (z6o, [.list (.list .int)]), (z7o, [.list (.list .int)]), (zte, [.int]), (zf, [.int]), (zbb, [.bool]), (zpb, [.bool]), (zqb, [.bool]), (zQ, [.bool]), (z8o, [.int]), (z2c, [.str]), (zve, [.list (.list .int)]), (zNb, [.bool]), (z9o, [.bool]), (zap, [.bool]), (zbp, [.list .str]), (zxe, [.int]), (zye, [.pr .int (.pr .int (.pr .int (.pr .int .int)))]), (zhc, [.bool]), (zze, [.int]), (zAe, [.int]), (zCe, [.bool]), (zsb, [.bool]), (zEe, [.int]), (z3c, [.bool]), (zHe, [.int]), (zcp, [.bool]), (zdp, [.bool]), (zep, [.list .int]), (zfp, [.list (.list .int)]), (zhp, [.bool]), (zip, [.bool]), (zjp, [.list (.list .int)]), (zkp, [.bool]), (zJe, [.list .lit, .bool]), (zKe, [.list .lit, .bool]), (zlp, [.bool]), (zmp, [.int]), (zLe, [.list .term]), (zMe, [.list .int]), (z4c, [.int]), (zQe, [.int]), (zRe, [.int]), (znp, [.int]), (z5c, [.list .lit]), (z6c, [.list .lit]), (zop, [.list .tok, .int, .int]), (zmc, [.list .lit]), (zTe, [.bool]), (zpp, []), (zqp, [.tok, .int]), (zUe, [.list (.list .int)]), (zrp, [.int])]
 mps := [(97, (.str, .int)), (151, (.int, .int)), (186, (.pr .int .int, .int)), (193, (.int, .list .int))]
 sts := [(86, .lit)]
 hsig := [(z6d, { tys := [.mdl, .int], nils := [], datas := [], res := fun xs _ => match xs with | [.agg y0, y1] => some (.ptr 3000 0, [(3000, .cells (y0 ++ [.sl (.list .lit) [], y1, .nil, .nil, .own 3001])), (3001, .mp .str .int [])]) | _ => none }),
  (z7d, { tys := [.int, .list (.list .lit), .list .step, .list (.pr .str .int), .list .int, .int], nils := [(0, (6, (47, .list .lit))), (0, (7, (71, .step)))], datas := [], res := fun xs ob => match xs, ob 1000, ob 2000, ob 2001, ob 1001 with | [y0, .sl (.list .lit) y1, .sl .step y2, .sl (.pr .str .int) y3, y4, y5], some (.cells o1000), some o2000, some o2001, some o1001 => some (.tup [y4, y5], [(1000, .cells (o1000.set 5 y0)), (2000, .row 47 (.list .lit) y1), (2001, .row 71 .step y2), (1001, .mp .str .int y3)]) | _, _, _, _, _ => none }),
  (z8d, { tys := [.list .step, .bool], nils := [(0, (6, (47, .list .lit))), (0, (7, (71, .step)))], datas := [], res := fun xs ob => match xs, ob 1000, ob 2000, ob 2001, ob 1001 with | [y0, y1], some (.cells o1000), some o2000, some o2001, some o1001 => some (.tup [y0, y1], [(1000, .cells (o1000.set 7 y0)), (2000, o2000), (1001, o1001)]) | _, _, _, _, _ => none }),
  (zTc, { tys := [.bool, .list (.list .int)], nils := [(0, (4, (26, .list .int)))], datas := [], res := fun xs ob => match xs, ob 1000, ob 2000 with | [y0, .sl (.list .int) y1], some o1000, some o2000 => some (y0, [(1000, o1000), (2000, .row 26 (.list .int) y1)]) | _, _, _ => none }),
  (zKo, { tys := [.int, .list .int, .bool, .list (.list .lit), .int, .list (.list .lit), .list .step, .list (.pr .str .int)], nils := [(1, (6, (47, .list .lit))), (1, (7, (71, .step)))], datas := [], res := fun xs ob => match xs, ob 1000, ob 1001, ob 2000, ob 2001, ob 1002 with | [y0, .sl .int y1, .bool y2, y3, y4, .sl (.list .lit) y5, .sl .step y6, .sl (.pr .str .int) y7], some (.cells o1000), some (.cells o1001), some o2000, some o2001, some o1002 => some (y0, [(1000, .cells (o1000.set 1 (.slN .int y1 y2))), (1001, .cells ((o1001.set 4 y3).set 5 y4)), (2000, .row 47 (.list .lit) y5), (2001, .row 71 .step y6), (1002, .mp .str .int y7)]) | _, _, _, _, _, _ => none }),
  (z9d, { tys := [.list .lit, .bool, .list .int], nils := [(0, (6, (47, .list .lit))), (0, (7, (71, .step)))], datas := [], res := fun xs ob => match xs, ob 1000, ob 2000, ob 2001, ob 1001 with | [.sl .lit y0, .bool y1, y2], some o1000, some o2000, some o2001, some o1001 => some (.tup [(.slN .lit y0 y1), y2], [(1000, o1000), (2000, o2000), (2001, o2001), (1001, o1001)]) | _, _, _, _, _ => none }),
  (zec, { tys := [.list (.list .lit)], nils := [(0, (6, (47, .list .lit))), (0, (7, (71, .step)))], datas := [], res := fun xs ob => match xs, ob 1000, ob 2000, ob 2001, ob 1001 with | [y0], some o1000, some o2000, some o2001, some o1001 => some (y0, [(1000, o1000), (2000, o2000), (2001, o2001), (1001, o1001)]) | _, _, _, _, _ => none }),
  (zbe, { tys := [.list .step, .list (.pr .str .int)], nils := [(0, (6, (47, .list .lit))), (0, (7, (71, .step)))], datas := [], res := fun xs ob => match xs, ob 1000, ob 2000, ob 2001, ob 1001 with | [.sl .step y0, .sl (.pr .str .int) y1], some o1000, some o2000, some o2001, some o1001 => some (.tup [], [(1000, o1000), (2000, o2000), (2001, .row 71 .step y0), (1001, .mp .str .int y1)]) | _, _, _, _, _ => none }),
  (zhe, { tys := [.list .lit], nils := [], datas := [], res := fun xs ob => match xs with | [.sl .lit y0] => some (.own 3000, [(3000, .row 86 .lit y0)]) | _ => none }),
  (zke, { tys := [.list (.list .int), .list .step], nils := [(0, (6, (71, .step)))], datas := [], res := fun xs ob => match xs, ob 1000, ob 2000 with | [y0, .sl .step y1], some (.cells o1000), some o2000 => some (.tup [], [(1000, .cells (o1000.set 5 y0)), (2000, .row 71 .step y1)]) | _, _, _ => none }),
  (zgc, { tys := [.list .int], nils := [], datas := [], res := fun xs ob => match xs with | [.sl .int y0] => some (.own 3000, [(3000, .row 3 .int y0)]) | _ => none }),
  (z0c, { tys := [.list .int], nils := [], datas := [], res := fun xs ob => match xs, ob 1000 with | [.sl .int y0], some o1000 => some (.tup [], [(1000, .row 3 .int y0)]) | _, _ => none }),
  (z1c, { tys := [.list .int], nils := [], datas := [], res := fun xs ob => match xs, ob 1000 with | [y0], some o1000 => some (y0, []) | _, _ => none }),
  (z0g, { tys := [.list .lit], nils := [], datas := [], res := fun xs ob => match xs with | [.sl .lit y0] => some (.own 3000, [(3000, .row 86 .lit y0)]) | _ => none, raw := true }),
  (zwe, { tys := [.bool, .list (.list .int), .list .step], nils := [(0, (6, (71, .step)))], datas := [], res := fun xs ob => match xs, ob 1000, ob 2000 with | [y0, y1, .sl .step y2], some (.cells o1000), some o2000 => some (y0, [(1000, .cells (o1000.set 5 y1)), (2000, .row 71 .step y2)]) | _, _, _ => none }),
  (zic, { tys := [.con, .list (.list .int), .list .int, .list .int, .list (.pr (.pr .int .int) .int)], nils := [], datas := [], res := fun xs _ => match xs with | [.agg y0, y1, y2, y3, .sl (.pr (.pr .int .int) .int) y4] => some (.clo 167 none [.iptr [.iptr (y0 ++ [y1, y2, y3, .mp (.pr .int .int) .int y4]) 0] 0], []) | _ => none }),
  (zBe, { tys := [.list .term, .list (.pr .int (.list .int)), .con], nils := [], datas := [], res := fun xs _ => match xs with | [y0, .sl (.pr .int (.list .int)) y1, .agg y2] => some (.clo 170 none [.iptr [y0] 0, .iptr [.mp .int (.list .int) y1] 0, .iptr y2 0], []) | _ => none }),
  (zDe, { tys := [.list (.list .int), .con], nils := [], datas := [], res := fun xs _ => match xs with | [y0, .agg y1] => some (.clo 174 none [.iptr [y0] 0, .iptr y1 0], []) | _ => none }),
  (zgp, { tys := [.bool, .list .int], nils := [], datas := [], res := fun xs ob => match xs, ob 1000 with | [y0, .sl .int y1], some o1000 => some (y0, [(1000, .row 3 .int y1)]) | _, _ => none }),
  (zu, { tys := [.list .int, .list (.pr (.pr .int .int) .int)], nils := [], datas := [], res := fun xs ob => match xs, ob 1000, ob 2000, ob 1001 with | [.sl .int y0, .sl (.pr (.pr .int .int) .int) y1], some o1000, some o2000, some o1001 => some (.tup [], [(1000, o1000), (2000, .row 3 .int y0), (1001, .mp (.pr .int .int) .int y1)]) | _, _, _, _ => none }),
  (zPe, { tys := [.list (.list .int)], nils := [], datas := [], res := fun xs ob => match xs with | [.sl (.list .int) y0] => some (.own 3000, [(3000, .row 26 (.list .int) y0)]) | _ => none }),
  (zlc, { tys := [.bool, .list (.pr .int .int), .list (.pr .int .int)], nils := [], datas := [(0, 0)], res := fun xs ob => match xs, ob 1000, ob 1001, ob 1002 with | [y0, .sl (.pr .int .int) y1, .sl (.pr .int .int) y2], some o1000, some o1001, some o1002 => some (y0, [(1000, o1000), (1001, .mp .int .int y1), (1002, .mp .int .int y2)]) | _, _, _, _ => none }),
  (z1g, { tys := [.list .lit], nils := [], datas := [], res := fun xs ob => match xs with | [.sl .lit y0] => some (.own 3000, [(3000, .row 86 .lit y0)]) | _ => none, raw := true })]
 vals := [74, 89, 99, 131, 188, 201]
 arr := [190]
theorem chkEv : Ev.chk Tryz.prog = true := by kernel_rfl
theorem sigEv : ∀ x ∈ Ev.sig, ∀ args w, (callFunc x.1 args).run Tryz.prog w = .ok (.enter x.1 args) w := by
 intro x hx args w
 simp only [Ev, List.mem_cons, List.not_mem_nil, or_false] at hx
 rcases hx with rfl | rfl | rfl | rfl | rfl | rfl | rfl | rfl | rfl | rfl | rfl | rfl | rfl | rfl | rfl | rfl | rfl | rfl | rfl | rfl | rfl | rfl | rfl | rfl | rfl | rfl | rfl | rfl | rfl | rfl | rfl | rfl | rfl | rfl | rfl | rfl | rfl | rfl | rfl | rfl | rfl | rfl | rfl | rfl | rfl | rfl | rfl | rfl | rfl | rfl | rfl | rfl | rfl | rfl | rfl | rfl | rfl | rfl | rfl | rfl | rfl | rfl | rfl | rfl | rfl | rfl | rfl | rfl | rfl | rfl | rfl | rfl | rfl | rfl | rfl | rfl | rfl | rfl | rfl | rfl | rfl | rfl | rfl | rfl | rfl | rfl | rfl | rfl | rfl | rfl | rfl | rfl | rfl | rfl | rfl | rfl | rfl | rfl | rfl | rfl | rfl | rfl | rfl | rfl | rfl | rfl | rfl | rfl | rfl | rfl | rfl | rfl | rfl | rfl | rfl | rfl | rfl | rfl | rfl | rfl | rfl | rfl | rfl | rfl | rfl | rfl | rfl | rfl | rfl | rfl | rfl | rfl
 ·exact Tryz.call10 args w
 ·exact Tryz.call11 args w
 ·exact Tryz.call12 args w
 ·exact Tryz.call13 args w
 ·exact Tryz.call14 args w
 ·exact Tryz.call15 args w
 ·exact Tryz.call16 args w
 ·exact Tryz.call17 args w
 ·exact Tryz.call18 args w
 ·exact Tryz.call19 args w
 ·exact Tryz.call20 args w
 ·exact Tryz.call21 args w
 ·exact Tryz.call22 args w
 ·exact Tryz.call23 args w
 ·exact Tryz.call24 args w
 ·exact Tryz.call25 args w
 ·exact Tryz.call26 args w
 ·exact Tryz.call27 args w
 ·exact Tryz.call28 args w
 ·exact Tryz.call29 args w
 ·exact Tryz.call30 args w
 ·exact Tryz.call31 args w
 ·exact Tryz.call35 args w
 ·exact Tryz.call36 args w
 ·exact Tryz.call38 args w
 ·exact Tryz.call39 args w
 ·exact Tryz.call40 args w
 ·exact Tryz.call41 args w
 ·exact Tryz.call42 args w
 ·exact Tryz.call44 args w
 ·exact Tryz.call45 args w
 ·exact Tryz.call46 args w
 ·exact Tryz.call47 args w
 ·exact Tryz.call48 args w
 ·exact Tryz.call49 args w
 ·exact Tryz.call50 args w
 ·exact Tryz.call52 args w
 ·exact Tryz.call55 args w
 ·exact Tryz.call56 args w
 ·exact Tryz.call57 args w
 ·exact Tryz.call58 args w
 ·exact Tryz.call59 args w
 ·exact Tryz.call60 args w
 ·exact Tryz.call61 args w
 ·exact Tryz.call62 args w
 ·exact Tryz.call63 args w
 ·exact Tryz.call65 args w
 ·exact Tryz.call66 args w
 ·exact Tryz.call67 args w
 ·exact Tryz.call68 args w
 ·exact Tryz.call69 args w
 ·exact Tryz.call70 args w
 ·exact Tryz.call71 args w
 ·exact Tryz.call72 args w
 ·exact Tryz.call73 args w
 ·exact Tryz.call74 args w
 ·exact Tryz.call76 args w
 ·exact Tryz.call77 args w
 ·exact Tryz.call78 args w
 ·exact Tryz.call81 args w
 ·exact Tryz.call83 args w
 ·exact Tryz.call84 args w
 ·exact Tryz.call85 args w
 ·exact Tryz.call87 args w
 ·exact Tryz.call88 args w
 ·exact Tryz.call89 args w
 ·exact Tryz.call92 args w
 ·exact Tryz.call93 args w
 ·exact Tryz.call94 args w
 ·exact Tryz.call96 args w
 ·exact Tryz.call98 args w
 ·exact Tryz.call99 args w
 ·exact Tryz.call100 args w
 ·exact Tryz.call101 args w
 ·exact Tryz.call102 args w
 ·exact Tryz.call103 args w
 ·exact Tryz.call105 args w
 ·exact Tryz.call106 args w
 ·exact Tryz.call107 args w
 ·exact Tryz.call108 args w
 ·exact Tryz.call109 args w
 ·exact Tryz.call110 args w
 ·exact Tryz.call111 args w
 ·exact Tryz.call112 args w
 ·exact Tryz.call113 args w
 ·exact Tryz.call114 args w
 ·exact Tryz.call115 args w
 ·exact Tryz.call117 args w
 ·exact Tryz.call121 args w
 ·exact Tryz.call123 args w
 ·exact Tryz.call124 args w
 ·exact Tryz.call126 args w
 ·exact Tryz.call127 args w
 ·exact Tryz.call128 args w
 ·exact Tryz.call129 args w
 ·exact Tryz.call130 args w
 ·exact Tryz.call131 args w
 ·exact Tryz.call132 args w
 ·exact Tryz.call134 args w
 ·exact Tryz.call135 args w
 ·exact Tryz.call138 args w
 ·exact Tryz.call141 args w
 ·exact Tryz.call142 args w
 ·exact Tryz.call144 args w
 ·exact Tryz.call148 args w
 ·exact Tryz.call149 args w
 ·exact Tryz.call150 args w
 ·exact Tryz.call151 args w
 ·exact Tryz.call152 args w
 ·exact Tryz.call154 args w
 ·exact Tryz.call155 args w
 ·exact Tryz.call156 args w
 ·exact Tryz.call157 args w
 ·exact Tryz.call162 args w
 ·exact Tryz.call163 args w
 ·exact Tryz.call164 args w
 ·exact Tryz.call165 args w
 ·exact Tryz.call168 args w
 ·exact Tryz.call169 args w
 ·exact Tryz.call171 args w
 ·exact Tryz.call177 args w
 ·exact Tryz.call178 args w
 ·exact Tryz.call179 args w
 ·exact Tryz.call192 args w
 ·exact Tryz.call193 args w
 ·exact Tryz.call194 args w
 ·exact Tryz.call206 args w
 ·exact Tryz.call207 args w
 ·exact Tryz.call208 args w
 ·exact Tryz.call209 args w
 ·exact Tryz.call216 args w
 ·exact Tryz.call231 args w
theorem chkEv2 : Ev.chk2 Tryz.prog = true := by kernel_rfl
theorem hsigEv : ∀ x ∈ Ev.hsig, Ent Tryz.prog x.1 := by
 intro x hx args w
 simp only [Ev, List.mem_cons, List.not_mem_nil, or_false] at hx
 rcases hx with rfl | rfl | rfl | rfl | rfl | rfl | rfl | rfl | rfl | rfl | rfl | rfl | rfl | rfl | rfl | rfl | rfl | rfl | rfl | rfl | rfl | rfl | rfl
 ·exact Tryz.call32 args w
 ·exact Tryz.call33 args w
 ·exact Tryz.call34 args w
 ·exact Tryz.call37 args w
 ·exact Tryz.call43 args w
 ·exact Tryz.call51 args w
 ·exact Tryz.call53 args w
 ·exact Tryz.call54 args w
 ·exact Tryz.call82 args w
 ·exact Tryz.call86 args w
 ·exact Tryz.call118 args w
 ·exact Tryz.call119 args w
 ·exact Tryz.call120 args w
 ·exact Tryz.call122 args w
 ·exact Tryz.call125 args w
 ·exact Tryz.call136 args w
 ·exact Tryz.call137 args w
 ·exact Tryz.call139 args w
 ·exact Tryz.call153 args w
 ·exact Tryz.call166 args w
 ·exact Tryz.call175 args w
 ·exact Tryz.call176 args w
 ·exact Tryz.call215 args w
theorem factsEv : Facts Tryz.prog Ev := zNn (by kernel_rfl) chkEv chkEv2 sigEv hsigEv
abbrev FD (A : Ann) (fn : Func) (ds : List D) (R : D → Prop) : Prop := fnD Tryz.prog Ev A fn.results.toList (bodyOf fn) ds R
abbrev FH (A : Ann) (fn : Func) (ds : List D) (hp : List (Nat × HObj)) (roots : List D) (own : Bool) (R : D → List (Nat × HObj) → Prop) : Prop := fnH Tryz.prog Ev A fn.results.toList (bodyOf fn) ds hp roots own R
def SatI (A : Ann) (fn : Func) (f : FuncId) (ds : List D) : Prop := ∀ {r : D}, ((∀ d ∈ ds, okD d) → FD A fn ds fun d => d = r) → Sat Tryz.prog f ds r
def SatHI (A : Ann) (fn : Func) (f : FuncId) (ds : List D) (hp : List (Nat × HObj)) (roots : List D) (own : Bool) : Prop := ∀ {r : D} {h0 : List (Nat × HObj)}, ((∀ d ∈ ds, okD d) → (∀ k o, look k hp = some o → okO o) → FH A fn ds hp roots own fun d h1 => d = r ∧ h1 = h0) → SatH Tryz.prog f ds hp r h0
theorem satD {A : Ann} {fn : Func} {f : FuncId} {ds : List D} (hf : Tryz.prog.funcs[f]? = some fn) (hb : fn.body = some (bodyOf fn)) (hn : fn.ntmps = A.n) (hl : Nat.ble ds.length A.n = true) : SatI A fn f ds := fun h => sat_of factsEv hf hb hn.symm (by rw [hn]; exact Nat.le_of_ble_eq_true hl) h
theorem satHD {A : Ann} {fn : Func} {f : FuncId} {ds : List D} {hp : List (Nat × HObj)} {roots : List D} {own : Bool} (hf : Tryz.prog.funcs[f]? = some fn) (hb : fn.body = some (bodyOf fn)) (hn : fn.ntmps = A.n) (hl : Nat.ble ds.length A.n = true) : SatHI A fn f ds hp roots own := fun h => satH_of factsEv hf hb hn.symm (by rw [hn]; exact Nat.le_of_ble_eq_true hl) h
abbrev LP (A : Ann) (fn : Func) (path : List Nat) (cur n : Nat) (σ : St) (K : Ex → St → Prop) : Prop := iter (den Tryz.prog Ev A (sub path (bodyOf fn)) cur) A (liveOf A cur) n σ K
abbrev sK (A : Ann) (fn : Func) (path : List Nat) (cur : Nat) (K : Ex → St → Prop) := seqK Tryz.prog Ev A (sub path (bodyOf fn)) cur K
abbrev iK (A : Ann) (fn : Func) (path : List Nat) (cur n : Nat) (K : Ex → St → Prop) := iterK (den Tryz.prog Ev A (sub path (bodyOf fn)) cur) A (liveOf A cur) n K
abbrev eK (fn : Func) (R : D → Prop) := endK Ev fn.results.toList R
abbrev eH (fn : Func) (roots : List D) (own : Bool) (R : D → List (Nat × HObj) → Prop) := endH Ev fn.results.toList roots own R
end Go.Proofs.YtajnbkhgnppckaaGreatDoor
