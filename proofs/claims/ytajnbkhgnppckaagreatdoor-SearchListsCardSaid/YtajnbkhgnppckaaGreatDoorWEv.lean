/- The types and the functions of the program that the walks need, read from its table: printed by a program. -/
import Derived.Test.YtajnbkhgnppckaaGreatDoorProg
import Derived.Test.YtajnbkhgnppckaaGreatDoorMD
namespace Go.Proofs.YtajnbkhgnppckaaGreatDoor
open Go.RowKit
set_option linter.unusedVariables false
set_option maxRecDepth 100000
abbrev z6y : FuncId := 2
abbrev z7y : FuncId := 3
abbrev z2j : FuncId := 4
abbrev z8y : FuncId := 5
abbrev z9y : FuncId := 6
abbrev zaz : FuncId := 7
abbrev zbz : FuncId := 8
abbrev zcz : FuncId := 9
abbrev z2c : FuncId := 10
abbrev z3c : FuncId := 11
abbrev z4c : FuncId := 12
abbrev zMp : FuncId := 13
abbrev zqc : FuncId := 14
abbrev zie : FuncId := 15
abbrev zje : FuncId := 16
abbrev z1b : FuncId := 17
abbrev zNp : FuncId := 18
abbrev zOp : FuncId := 19
abbrev zPp : FuncId := 20
abbrev zQp : FuncId := 21
abbrev zRp : FuncId := 22
abbrev zSp : FuncId := 23
abbrev zTp : FuncId := 24
abbrev zke : FuncId := 25
abbrev zUp : FuncId := 26
abbrev zVp : FuncId := 27
abbrev zWp : FuncId := 28
abbrev zXp : FuncId := 29
abbrev zYp : FuncId := 30
abbrev zle : FuncId := 31
abbrev zme : FuncId := 32
abbrev zne : FuncId := 33
abbrev zoe : FuncId := 34
abbrev z5c : FuncId := 35
abbrev z6c : FuncId := 36
abbrev z7c : FuncId := 37
abbrev zyb : FuncId := 38
abbrev zNh : FuncId := 39
abbrev zA : FuncId := 40
abbrev zpe : FuncId := 41
abbrev zZp : FuncId := 42
abbrev z0p : FuncId := 43
abbrev zqe : FuncId := 44
abbrev z1p : FuncId := 45
abbrev z2p : FuncId := 46
abbrev z3p : FuncId := 47
abbrev z4p : FuncId := 48
abbrev z5p : FuncId := 49
abbrev z6p : FuncId := 50
abbrev zre : FuncId := 51
abbrev zse : FuncId := 52
abbrev zrc : FuncId := 53
abbrev zte : FuncId := 54
abbrev zue : FuncId := 55
abbrev z8c : FuncId := 56
abbrev zve : FuncId := 57
abbrev zwe : FuncId := 58
abbrev zU : FuncId := 59
abbrev z6 : FuncId := 60
abbrev zf : FuncId := 61
abbrev z9c : FuncId := 62
abbrev zu : FuncId := 63
abbrev zxe : FuncId := 64
abbrev z7p : FuncId := 65
abbrev z8p : FuncId := 66
abbrev zye : FuncId := 67
abbrev z2b : FuncId := 68
abbrev zze : FuncId := 69
abbrev zsc : FuncId := 70
abbrev z9p : FuncId := 71
abbrev zaq : FuncId := 72
abbrev zbq : FuncId := 73
abbrev z3b : FuncId := 74
abbrev zdz : FuncId := 75
abbrev zad : FuncId := 76
abbrev z4b : FuncId := 77
abbrev zcq : FuncId := 78
abbrev zez : FuncId := 79
abbrev zAe : FuncId := 80
abbrev zbd : FuncId := 81
abbrev zBe : FuncId := 82
abbrev zCe : FuncId := 83
abbrev zDe : FuncId := 84
abbrev zcd : FuncId := 85
abbrev zEe : FuncId := 86
abbrev zFe : FuncId := 87
abbrev zOh : FuncId := 88
abbrev zGe : FuncId := 89
abbrev zHe : FuncId := 90
abbrev zdd : FuncId := 91
abbrev zgb : FuncId := 92
abbrev zIe : FuncId := 93
abbrev ztc : FuncId := 94
abbrev zJe : FuncId := 95
abbrev z7 : FuncId := 96
abbrev zKe : FuncId := 97
abbrev zzb : FuncId := 98
abbrev zAb : FuncId := 99
abbrev z5b : FuncId := 100
abbrev zI : FuncId := 101
abbrev z8 : FuncId := 102
abbrev zLe : FuncId := 103
abbrev zMe : FuncId := 104
abbrev zdq : FuncId := 105
abbrev zeq : FuncId := 106
abbrev zfq : FuncId := 107
abbrev zgq : FuncId := 108
abbrev zhq : FuncId := 109
abbrev ziq : FuncId := 110
abbrev zNe : FuncId := 111
abbrev zg : FuncId := 112
abbrev zhb : FuncId := 113
abbrev zBb : FuncId := 114
abbrev zCb : FuncId := 115
abbrev zOe : FuncId := 116
abbrev zV : FuncId := 117
abbrev zuc : FuncId := 118
abbrev zed : FuncId := 119
abbrev zfd : FuncId := 120
abbrev zjq : FuncId := 121
abbrev zPh : FuncId := 122
abbrev zgd : FuncId := 123
abbrev zPe : FuncId := 124
abbrev zQe : FuncId := 125
abbrev z6b : FuncId := 126
abbrev zkq : FuncId := 127
abbrev zlq : FuncId := 128
abbrev zmq : FuncId := 129
abbrev zRe : FuncId := 130
abbrev zSe : FuncId := 131
abbrev zvc : FuncId := 132
abbrev zDb : FuncId := 133
abbrev zTe : FuncId := 134
abbrev zUe : FuncId := 135
abbrev zwc : FuncId := 136
abbrev zVe : FuncId := 137
abbrev zWe : FuncId := 138
abbrev zXe : FuncId := 139
abbrev zib : FuncId := 140
abbrev zEb : FuncId := 141
abbrev zYe : FuncId := 142
abbrev zxc : FuncId := 143
abbrev zhd : FuncId := 144
abbrev zZe : FuncId := 145
abbrev z0e : FuncId := 146
abbrev zyc : FuncId := 147
abbrev z1e : FuncId := 148
abbrev znq : FuncId := 149
abbrev zoq : FuncId := 150
abbrev zpq : FuncId := 151
abbrev zqq : FuncId := 152
abbrev zrq : FuncId := 153
abbrev zsq : FuncId := 154
abbrev ztq : FuncId := 155
abbrev zuq : FuncId := 156
abbrev zvq : FuncId := 157
abbrev zfz : FuncId := 158
abbrev zgz : FuncId := 159
abbrev zhz : FuncId := 160
abbrev z2e : FuncId := 161
abbrev z3e : FuncId := 162
abbrev z4e : FuncId := 163
abbrev zwq : FuncId := 164
abbrev zxq : FuncId := 165
abbrev zv : FuncId := 166
abbrev zi : FuncId := 167
abbrev z5e : FuncId := 168
abbrev z6e : FuncId := 169
abbrev z7b : FuncId := 170
abbrev zid : FuncId := 171
abbrev z7e : FuncId := 172
abbrev z8e : FuncId := 173
abbrev z8b : FuncId := 174
abbrev z9e : FuncId := 175
abbrev zzc : FuncId := 176
abbrev zaf : FuncId := 177
abbrev zbf : FuncId := 178
abbrev zyq : FuncId := 179
abbrev ziz : FuncId := 180
abbrev zjz : FuncId := 181
abbrev zkz : FuncId := 182
abbrev zlz : FuncId := 183
abbrev zmz : FuncId := 184
abbrev znz : FuncId := 185
abbrev zoz : FuncId := 186
abbrev zpz : FuncId := 187
abbrev zqz : FuncId := 188
abbrev zrz : FuncId := 189
abbrev zsz : FuncId := 190
abbrev ztz : FuncId := 191
abbrev zjd : FuncId := 192
abbrev zkd : FuncId := 193
abbrev zzq : FuncId := 194
abbrev zcf : FuncId := 195
abbrev zuz : FuncId := 196
abbrev zvz : FuncId := 197
abbrev zwz : FuncId := 198
abbrev zxz : FuncId := 199
abbrev zyz : FuncId := 200
abbrev zzz : FuncId := 201
abbrev zAz : FuncId := 202
abbrev zBz : FuncId := 203
abbrev zCz : FuncId := 204
abbrev zDz : FuncId := 205
abbrev zAc : FuncId := 206
abbrev zdf : FuncId := 207
abbrev zAq : FuncId := 208
abbrev zBq : FuncId := 209
abbrev zEz : FuncId := 210
abbrev zFz : FuncId := 211
abbrev zGz : FuncId := 212
abbrev zHz : FuncId := 213
abbrev zIz : FuncId := 214
abbrev zQh : FuncId := 215
abbrev zef : FuncId := 216
abbrev zJz : FuncId := 217
abbrev zKz : FuncId := 218
abbrev zLz : FuncId := 219
abbrev zMz : FuncId := 220
abbrev zNz : FuncId := 221
abbrev zOz : FuncId := 222
abbrev zPz : FuncId := 223
abbrev zQz : FuncId := 224
abbrev zRz : FuncId := 225
abbrev zSz : FuncId := 226
abbrev zTz : FuncId := 227
abbrev zUz : FuncId := 228
abbrev zff : FuncId := 229
abbrev zgf : FuncId := 230
abbrev zCq : FuncId := 231
abbrev zVz : FuncId := 232
abbrev zWz : FuncId := 233
abbrev zXz : FuncId := 256
def Ev : TE where
 zs := [(3, (false, [dI 0])), (9, (false, [.str (⟨#[]⟩)])), (22, (false, [.nil])), (23, (false, [.nil])), (25, (true, [.sl .var ([] : List VarD), .sl .con ([] : List ConD), dI 0, dI 0])), (26, (false, [.nil])), (27, (false, [.nil])), (29, (true, [dI 0, .sl .int ([] : List Int), .sl .step ([] : List StepD)])), (37, (false, [.nil])), (46, (false, [.nil])), (47, (false, [.nil])), (55, (false, [.nil])), (63, (false, [.undef])), (71, (true, [dI 0, dI 0, .sl .lit ([] : List LitD)])), (74, (true, [.sl .var ([] : List VarD), .sl .con ([] : List ConD), dI 0, dI 0, .nil])), (76, (false, [.nil])), (79, (true, [.str (⟨#[]⟩), dI 0, dI 0])), (84, (true, [dI 0, .sl .int ([] : List Int), .sl .int ([] : List Int), dI 0, dS ([] : List (List Int)), .sl .lit ([] : List LitD)])), (86, (true, [dI 0, dI 0, dI 0])), (89, (true, [.undef, .slN .int ([] : List Int) true])), (97, (false, [.undef])), (99, (true, [.sl .var ([] : List VarD), .sl .con ([] : List ConD), dI 0, dI 0, .sl (.list .lit) ([] : List (List LitD)), dI 0, .nil, .nil, .undef])), (112, (false, [.undef])), (115, (false, [.undef])), (131, (true, [.sl .var ([] : List VarD), .sl .con ([] : List ConD), dI 0, dI 0, .sl (.list .lit) ([] : List (List LitD)), dS ([] : List (List Int)), .nil])), (151, (false, [.undef])), (164, (true, [dI 0, dI 0, dI 0, dI 0, dI 0])), (185, (false, [.undef])), (186, (false, [.undef])), (188, (true, [dI 0, .sl .int ([] : List Int), .sl .int ([] : List Int), dI 0, dS ([] : List (List Int)), .sl .lit ([] : List LitD), dS ([] : List (List Int)), .sl .int ([] : List Int), .sl .int ([] : List Int), .undef])), (190, (true, [dI 0, dI 0])), (191, (false, [.nil])), (193, (false, [.undef])), (195, (true, [dI 0, dI 0])), (201, (true, [dS ([] : List (List Int)), .sl .int ([] : List Int), .undef, .undef, dI 0])), (223, (true, [dI 0, dI 0, .str (⟨#[]⟩)])), (238, (true, [.str (⟨#[]⟩), dI 0]))]
 sl := [(22, (79, .var)), (23, (84, .con)), (26, (3, .int)), (27, (71, .step)), (37, (26, .list .int)), (46, (86, .lit)), (47, (86, .lit)), (55, (47, .list .lit)), (76, (26, .list .int)), (146, (9, .str)), (155, (46, .list .lit)), (191, (195, .term)), (219, (223, .tok))]
 fld := [(25, [(0, 1), (1, 1), (2, 1), (3, 1)]), (29, [(0, 1), (1, 1), (2, 1)]), (71, [(0, 1), (1, 1), (2, 1)]), (74, [(0, 4), (4, 1)]), (79, [(0, 1), (1, 1), (2, 1)]), (84, [(0, 1), (1, 1), (2, 1), (3, 1), (4, 1), (5, 1)]), (86, [(0, 1), (1, 1), (2, 1)]), (89, [(0, 1), (1, 1)]), (99, [(0, 4), (4, 1), (5, 1), (6, 1), (7, 1), (8, 1)]), (131, [(0, 4), (4, 1), (5, 1), (6, 1)]), (164, [(0, 1), (1, 1), (2, 1), (3, 1), (4, 1)]), (188, [(0, 6), (6, 1), (7, 1), (8, 1), (9, 1)]), (195, [(0, 1), (1, 1)]), (201, [(0, 1), (1, 1), (2, 1), (3, 1), (4, 1)]), (223, [(0, 1), (1, 1), (2, 1)]), (238, [(0, 1), (1, 1)])]
 strs := [9]
 ints := [(2, .i64), (3, .i64), (5, .u8), (6, .u8), (30, .i64), (205, .i64), (261, .u8), (262, .u8)]
 bools := [4]
 sig := [(z2c, [.ans, .int]), (z3c, [.bool]), (z4c, [.bool]), (zMp, [.bool]), (zqc, [.list (.list .int), .bool, .int]), (zie, [.int]), (zje, [.list (.list .int), .bool]), (z1b, [.bool]), (zNp, [.list .lit, .int]), (zOp, [.int]), (zPp, [.list .lit]), (zQp, [.bool]), (zRp, [.bool]), (zSp, [.ans, .int]), (zTp, [.bool]), (zke, [.bool]), (zUp, [.int]), (zVp, [.bool]), (zWp, [.int]), (zXp, [.bool]), (zYp, [.bool, .int]), (zle, [.int]), (z5c, [.mdl]), (z6c, [.int]), (zyb, [.list (.list .int)]), (zNh, [.bool]), (zA, [.bool]), (zpe, [.int]), (zZp, [.list .lit]), (zqe, [.bool]), (z1p, [.int]), (z2p, [.int]), (z3p, [.bool]), (z4p, [.bool, .int]), (z5p, [.list .int, .int]), (z6p, [.bool]), (zse, [.list .lit, .bool]), (zue, [.list .step]), (z8c, [.list .lit]), (zve, [.int]), (zwe, [.int]), (zU, [.bool]), (z6, [.list (.list .int)]), (zf, [.bool]), (z9c, [.int]), (zu, [.list (.list .int)]), (z7p, [.bool]), (z8p, [.bool]), (zye, [.bool]), (z2b, [.bool]), (zze, [.int]), (zsc, [.bool]), (z9p, [.bool]), (zaq, [.bool]), (zbq, [.int]), (z3b, [.bool]), (zad, [.bool]), (z4b, [.list .int]), (zcq, [.bool]), (zbd, [.bool]), (zCe, [.list .lit]), (zDe, [.str]), (zcd, [.list (.list .int)]), (zFe, [.lit]), (zOh, [.bool]), (zGe, [.bool]), (zgb, [.bool]), (zIe, [.bool]), (ztc, [.bool]), (z7, [.bool]), (zzb, [.list (.list .int)]), (zAb, [.list (.list .int)]), (z5b, [.list (.list .int)]), (zI, [.list (.list .int)]), (z8, [.bool]), (zLe, [.bool]), (zdq, [.int, .int]), (zeq, [.bool]), (zfq, [.list (.list .int)]), (zgq, [.list (.list .int)]), (zhq, [.list (.list .int)]), (ziq, [.list (.list .int)]), (zNe, [.int]), (zg, [.int]), (zhb, [.bool]), (zBb, [.bool]), (zCb, [.bool]), (zV, [.bool]), (zjq, [.int]), (zgd, [.str]), (zPe, [.list (.list .int)]), (z6b, [.bool]), (zkq, [.bool]), (zlq, [.bool]), (zmq, [.list .str]), (zRe, [.int]), (zSe, [.pr .int (.pr .int (.pr .int (.pr .int .int)))]), (zvc, [.bool]), (zTe, [.int]), (zUe, [.int]), (zWe, [.bool]), (zEb, [.bool]), (zYe, [.int]), (zhd, [.bool]), (z1e, [.int]), (znq, [.bool]), (zoq, [.bool]), (zpq, [.list .int]), (zqq, [.list (.list .int)]), (zsq, [.bool]), (ztq, [.bool]), (zuq, [.list (.list .int)]), (zvq, [.bool]), (z3e, [.list .lit, .bool]), (z4e, [.list .lit, .bool]), (zwq, [.bool]), (zxq, [.int]), (z5e, [.list .term]), (z6e, [.list .int]), (zid, [.int]), (zaf, [.int]), (zbf, [.int]), (zyq, [.int]), (zjd, [.list .lit]), (zkd, [.list .lit]), (zzq, [.list .tok, .int, .int]), (zAc, [.list .lit]), (zdf, [.bool]), (zAq, []), (zBq, [.tok, .int]), (zef, [.list (.list .int)]), (zCq, [.int])]
 mps := [(97, (.str, .int)), (151, (.int, .int)), (186, (.pr .int .int, .int)), (193, (.int, .list .int))]
 sts := [(86, .lit)]
 hsig := [(zme, { tys := [.mdl, .int], nils := [], datas := [], res := fun xs _ => match xs with | [.agg y0, y1] => some (.ptr 3000 0, [(3000, .cells (y0 ++ [.sl (.list .lit) [], y1, .nil, .nil, .own 3001])), (3001, .mp .str .int [])]) | _ => none }),
  (zne, { tys := [.int, .list (.list .lit), .list .step, .list (.pr .str .int), .list .int, .int], nils := [(0, (6, (47, .list .lit))), (0, (7, (71, .step)))], datas := [], res := fun xs ob => match xs, ob 1000, ob 2000, ob 2001, ob 1001 with | [y0, .sl (.list .lit) y1, .sl .step y2, .sl (.pr .str .int) y3, y4, y5], some (.cells o1000), some o2000, some o2001, some o1001 => some (.tup [y4, y5], [(1000, .cells (o1000.set 5 y0)), (2000, .row 47 (.list .lit) y1), (2001, .row 71 .step y2), (1001, .mp .str .int y3)]) | _, _, _, _, _ => none }),
  (zoe, { tys := [.list .step, .bool], nils := [(0, (6, (47, .list .lit))), (0, (7, (71, .step)))], datas := [], res := fun xs ob => match xs, ob 1000, ob 2000, ob 2001, ob 1001 with | [y0, y1], some (.cells o1000), some o2000, some o2001, some o1001 => some (.tup [y0, y1], [(1000, .cells (o1000.set 7 y0)), (2000, o2000), (1001, o1001)]) | _, _, _, _, _ => none }),
  (z7c, { tys := [.bool, .list (.list .int)], nils := [(0, (4, (26, .list .int)))], datas := [], res := fun xs ob => match xs, ob 1000, ob 2000 with | [y0, .sl (.list .int) y1], some o1000, some o2000 => some (y0, [(1000, o1000), (2000, .row 26 (.list .int) y1)]) | _, _, _ => none }),
  (z0p, { tys := [.int, .list .int, .bool, .list (.list .lit), .int, .list (.list .lit), .list .step, .list (.pr .str .int)], nils := [(1, (6, (47, .list .lit))), (1, (7, (71, .step)))], datas := [], res := fun xs ob => match xs, ob 1000, ob 1001, ob 2000, ob 2001, ob 1002 with | [y0, .sl .int y1, .bool y2, y3, y4, .sl (.list .lit) y5, .sl .step y6, .sl (.pr .str .int) y7], some (.cells o1000), some (.cells o1001), some o2000, some o2001, some o1002 => some (y0, [(1000, .cells (o1000.set 1 (.slN .int y1 y2))), (1001, .cells ((o1001.set 4 y3).set 5 y4)), (2000, .row 47 (.list .lit) y5), (2001, .row 71 .step y6), (1002, .mp .str .int y7)]) | _, _, _, _, _, _ => none }),
  (zre, { tys := [.list .lit, .bool, .list .int], nils := [(0, (6, (47, .list .lit))), (0, (7, (71, .step)))], datas := [], res := fun xs ob => match xs, ob 1000, ob 2000, ob 2001, ob 1001 with | [.sl .lit y0, .bool y1, y2], some o1000, some o2000, some o2001, some o1001 => some (.tup [(.slN .lit y0 y1), y2], [(1000, o1000), (2000, o2000), (2001, o2001), (1001, o1001)]) | _, _, _, _, _ => none }),
  (zrc, { tys := [.list (.list .lit)], nils := [(0, (6, (47, .list .lit))), (0, (7, (71, .step)))], datas := [], res := fun xs ob => match xs, ob 1000, ob 2000, ob 2001, ob 1001 with | [y0], some o1000, some o2000, some o2001, some o1001 => some (y0, [(1000, o1000), (2000, o2000), (2001, o2001), (1001, o1001)]) | _, _, _, _, _ => none }),
  (zte, { tys := [.list .step, .list (.pr .str .int)], nils := [(0, (6, (47, .list .lit))), (0, (7, (71, .step)))], datas := [], res := fun xs ob => match xs, ob 1000, ob 2000, ob 2001, ob 1001 with | [.sl .step y0, .sl (.pr .str .int) y1], some o1000, some o2000, some o2001, some o1001 => some (.tup [], [(1000, o1000), (2000, o2000), (2001, .row 71 .step y0), (1001, .mp .str .int y1)]) | _, _, _, _, _ => none }),
  (zBe, { tys := [.list .lit], nils := [], datas := [], res := fun xs ob => match xs with | [.sl .lit y0] => some (.own 3000, [(3000, .row 86 .lit y0)]) | _ => none }),
  (zEe, { tys := [.list (.list .int), .list .step], nils := [(0, (6, (71, .step)))], datas := [], res := fun xs ob => match xs, ob 1000, ob 2000 with | [y0, .sl .step y1], some (.cells o1000), some o2000 => some (.tup [], [(1000, .cells (o1000.set 5 y0)), (2000, .row 71 .step y1)]) | _, _, _ => none }),
  (zuc, { tys := [.list .int], nils := [], datas := [], res := fun xs ob => match xs with | [.sl .int y0] => some (.own 3000, [(3000, .row 3 .int y0)]) | _ => none }),
  (zed, { tys := [.list .int], nils := [], datas := [], res := fun xs ob => match xs, ob 1000 with | [.sl .int y0], some o1000 => some (.tup [], [(1000, .row 3 .int y0)]) | _, _ => none }),
  (zfd, { tys := [.list .int], nils := [], datas := [], res := fun xs ob => match xs, ob 1000 with | [y0], some o1000 => some (y0, []) | _, _ => none }),
  (zPh, { tys := [.list .lit], nils := [], datas := [], res := fun xs ob => match xs with | [.sl .lit y0] => some (.own 3000, [(3000, .row 86 .lit y0)]) | _ => none, raw := true }),
  (zQe, { tys := [.bool, .list (.list .int), .list .step], nils := [(0, (6, (71, .step)))], datas := [], res := fun xs ob => match xs, ob 1000, ob 2000 with | [y0, y1, .sl .step y2], some (.cells o1000), some o2000 => some (y0, [(1000, .cells (o1000.set 5 y1)), (2000, .row 71 .step y2)]) | _, _, _ => none }),
  (zwc, { tys := [.con, .list (.list .int), .list .int, .list .int, .list (.pr (.pr .int .int) .int)], nils := [], datas := [], res := fun xs _ => match xs with | [.agg y0, y1, y2, y3, .sl (.pr (.pr .int .int) .int) y4] => some (.clo 167 none [.iptr [.iptr (y0 ++ [y1, y2, y3, .mp (.pr .int .int) .int y4]) 0] 0], []) | _ => none }),
  (zVe, { tys := [.list .term, .list (.pr .int (.list .int)), .con], nils := [], datas := [], res := fun xs _ => match xs with | [y0, .sl (.pr .int (.list .int)) y1, .agg y2] => some (.clo 170 none [.iptr [y0] 0, .iptr [.mp .int (.list .int) y1] 0, .iptr y2 0], []) | _ => none }),
  (zXe, { tys := [.list (.list .int), .con], nils := [], datas := [], res := fun xs _ => match xs with | [y0, .agg y1] => some (.clo 174 none [.iptr [y0] 0, .iptr y1 0], []) | _ => none }),
  (zrq, { tys := [.bool, .list .int], nils := [], datas := [], res := fun xs ob => match xs, ob 1000 with | [y0, .sl .int y1], some o1000 => some (y0, [(1000, .row 3 .int y1)]) | _, _ => none }),
  (zv, { tys := [.list .int, .list (.pr (.pr .int .int) .int)], nils := [], datas := [], res := fun xs ob => match xs, ob 1000, ob 2000, ob 1001 with | [.sl .int y0, .sl (.pr (.pr .int .int) .int) y1], some o1000, some o2000, some o1001 => some (.tup [], [(1000, o1000), (2000, .row 3 .int y0), (1001, .mp (.pr .int .int) .int y1)]) | _, _, _, _ => none }),
  (z9e, { tys := [.list (.list .int)], nils := [], datas := [], res := fun xs ob => match xs with | [.sl (.list .int) y0] => some (.own 3000, [(3000, .row 26 (.list .int) y0)]) | _ => none }),
  (zzc, { tys := [.bool, .list (.pr .int .int), .list (.pr .int .int)], nils := [], datas := [(0, 0)], res := fun xs ob => match xs, ob 1000, ob 1001, ob 1002 with | [y0, .sl (.pr .int .int) y1, .sl (.pr .int .int) y2], some o1000, some o1001, some o1002 => some (y0, [(1000, o1000), (1001, .mp .int .int y1), (1002, .mp .int .int y2)]) | _, _, _, _ => none }),
  (zQh, { tys := [.list .lit], nils := [], datas := [], res := fun xs ob => match xs with | [.sl .lit y0] => some (.own 3000, [(3000, .row 86 .lit y0)]) | _ => none, raw := true })]
 vals := [74, 89, 99, 131, 188, 201]
 arr := [190]
theorem chkEv : Ev.chk Tryz.prog = true := by kernel_rfl
theorem sigEv : ∀ x ∈ Ev.sig, ∀ args w, (callFunc x.1 args).run Tryz.prog w = .ok (.enter x.1 args) w := by
 intro x hx args w
 simp only [Ev, List.mem_cons, List.not_mem_nil, or_false] at hx
 rcases hx with rfl | rfl | rfl | rfl | rfl | rfl | rfl | rfl | rfl | rfl | rfl | rfl | rfl | rfl | rfl | rfl | rfl | rfl | rfl | rfl | rfl | rfl | rfl | rfl | rfl | rfl | rfl | rfl | rfl | rfl | rfl | rfl | rfl | rfl | rfl | rfl | rfl | rfl | rfl | rfl | rfl | rfl | rfl | rfl | rfl | rfl | rfl | rfl | rfl | rfl | rfl | rfl | rfl | rfl | rfl | rfl | rfl | rfl | rfl | rfl | rfl | rfl | rfl | rfl | rfl | rfl | rfl | rfl | rfl | rfl | rfl | rfl | rfl | rfl | rfl | rfl | rfl | rfl | rfl | rfl | rfl | rfl | rfl | rfl | rfl | rfl | rfl | rfl | rfl | rfl | rfl | rfl | rfl | rfl | rfl | rfl | rfl | rfl | rfl | rfl | rfl | rfl | rfl | rfl | rfl | rfl | rfl | rfl | rfl | rfl | rfl | rfl | rfl | rfl | rfl | rfl | rfl | rfl | rfl | rfl | rfl | rfl | rfl | rfl | rfl | rfl | rfl | rfl | rfl | rfl | rfl | rfl
 ·exact Tryz.call10 args w
 ·exact Tryz.call11 args w
 ·exact Tryz.call12 args w
 ·exact Tryz.call13 args w
 ·exact Tryz.call14 args w
 ·exact Tryz.call15 args w
 ·exact Tryz.call16 args w
 ·exact Tryz.call17 args w
 ·exact Tryz.call18 args w
 ·exact Tryz.call19 args w
 ·exact Tryz.call20 args w
 ·exact Tryz.call21 args w
 ·exact Tryz.call22 args w
 ·exact Tryz.call23 args w
 ·exact Tryz.call24 args w
 ·exact Tryz.call25 args w
 ·exact Tryz.call26 args w
 ·exact Tryz.call27 args w
 ·exact Tryz.call28 args w
 ·exact Tryz.call29 args w
 ·exact Tryz.call30 args w
 ·exact Tryz.call31 args w
 ·exact Tryz.call35 args w
 ·exact Tryz.call36 args w
 ·exact Tryz.call38 args w
 ·exact Tryz.call39 args w
 ·exact Tryz.call40 args w
 ·exact Tryz.call41 args w
 ·exact Tryz.call42 args w
 ·exact Tryz.call44 args w
 ·exact Tryz.call45 args w
 ·exact Tryz.call46 args w
 ·exact Tryz.call47 args w
 ·exact Tryz.call48 args w
 ·exact Tryz.call49 args w
 ·exact Tryz.call50 args w
 ·exact Tryz.call52 args w
 ·exact Tryz.call55 args w
 ·exact Tryz.call56 args w
 ·exact Tryz.call57 args w
 ·exact Tryz.call58 args w
 ·exact Tryz.call59 args w
 ·exact Tryz.call60 args w
 ·exact Tryz.call61 args w
 ·exact Tryz.call62 args w
 ·exact Tryz.call63 args w
 ·exact Tryz.call65 args w
 ·exact Tryz.call66 args w
 ·exact Tryz.call67 args w
 ·exact Tryz.call68 args w
 ·exact Tryz.call69 args w
 ·exact Tryz.call70 args w
 ·exact Tryz.call71 args w
 ·exact Tryz.call72 args w
 ·exact Tryz.call73 args w
 ·exact Tryz.call74 args w
 ·exact Tryz.call76 args w
 ·exact Tryz.call77 args w
 ·exact Tryz.call78 args w
 ·exact Tryz.call81 args w
 ·exact Tryz.call83 args w
 ·exact Tryz.call84 args w
 ·exact Tryz.call85 args w
 ·exact Tryz.call87 args w
 ·exact Tryz.call88 args w
 ·exact Tryz.call89 args w
 ·exact Tryz.call92 args w
 ·exact Tryz.call93 args w
 ·exact Tryz.call94 args w
 ·exact Tryz.call96 args w
 ·exact Tryz.call98 args w
 ·exact Tryz.call99 args w
 ·exact Tryz.call100 args w
 ·exact Tryz.call101 args w
 ·exact Tryz.call102 args w
 ·exact Tryz.call103 args w
 ·exact Tryz.call105 args w
 ·exact Tryz.call106 args w
 ·exact Tryz.call107 args w
 ·exact Tryz.call108 args w
 ·exact Tryz.call109 args w
 ·exact Tryz.call110 args w
 ·exact Tryz.call111 args w
 ·exact Tryz.call112 args w
 ·exact Tryz.call113 args w
 ·exact Tryz.call114 args w
 ·exact Tryz.call115 args w
 ·exact Tryz.call117 args w
 ·exact Tryz.call121 args w
 ·exact Tryz.call123 args w
 ·exact Tryz.call124 args w
 ·exact Tryz.call126 args w
 ·exact Tryz.call127 args w
 ·exact Tryz.call128 args w
 ·exact Tryz.call129 args w
 ·exact Tryz.call130 args w
 ·exact Tryz.call131 args w
 ·exact Tryz.call132 args w
 ·exact Tryz.call134 args w
 ·exact Tryz.call135 args w
 ·exact Tryz.call138 args w
 ·exact Tryz.call141 args w
 ·exact Tryz.call142 args w
 ·exact Tryz.call144 args w
 ·exact Tryz.call148 args w
 ·exact Tryz.call149 args w
 ·exact Tryz.call150 args w
 ·exact Tryz.call151 args w
 ·exact Tryz.call152 args w
 ·exact Tryz.call154 args w
 ·exact Tryz.call155 args w
 ·exact Tryz.call156 args w
 ·exact Tryz.call157 args w
 ·exact Tryz.call162 args w
 ·exact Tryz.call163 args w
 ·exact Tryz.call164 args w
 ·exact Tryz.call165 args w
 ·exact Tryz.call168 args w
 ·exact Tryz.call169 args w
 ·exact Tryz.call171 args w
 ·exact Tryz.call177 args w
 ·exact Tryz.call178 args w
 ·exact Tryz.call179 args w
 ·exact Tryz.call192 args w
 ·exact Tryz.call193 args w
 ·exact Tryz.call194 args w
 ·exact Tryz.call206 args w
 ·exact Tryz.call207 args w
 ·exact Tryz.call208 args w
 ·exact Tryz.call209 args w
 ·exact Tryz.call216 args w
 ·exact Tryz.call231 args w
theorem chkEv2 : Ev.chk2 Tryz.prog = true := by kernel_rfl
theorem hsigEv : ∀ x ∈ Ev.hsig, Ent Tryz.prog x.1 := by
 intro x hx args w
 simp only [Ev, List.mem_cons, List.not_mem_nil, or_false] at hx
 rcases hx with rfl | rfl | rfl | rfl | rfl | rfl | rfl | rfl | rfl | rfl | rfl | rfl | rfl | rfl | rfl | rfl | rfl | rfl | rfl | rfl | rfl | rfl | rfl
 ·exact Tryz.call32 args w
 ·exact Tryz.call33 args w
 ·exact Tryz.call34 args w
 ·exact Tryz.call37 args w
 ·exact Tryz.call43 args w
 ·exact Tryz.call51 args w
 ·exact Tryz.call53 args w
 ·exact Tryz.call54 args w
 ·exact Tryz.call82 args w
 ·exact Tryz.call86 args w
 ·exact Tryz.call118 args w
 ·exact Tryz.call119 args w
 ·exact Tryz.call120 args w
 ·exact Tryz.call122 args w
 ·exact Tryz.call125 args w
 ·exact Tryz.call136 args w
 ·exact Tryz.call137 args w
 ·exact Tryz.call139 args w
 ·exact Tryz.call153 args w
 ·exact Tryz.call166 args w
 ·exact Tryz.call175 args w
 ·exact Tryz.call176 args w
 ·exact Tryz.call215 args w
theorem factsEv : Facts Tryz.prog Ev := z4o (by kernel_rfl) chkEv chkEv2 sigEv hsigEv
abbrev FD (A : Ann) (fn : Func) (ds : List D) (R : D → Prop) : Prop := fnD Tryz.prog Ev A fn.results.toList (bodyOf fn) ds R
abbrev FH (A : Ann) (fn : Func) (ds : List D) (hp : List (Nat × HObj)) (roots : List D) (own : Bool) (R : D → List (Nat × HObj) → Prop) : Prop := fnH Tryz.prog Ev A fn.results.toList (bodyOf fn) ds hp roots own R
def SatI (A : Ann) (fn : Func) (f : FuncId) (ds : List D) : Prop := ∀ {r : D}, ((∀ d ∈ ds, okD d) → FD A fn ds fun d => d = r) → Sat Tryz.prog f ds r
def SatHI (A : Ann) (fn : Func) (f : FuncId) (ds : List D) (hp : List (Nat × HObj)) (roots : List D) (own : Bool) : Prop := ∀ {r : D} {h0 : List (Nat × HObj)}, ((∀ d ∈ ds, okD d) → (∀ k o, look k hp = some o → okO o) → FH A fn ds hp roots own fun d h1 => d = r ∧ h1 = h0) → SatH Tryz.prog f ds hp r h0
theorem satD {A : Ann} {fn : Func} {f : FuncId} {ds : List D} (hf : Tryz.prog.funcs[f]? = some fn) (hb : fn.body = some (bodyOf fn)) (hn : fn.ntmps = A.n) (hl : Nat.ble ds.length A.n = true) : SatI A fn f ds := fun h => sat_of factsEv hf hb hn.symm (by rw [hn]; exact Nat.le_of_ble_eq_true hl) h
theorem satHD {A : Ann} {fn : Func} {f : FuncId} {ds : List D} {hp : List (Nat × HObj)} {roots : List D} {own : Bool} (hf : Tryz.prog.funcs[f]? = some fn) (hb : fn.body = some (bodyOf fn)) (hn : fn.ntmps = A.n) (hl : Nat.ble ds.length A.n = true) : SatHI A fn f ds hp roots own := fun h => satH_of factsEv hf hb hn.symm (by rw [hn]; exact Nat.le_of_ble_eq_true hl) h
abbrev LP (A : Ann) (fn : Func) (path : List Nat) (cur n : Nat) (σ : St) (K : Ex → St → Prop) : Prop := iter (den Tryz.prog Ev A (sub path (bodyOf fn)) cur) A (liveOf A cur) n σ K
abbrev sK (A : Ann) (fn : Func) (path : List Nat) (cur : Nat) (K : Ex → St → Prop) := seqK Tryz.prog Ev A (sub path (bodyOf fn)) cur K
abbrev iK (A : Ann) (fn : Func) (path : List Nat) (cur n : Nat) (K : Ex → St → Prop) := iterK (den Tryz.prog Ev A (sub path (bodyOf fn)) cur) A (liveOf A cur) n K
abbrev eK (fn : Func) (R : D → Prop) := endK Ev fn.results.toList R
abbrev eH (fn : Func) (roots : List D) (own : Bool) (R : D → List (Nat × HObj) → Prop) := endH Ev fn.results.toList roots own R
end Go.Proofs.YtajnbkhgnppckaaGreatDoor
